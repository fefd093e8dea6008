/- The law TableOwn, in plain words: true at every input. No condition. -/
import Derived.Test.YtkfahinbpmhcgaaPtc
import Derived.Test.YtkfahinbpmhcgaaGdTableOwn
set_option linter.unusedSimpArgs false
set_option linter.unusedVariables false
namespace Go.Proofs.Ytkfahinbpmhcgaa
open Go.RowKit

theorem own_l1 (l : List Int) (hl : l.length ≤ 100) : L_law04_TableOwn_l1 (((l.length : Int) - 0).toNat + 1) 0 l = some () :=
  loopI (F := fun nf k (m : List Int) => L_law04_TableOwn_l1 nf k m) (len := l.length) (fun _ m => m.length = l.length) (fun _ _ => some ())
    (fun nf m hm => by rw [L_law04_TableOwn_l1, if_neg (by omega)])
    (fun nf k m hk hm ih => by
      rw [L_law04_TableOwn_l1, if_pos (by omega), at_get (by omega), Option.bind_some, wr_succ (by omega)]
      exact ih _ (by rw [List.length_set, hm])) l.length _ 0 l (by omega) (by omega) rfl
theorem own_l2 (l : List TSend) (hl : l.length ≤ 100) : L_law04_TableOwn_l2 (((l.length : Int) - 0).toNat + 1) 0 l = some () :=
  loopI (F := fun nf k (m : List TSend) => L_law04_TableOwn_l2 nf k m) (len := l.length) (fun _ m => m.length = l.length) (fun _ _ => some ())
    (fun nf m hm => by rw [L_law04_TableOwn_l2, if_neg (by omega)])
    (fun nf k m hk hm ih => by
      rw [L_law04_TableOwn_l2, if_pos (by omega), at_get (by omega), Option.bind_some, wr_succ (by omega)]
      exact ih _ (by rw [List.length_set, hm])) l.length _ 0 l (by omega) (by omega) rfl
theorem own_l3 (r : TPick × Bool) (hl : r.1.Sends.length ≤ 100) : L_law04_TableOwn_l3 r (((r.1.Sends.length : Int) - 0).toNat + 1) 0 = some () :=
  loopI (σ := Unit) (F := fun nf k _ => L_law04_TableOwn_l3 r nf k) (len := r.1.Sends.length) (fun _ _ => True) (fun _ _ => some ())
    (fun nf m hm => by rw [L_law04_TableOwn_l3, if_neg (by omega)])
    (fun nf k m hk hm ih => by
      rw [L_law04_TableOwn_l3, if_pos (by omega), at_get (by omega), Option.bind_some, if_pos rfl, wr_succ (by omega)]
      exact ih () trivial) r.1.Sends.length _ 0 () (by omega) (by omega) trivial
theorem tableOwn_true (a0 : List TNode) (a1 : TGraph) (a2 : A3I) (w0 : (wL 32 wTNode) a0) (w1 : wTGraph a1) (w2 : wA3I a2) : L_law04_TableOwn a0 a1 a2 = some true := by
  classical
  unfold L_law04_TableOwn
  rw [law_cutL, Option.bind_some, law_cut, Option.bind_some]
  have hl := cutL_sz a0
  have hlen := cut_len a1
  generalize cutL a0 = l at hl
  generalize (⟨a1.N, a1.Links.take 40⟩ : TGraph) = g at hlen
  rw [law_refL hl, Option.bind_some, law_ref, Option.bind_some, ref_tright (by omega) hl, Option.bind_some]
  by_cases hR : TRightP l g
  · rw [if_pos (dT hR), table_waits hl, Option.bind_some, table_picked hl, Option.bind_some]
    have hz := stOf_sz hl a2.a0 a2.a1
    generalize stOf l a2.a0 a2.a1 = st at hz
    have hw := hz.1
    have hp : ((pickOf st a2.a2).getD ⟨0, []⟩).Sends.length ≤ 100 := by
      cases h : pickOf st a2.a2 with
      | none => simp
      | some p =>
        unfold pickOf at h
        split at h
        · exact hz.2.2.1 p (List.mem_of_getElem? h)
        · cases h
    generalize (pickOf st a2.a2).getD ⟨0, []⟩ = p at hp
    rw [if_pos (by omega), if_pos (by dsimp only; omega), own_l1 _ (by omega), Option.bind_some, own_l2 _ (by omega), Option.bind_some, if_pos rfl, if_pos rfl, ints_same (by omega), Option.bind_some, if_pos rfl, own_l3 _ (by omega), Option.bind_some, table_right (by omega) hl, Option.bind_some, if_pos (dT hR), fixed04]
    rfl
  · rw [if_neg (by rw [dF hR]; decide), table_right (by omega) hl, Option.bind_some, if_neg (by rw [dF hR]; decide), fixed04]
    rfl
end Go.Proofs.Ytkfahinbpmhcgaa
