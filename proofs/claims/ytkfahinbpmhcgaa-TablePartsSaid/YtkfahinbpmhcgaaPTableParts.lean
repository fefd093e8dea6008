/- The law TableParts, in plain words: true at every input. No condition. -/
import Derived.Test.YtkfahinbpmhcgaaPtc
import Derived.Test.YtkfahinbpmhcgaaGdTableParts
set_option linter.unusedSimpArgs false
set_option linter.unusedVariables false
namespace Go.Proofs.Ytkfahinbpmhcgaa
open Go.RowKit

section
variable {l : List TNode} {g : TGraph} {n s : Nat} {x : TNode}
theorem parts_l4 (hs : g.Links.length ≤ 1000) (r : TPick × Bool) (hr : r.1.Sends.length ≤ 100) (h : ∀ z ∈ r.1.Sends, SendP g (n : Int) z) : L_law04_TableParts_l4 (n : Int) r g (((r.1.Sends.length : Int) - 0).toNat + 1) 0 = some () := by
  refine loopI (σ := Unit) (F := fun nf k _ => L_law04_TableParts_l4 (n : Int) r g nf k) (len := r.1.Sends.length) (fun _ _ => True) (fun _ _ => some ())
    (fun nf _ _ => by rw [L_law04_TableParts_l4, if_neg (by omega)])
    (fun nf k _ hk _ ih => by
      have := (h _ (List.getElem_mem hk)).1
      rw [L_law04_TableParts_l4, if_pos (by omega), at_get hk, Option.bind_some, ref_find _ _ hs, Option.bind_some, if_neg (by omega), wr_succ (by omega)]
      exact ih () trivial) r.1.Sends.length _ 0 () (by omega) (by omega) trivial
theorem parts_l3 (hs : g.Links.length ≤ 1000) (hl : SzL l) (hx : l[n]? = some x) (hp : NodeP g (n : Int) x) (hss : s < x.States.length) : L_law04_TableParts_l3 (n : Int) (s : Int) x.States[s].Mode l g x (((5 : Int) - 0).toNat + 1) 0 = some () := by
  have hst := hp.2.2.2.2 _ (List.getElem_mem hss)
  have hz := ((hl.2 _ (List.mem_of_getElem? hx)).2 _ (List.getElem_mem hss)).2.2.1
  refine loopI (σ := Unit) (F := fun nf k _ => L_law04_TableParts_l3 (n : Int) (s : Int) x.States[s].Mode l g x nf k) (len := 5) (fun _ _ => True) (fun _ _ => some ())
    (fun nf _ _ => by rw [L_law04_TableParts_l3, if_neg (by omega)])
    (fun nf k _ hk _ ih => by
      rw [L_law04_TableParts_l3, if_pos (by omega), table_picked hl, Option.bind_some, stOf_at hx hss, wr_succ (by omega), pickOf_nat]
      cases hpk : x.States[s].Picks[k]? with
      | none =>
        dsimp only [Option.getD_none, Option.isSome_none]
        rw [if_neg (by decide), if_pos rfl, Option.bind_some, if_neg (by simp), parts_l4 hs _ (by simp) (by simp), Option.bind_some, Option.bind_some]
        exact ih () trivial
      | some p =>
        have hm := List.mem_of_getElem? hpk
        have hk4 := (List.getElem?_eq_some_iff.1 hpk).1
        obtain ⟨q1, q2, q3⟩ := hst.2.2.2.1
        obtain ⟨r1, r2, r3, r4⟩ := q3 p hm
        have h1 : x.States[s].Mode = 1 := by
          rcases q2 with q | q
          · exact q
          · rw [q] at hm; simp at hm
        dsimp only [Option.getD_some, Option.isSome_some]
        rw [if_pos rfl, if_pos h1, if_neg (by omega), if_neg (by omega), if_neg (by omega), Option.bind_some, if_neg (by decide), parts_l4 hs _ (hz p hm) r4, Option.bind_some, Option.bind_some]
        exact ih () trivial) 5 _ 0 () (by omega) (by omega) trivial
theorem parts_l5 (hs : g.Links.length ≤ 1000) (hN : g.N ≤ 6) (hl : SzL l) (hx : l[n]? = some x) (hp : NodeP g (n : Int) x) (hss : s < x.States.length) : L_law04_TableParts_l5 (n : Int) (s : Int) l g g x ((g.N - 0).toNat + 1) 0 = some () := by
  refine loopI (σ := Unit) (F := fun nf k _ => L_law04_TableParts_l5 (n : Int) (s : Int) l g g x nf k) (len := g.N.toNat) (fun _ _ => True) (fun _ _ => some ())
    (fun nf _ _ => by rw [L_law04_TableParts_l5, if_neg (by omega)])
    (fun nf k _ hk _ ih => by
      obtain ⟨s', e, hs', hc⟩ := hp.taken hss (k : Int) ((s : Int).tmod 4)
      rw [L_law04_TableParts_l5, if_pos (by omega), table_taken hl, Option.bind_some, stOf_at hx hss, e, if_neg (by omega), if_neg (by omega), ref_find _ _ hs, Option.bind_some, wr_succ (by omega)]
      have e2 : (if find g (k : Int) (n : Int) < 0 then some (!decide ((s' : Int) = (s : Int))) else some false) = some false := by
        split
        · rename_i hf
          rcases hc with ⟨rfl, _⟩ | ⟨t, _, _, _, _, h0, _⟩
          · simp
          · omega
        · rfl
      rw [e2, Option.bind_some, if_neg (by decide)]
      exact ih () trivial) g.N.toNat _ 0 () (by omega) (by omega) trivial
theorem parts_l2 (hs : g.Links.length ≤ 1000) (hN : g.N ≤ 6) (hl : SzL l) (hx : l[n]? = some x) (hp : NodeP g (n : Int) x) : L_law04_TableParts_l2 (n : Int) l g g x (((x.States.length : Int) - 0).toNat + 1) 0 = some () := by
  have h8 := hp.2.1
  refine loopI (σ := Unit) (F := fun nf k _ => L_law04_TableParts_l2 (n : Int) l g g x nf k) (len := x.States.length) (fun _ _ => True) (fun _ _ => some ())
    (fun nf _ _ => by rw [L_law04_TableParts_l2, if_neg (by omega)])
    (fun nf k _ hk _ ih => by
      have hst := hp.2.2.2.2 _ (List.getElem_mem hk)
      rw [L_law04_TableParts_l2, if_pos (by omega), table_mode, Option.bind_some, stOf_at hx hk, if_neg (by have := hst.1; omega), if_neg (by have := hst.2.1; omega), table_waits hl, Option.bind_some, stOf_at hx hk, if_pos, parts_l3 hs hl hx hp hk, Option.bind_some, parts_l5 hs hN hl hx hp hk, Option.bind_some, Option.bind_some, wr_succ (by omega)]
      · exact ih () trivial
      · refine ddec ⟨fun hm => ?_, fun h0 => ?_⟩
        · have := (hst.2.2.1.1 hm).1
          rcases Nat.eq_zero_or_pos x.States[k].Waits.length with h0 | h0
          · exact absurd (List.eq_nil_of_length_eq_zero h0) this
          · omega
        · by_cases hm : x.States[k].Mode = 2
          · exact hm
          · rw [hst.2.2.1.2 hm] at h0
            simp at h0) x.States.length _ 0 () (by omega) (by omega) trivial
end
theorem tableParts_true (a0 : List TNode) (a1 : TGraph) (w0 : (wL 32 wTNode) a0) (w1 : wTGraph a1) : L_law04_TableParts a0 a1 = some true := by
  classical
  unfold L_law04_TableParts
  rw [law_cutL, Option.bind_some, law_cut, Option.bind_some]
  have hl := cutL_sz a0
  have hlen := cut_len a1
  generalize cutL a0 = l at hl
  generalize (⟨a1.N, a1.Links.take 40⟩ : TGraph) = g at hlen
  rw [law_refL hl, Option.bind_some, law_ref, Option.bind_some, ref_tright (by omega) hl, Option.bind_some]
  by_cases hR : TRightP l g
  · have h1 := hR.1.1
    have h6 := hR.1.2.1
    have hN := hR.2.1
    have h : L_law04_TableParts_l1 l g g ((g.N - 0).toNat + 1) 0 = some () :=
      loopI (σ := Unit) (F := fun nf k _ => L_law04_TableParts_l1 l g g nf k) (len := l.length) (fun _ _ => True) (fun _ _ => some ())
        (fun nf _ _ => by rw [L_law04_TableParts_l1, if_neg (by omega)])
        (fun nf k _ hk _ ih => by
          have hx : l[k]? = some l[k] := List.getElem?_eq_getElem hk
          rw [L_law04_TableParts_l1, if_pos (by omega), at_get hk, Option.bind_some, parts_l2 (by omega) h6 hl hx (hR.2.2 k _ hx), Option.bind_some, Option.bind_some, wr_succ (by omega)]
          exact ih () trivial) l.length _ 0 () (by omega) (by omega) trivial
    rw [if_pos (dT hR), h, Option.bind_some, fixed04]
    rfl
  · rw [if_neg (by rw [dF hR]; decide), table_right (by omega) hl, Option.bind_some, if_neg (by rw [dF hR]; decide), fixed04]
    rfl
end Go.Proofs.Ytkfahinbpmhcgaa
