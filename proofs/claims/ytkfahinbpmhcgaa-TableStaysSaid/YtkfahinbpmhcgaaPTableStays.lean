/- The law TableStays, in plain words: true at every input. No condition. -/
import Derived.Test.YtkfahinbpmhcgaaPtc
import Derived.Test.YtkfahinbpmhcgaaGdTableStays
set_option linter.unusedSimpArgs false
set_option linter.unusedVariables false
namespace Go.Proofs.Ytkfahinbpmhcgaa
open Go.RowKit

theorem and_ite {β : Type} {p q : Prop} {_ : Decidable p} {_ : Decidable q} (f : Bool → Option β) : ((if p then some (decide q) else some false).bind f) = f (decide (p ∧ q)) := baf p q f
theorem stays_loop {l : List TNode} {g : TGraph} (hl : SzL l) {c : TCourse} {on : Int} {n : Nat} {x : TNode} (hx : l[n]? = some x) (hp : NodeP g n x) (hN : 1 ≤ g.N) (en : (landK .i64 c.Node 255).tmod g.N = (n : Int)) :
    ∀ (m nf k s : Nat) (hs : s < x.States.length), k + m = min c.From.length 30 → m < nf → x.States[s].Mode = 2 → on ∈ x.States[s].Waits → L_law04_TableStays_l1 c l g on nf (s : Int) (k : Int) = some ()
  | 0, nf + 1, k, s, hs, h1, h2, h3, h4 => by
    rw [L_law04_TableStays_l1, and_ite, if_neg]
    rw [dF (by omega)]
    decide
  | m + 1, nf + 1, k, s, hs, h1, h2, h3, h4 => by
    rw [L_law04_TableStays_l1, and_ite, if_pos (dT (by omega)), at_get (by omega), Option.bind_some, en, wr_succ (by omega)]
    by_cases hon : (landK .i64 c.From[k] 255).tmod g.N = on
    · rw [if_pos hon, Option.bind_some]
      exact stays_loop hl hx hp hN en m nf (k + 1) s hs (by omega) (by omega) h3 h4
    · rw [if_neg hon, table_taken hl, Option.bind_some]
      have e0 : stOf l n s = x.States[s] := by unfold stOf; rw [stA_some hx hs]; rfl
      rw [e0]
      obtain ⟨s', e, hs', hc⟩ := hp.taken hs ((landK .i64 c.From[k] 255).tmod g.N) ((k : Int).tmod 4)
      have e1 : stOf l n s' = x.States[s'] := by unfold stOf; rw [stA_some hx hs']; rfl
      have hk : x.States[s'].Mode = 2 ∧ on ∈ x.States[s'].Waits := by
        rcases hc with ⟨rfl, _⟩ | ⟨t, _, _, _, _, _, hs2, hk⟩
        · exact ⟨h3, h4⟩
        · exact hk on h4 fun q => hon q.symm
      rw [e, table_picked hl, Option.bind_some, table_mode, Option.bind_some, e1, if_pos hk.1, table_waits hl, Option.bind_some, e1]
      have hz := (hl.2 x (List.mem_of_getElem? hx)).2 _ (List.getElem_mem hs')
      have hz1 := hz.1
      have hst := hp.2.2.2.2 _ (List.getElem_mem hs')
      have hno : x.States[s'].Picks = [] := by
        rcases hst.2.2.2.1.2.1 with q | q
        · have := hk.1; omega
        · exact q
      rw [ref_in_list _ (by omega), Option.bind_some, if_pos (dT hk.2)]
      have hnp : (pickOf x.States[s'] 0).isSome = false := by
        unfold pickOf
        rw [hno]
        rfl
      rw [hnp, if_neg (by simp), Option.bind_some]
      exact stays_loop hl hx hp hN en m nf (k + 1) s' hs' (by omega) (by omega) hk.1 hk.2
theorem tableStays_true (a0 : List TNode) (a1 : TGraph) (a2 : TCourse) (w0 : (wL 32 wTNode) a0) (w1 : wTGraph a1) (w2 : wTCourse a2) : L_law04_TableStays a0 a1 a2 = some true := by
  classical
  unfold L_law04_TableStays
  rw [law_cutL, Option.bind_some, law_cut, Option.bind_some]
  have hl := cutL_sz a0
  have hlen := cut_len a1
  generalize cutL a0 = l at hl
  generalize (⟨a1.N, a1.Links.take 40⟩ : TGraph) = g at hlen
  rw [law_refL hl, Option.bind_some, law_ref, Option.bind_some, ref_tright (by omega) hl, Option.bind_some]
  by_cases hR : TRightP l g
  · have h1 := hR.1.1
    rw [if_pos (dT hR), if_pos (by omega)]
    obtain ⟨n, en, hn⟩ := pick_node a2.Node h1
    have hln : n < l.length := by have := hR.2.1; omega
    have hx : l[n]? = some l[n] := List.getElem?_eq_getElem hln
    have hp := hR.2.2 n _ hx
    rw [en, at_get hln, Option.bind_some, if_pos (by have := hp.1; omega)]
    obtain ⟨s, es, hs⟩ := pick_nat a2.State hp.1
    rw [es, table_waits hl, Option.bind_some, table_mode]
    have e0 : stOf l n s = l[n].States[s] := by unfold stOf; rw [stA_some hx hs]; rfl
    rw [e0]
    have hst := hp.2.2.2.2 _ (List.getElem_mem hs)
    have hz := (hl.2 _ (List.getElem_mem hln)).2 _ (List.getElem_mem hs)
    by_cases hw : (l[n].States[s].Waits.length : Int) = 0
    · rw [if_pos hw, Option.bind_some, if_neg, fixed04]
      · rfl
      · intro hm
        exact (hst.2.2.1.1 hm).1 (List.eq_nil_of_length_eq_zero (by omega))
    · rw [if_neg hw, if_pos hw]
      have hm : l[n].States[s].Mode = 2 := by
        by_cases q : l[n].States[s].Mode = 2
        · exact q
        · rw [hst.2.2.1.2 q] at hw
          simp at hw
      obtain ⟨o, eo, ho⟩ := pick_nat a2.On (N := l[n].States[s].Waits.length) (by omega)
      rw [eo, at_get ho, Option.bind_some]
      have := stays_loop hl (c := a2) hx hp h1 en (min a2.From.length 30) (((a2.From.length : Int) - 0).toNat + 1) 0 s hs (by omega) (by omega) hm (List.getElem_mem ho)
      rw [show ((0 : Nat) : Int) = 0 from rfl] at this
      rw [this, Option.bind_some, fixed04]
      rfl
  · rw [if_neg (by rw [dF hR]; decide), table_right (by omega) hl, Option.bind_some, if_neg (by rw [dF hR]; decide), fixed04]
    rfl
end Go.Proofs.Ytkfahinbpmhcgaa
