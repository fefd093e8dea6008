/- The law KnotEdges, in plain words: true at every input. No condition. -/
import Derived.Test.YtgkjgpbinblmdaaPkd
import Derived.Test.YtgkjgpbinblmdaaGdKnotEdges
set_option linter.unusedSimpArgs false
set_option linter.unusedVariables false
namespace Go.Proofs.Ytgkjgpbinblmdaa
open Go.RowKit

section
variable {a : TApp} {c : TConf}
theorem knotEdges_l1 (h : CRightP a c) (ha : SzA a) : L_law15_KnotEdges_l1 a c (edgesOf a c) ((((edgesOf a c).length : Int) - 0).toNat + 1) 0 = some () := by
  have hel := edges_len h ha
  have hlex := List.pairwise_iff_getElem.1 (edges_lex h ha)
  have q := loopI (σ := Unit) (F := fun nf k _ => L_law15_KnotEdges_l1 a c (edgesOf a c) nf k) (len := (edgesOf a c).length) (fun _ _ => True) (fun _ _ => some ())
    (fun nf s _ => by rw [L_law15_KnotEdges_l1, if_neg (by omega)])
    (fun nf k s hk _ ih => by
      have he : edgeB a c (edgesOf a c)[k].a0 (edgesOf a c)[k].a1 = true := (mem_edges _ _).1 (List.getElem_mem hk)
      rw [L_law15_KnotEdges_l1, if_pos (by omega), at_get hk, Option.bind_some, wr_succ (by omega)]
      by_cases k0 : (k : Int) > 0
      · have hp : k - 1 < (edgesOf a c).length := by omega
        have hx := hlex (k - 1) k hp hk (by omega)
        have e1 : (k : Int) - 1 = ((k - 1 : Nat) : Int) := by omega
        rw [if_pos k0, wr (by omega) (by omega), e1, at_get hp, Option.bind_some, Option.bind_some]
        rcases hx with g | ⟨g1, g2⟩
        · rw [if_neg (by omega), if_neg (by omega), ref_edge h ha, he, Option.bind_some, Option.bind_some, if_neg (by decide)]
          exact ih () trivial
        · rw [if_neg (by omega), if_pos g1, if_neg (by omega), ref_edge h ha, he, Option.bind_some, Option.bind_some, if_neg (by decide)]
          exact ih () trivial
      · rw [if_neg k0, ref_edge h ha, he, Option.bind_some, Option.bind_some, if_neg (by decide)]
        exact ih () trivial)
    (edgesOf a c).length ((((edgesOf a c).length : Int) - 0).toNat + 1) 0 () (by omega) (by omega) trivial
  exact q
theorem knotEdges_l3 (h : CRightP a c) (ha : SzA a) (n m : Nat) (hm : m ≤ 100000) : L_law15_KnotEdges_l3 n a a c ((a.G.N - 0).toNat + 1) (m : Int) 0 = some (((m + ((List.range c.States.length).filter fun w => edgeB a c n ((w : Nat) : Int)).length : Nat) : Int)) := by
  have h6 := h.n6
  have hN := h.nst
  have q := loopI (F := fun nf k (s : Int) => L_law15_KnotEdges_l3 n a a c nf s k) (len := c.States.length) (fun k s => s = ((m + ((List.range k).filter fun w => edgeB a c n ((w : Nat) : Int)).length : Nat) : Int)) (fun _ _ => some (((m + ((List.range c.States.length).filter fun w => edgeB a c n ((w : Nat) : Int)).length : Nat) : Int)))
    (fun nf s hs => by rw [L_law15_KnotEdges_l3, if_neg (by omega), hs])
    (fun nf k s hk hs ih => by
      have hf : ((List.range k).filter fun w => edgeB a c n ((w : Nat) : Int)).length ≤ k := Nat.le_trans (List.length_filter_le _ _) (by simp)
      rw [L_law15_KnotEdges_l3, if_pos (by omega), ref_edge h ha, Option.bind_some, wr_succ (show k < 9223372036854775807 by omega)]
      by_cases e : edgeB a c n (k : Int) = true
      · rw [if_pos e, hs, wr_succ (by omega), Option.bind_some]
        refine ih _ ?_
        rw [List.range_succ, List.filter_append, List.length_append, List.filter_cons, if_pos e]
        rfl
      · rw [if_neg e, Option.bind_some]
        refine ih _ ?_
        rw [List.range_succ, List.filter_append, List.length_append, List.filter_cons, if_neg e, hs]
        rfl)
    c.States.length ((a.G.N - 0).toNat + 1) 0 (m : Int) (by omega) (by omega) (by simp)
  exact q
theorem knotEdges_l2 (h : CRightP a c) (ha : SzA a) : L_law15_KnotEdges_l2 a a c ((a.G.N - 0).toNat + 1) 0 0 = some ((edgesOf a c).length : Int) := by
  have h6 := h.n6
  have hN := h.nst
  have q := loopI (F := fun nf k (s : Int) => L_law15_KnotEdges_l2 a a c nf s k) (len := c.States.length) (fun k s => s = ((((List.range k).flatMap fun n => ((waitsAt a c n).filter (freeB a.G c n)).map (A2I.mk n)).length : Nat) : Int) ∧ ((List.range k).flatMap fun n => ((waitsAt a c n).filter (freeB a.G c n)).map (A2I.mk n)).length ≤ 6 * k) (fun _ _ => some ((edgesOf a c).length : Int))
    (fun nf s hs => by rw [L_law15_KnotEdges_l2, if_neg (by omega), hs.1]; rfl)
    (fun nf k s hk ⟨hs, hb⟩ ih => by
      rw [L_law15_KnotEdges_l2, if_pos (by omega), hs, knotEdges_l3 h ha _ _ (by omega), Option.bind_some, Option.bind_some, wr_succ (by omega)]
      have e : (((waitsAt a c k).filter (freeB a.G c k)).map (A2I.mk k)).length = ((List.range c.States.length).filter fun w => edgeB a c k ((w : Nat) : Int)).length := by
        rw [List.length_map, waits_row h ha hk, List.length_map]
      have e6 : ((List.range c.States.length).filter fun w => edgeB a c k ((w : Nat) : Int)).length ≤ 6 := Nat.le_trans (List.length_filter_le _ _) (by simp; omega)
      have e2 : ((List.range (k + 1)).flatMap fun n => ((waitsAt a c n).filter (freeB a.G c n)).map (A2I.mk n)).length = ((List.range k).flatMap fun n => ((waitsAt a c n).filter (freeB a.G c n)).map (A2I.mk n)).length + ((List.range c.States.length).filter fun w => edgeB a c k ((w : Nat) : Int)).length := by
        rw [List.range_succ, List.flatMap_append, List.length_append, ← e]
        simp only [List.flatMap_cons, List.flatMap_nil, List.append_nil]
      exact ih _ ⟨by rw [e2], by omega⟩)
    c.States.length ((a.G.N - 0).toNat + 1) 0 0 (by omega) (by omega) ⟨by simp, by simp⟩
  exact q
end
theorem knotEdges_true (a0 : TApp) (a1 : TConf) (w0 : wTApp a0) (w1 : wTConf a1) : L_law15_KnotEdges a0 a1 = some true := by
  classical
  unfold L_law15_KnotEdges
  rw [law_cutA, Option.bind_some, law_cutC, Option.bind_some]
  have ha := cutA_sz a0
  have hc := cutC_sz a1
  generalize cutA a0 = a at ha
  generalize cutC a1 = c at hc
  rw [law_app ha.t, Option.bind_some, law_conf, Option.bind_some, ref_right5 ha hc, Option.bind_some]
  by_cases hR : CRightP a c
  · rw [if_pos (dT hR), knot_edges hR ha, Option.bind_some, knotEdges_l1 hR ha, Option.bind_some, knotEdges_l2 hR ha, Option.bind_some, if_pos rfl, fixed15]
    rfl
  · rw [if_neg (by rw [dF hR]; decide), plain_right ha hc, Option.bind_some, if_neg (by rw [dF hR]; decide), fixed15]
    rfl
end Go.Proofs.Ytgkjgpbinblmdaa
