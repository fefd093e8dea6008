/- The law GraphWays, in plain words: true at every input. No condition. -/
import Derived.Test.YteohodhcegbmmaaPge
set_option linter.unusedSimpArgs false
set_option linter.unusedVariables false
namespace Go.Proofs.Yteohodhcegbmmaa
open Go.RowKit

open Classical in
theorem graphWays_true (a0 : TGraph) (a1 : A3I) (w0 : wTGraph a0) (w1 : wA3I a1) : L_law03_GraphWays a0 a1 = some true := by
  unfold L_law03_GraphWays
  rw [law_cut, Option.bind_some]
  have hlen := cut_len a0
  generalize (⟨a0.N, a0.Links.take 40⟩ : TGraph) = g at hlen
  rw [law_ref, Option.bind_some, ref_right (by omega), Option.bind_some]
  by_cases hR : RightP g
  · have h1 := hR.1
    have h6 := hR.2.1
    obtain ⟨a, ea, ha⟩ := pick_node a1.a0 h1
    obtain ⟨b, eb, hb⟩ := pick_node a1.a1 h1
    obtain ⟨c, ec, hc⟩ := pick_node a1.a2 h1
    obtain ⟨d, d1, d2, d3⟩ := hR.dist ha
    obtain ⟨e, e1, e2, e3⟩ := hR.dist hb
    rw [if_pos (decide_eq_true hR), if_pos (by omega), ea, eb, ec, d1, Option.bind_some, e1, Option.bind_some, if_pos (by omega), if_pos (by omega), at_D (by omega), Option.bind_some, at_D (by omega), Option.bind_some, at_D (by omega), Option.bind_some]
    obtain ⟨x, x1, x2, x3, x4⟩ := d3 c hc
    obtain ⟨y, y1, y2, y3, y4⟩ := d3 b hb
    obtain ⟨z, z1, z2, z3, z4⟩ := e3 c hc
    have hle := x4 _ (y3.trans z3)
    rw [wr (by omega) (by omega), if_pos (by omega), graph_find _ _ (by omega), Option.bind_some, if_pos, fixed03]
    · rfl
    · rw [Bool.eq_iff_iff, decide_eq_true_iff, decide_eq_true_iff, y1]
      have hf := find_some (g := g) (a := a) (b := b)
      have hlink : A2I.mk a b ∈ g.Links ↔ EG g a b := ⟨fun h => ⟨_, h, rfl, rfl⟩, fun ⟨l, hl, l1, l2⟩ => by
        have : l = A2I.mk a b := by cases l; simp_all
        rw [← this]; exact hl⟩
      constructor
      · intro h
        have hy : y = 1 := by omega
        subst hy
        cases y3 with
        | s h' e' =>
          cases h'
          exact hf.2 (hlink.2 e')
      · intro h
        have hE := hlink.1 (hf.1 h)
        have := y4 1 (.s .z hE)
        have hy : y ≠ 0 := by
          rintro rfl
          cases y3
          obtain ⟨l, hl, l1, l2⟩ := hE
          obtain ⟨i, hi, el⟩ := List.getElem_of_mem hl
          have := (hR.2.2.2.1 i l (by rw [List.getElem?_eq_getElem hi, el])).1.2.2.2.2
          exact this (by rw [l1, l2])
        omega
  · rw [if_neg (by simpa using hR), graph_right (by omega), Option.bind_some, if_neg (by simpa using hR), fixed03]
    rfl
end Go.Proofs.Yteohodhcegbmmaa
