/- The law KnotRings, in plain words: true at every input. No condition. -/
import Derived.Test.YtgkjgpbinblmdaaPkd
import Derived.Test.YtgkjgpbinblmdaaGdKnotRings
set_option linter.unusedSimpArgs false
set_option linter.unusedVariables false
namespace Go.Proofs.Ytgkjgpbinblmdaa
open Go.RowKit

open Classical in
theorem knotRings_l1 {a : TApp} {c : TConf} (h : CRightP a c) (ha : SzA a) {l : List Int} (hl : l.length ≤ 10) : L_law15_KnotRings_l1 a c (decide (ringP a c l)) l (((l.length : Int) - 0).toNat + 1) 0 = some () := by
  have q := loopI (σ := Unit) (F := fun nf k _ => L_law15_KnotRings_l1 a c (decide (ringP a c l)) l nf k) (len := l.length) (fun _ _ => True) (fun _ _ => some ())
    (fun nf s _ => by rw [L_law15_KnotRings_l1, if_neg (by omega)])
    (fun nf k s hk _ ih => by
      have e1 : (l.take (k + 1)).drop k = [l[k]] := by
        rw [List.take_succ_eq_append_getElem hk, List.drop_append_of_le_length (by rw [List.length_take]; omega), List.drop_eq_nil_of_le (by rw [List.length_take]; omega), List.nil_append]
      rw [L_law15_KnotRings_l1, if_pos (by omega), if_pos (by omega), if_pos (by omega), Option.bind_some, if_pos (by rw [List.length_drop]; omega), Option.bind_some, if_pos (by rw [List.length_drop, List.length_take]; omega), Int.toNat_natCast, knot_ring h ha (by rw [List.length_append, List.length_drop, List.length_take]; omega), Option.bind_some, if_pos (ddec (ring_turned (by omega))), wr_succ (by omega), if_pos (by omega), if_pos (by omega), Option.bind_some, Int.toNat_natCast, e1, knot_ring h ha (by simp), Option.bind_some, if_neg (by rw [dF (ring_one h ha _)]; decide)]
      exact ih () trivial)
    l.length (((l.length : Int) - 0).toNat + 1) 0 () (by omega) (by omega) trivial
  exact q
theorem knotRings_true (a0 : TApp) (a1 : TConf) (a2 : TWay) (w0 : wTApp a0) (w1 : wTConf a1) (w2 : wTWay a2) : L_law15_KnotRings a0 a1 a2 = some true := by
  classical
  unfold L_law15_KnotRings
  rw [law_cutA, Option.bind_some, law_cutC, Option.bind_some, if_pos (by omega), if_pos (by omega), Option.bind_some, take_min (i := 10) _ 10 rfl]
  have ha := cutA_sz a0
  have hc := cutC_sz a1
  have hl : (a2.Nodes.take 10).length ≤ 10 := by rw [List.length_take]; omega
  generalize cutA a0 = a at ha
  generalize cutC a1 = c at hc
  generalize a2.Nodes.take 10 = l at hl
  rw [law_app ha.t, Option.bind_some, law_conf, Option.bind_some, ref_right5 ha hc, Option.bind_some]
  by_cases hR : CRightP a c
  · rw [if_pos (dT hR), knot_ring hR ha (by omega), Option.bind_some, knotRings_l1 hR ha hl, Option.bind_some, if_pos (by omega), if_pos (by omega)]
    by_cases q : (l.length : Int) = 0
    · have : l = [] := List.eq_nil_of_length_eq_zero (by omega)
      subst this
      rw [if_pos q, if_neg (by rw [dF ring_nil]; decide), fixed15]
      rfl
    · rw [if_neg q, knot_ring hR ha (by rw [List.length_append]; omega), Option.bind_some, if_neg (by rw [dF ring_twice]; decide)]
      by_cases r : ringP a c l
      · rw [if_pos (dT r), knot_held hR ha (by rw [List.length_append]; omega), Option.bind_some, if_pos (dT (held_both (ring_held r) (ring_held r))), fixed15]
        rfl
      · rw [if_neg (by rw [dF r]; decide), fixed15]
        rfl
  · rw [if_neg (by rw [dF hR]; decide), plain_right ha hc, Option.bind_some, if_neg (by rw [dF hR]; decide), fixed15]
    rfl
end Go.Proofs.Ytgkjgpbinblmdaa
