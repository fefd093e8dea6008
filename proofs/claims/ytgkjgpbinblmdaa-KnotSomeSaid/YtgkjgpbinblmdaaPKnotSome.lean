/- The law KnotSome, in plain words: true at every input. No condition. -/
import Derived.Test.YtgkjgpbinblmdaaPkd
import Derived.Test.YtgkjgpbinblmdaaGdKnotSome
set_option linter.unusedSimpArgs false
set_option linter.unusedVariables false
namespace Go.Proofs.Ytgkjgpbinblmdaa
open Go.RowKit

open Classical in
theorem knotSome_l1 {r l : List Int} (hr : r.length ≤ 1000) (hl : l.length ≤ 1000) : L_law15_KnotSome_l1 r l (((l.length : Int) - 0).toNat + 1) false 0 = some (decide (∃ x ∈ l, x ∈ r)) :=
  (orLoop (F := fun nf s k => L_law15_KnotSome_l1 r l nf s k) (l := l) (fun x => x ∈ r)
    (fun nf s => by rw [L_law15_KnotSome_l1, if_neg (by omega)])
    (fun nf k s hk => by
      rw [L_law15_KnotSome_l1, if_pos (by omega), wr_succ (by omega)]
      cases s with
      | true => rw [if_pos rfl, Option.bind_some]; rfl
      | false => rw [if_neg (by decide), at_get hk, Option.bind_some, ref_in_list _ hr, Option.bind_some, Option.bind_some, Bool.false_or]; exact congrArg (fun b => L_law15_KnotSome_l1 r l nf b _) (ddec Iff.rfl)) (((l.length : Int) - 0).toNat + 1) (by omega)).trans (sdec Iff.rfl)
theorem knotSome_true (a0 : TApp) (a1 : TConf) (a2 : A2LI) (w0 : wTApp a0) (w1 : wTConf a1) (w2 : wA2LI a2) : L_law15_KnotSome a0 a1 a2 = some true := by
  classical
  unfold L_law15_KnotSome
  rw [law_cutA, Option.bind_some, law_cutC, Option.bind_some]
  have ha := cutA_sz a0
  have hc := cutC_sz a1
  generalize cutA a0 = a at ha
  generalize cutC a1 = c at hc
  rw [law_app ha.t, Option.bind_some, law_conf, Option.bind_some, ref_right5 ha hc, Option.bind_some]
  by_cases hR : CRightP a c
  · have hk := knotOf_len hR
    rw [if_pos (dT hR), if_pos (by omega), if_pos (by omega), Option.bind_some, take_min (i := 10) _ 10 rfl, if_pos (by omega), if_pos (by omega), Option.bind_some, take_min (i := 10) _ 10 rfl]
    have hx : (a2.a0.take 10).length ≤ 10 := by rw [List.length_take]; omega
    have hy : (a2.a1.take 10).length ≤ 10 := by rw [List.length_take]; omega
    generalize a2.a0.take 10 = x at hx
    generalize a2.a1.take 10 = y at hy
    rw [if_pos (by omega), if_pos (by omega), knot_held hR ha (by omega), Option.bind_some]
    by_cases q : heldP a c x
    · rw [if_pos (dT q), knot_knot hR ha, Option.bind_some, knotSome_l1 (by omega) (by omega), Option.bind_some, if_pos (dT (held_cycle hR ha q)), knot_held hR ha (by omega), Option.bind_some]
      by_cases r : heldP a c y
      · rw [if_pos (dT r), knot_held hR ha (by rw [List.length_append]; omega), Option.bind_some, dT (held_both q r), fixed15]
        rfl
      · rw [if_neg (by rw [dF r]; decide), fixed15]
        rfl
    · rw [if_neg (by rw [dF q]; decide), fixed15]
      rfl
  · rw [if_neg (by rw [dF hR]; decide), plain_right ha hc, Option.bind_some, if_neg (by rw [dF hR]; decide), fixed15]
    rfl
end Go.Proofs.Ytgkjgpbinblmdaa
