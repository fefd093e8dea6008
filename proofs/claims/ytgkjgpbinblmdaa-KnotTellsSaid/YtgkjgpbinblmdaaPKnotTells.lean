/- The law KnotTells, in plain words: true at every input. No condition. -/
import Derived.Test.YtgkjgpbinblmdaaPkc
import Derived.Test.YtgkjgpbinblmdaaGdKnotTells
set_option linter.unusedSimpArgs false
set_option linter.unusedVariables false
namespace Go.Proofs.Ytgkjgpbinblmdaa
open Go.RowKit

theorem knotTells_true (a0 : TApp) (a1 : TConf) (a2 : List Int) (w0 : wTApp a0) (w1 : wTConf a1) (w2 : (wL 8 (wI .i64)) a2) : L_law15_KnotTells a0 a1 a2 = some true := by
  classical
  unfold L_law15_KnotTells
  rw [law_cutA, Option.bind_some, law_cutC, Option.bind_some, if_pos (by omega), if_pos (by omega), Option.bind_some, take_min (i := 10) _ 10 rfl]
  have ha := cutA_sz a0
  have hc := cutC_sz a1
  have hl : (a2.take 10).length ≤ 10 := by rw [List.length_take]; omega
  generalize cutA a0 = a at ha
  generalize cutC a1 = c at hc
  generalize a2.take 10 = l at hl
  rw [law_app ha.t, Option.bind_some, law_conf, Option.bind_some, ref_right5 ha hc, Option.bind_some]
  by_cases hR : CRightP a c
  · have he := edges_len hR ha
    have hk := knotOf_len hR
    rw [if_pos (dT hR), knot_edges hR ha, Option.bind_some, ref_edges hR ha, Option.bind_some, pairs_same (by omega), Option.bind_some, if_pos rfl, knot_knot hR ha, Option.bind_some, ref_knot hR ha, Option.bind_some, ints_same (by omega), Option.bind_some, if_pos rfl, knot_held hR ha (by omega), Option.bind_some, ref_held hR ha (by omega), Option.bind_some, if_pos rfl, knot_ring hR ha (by omega), Option.bind_some, ref_ring hR ha (by omega), Option.bind_some, if_pos rfl, fixed15]
    rfl
  · rw [if_neg (by rw [dF hR]; decide), plain_right ha hc, Option.bind_some, if_neg (by rw [dF hR]; decide), fixed15]
    rfl
end Go.Proofs.Ytgkjgpbinblmdaa
