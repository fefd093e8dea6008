/- Functions as typed ones, and that the program's functions answer as these do. No condition. -/
import Derived.Test.YtgkjgpbinblmdaaGb7
import Derived.Test.YtgkjgpbinblmdaaGdKnotTells
set_option linter.unusedSimpArgs false
set_option linter.unusedVariables false
set_option maxRecDepth 20000
set_option maxHeartbeats 4000000
namespace Go.Proofs.Ytgkjgpbinblmdaa
open Go.RowKit

theorem L_law15_KnotTells_ok {a0 : TApp} {a1 : TConf} {a2 : (List Int)} {r : Bool} (hD : L_law15_KnotTells a0 a1 a2 = some r) :
    CallH Try.prog 3 [.agg (cTApp a0), .agg (cTConf a1), .one (.d (.sl (List.map eI a2)))] []
      (.one (.d (.bool r))) [] := by
  unfold L_law15_KnotTells at hD
  refine rc Try.func3 rfl Try.ntmps3 fun S Φ P0 wb ac h => ?_
  refine qs 4 [] [2, 3, 4] [(1, 0), (2, 0)] h fun ac wd h => ?_
  obtain ⟨r114, hc115, hD⟩ := oB hD
  have hc115k := L_law05_Cut_ok hc115
  refine qs 7 [factE 5 hc115k] [2, 3, 4] [(1, 0), (2, 0)] h fun ac wd h => ?_
  obtain ⟨r118, hc119, hD⟩ := oB hD
  have hc119k := L_law05_CutConf_ok hc119
  refine qs 10 [factE 8 hc119k] [2, 3, 4] [(1, 0), (2, 0)] h fun ac wd h => ?_
  obtain ⟨ha124, hD⟩ := iT hD
  obtain ⟨ha125, hD⟩ := iT hD
  obtain ⟨v126, hv127, hD⟩ := vB hD
  refine qs 16 [] [2, 3, 4] [(1, 0), (2, 0)] h fun ac wd h => ?_
  obtain ⟨r132, hc133, hD⟩ := oB hD
  obtain ⟨r134, hc135, hD⟩ := oB hD
  have hc133k := L_law05_App_ok hc133
  have hc135k := L_law05_Ref_ok hc135
  refine ds 24 [factE 17 hc133k, factE 19 hc135k] [2, 3, 4, 7, 8] [(1, 0), (2, 0), (20, 0), (21, 0)] h fun ac wd h => ?_
  refine wp_seq ?_
  obtain ⟨r138, hc139, hD⟩ := oB hD
  have hc139k := L_ref05_Right_ok hc139
  refine qs 28 [factE 26 hc139k] [2, 3, 4, 7, 8, 25] [(1, 0), (2, 0), (20, 0), (21, 0)] h fun ac wd h => ?_
  rcases i2b hD with ⟨hb154, hD⟩ | ⟨hb154, hD⟩
  ·
    refine kF h ?_
    refine wp_skip ?_
    change Code.wp Try.prog _ _ _ _
    obtain ⟨r212, hc213, hD⟩ := oB hD
    obtain ⟨r214, hc215, hD⟩ := oB hD
    obtain ⟨r216, hc217, hD⟩ := oB hD
    obtain ⟨hb218, hD⟩ := iT hD
    obtain ⟨r219, hc220, hD⟩ := oB hD
    obtain ⟨r221, hc222, hD⟩ := oB hD
    obtain ⟨r223, hc224, hD⟩ := oB hD
    obtain ⟨hb225, hD⟩ := iT hD
    obtain ⟨r226, hc227, hD⟩ := oB hD
    obtain ⟨r228, hc229, hD⟩ := oB hD
    obtain ⟨hb230, hD⟩ := iTe hD
    obtain ⟨r231, hc232, hD⟩ := oB hD
    obtain ⟨r233, hc234, hD⟩ := oB hD
    obtain ⟨hb235, hD⟩ := iTe hD
    obtain ⟨r236, hc237, hD⟩ := oB hD
    have hc213k := L_knot_Edges_ok hc213
    have hc215k := L_ref15_Edges_ok hc215
    have hc217k := L_ref15_Pairs_ok hc217
    have hc220k := L_knot_Knot_ok hc220
    have hc222k := L_ref15_Knot_ok hc222
    have hc224k := L_ref01_Ints_ok hc224
    have hc227k := L_knot_Held_ok hc227
    have hc229k := L_ref15_Held_ok hc229
    have hc232k := L_knot_Ring_ok hc232
    have hc234k := L_ref15_Ring_ok hc234
    have hc237k := L_law15_fixed_ok hc237
    refine dsg 70 [factE 30 hc213k, factE 33 hc215k, factE 34 hc217k, factE 38 hc220k, factE 41 hc222k, factE 42 hc224k, factE 48 hc227k, factE 52 hc229k, factE 59 hc232k, factE 63 hc234k, factE 67 hc237k] [none, none, none, none, none, none, none, none, some (some 40, true), some (some 40, true), some (some 40, true), some (some 40, true), some (some 40, true), some (some 40, true), some (some 40, true), none, none, some (some 49, true), some (some 49, true), some (some 49, true), some (some 49, true), some (some 49, true), some (some 49, true), some (some 49, true), some (some 49, true), some (some 49, true), none, none, some (some 60, true), some (some 60, true), some (some 60, true), some (some 60, true), some (some 60, true), some (some 60, true), some (some 60, true), some (some 60, true), some (some 60, true), none, none, some (some 71, true), none, none] [6] [] h fun ac wd h => ?_
    refine wp_ret ?_
    injection hD with hD
    subst hD
    exact rE h [.tmp 6]
  ·
    refine kT h ?_
    obtain ⟨r243, hc244, hD⟩ := oB hD
    obtain ⟨hb245, hD⟩ := iFb hD
    obtain ⟨r248, hc249, hD⟩ := oB hD
    have hc244k := L_plain_Right_ok hc244
    have hc249k := L_law15_fixed_ok hc249
    refine qsg 36 [factE 30 hc244k, factE 33 hc249k] [none, none, none, none, none, some (some 30, true), none, none] [6] [] h fun ac wd h => ?_
    refine wp_ret ?_
    injection hD with hD
    subst hD
    exact rE h [.tmp 6]

end Go.Proofs.Ytgkjgpbinblmdaa
