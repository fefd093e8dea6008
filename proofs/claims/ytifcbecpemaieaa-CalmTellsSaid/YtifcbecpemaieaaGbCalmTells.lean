/- Functions as typed ones,and that the program's functions answer as these do. No condition. -/
import Derived.Test.YtifcbecpemaieaaGb2
import Derived.Test.YtifcbecpemaieaaGb6
import Derived.Test.YtifcbecpemaieaaGdCalmTells
set_option linter.unusedSimpArgs false
set_option linter.unusedVariables false
set_option maxRecDepth 20000
set_option maxHeartbeats 4000000
namespace Go.Proofs.Ytifcbecpemaieaa
open Go.RowKit

theorem L_law14_CalmTells_ok {a0 : TApp} {a1 : TConf} {r : Bool} (hD : L_law14_CalmTells a0 a1 = some r) :
  CallH Try.prog 5 [.agg (cTApp a0),.agg (cTConf a1)] []
   (.one (.d (.bool r))) [] := by
 unfold L_law14_CalmTells at hD
 refine rc Try.func5 rfl Try.ntmps5 fun S Φ P0 wb ac h => ?_
 refine qs 4 [] [2,3] [(1,0),(2,0)] h fun ac wd h => ?_
 obtain ⟨r116,hc117,hD⟩ := oB hD
 have hc117k := L_law05_Cut_ok hc117
 refine qs 7 [factE 5 hc117k] [2,3] [(1,0),(2,0)] h fun ac wd h => ?_
 obtain ⟨r120,hc121,hD⟩ := oB hD
 have hc121k := L_law05_CutConf_ok hc121
 refine qs 10 [factE 8 hc121k] [2,3] [(1,0),(2,0)] h fun ac wd h => ?_
 obtain ⟨r126,hc127,hD⟩ := oB hD
 obtain ⟨r128,hc129,hD⟩ := oB hD
 have hc127k := L_law05_App_ok hc127
 have hc129k := L_law05_Ref_ok hc129
 refine ds 18 [factE 11 hc127k,factE 13 hc129k] [2,3,5,6] [(1,0),(2,0),(14,0),(15,0)] h fun ac wd h => ?_
 refine wp_seq ?_
 obtain ⟨r132,hc133,hD⟩ := oB hD
 have hc133k := L_ref05_Right_ok hc133
 refine qs 22 [factE 20 hc133k] [2,3,5,6,21] [(1,0),(2,0),(14,0),(15,0)] h fun ac wd h => ?_
 rcases i2b hD with ⟨hb148,hD⟩ | ⟨hb148,hD⟩
 ·
  refine kF h ?_
  refine wp_skip ?_
  change Code.wp Try.prog _ _ _ _
  obtain ⟨r187,hc188,hD⟩ := oB hD
  have hc188k := L_calm_Count_ok hc188
  refine qs 32 [factE 24 hc188k] [2,3,5,6,7,8,9] [(1,0),(2,0),(14,0),(15,0)] h fun ac wd h => ?_
  obtain ⟨r218,hc219,hD⟩ := oB hD
  obtain ⟨r220,hc221,hD⟩ := oB hD
  obtain ⟨hb222,hD⟩ := iTe hD
  obtain ⟨r223,hc224,hD⟩ := oB hD
  obtain ⟨hb225,hD⟩ := iTe hD
  obtain ⟨r226,hc227,hD⟩ := oB hD
  obtain ⟨hb228,hD⟩ := iTe hD
  obtain ⟨r229,hc230,hD⟩ := oB hD
  obtain ⟨hb231,hD⟩ := iTe hD
  obtain ⟨hb232,hD⟩ := iTe hD
  obtain ⟨r233,hc234,hD⟩ := oB hD
  obtain ⟨r235,hc236,hD⟩ := oB hD
  obtain ⟨hb237,hD⟩ := iTe hD
  obtain ⟨r238,hc239,hD⟩ := oB hD
  obtain ⟨r240,hc241,hD⟩ := oB hD
  obtain ⟨r242,hc243,hD⟩ := oB hD
  obtain ⟨hb244,hD⟩ := iT hD
  obtain ⟨r245,hc246,hD⟩ := oB hD
  have hc219k := L_calm_Over_ok hc219
  have hc221k := L_ref14_Over_ok hc221
  have hc224k := L_ref14_Count_ok hc224
  have hc227k := L_ref14_Count_ok hc227
  have hc230k := L_ref14_Count_ok hc230
  have hc234k := L_calm_Way_ok hc234
  have hc236k := L_ref14_Way_ok hc236
  have hc239k := L_calm_Loads_ok hc239
  have hc241k := L_ref14_Loads_ok hc241
  have hc243k := L_ref01_Ints_ok hc243
  have hc246k := L_law14_fixed_ok hc246
  refine dsg 89 [factE 34 hc219k,factE 37 hc221k,factE 43 hc224k,factE 50 hc227k,factE 57 hc230k,factE 73 hc234k,factE 75 hc236k,factE 80 hc239k,factE 82 hc241k,factE 83 hc243k,factE 86 hc246k] [none,none,none,none,none,none,none,none,some (some 43,true),some (some 43,true),some (some 43,true),some (some 43,true),some (some 43,true),none,none,some (some 50,true),some (some 50,true),some (some 50,true),some (some 50,true),some (some 50,true),none,none,some (some 57,true),some (some 57,true),some (some 57,true),some (some 57,true),some (some 57,true),none,none,some (some 64,true),some (some 64,true),some (some 64,true),some (some 64,true),some (some 64,true),some (some 64,true),some (some 64,true),some (some 64,true),some (some 64,true),none,none,some (some 75,true),some (some 75,true),some (some 75,true),some (some 75,true),some (some 75,true),none,none,some (some 82,true),some (some 82,true),some (some 82,true),some (some 82,true),some (some 82,true),none,none,some (some 89,true),none,none] [4] [] h fun ac wd h => ?_
  refine wp_ret ?_
  injection hD with hD
  subst hD
  exact rE h [.tmp 4]
 ·
  refine kT h ?_
  obtain ⟨r252,hc253,hD⟩ := oB hD
  obtain ⟨hb254,hD⟩ := iFb hD
  obtain ⟨r257,hc258,hD⟩ := oB hD
  have hc253k := L_plain_Right_ok hc253
  have hc258k := L_law14_fixed_ok hc258
  refine qsg 30 [factE 24 hc253k,factE 27 hc258k] [none,none,none,none,none,some (some 26,true),none,none] [4] [] h fun ac wd h => ?_
  refine wp_ret ?_
  injection hD with hD
  subst hD
  exact rE h [.tmp 4]

end Go.Proofs.Ytifcbecpemaieaa
