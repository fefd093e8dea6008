/- Functions as typed ones,and that the program's functions answer as these do. No condition. -/
import Derived.Test.YtifcbecpemaieaaGb6
import Derived.Test.YtifcbecpemaieaaGb8
import Derived.Test.YtifcbecpemaieaaGdPlainOnce
set_option linter.unusedSimpArgs false
set_option linter.unusedVariables false
set_option maxRecDepth 20000
set_option maxHeartbeats 4000000
namespace Go.Proofs.Ytifcbecpemaieaa
open Go.RowKit

theorem L_law05_PlainOnce_ok {a0 : TApp} {a1 : TConf} {a2 : (List TStep)} {r : Bool} (hD : L_law05_PlainOnce a0 a1 a2 = some r) :
  CallH Try.prog 11 [.agg (cTApp a0),.agg (cTConf a1),.one (.d (.sl (List.map eTStep a2)))] []
   (.one (.d (.bool r))) [] := by
 unfold L_law05_PlainOnce at hD
 refine rc Try.func11 rfl Try.ntmps11 fun S Φ P0 wb ac h => ?_
 refine qs 4 [] [2,3,4] [(1,0),(2,0)] h fun ac wd h => ?_
 obtain ⟨r108,hc109,hD⟩ := oB hD
 have hc109k := L_law05_Cut_ok hc109
 refine qs 7 [factE 5 hc109k] [2,3,4] [(1,0),(2,0)] h fun ac wd h => ?_
 obtain ⟨r112,hc113,hD⟩ := oB hD
 have hc113k := L_law05_CutConf_ok hc113
 refine qs 10 [factE 8 hc113k] [2,3,4] [(1,0),(2,0)] h fun ac wd h => ?_
 obtain ⟨ha118,hD⟩ := iT hD
 obtain ⟨ha119,hD⟩ := iT hD
 obtain ⟨v120,hv121,hD⟩ := vB hD
 refine qs 16 [] [2,3,4] [(1,0),(2,0)] h fun ac wd h => ?_
 obtain ⟨r124,hc125,hD⟩ := oB hD
 have hc125k := L_law05_App_ok hc125
 refine qs 20 [factE 17 hc125k] [2,3,4,7] [(1,0),(2,0),(18,0)] h fun ac wd h => ?_
 refine wp_seq ?_
 obtain ⟨r132,hc133,hD⟩ := oB hD
 obtain ⟨r134,hc135,hD⟩ := oB hD
 obtain ⟨r136,hc137,hD⟩ := oB hD
 have hc133k := L_plain_Right_ok hc133
 have hc135k := L_law05_Ref_ok hc135
 have hc137k := L_ref05_Right_ok hc137
 refine ds 28 [factE 22 hc133k,factE 25 hc135k,factE 26 hc137k] [2,3,4,7,32] [(1,0),(2,0),(18,0)] h fun ac wd h => ?_
 obtain ⟨hb139,hD⟩ := iTe hD
 refine kF h ?_
 refine wp_skip ?_
 change Code.wp Try.prog _ _ _ _
 refine wp_seq ?_
 have hc135k := L_law05_Ref_ok hc135
 have hc137k := L_ref05_Right_ok hc137
 refine ds 33 [factE 30 hc135k,factE 31 hc137k] [2,3,4,7,37] [(1,0),(2,0),(18,0)] h fun ac wd h => ?_
 rcases i2b hD with ⟨hb145,hD⟩ | ⟨hb145,hD⟩
 ·
  refine kF h ?_
  refine wp_skip ?_
  change Code.wp Try.prog _ _ _ _
  obtain ⟨r179,hc180,hD⟩ := oB hD
  have hc180k := L_plain_Run_ok hc180
  refine qs 45 [factE 36 hc180k] [2,3,4,7,8,9,10] [(1,0),(2,0),(18,0),(41,0)] h fun ac wd h => ?_
  obtain ⟨r185,hc186,hD⟩ := oB hD
  obtain ⟨r187,hc188,hD⟩ := oB hD
  have hc135k := L_law05_Ref_ok hc135
  have hc186k := L_law05_Steps_ok hc186
  have hc188k := L_ref05_Run_ok hc188
  refine ds 59 [factE 47 hc135k,factE 49 hc186k,factE 50 hc188k] [3,4,7,8,9,10,11,12,13] [(1,0),(2,0),(18,0),(41,0),(55,0)] h fun ac wd h => ?_
  obtain ⟨r212,hc213,hD⟩ := oB hD
  obtain ⟨r214,hc215,hD⟩ := oB hD
  obtain ⟨hb216,hD⟩ := iT hD
  obtain ⟨hb217,hD⟩ := iTe hD
  obtain ⟨hb218,hD⟩ := iTe hD
  obtain ⟨r219,hc220,hD⟩ := oB hD
  obtain ⟨r221,hc222,hD⟩ := oB hD
  obtain ⟨r223,hc224,hD⟩ := oB hD
  obtain ⟨r225,hc226,hD⟩ := oB hD
  obtain ⟨hb227,hD⟩ := iT hD
  obtain ⟨r228,hc229,hD⟩ := oB hD
  obtain ⟨r230,hc231,hD⟩ := oB hD
  obtain ⟨hb232,hD⟩ := iTe hD
  obtain ⟨r233,hc234,hD⟩ := oB hD
  have hc213k := L_law05_Ref_ok hc213
  have hc215k := L_ref05_Same_ok hc215
  have hc220k := L_plain_Can_ok hc220
  have hc222k := L_law05_Steps_ok hc222
  have hc135k := L_law05_Ref_ok hc135
  have hc224k := L_ref05_Can_ok hc224
  have hc226k := L_ref05_Steps_ok hc226
  have hc229k := L_plain_Same_ok hc229
  have hc135k := L_law05_Ref_ok hc135
  have hc231k := L_ref05_Same_ok hc231
  have hc234k := L_law05_fixed_ok hc234
  refine dsg 98 [factE 60 hc213k,factE 62 hc215k,factE 76 hc220k,factE 77 hc222k,factE 80 hc135k,factE 81 hc224k,factE 82 hc226k,factE 87 hc229k,factE 89 hc135k,factE 91 hc231k,factE 95 hc234k] [none,none,none,none,none,some (some 61,true),some (some 61,true),some (some 61,true),none,none,some (some 66,true),some (some 66,true),some (some 66,true),none,none,some (some 71,true),some (some 71,true),some (some 71,true),some (some 71,true),some (some 71,true),some (some 71,true),some (some 71,true),some (some 71,true),some (some 71,true),none,none,some (some 82,true),some (some 82,true),some (some 82,true),some (some 82,true),some (some 82,true),some (some 82,true),some (some 82,true),some (some 82,true),none,none,some (some 92,true),none,none] [6] [] h fun ac wd h => ?_
  refine wp_ret ?_
  injection hD with hD
  subst hD
  exact rE h [.tmp 6]
 ·
  refine kT h ?_
  obtain ⟨r237,hc238,hD⟩ := oB hD
  have hc238k := L_law05_fixed_ok hc238
  refine qs 35 [factE 33 hc238k] [6] [] h fun ac wd h => ?_
  refine wp_ret ?_
  injection hD with hD
  subst hD
  exact rE h [.tmp 6]

end Go.Proofs.Ytifcbecpemaieaa
