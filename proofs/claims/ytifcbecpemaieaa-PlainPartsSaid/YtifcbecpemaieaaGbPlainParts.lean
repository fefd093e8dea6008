/- Functions as typed ones,and that the program's functions answer as these do. No condition. -/
import Derived.Test.YtifcbecpemaieaaGb6
import Derived.Test.YtifcbecpemaieaaGdPlainParts
set_option linter.unusedSimpArgs false
set_option linter.unusedVariables false
set_option maxRecDepth 20000
set_option maxHeartbeats 4000000
namespace Go.Proofs.Ytifcbecpemaieaa
open Go.RowKit

theorem L_law05_PlainParts_ok {a0 : TApp} {a1 : (List TStep)} {a2 : Int} {r : Bool} (hD : L_law05_PlainParts a0 a1 a2 = some r) :
  CallH Try.prog 16 [.agg (cTApp a0),.one (.d (.sl (List.map eTStep a1))),.one (.d (.int .u8 a2))] []
   (.one (.d (.bool r))) [] := by
 unfold L_law05_PlainParts at hD
 refine rc Try.func16 rfl Try.ntmps16 fun S Φ P0 wb ac h => ?_
 refine qs 3 [] [1,2,3] [(1,0)] h fun ac wd h => ?_
 obtain ⟨r181,hc182,hD⟩ := oB hD
 have hc182k := L_law05_Cut_ok hc182
 refine qs 6 [factE 4 hc182k] [1,2,3] [(1,0)] h fun ac wd h => ?_
 obtain ⟨ha187,hD⟩ := iT hD
 obtain ⟨ha188,hD⟩ := iT hD
 obtain ⟨v189,hv190,hD⟩ := vB hD
 refine qs 12 [] [1,2,3] [(1,0)] h fun ac wd h => ?_
 obtain ⟨r193,hc194,hD⟩ := oB hD
 have hc194k := L_law05_App_ok hc194
 refine qs 16 [factE 13 hc194k] [1,2,3,7] [(1,0),(14,0)] h fun ac wd h => ?_
 refine wp_seq ?_
 obtain ⟨r197,hc198,hD⟩ := oB hD
 have hc198k := L_ref04_Right_ok hc198
 refine qs 22 [factE 20 hc198k] [1,2,3,35] [(1,0)] h fun ac wd h => ?_
 rcases i2b hD with ⟨hb204,hD⟩ | ⟨hb204,hD⟩
 ·
  refine kF h ?_
  refine wp_skip ?_
  change Code.wp Try.prog _ _ _ _
  obtain ⟨ha254,hD⟩ := iT hD
  refine qs 29 [] [1,3,8] [(1,0)] h fun ac wd h => ?_
  obtain ⟨r259,hc260,hD⟩ := oB hD
  obtain ⟨r261,hc262,hD⟩ := oB hD
  have hc260k := L_plain_Start_ok hc260
  have hc262k := L_plain_Run_ok hc262
  refine ds 42 [factE 31 hc260k,factE 33 hc262k] [1,3,8,9,10,11] [(1,0),(38,0)] h fun ac wd h => ?_
  obtain ⟨ha269,hD⟩ := iT hD
  obtain ⟨ha270,hD⟩ := iT hD
  obtain ⟨v271,hv272,hD⟩ := vB hD
  obtain ⟨r273,hc274,hD⟩ := oB hD
  have hc260k := L_plain_Start_ok hc260
  have hc274k := L_plain_Run_ok hc274
  refine ds 57 [factE 44 hc260k,factE 48 hc274k] [1,3,8,9,10,11,12,13,14] [(1,0),(38,0),(53,0)] h fun ac wd h => ?_
  refine wp_seq ?_
  obtain ⟨hb310,hD⟩ := iF hD
  obtain ⟨hb345,hD⟩ := iF hD
  obtain ⟨hb379,hD⟩ := iF hD
  obtain ⟨hb412,hD⟩ := iF hD
  obtain ⟨hb444,hD⟩ := iTe hD
  refine qsg 91 [] [none,none,none,none,none,some (some 67,false),some (some 67,false),some (some 67,false),none,none,some (some 72,false),some (some 72,false),none,none,some (some 76,false),some (some 76,false),none,none,some (some 80,false),some (some 80,false),some (some 80,false),some (some 80,false),some (some 80,false),some (some 80,false),some (some 80,false),none,none,some (some 89,false),some (some 89,false),some (some 89,false),some (some 89,false),some (some 89,false),some (some 89,false),none] [1,3,8,9,10,11,12,13,14,96] [(1,0),(38,0),(53,0)] h fun ac wd h => ?_
  obtain ⟨hb446,hD⟩ := iTe hD
  refine kF h ?_
  refine wp_skip ?_
  change Code.wp Try.prog _ _ _ _
  refine wp_seq ?_
  refine qs 93 [] [1,3,8,9,10,11,12,13,14,98] [(1,0),(38,0),(53,0)] h fun ac wd h => ?_
  rcases i2e hD with ⟨hb473,hD⟩ | ⟨hb473,hD⟩
  ·
   refine kF h ?_
   refine wp_skip ?_
   change Code.wp Try.prog _ _ _ _
   obtain ⟨v517,hv518,hD⟩ := vB hD
   obtain ⟨r519,hc520,hD⟩ := oB hD
   have hc520k := L_plain_Run_ok hc520
   refine ds 107 [factE 98 hc520k] [1,3,8,9,10,11,15,16,17] [(1,0),(38,0),(103,0)] h fun ac wd h => ?_
   obtain ⟨ha527,hD⟩ := iT hD
   obtain ⟨ha528,hD⟩ := iT hD
   obtain ⟨v529,hv530,hD⟩ := vB hD
   obtain ⟨r531,hc532,hD⟩ := oB hD
   have hc260k := L_plain_Start_ok hc260
   have hc532k := L_plain_Run_ok hc532
   refine ds 122 [factE 109 hc260k,factE 113 hc532k] [8,9,10,11,15,16,17,18,19,20] [(38,0),(103,0),(118,0)] h fun ac wd h => ?_
   obtain ⟨hb551,hD⟩ := iTe hD
   obtain ⟨hb552,hD⟩ := iTe hD
   obtain ⟨r553,hc554,hD⟩ := oB hD
   obtain ⟨r555,hc556,hD⟩ := oB hD
   obtain ⟨r557,hc558,hD⟩ := oB hD
   obtain ⟨hb559,hD⟩ := iT hD
   obtain ⟨hb560,hD⟩ := iTe hD
   obtain ⟨hb561,hD⟩ := iTe hD
   obtain ⟨r562,hc563,hD⟩ := oB hD
   obtain ⟨r564,hc565,hD⟩ := oB hD
   obtain ⟨hb566,hD⟩ := iT hD
   obtain ⟨r567,hc568,hD⟩ := oB hD
   have hc554k := L_law05_Ref_ok hc554
   have hc556k := L_law05_Ref_ok hc556
   have hc558k := L_ref05_Same_ok hc558
   have hc563k := L_law05_Ref_ok hc563
   have hc556k := L_law05_Ref_ok hc556
   have hc565k := L_ref05_Same_ok hc565
   have hc568k := L_law05_fixed_ok hc568
   refine dsg 159 [factE 134 hc554k,factE 136 hc556k,factE 137 hc558k,factE 150 hc563k,factE 152 hc556k,factE 153 hc565k,factE 156 hc568k] [none,none,none,none,some (some 141,true),some (some 141,true),some (some 141,true),some (some 141,true),some (some 141,true),none,none,some (some 148,true),some (some 148,true),some (some 148,true),some (some 148,true),some (some 148,true),none,none,some (some 155,true),some (some 155,true),none,none,some (some 159,true),some (some 159,true),some (some 159,true),none,none,some (some 164,true),some (some 164,true),some (some 164,true),some (some 164,true),some (some 164,true),none,none,some (some 171,true),none,none] [6] [] h fun ac wd h => ?_
   refine wp_ret ?_
   injection hD with hD
   subst hD
   exact rE h [.tmp 6]
  ·
   refine kT h ?_
   obtain ⟨hb580,hD⟩ := iTe hD
   obtain ⟨hb581,hD⟩ := iTe hD
   obtain ⟨r582,hc583,hD⟩ := oB hD
   obtain ⟨r584,hc585,hD⟩ := oB hD
   obtain ⟨r586,hc587,hD⟩ := oB hD
   obtain ⟨hb588,hD⟩ := iT hD
   obtain ⟨r589,hc590,hD⟩ := oB hD
   have hc583k := L_law05_Ref_ok hc583
   have hc585k := L_law05_Ref_ok hc585
   have hc587k := L_ref05_Same_ok hc587
   have hc590k := L_law05_fixed_ok hc590
   refine dsg 112 [factE 103 hc583k,factE 105 hc585k,factE 106 hc587k,factE 109 hc590k] [none,none,none,none,some (some 102,true),some (some 102,true),some (some 102,true),none,none,some (some 107,true),some (some 107,true),some (some 107,true),some (some 107,true),some (some 107,true),none,none,some (some 114,true),none,none] [6] [] h fun ac wd h => ?_
   refine wp_ret ?_
   injection hD with hD
   subst hD
   exact rE h [.tmp 6]
 ·
  refine kT h ?_
  obtain ⟨r593,hc594,hD⟩ := oB hD
  have hc594k := L_law05_fixed_ok hc594
  refine qs 24 [factE 22 hc594k] [6] [] h fun ac wd h => ?_
  refine wp_ret ?_
  injection hD with hD
  subst hD
  exact rE h [.tmp 6]

end Go.Proofs.Ytifcbecpemaieaa
