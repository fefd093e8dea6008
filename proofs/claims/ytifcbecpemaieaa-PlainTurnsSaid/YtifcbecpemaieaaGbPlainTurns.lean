/- Functions as typed ones,and that the program's functions answer as these do. No condition. -/
import Derived.Test.YtifcbecpemaieaaGb6
import Derived.Test.YtifcbecpemaieaaGb8
import Derived.Test.YtifcbecpemaieaaGdPlainTurns
set_option linter.unusedSimpArgs false
set_option linter.unusedVariables false
set_option maxRecDepth 20000
set_option maxHeartbeats 4000000
namespace Go.Proofs.Ytifcbecpemaieaa
open Go.RowKit

theorem L_law05_PlainTurns_ok {a0 : TApp} {a1 : TConf} {a2 : A2I} {r : Bool} (hD : L_law05_PlainTurns a0 a1 a2 = some r) :
  CallH Try.prog 13 [.agg (cTApp a0),.agg (cTConf a1),.agg (cA2I a2)] []
   (.one (.d (.bool r))) [] := by
 unfold L_law05_PlainTurns at hD
 refine rc Try.func13 rfl Try.ntmps13 fun S Φ P0 wb ac h => ?_
 refine qs 5 [] [3,4,5] [(1,0),(2,0),(3,0)] h fun ac wd h => ?_
 obtain ⟨r142,hc143,hD⟩ := oB hD
 have hc143k := L_law05_Cut_ok hc143
 refine qs 8 [factE 6 hc143k] [3,4,5] [(1,0),(2,0),(3,0)] h fun ac wd h => ?_
 obtain ⟨r146,hc147,hD⟩ := oB hD
 have hc147k := L_law05_CutConf_ok hc147
 refine qs 11 [factE 9 hc147k] [3,4,5] [(1,0),(2,0),(3,0)] h fun ac wd h => ?_
 refine wp_seq ?_
 obtain ⟨r154,hc155,hD⟩ := oB hD
 obtain ⟨r156,hc157,hD⟩ := oB hD
 obtain ⟨r158,hc159,hD⟩ := oB hD
 have hc155k := L_law05_App_ok hc155
 have hc157k := L_law05_Ref_ok hc157
 have hc159k := L_ref05_Right_ok hc159
 refine ds 17 [factE 12 hc155k,factE 14 hc157k,factE 15 hc159k] [3,4,5,25] [(1,0),(2,0),(3,0)] h fun ac wd h => ?_
 rcases i2b hD with ⟨hb174,hD⟩ | ⟨hb174,hD⟩
 ·
  refine kF h ?_
  refine wp_skip ?_
  change Code.wp Try.prog _ _ _ _
  obtain ⟨r187,hc188,hD⟩ := oB hD
  have hc188k := L_plain_Can_ok hc188
  refine qs 21 [factE 19 hc188k] [3,4,5,7] [(1,0),(2,0),(3,0)] h fun ac wd h => ?_
  refine wp_seq ?_
  refine qs 24 [] [3,4,5,7,38] [(1,0),(2,0),(3,0)] h fun ac wd h => ?_
  rcases i2e hD with ⟨hb194,hD⟩ | ⟨hb194,hD⟩
  ·
   refine kT h ?_
   obtain ⟨r217,hc218,hD⟩ := oB hD
   have hc218k := L_law05_fixed_ok hc218
   refine qs 26 [factE 24 hc218k] [6] [] h fun ac wd h => ?_
   refine wp_ret ?_
   injection hD with hD
   subst hD
   exact rE h [.tmp 6]
  ·
   refine kF h ?_
   refine wp_skip ?_
   change Code.wp Try.prog _ _ _ _
   obtain ⟨ha224,hD⟩ := iT hD
   obtain ⟨x225,hx226a,hx226b,hx226c,hx226d,hD⟩ := aB hD
   obtain ⟨x227,hx228a,hx228b,hx228c,hx228d,hD⟩ := aB hD
   refine ds 46 [] [3,4,8,9] [(1,0),(2,0),(42,0),(43,0)] h fun ac wd h => ?_
   refine wp_seq ?_
   obtain ⟨r239,hc240,hD⟩ := oB hD
   obtain ⟨r241,hc242,hD⟩ := oB hD
   obtain ⟨r243,hc244,hD⟩ := oB hD
   obtain ⟨r245,hc246,hD⟩ := oB hD
   obtain ⟨r247,hc248,hD⟩ := oB hD
   have hc240k := L_law03_Ref_ok hc240
   have hc242k := L_law05_Step_ok hc242
   have hc244k := L_law05_Where_ok hc244
   have hc240k := L_law03_Ref_ok hc240
   have hc246k := L_law05_Step_ok hc246
   have hc248k := L_law05_Where_ok hc248
   refine ds 59 [factE 48 hc240k,factE 50 hc242k,factE 51 hc244k,factE 54 hc240k,factE 56 hc246k,factE 57 hc248k] [3,4,8,9,70] [(1,0),(2,0),(42,0),(43,0)] h fun ac wd h => ?_
   rcases i2e hD with ⟨hb254,hD⟩ | ⟨hb254,hD⟩
   ·
    refine kT h ?_
    obtain ⟨r276,hc277,hD⟩ := oB hD
    have hc277k := L_law05_fixed_ok hc277
    refine qs 61 [factE 59 hc277k] [6] [] h fun ac wd h => ?_
    refine wp_ret ?_
    injection hD with hD
    subst hD
    exact rE h [.tmp 6]
   ·
    refine kF h ?_
    refine wp_skip ?_
    change Code.wp Try.prog _ _ _ _
    obtain ⟨r280,hc281,hD⟩ := oB hD
    have hc281k := L_plain_Run_ok hc281
    refine qs 73 [factE 64 hc281k] [3,4,8,9,10,11,12] [(1,0),(2,0),(42,0),(43,0),(69,0)] h fun ac wd h => ?_
    obtain ⟨r284,hc285,hD⟩ := oB hD
    have hc285k := L_plain_Run_ok hc285
    refine qs 87 [factE 78 hc285k] [10,11,12,13,14,15] [(69,0),(83,0)] h fun ac wd h => ?_
    obtain ⟨hb299,hD⟩ := iTe hD
    obtain ⟨hb300,hD⟩ := iTe hD
    obtain ⟨hb301,hD⟩ := iTe hD
    obtain ⟨hb302,hD⟩ := iTe hD
    obtain ⟨r303,hc304,hD⟩ := oB hD
    obtain ⟨r305,hc306,hD⟩ := oB hD
    obtain ⟨r307,hc308,hD⟩ := oB hD
    obtain ⟨hb309,hD⟩ := iT hD
    obtain ⟨r310,hc311,hD⟩ := oB hD
    have hc304k := L_law05_Ref_ok hc304
    have hc306k := L_law05_Ref_ok hc306
    have hc308k := L_ref05_Same_ok hc308
    have hc311k := L_law05_fixed_ok hc311
    refine dsg 112 [factE 103 hc304k,factE 105 hc306k,factE 106 hc308k,factE 109 hc311k] [none,none,none,some (some 94,true),some (some 94,true),none,none,some (some 98,true),some (some 98,true),none,none,some (some 102,true),some (some 102,true),none,none,some (some 106,true),some (some 106,true),some (some 106,true),some (some 106,true),some (some 106,true),none,none,some (some 113,true),none,none] [6] [] h fun ac wd h => ?_
    refine wp_ret ?_
    injection hD with hD
    subst hD
    exact rE h [.tmp 6]
 ·
  refine kT h ?_
  obtain ⟨r317,hc318,hD⟩ := oB hD
  obtain ⟨hb319,hD⟩ := iFb hD
  obtain ⟨r322,hc323,hD⟩ := oB hD
  have hc318k := L_plain_Right_ok hc318
  have hc323k := L_law05_fixed_ok hc323
  refine qsg 25 [factE 19 hc318k,factE 22 hc323k] [none,none,none,none,none,some (some 30,true),none,none] [6] [] h fun ac wd h => ?_
  refine wp_ret ?_
  injection hD with hD
  subst hD
  exact rE h [.tmp 6]

end Go.Proofs.Ytifcbecpemaieaa
