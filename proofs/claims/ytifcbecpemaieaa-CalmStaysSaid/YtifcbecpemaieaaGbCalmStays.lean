/- Functions as typed ones,and that the program's functions answer as these do. No condition. -/
import Derived.Test.YtifcbecpemaieaaGb2
import Derived.Test.YtifcbecpemaieaaGb6
import Derived.Test.YtifcbecpemaieaaGb8
import Derived.Test.YtifcbecpemaieaaGdCalmStays
set_option linter.unusedSimpArgs false
set_option linter.unusedVariables false
set_option maxRecDepth 20000
set_option maxHeartbeats 4000000
namespace Go.Proofs.Ytifcbecpemaieaa
open Go.RowKit

theorem L_law14_CalmStays_ok {a0 : TApp} {a1 : TConf} {a2 : TStep} {r : Bool} (hD : L_law14_CalmStays a0 a1 a2 = some r) :
  CallH Try.prog 9 [.agg (cTApp a0),.agg (cTConf a1),.agg (cTStep a2)] []
   (.one (.d (.bool r))) [] := by
 unfold L_law14_CalmStays at hD
 refine rc Try.func9 rfl Try.ntmps9 fun S Φ P0 wb ac h => ?_
 refine qs 5 [] [3,4,5] [(1,0),(2,0),(3,0)] h fun ac wd h => ?_
 obtain ⟨r122,hc123,hD⟩ := oB hD
 have hc123k := L_law05_Cut_ok hc123
 refine qs 8 [factE 6 hc123k] [3,4,5] [(1,0),(2,0),(3,0)] h fun ac wd h => ?_
 obtain ⟨r126,hc127,hD⟩ := oB hD
 have hc127k := L_law05_CutConf_ok hc127
 refine qs 11 [factE 9 hc127k] [3,4,5] [(1,0),(2,0),(3,0)] h fun ac wd h => ?_
 refine wp_seq ?_
 obtain ⟨r134,hc135,hD⟩ := oB hD
 obtain ⟨r136,hc137,hD⟩ := oB hD
 obtain ⟨r138,hc139,hD⟩ := oB hD
 have hc135k := L_law05_App_ok hc135
 have hc137k := L_law05_Ref_ok hc137
 have hc139k := L_ref05_Right_ok hc139
 refine ds 17 [factE 12 hc135k,factE 14 hc137k,factE 15 hc139k] [3,4,5,19] [(1,0),(2,0),(3,0)] h fun ac wd h => ?_
 rcases i2b hD with ⟨hb154,hD⟩ | ⟨hb154,hD⟩
 ·
  refine kF h ?_
  refine wp_skip ?_
  change Code.wp Try.prog _ _ _ _
  obtain ⟨r176,hc177,hD⟩ := oB hD
  have hc177k := L_plain_Can_ok hc177
  refine qs 21 [factE 19 hc177k] [3,4,5,7] [(1,0),(2,0),(3,0)] h fun ac wd h => ?_
  refine wp_seq ?_
  obtain ⟨r180,hc181,hD⟩ := oB hD
  have hc181k := L_calm_Over_ok hc181
  refine qs 24 [factE 23 hc181k] [3,4,5,7,32] [(1,0),(2,0),(3,0)] h fun ac wd h => ?_
  rcases i2b hD with ⟨hb204,hD⟩ | ⟨hb204,hD⟩
  ·
   refine kT h ?_
   obtain ⟨r219,hc220,hD⟩ := oB hD
   have hc220k := L_plain_Apply_ok hc220
   refine qs 34 [factE 27 hc220k] [4,7,9] [(2,0)] h fun ac wd h => ?_
   obtain ⟨hb228,hD⟩ := iTe hD
   obtain ⟨hb229,hD⟩ := iF hD
   obtain ⟨r235,hc236,hD⟩ := oB hD
   obtain ⟨hb237,hD⟩ := iTe hD
   obtain ⟨r238,hc239,hD⟩ := oB hD
   have hc236k := L_calm_Way_ok hc236
   have hc239k := L_law14_fixed_ok hc239
   refine qsg 50 [factE 43 hc236k,factE 47 hc239k] [none,none,none,none,some (some 43,true),some (some 43,true),none,none,some (some 47,true),some (some 47,true),some (some 47,true),none,none,some (some 52,true),none,none] [6] [] h fun ac wd h => ?_
   refine wp_ret ?_
   injection hD with hD
   subst hD
   exact rE h [.tmp 6]
  ·
   refine kF h ?_
   refine wp_skip ?_
   change Code.wp Try.prog _ _ _ _
   obtain ⟨e249,hE250,hD⟩ := Option.bind_eq_some_iff.1 hD
   refine r_seqJ (fun ac wd => ∃ (b248 : Bool),b248 = e249 ∧ SL ⟨wb,S,Φ,P0⟩ 66 36 [(6,.one (.d (.bool b248)))] [] ac wd) ?_ ?_
   ·
    rcases i2 hE250 with ⟨hb251,hE250⟩ | ⟨hb251,hE250⟩
    ·
     obtain ⟨r259,hc260,hE250⟩ := oB hE250
     have hc260k := L_law14_fixed_ok hc260
     refine qeg [factE 33 hc260k] [none,none,none,none,some (some 58,false),some (some 58,false),some (some 58,false),none,none,some (some 63,true),none,none] [6] [] h fun ac wd h => ?_
     injection hE250 with hE250; subst hE250
     exact ⟨r259,rfl,h.z⟩
    ·
     obtain ⟨r261,hc262,hE250⟩ := oB hE250
     rcases i2e hE250 with ⟨hb263,hE250⟩ | ⟨hb263,hE250⟩
     ·
      obtain ⟨r266,hc267,hE250⟩ := oB hE250
      have hc262k := L_calm_Way_ok hc262
      have hc267k := L_law14_fixed_ok hc267
      refine qeg [factE 29 hc262k,factE 33 hc267k] [none,none,none,none,some (some 58,false),some (some 58,false),some (some 58,false),none,none,some (some 63,true),none,none] [6] [] h fun ac wd h => ?_
      injection hE250 with hE250; subst hE250
      exact ⟨r266,rfl,h.z⟩
     ·
      have hc262k := L_calm_Way_ok hc262
      refine qeg [factE 29 hc262k] [none,none,none,none,some (some 58,false),some (some 58,false),some (some 58,false),none,none,some (some 63,true),none,none] [6] [] h fun ac wd h => ?_
      injection hE250 with hE250; subst hE250
      exact ⟨false,rfl,h.z⟩
   ·
    rintro ac wd ⟨b248,rfl,h⟩
    (try dsimp only at hD)
    refine wp_ret ?_
    injection hD with hD
    subst hD
    exact rE h [.tmp 6]
 ·
  refine kT h ?_
  obtain ⟨r273,hc274,hD⟩ := oB hD
  obtain ⟨hb275,hD⟩ := iFb hD
  obtain ⟨r278,hc279,hD⟩ := oB hD
  have hc274k := L_plain_Right_ok hc274
  have hc279k := L_law14_fixed_ok hc279
  refine qsg 25 [factE 19 hc274k,factE 22 hc279k] [none,none,none,none,none,some (some 24,true),none,none] [6] [] h fun ac wd h => ?_
  refine wp_ret ?_
  injection hD with hD
  subst hD
  exact rE h [.tmp 6]

end Go.Proofs.Ytifcbecpemaieaa
