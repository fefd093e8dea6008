/- Functions as typed ones,and that the program's functions answer as these do. No condition. -/
import Derived.Test.YtabbejabdkkaiaaGb2
import Derived.Test.YtabbejabdkkaiaaGb8
import Derived.Test.YtabbejabdkkaiaaGdCutFirst
set_option linter.unusedSimpArgs false
set_option linter.unusedVariables false
set_option maxRecDepth 20000
set_option maxHeartbeats 4000000
namespace Go.Proofs.Ytabbejabdkkaiaa
open Go.RowKit

theorem L_law17_CutFirst_ok {a0 : TApp} {a1 : (List TStep)} {a2 : Int} {r : Bool} (hD : L_law17_CutFirst a0 a1 a2 = some r) :
  CallH Try.prog 9 [.agg (cTApp a0),.one (.d (.sl (List.map eTStep a1))),.one (.d (.int .u8 a2))] []
   (.one (.d (.bool r))) [] := by
 unfold L_law17_CutFirst at hD
 refine rc Try.func9 rfl Try.ntmps9 fun S Φ P0 wb ac h => ?_
 refine qs 3 [] [1,2,3] [(1,0)] h fun ac wd h => ?_
 obtain ⟨r106,hc107,hD⟩ := oB hD
 have hc107k := L_law05_Cut_ok hc107
 refine qs 6 [factE 4 hc107k] [1,2,3] [(1,0)] h fun ac wd h => ?_
 obtain ⟨r110,hc111,hD⟩ := oB hD
 have hc111k := L_law05_App_ok hc111
 refine qs 10 [factE 7 hc111k] [1,2,3,7] [(1,0),(8,0)] h fun ac wd h => ?_
 obtain ⟨r114,hc115,hD⟩ := oB hD
 have hc115k := L_ref05_Start_ok hc115
 refine qs 14 [factE 11 hc115k] [1,2,3,7,8] [(1,0),(8,0),(12,0)] h fun ac wd h => ?_
 refine wp_seq ?_
 obtain ⟨r118,hc119,hD⟩ := oB hD
 have hc119k := L_ref05_Right_ok hc119
 refine qs 18 [factE 16 hc119k] [1,2,3,7,8,23] [(1,0),(8,0),(12,0)] h fun ac wd h => ?_
 rcases i2b hD with ⟨hb125,hD⟩ | ⟨hb125,hD⟩
 ·
  refine kF h ?_
  refine wp_skip ?_
  change Code.wp Try.prog _ _ _ _
  refine qs 27 [] [1,2,3,7,9] [(1,0),(8,0),(25,0)] h fun ac wd h => ?_
  obtain ⟨r167,hc168,hD⟩ := oB hD
  have hc168k := L_law17_doable_ok hc168
  refine qs 32 [factE 30 hc168k] [1,2,3,7,9] [(1,0),(8,0),(25,0)] h fun ac wd h => ?_
  obtain ⟨ha170,hD⟩ := iT hD
  refine qs 39 [] [1,3,7,9,10] [(1,0),(8,0),(25,0)] h fun ac wd h => ?_
  obtain ⟨ha177,hD⟩ := iT hD
  obtain ⟨ha178,hD⟩ := iT hD
  obtain ⟨v179,hv180,hD⟩ := vB hD
  obtain ⟨r181,hc182,hD⟩ := oB hD
  have hc182k := L_cut_Counts_ok hc182
  refine ds 46 [factE 44 hc182k] [1,3,7,9,10,11] [(1,0),(8,0),(25,0)] h fun ac wd h => ?_
  obtain ⟨r185,hc186,hD⟩ := oB hD
  have hc186k := L_cut_Split_ok hc186
  refine qs 56 [factE 50 hc186k] [1,3,7,9,10,11,12,13] [(1,0),(8,0),(25,0)] h fun ac wd h => ?_
  obtain ⟨r213,hc214,hD⟩ := oB hD
  obtain ⟨r215,hc216,hD⟩ := oB hD
  obtain ⟨r217,hc218,hD⟩ := oB hD
  obtain ⟨hb219,hD⟩ := iT hD
  obtain ⟨r220,hc221,hD⟩ := oB hD
  obtain ⟨r222,hc223,hD⟩ := oB hD
  obtain ⟨hb224,hD⟩ := iT hD
  obtain ⟨r225,hc226,hD⟩ := oB hD
  obtain ⟨v227,hv228,hD⟩ := vB hD
  obtain ⟨r229,hc230,hD⟩ := oB hD
  obtain ⟨r231,hc232,hD⟩ := oB hD
  obtain ⟨hb233,hD⟩ := iT hD
  obtain ⟨r234,hc235,hD⟩ := oB hD
  obtain ⟨hb236,hD⟩ := iT hD
  obtain ⟨r237,hc238,hD⟩ := oB hD
  have hc214k := L_law05_Steps_ok hc214
  have hc216k := L_ref17_Counts_ok hc216
  have hc218k := L_ref01_Ints_ok hc218
  have hc221k := L_law05_Steps_ok hc221
  have hc214k := L_law05_Steps_ok hc214
  have hc223k := L_ref05_Steps_ok hc223
  have hc226k := L_law05_Steps_ok hc226
  have hc230k := L_law05_Steps_ok hc230
  have hc232k := L_ref05_Steps_ok hc232
  have hc235k := L_cut_Good_ok hc235
  have hc238k := L_law17_fixed_ok hc238
  refine dsg 94 [factE 62 hc214k,factE 63 hc216k,factE 64 hc218k,factE 67 hc221k,factE 71 hc214k,factE 72 hc223k,factE 76 hc226k,factE 80 hc230k,factE 81 hc232k,factE 88 hc235k,factE 91 hc238k] [none,none,none,none,none,none,none,none,none,none,some (some 65,true),some (some 65,true),some (some 65,true),some (some 65,true),some (some 65,true),some (some 65,true),some (some 65,true),none,none,some (some 74,true),some (some 74,true),some (some 74,true),some (some 74,true),some (some 74,true),some (some 74,true),some (some 74,true),none,none,some (some 83,true),some (some 83,true),some (some 83,true),some (some 83,true),some (some 83,true),none,none,some (some 90,true),none,none] [6] [] h fun ac wd h => ?_
  refine wp_ret ?_
  injection hD with hD
  subst hD
  exact rE h [.tmp 6]
 ·
  refine kT h ?_
  obtain ⟨r241,hc242,hD⟩ := oB hD
  have hc242k := L_law17_fixed_ok hc242
  refine qs 20 [factE 18 hc242k] [6] [] h fun ac wd h => ?_
  refine wp_ret ?_
  injection hD with hD
  subst hD
  exact rE h [.tmp 6]

end Go.Proofs.Ytabbejabdkkaiaa
