/- Functions as typed ones,and that the program's functions answer as these do. No condition. -/
import Derived.Test.YtabbejabdkkaiaaGb2
import Derived.Test.YtabbejabdkkaiaaGb8
import Derived.Test.YtabbejabdkkaiaaGb9
import Derived.Test.YtabbejabdkkaiaaGdCutTurns
set_option linter.unusedSimpArgs false
set_option linter.unusedVariables false
set_option maxRecDepth 20000
set_option maxHeartbeats 4000000
namespace Go.Proofs.Ytabbejabdkkaiaa
open Go.RowKit

theorem L_law17_CutTurns_ok {a0 : TApp} {a1 : TConf} {a2 : TCut} {r : Bool} (hD : L_law17_CutTurns a0 a1 a2 = some r) :
  CallH Try.prog 10 [.agg (cTApp a0),.agg (cTConf a1),.agg (cTCut a2)] []
   (.one (.d (.bool r))) [] := by
 unfold L_law17_CutTurns at hD
 refine rc Try.func10 rfl Try.ntmps10 fun S Φ P0 wb ac h => ?_
 refine qs 5 [] [3,4,5] [(1,0),(2,0),(3,0)] h fun ac wd h => ?_
 obtain ⟨r131,hc132,hD⟩ := oB hD
 have hc132k := L_law05_Cut_ok hc132
 refine qs 8 [factE 6 hc132k] [3,4,5] [(1,0),(2,0),(3,0)] h fun ac wd h => ?_
 obtain ⟨r135,hc136,hD⟩ := oB hD
 have hc136k := L_law05_CutConf_ok hc136
 refine qs 11 [factE 9 hc136k] [3,4,5] [(1,0),(2,0),(3,0)] h fun ac wd h => ?_
 refine wp_seq ?_
 obtain ⟨r143,hc144,hD⟩ := oB hD
 obtain ⟨r145,hc146,hD⟩ := oB hD
 obtain ⟨r147,hc148,hD⟩ := oB hD
 have hc144k := L_law05_App_ok hc144
 have hc146k := L_law05_Ref_ok hc146
 have hc148k := L_ref05_Right_ok hc148
 refine ds 17 [factE 12 hc144k,factE 14 hc146k,factE 15 hc148k] [3,4,5,29] [(1,0),(2,0),(3,0)] h fun ac wd h => ?_
 rcases i2b hD with ⟨hb163,hD⟩ | ⟨hb163,hD⟩
 ·
  refine kF h ?_
  refine wp_skip ?_
  change Code.wp Try.prog _ _ _ _
  obtain ⟨r202,hc203,hD⟩ := oB hD
  have hc203k := L_law17_doable_ok hc203
  refine qs 23 [factE 21 hc203k] [3,4,5,7] [(1,0),(2,0),(3,0)] h fun ac wd h => ?_
  obtain ⟨r206,hc207,hD⟩ := oB hD
  have hc207k := L_cut_Split_ok hc207
  refine qs 34 [factE 28 hc207k] [3,4,5,7,8,9] [(1,0),(2,0),(3,0)] h fun ac wd h => ?_
  obtain ⟨r210,hc211,hD⟩ := oB hD
  have hc211k := L_plain_Run_ok hc211
  refine qs 46 [factE 37 hc211k] [3,4,5,7,8,9,10,11,12] [(1,0),(2,0),(3,0),(42,0)] h fun ac wd h => ?_
  obtain ⟨r214,hc215,hD⟩ := oB hD
  have hc215k := L_plain_Run_ok hc215
  refine qs 58 [factE 49 hc215k] [3,4,5,7,8,9,10,11,12,14,15] [(1,0),(2,0),(3,0),(42,0)] h fun ac wd h => ?_
  refine wp_seq ?_
  obtain ⟨e243,hE244,hD⟩ := Option.bind_eq_some_iff.1 hD
  refine r_seqJ (fun ac wd => ∃ (b242 : Bool),b242 = e243 ∧ SL ⟨wb,S,Φ,P0⟩ 131 87 [(3,.one (.ptr (1,0) 0)),(4,.one (.ptr (2,0) 0)),(7,.one (.d (.sl (List.map eTStep r202)))),(8,.one (.d (.sl (List.map eTStep r206.1)))),(9,.one (.d (.sl (List.map eTStep r206.2)))),(10,.one (.ptr (42,0) 0)),(15,.one (.d (.int .i64 r214.2.2))),(95,.one (.d (.bool b242)))] [((1,0),some (.box 53 [.d (.int .i64 r131.G.N),.d (.sl (List.map eA2I r131.G.Links)),.d (.sl (List.map eTNode r131.T)),.d (.bool r131.Fifo)])),((2,0),some (.box 104 [.d (.sl (List.map eI r135.States)),.d (.sl (List.map (eL eTMsg) r135.Links)),.d (.sl (List.map eI r135.Sent))])),((42,0),some (.box 104 [.d (.sl (List.map eI r210.1.States)),.d (.sl (List.map (eL eTMsg) r210.1.Links)),.d (.sl (List.map eI r210.1.Sent))]))] ac wd) ?_ ?_
  ·
   rcases i2e hE244 with ⟨hb245,hE244⟩ | ⟨hb245,hE244⟩
   ·
    rcases i2e hE244 with ⟨hb252,hE244⟩ | ⟨hb252,hE244⟩
    ·
     obtain ⟨r258,hc259,hE244⟩ := oB hE244
     rcases i2e hE244 with ⟨hb260,hE244⟩ | ⟨hb260,hE244⟩
     ·
      rcases i2e hE244 with ⟨hb263,hE244⟩ | ⟨hb263,hE244⟩
      ·
       rcases i2e hE244 with ⟨hb266,hE244⟩ | ⟨hb266,hE244⟩
       ·
        have hc259k := L_cut_Good_ok hc259
        refine qeg [factE 72 hc259k] [none,none,none,some (some 69,false),some (some 69,false),some (some 69,false),some (some 69,false),none,none,some (some 75,false),some (some 75,false),some (some 75,false),some (some 75,false),some (some 75,false),some (some 75,false),some (some 75,false),some (some 75,false),some (some 75,false),none,none,some (some 86,false),some (some 86,false),some (some 86,false),some (some 89,true),some (some 89,true),some (some 89,true),some (some 89,true),some (some 86,false),none] [3,4,7,8,9,10,15,95] [(1,0),(2,0),(42,0)] h fun ac wd h => ?_
        injection hE244 with hE244; subst hE244
        exact ⟨!(decide (r214.2.1 = (r206.1.length : Int))),rfl,h.z⟩
       ·
        have hc259k := L_cut_Good_ok hc259
        refine qeg [factE 72 hc259k] [none,none,none,some (some 69,false),some (some 69,false),some (some 69,false),some (some 69,false),none,none,some (some 75,false),some (some 75,false),some (some 75,false),some (some 75,false),some (some 75,false),some (some 75,false),some (some 75,false),some (some 75,false),some (some 75,false),none,none,some (some 86,false),some (some 86,false),some (some 86,false),some (some 89,true),some (some 89,true),some (some 89,true),some (some 89,true),some (some 86,false),none] [3,4,7,8,9,10,15,95] [(1,0),(2,0),(42,0)] h fun ac wd h => ?_
        injection hE244 with hE244; subst hE244
        exact ⟨true,rfl,h.z⟩
      ·
       rcases i2e hE244 with ⟨hb267,hE244⟩ | ⟨hb267,hE244⟩
       ·
        have hc259k := L_cut_Good_ok hc259
        refine qeg [factE 72 hc259k] [none,none,none,some (some 69,false),some (some 69,false),some (some 69,false),some (some 69,false),none,none,some (some 75,false),some (some 75,false),some (some 75,false),some (some 75,false),some (some 75,false),some (some 75,false),some (some 75,false),some (some 75,false),some (some 75,false),none,none,some (some 86,false),some (some 86,false),some (some 86,false),some (some 89,true),some (some 89,true),some (some 89,true),some (some 89,true),some (some 86,false),none] [3,4,7,8,9,10,15,95] [(1,0),(2,0),(42,0)] h fun ac wd h => ?_
        injection hE244 with hE244; subst hE244
        exact ⟨false,rfl,h.z⟩
       ·
        have hc259k := L_cut_Good_ok hc259
        refine qeg [factE 72 hc259k] [none,none,none,some (some 69,false),some (some 69,false),some (some 69,false),some (some 69,false),none,none,some (some 75,false),some (some 75,false),some (some 75,false),some (some 75,false),some (some 75,false),some (some 75,false),some (some 75,false),some (some 75,false),some (some 75,false),none,none,some (some 86,false),some (some 86,false),some (some 86,false),some (some 89,true),some (some 89,true),some (some 89,true),some (some 89,true),some (some 86,false),none] [3,4,7,8,9,10,15,95] [(1,0),(2,0),(42,0)] h fun ac wd h => ?_
        injection hE244 with hE244; subst hE244
        exact ⟨true,rfl,h.z⟩
     ·
      have hc259k := L_cut_Good_ok hc259
      refine qeg [factE 72 hc259k] [none,none,none,some (some 69,false),some (some 69,false),some (some 69,false),some (some 69,false),none,none,some (some 75,false),some (some 75,false),some (some 75,false),some (some 75,false),some (some 75,false),some (some 75,false),some (some 75,false),some (some 75,false),some (some 75,false),none,none,some (some 86,false),some (some 86,false),some (some 86,false),some (some 89,true),some (some 89,true),some (some 89,true),some (some 89,true),some (some 86,false),none] [3,4,7,8,9,10,15,95] [(1,0),(2,0),(42,0)] h fun ac wd h => ?_
      injection hE244 with hE244; subst hE244
      exact ⟨true,rfl,h.z⟩
    ·
     refine qeg [] [none,none,none,some (some 69,false),some (some 69,false),some (some 69,false),some (some 69,false),none,none,some (some 75,false),some (some 75,false),some (some 75,false),some (some 75,false),some (some 75,false),some (some 75,false),some (some 75,false),some (some 75,false),some (some 75,false),none,none,some (some 86,false),some (some 86,false),some (some 86,false),some (some 89,true),some (some 89,true),some (some 89,true),some (some 89,true),some (some 86,false),none] [3,4,7,8,9,10,15,95] [(1,0),(2,0),(42,0)] h fun ac wd h => ?_
     injection hE244 with hE244; subst hE244
     exact ⟨true,rfl,h.z⟩
   ·
    refine qeg [] [none,none,none,some (some 69,false),some (some 69,false),some (some 69,false),some (some 69,false),none,none,some (some 75,false),some (some 75,false),some (some 75,false),some (some 75,false),some (some 75,false),some (some 75,false),some (some 75,false),some (some 75,false),some (some 75,false),none,none,some (some 86,false),some (some 86,false),some (some 86,false),some (some 89,true),some (some 89,true),some (some 89,true),some (some 89,true),some (some 86,false),none] [3,4,7,8,9,10,15,95] [(1,0),(2,0),(42,0)] h fun ac wd h => ?_
    injection hE244 with hE244; subst hE244
    exact ⟨true,rfl,h.z⟩
  ·
   rintro ac wd ⟨b242,rfl,h⟩
   (try dsimp only at hD)
   obtain ⟨hb269,hD⟩ := iFb hD
   refine kF h ?_
   refine wp_skip ?_
   change Code.wp Try.prog _ _ _ _
   refine wp_seq ?_
   refine qs 89 [] [3,4,7,8,9,10,97] [(1,0),(2,0),(42,0)] h fun ac wd h => ?_
   rcases i2e hD with ⟨hb291,hD⟩ | ⟨hb291,hD⟩
   ·
    refine kF h ?_
    refine wp_skip ?_
    change Code.wp Try.prog _ _ _ _
    obtain ⟨ha310,hD⟩ := iT hD
    refine qs 93 [] [3,4,7,9,10,16] [(1,0),(2,0),(42,0),(91,0)] h fun ac wd h => ?_
    obtain ⟨ha312,hD⟩ := iT hD
    refine qs 97 [] [3,4,7,10,16] [(1,0),(2,0),(42,0),(95,0)] h fun ac wd h => ?_
    obtain ⟨r315,hc316,hD⟩ := oB hD
    have h := h.fz [(95,0)]
    have hc316k := L_plain_Run_ok hc316
    refine qs 109 [factE 100 hc316k] [7,10,17,18,19] [(42,0),(105,0)] h fun ac wd h => ?_
    obtain ⟨hb328,hD⟩ := iTe hD
    obtain ⟨hb329,hD⟩ := iTe hD
    obtain ⟨r330,hc331,hD⟩ := oB hD
    obtain ⟨r332,hc333,hD⟩ := oB hD
    obtain ⟨r334,hc335,hD⟩ := oB hD
    obtain ⟨hb336,hD⟩ := iT hD
    obtain ⟨r337,hc338,hD⟩ := oB hD
    have hc331k := L_law05_Ref_ok hc331
    have hc333k := L_law05_Ref_ok hc333
    have hc335k := L_ref05_Same_ok hc335
    have hc338k := L_law17_fixed_ok hc338
    refine dsg 128 [factE 119 hc331k,factE 121 hc333k,factE 122 hc335k,factE 125 hc338k] [none,none,none,some (some 115,true),some (some 115,true),some (some 115,true),some (some 115,true),none,none,some (some 121,true),some (some 121,true),some (some 121,true),some (some 121,true),some (some 121,true),none,none,some (some 128,true),none,none] [6] [] h fun ac wd h => ?_
    refine wp_ret ?_
    injection hD with hD
    subst hD
    exact rE h [.tmp 6]
   ·
    refine kT h ?_
    obtain ⟨r341,hc342,hD⟩ := oB hD
    have hc342k := L_law17_fixed_ok hc342
    refine qs 91 [factE 89 hc342k] [6] [] h fun ac wd h => ?_
    refine wp_ret ?_
    injection hD with hD
    subst hD
    exact rE h [.tmp 6]
 ·
  refine kT h ?_
  obtain ⟨r348,hc349,hD⟩ := oB hD
  obtain ⟨hb350,hD⟩ := iFb hD
  obtain ⟨r353,hc354,hD⟩ := oB hD
  have hc349k := L_plain_Right_ok hc349
  have hc354k := L_law17_fixed_ok hc354
  refine qsg 25 [factE 19 hc349k,factE 22 hc354k] [none,none,none,none,none,some (some 34,true),none,none] [6] [] h fun ac wd h => ?_
  refine wp_ret ?_
  injection hD with hD
  subst hD
  exact rE h [.tmp 6]

end Go.Proofs.Ytabbejabdkkaiaa
