/- Functions as typed ones,and that the program's functions answer as these do. No condition. -/
import Derived.Test.YtabbejabdkkaiaaGreatGb7
import Derived.Test.YtabbejabdkkaiaaGreatGb9
import Derived.Test.YtabbejabdkkaiaaGreatGdProbeTells
set_option linter.unusedSimpArgs false
set_option linter.unusedVariables false
set_option maxRecDepth 20000
set_option maxHeartbeats 4000000
namespace Go.Proofs.YtabbejabdkkaiaaGreat
open Go.RowKit

theorem L_law16_ProbeTells_ok {a0 : TApp} {a1 : THost} {a2 : THeard} {r : Bool} (hD : L_law16_ProbeTells a0 a1 a2 = some r) :
  CallH Tryz.prog 3 [.agg (cTApp a0),.agg (cTHost a1),.agg (cTHeard a2)] []
   (.one (.d (.bool r))) [] := by
 unfold L_law16_ProbeTells at hD
 refine rc Tryz.func3 rfl Tryz.ntmps3 fun S Φ P0 wb ac h => ?_
 refine qs 5 [] [3,4,5] [(1,0),(2,0),(3,0)] h fun ac wd h => ?_
 obtain ⟨aa,ab,hD⟩ := oB hD
 have ad := L_law05_Cut_ok ab
 refine qs 8 [factE 6 ad] [3,4,5] [(1,0),(2,0),(3,0)] h fun ac wd h => ?_
 obtain ⟨ae,af,hD⟩ := oB hD
 obtain ⟨ag,ah,hD⟩ := oB hD
 have ai := L_law05_App_ok af
 have aj := L_law09_Ref_ok ah
 refine ds 16 [factE 9 ai,factE 11 aj] [3,4,5,7,8] [(1,0),(2,0),(3,0),(12,0),(13,0)] h fun ac wd h => ?_
 obtain ⟨ak,hD⟩ := iT hD
 obtain ⟨al,hD⟩ := iT hD
 obtain ⟨am,an,hD⟩ := vB hD
 refine qs 24 [] [3,4,5,7,8,9] [(1,0),(2,0),(3,0),(12,0),(13,0)] h fun ac wd h => ?_
 obtain ⟨ao,ap,hD⟩ := oB hD
 have aq := L_law07_Cut_ok ap
 refine qs 29 [factE 26 aq] [3,4,5,7,8,9,10] [(1,0),(2,0),(3,0),(12,0),(13,0),(27,0)] h fun ac wd h => ?_
 refine wp_seq ?_
 obtain ⟨ar,au,hD⟩ := oB hD
 have av := L_ref09_Right_ok au
 refine qs 33 [factE 31 av] [3,4,5,7,8,9,10,40] [(1,0),(2,0),(3,0),(12,0),(13,0),(27,0)] h fun ac wd h => ?_
 rcases i2b hD with ⟨aw,hD⟩ | ⟨aw,hD⟩
 ·
  refine kF h ?_
  refine wp_skip ?_
  change Code.wp Tryz.prog _ _ _ _
  obtain ⟨ax,ay,hD⟩ := oB hD
  have az := L_probe_Start_ok ay
  refine qs 43 [factE 37 az] [3,4,5,7,8,9,10,11,12] [(1,0),(2,0),(3,0),(12,0),(13,0),(27,0)] h fun ac wd h => ?_
  obtain ⟨aA,aB,hD⟩ := oB hD
  have aC := L_ref16_Start_ok aB
  refine qs 53 [factE 47 aC] [3,4,5,7,8,9,10,11,12,13,14] [(1,0),(2,0),(3,0),(12,0),(13,0),(27,0)] h fun ac wd h => ?_
  refine wp_seq ?_
  obtain ⟨aD,aE,hD⟩ := oB hD
  obtain ⟨aF,aG,hD⟩ := oB hD
  obtain ⟨aH,hD⟩ := iT hD
  have aI := L_law16_Outs_ok aE
  have aJ := L_ref16_Outs_ok aG
  refine qsg 63 [factE 54 aI,factE 56 aJ] [none,none,none,none,none,none,some (some 63,false),some (some 63,false),some (some 63,false),none] [3,4,5,7,8,9,10,67] [(1,0),(2,0),(3,0),(12,0),(13,0),(27,0)] h fun ac wd h => ?_
  obtain ⟨aK,hD⟩ := iTe hD
  refine kF h ?_
  refine wp_skip ?_
  change Code.wp Tryz.prog _ _ _ _
  refine wp_seq ?_
  obtain ⟨aL,aM,hD⟩ := Option.bind_eq_some_iff.1 hD
  refine r_seqJ (fun ac wd => ∃ (aN : Bool),aN = aL ∧ SL ⟨wb,S,Φ,P0⟩ 118 72 [(3,.one (.ptr (1,0) 0)),(4,.one (.ptr (2,0) 0)),(5,.one (.ptr (3,0) 0)),(7,.one (.ptr (12,0) 0)),(8,.one (.ptr (13,0) 0)),(9,.one (.d (.sl (List.map eI am)))),(10,.one (.ptr (27,0) 0)),(76,.one (.d (.bool aN)))] [((1,0),some (.box 27 [.d (.int .i64 aa.G.N),.d (.sl (List.map eA2I aa.G.Links)),.d (.sl (List.map eTNode aa.T)),.d (.bool aa.Fifo)])),((2,0),some (.box 31 (cTHost a1))),((3,0),some (.box 39 (cTHeard a2))),((12,0),some (.box 44 [.d (.int .i64 ae.G.N),.d (.sl (List.map eA2I ae.G.Links)),.d (.sl (List.map eTNode ae.T)),.d (.bool ae.Fifo)])),((13,0),some (.box 46 [.d (.int .i64 ag.Node),.d (.int .i64 ag.State),.d (.int .i64 ag.Steps),.d (.sl (List.map (eL eTMsg) ag.In)),.d (.sl (List.map (eL eI) ag.Out))])),((27,0),some (.box 37 [.d (.int .i64 ao.Kind),.d (.int .i64 ao.Epoch),.d (.int .i64 ao.M.Seq),.d (.int .i64 ao.M.Letter),.d (.sl (List.map eTPiece ao.Pieces)),.d (.int .i64 ao.Init),.d (.int .i64 ao.Num),.d (.int .i64 ao.Count),.d (.sl (List.map eI ao.Path))]))] ac wd) ?_ ?_
  ·
   rcases i2e aM with ⟨aO,aM⟩ | ⟨aO,aM⟩
   ·
    obtain ⟨aP,aQ,aM⟩ := oB aM
    obtain ⟨aR,aS,aM⟩ := oB aM
    have aT := L_law07_Ref_ok aQ
    have aU := L_ref07_Right_ok aS
    refine qeg [factE 68 aT,factE 69 aU] [none,none,none,none,some (some 71,false),some (some 71,false),some (some 71,false),some (some 71,false),none] [3,4,5,7,8,9,10,76] [(1,0),(2,0),(3,0),(12,0),(13,0),(27,0)] h fun ac wd h => ?_
    injection aM with aM; subst aM
    exact ⟨!(aR),rfl,h.z⟩
   ·
    refine qeg [] [none,none,none,none,some (some 71,false),some (some 71,false),some (some 71,false),some (some 71,false),none] [3,4,5,7,8,9,10,76] [(1,0),(2,0),(3,0),(12,0),(13,0),(27,0)] h fun ac wd h => ?_
    injection aM with aM; subst aM
    exact ⟨true,rfl,h.z⟩
  ·
   rintro ac wd ⟨aN,rfl,h⟩
   (try dsimp only at hD)
   rcases i2b hD with ⟨aV,hD⟩ | ⟨aV,hD⟩
   ·
    refine kT h ?_
    obtain ⟨aW,aX,hD⟩ := oB hD
    have aY := L_law16_fixed_ok aX
    refine qs 74 [factE 72 aY] [6] [] h fun ac wd h => ?_
    refine wp_ret ?_
    injection hD with hD
    subst hD
    exact rE h [.tmp 6]
   ·
    refine kF h ?_
    refine wp_skip ?_
    change Code.wp Tryz.prog _ _ _ _
    obtain ⟨aZ,ba,hD⟩ := oB hD
    have bb := L_probe_Hear_ok ba
    refine qs 86 [factE 78 bb] [5,7,8,9,10,15,16,17] [(3,0),(12,0),(13,0),(27,0)] h fun ac wd h => ?_
    obtain ⟨bc,bd,hD⟩ := oB hD
    obtain ⟨be,bf,hD⟩ := oB hD
    have bg := L_law07_Ref_ok bd
    have bh := L_ref16_Hear_ok bf
    refine ds 101 [factE 92 bg,factE 93 bh] [15,16,17,18,19,20] [] h fun ac wd h => ?_
    obtain ⟨bi,bj,hD⟩ := oB hD
    obtain ⟨bk,hD⟩ := iT hD
    obtain ⟨bl,bm,hD⟩ := oB hD
    obtain ⟨bn,bo,hD⟩ := oB hD
    obtain ⟨bp,hD⟩ := iT hD
    obtain ⟨bq,br,hD⟩ := oB hD
    obtain ⟨bs,hD⟩ := iT hD
    obtain ⟨bt,bu,hD⟩ := oB hD
    have bv := L_ref01_Ints_ok bj
    have bw := L_law16_Outs_ok bm
    have bx := L_ref16_Outs_ok bo
    have bz := L_ref01_Ints_ok br
    have bA := L_law16_fixed_ok bu
    refine qsg 119 [factE 103 bv,factE 106 bw,factE 108 bx,factE 113 bz,factE 116 bA] [none,none,none,none,some (some 104,true),some (some 104,true),some (some 104,true),some (some 104,true),none,none,some (some 110,true),some (some 110,true),some (some 110,true),none,none,some (some 115,true),none,none] [6] [] h fun ac wd h => ?_
    refine wp_ret ?_
    injection hD with hD
    subst hD
    exact rE h [.tmp 6]
 ·
  refine kT h ?_
  obtain ⟨bB,bC,hD⟩ := oB hD
  have bD := L_law16_fixed_ok bC
  refine qs 35 [factE 33 bD] [6] [] h fun ac wd h => ?_
  refine wp_ret ?_
  injection hD with hD
  subst hD
  exact rE h [.tmp 6]

end Go.Proofs.YtabbejabdkkaiaaGreat
