/- Functions as typed ones,and that the program's functions answer as these do. No condition. -/
import Derived.Test.YtabbejabdkkaiaaGb8
import Derived.Test.YtabbejabdkkaiaaGdProbeOnce
set_option linter.unusedSimpArgs false
set_option linter.unusedVariables false
set_option maxRecDepth 20000
set_option maxHeartbeats 4000000
namespace Go.Proofs.Ytabbejabdkkaiaa
open Go.RowKit

theorem L_law16_ProbeOnce_ok {a0 : TApp} {a1 : THost} {a2 : THeard} {r : Bool} (hD : L_law16_ProbeOnce a0 a1 a2 = some r) :
  CallH Try.prog 4 [.agg (cTApp a0),.agg (cTHost a1),.agg (cTHeard a2)] []
   (.one (.d (.bool r))) [] := by
 unfold L_law16_ProbeOnce at hD
 refine rc Try.func4 rfl Try.ntmps4 fun S Φ P0 wb ac h => ?_
 refine qs 5 [] [3,4,5] [(1,0),(2,0),(3,0)] h fun ac wd h => ?_
 obtain ⟨aa,ab,hD⟩ := oB hD
 have ad := L_law05_Cut_ok ab
 refine qs 8 [factE 6 ad] [3,4,5] [(1,0),(2,0),(3,0)] h fun ac wd h => ?_
 obtain ⟨ae,af,hD⟩ := oB hD
 have ag := L_law07_Cut_ok af
 refine qs 13 [factE 10 ag] [3,4,5,7] [(1,0),(2,0),(3,0),(11,0)] h fun ac wd h => ?_
 obtain ⟨ah,hD⟩ := iT hD
 obtain ⟨ai,hD⟩ := iT hD
 obtain ⟨aj,ak,hD⟩ := vB hD
 refine qs 21 [] [3,4,5,7,8] [(1,0),(2,0),(3,0),(11,0)] h fun ac wd h => ?_
 refine wp_seq ?_
 obtain ⟨al,am,hD⟩ := Option.bind_eq_some_iff.1 hD
 refine r_seqJ (fun ac wd => ∃ (an : Bool),an = al ∧ SL ⟨wb,S,Φ,P0⟩ 179 38 [(3,.one (.ptr (1,0) 0)),(4,.one (.ptr (2,0) 0)),(5,.one (.ptr (3,0) 0)),(7,.one (.ptr (11,0) 0)),(8,.one (.d (.sl (List.map eI aj)))),(48,.one (.d (.bool an)))] [((1,0),some (.box 53 [.d (.int .i64 aa.G.N),.d (.sl (List.map eA2I aa.G.Links)),.d (.sl (List.map eTNode aa.T)),.d (.bool aa.Fifo)])),((2,0),some (.box 57 (cTHost a1))),((3,0),some (.box 64 (cTHeard a2))),((11,0),some (.box 62 [.d (.int .i64 ae.Kind),.d (.int .i64 ae.Epoch),.d (.int .i64 ae.M.Seq),.d (.int .i64 ae.M.Letter),.d (.sl (List.map eTPiece ae.Pieces)),.d (.int .i64 ae.Init),.d (.int .i64 ae.Num),.d (.int .i64 ae.Count),.d (.sl (List.map eI ae.Path))]))] ac wd) ?_ ?_
 ·
  obtain ⟨ao,ap,am⟩ := oB am
  obtain ⟨aq,ar,am⟩ := oB am
  obtain ⟨au,av,am⟩ := oB am
  rcases i2b am with ⟨aw,am⟩ | ⟨aw,am⟩
  ·
   rcases i2e am with ⟨ax,am⟩ | ⟨ax,am⟩
   ·
    obtain ⟨ay,az,am⟩ := oB am
    obtain ⟨aA,aB,am⟩ := oB am
    have aC := L_law05_App_ok ap
    have aD := L_law09_Ref_ok ar
    have aE := L_ref09_Right_ok av
    have aF := L_law07_Ref_ok az
    have aG := L_ref07_Right_ok aB
    refine deg [factE 22 aC,factE 24 aD,factE 25 aE,factE 34 aF,factE 35 aG] [none,none,none,none,none,none,none,some (some 38,false),some (some 38,false),some (some 38,false),none,none,some (some 43,false),some (some 43,false),some (some 43,false),some (some 43,false),none] [3,4,5,7,8,48] [(1,0),(2,0),(3,0),(11,0)] h fun ac wd h => ?_
    injection am with am; subst am
    exact ⟨!(aA),rfl,h.z⟩
   ·
    have aC := L_law05_App_ok ap
    have aD := L_law09_Ref_ok ar
    have aE := L_ref09_Right_ok av
    refine deg [factE 22 aC,factE 24 aD,factE 25 aE] [none,none,none,none,none,none,none,some (some 38,false),some (some 38,false),some (some 38,false),none,none,some (some 43,false),some (some 43,false),some (some 43,false),some (some 43,false),none] [3,4,5,7,8,48] [(1,0),(2,0),(3,0),(11,0)] h fun ac wd h => ?_
    injection am with am; subst am
    exact ⟨true,rfl,h.z⟩
  ·
   have aC := L_law05_App_ok ap
   have aD := L_law09_Ref_ok ar
   have aE := L_ref09_Right_ok av
   refine deg [factE 22 aC,factE 24 aD,factE 25 aE] [none,none,none,none,none,none,none,some (some 38,false),some (some 38,false),some (some 38,false),none,none,some (some 43,false),some (some 43,false),some (some 43,false),some (some 43,false),none] [3,4,5,7,8,48] [(1,0),(2,0),(3,0),(11,0)] h fun ac wd h => ?_
   injection am with am; subst am
   exact ⟨true,rfl,h.z⟩
 ·
  rintro ac wd ⟨an,rfl,h⟩
  (try dsimp only at hD)
  rcases i2b hD with ⟨aH,hD⟩ | ⟨aH,hD⟩
  ·
   refine kT h ?_
   obtain ⟨aI,aJ,hD⟩ := oB hD
   have aK := L_law16_fixed_ok aJ
   refine qs 40 [factE 38 aK] [6] [] h fun ac wd h => ?_
   refine wp_ret ?_
   injection hD with hD
   subst hD
   exact rE h [.tmp 6]
  ·
   refine kF h ?_
   refine wp_skip ?_
   change Code.wp Try.prog _ _ _ _
   obtain ⟨aL,aM,hD⟩ := oB hD
   have aN := L_probe_Hear_ok aM
   refine qs 52 [factE 44 aN] [3,4,5,7,8,9,10,11] [(1,0),(2,0),(3,0),(11,0)] h fun ac wd h => ?_
   refine wp_seq ?_
   obtain ⟨aO,aP,hD⟩ := Option.bind_eq_some_iff.1 hD
   refine r_seqJ (fun ac wd => ∃ (aQ : Bool),aQ = aO ∧ SL ⟨wb,S,Φ,P0⟩ 179 79 [(3,.one (.ptr (1,0) 0)),(4,.one (.ptr (2,0) 0)),(5,.one (.ptr (3,0) 0)),(7,.one (.ptr (11,0) 0)),(8,.one (.d (.sl (List.map eI aj)))),(9,.one (.d (.sl (List.map eI aL.1)))),(10,.one (.d (.sl (List.map eTOut aL.2.1)))),(11,.one (.d (.sl (List.map eI aL.2.2)))),(87,.one (.d (.bool aQ)))] [((1,0),some (.box 53 [.d (.int .i64 aa.G.N),.d (.sl (List.map eA2I aa.G.Links)),.d (.sl (List.map eTNode aa.T)),.d (.bool aa.Fifo)])),((2,0),some (.box 57 (cTHost a1))),((3,0),some (.box 64 (cTHeard a2))),((11,0),some (.box 62 [.d (.int .i64 ae.Kind),.d (.int .i64 ae.Epoch),.d (.int .i64 ae.M.Seq),.d (.int .i64 ae.M.Letter),.d (.sl (List.map eTPiece ae.Pieces)),.d (.int .i64 ae.Init),.d (.int .i64 ae.Num),.d (.int .i64 ae.Count),.d (.sl (List.map eI ae.Path))]))] ac wd) ?_ ?_
   ·
    rcases i2 aP with ⟨aR,aP⟩ | ⟨aR,aP⟩
    ·
     rcases i2 aP with ⟨aS,aP⟩ | ⟨aS,aP⟩
     ·
      refine qeg [] [none,none,none,none,some (some 64,true),some (some 64,true),some (some 64,true),none,none,some (some 69,false),some (some 69,false),some (some 69,false),some (some 69,false),some (some 73,true),some (some 73,true),some (some 73,true),some (some 73,true),some (some 73,true),some (some 73,true),some (some 79,false),some (some 79,false),some (some 79,false),some (some 79,false),some (some 79,false),some (some 73,true),some (some 69,false),none] [3,4,5,7,8,9,10,11,87] [(1,0),(2,0),(3,0),(11,0)] h fun ac wd h => ?_
      injection aP with aP; subst aP
      exact ⟨true,rfl,h.z⟩
     ·
      refine qeg [] [none,none,none,none,some (some 64,true),some (some 64,true),some (some 64,true),none,none,some (some 69,false),some (some 69,false),some (some 69,false),some (some 69,false),some (some 73,true),some (some 73,true),some (some 73,true),some (some 73,true),some (some 73,true),some (some 73,true),some (some 79,false),some (some 79,false),some (some 79,false),some (some 79,false),some (some 79,false),some (some 73,true),some (some 69,false),none] [3,4,5,7,8,9,10,11,87] [(1,0),(2,0),(3,0),(11,0)] h fun ac wd h => ?_
      injection aP with aP; subst aP
      exact ⟨false,rfl,h.z⟩
    ·
     rcases i2 aP with ⟨aT,aP⟩ | ⟨aT,aP⟩
     ·
      rcases i2e aP with ⟨aU,aP⟩ | ⟨aU,aP⟩
      ·
       obtain ⟨aV,aW,aP⟩ := oB aP
       have aX := L_ref01_Ints_ok aW
       refine qeg [factE 74 aX] [none,none,none,none,some (some 64,true),some (some 64,true),some (some 64,true),none,none,some (some 69,false),some (some 69,false),some (some 69,false),some (some 69,false),some (some 73,true),some (some 73,true),some (some 73,true),some (some 73,true),some (some 73,true),some (some 73,true),some (some 79,false),some (some 79,false),some (some 79,false),some (some 79,false),some (some 79,false),some (some 73,true),some (some 69,false),none] [3,4,5,7,8,9,10,11,87] [(1,0),(2,0),(3,0),(11,0)] h fun ac wd h => ?_
       injection aP with aP; subst aP
       exact ⟨!(aV),rfl,h.z⟩
      ·
       refine qeg [] [none,none,none,none,some (some 64,true),some (some 64,true),some (some 64,true),none,none,some (some 69,false),some (some 69,false),some (some 69,false),some (some 69,false),some (some 73,true),some (some 73,true),some (some 73,true),some (some 73,true),some (some 73,true),some (some 73,true),some (some 79,false),some (some 79,false),some (some 79,false),some (some 79,false),some (some 79,false),some (some 73,true),some (some 69,false),none] [3,4,5,7,8,9,10,11,87] [(1,0),(2,0),(3,0),(11,0)] h fun ac wd h => ?_
       injection aP with aP; subst aP
       exact ⟨true,rfl,h.z⟩
     ·
      refine qeg [] [none,none,none,none,some (some 64,true),some (some 64,true),some (some 64,true),none,none,some (some 69,false),some (some 69,false),some (some 69,false),some (some 69,false),some (some 73,true),some (some 73,true),some (some 73,true),some (some 73,true),some (some 73,true),some (some 73,true),some (some 79,false),some (some 79,false),some (some 79,false),some (some 79,false),some (some 79,false),some (some 73,true),some (some 69,false),none] [3,4,5,7,8,9,10,11,87] [(1,0),(2,0),(3,0),(11,0)] h fun ac wd h => ?_
      injection aP with aP; subst aP
      exact ⟨false,rfl,h.z⟩
   ·
    rintro ac wd ⟨aQ,rfl,h⟩
    (try dsimp only at hD)
    obtain ⟨aY,hD⟩ := iFb hD
    refine kF h ?_
    refine wp_skip ?_
    change Code.wp Try.prog _ _ _ _
    refine wp_seq ?_
    refine qs 82 [] [3,4,5,7,8,9,10,11,90] [(1,0),(2,0),(3,0),(11,0)] h fun ac wd h => ?_
    obtain ⟨aZ,ba,hD⟩ := Option.bind_eq_some_iff.1 hD
    refine r_meet (fun ac wd => () = aZ ∧ SL ⟨wb,S,Φ,P0⟩ 179 129 [(3,.one (.ptr (1,0) 0)),(4,.one (.ptr (2,0) 0)),(5,.one (.ptr (3,0) 0)),(7,.one (.ptr (11,0) 0)),(8,.one (.d (.sl (List.map eI aj)))),(10,.one (.d (.sl (List.map eTOut aL.2.1)))),(11,.one (.d (.sl (List.map eI aL.2.2))))] [((1,0),some (.box 53 [.d (.int .i64 aa.G.N),.d (.sl (List.map eA2I aa.G.Links)),.d (.sl (List.map eTNode aa.T)),.d (.bool aa.Fifo)])),((2,0),some (.box 57 (cTHost a1))),((3,0),some (.box 64 (cTHeard a2))),((11,0),some (.box 62 [.d (.int .i64 ae.Kind),.d (.int .i64 ae.Epoch),.d (.int .i64 ae.M.Seq),.d (.int .i64 ae.M.Letter),.d (.sl (List.map eTPiece ae.Pieces)),.d (.int .i64 ae.Init),.d (.int .i64 ae.Num),.d (.int .i64 ae.Count),.d (.sl (List.map eI ae.Path))]))] ac wd) ?_ ?_
    ·
     rcases i2 ba with ⟨bb,ba⟩ | ⟨bb,ba⟩
     ·
      refine kT h ?_
      refine qs 85 [] [3,4,5,7,8,9,10,11,12] [(1,0),(2,0),(3,0),(11,0),(83,0)] h fun ac wd h => ?_
      refine qs 94 [] [3,4,5,7,8,9,10,11,12] [(1,0),(2,0),(3,0),(11,0),(83,0)] h fun ac wd h => ?_
      obtain ⟨bc,bd,ba⟩ := oB ba
      have be := L_probe_Hear_ok bd
      refine qs 108 [factE 100 be] [3,4,5,7,8,9,10,11,13,14,15] [(1,0),(2,0),(3,0),(11,0)] h fun ac wd h => ?_
      obtain ⟨bf,ba⟩ := iF ba
      obtain ⟨bg,ba⟩ := iF ba
      obtain ⟨bh,bi,ba⟩ := oB ba
      obtain ⟨bj,ba⟩ := iT ba
      have bk := L_ref01_Ints_ok bi
      refine qsg 129 [factE 119 bk] [none,none,none,none,some (some 114,false),some (some 114,false),some (some 114,false),none,none,some (some 119,false),some (some 119,false),some (some 119,false),some (some 119,false),none,none,some (some 125,false),some (some 125,false),some (some 125,false),some (some 125,false),some (some 125,false),none] [3,4,5,7,8,10,11,131] [(1,0),(2,0),(3,0),(11,0)] h fun ac wd h => ?_
      obtain ⟨bl,ba⟩ := iF ba
      refine kF h ?_
      refine wp_skip ?_
      injection ba with ba; subst ba
      exact ⟨rfl,h.z⟩
     ·
      refine kF h ?_
      refine wp_skip ?_
      injection ba with ba; subst ba
      exact ⟨rfl,h.z⟩
    ·
     rintro ac wd ⟨rfl,h⟩
     (try dsimp only at hD)
     refine qs 132 [] [3,4,5,7,8,10,11,16] [(1,0),(2,0),(3,0),(11,0),(130,0)] h fun ac wd h => ?_
     refine qs 138 [] [3,4,5,8,10,11,16] [(1,0),(2,0),(3,0),(130,0)] h fun ac wd h => ?_
     obtain ⟨bm,bn,hD⟩ := oB hD
     have bo := L_probe_Hear_ok bn
     refine qs 152 [factE 144 bo] [3,5,8,10,11,17,18,19] [(1,0),(3,0)] h fun ac wd h => ?_
     refine wp_seq ?_
     obtain ⟨bp,bq,hD⟩ := Option.bind_eq_some_iff.1 hD
     refine r_seqJ (fun ac wd => ∃ (br : Bool),br = bp ∧ SL ⟨wb,S,Φ,P0⟩ 179 172 [(3,.one (.ptr (1,0) 0)),(5,.one (.ptr (3,0) 0)),(168,.one (.d (.bool br)))] [((1,0),some (.box 53 [.d (.int .i64 aa.G.N),.d (.sl (List.map eA2I aa.G.Links)),.d (.sl (List.map eTNode aa.T)),.d (.bool aa.Fifo)])),((3,0),some (.box 64 (cTHeard a2)))] ac wd) ?_ ?_
     ·
      rcases i2 bq with ⟨bs,bq⟩ | ⟨bs,bq⟩
      ·
       rcases i2 bq with ⟨bt,bq⟩ | ⟨bt,bq⟩
       ·
        refine qeg [] [none,none,none,none,none,none,none,some (some 155,true),some (some 155,true),some (some 155,true),some (some 155,true),some (some 155,true),some (some 155,true),some (some 155,true),some (some 162,false),some (some 162,false),some (some 162,false),some (some 162,false),some (some 155,true),none] [3,5,168] [(1,0),(3,0)] h fun ac wd h => ?_
        injection bq with bq; subst bq
        exact ⟨true,rfl,h.z⟩
       ·
        obtain ⟨bu,bv,bq⟩ := oB bq
        have bw := L_ref01_Ints_ok bv
        refine qeg [factE 168 bw] [none,none,none,none,none,none,none,some (some 155,true),some (some 155,true),some (some 155,true),some (some 155,true),some (some 155,true),some (some 155,true),some (some 155,true),some (some 162,false),some (some 162,false),some (some 162,false),some (some 162,false),some (some 155,true),none] [3,5,168] [(1,0),(3,0)] h fun ac wd h => ?_
        injection bq with bq; subst bq
        exact ⟨!(bu),rfl,h.z⟩
      ·
       refine qeg [] [none,none,none,none,none,none,none,some (some 155,true),some (some 155,true),some (some 155,true),some (some 155,true),some (some 155,true),some (some 155,true),some (some 155,true),some (some 162,false),some (some 162,false),some (some 162,false),some (some 162,false),some (some 155,true),none] [3,5,168] [(1,0),(3,0)] h fun ac wd h => ?_
       injection bq with bq; subst bq
       exact ⟨false,rfl,h.z⟩
     ·
      rintro ac wd ⟨br,rfl,h⟩
      (try dsimp only at hD)
      obtain ⟨bx,hD⟩ := iFb hD
      refine kF h ?_
      refine wp_skip ?_
      change Code.wp Try.prog _ _ _ _
      obtain ⟨bz,bA,hD⟩ := oB hD
      obtain ⟨bB,bC,hD⟩ := oB hD
      obtain ⟨bD,hD⟩ := iT hD
      obtain ⟨bE,bF,hD⟩ := oB hD
      have bG := L_law03_Ref_ok bA
      have bH := L_ref03_Back_ok bC
      have bI := L_law16_fixed_ok bF
      refine dsg 183 [factE 174 bG,factE 177 bH,factE 180 bI] [none,none,none,none,none,none,none,none,some (some 176,true),none,none] [6] [] h fun ac wd h => ?_
      refine wp_ret ?_
      injection hD with hD
      subst hD
      exact rE h [.tmp 6]

end Go.Proofs.Ytabbejabdkkaiaa
