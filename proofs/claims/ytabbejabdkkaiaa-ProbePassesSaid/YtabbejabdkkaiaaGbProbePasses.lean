/- Functions as typed ones,and that the program's functions answer as these do. No condition. -/
import Derived.Test.YtabbejabdkkaiaaGb8
import Derived.Test.YtabbejabdkkaiaaGdProbePasses
set_option linter.unusedSimpArgs false
set_option linter.unusedVariables false
set_option maxRecDepth 20000
set_option maxHeartbeats 4000000
namespace Go.Proofs.Ytabbejabdkkaiaa
open Go.RowKit

theorem L_law16_ProbePasses_ok {a0 : TApp} {a1 : THost} {a2 : THeard} {r : Bool} (hD : L_law16_ProbePasses a0 a1 a2 = some r) :
  CallH Try.prog 6 [.agg (cTApp a0),.agg (cTHost a1),.agg (cTHeard a2)] []
   (.one (.d (.bool r))) [] := by
 unfold L_law16_ProbePasses at hD
 refine rc Try.func6 rfl Try.ntmps6 fun S Φ P0 wb ac h => ?_
 refine qs 5 [] [3,4,5] [(1,0),(2,0),(3,0)] h fun ac wd h => ?_
 obtain ⟨aa,ab,hD⟩ := oB hD
 have ad := L_law05_Cut_ok ab
 refine qs 8 [factE 6 ad] [3,4,5] [(1,0),(2,0),(3,0)] h fun ac wd h => ?_
 obtain ⟨ae,af,hD⟩ := oB hD
 have ag := L_law05_App_ok af
 refine qs 12 [factE 9 ag] [3,4,5,7] [(1,0),(2,0),(3,0),(10,0)] h fun ac wd h => ?_
 obtain ⟨ah,ai,hD⟩ := oB hD
 have aj := L_law07_Cut_ok ai
 refine qs 17 [factE 14 aj] [3,4,5,7,8] [(1,0),(2,0),(3,0),(10,0),(15,0)] h fun ac wd h => ?_
 obtain ⟨ak,hD⟩ := iT hD
 obtain ⟨al,hD⟩ := iT hD
 obtain ⟨am,an,hD⟩ := vB hD
 refine qs 25 [] [3,4,5,7,8,9] [(1,0),(2,0),(3,0),(10,0),(15,0)] h fun ac wd h => ?_
 refine wp_seq ?_
 obtain ⟨ao,ap,hD⟩ := Option.bind_eq_some_iff.1 hD
 refine r_seqJ (fun ac wd => ∃ (aq : Bool),aq = ao ∧ SL ⟨wb,S,Φ,P0⟩ 211 41 [(3,.one (.ptr (1,0) 0)),(4,.one (.ptr (2,0) 0)),(5,.one (.ptr (3,0) 0)),(7,.one (.ptr (10,0) 0)),(8,.one (.ptr (15,0) 0)),(9,.one (.d (.sl (List.map eI am)))),(46,.one (.d (.bool aq)))] [((1,0),some (.box 53 [.d (.int .i64 aa.G.N),.d (.sl (List.map eA2I aa.G.Links)),.d (.sl (List.map eTNode aa.T)),.d (.bool aa.Fifo)])),((2,0),some (.box 57 (cTHost a1))),((3,0),some (.box 64 (cTHeard a2))),((10,0),some (.box 69 [.d (.int .i64 ae.G.N),.d (.sl (List.map eA2I ae.G.Links)),.d (.sl (List.map eTNode ae.T)),.d (.bool ae.Fifo)])),((15,0),some (.box 62 [.d (.int .i64 ah.Kind),.d (.int .i64 ah.Epoch),.d (.int .i64 ah.M.Seq),.d (.int .i64 ah.M.Letter),.d (.sl (List.map eTPiece ah.Pieces)),.d (.int .i64 ah.Init),.d (.int .i64 ah.Num),.d (.int .i64 ah.Count),.d (.sl (List.map eI ah.Path))]))] ac wd) ?_ ?_
 ·
  obtain ⟨ar,au,ap⟩ := oB ap
  obtain ⟨av,aw,ap⟩ := oB ap
  rcases i2b ap with ⟨ax,ap⟩ | ⟨ax,ap⟩
  ·
   rcases i2e ap with ⟨ay,ap⟩ | ⟨ay,ap⟩
   ·
    obtain ⟨az,aA,ap⟩ := oB ap
    obtain ⟨aC,aD,ap⟩ := oB ap
    have aE := L_law09_Ref_ok au
    have aF := L_ref09_Right_ok aw
    have aG := L_law07_Ref_ok aA
    have aH := L_ref07_Right_ok aD
    refine deg [factE 27 aE,factE 28 aF,factE 37 aG,factE 38 aH] [none,none,none,none,none,none,some (some 36,false),some (some 36,false),some (some 36,false),none,none,some (some 41,false),some (some 41,false),some (some 41,false),some (some 41,false),none] [3,4,5,7,8,9,46] [(1,0),(2,0),(3,0),(10,0),(15,0)] h fun ac wd h => ?_
    injection ap with ap; subst ap
    exact ⟨!(aC),rfl,h.z⟩
   ·
    have aE := L_law09_Ref_ok au
    have aF := L_ref09_Right_ok aw
    refine deg [factE 27 aE,factE 28 aF] [none,none,none,none,none,none,some (some 36,false),some (some 36,false),some (some 36,false),none,none,some (some 41,false),some (some 41,false),some (some 41,false),some (some 41,false),none] [3,4,5,7,8,9,46] [(1,0),(2,0),(3,0),(10,0),(15,0)] h fun ac wd h => ?_
    injection ap with ap; subst ap
    exact ⟨true,rfl,h.z⟩
  ·
   have aE := L_law09_Ref_ok au
   have aF := L_ref09_Right_ok aw
   refine deg [factE 27 aE,factE 28 aF] [none,none,none,none,none,none,some (some 36,false),some (some 36,false),some (some 36,false),none,none,some (some 41,false),some (some 41,false),some (some 41,false),some (some 41,false),none] [3,4,5,7,8,9,46] [(1,0),(2,0),(3,0),(10,0),(15,0)] h fun ac wd h => ?_
   injection ap with ap; subst ap
   exact ⟨true,rfl,h.z⟩
 ·
  rintro ac wd ⟨aq,rfl,h⟩
  (try dsimp only at hD)
  rcases i2b hD with ⟨aI,hD⟩ | ⟨aI,hD⟩
  ·
   refine kT h ?_
   obtain ⟨aJ,aK,hD⟩ := oB hD
   have aL := L_law16_fixed_ok aK
   refine qs 43 [factE 41 aL] [6] [] h fun ac wd h => ?_
   refine wp_ret ?_
   injection hD with hD
   subst hD
   exact rE h [.tmp 6]
  ·
   refine kF h ?_
   refine wp_skip ?_
   change Code.wp Try.prog _ _ _ _
   obtain ⟨aM,aN,hD⟩ := oB hD
   have aO := L_probe_Hear_ok aN
   refine qs 55 [factE 47 aO] [4,7,8,9,10,11] [(2,0),(10,0),(15,0)] h fun ac wd h => ?_
   refine wp_seq ?_
   refine qs 58 [] [4,7,8,9,10,11,61] [(2,0),(10,0),(15,0)] h fun ac wd h => ?_
   rcases i2e hD with ⟨aP,hD⟩ | ⟨aP,hD⟩
   ·
    refine kT h ?_
    obtain ⟨aQ,aR,hD⟩ := oB hD
    obtain ⟨aS,hD⟩ := iT hD
    obtain ⟨aT,aU,hD⟩ := oB hD
    have aV := L_ref01_Ints_ok aR
    have aW := L_law16_fixed_ok aU
    refine qsg 65 [factE 60 aV,factE 62 aW] [none,none,none,none,some (some 65,true),none,none] [6] [] h fun ac wd h => ?_
    refine wp_ret ?_
    injection hD with hD
    subst hD
    exact rE h [.tmp 6]
   ·
    refine kF h ?_
    refine wp_skip ?_
    change Code.wp Try.prog _ _ _ _
    obtain ⟨aX,aY,hD⟩ := oB hD
    have aZ := L_ref04_At_ok aY
    refine qs 67 [factE 64 aZ] [4,7,8,9,10,11,13] [(2,0),(10,0),(15,0)] h fun ac wd h => ?_
    obtain ⟨ba,hD⟩ := iT hD
    refine qs 72 [] [4,7,8,9,10,11,13,14] [(2,0),(10,0),(15,0),(70,0)] h fun ac wd h => ?_
    obtain ⟨bb,hD⟩ := iT hD
    refine qs 78 [] [4,7,8,9,10,11,13,14] [(2,0),(10,0),(15,0),(76,0)] h fun ac wd h => ?_
    refine wp_seq ?_
    obtain ⟨bc,hD⟩ := iTe hD
    obtain ⟨bd,hD⟩ := iF hD
    obtain ⟨be,bf,bg,bh,bi,hD⟩ := aB hD
    refine dsg 100 [] [none,none,none,none,none,none,some (some 90,false),some (some 90,false),some (some 90,false),some (some 90,false),some (some 90,false),none,none,some (some 97,false),some (some 97,false),some (some 97,false),some (some 97,false),some (some 97,false),some (some 97,false),some (some 97,false),some (some 97,false),none] [4,7,8,9,10,11,13,14,106] [(2,0),(10,0),(15,0),(76,0)] h fun ac wd h => ?_
    obtain ⟨bj,hD⟩ := iTe hD
    refine kF h ?_
    refine wp_skip ?_
    change Code.wp Try.prog _ _ _ _
    refine wp_seq ?_
    refine qs 101 [] [4,7,8,9,10,11,13,14,15] [(2,0),(10,0),(15,0),(76,0)] h fun ac wd h => ?_
    obtain ⟨bk,bl,hD⟩ := Option.bind_eq_some_iff.1 hD
    refine r_meet (fun ac wd => () = bk ∧ SL ⟨wb,S,Φ,P0⟩ 211 233 [(8,.one (.ptr (15,0) 0)),(9,.one (.d (.sl (List.map eI am)))),(10,.one (.d (.sl (List.map eI aM.1))))] [((15,0),some (.box 62 [.d (.int .i64 ah.Kind),.d (.int .i64 ah.Epoch),.d (.int .i64 ah.M.Seq),.d (.int .i64 ah.M.Letter),.d (.sl (List.map eTPiece ah.Pieces)),.d (.int .i64 ah.Init),.d (.int .i64 ah.Num),.d (.int .i64 ah.Count),.d (.sl (List.map eI ah.Path))]))] ac wd) ?_ ?_
    ·
     refine wp_block ?_
     refine r_while (fun nf ac wd => ∃ (bm : Int),L_law16_ProbePasses_l1 a1 aX ae ah aM nf bm = some bk ∧ SL ⟨wb,S,Φ,P0⟩ 211 229 [(4,.one (.ptr (2,0) 0)),(7,.one (.ptr (10,0) 0)),(8,.one (.ptr (15,0) 0)),(9,.one (.d (.sl (List.map eI am)))),(10,.one (.d (.sl (List.map eI aM.1)))),(11,.one (.d (.sl (List.map eTOut aM.2.1)))),(13,.one (.d (.sl (List.map eI aX.Waits)))),(14,.one (.own (76,0) (ah.Path.length + 1))),(15,.one (.d (.int .i64 bm)))] [((2,0),some (.box 57 (cTHost a1))),((10,0),some (.box 69 [.d (.int .i64 ae.G.N),.d (.sl (List.map eA2I ae.G.Links)),.d (.sl (List.map eTNode ae.T)),.d (.bool ae.Fifo)])),((15,0),some (.box 62 [.d (.int .i64 ah.Kind),.d (.int .i64 ah.Epoch),.d (.int .i64 ah.M.Seq),.d (.int .i64 ah.M.Letter),.d (.sl (List.map eTPiece ah.Pieces)),.d (.int .i64 ah.Init),.d (.int .i64 ah.Num),.d (.int .i64 ah.Count),.d (.sl (List.map eI ah.Path))])),((76,0),some (.row 3 1 (dat (List.map eI (ah.Path ++ [a1.Node])))))] ac wd) (((aM.2.1.length : Int) - 0).toNat + 1) ⟨0,bl,h.z⟩ (fun nf ac wd hJ => ?_)
     obtain ⟨bm,bn,h⟩ := hJ
     cases nf with
     | zero => rw [L_law16_ProbePasses_l1] at bn; cases bn
     | succ nf =>
      rw [L_law16_ProbePasses_l1] at bn
      refine wp_seq ?_
      refine qs 233 [] [4,7,8,9,10,11,13,14,15,110] [(2,0),(10,0),(15,0),(76,0)] h fun ac wd h => ?_
      rcases i2 bn with ⟨bo,bn⟩ | ⟨bo,bn⟩
      ·
       refine kT h ?_
       refine wp_skip ?_
       change Code.wp Try.prog _ _ _ _
       refine wp_seq ?_
       refine wp_block ?_
       obtain ⟨bp,bq,br,bs,bt,bn⟩ := aB bn
       obtain ⟨bu,bv,bw,bx,bz,bn⟩ := aB bn
       obtain ⟨bA,bB,bn⟩ := oB bn
       obtain ⟨bC,bn⟩ := iTe bn
       obtain ⟨bD,bn⟩ := iTe bn
       obtain ⟨bE,bn⟩ := iTe bn
       obtain ⟨bF,bG,bn⟩ := oB bn
       obtain ⟨bH,bn⟩ := iT bn
       have bI := L_ref03_Find_ok bB
       have bJ := L_ref01_Ints_ok bG
       refine dsg 290 [factE 246 bI,factE 278 bJ] [none,none,none,none,none,none,none,none,none,none,none,none,none,none,none,none,some (some 128,false),some (some 128,false),some (some 128,false),some (some 128,false),some (some 128,false),some (some 128,false),some (some 128,false),some (some 128,false),some (some 128,false),none,none,some (some 139,false),some (some 139,false),some (some 139,false),some (some 139,false),some (some 139,false),some (some 139,false),some (some 139,false),some (some 139,false),some (some 139,false),none,none,some (some 150,false),some (some 150,false),some (some 150,false),some (some 150,false),some (some 150,false),some (some 150,false),some (some 150,false),some (some 150,false),some (some 150,false),none,none,some (some 161,false),some (some 161,false),some (some 161,false),some (some 161,false),some (some 161,false),some (some 161,false),some (some 161,false),none] [4,7,8,9,10,11,13,14,15,169] [(2,0),(10,0),(15,0),(76,0)] h fun ac wd h => ?_
       obtain ⟨bK,bn⟩ := iTe bn
       refine kF h ?_
       refine wp_skip ?_
       change Code.wp Try.prog _ _ _ _
       refine qe [] [4,7,8,9,10,11,13,14,15] [(2,0),(10,0),(15,0),(76,0)] h fun ac wd h => ?_
       exact ⟨nf,Nat.lt_succ_self nf,(IntKind.wrap .i64 (bm + 1)),bn,h.z⟩
      ·
       refine kF h ?_
       refine wp_exit ?_
       injection bn with bn; subst bn
       exact ⟨rfl,h.z⟩
    ·
     rintro ac wd ⟨rfl,h⟩
     (try dsimp only at hD)
     refine wp_seq ?_
     refine qs 234 [] [8,9,10,16] [(15,0)] h fun ac wd h => ?_
     obtain ⟨bL,bM,hD⟩ := Option.bind_eq_some_iff.1 hD
     refine r_meet (fun ac wd => () = bL ∧ SL ⟨wb,S,Φ,P0⟩ 211 320 [] [] ac wd) ?_ ?_
     ·
      refine wp_block ?_
      refine r_while (fun nf ac wd => ∃ (bN : Int),L_law16_ProbePasses_l2 ah aM am nf bN = some bL ∧ SL ⟨wb,S,Φ,P0⟩ 211 316 [(8,.one (.ptr (15,0) 0)),(9,.one (.d (.sl (List.map eI am)))),(10,.one (.d (.sl (List.map eI aM.1)))),(16,.one (.d (.int .i64 bN)))] [((15,0),some (.box 62 [.d (.int .i64 ah.Kind),.d (.int .i64 ah.Epoch),.d (.int .i64 ah.M.Seq),.d (.int .i64 ah.M.Letter),.d (.sl (List.map eTPiece ah.Pieces)),.d (.int .i64 ah.Init),.d (.int .i64 ah.Num),.d (.int .i64 ah.Count),.d (.sl (List.map eI ah.Path))]))] ac wd) (((aM.1.length : Int) - 0).toNat + 1) ⟨0,bM,h.z⟩ (fun nf ac wd hJ => ?_)
      obtain ⟨bN,bO,h⟩ := hJ
      cases nf with
      | zero => rw [L_law16_ProbePasses_l2] at bO; cases bO
      | succ nf =>
       rw [L_law16_ProbePasses_l2] at bO
       refine wp_seq ?_
       refine qs 320 [] [8,9,10,16,173] [(15,0)] h fun ac wd h => ?_
       rcases i2 bO with ⟨bP,bO⟩ | ⟨bP,bO⟩
       ·
        refine kT h ?_
        refine wp_skip ?_
        change Code.wp Try.prog _ _ _ _
        refine wp_seq ?_
        refine wp_block ?_
        obtain ⟨bQ,bR,bO⟩ := Option.bind_eq_some_iff.1 bO
        refine r_seqJ (fun ac wd => ∃ (bS : Bool),bS = bQ ∧ SL ⟨wb,S,Φ,P0⟩ 211 354 [(8,.one (.ptr (15,0) 0)),(9,.one (.d (.sl (List.map eI am)))),(10,.one (.d (.sl (List.map eI aM.1)))),(16,.one (.d (.int .i64 bN))),(209,.one (.d (.bool bS)))] [((15,0),some (.box 62 [.d (.int .i64 ah.Kind),.d (.int .i64 ah.Epoch),.d (.int .i64 ah.M.Seq),.d (.int .i64 ah.M.Letter),.d (.sl (List.map eTPiece ah.Pieces)),.d (.int .i64 ah.Init),.d (.int .i64 ah.Num),.d (.int .i64 ah.Count),.d (.sl (List.map eI ah.Path))]))] ac wd) ?_ ?_
        ·
         rcases i2e bR with ⟨bT,bR⟩ | ⟨bT,bR⟩
         ·
          refine deg [] [none,none,none,none,none,some (some 180,true),some (some 180,true),some (some 180,true),some (some 180,true),some (some 180,true),some (some 185,true),some (some 185,true),some (some 185,true),some (some 185,true),some (some 185,true),some (some 185,true),some (some 185,true),some (some 185,true),some (some 185,true),some (some 180,true),some (some 180,true),some (some 196,false),some (some 196,false),some (some 196,false),some (some 196,false),some (some 196,false),some (some 201,true),some (some 201,true),some (some 201,true),some (some 201,true),some (some 201,true),some (some 196,false),some (some 180,true),none] [8,9,10,16,209] [(15,0)] h fun ac wd h => ?_
          injection bR with bR; subst bR
          exact ⟨false,rfl,h.z⟩
         ·
          rcases i2 bR with ⟨bU,bR⟩ | ⟨bU,bR⟩
          ·
           obtain ⟨bV,bW,bX,bY,bZ,bR⟩ := aB bR
           obtain ⟨b0,b1,b2,b3,b4,bR⟩ := aB bR
           rcases i2e bR with ⟨b5,bR⟩ | ⟨b5,bR⟩
           ·
            rcases i2 bR with ⟨b6,bR⟩ | ⟨b6,bR⟩
            ·
             refine deg [] [none,none,none,none,none,some (some 180,true),some (some 180,true),some (some 180,true),some (some 180,true),some (some 180,true),some (some 185,true),some (some 185,true),some (some 185,true),some (some 185,true),some (some 185,true),some (some 185,true),some (some 185,true),some (some 185,true),some (some 185,true),some (some 180,true),some (some 180,true),some (some 196,false),some (some 196,false),some (some 196,false),some (some 196,false),some (some 196,false),some (some 201,true),some (some 201,true),some (some 201,true),some (some 201,true),some (some 201,true),some (some 196,false),some (some 180,true),none] [8,9,10,16,209] [(15,0)] h fun ac wd h => ?_
             injection bR with bR; subst bR
             exact ⟨!(decide (bV = 0)),rfl,h.z⟩
            ·
             refine deg [] [none,none,none,none,none,some (some 180,true),some (some 180,true),some (some 180,true),some (some 180,true),some (some 180,true),some (some 185,true),some (some 185,true),some (some 185,true),some (some 185,true),some (some 185,true),some (some 185,true),some (some 185,true),some (some 185,true),some (some 185,true),some (some 180,true),some (some 180,true),some (some 196,false),some (some 196,false),some (some 196,false),some (some 196,false),some (some 196,false),some (some 201,true),some (some 201,true),some (some 201,true),some (some 201,true),some (some 201,true),some (some 196,false),some (some 180,true),none] [8,9,10,16,209] [(15,0)] h fun ac wd h => ?_
             injection bR with bR; subst bR
             exact ⟨false,rfl,h.z⟩
           ·
            refine deg [] [none,none,none,none,none,some (some 180,true),some (some 180,true),some (some 180,true),some (some 180,true),some (some 180,true),some (some 185,true),some (some 185,true),some (some 185,true),some (some 185,true),some (some 185,true),some (some 185,true),some (some 185,true),some (some 185,true),some (some 185,true),some (some 180,true),some (some 180,true),some (some 196,false),some (some 196,false),some (some 196,false),some (some 196,false),some (some 196,false),some (some 201,true),some (some 201,true),some (some 201,true),some (some 201,true),some (some 201,true),some (some 196,false),some (some 180,true),none] [8,9,10,16,209] [(15,0)] h fun ac wd h => ?_
            injection bR with bR; subst bR
            exact ⟨true,rfl,h.z⟩
          ·
           rcases i2 bR with ⟨b7,bR⟩ | ⟨b7,bR⟩
           ·
            obtain ⟨b8,b9,ca,cb,cc,bR⟩ := aB bR
            refine deg [] [none,none,none,none,none,some (some 180,true),some (some 180,true),some (some 180,true),some (some 180,true),some (some 180,true),some (some 185,true),some (some 185,true),some (some 185,true),some (some 185,true),some (some 185,true),some (some 185,true),some (some 185,true),some (some 185,true),some (some 185,true),some (some 180,true),some (some 180,true),some (some 196,false),some (some 196,false),some (some 196,false),some (some 196,false),some (some 196,false),some (some 201,true),some (some 201,true),some (some 201,true),some (some 201,true),some (some 201,true),some (some 196,false),some (some 180,true),none] [8,9,10,16,209] [(15,0)] h fun ac wd h => ?_
            injection bR with bR; subst bR
            exact ⟨!(decide (b8 = 0)),rfl,h.z⟩
           ·
            refine deg [] [none,none,none,none,none,some (some 180,true),some (some 180,true),some (some 180,true),some (some 180,true),some (some 180,true),some (some 185,true),some (some 185,true),some (some 185,true),some (some 185,true),some (some 185,true),some (some 185,true),some (some 185,true),some (some 185,true),some (some 185,true),some (some 180,true),some (some 180,true),some (some 196,false),some (some 196,false),some (some 196,false),some (some 196,false),some (some 196,false),some (some 201,true),some (some 201,true),some (some 201,true),some (some 201,true),some (some 201,true),some (some 196,false),some (some 180,true),none] [8,9,10,16,209] [(15,0)] h fun ac wd h => ?_
            injection bR with bR; subst bR
            exact ⟨false,rfl,h.z⟩
        ·
         rintro ac wd ⟨bS,rfl,h⟩
         (try dsimp only at bO)
         obtain ⟨cd,bO⟩ := iFb bO
         refine kF h ?_
         refine wp_skip ?_
         change Code.wp Try.prog _ _ _ _
         refine qe [] [8,9,10,16] [(15,0)] h fun ac wd h => ?_
         exact ⟨nf,Nat.lt_succ_self nf,(IntKind.wrap .i64 (bN + 1)),bO,h.z⟩
       ·
        refine kF h ?_
        refine wp_exit ?_
        injection bO with bO; subst bO
        exact ⟨rfl,h.z⟩
     ·
      rintro ac wd ⟨rfl,h⟩
      (try dsimp only at hD)
      obtain ⟨ce,cf,hD⟩ := oB hD
      have cg := L_law16_fixed_ok cf
      refine qs 322 [factE 320 cg] [6] [] h fun ac wd h => ?_
      refine wp_ret ?_
      injection hD with hD
      subst hD
      exact rE h [.tmp 6]

end Go.Proofs.Ytabbejabdkkaiaa
