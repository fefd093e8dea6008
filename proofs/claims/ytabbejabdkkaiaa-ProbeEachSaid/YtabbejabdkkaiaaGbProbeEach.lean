/- Functions as typed ones,and that the program's functions answer as these do. No condition. -/
import Derived.Test.YtabbejabdkkaiaaGb8
import Derived.Test.YtabbejabdkkaiaaGdProbeEach
set_option linter.unusedSimpArgs false
set_option linter.unusedVariables false
set_option maxRecDepth 20000
set_option maxHeartbeats 4000000
namespace Go.Proofs.Ytabbejabdkkaiaa
open Go.RowKit

theorem L_law16_ProbeEach_ok {a0 : TApp} {a1 : THost} {a2 : Int} {r : Bool} (hD : L_law16_ProbeEach a0 a1 a2 = some r) :
  CallH Try.prog 5 [.agg (cTApp a0),.agg (cTHost a1),.one (.d (.int .i64 a2))] []
   (.one (.d (.bool r))) [] := by
 unfold L_law16_ProbeEach at hD
 refine rc Try.func5 rfl Try.ntmps5 fun S Φ P0 wb ac h => ?_
 refine qs 4 [] [2,3,4] [(1,0),(2,0)] h fun ac wd h => ?_
 obtain ⟨aa,ab,hD⟩ := oB hD
 have ad := L_law05_Cut_ok ab
 refine qs 7 [factE 5 ad] [2,3,4] [(1,0),(2,0)] h fun ac wd h => ?_
 obtain ⟨ae,af,hD⟩ := oB hD
 obtain ⟨ag,ah,hD⟩ := oB hD
 have ai := L_law05_App_ok af
 have aj := L_law09_Ref_ok ah
 refine ds 15 [factE 8 ai,factE 10 aj] [2,3,4,7,8] [(1,0),(2,0),(11,0),(12,0)] h fun ac wd h => ?_
 refine wp_seq ?_
 obtain ⟨ak,al,hD⟩ := oB hD
 have am := L_ref09_Right_ok al
 refine qs 19 [factE 17 am] [2,3,4,7,24] [(1,0),(2,0),(11,0)] h fun ac wd h => ?_
 rcases i2b hD with ⟨an,hD⟩ | ⟨an,hD⟩
 ·
  refine kF h ?_
  refine wp_skip ?_
  change Code.wp Try.prog _ _ _ _
  obtain ⟨ao,ap,hD⟩ := oB hD
  have aq := L_probe_Start_ok ap
  refine qs 28 [factE 22 aq] [2,3,4,7,9,10] [(1,0),(2,0),(11,0)] h fun ac wd h => ?_
  obtain ⟨ar,au,hD⟩ := oB hD
  have av := L_ref04_At_ok au
  refine qs 37 [factE 34 av] [2,3,4,9,10,11] [(1,0),(2,0)] h fun ac wd h => ?_
  refine wp_seq ?_
  obtain ⟨aw,ax,hD⟩ := Option.bind_eq_some_iff.1 hD
  refine r_seqJ (fun ac wd => ∃ (ay : Bool),ay = aw ∧ SL ⟨wb,S,Φ,P0⟩ 156 64 [(2,.one (.d (.int .i64 a2))),(3,.one (.ptr (1,0) 0)),(4,.one (.ptr (2,0) 0)),(9,.one (.d (.sl (List.map eTOut ao.1)))),(10,.one (.d (.int .i64 ao.2))),(11,.one (.d (.sl (List.map eI ar.Waits)))),(67,.one (.d (.bool ay)))] [((1,0),some (.box 53 [.d (.int .i64 aa.G.N),.d (.sl (List.map eA2I aa.G.Links)),.d (.sl (List.map eTNode aa.T)),.d (.bool aa.Fifo)])),((2,0),some (.box 57 (cTHost a1)))] ac wd) ?_ ?_
  ·
   rcases i2b ax with ⟨az,ax⟩ | ⟨az,ax⟩
   ·
    rcases i2 ax with ⟨aA,ax⟩ | ⟨aA,ax⟩
    ·
     rcases i2 ax with ⟨aC,ax⟩ | ⟨aC,ax⟩
     ·
      rcases i2e ax with ⟨aD,ax⟩ | ⟨aD,ax⟩
      ·
       rcases i2e ax with ⟨aE,ax⟩ | ⟨aE,ax⟩
       ·
        rcases i2e ax with ⟨aF,ax⟩ | ⟨aF,ax⟩
        ·
         refine qeg [] [none,none,none,none,none,some (some 45,true),some (some 45,true),none,none,some (some 49,true),some (some 49,true),none,none,some (some 53,true),some (some 53,true),some (some 53,true),none,none,none,some (some 59,false),some (some 59,false),some (some 59,false),some (some 62,true),some (some 62,true),some (some 62,true),some (some 59,false),none] [2,3,4,9,10,11,67] [(1,0),(2,0)] h fun ac wd h => ?_
         injection ax with ax; subst ax
         exact ⟨false,rfl,h.z⟩
        ·
         refine qeg [] [none,none,none,none,none,some (some 45,true),some (some 45,true),none,none,some (some 49,true),some (some 49,true),none,none,some (some 53,true),some (some 53,true),some (some 53,true),none,none,none,some (some 59,false),some (some 59,false),some (some 59,false),some (some 62,true),some (some 62,true),some (some 62,true),some (some 59,false),none] [2,3,4,9,10,11,67] [(1,0),(2,0)] h fun ac wd h => ?_
         injection ax with ax; subst ax
         exact ⟨true,rfl,h.z⟩
       ·
        rcases i2e ax with ⟨aG,ax⟩ | ⟨aG,ax⟩
        ·
         refine qeg [] [none,none,none,none,none,some (some 45,true),some (some 45,true),none,none,some (some 49,true),some (some 49,true),none,none,some (some 53,true),some (some 53,true),some (some 53,true),none,none,none,some (some 59,false),some (some 59,false),some (some 59,false),some (some 62,true),some (some 62,true),some (some 62,true),some (some 59,false),none] [2,3,4,9,10,11,67] [(1,0),(2,0)] h fun ac wd h => ?_
         injection ax with ax; subst ax
         exact ⟨decide ((ao.1.length : Int) > 0),rfl,h.z⟩
        ·
         refine qeg [] [none,none,none,none,none,some (some 45,true),some (some 45,true),none,none,some (some 49,true),some (some 49,true),none,none,some (some 53,true),some (some 53,true),some (some 53,true),none,none,none,some (some 59,false),some (some 59,false),some (some 59,false),some (some 62,true),some (some 62,true),some (some 62,true),some (some 59,false),none] [2,3,4,9,10,11,67] [(1,0),(2,0)] h fun ac wd h => ?_
         injection ax with ax; subst ax
         exact ⟨true,rfl,h.z⟩
      ·
       refine qeg [] [none,none,none,none,none,some (some 45,true),some (some 45,true),none,none,some (some 49,true),some (some 49,true),none,none,some (some 53,true),some (some 53,true),some (some 53,true),none,none,none,some (some 59,false),some (some 59,false),some (some 59,false),some (some 62,true),some (some 62,true),some (some 62,true),some (some 59,false),none] [2,3,4,9,10,11,67] [(1,0),(2,0)] h fun ac wd h => ?_
       injection ax with ax; subst ax
       exact ⟨true,rfl,h.z⟩
     ·
      rcases i2e ax with ⟨aH,ax⟩ | ⟨aH,ax⟩
      ·
       rcases i2e ax with ⟨aI,ax⟩ | ⟨aI,ax⟩
       ·
        refine qeg [] [none,none,none,none,none,some (some 45,true),some (some 45,true),none,none,some (some 49,true),some (some 49,true),none,none,some (some 53,true),some (some 53,true),some (some 53,true),none,none,none,some (some 59,false),some (some 59,false),some (some 59,false),some (some 62,true),some (some 62,true),some (some 62,true),some (some 59,false),none] [2,3,4,9,10,11,67] [(1,0),(2,0)] h fun ac wd h => ?_
        injection ax with ax; subst ax
        exact ⟨true,rfl,h.z⟩
       ·
        refine qeg [] [none,none,none,none,none,some (some 45,true),some (some 45,true),none,none,some (some 49,true),some (some 49,true),none,none,some (some 53,true),some (some 53,true),some (some 53,true),none,none,none,some (some 59,false),some (some 59,false),some (some 59,false),some (some 62,true),some (some 62,true),some (some 62,true),some (some 59,false),none] [2,3,4,9,10,11,67] [(1,0),(2,0)] h fun ac wd h => ?_
        injection ax with ax; subst ax
        exact ⟨decide ((ao.1.length : Int) > 0),rfl,h.z⟩
      ·
       refine qeg [] [none,none,none,none,none,some (some 45,true),some (some 45,true),none,none,some (some 49,true),some (some 49,true),none,none,some (some 53,true),some (some 53,true),some (some 53,true),none,none,none,some (some 59,false),some (some 59,false),some (some 59,false),some (some 62,true),some (some 62,true),some (some 62,true),some (some 59,false),none] [2,3,4,9,10,11,67] [(1,0),(2,0)] h fun ac wd h => ?_
       injection ax with ax; subst ax
       exact ⟨true,rfl,h.z⟩
    ·
     rcases i2e ax with ⟨aJ,ax⟩ | ⟨aJ,ax⟩
     ·
      rcases i2e ax with ⟨aK,ax⟩ | ⟨aK,ax⟩
      ·
       refine qeg [] [none,none,none,none,none,some (some 45,true),some (some 45,true),none,none,some (some 49,true),some (some 49,true),none,none,some (some 53,true),some (some 53,true),some (some 53,true),none,none,none,some (some 59,false),some (some 59,false),some (some 59,false),some (some 62,true),some (some 62,true),some (some 62,true),some (some 59,false),none] [2,3,4,9,10,11,67] [(1,0),(2,0)] h fun ac wd h => ?_
       injection ax with ax; subst ax
       exact ⟨true,rfl,h.z⟩
      ·
       refine qeg [] [none,none,none,none,none,some (some 45,true),some (some 45,true),none,none,some (some 49,true),some (some 49,true),none,none,some (some 53,true),some (some 53,true),some (some 53,true),none,none,none,some (some 59,false),some (some 59,false),some (some 59,false),some (some 62,true),some (some 62,true),some (some 62,true),some (some 59,false),none] [2,3,4,9,10,11,67] [(1,0),(2,0)] h fun ac wd h => ?_
       injection ax with ax; subst ax
       exact ⟨decide ((ao.1.length : Int) > 0),rfl,h.z⟩
     ·
      refine qeg [] [none,none,none,none,none,some (some 45,true),some (some 45,true),none,none,some (some 49,true),some (some 49,true),none,none,some (some 53,true),some (some 53,true),some (some 53,true),none,none,none,some (some 59,false),some (some 59,false),some (some 59,false),some (some 62,true),some (some 62,true),some (some 62,true),some (some 59,false),none] [2,3,4,9,10,11,67] [(1,0),(2,0)] h fun ac wd h => ?_
      injection ax with ax; subst ax
      exact ⟨true,rfl,h.z⟩
   ·
    rcases i2e ax with ⟨aL,ax⟩ | ⟨aL,ax⟩
    ·
     rcases i2e ax with ⟨aM,ax⟩ | ⟨aM,ax⟩
     ·
      refine qeg [] [none,none,none,none,none,some (some 45,true),some (some 45,true),none,none,some (some 49,true),some (some 49,true),none,none,some (some 53,true),some (some 53,true),some (some 53,true),none,none,none,some (some 59,false),some (some 59,false),some (some 59,false),some (some 62,true),some (some 62,true),some (some 62,true),some (some 59,false),none] [2,3,4,9,10,11,67] [(1,0),(2,0)] h fun ac wd h => ?_
      injection ax with ax; subst ax
      exact ⟨true,rfl,h.z⟩
     ·
      refine qeg [] [none,none,none,none,none,some (some 45,true),some (some 45,true),none,none,some (some 49,true),some (some 49,true),none,none,some (some 53,true),some (some 53,true),some (some 53,true),none,none,none,some (some 59,false),some (some 59,false),some (some 59,false),some (some 62,true),some (some 62,true),some (some 62,true),some (some 59,false),none] [2,3,4,9,10,11,67] [(1,0),(2,0)] h fun ac wd h => ?_
      injection ax with ax; subst ax
      exact ⟨decide ((ao.1.length : Int) > 0),rfl,h.z⟩
    ·
     refine qeg [] [none,none,none,none,none,some (some 45,true),some (some 45,true),none,none,some (some 49,true),some (some 49,true),none,none,some (some 53,true),some (some 53,true),some (some 53,true),none,none,none,some (some 59,false),some (some 59,false),some (some 59,false),some (some 62,true),some (some 62,true),some (some 62,true),some (some 59,false),none] [2,3,4,9,10,11,67] [(1,0),(2,0)] h fun ac wd h => ?_
     injection ax with ax; subst ax
     exact ⟨true,rfl,h.z⟩
  ·
   rintro ac wd ⟨ay,rfl,h⟩
   (try dsimp only at hD)
   obtain ⟨aN,hD⟩ := iFb hD
   refine kF h ?_
   refine wp_skip ?_
   change Code.wp Try.prog _ _ _ _
   refine wp_seq ?_
   refine qs 66 [] [2,3,4,9,11,69] [(1,0),(2,0)] h fun ac wd h => ?_
   rcases i2e hD with ⟨aO,hD⟩ | ⟨aO,hD⟩
   ·
    refine kF h ?_
    refine wp_skip ?_
    change Code.wp Try.prog _ _ _ _
    refine wp_seq ?_
    refine qs 71 [] [2,3,4,9,11,75] [(1,0),(2,0)] h fun ac wd h => ?_
    obtain ⟨aP,hD⟩ := iTe hD
    refine kF h ?_
    refine wp_skip ?_
    change Code.wp Try.prog _ _ _ _
    refine wp_seq ?_
    refine qs 72 [] [2,3,4,9,11,12] [(1,0),(2,0)] h fun ac wd h => ?_
    obtain ⟨aQ,aR,hD⟩ := Option.bind_eq_some_iff.1 hD
    refine r_meet (fun ac wd => () = aQ ∧ SL ⟨wb,S,Φ,P0⟩ 156 242 [] [] ac wd) ?_ ?_
    ·
     refine wp_block ?_
     refine r_while (fun nf ac wd => ∃ (aS : Int),L_law16_ProbeEach_l1 a1 a2 ao ar aa nf aS = some aQ ∧ SL ⟨wb,S,Φ,P0⟩ 156 238 [(2,.one (.d (.int .i64 a2))),(3,.one (.ptr (1,0) 0)),(4,.one (.ptr (2,0) 0)),(9,.one (.d (.sl (List.map eTOut ao.1)))),(11,.one (.d (.sl (List.map eI ar.Waits)))),(12,.one (.d (.int .i64 aS)))] [((1,0),some (.box 53 [.d (.int .i64 aa.G.N),.d (.sl (List.map eA2I aa.G.Links)),.d (.sl (List.map eTNode aa.T)),.d (.bool aa.Fifo)])),((2,0),some (.box 57 (cTHost a1)))] ac wd) (((ao.1.length : Int) - 0).toNat + 1) ⟨0,aR,h.z⟩ (fun nf ac wd hJ => ?_)
     obtain ⟨aS,aT,h⟩ := hJ
     cases nf with
     | zero => rw [L_law16_ProbeEach_l1] at aT; cases aT
     | succ nf =>
      rw [L_law16_ProbeEach_l1] at aT
      refine wp_seq ?_
      refine qs 242 [] [2,3,4,9,11,12,79] [(1,0),(2,0)] h fun ac wd h => ?_
      rcases i2 aT with ⟨aU,aT⟩ | ⟨aU,aT⟩
      ·
       refine kT h ?_
       refine wp_skip ?_
       change Code.wp Try.prog _ _ _ _
       refine wp_seq ?_
       refine wp_block ?_
       obtain ⟨aV,aW,aX,aY,aZ,aT⟩ := aB aT
       refine qs 249 [] [2,3,4,9,11,12,13] [(1,0),(2,0),(247,0)] h fun ac wd h => ?_
       obtain ⟨ba,bb,aT⟩ := oB aT
       obtain ⟨bc,bd,be,bf,bg,aT⟩ := aB aT
       obtain ⟨bh,bi,aT⟩ := oB aT
       have bj := L_law03_Ref_ok bb
       have bk := L_ref03_Find_ok bi
       refine ds 260 [factE 251 bj,factE 258 bk] [2,3,4,9,11,12,13,14] [(1,0),(2,0),(247,0)] h fun ac wd h => ?_
       obtain ⟨bl,bm,aT⟩ := oB aT
       obtain ⟨bn,aT⟩ := iTe aT
       obtain ⟨bo,aT⟩ := iTe aT
       obtain ⟨bp,aT⟩ := iTe aT
       obtain ⟨bq,aT⟩ := iTe aT
       obtain ⟨br,bs,aT⟩ := oB aT
       obtain ⟨bt,aT⟩ := iT aT
       obtain ⟨bu,bv,aT⟩ := oB aT
       obtain ⟨bw,aT⟩ := iTe aT
       obtain ⟨bx,bz,aT⟩ := oB aT
       obtain ⟨bA,bB,aT⟩ := oB aT
       have bj := L_law03_Ref_ok bb
       have bC := L_ref03_Find_ok bm
       have bD := L_ref01_Ints_ok bs
       have bE := L_host_Got_ok bv
       have bF := L_law07_Ref_ok bz
       have bG := L_ref07_Right_ok bB
       refine dsg 318 [factE 267 bj,factE 274 bC,factE 300 bD,factE 309 bE,factE 314 bF,factE 315 bG] [none,none,none,none,none,none,none,none,none,none,none,none,none,none,none,none,none,some (some 113,false),some (some 113,false),some (some 113,false),none,none,some (some 118,false),some (some 118,false),some (some 118,false),some (some 118,false),some (some 118,false),none,none,some (some 125,false),some (some 125,false),some (some 125,false),some (some 125,false),none,none,some (some 131,false),some (some 131,false),some (some 131,false),some (some 131,false),some (some 131,false),some (some 131,false),some (some 131,false),none,none,some (some 140,false),some (some 140,false),some (some 140,false),some (some 140,false),some (some 140,false),some (some 140,false),some (some 140,false),none,none,some (some 149,false),some (some 149,false),some (some 149,false),some (some 149,false),none] [2,3,4,9,11,12,154] [(1,0),(2,0)] h fun ac wd h => ?_
       obtain ⟨bH,aT⟩ := iT aT
       refine kF h ?_
       refine wp_skip ?_
       change Code.wp Try.prog _ _ _ _
       refine qe [] [2,3,4,9,11,12] [(1,0),(2,0)] h fun ac wd h => ?_
       exact ⟨nf,Nat.lt_succ_self nf,(IntKind.wrap .i64 (aS + 1)),aT,h.z⟩
      ·
       refine kF h ?_
       refine wp_exit ?_
       injection aT with aT; subst aT
       exact ⟨rfl,h.z⟩
    ·
     rintro ac wd ⟨rfl,h⟩
     (try dsimp only at hD)
     obtain ⟨bI,bJ,hD⟩ := oB hD
     have bK := L_law16_fixed_ok bJ
     refine qs 244 [factE 242 bK] [6] [] h fun ac wd h => ?_
     refine wp_ret ?_
     injection hD with hD
     subst hD
     exact rE h [.tmp 6]
   ·
    refine kT h ?_
    obtain ⟨bL,bM,hD⟩ := oB hD
    have bN := L_law16_fixed_ok bM
    refine qs 68 [factE 66 bN] [6] [] h fun ac wd h => ?_
    refine wp_ret ?_
    injection hD with hD
    subst hD
    exact rE h [.tmp 6]
 ·
  refine kT h ?_
  obtain ⟨bO,bP,hD⟩ := oB hD
  have bQ := L_law16_fixed_ok bP
  refine qs 21 [factE 19 bQ] [6] [] h fun ac wd h => ?_
  refine wp_ret ?_
  injection hD with hD
  subst hD
  exact rE h [.tmp 6]

end Go.Proofs.Ytabbejabdkkaiaa
