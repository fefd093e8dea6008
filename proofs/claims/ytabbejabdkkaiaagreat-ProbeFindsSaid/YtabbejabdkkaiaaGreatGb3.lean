/- Functions as typed ones,and that the program's functions answer as these do. No condition. -/
import Derived.Test.YtabbejabdkkaiaaGreatGb2
import Derived.Test.YtabbejabdkkaiaaGreatGd
set_option linter.unusedSimpArgs false
set_option linter.unusedVariables false
set_option maxRecDepth 20000
set_option maxHeartbeats 4000000
namespace Go.Proofs.YtabbejabdkkaiaaGreat
open Go.RowKit

theorem L_ref06_Right_ok {a0 : TPiece} {r : Bool} (hD : L_ref06_Right a0 = some r) :
  CallH Tryz.prog 35 [.agg (cTPiece a0)] []
   (.one (.d (.bool r))) [] := by
 unfold L_ref06_Right at hD
 refine rc Tryz.func35 rfl Tryz.ntmps35 fun S Φ P0 wb ac h => ?_
 refine qs 3 [] [1] [(1,0)] h fun ac wd h => ?_
 refine wp_seq ?_
 obtain ⟨aa,ab,hD⟩ := Option.bind_eq_some_iff.1 hD
 refine r_seqJ (fun ac wd => ∃ (ad : Bool),ad = aa ∧ SL ⟨wb,S,Φ,P0⟩ 167 49 [(1,.one (.ptr (1,0) 0)),(55,.one (.d (.bool ad)))] [((1,0),some (.box 109 (cTPiece a0)))] ac wd) ?_ ?_
 ·
  rcases i2 ab with ⟨ae,ab⟩ | ⟨ae,ab⟩
  ·
   refine qeg [] [none,none,none,none,some (some 13,false),some (some 13,false),some (some 13,false),none,none,some (some 18,false),some (some 18,false),some (some 18,false),none,none,some (some 23,false),some (some 23,false),some (some 23,false),none,none,some (some 28,false),some (some 28,false),some (some 28,false),none,none,some (some 33,false),some (some 33,false),some (some 33,false),none,none,some (some 38,false),some (some 38,false),some (some 38,false),some (some 38,false),none,none,some (some 44,false),some (some 44,false),some (some 44,false),some (some 44,false),none,none,some (some 50,false),some (some 50,false),some (some 50,false),some (some 50,false),none] [1,55] [(1,0)] h fun ac wd h => ?_
   injection ab with ab; subst ab
   exact ⟨true,rfl,h.z⟩
  ·
   rcases i2 ab with ⟨af,ab⟩ | ⟨af,ab⟩
   ·
    refine qeg [] [none,none,none,none,some (some 13,false),some (some 13,false),some (some 13,false),none,none,some (some 18,false),some (some 18,false),some (some 18,false),none,none,some (some 23,false),some (some 23,false),some (some 23,false),none,none,some (some 28,false),some (some 28,false),some (some 28,false),none,none,some (some 33,false),some (some 33,false),some (some 33,false),none,none,some (some 38,false),some (some 38,false),some (some 38,false),some (some 38,false),none,none,some (some 44,false),some (some 44,false),some (some 44,false),some (some 44,false),none,none,some (some 50,false),some (some 50,false),some (some 50,false),some (some 50,false),none] [1,55] [(1,0)] h fun ac wd h => ?_
    injection ab with ab; subst ab
    exact ⟨true,rfl,h.z⟩
   ·
    rcases i2 ab with ⟨ag,ab⟩ | ⟨ag,ab⟩
    ·
     refine qeg [] [none,none,none,none,some (some 13,false),some (some 13,false),some (some 13,false),none,none,some (some 18,false),some (some 18,false),some (some 18,false),none,none,some (some 23,false),some (some 23,false),some (some 23,false),none,none,some (some 28,false),some (some 28,false),some (some 28,false),none,none,some (some 33,false),some (some 33,false),some (some 33,false),none,none,some (some 38,false),some (some 38,false),some (some 38,false),some (some 38,false),none,none,some (some 44,false),some (some 44,false),some (some 44,false),some (some 44,false),none,none,some (some 50,false),some (some 50,false),some (some 50,false),some (some 50,false),none] [1,55] [(1,0)] h fun ac wd h => ?_
     injection ab with ab; subst ab
     exact ⟨true,rfl,h.z⟩
    ·
     rcases i2 ab with ⟨ah,ab⟩ | ⟨ah,ab⟩
     ·
      refine qeg [] [none,none,none,none,some (some 13,false),some (some 13,false),some (some 13,false),none,none,some (some 18,false),some (some 18,false),some (some 18,false),none,none,some (some 23,false),some (some 23,false),some (some 23,false),none,none,some (some 28,false),some (some 28,false),some (some 28,false),none,none,some (some 33,false),some (some 33,false),some (some 33,false),none,none,some (some 38,false),some (some 38,false),some (some 38,false),some (some 38,false),none,none,some (some 44,false),some (some 44,false),some (some 44,false),some (some 44,false),none,none,some (some 50,false),some (some 50,false),some (some 50,false),some (some 50,false),none] [1,55] [(1,0)] h fun ac wd h => ?_
      injection ab with ab; subst ab
      exact ⟨true,rfl,h.z⟩
     ·
      rcases i2 ab with ⟨ai,ab⟩ | ⟨ai,ab⟩
      ·
       refine qeg [] [none,none,none,none,some (some 13,false),some (some 13,false),some (some 13,false),none,none,some (some 18,false),some (some 18,false),some (some 18,false),none,none,some (some 23,false),some (some 23,false),some (some 23,false),none,none,some (some 28,false),some (some 28,false),some (some 28,false),none,none,some (some 33,false),some (some 33,false),some (some 33,false),none,none,some (some 38,false),some (some 38,false),some (some 38,false),some (some 38,false),none,none,some (some 44,false),some (some 44,false),some (some 44,false),some (some 44,false),none,none,some (some 50,false),some (some 50,false),some (some 50,false),some (some 50,false),none] [1,55] [(1,0)] h fun ac wd h => ?_
       injection ab with ab; subst ab
       exact ⟨true,rfl,h.z⟩
      ·
       rcases i2 ab with ⟨aj,ab⟩ | ⟨aj,ab⟩
       ·
        refine qeg [] [none,none,none,none,some (some 13,false),some (some 13,false),some (some 13,false),none,none,some (some 18,false),some (some 18,false),some (some 18,false),none,none,some (some 23,false),some (some 23,false),some (some 23,false),none,none,some (some 28,false),some (some 28,false),some (some 28,false),none,none,some (some 33,false),some (some 33,false),some (some 33,false),none,none,some (some 38,false),some (some 38,false),some (some 38,false),some (some 38,false),none,none,some (some 44,false),some (some 44,false),some (some 44,false),some (some 44,false),none,none,some (some 50,false),some (some 50,false),some (some 50,false),some (some 50,false),none] [1,55] [(1,0)] h fun ac wd h => ?_
        injection ab with ab; subst ab
        exact ⟨true,rfl,h.z⟩
       ·
        rcases i2 ab with ⟨ak,ab⟩ | ⟨ak,ab⟩
        ·
         refine qeg [] [none,none,none,none,some (some 13,false),some (some 13,false),some (some 13,false),none,none,some (some 18,false),some (some 18,false),some (some 18,false),none,none,some (some 23,false),some (some 23,false),some (some 23,false),none,none,some (some 28,false),some (some 28,false),some (some 28,false),none,none,some (some 33,false),some (some 33,false),some (some 33,false),none,none,some (some 38,false),some (some 38,false),some (some 38,false),some (some 38,false),none,none,some (some 44,false),some (some 44,false),some (some 44,false),some (some 44,false),none,none,some (some 50,false),some (some 50,false),some (some 50,false),some (some 50,false),none] [1,55] [(1,0)] h fun ac wd h => ?_
         injection ab with ab; subst ab
         exact ⟨true,rfl,h.z⟩
        ·
         rcases i2 ab with ⟨al,ab⟩ | ⟨al,ab⟩
         ·
          refine qeg [] [none,none,none,none,some (some 13,false),some (some 13,false),some (some 13,false),none,none,some (some 18,false),some (some 18,false),some (some 18,false),none,none,some (some 23,false),some (some 23,false),some (some 23,false),none,none,some (some 28,false),some (some 28,false),some (some 28,false),none,none,some (some 33,false),some (some 33,false),some (some 33,false),none,none,some (some 38,false),some (some 38,false),some (some 38,false),some (some 38,false),none,none,some (some 44,false),some (some 44,false),some (some 44,false),some (some 44,false),none,none,some (some 50,false),some (some 50,false),some (some 50,false),some (some 50,false),none] [1,55] [(1,0)] h fun ac wd h => ?_
          injection ab with ab; subst ab
          exact ⟨true,rfl,h.z⟩
         ·
          refine qeg [] [none,none,none,none,some (some 13,false),some (some 13,false),some (some 13,false),none,none,some (some 18,false),some (some 18,false),some (some 18,false),none,none,some (some 23,false),some (some 23,false),some (some 23,false),none,none,some (some 28,false),some (some 28,false),some (some 28,false),none,none,some (some 33,false),some (some 33,false),some (some 33,false),none,none,some (some 38,false),some (some 38,false),some (some 38,false),some (some 38,false),none,none,some (some 44,false),some (some 44,false),some (some 44,false),some (some 44,false),none,none,some (some 50,false),some (some 50,false),some (some 50,false),some (some 50,false),none] [1,55] [(1,0)] h fun ac wd h => ?_
          injection ab with ab; subst ab
          exact ⟨decide ((a0.Out.length : Int) > 5),rfl,h.z⟩
 ·
  rintro ac wd ⟨ad,rfl,h⟩
  (try dsimp only at hD)
  rcases i2b hD with ⟨am,hD⟩ | ⟨am,hD⟩
  ·
   refine kT h ?_
   refine qs 50 [] [2] [] h fun ac wd h => ?_
   refine wp_ret ?_
   injection hD with hD
   subst hD
   exact rE h [.tmp 2]
  ·
   refine kF h ?_
   refine wp_skip ?_
   change Code.wp Tryz.prog _ _ _ _
   refine wp_seq ?_
   refine qs 50 [] [1,3] [(1,0)] h fun ac wd h => ?_
   obtain ⟨an,ao,hD⟩ := Option.bind_eq_some_iff.1 hD
   refine r_meet (fun ac wd => (.inl ()) = an ∧ SL ⟨wb,S,Φ,P0⟩ 167 99 [(1,.one (.ptr (1,0) 0))] [((1,0),some (.box 109 (cTPiece a0)))] ac wd) ?_ ?_
   ·
    refine wp_block ?_
    refine r_while (fun nf ac wd => ∃ (ap : Int),L_ref06_Right_l1 a0 nf ap = some an ∧ SL ⟨wb,S,Φ,P0⟩ 167 94 [(1,.one (.ptr (1,0) 0)),(3,.one (.d (.int .i64 ap)))] [((1,0),some (.box 109 (cTPiece a0)))] ac wd) (((a0.Sent.length : Int) - 0).toNat + 1) ⟨0,ao,h.z⟩ (fun nf ac wd hJ => ?_)
    obtain ⟨ap,aq,h⟩ := hJ
    cases nf with
    | zero => rw [L_ref06_Right_l1] at aq; cases aq
    | succ nf =>
     rw [L_ref06_Right_l1] at aq
     refine wp_seq ?_
     refine qs 99 [] [1,3,60] [(1,0)] h fun ac wd h => ?_
     rcases i2 aq with ⟨ar,aq⟩ | ⟨ar,aq⟩
     ·
      refine kT h ?_
      refine wp_skip ?_
      change Code.wp Tryz.prog _ _ _ _
      refine wp_seq ?_
      refine wp_block ?_
      obtain ⟨au,av,aq⟩ := Option.bind_eq_some_iff.1 aq
      refine r_seqJ (fun ac wd => ∃ (aw : Bool),aw = au ∧ SL ⟨wb,S,Φ,P0⟩ 167 113 [(1,.one (.ptr (1,0) 0)),(3,.one (.d (.int .i64 ap))),(76,.one (.d (.bool aw)))] [((1,0),some (.box 109 (cTPiece a0)))] ac wd) ?_ ?_
      ·
       obtain ⟨ax,ay,az,aA,aC,av⟩ := aB av
       rcases i2 av with ⟨aD,av⟩ | ⟨aD,av⟩
       ·
        refine qeg [] [none,none,none,none,none,none,none,some (some 69,false),some (some 69,false),some (some 69,false),some (some 69,false),some (some 69,false),some (some 69,false),none] [1,3,76] [(1,0)] h fun ac wd h => ?_
        injection av with av; subst av
        exact ⟨true,rfl,h.z⟩
       ·
        refine qeg [] [none,none,none,none,none,none,none,some (some 69,false),some (some 69,false),some (some 69,false),some (some 69,false),some (some 69,false),some (some 69,false),none] [1,3,76] [(1,0)] h fun ac wd h => ?_
        injection av with av; subst av
        exact ⟨decide (ax > 500),rfl,h.z⟩
      ·
       rintro ac wd ⟨aw,rfl,h⟩
       (try dsimp only at aq)
       rcases i2b aq with ⟨aE,aq⟩ | ⟨aE,aq⟩
       ·
        refine kT h ?_
        refine qs 114 [] [2] [] h fun ac wd h => ?_
        refine wp_ret ?_
        injection aq with aq
        subst aq
        (try dsimp only at hD)
        injection hD with hD
        subst hD
        exact rE h [.tmp 2]
       ·
        refine kF h ?_
        refine wp_skip ?_
        change Code.wp Tryz.prog _ _ _ _
        refine qe [] [1,3] [(1,0)] h fun ac wd h => ?_
        exact ⟨nf,Nat.lt_succ_self nf,(IntKind.wrap .i64 (ap + 1)),aq,h.z⟩
     ·
      refine kF h ?_
      refine wp_exit ?_
      injection aq with aq; subst aq
      exact ⟨rfl,h.z⟩
   ·
    rintro ac wd ⟨rfl,h⟩
    (try dsimp only at hD)
    refine wp_seq ?_
    refine qs 100 [] [1,4] [(1,0)] h fun ac wd h => ?_
    obtain ⟨aF,aG,hD⟩ := Option.bind_eq_some_iff.1 hD
    refine r_meet (fun ac wd => (.inl ()) = aF ∧ SL ⟨wb,S,Φ,P0⟩ 167 313 [(1,.one (.ptr (1,0) 0))] [((1,0),some (.box 109 (cTPiece a0)))] ac wd) ?_ ?_
    ·
     refine wp_block ?_
     refine r_while (fun nf ac wd => ∃ (aH : Int),L_ref06_Right_l2 a0 nf aH = some aF ∧ SL ⟨wb,S,Φ,P0⟩ 167 308 [(1,.one (.ptr (1,0) 0)),(4,.one (.d (.int .i64 aH)))] [((1,0),some (.box 109 (cTPiece a0)))] ac wd) (((a0.In.length : Int) - 0).toNat + 1) ⟨0,aG,h.z⟩ (fun nf ac wd hJ => ?_)
     obtain ⟨aH,aI,h⟩ := hJ
     cases nf with
     | zero => rw [L_ref06_Right_l2] at aI; cases aI
     | succ nf =>
      rw [L_ref06_Right_l2] at aI
      refine wp_seq ?_
      refine qs 313 [] [1,4,81] [(1,0)] h fun ac wd h => ?_
      rcases i2 aI with ⟨aJ,aI⟩ | ⟨aJ,aI⟩
      ·
       refine kT h ?_
       refine wp_skip ?_
       change Code.wp Tryz.prog _ _ _ _
       obtain ⟨aK,aL,aI⟩ := Option.bind_eq_some_iff.1 aI
       refine r_seqJ (fun ac wd => (.inl ()) = aK ∧ SL ⟨wb,S,Φ,P0⟩ 167 409 [(1,.one (.ptr (1,0) 0)),(4,.one (.d (.int .i64 aH)))] [((1,0),some (.box 109 (cTPiece a0)))] ac wd) ?_ ?_
       ·
        refine wp_block ?_
        refine qs 314 [] [1,4,5] [(1,0)] h fun ac wd h => ?_
        refine qs 315 [] [1,4,5,6] [(1,0)] h fun ac wd h => ?_
        obtain ⟨aM,aN,aL⟩ := Option.bind_eq_some_iff.1 aL
        refine r_meetQ (fun ac wd => (.inl ()) = aM ∧ SL ⟨wb,S,Φ,P0⟩ 167 409 [(1,.one (.ptr (1,0) 0)),(4,.one (.d (.int .i64 aH)))] [((1,0),some (.box 109 (cTPiece a0)))] ac wd) ?_ ?_
        ·
         refine wp_block ?_
         refine r_while (fun nf ac wd => ∃ (aO : Int) (aP : Int),L_ref06_Right_l3 a0 aH nf aO aP = some aM ∧ SL ⟨wb,S,Φ,P0⟩ 167 401 [(1,.one (.ptr (1,0) 0)),(4,.one (.d (.int .i64 aH))),(5,.one (.d (.int .i64 aO))),(6,.one (.d (.int .i64 aP)))] [((1,0),some (.box 109 (cTPiece a0)))] ac wd) (((at? a0.In aH).elim 0 fun aQ => ((aQ.length : Int) - 0).toNat) + 1) ⟨0,0,aN,h.z⟩ (fun nf ac wd hJ => ?_)
         obtain ⟨aO,aP,aR,h⟩ := hJ
         cases nf with
         | zero => rw [L_ref06_Right_l3] at aR; cases aR
         | succ nf =>
          rw [L_ref06_Right_l3] at aR
          refine wp_seq ?_
          obtain ⟨aS,aT,aU,aV,aW,aR⟩ := aB aR
          refine qs 409 [] [1,4,5,6,91] [(1,0)] h fun ac wd h => ?_
          rcases i2 aR with ⟨aX,aR⟩ | ⟨aX,aR⟩
          ·
           refine kT h ?_
           refine wp_skip ?_
           change Code.wp Tryz.prog _ _ _ _
           refine wp_seq ?_
           refine wp_block ?_
           obtain ⟨aY,aZ,ba,bb,bc,aR⟩ := aB aR
           refine qs 419 [] [1,4,5,6,7] [(1,0),(417,0)] h fun ac wd h => ?_
           refine wp_seq ?_
           obtain ⟨bd,be,aR⟩ := Option.bind_eq_some_iff.1 aR
           refine r_seqJ (fun ac wd => ∃ (bf : Bool),bf = bd ∧ SL ⟨wb,S,Φ,P0⟩ 167 438 [(1,.one (.ptr (1,0) 0)),(4,.one (.d (.int .i64 aH))),(6,.one (.d (.int .i64 aP))),(7,.one (.ptr (417,0) 0)),(120,.one (.d (.bool bf)))] [((1,0),some (.box 109 (cTPiece a0))),((417,0),some (.box 34 (cTMsg aY)))] ac wd) ?_ ?_
           ·
            rcases i2 be with ⟨bg,be⟩ | ⟨bg,be⟩
            ·
             refine qeg [] [none,none,none,none,none,some (some 106,false),some (some 106,false),some (some 106,false),none,none,some (some 111,false),some (some 111,false),some (some 111,false),none,none,some (some 116,false),some (some 116,false),some (some 116,false),none] [1,4,6,7,120] [(1,0),(417,0)] h fun ac wd h => ?_
             injection be with be; subst be
             exact ⟨true,rfl,h.z⟩
            ·
             rcases i2 be with ⟨bh,be⟩ | ⟨bh,be⟩
             ·
              refine qeg [] [none,none,none,none,none,some (some 106,false),some (some 106,false),some (some 106,false),none,none,some (some 111,false),some (some 111,false),some (some 111,false),none,none,some (some 116,false),some (some 116,false),some (some 116,false),none] [1,4,6,7,120] [(1,0),(417,0)] h fun ac wd h => ?_
              injection be with be; subst be
              exact ⟨true,rfl,h.z⟩
             ·
              rcases i2 be with ⟨bi,be⟩ | ⟨bi,be⟩
              ·
               refine qeg [] [none,none,none,none,none,some (some 106,false),some (some 106,false),some (some 106,false),none,none,some (some 111,false),some (some 111,false),some (some 111,false),none,none,some (some 116,false),some (some 116,false),some (some 116,false),none] [1,4,6,7,120] [(1,0),(417,0)] h fun ac wd h => ?_
               injection be with be; subst be
               exact ⟨true,rfl,h.z⟩
              ·
               refine qeg [] [none,none,none,none,none,some (some 106,false),some (some 106,false),some (some 106,false),none,none,some (some 111,false),some (some 111,false),some (some 111,false),none,none,some (some 116,false),some (some 116,false),some (some 116,false),none] [1,4,6,7,120] [(1,0),(417,0)] h fun ac wd h => ?_
               injection be with be; subst be
               exact ⟨decide (aY.Letter > 3),rfl,h.z⟩
           ·
            rintro ac wd ⟨bf,rfl,h⟩
            (try dsimp only at aR)
            rcases i2b aR with ⟨bj,aR⟩ | ⟨bj,aR⟩
            ·
             refine kT h ?_
             refine qs 439 [] [2] [] h fun ac wd h => ?_
             refine wp_ret ?_
             injection aR with aR
             subst aR
             (try dsimp only at aL)
             injection aL with aL
             subst aL
             (try dsimp only at aI)
             injection aI with aI
             subst aI
             (try dsimp only at hD)
             injection hD with hD
             subst hD
             exact rE h [.tmp 2]
            ·
             refine kF h ?_
             refine wp_skip ?_
             change Code.wp Tryz.prog _ _ _ _
             refine qe [] [1,4,5,6] [(1,0)] h fun ac wd h => ?_
             change Code.wp Tryz.prog _ _ _ _
             refine qe [] [1,4,5,6] [(1,0)] h fun ac wd h => ?_
             exact ⟨nf,Nat.lt_succ_self nf,aY.Seq,(IntKind.wrap .i64 (aP + 1)),aR,h.z⟩
          ·
           refine kF h ?_
           refine wp_exit ?_
           injection aR with aR; subst aR
           exact ⟨rfl,h.z⟩
        ·
         rintro ac wd ⟨rfl,h⟩
         (try dsimp only at aL)
         injection aL with aL; subst aL
         exact ⟨rfl,h.z⟩
       ·
        rintro ac wd ⟨rfl,h⟩
        (try dsimp only at aI)
        refine qe [] [1,4] [(1,0)] h fun ac wd h => ?_
        exact ⟨nf,Nat.lt_succ_self nf,(IntKind.wrap .i64 (aH + 1)),aI,h.z⟩
      ·
       refine kF h ?_
       refine wp_exit ?_
       injection aI with aI; subst aI
       exact ⟨rfl,h.z⟩
    ·
     rintro ac wd ⟨rfl,h⟩
     (try dsimp only at hD)
     refine wp_seq ?_
     refine qs 314 [] [1,8] [(1,0)] h fun ac wd h => ?_
     refine wp_block ?_
     refine r_while (fun nf ac wd => ∃ (bk : Int),L_ref06_Right_l4 a0 nf bk = some r ∧ SL ⟨wb,S,Φ,P0⟩ 167 486 [(1,.one (.ptr (1,0) 0)),(8,.one (.d (.int .i64 bk)))] [((1,0),some (.box 109 (cTPiece a0)))] ac wd) (((a0.Out.length : Int) - 0).toNat + 1) ⟨0,hD,h.z⟩ (fun nf ac wd hJ => ?_)
     obtain ⟨bk,bl,h⟩ := hJ
     cases nf with
     | zero => rw [L_ref06_Right_l4] at bl; cases bl
     | succ nf =>
      rw [L_ref06_Right_l4] at bl
      refine wp_seq ?_
      refine qs 491 [] [1,8,127] [(1,0)] h fun ac wd h => ?_
      rcases i2 bl with ⟨bm,bl⟩ | ⟨bm,bl⟩
      ·
       refine kT h ?_
       refine wp_skip ?_
       change Code.wp Tryz.prog _ _ _ _
       obtain ⟨bn,bo,bl⟩ := Option.bind_eq_some_iff.1 bl
       refine r_seqJ (fun ac wd => (.inl ()) = bn ∧ SL ⟨wb,S,Φ,P0⟩ 167 569 [(1,.one (.ptr (1,0) 0)),(8,.one (.d (.int .i64 bk)))] [((1,0),some (.box 109 (cTPiece a0)))] ac wd) ?_ ?_
       ·
        refine wp_block ?_
        refine wp_seq ?_
        obtain ⟨bp,bq,br,bs,bt,bo⟩ := aB bo
        refine qs 498 [] [1,8,136] [(1,0)] h fun ac wd h => ?_
        rcases i2 bo with ⟨bu,bo⟩ | ⟨bu,bo⟩
        ·
         refine kT h ?_
         refine qs 499 [] [2] [] h fun ac wd h => ?_
         refine wp_ret ?_
         injection bo with bo
         subst bo
         (try dsimp only at bl)
         injection bl with bl
         subst bl
         exact rE h [.tmp 2]
        ·
         refine kF h ?_
         refine wp_skip ?_
         change Code.wp Tryz.prog _ _ _ _
         refine qs 499 [] [1,8,9] [(1,0)] h fun ac wd h => ?_
         obtain ⟨bv,bw,bo⟩ := Option.bind_eq_some_iff.1 bo
         refine r_meetQ (fun ac wd => (.inl ()) = bv ∧ SL ⟨wb,S,Φ,P0⟩ 167 569 [(1,.one (.ptr (1,0) 0)),(8,.one (.d (.int .i64 bk)))] [((1,0),some (.box 109 (cTPiece a0)))] ac wd) ?_ ?_
         ·
          refine wp_block ?_
          refine r_while (fun nf ac wd => ∃ (bx : Int),L_ref06_Right_l5 bp nf bx = some bv ∧ SL ⟨wb,S,Φ,P0⟩ 167 561 [(1,.one (.ptr (1,0) 0)),(8,.one (.d (.int .i64 bk))),(9,.one (.d (.int .i64 bx)))] [((1,0),some (.box 109 (cTPiece a0)))] ac wd) (((bp.length : Int) - 0).toNat + 1) ⟨0,bw,h.z⟩ (fun nf ac wd hJ => ?_)
          obtain ⟨bx,bz,h⟩ := hJ
          cases nf with
          | zero => rw [L_ref06_Right_l5] at bz; cases bz
          | succ nf =>
           rw [L_ref06_Right_l5] at bz
           refine wp_seq ?_
           refine qs 569 [] [1,8,9,144] [(1,0)] h fun ac wd h => ?_
           rcases i2 bz with ⟨bA,bz⟩ | ⟨bA,bz⟩
           ·
            refine kT h ?_
            refine wp_skip ?_
            change Code.wp Tryz.prog _ _ _ _
            refine wp_seq ?_
            refine wp_block ?_
            obtain ⟨bB,bC,bz⟩ := Option.bind_eq_some_iff.1 bz
            refine r_seqJ (fun ac wd => ∃ (bD : Bool),bD = bB ∧ SL ⟨wb,S,Φ,P0⟩ 167 589 [(1,.one (.ptr (1,0) 0)),(8,.one (.d (.int .i64 bk))),(9,.one (.d (.int .i64 bx))),(166,.one (.d (.bool bD)))] [((1,0),some (.box 109 (cTPiece a0)))] ac wd) ?_ ?_
            ·
             obtain ⟨bE,bF,bG,bH,bI,bC⟩ := aB bC
             rcases i2 bC with ⟨bJ,bC⟩ | ⟨bJ,bC⟩
             ·
              refine qeg [] [none,none,none,none,none,none,none,none,none,none,some (some 156,false),some (some 156,false),some (some 156,false),some (some 156,false),some (some 156,false),some (some 156,false),some (some 156,false),some (some 156,false),some (some 156,false),none] [1,8,9,166] [(1,0)] h fun ac wd h => ?_
              injection bC with bC; subst bC
              exact ⟨true,rfl,h.z⟩
             ·
              refine qeg [] [none,none,none,none,none,none,none,none,none,none,some (some 156,false),some (some 156,false),some (some 156,false),some (some 156,false),some (some 156,false),some (some 156,false),some (some 156,false),some (some 156,false),some (some 156,false),none] [1,8,9,166] [(1,0)] h fun ac wd h => ?_
              injection bC with bC; subst bC
              exact ⟨decide (bE > 3),rfl,h.z⟩
            ·
             rintro ac wd ⟨bD,rfl,h⟩
             (try dsimp only at bz)
             rcases i2b bz with ⟨bK,bz⟩ | ⟨bK,bz⟩
             ·
              refine kT h ?_
              refine qs 590 [] [2] [] h fun ac wd h => ?_
              refine wp_ret ?_
              injection bz with bz
              subst bz
              (try dsimp only at bo)
              injection bo with bo
              subst bo
              (try dsimp only at bl)
              injection bl with bl
              subst bl
              exact rE h [.tmp 2]
             ·
              refine kF h ?_
              refine wp_skip ?_
              change Code.wp Tryz.prog _ _ _ _
              refine qe [] [1,8,9] [(1,0)] h fun ac wd h => ?_
              exact ⟨nf,Nat.lt_succ_self nf,(IntKind.wrap .i64 (bx + 1)),bz,h.z⟩
           ·
            refine kF h ?_
            refine wp_exit ?_
            injection bz with bz; subst bz
            exact ⟨rfl,h.z⟩
         ·
          rintro ac wd ⟨rfl,h⟩
          (try dsimp only at bo)
          injection bo with bo; subst bo
          exact ⟨rfl,h.z⟩
       ·
        rintro ac wd ⟨rfl,h⟩
        (try dsimp only at bl)
        refine qe [] [1,8] [(1,0)] h fun ac wd h => ?_
        exact ⟨nf,Nat.lt_succ_self nf,(IntKind.wrap .i64 (bk + 1)),bl,h.z⟩
      ·
       refine kF h ?_
       refine wp_exit ?_
       change Code.wp Tryz.prog _ _ _ _
       refine qs 492 [] [2] [] h fun ac wd h => ?_
       refine wp_ret ?_
       injection bl with bl
       subst bl
       exact rE h [.tmp 2]

theorem L_ref09_Right_ok {a0 : TApp} {a1 : THost} {r : Bool} (hD : L_ref09_Right a0 a1 = some r) :
  CallH Tryz.prog 9 [.agg (cTApp a0),.agg (cTHost a1)] []
   (.one (.d (.bool r))) [] := by
 unfold L_ref09_Right at hD
 refine rc Tryz.func9 rfl Tryz.ntmps9 fun S Φ P0 wb ac h => ?_
 refine qs 4 [] [2,3] [(1,0),(2,0)] h fun ac wd h => ?_
 refine wp_seq ?_
 obtain ⟨aa,ab,hD⟩ := Option.bind_eq_some_iff.1 hD
 refine r_seqJ (fun ac wd => ∃ (ad : Bool),ad = aa ∧ SL ⟨wb,S,Φ,P0⟩ 74 41 [(2,.one (.ptr (1,0) 0)),(3,.one (.ptr (2,0) 0)),(41,.one (.d (.bool ad)))] [((1,0),some (.box 44 (cTApp a0))),((2,0),some (.box 46 (cTHost a1)))] ac wd) ?_ ?_
 ·
  obtain ⟨ae,af,ab⟩ := oB ab
  rcases i2b ab with ⟨ag,ab⟩ | ⟨ag,ab⟩
  ·
   rcases i2 ab with ⟨ah,ab⟩ | ⟨ah,ab⟩
   ·
    have ai := L_ref04_Right_ok af
    refine deg [factE 8 ai] [none,none,none,none,none,none,none,some (some 11,false),some (some 11,false),some (some 11,false),none,none,some (some 16,false),some (some 16,false),some (some 16,false),some (some 16,false),some (some 16,false),some (some 16,false),none,none,some (some 24,false),some (some 24,false),some (some 24,false),none,none,some (some 29,false),some (some 29,false),some (some 29,false),some (some 29,false),some (some 29,false),some (some 29,false),some (some 29,false),some (some 29,false),some (some 29,false),some (some 29,false),some (some 29,false),none] [2,3,41] [(1,0),(2,0)] h fun ac wd h => ?_
    injection ab with ab; subst ab
    exact ⟨true,rfl,h.z⟩
   ·
    rcases i2 ab with ⟨aj,ab⟩ | ⟨aj,ab⟩
    ·
     have ai := L_ref04_Right_ok af
     refine deg [factE 8 ai] [none,none,none,none,none,none,none,some (some 11,false),some (some 11,false),some (some 11,false),none,none,some (some 16,false),some (some 16,false),some (some 16,false),some (some 16,false),some (some 16,false),some (some 16,false),none,none,some (some 24,false),some (some 24,false),some (some 24,false),none,none,some (some 29,false),some (some 29,false),some (some 29,false),some (some 29,false),some (some 29,false),some (some 29,false),some (some 29,false),some (some 29,false),some (some 29,false),some (some 29,false),some (some 29,false),none] [2,3,41] [(1,0),(2,0)] h fun ac wd h => ?_
     injection ab with ab; subst ab
     exact ⟨true,rfl,h.z⟩
    ·
     rcases i2 ab with ⟨ak,ab⟩ | ⟨ak,ab⟩
     ·
      have ai := L_ref04_Right_ok af
      refine deg [factE 8 ai] [none,none,none,none,none,none,none,some (some 11,false),some (some 11,false),some (some 11,false),none,none,some (some 16,false),some (some 16,false),some (some 16,false),some (some 16,false),some (some 16,false),some (some 16,false),none,none,some (some 24,false),some (some 24,false),some (some 24,false),none,none,some (some 29,false),some (some 29,false),some (some 29,false),some (some 29,false),some (some 29,false),some (some 29,false),some (some 29,false),some (some 29,false),some (some 29,false),some (some 29,false),some (some 29,false),none] [2,3,41] [(1,0),(2,0)] h fun ac wd h => ?_
      injection ab with ab; subst ab
      exact ⟨true,rfl,h.z⟩
     ·
      obtain ⟨al,am,an,ao,ap,ab⟩ := aB ab
      have ai := L_ref04_Right_ok af
      refine deg [factE 8 ai] [none,none,none,none,none,none,none,some (some 11,false),some (some 11,false),some (some 11,false),none,none,some (some 16,false),some (some 16,false),some (some 16,false),some (some 16,false),some (some 16,false),some (some 16,false),none,none,some (some 24,false),some (some 24,false),some (some 24,false),none,none,some (some 29,false),some (some 29,false),some (some 29,false),some (some 29,false),some (some 29,false),some (some 29,false),some (some 29,false),some (some 29,false),some (some 29,false),some (some 29,false),some (some 29,false),none] [2,3,41] [(1,0),(2,0)] h fun ac wd h => ?_
      injection ab with ab; subst ab
      exact ⟨decide (a1.State ≥ (al.States.length : Int)),rfl,h.z⟩
  ·
   have ai := L_ref04_Right_ok af
   refine deg [factE 8 ai] [none,none,none,none,none,none,none,some (some 11,false),some (some 11,false),some (some 11,false),none,none,some (some 16,false),some (some 16,false),some (some 16,false),some (some 16,false),some (some 16,false),some (some 16,false),none,none,some (some 24,false),some (some 24,false),some (some 24,false),none,none,some (some 29,false),some (some 29,false),some (some 29,false),some (some 29,false),some (some 29,false),some (some 29,false),some (some 29,false),some (some 29,false),some (some 29,false),some (some 29,false),some (some 29,false),none] [2,3,41] [(1,0),(2,0)] h fun ac wd h => ?_
   injection ab with ab; subst ab
   exact ⟨true,rfl,h.z⟩
 ·
  rintro ac wd ⟨ad,rfl,h⟩
  (try dsimp only at hD)
  rcases i2b hD with ⟨aq,hD⟩ | ⟨aq,hD⟩
  ·
   refine kT h ?_
   refine qs 42 [] [4] [] h fun ac wd h => ?_
   refine wp_ret ?_
   injection hD with hD
   subst hD
   exact rE h [.tmp 4]
  ·
   refine kF h ?_
   refine wp_skip ?_
   change Code.wp Tryz.prog _ _ _ _
   obtain ⟨ar,au,hD⟩ := Option.bind_eq_some_iff.1 hD
   refine r_seqJ (fun ac wd => ∃ (av : Bool),av = ar ∧ SL ⟨wb,S,Φ,P0⟩ 74 74 [(4,.one (.d (.bool av)))] [] ac wd) ?_ ?_
   ·
    obtain ⟨aw,ax,au⟩ := oB au
    rcases i2e au with ⟨ay,au⟩ | ⟨ay,au⟩
    ·
     obtain ⟨az,aA,au⟩ := oB au
     rcases i2e au with ⟨aC,au⟩ | ⟨aC,au⟩
     ·
      obtain ⟨aD,aE,au⟩ := oB au
      have aF := L_ref03_In_ok ax
      have aG := L_ref03_Out_ok aA
      have aH := L_ref06_Right_ok aE
      refine deg [factE 48 aF,factE 59 aG,factE 71 aH] [none,none,none,none,none,none,none,none,none,none,none,some (some 52,true),some (some 52,true),some (some 52,true),some (some 52,true),some (some 52,true),some (some 52,true),some (some 52,true),some (some 52,true),some (some 52,true),some (some 52,true),none,none,some (some 64,true),some (some 64,true),some (some 64,true),some (some 64,true),some (some 64,true),some (some 64,true),some (some 64,true),some (some 64,true),none,none] [4] [] h fun ac wd h => ?_
      injection au with au; subst au
      exact ⟨aD,rfl,h.z⟩
     ·
      have aF := L_ref03_In_ok ax
      have aG := L_ref03_Out_ok aA
      refine deg [factE 48 aF,factE 59 aG] [none,none,none,none,none,none,none,none,none,none,none,some (some 52,true),some (some 52,true),some (some 52,true),some (some 52,true),some (some 52,true),some (some 52,true),some (some 52,true),some (some 52,true),some (some 52,true),some (some 52,true),none,none,some (some 64,true),some (some 64,true),some (some 64,true),some (some 64,true),some (some 64,true),some (some 64,true),some (some 64,true),some (some 64,true),none,none] [4] [] h fun ac wd h => ?_
      injection au with au; subst au
      exact ⟨false,rfl,h.z⟩
    ·
     have aF := L_ref03_In_ok ax
     refine deg [factE 48 aF] [none,none,none,none,none,none,none,none,none,none,none,some (some 52,true),some (some 52,true),some (some 52,true),some (some 52,true),some (some 52,true),some (some 52,true),some (some 52,true),some (some 52,true),some (some 52,true),some (some 52,true),none,none,some (some 64,true),some (some 64,true),some (some 64,true),some (some 64,true),some (some 64,true),some (some 64,true),some (some 64,true),some (some 64,true),none,none] [4] [] h fun ac wd h => ?_
     injection au with au; subst au
     exact ⟨false,rfl,h.z⟩
   ·
    rintro ac wd ⟨av,rfl,h⟩
    (try dsimp only at hD)
    refine wp_ret ?_
    injection hD with hD
    subst hD
    exact rE h [.tmp 4]

theorem L_graph_Full_own {a0 : Int} {r : TGraph} (hD : L_graph_Full a0 = some r) :
  CallH Tryz.prog 63 [.one (.d (.int .i64 a0))] []
   (.agg [.d (.int .i64 r.N),.own (1,0) r.Links.length]) [((1,0),some (.row 91 2 (dat (List.map eA2I r.Links))))] := by
 unfold L_graph_Full at hD
 refine rc Tryz.func63 rfl Tryz.ntmps63 fun S Φ P0 wb ac h => ?_
 refine qs 2 [] [0,2] [(1,0)] h fun ac wd h => ?_
 refine qs 8 [] [2,3] [(1,0),(6,0)] h fun ac wd h => ?_
 refine wp_seq ?_
 refine qs 11 [] [2,3,11,12] [(1,0),(6,0)] h fun ac wd h => ?_
 refine wp_block ?_
 have h := SL.bornB h (6,0) 1 91 2 (by simp only [EZ,simprocAttr, *] <;> rfl) (by simp only [EZ,simprocAttr, *] <;> rfl)
 refine r_while (fun nf ac wd => ∃ (aa : Int) (ab : List A2I),L_graph_Full_l1 a0 nf aa ab = some r ∧ SL ⟨wb,S,Φ,P0⟩ 34 105 [(2,.one (.ptr (1,0) 0)),(3,.one (.ptr (6,0) 0)),(11,.one (.d (.int .i64 (min (max a0 1) 6)))),(12,.one (.d (.int .i64 aa)))] [((1,0),some (.box 24 [.d (.int .i64 0),.nil])),((6,0),some (.box 24 [.d (.int .i64 (min (max a0 1) 6)),.own (11,0) ab.length])),((11,0),some (.row 91 2 (dat (List.map eA2I ab))))] ac wd) (((min (max a0 1) 6) - 0).toNat + 1) ⟨0,([] : List A2I),hD,h.z⟩ (fun nf ac wd hJ => ?_)
 obtain ⟨aa,ab,ad,h⟩ := hJ
 cases nf with
 | zero => rw [L_graph_Full_l1] at ad; cases ad
 | succ nf =>
  rw [L_graph_Full_l1] at ad
  refine qs 106 [] [2,3,11,12,13] [(1,0),(6,0),(11,0)] h fun ac wd h => ?_
  refine wp_seq ?_
  rcases i2 ad with ⟨ae,ad⟩ | ⟨ae,ad⟩
  ·
   refine kT h ?_
   refine wp_skip ?_
   change Code.wp Tryz.prog _ _ _ _
   obtain ⟨af,ag,ad⟩ := Option.bind_eq_some_iff.1 ad
   refine r_seqJ (fun ac wd => ∃ (ah : List A2I),ah = af ∧ SL ⟨wb,S,Φ,P0⟩ 34 146 [(2,.one (.ptr (1,0) 0)),(3,.one (.ptr (6,0) 0)),(11,.one (.d (.int .i64 (min (max a0 1) 6)))),(12,.one (.d (.int .i64 aa)))] [((1,0),some (.box 24 [.d (.int .i64 0),.nil])),((6,0),some (.box 24 [.d (.int .i64 (min (max a0 1) 6)),.own (11,0) ah.length])),((11,0),some (.row 91 2 (dat (List.map eA2I ah))))] ac wd) ?_ ?_
   ·
    refine wp_block ?_
    refine qs 108 [] [2,3,4,11,12] [(1,0),(6,0),(11,0)] h fun ac wd h => ?_
    refine qs 111 [] [2,3,4,11,12,16,17] [(1,0),(6,0),(11,0)] h fun ac wd h => ?_
    obtain ⟨ai,aj,ag⟩ := Option.bind_eq_some_iff.1 ag
    refine r_meetQ (fun ac wd => ∃ (ak : List A2I),ak = ai ∧ SL ⟨wb,S,Φ,P0⟩ 34 146 [(2,.one (.ptr (1,0) 0)),(3,.one (.ptr (6,0) 0)),(11,.one (.d (.int .i64 (min (max a0 1) 6)))),(12,.one (.d (.int .i64 aa)))] [((1,0),some (.box 24 [.d (.int .i64 0),.nil])),((6,0),some (.box 24 [.d (.int .i64 (min (max a0 1) 6)),.own (11,0) ak.length])),((11,0),some (.row 91 2 (dat (List.map eA2I ak))))] ac wd) ?_ ?_
    ·
     refine wp_block ?_
     refine r_while (fun nf ac wd => ∃ (al : Int) (am : List A2I),L_graph_Full_l2 a0 aa nf al am = some ai ∧ SL ⟨wb,S,Φ,P0⟩ 34 145 [(2,.one (.ptr (1,0) 0)),(3,.one (.ptr (6,0) 0)),(4,.one (.d (.int .i64 aa))),(11,.one (.d (.int .i64 (min (max a0 1) 6)))),(12,.one (.d (.int .i64 aa))),(16,.one (.d (.int .i64 (min (max a0 1) 6)))),(17,.one (.d (.int .i64 al)))] [((1,0),some (.box 24 [.d (.int .i64 0),.nil])),((6,0),some (.box 24 [.d (.int .i64 (min (max a0 1) 6)),.own (11,0) am.length])),((11,0),some (.row 91 2 (dat (List.map eA2I am))))] ac wd) (((min (max a0 1) 6) - 0).toNat + 1) ⟨0,ab,aj,h.z⟩ (fun nf ac wd hJ => ?_)
     obtain ⟨al,am,an,h⟩ := hJ
     cases nf with
     | zero => rw [L_graph_Full_l2] at an; cases an
     | succ nf =>
      rw [L_graph_Full_l2] at an
      refine qs 146 [] [2,3,4,11,12,16,17,18] [(1,0),(6,0),(11,0)] h fun ac wd h => ?_
      refine wp_seq ?_
      rcases i2 an with ⟨ao,an⟩ | ⟨ao,an⟩
      ·
       refine kT h ?_
       refine wp_skip ?_
       change Code.wp Tryz.prog _ _ _ _
       obtain ⟨ap,aq,an⟩ := Option.bind_eq_some_iff.1 an
       refine r_seqJ (fun ac wd => ∃ (ar : List A2I),ar = ap ∧ SL ⟨wb,S,Φ,P0⟩ 34 160 [(2,.one (.ptr (1,0) 0)),(3,.one (.ptr (6,0) 0)),(4,.one (.d (.int .i64 aa))),(11,.one (.d (.int .i64 (min (max a0 1) 6)))),(12,.one (.d (.int .i64 aa))),(16,.one (.d (.int .i64 (min (max a0 1) 6)))),(17,.one (.d (.int .i64 al)))] [((1,0),some (.box 24 [.d (.int .i64 0),.nil])),((6,0),some (.box 24 [.d (.int .i64 (min (max a0 1) 6)),.own (11,0) ar.length])),((11,0),some (.row 91 2 (dat (List.map eA2I ar))))] ac wd) ?_ ?_
       ·
        refine wp_block ?_
        refine qs 148 [] [2,3,4,5,11,12,16,17] [(1,0),(6,0),(11,0)] h fun ac wd h => ?_
        refine qs 151 [] [2,3,4,5,11,12,16,17,22] [(1,0),(6,0),(11,0)] h fun ac wd h => ?_
        rcases i2e aq with ⟨au,aq⟩ | ⟨au,aq⟩
        ·
         refine kF h ?_
         refine wp_skip ?_
         injection aq with aq; subst aq
         exact ⟨am,rfl,h.z⟩
        ·
         refine kT h ?_
         obtain ⟨av,aq⟩ := iT aq
         refine qe [] [2,3,4,11,12,16,17] [(1,0),(6,0),(157,0)] h fun ac wd h => ?_
         have h := h.sw (11,0) (157,0) 160
         injection aq with aq; subst aq
         exact ⟨(am ++ [(A2I.mk aa al)]),rfl,h.z⟩
       ·
        rintro ac wd ⟨ar,rfl,h⟩
        (try dsimp only at an)
        refine qe [] [2,3,4,11,12,16,17] [(1,0),(6,0),(11,0)] h fun ac wd h => ?_
        exact ⟨nf,Nat.lt_succ_self nf,(IntKind.wrap .i64 (al + 1)),ar,an,h.z⟩
      ·
       refine kF h ?_
       refine wp_exit ?_
       injection an with an; subst an
       exact ⟨am,rfl,h.z⟩
    ·
     rintro ac wd ⟨ak,rfl,h⟩
     (try dsimp only at ag)
     injection ag with ag; subst ag
     exact ⟨ak,rfl,h.z⟩
   ·
    rintro ac wd ⟨ah,rfl,h⟩
    (try dsimp only at ad)
    refine qe [] [2,3,11,12] [(1,0),(6,0),(11,0)] h fun ac wd h => ?_
    exact ⟨nf,Nat.lt_succ_self nf,(IntKind.wrap .i64 (aa + 1)),ah,ad,h.z⟩
  ·
   refine kF h ?_
   refine wp_exit ?_
   change Code.wp Tryz.prog _ _ _ _
   refine qs 108 [] [2] [(1,0),(11,0)] h fun ac wd h => ?_
   refine wp_ret ?_
   have h := h.sw (1,0) (11,0) 108
   injection ad with ad
   subst ad
   exact rO h [.cell 2 24] [(1,0)]
theorem L_graph_Full_ok {a0 : Int} {r : TGraph} (hD : L_graph_Full a0 = some r) :
  CallH Tryz.prog 63 [.one (.d (.int .i64 a0))] []
   (.agg [.d (.int .i64 r.N),.d (.sl (List.map eA2I r.Links))]) [] :=
 (L_graph_Full_own hD).fr

theorem L_law15_wait_own {a0 : Int} {r : TNode} (hD : L_law15_wait a0 = some r) :
  CallH Tryz.prog 64 [.one (.d (.int .i64 a0))] []
   (.agg [.d (.int .i64 r.Start),.own (1,0) r.States.length]) [((1,0),some (.row 138 4 (openRows cols_138 (List.map eTState r.States))))] := by
 unfold L_law15_wait at hD
 refine rc Tryz.func64 rfl Tryz.ntmps64 fun S Φ P0 wb ac h => ?_
 refine qs 2 [] [0,2] [(1,0)] h fun ac wd h => ?_
 refine qs 8 [] [2] [(1,0),(3,0),(5,0)] h fun ac wd h => ?_
 have h := h.nilTr (5,0) (l := [[.d (.int .i64 2),.own (3,0) 1,.nil,.nil]]) (l' := [[.d (.int .i64 2),.own (3,0) 1,.tr (.sl 165 2 cols_165) (.sl (List.map eTPick [])),.tr (.sl 166 3 (fun _ => .sc)) (.sl (List.map eTTake []))]]) (by simp only [EZ,simprocAttr] <;> rfl) (RowsTo.cons (RowTo.cons (.inl rfl) (RowTo.cons (.inl rfl) (RowTo.cons (.inr (.inr ⟨rfl,_,_,_,rfl⟩)) (RowTo.cons (.inr (.inr ⟨rfl,_,_,_,rfl⟩)) RowTo.nil)))) (RowsTo.refl []))
 have h := h.sm 8 [(2,.one (.ptr (1,0) 0))]
  [((1,0),some (.box 80 [.d (.int .i64 0),.own (5,0) 1])),((3,0),some (.row 3 1 (dat (List.map eI [a0])))),((5,0),some (.row 138 4 ([[.d (.int .i64 2),.own (3,0) 1,.tr (.sl 165 2 cols_165) (.sl (List.map eTPick [])),.tr (.sl 166 3 (fun _ => .sc)) (.sl (List.map eTTake []))]])))]
 have h := h.fL (cols := (fun _ => .sc)) (5,0) (3,0) ([]) [.d (.int .i64 2),.own (3,0) 1,.tr (.sl 165 2 cols_165) (.sl (List.map eTPick [])),.tr (.sl 166 3 (fun _ => .sc)) (.sl (List.map eTTake []))] 1 (List.map eI [a0]) (sc_3 _)
 have h := h.sm 8 [(2,.one (.ptr (1,0) 0))]
  [((1,0),some (.box 80 [.d (.int .i64 0),.own (5,0) 1])),((5,0),some (.row 138 4 ([[.d (.int .i64 2),.tr (.sl 3 1 (fun _ => .sc)) (.sl (List.map eI [a0])),.tr (.sl 165 2 cols_165) (.sl (List.map eTPick [])),.tr (.sl 166 3 (fun _ => .sc)) (.sl (List.map eTTake []))]])))]
 refine wp_ret ?_
 have h := h.sw (1,0) (5,0) 8
 injection hD with hD
 subst hD
 exact rO h [.cell 2 80] [(1,0)]
theorem L_law15_wait_ok {a0 : Int} {r : TNode} (hD : L_law15_wait a0 = some r) :
  CallH Tryz.prog 64 [.one (.d (.int .i64 a0))] []
   (.agg [.d (.int .i64 r.Start),.d (.sl (List.map eTState r.States))]) [] :=
 (L_law15_wait_own hD).fr

theorem L_law15_Dead_own {r : TApp} (hD : L_law15_Dead = some r) :
  CallH Tryz.prog 36 [] []
   (.agg [.d (.int .i64 r.G.N),.own (1,0) r.G.Links.length,.own (1,1) r.T.length,.d (.bool r.Fifo)]) [((1,0),some (.row 91 2 (dat (List.map eA2I r.G.Links)))),((1,1),some (.row 80 2 (dat (List.map eTNode r.T))))] := by
 unfold L_law15_Dead at hD
 refine rc Tryz.func36 rfl Tryz.ntmps36 fun S Φ P0 wb ac h => ?_
 refine qs 2 [] [0] [(1,0)] h fun ac wd h => ?_
 obtain ⟨aa,ab,hD⟩ := oB hD
 obtain ⟨ad,ae,hD⟩ := oB hD
 obtain ⟨af,ag,hD⟩ := oB hD
 have ah := ((L_graph_Full_own ab).cls 2).z
 have ai := L_law15_wait_ok ae
 have aj := L_law15_wait_ok ag
 have aj := L_law15_wait_ok ag
 refine qs 9 [factO ah,factE 3 ai,factE 4 aj,factE 5 aj] [0] [(1,0),(2,0),(6,0)] h fun ac wd h => ?_
 refine wp_ret ?_
 have h := h.sw (1,0) (2,0) 9
 have h := h.sw (1,1) (6,0) 9
 injection hD with hD
 subst hD
 exact rO h [.cell 0 27] [(1,0),(1,1)]
theorem L_law15_Dead_ok {r : TApp} (hD : L_law15_Dead = some r) :
  CallH Tryz.prog 36 [] []
   (.agg [.d (.int .i64 r.G.N),.d (.sl (List.map eA2I r.G.Links)),.d (.sl (List.map eTNode r.T)),.d (.bool r.Fifo)]) [] :=
 (L_law15_Dead_own hD).fr

theorem L_graph_of_v1_own {a0 : TGraph} {a1 : Int} {r : (List Int)} (hD : L_graph_of_v1 a0 a1 = some r) :
  CallH Tryz.prog 79 [.agg (cTGraph a0),.one (.d (.int .i64 a1)),.one (.d (.int .i64 1))] []
   (.one (.own (1,0) r.length)) [((1,0),some (.row 3 1 (dat (List.map eI r))))] := by
 unfold L_graph_of_v1 at hD
 refine rc Tryz.func79 rfl Tryz.ntmps79 fun S Φ P0 wb ac h => ?_
 refine qs 3 [] [1,2,3] [(1,0)] h fun ac wd h => ?_
 refine qs 4 [] [1,2,3,7] [(1,0)] h fun ac wd h => ?_
 refine wp_seq ?_
 refine qs 8 [] [1,2,7,11,12,13] [] h fun ac wd h => ?_
 refine wp_block ?_
 have h := SL.bornS h 7 3 1 (by simp only [EZ,simprocAttr, *] <;> rfl)
 refine r_while (fun nf ac wd => ∃ (aa : Int) (ab : List Int),L_graph_of_v1_l1 a0 a1 nf aa ab = some r ∧ SL ⟨wb,S,Φ,P0⟩ 29 46 [(1,.one (.d (.int .i64 a1))),(2,.one (.d (.int .i64 1))),(7,.one (.own (8,0) ab.length)),(11,.one (.d (.sl (List.map eA2I a0.Links)))),(12,.one (.d (.int .i64 (a0.Links.length : Int)))),(13,.one (.d (.int .i64 aa)))] [((8,0),some (.row 3 1 (dat (List.map eI ab))))] ac wd) (((a0.Links.length : Int) - 0).toNat + 1) ⟨0,([] : List Int),hD,h.z⟩ (fun nf ac wd hJ => ?_)
 obtain ⟨aa,ab,ad,h⟩ := hJ
 cases nf with
 | zero => rw [L_graph_of_v1_l1] at ad; cases ad
 | succ nf =>
  rw [L_graph_of_v1_l1] at ad
  refine qs 47 [] [1,2,7,11,12,13,14] [(8,0)] h fun ac wd h => ?_
  refine wp_seq ?_
  rcases i2 ad with ⟨ae,ad⟩ | ⟨ae,ad⟩
  ·
   refine kT h ?_
   refine wp_skip ?_
   change Code.wp Tryz.prog _ _ _ _
   obtain ⟨af,ag,ad⟩ := Option.bind_eq_some_iff.1 ad
   refine r_seqJ (fun ac wd => ∃ (ah : List Int),ah = af ∧ SL ⟨wb,S,Φ,P0⟩ 29 63 [(1,.one (.d (.int .i64 a1))),(2,.one (.d (.int .i64 1))),(7,.one (.own (61,0) ah.length)),(11,.one (.d (.sl (List.map eA2I a0.Links)))),(12,.one (.d (.int .i64 (a0.Links.length : Int)))),(13,.one (.d (.int .i64 aa)))] [((61,0),some (.row 3 1 (dat (List.map eI ah))))] ac wd) ?_ ?_
   ·
    refine wp_block ?_
    obtain ⟨ai,aj,ak,al,am,ag⟩ := aB ag
    refine qs 53 [] [1,2,7,8,9,11,12,13] [(8,0),(50,0)] h fun ac wd h => ?_
    refine qs 58 [] [1,2,7,8,11,12,13,22] [(8,0)] h fun ac wd h => ?_
    rcases i2e ag with ⟨an,ag⟩ | ⟨an,ag⟩
    ·
     refine kT h ?_
     obtain ⟨ao,ag⟩ := iT ag
     refine qe [] [1,2,7,11,12,13] [(61,0)] h fun ac wd h => ?_
     injection ag with ag; subst ag
     exact ⟨(ab ++ [aa]),rfl,h.z⟩
    ·
     refine kF h ?_
     refine wp_skip ?_
     have h := h.sw (61,0) (8,0) 63
     injection ag with ag; subst ag
     exact ⟨ab,rfl,h.z⟩
   ·
    rintro ac wd ⟨ah,rfl,h⟩
    (try dsimp only at ad)
    refine qe [] [1,2,7,11,12,13] [(61,0)] h fun ac wd h => ?_
    have h := h.sw (8,0) (61,0) 65
    exact ⟨nf,Nat.lt_succ_self nf,(IntKind.wrap .i64 (aa + 1)),ah,ad,h.z⟩
  ·
   refine kF h ?_
   refine wp_exit ?_
   change Code.wp Tryz.prog _ _ _ _
   refine qs 49 [] [6] [(8,0)] h fun ac wd h => ?_
   refine wp_ret ?_
   have h := h.sw (1,0) (8,0) 49
   injection ad with ad
   subst ad
   exact rO h [.tmp 6] [(1,0)]
theorem L_graph_of_v1_ok {a0 : TGraph} {a1 : Int} {r : (List Int)} (hD : L_graph_of_v1 a0 a1 = some r) :
  CallH Tryz.prog 79 [.agg (cTGraph a0),.one (.d (.int .i64 a1)),.one (.d (.int .i64 1))] []
   (.one (.d (.sl (List.map eI r)))) [] :=
 (L_graph_of_v1_own hD).fr

theorem L_graph_In_own {a0 : TGraph} {a1 : Int} {r : (List Int)} (hD : L_graph_In a0 a1 = some r) :
  CallH Tryz.prog 47 [.agg (cTGraph a0),.one (.d (.int .i64 a1))] []
   (.one (.own (1,0) r.length)) [((1,0),some (.row 3 1 (dat (List.map eI r))))] := by
 unfold L_graph_In at hD
 refine rc Tryz.func47 rfl Tryz.ntmps47 fun S Φ P0 wb ac h => ?_
 refine qs 3 [] [1,2] [(1,0)] h fun ac wd h => ?_
 obtain ⟨r7,ab,hD⟩ := oB hD
 have ad := ((L_graph_of_v1_own ab).cls 5).z
 refine qs 7 [factO ad] [4] [(5,0)] h fun ac wd h => ?_
 refine wp_ret ?_
 have h := h.sw (1,0) (5,0) 7
 injection hD with hD
 subst hD
 exact rO h [.tmp 4] [(1,0)]
theorem L_graph_In_ok {a0 : TGraph} {a1 : Int} {r : (List Int)} (hD : L_graph_In a0 a1 = some r) :
  CallH Tryz.prog 47 [.agg (cTGraph a0),.one (.d (.int .i64 a1))] []
   (.one (.d (.sl (List.map eI r)))) [] :=
 (L_graph_In_own hD).fr

theorem L_graph_of_v2_own {a0 : TGraph} {a1 : Int} {r : (List Int)} (hD : L_graph_of_v2 a0 a1 = some r) :
  CallH Tryz.prog 79 [.agg (cTGraph a0),.one (.d (.int .i64 a1)),.one (.d (.int .i64 0))] []
   (.one (.own (1,0) r.length)) [((1,0),some (.row 3 1 (dat (List.map eI r))))] := by
 unfold L_graph_of_v2 at hD
 refine rc Tryz.func79 rfl Tryz.ntmps79 fun S Φ P0 wb ac h => ?_
 refine qs 3 [] [1,2,3] [(1,0)] h fun ac wd h => ?_
 refine qs 4 [] [1,2,3,7] [(1,0)] h fun ac wd h => ?_
 refine wp_seq ?_
 refine qs 8 [] [1,2,7,11,12,13] [] h fun ac wd h => ?_
 refine wp_block ?_
 have h := SL.bornS h 7 3 1 (by simp only [EZ,simprocAttr, *] <;> rfl)
 refine r_while (fun nf ac wd => ∃ (aa : Int) (ab : List Int),L_graph_of_v2_l1 a0 a1 nf aa ab = some r ∧ SL ⟨wb,S,Φ,P0⟩ 29 46 [(1,.one (.d (.int .i64 a1))),(2,.one (.d (.int .i64 0))),(7,.one (.own (8,0) ab.length)),(11,.one (.d (.sl (List.map eA2I a0.Links)))),(12,.one (.d (.int .i64 (a0.Links.length : Int)))),(13,.one (.d (.int .i64 aa)))] [((8,0),some (.row 3 1 (dat (List.map eI ab))))] ac wd) (((a0.Links.length : Int) - 0).toNat + 1) ⟨0,([] : List Int),hD,h.z⟩ (fun nf ac wd hJ => ?_)
 obtain ⟨aa,ab,ad,h⟩ := hJ
 cases nf with
 | zero => rw [L_graph_of_v2_l1] at ad; cases ad
 | succ nf =>
  rw [L_graph_of_v2_l1] at ad
  refine qs 47 [] [1,2,7,11,12,13,14] [(8,0)] h fun ac wd h => ?_
  refine wp_seq ?_
  rcases i2 ad with ⟨ae,ad⟩ | ⟨ae,ad⟩
  ·
   refine kT h ?_
   refine wp_skip ?_
   change Code.wp Tryz.prog _ _ _ _
   obtain ⟨af,ag,ad⟩ := Option.bind_eq_some_iff.1 ad
   refine r_seqJ (fun ac wd => ∃ (ah : List Int),ah = af ∧ SL ⟨wb,S,Φ,P0⟩ 29 63 [(1,.one (.d (.int .i64 a1))),(2,.one (.d (.int .i64 0))),(7,.one (.own (61,0) ah.length)),(11,.one (.d (.sl (List.map eA2I a0.Links)))),(12,.one (.d (.int .i64 (a0.Links.length : Int)))),(13,.one (.d (.int .i64 aa)))] [((61,0),some (.row 3 1 (dat (List.map eI ah))))] ac wd) ?_ ?_
   ·
    refine wp_block ?_
    obtain ⟨ai,aj,ak,al,am,ag⟩ := aB ag
    refine qs 53 [] [1,2,7,8,9,11,12,13] [(8,0),(50,0)] h fun ac wd h => ?_
    refine qs 58 [] [1,2,7,8,11,12,13,22] [(8,0)] h fun ac wd h => ?_
    rcases i2e ag with ⟨an,ag⟩ | ⟨an,ag⟩
    ·
     refine kT h ?_
     obtain ⟨ao,ag⟩ := iT ag
     refine qe [] [1,2,7,11,12,13] [(61,0)] h fun ac wd h => ?_
     injection ag with ag; subst ag
     exact ⟨(ab ++ [aa]),rfl,h.z⟩
    ·
     refine kF h ?_
     refine wp_skip ?_
     have h := h.sw (61,0) (8,0) 63
     injection ag with ag; subst ag
     exact ⟨ab,rfl,h.z⟩
   ·
    rintro ac wd ⟨ah,rfl,h⟩
    (try dsimp only at ad)
    refine qe [] [1,2,7,11,12,13] [(61,0)] h fun ac wd h => ?_
    have h := h.sw (8,0) (61,0) 65
    exact ⟨nf,Nat.lt_succ_self nf,(IntKind.wrap .i64 (aa + 1)),ah,ad,h.z⟩
  ·
   refine kF h ?_
   refine wp_exit ?_
   change Code.wp Tryz.prog _ _ _ _
   refine qs 49 [] [6] [(8,0)] h fun ac wd h => ?_
   refine wp_ret ?_
   have h := h.sw (1,0) (8,0) 49
   injection ad with ad
   subst ad
   exact rO h [.tmp 6] [(1,0)]
theorem L_graph_of_v2_ok {a0 : TGraph} {a1 : Int} {r : (List Int)} (hD : L_graph_of_v2 a0 a1 = some r) :
  CallH Tryz.prog 79 [.agg (cTGraph a0),.one (.d (.int .i64 a1)),.one (.d (.int .i64 0))] []
   (.one (.d (.sl (List.map eI r)))) [] :=
 (L_graph_of_v2_own hD).fr

theorem L_graph_Out_own {a0 : TGraph} {a1 : Int} {r : (List Int)} (hD : L_graph_Out a0 a1 = some r) :
  CallH Tryz.prog 65 [.agg (cTGraph a0),.one (.d (.int .i64 a1))] []
   (.one (.own (1,0) r.length)) [((1,0),some (.row 3 1 (dat (List.map eI r))))] := by
 unfold L_graph_Out at hD
 refine rc Tryz.func65 rfl Tryz.ntmps65 fun S Φ P0 wb ac h => ?_
 refine qs 3 [] [1,2] [(1,0)] h fun ac wd h => ?_
 obtain ⟨r7,ab,hD⟩ := oB hD
 have ad := ((L_graph_of_v2_own ab).cls 5).z
 refine qs 7 [factO ad] [4] [(5,0)] h fun ac wd h => ?_
 refine wp_ret ?_
 have h := h.sw (1,0) (5,0) 7
 injection hD with hD
 subst hD
 exact rO h [.tmp 4] [(1,0)]
theorem L_graph_Out_ok {a0 : TGraph} {a1 : Int} {r : (List Int)} (hD : L_graph_Out a0 a1 = some r) :
  CallH Tryz.prog 65 [.agg (cTGraph a0),.one (.d (.int .i64 a1))] []
   (.one (.d (.sl (List.map eI r)))) [] :=
 (L_graph_Out_own hD).fr

end Go.Proofs.YtabbejabdkkaiaaGreat
