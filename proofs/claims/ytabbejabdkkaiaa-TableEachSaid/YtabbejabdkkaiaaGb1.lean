/- Functions as typed ones,and that the program's functions answer as these do. No condition. -/
import Derived.Test.YtabbejabdkkaiaaGb0
import Derived.Test.YtabbejabdkkaiaaGd
set_option linter.unusedSimpArgs false
set_option linter.unusedVariables false
set_option maxRecDepth 20000
set_option maxHeartbeats 4000000
namespace Go.Proofs.Ytabbejabdkkaiaa
open Go.RowKit

theorem L_ref03_Right_ok {a0 : TGraph} {r : Bool} (hD : L_ref03_Right a0 = some r) :
  CallH Try.prog 50 [.agg (cTGraph a0)] []
   (.one (.d (.bool r))) [] := by
 unfold L_ref03_Right at hD
 refine rc Try.func50 rfl Try.ntmps50 fun S Φ P0 wb ac h => ?_
 refine qs 3 [] [1] [(1,0)] h fun ac wd h => ?_
 refine wp_seq ?_
 obtain ⟨aa,ab,hD⟩ := Option.bind_eq_some_iff.1 hD
 refine r_seqJ (fun ac wd => ∃ (ad : Bool),ad = aa ∧ SL ⟨wb,S,Φ,P0⟩ 100 17 [(1,.one (.ptr (1,0) 0)),(22,.one (.d (.bool ad)))] [((1,0),some (.box 32 (cTGraph a0)))] ac wd) ?_ ?_
 ·
  rcases i2 ab with ⟨ae,ab⟩ | ⟨ae,ab⟩
  ·
   refine qeg [] [none,none,none,none,some (some 12,false),some (some 12,false),some (some 12,false),none,none,some (some 17,false),some (some 17,false),some (some 17,false),some (some 17,false),none] [1,22] [(1,0)] h fun ac wd h => ?_
   injection ab with ab; subst ab
   exact ⟨true,rfl,h.z⟩
  ·
   rcases i2 ab with ⟨af,ab⟩ | ⟨af,ab⟩
   ·
    refine qeg [] [none,none,none,none,some (some 12,false),some (some 12,false),some (some 12,false),none,none,some (some 17,false),some (some 17,false),some (some 17,false),some (some 17,false),none] [1,22] [(1,0)] h fun ac wd h => ?_
    injection ab with ab; subst ab
    exact ⟨true,rfl,h.z⟩
   ·
    refine qeg [] [none,none,none,none,some (some 12,false),some (some 12,false),some (some 12,false),none,none,some (some 17,false),some (some 17,false),some (some 17,false),some (some 17,false),none] [1,22] [(1,0)] h fun ac wd h => ?_
    injection ab with ab; subst ab
    exact ⟨decide ((a0.Links.length : Int) > 30),rfl,h.z⟩
 ·
  rintro ac wd ⟨ad,rfl,h⟩
  (try dsimp only at hD)
  rcases i2b hD with ⟨ag,hD⟩ | ⟨ag,hD⟩
  ·
   refine kT h ?_
   refine qs 18 [] [2] [] h fun ac wd h => ?_
   refine wp_ret ?_
   injection hD with hD
   subst hD
   exact rE h [.tmp 2]
  ·
   refine kF h ?_
   refine wp_skip ?_
   change Code.wp Try.prog _ _ _ _
   refine wp_seq ?_
   refine qs 18 [] [1,3] [(1,0)] h fun ac wd h => ?_
   obtain ⟨ah,ai,hD⟩ := Option.bind_eq_some_iff.1 hD
   refine r_meet (fun ac wd => (.inl ()) = ah ∧ SL ⟨wb,S,Φ,P0⟩ 100 143 [(1,.one (.ptr (1,0) 0))] [((1,0),some (.box 32 (cTGraph a0)))] ac wd) ?_ ?_
   ·
    refine wp_block ?_
    refine r_while (fun nf ac wd => ∃ (aj : Int),L_ref03_Right_l1 a0 nf aj = some ah ∧ SL ⟨wb,S,Φ,P0⟩ 100 138 [(1,.one (.ptr (1,0) 0)),(3,.one (.d (.int .i64 aj)))] [((1,0),some (.box 32 (cTGraph a0)))] ac wd) (((a0.Links.length : Int) - 0).toNat + 1) ⟨0,ai,h.z⟩ (fun nf ac wd hJ => ?_)
    obtain ⟨aj,ak,h⟩ := hJ
    cases nf with
    | zero => rw [L_ref03_Right_l1] at ak; cases ak
    | succ nf =>
     rw [L_ref03_Right_l1] at ak
     refine wp_seq ?_
     refine qs 143 [] [1,3,27] [(1,0)] h fun ac wd h => ?_
     rcases i2 ak with ⟨al,ak⟩ | ⟨al,ak⟩
     ·
      refine kT h ?_
      refine wp_skip ?_
      change Code.wp Try.prog _ _ _ _
      refine wp_seq ?_
      refine wp_block ?_
      obtain ⟨am,an,ao,ap,aq,ak⟩ := aB ak
      refine ds 157 [] [1,3,4,5] [(1,0)] h fun ac wd h => ?_
      obtain ⟨ar,au,ak⟩ := Option.bind_eq_some_iff.1 ak
      refine r_seqJ (fun ac wd => ∃ (av : Bool),av = ar ∧ SL ⟨wb,S,Φ,P0⟩ 100 195 [(1,.one (.ptr (1,0) 0)),(3,.one (.d (.int .i64 aj))),(79,.one (.d (.bool av)))] [((1,0),some (.box 32 (cTGraph a0)))] ac wd) ?_ ?_
      ·
       rcases i2 au with ⟨aw,au⟩ | ⟨aw,au⟩
       ·
        refine qeg [] [none,none,none,some (some 44,false),some (some 44,false),some (some 44,false),some (some 44,false),none,none,some (some 50,false),some (some 50,false),none,none,some (some 54,false),some (some 54,false),some (some 54,false),some (some 54,false),none,none,some (some 60,false),some (some 60,false),some (some 60,false),none,none,some (some 65,false),some (some 65,false),some (some 65,false),some (some 65,false),some (some 65,false),some (some 65,false),none,none,some (some 73,false),some (some 73,false),some (some 73,false),some (some 73,false),some (some 73,false),none] [1,3,79] [(1,0)] h fun ac wd h => ?_
        injection au with au; subst au
        exact ⟨true,rfl,h.z⟩
       ·
        rcases i2 au with ⟨ax,au⟩ | ⟨ax,au⟩
        ·
         refine qeg [] [none,none,none,some (some 44,false),some (some 44,false),some (some 44,false),some (some 44,false),none,none,some (some 50,false),some (some 50,false),none,none,some (some 54,false),some (some 54,false),some (some 54,false),some (some 54,false),none,none,some (some 60,false),some (some 60,false),some (some 60,false),none,none,some (some 65,false),some (some 65,false),some (some 65,false),some (some 65,false),some (some 65,false),some (some 65,false),none,none,some (some 73,false),some (some 73,false),some (some 73,false),some (some 73,false),some (some 73,false),none] [1,3,79] [(1,0)] h fun ac wd h => ?_
         injection au with au; subst au
         exact ⟨true,rfl,h.z⟩
        ·
         rcases i2 au with ⟨ay,au⟩ | ⟨ay,au⟩
         ·
          refine qeg [] [none,none,none,some (some 44,false),some (some 44,false),some (some 44,false),some (some 44,false),none,none,some (some 50,false),some (some 50,false),none,none,some (some 54,false),some (some 54,false),some (some 54,false),some (some 54,false),none,none,some (some 60,false),some (some 60,false),some (some 60,false),none,none,some (some 65,false),some (some 65,false),some (some 65,false),some (some 65,false),some (some 65,false),some (some 65,false),none,none,some (some 73,false),some (some 73,false),some (some 73,false),some (some 73,false),some (some 73,false),none] [1,3,79] [(1,0)] h fun ac wd h => ?_
          injection au with au; subst au
          exact ⟨true,rfl,h.z⟩
         ·
          rcases i2 au with ⟨az,au⟩ | ⟨az,au⟩
          ·
           refine qeg [] [none,none,none,some (some 44,false),some (some 44,false),some (some 44,false),some (some 44,false),none,none,some (some 50,false),some (some 50,false),none,none,some (some 54,false),some (some 54,false),some (some 54,false),some (some 54,false),none,none,some (some 60,false),some (some 60,false),some (some 60,false),none,none,some (some 65,false),some (some 65,false),some (some 65,false),some (some 65,false),some (some 65,false),some (some 65,false),none,none,some (some 73,false),some (some 73,false),some (some 73,false),some (some 73,false),some (some 73,false),none] [1,3,79] [(1,0)] h fun ac wd h => ?_
           injection au with au; subst au
           exact ⟨true,rfl,h.z⟩
          ·
           rcases i2e au with ⟨aA,au⟩ | ⟨aA,au⟩
           ·
            refine qeg [] [none,none,none,some (some 44,false),some (some 44,false),some (some 44,false),some (some 44,false),none,none,some (some 50,false),some (some 50,false),none,none,some (some 54,false),some (some 54,false),some (some 54,false),some (some 54,false),none,none,some (some 60,false),some (some 60,false),some (some 60,false),none,none,some (some 65,false),some (some 65,false),some (some 65,false),some (some 65,false),some (some 65,false),some (some 65,false),none,none,some (some 73,false),some (some 73,false),some (some 73,false),some (some 73,false),some (some 73,false),none] [1,3,79] [(1,0)] h fun ac wd h => ?_
            injection au with au; subst au
            exact ⟨true,rfl,h.z⟩
           ·
            obtain ⟨aC,aD,au⟩ := oB au
            rcases i2e au with ⟨aE,au⟩ | ⟨aE,au⟩
            ·
             obtain ⟨aF,aG,au⟩ := oB au
             have aH := L_ref03_Find_ok aD
             have aI := L_ref03_Find_ok aG
             refine qeg [factE 184 aH,factE 192 aI] [none,none,none,some (some 44,false),some (some 44,false),some (some 44,false),some (some 44,false),none,none,some (some 50,false),some (some 50,false),none,none,some (some 54,false),some (some 54,false),some (some 54,false),some (some 54,false),none,none,some (some 60,false),some (some 60,false),some (some 60,false),none,none,some (some 65,false),some (some 65,false),some (some 65,false),some (some 65,false),some (some 65,false),some (some 65,false),none,none,some (some 73,false),some (some 73,false),some (some 73,false),some (some 73,false),some (some 73,false),none] [1,3,79] [(1,0)] h fun ac wd h => ?_
             injection au with au; subst au
             exact ⟨decide (aF < 0),rfl,h.z⟩
            ·
             have aH := L_ref03_Find_ok aD
             refine qeg [factE 184 aH] [none,none,none,some (some 44,false),some (some 44,false),some (some 44,false),some (some 44,false),none,none,some (some 50,false),some (some 50,false),none,none,some (some 54,false),some (some 54,false),some (some 54,false),some (some 54,false),none,none,some (some 60,false),some (some 60,false),some (some 60,false),none,none,some (some 65,false),some (some 65,false),some (some 65,false),some (some 65,false),some (some 65,false),some (some 65,false),none,none,some (some 73,false),some (some 73,false),some (some 73,false),some (some 73,false),some (some 73,false),none] [1,3,79] [(1,0)] h fun ac wd h => ?_
             injection au with au; subst au
             exact ⟨true,rfl,h.z⟩
      ·
       rintro ac wd ⟨av,rfl,h⟩
       (try dsimp only at ak)
       rcases i2b ak with ⟨aJ,ak⟩ | ⟨aJ,ak⟩
       ·
        refine kT h ?_
        refine qs 196 [] [2] [] h fun ac wd h => ?_
        refine wp_ret ?_
        injection ak with ak
        subst ak
        (try dsimp only at hD)
        injection hD with hD
        subst hD
        exact rE h [.tmp 2]
       ·
        refine kF h ?_
        refine wp_skip ?_
        change Code.wp Try.prog _ _ _ _
        refine qe [] [1,3] [(1,0)] h fun ac wd h => ?_
        exact ⟨nf,Nat.lt_succ_self nf,(IntKind.wrap .i64 (aj + 1)),ak,h.z⟩
     ·
      refine kF h ?_
      refine wp_exit ?_
      injection ak with ak; subst ak
      exact ⟨rfl,h.z⟩
   ·
    rintro ac wd ⟨rfl,h⟩
    (try dsimp only at hD)
    refine wp_seq ?_
    refine qs 144 [] [1,6] [(1,0)] h fun ac wd h => ?_
    refine wp_block ?_
    refine r_while (fun nf ac wd => ∃ (aK : Int),L_ref03_Right_l2 a0 nf aK = some r ∧ SL ⟨wb,S,Φ,P0⟩ 100 224 [(1,.one (.ptr (1,0) 0)),(6,.one (.d (.int .i64 aK)))] [((1,0),some (.box 32 (cTGraph a0)))] ac wd) ((a0.N - 0).toNat + 1) ⟨0,hD,h.z⟩ (fun nf ac wd hJ => ?_)
    obtain ⟨aK,aL,h⟩ := hJ
    cases nf with
    | zero => rw [L_ref03_Right_l2] at aL; cases aL
    | succ nf =>
     rw [L_ref03_Right_l2] at aL
     refine wp_seq ?_
     refine qs 228 [] [1,6,83] [(1,0)] h fun ac wd h => ?_
     rcases i2 aL with ⟨aM,aL⟩ | ⟨aM,aL⟩
     ·
      refine kT h ?_
      refine wp_skip ?_
      change Code.wp Try.prog _ _ _ _
      obtain ⟨aN,aO,aL⟩ := Option.bind_eq_some_iff.1 aL
      refine r_seqJ (fun ac wd => (.inl ()) = aN ∧ SL ⟨wb,S,Φ,P0⟩ 100 261 [(1,.one (.ptr (1,0) 0)),(6,.one (.d (.int .i64 aK)))] [((1,0),some (.box 32 (cTGraph a0)))] ac wd) ?_ ?_
      ·
       refine wp_block ?_
       obtain ⟨aP,aQ,aO⟩ := oB aO
       have aR := L_ref03_Dist_ok aQ
       refine qs 232 [factE 230 aR] [1,6,7] [(1,0)] h fun ac wd h => ?_
       refine qs 233 [] [1,6,7,8] [(1,0)] h fun ac wd h => ?_
       obtain ⟨aS,aT,aO⟩ := Option.bind_eq_some_iff.1 aO
       refine r_meetQ (fun ac wd => (.inl ()) = aS ∧ SL ⟨wb,S,Φ,P0⟩ 100 261 [(1,.one (.ptr (1,0) 0)),(6,.one (.d (.int .i64 aK)))] [((1,0),some (.box 32 (cTGraph a0)))] ac wd) ?_ ?_
       ·
        refine wp_block ?_
        refine r_while (fun nf ac wd => ∃ (aU : Int),L_ref03_Right_l3 aP nf aU = some aS ∧ SL ⟨wb,S,Φ,P0⟩ 100 257 [(1,.one (.ptr (1,0) 0)),(6,.one (.d (.int .i64 aK))),(7,.one (.d (.sl (List.map eI aP)))),(8,.one (.d (.int .i64 aU)))] [((1,0),some (.box 32 (cTGraph a0)))] ac wd) (((aP.length : Int) - 0).toNat + 1) ⟨0,aT,h.z⟩ (fun nf ac wd hJ => ?_)
        obtain ⟨aU,aV,h⟩ := hJ
        cases nf with
        | zero => rw [L_ref03_Right_l3] at aV; cases aV
        | succ nf =>
         rw [L_ref03_Right_l3] at aV
         refine wp_seq ?_
         refine qs 261 [] [1,6,7,8,92] [(1,0)] h fun ac wd h => ?_
         rcases i2 aV with ⟨aW,aV⟩ | ⟨aW,aV⟩
         ·
          refine kT h ?_
          refine wp_skip ?_
          change Code.wp Try.prog _ _ _ _
          refine wp_seq ?_
          refine wp_block ?_
          obtain ⟨aX,aY,aZ,ba,bb,aV⟩ := aB aV
          refine qs 266 [] [1,6,7,8,99] [(1,0)] h fun ac wd h => ?_
          rcases i2 aV with ⟨bc,aV⟩ | ⟨bc,aV⟩
          ·
           refine kT h ?_
           refine qs 267 [] [2] [] h fun ac wd h => ?_
           refine wp_ret ?_
           injection aV with aV
           subst aV
           (try dsimp only at aO)
           injection aO with aO
           subst aO
           (try dsimp only at aL)
           injection aL with aL
           subst aL
           exact rE h [.tmp 2]
          ·
           refine kF h ?_
           refine wp_skip ?_
           change Code.wp Try.prog _ _ _ _
           refine qe [] [1,6,7,8] [(1,0)] h fun ac wd h => ?_
           exact ⟨nf,Nat.lt_succ_self nf,(IntKind.wrap .i64 (aU + 1)),aV,h.z⟩
         ·
          refine kF h ?_
          refine wp_exit ?_
          injection aV with aV; subst aV
          exact ⟨rfl,h.z⟩
       ·
        rintro ac wd ⟨rfl,h⟩
        (try dsimp only at aO)
        injection aO with aO; subst aO
        exact ⟨rfl,h.z⟩
      ·
       rintro ac wd ⟨rfl,h⟩
       (try dsimp only at aL)
       refine qe [] [1,6] [(1,0)] h fun ac wd h => ?_
       exact ⟨nf,Nat.lt_succ_self nf,(IntKind.wrap .i64 (aK + 1)),aL,h.z⟩
     ·
      refine kF h ?_
      refine wp_exit ?_
      change Code.wp Try.prog _ _ _ _
      refine qs 229 [] [2] [] h fun ac wd h => ?_
      refine wp_ret ?_
      injection aL with aL
      subst aL
      exact rE h [.tmp 2]

theorem L_ref04_waits_ok {a0 : TState} {a1 : Int} {a2 : TGraph} {r : Bool} (hD : L_ref04_waits a0 a1 a2 = some r) :
  CallH Try.prog 51 [.agg (cTState a0),.one (.d (.int .i64 a1)),.agg (cTGraph a2)] []
   (.one (.d (.bool r))) [] := by
 unfold L_ref04_waits at hD
 refine rc Try.func51 rfl Try.ntmps51 fun S Φ P0 wb ac h => ?_
 refine qs 4 [] [1,3,5] [(1,0),(2,0)] h fun ac wd h => ?_
 refine wp_seq ?_
 refine qs 7 [] [1,3,5,10] [(1,0),(2,0)] h fun ac wd h => ?_
 rcases i2e hD with ⟨aa,hD⟩ | ⟨aa,hD⟩
 ·
  refine kF h ?_
  refine wp_skip ?_
  change Code.wp Try.prog _ _ _ _
  refine wp_seq ?_
  refine qs 8 [] [1,3,5,7] [(1,0),(2,0)] h fun ac wd h => ?_
  refine wp_block ?_
  refine r_while (fun nf ac wd => ∃ (ab : Int),L_ref04_waits_l1 a0 a1 a2 nf ab = some r ∧ SL ⟨wb,S,Φ,P0⟩ 53 78 [(1,.one (.d (.int .i64 a1))),(3,.one (.ptr (1,0) 0)),(5,.one (.ptr (2,0) 0)),(7,.one (.d (.int .i64 ab)))] [((1,0),some (.box 90 (cTState a0))),((2,0),some (.box 32 (cTGraph a2)))] ac wd) (((a0.Waits.length : Int) - 0).toNat + 1) ⟨0,hD,h.z⟩ (fun nf ac wd hJ => ?_)
  obtain ⟨ab,ad,h⟩ := hJ
  cases nf with
  | zero => rw [L_ref04_waits_l1] at ad; cases ad
  | succ nf =>
   rw [L_ref04_waits_l1] at ad
   refine wp_seq ?_
   refine qs 83 [] [1,3,5,7,19] [(1,0),(2,0)] h fun ac wd h => ?_
   rcases i2 ad with ⟨ae,ad⟩ | ⟨ae,ad⟩
   ·
    refine kT h ?_
    refine wp_skip ?_
    change Code.wp Try.prog _ _ _ _
    refine wp_seq ?_
    refine wp_block ?_
    obtain ⟨af,ag,ad⟩ := Option.bind_eq_some_iff.1 ad
    refine r_seqJ (fun ac wd => ∃ (ah : Bool),ah = af ∧ SL ⟨wb,S,Φ,P0⟩ 53 110 [(1,.one (.d (.int .i64 a1))),(3,.one (.ptr (1,0) 0)),(5,.one (.ptr (2,0) 0)),(7,.one (.d (.int .i64 ab))),(48,.one (.d (.bool ah)))] [((1,0),some (.box 90 (cTState a0))),((2,0),some (.box 32 (cTGraph a2)))] ac wd) ?_ ?_
    ·
     obtain ⟨ai,aj,ak,al,am,ag⟩ := aB ag
     obtain ⟨an,ao,ag⟩ := oB ag
     rcases i2 ag with ⟨ap,ag⟩ | ⟨ap,ag⟩
     ·
      have aq := L_ref03_Find_ok ao
      refine deg [factE 90 aq] [none,none,none,none,none,none,none,none,none,none,some (some 31,false),some (some 31,false),some (some 31,false),some (some 34,true),some (some 34,true),some (some 34,true),some (some 34,true),some (some 34,true),some (some 34,true),some (some 34,true),some (some 34,true),some (some 34,true),some (some 34,true),some (some 34,true),some (some 34,true),some (some 31,false),none] [1,3,5,7,48] [(1,0),(2,0)] h fun ac wd h => ?_
      injection ag with ag; subst ag
      exact ⟨true,rfl,h.z⟩
     ·
      rcases i2 ag with ⟨ar,ag⟩ | ⟨ar,ag⟩
      ·
       obtain ⟨au,av,aw,ax,ay,ag⟩ := aB ag
       have aq := L_ref03_Find_ok ao
       refine deg [factE 90 aq] [none,none,none,none,none,none,none,none,none,none,some (some 31,false),some (some 31,false),some (some 31,false),some (some 34,true),some (some 34,true),some (some 34,true),some (some 34,true),some (some 34,true),some (some 34,true),some (some 34,true),some (some 34,true),some (some 34,true),some (some 34,true),some (some 34,true),some (some 34,true),some (some 31,false),none] [1,3,5,7,48] [(1,0),(2,0)] h fun ac wd h => ?_
       injection ag with ag; subst ag
       exact ⟨decide (ai ≤ au),rfl,h.z⟩
      ·
       have aq := L_ref03_Find_ok ao
       refine deg [factE 90 aq] [none,none,none,none,none,none,none,none,none,none,some (some 31,false),some (some 31,false),some (some 31,false),some (some 34,true),some (some 34,true),some (some 34,true),some (some 34,true),some (some 34,true),some (some 34,true),some (some 34,true),some (some 34,true),some (some 34,true),some (some 34,true),some (some 34,true),some (some 34,true),some (some 31,false),none] [1,3,5,7,48] [(1,0),(2,0)] h fun ac wd h => ?_
       injection ag with ag; subst ag
       exact ⟨false,rfl,h.z⟩
    ·
     rintro ac wd ⟨ah,rfl,h⟩
     (try dsimp only at ad)
     rcases i2b ad with ⟨az,ad⟩ | ⟨az,ad⟩
     ·
      refine kT h ?_
      refine qs 111 [] [6] [] h fun ac wd h => ?_
      refine wp_ret ?_
      injection ad with ad
      subst ad
      exact rE h [.tmp 6]
     ·
      refine kF h ?_
      refine wp_skip ?_
      change Code.wp Try.prog _ _ _ _
      refine qe [] [1,3,5,7] [(1,0),(2,0)] h fun ac wd h => ?_
      exact ⟨nf,Nat.lt_succ_self nf,(IntKind.wrap .i64 (ab + 1)),ad,h.z⟩
   ·
    refine kF h ?_
    refine wp_exit ?_
    change Code.wp Try.prog _ _ _ _
    refine qs 88 [] [6] [] h fun ac wd h => ?_
    refine wp_ret ?_
    injection ad with ad
    subst ad
    exact rE h [.tmp 6]
 ·
  refine kT h ?_
  refine qs 12 [] [6] [] h fun ac wd h => ?_
  refine wp_ret ?_
  injection hD with hD
  subst hD
  exact rE h [.tmp 6]

theorem L_ref04_picks_ok {a0 : TState} {a1 : Int} {a2 : Int} {a3 : TGraph} {r : Bool} (hD : L_ref04_picks a0 a1 a2 a3 = some r) :
  CallH Try.prog 52 [.agg (cTState a0),.one (.d (.int .i64 a1)),.one (.d (.int .i64 a2)),.agg (cTGraph a3)] []
   (.one (.d (.bool r))) [] := by
 unfold L_ref04_picks at hD
 refine rc Try.func52 rfl Try.ntmps52 fun S Φ P0 wb ac h => ?_
 refine qs 4 [] [1,2,4,7] [(1,0),(2,0)] h fun ac wd h => ?_
 refine wp_seq ?_
 obtain ⟨aa,ab,hD⟩ := Option.bind_eq_some_iff.1 hD
 refine r_seqJ (fun ac wd => ∃ (ad : Bool),ad = aa ∧ SL ⟨wb,S,Φ,P0⟩ 89 19 [(1,.one (.d (.int .i64 a1))),(2,.one (.d (.int .i64 a2))),(4,.one (.ptr (1,0) 0)),(7,.one (.ptr (2,0) 0)),(26,.one (.d (.bool ad)))] [((1,0),some (.box 90 (cTState a0))),((2,0),some (.box 32 (cTGraph a3)))] ac wd) ?_ ?_
 ·
  rcases i2 ab with ⟨ae,ab⟩ | ⟨ae,ab⟩
  ·
   refine qeg [] [none,none,none,none,none,some (some 16,false),some (some 16,false),some (some 16,false),some (some 16,false),some (some 16,false),some (some 21,true),some (some 21,true),some (some 21,true),some (some 16,false),none] [1,2,4,7,26] [(1,0),(2,0)] h fun ac wd h => ?_
   injection ab with ab; subst ab
   exact ⟨true,rfl,h.z⟩
  ·
   rcases i2 ab with ⟨af,ab⟩ | ⟨af,ab⟩
   ·
    refine qeg [] [none,none,none,none,none,some (some 16,false),some (some 16,false),some (some 16,false),some (some 16,false),some (some 16,false),some (some 21,true),some (some 21,true),some (some 21,true),some (some 16,false),none] [1,2,4,7,26] [(1,0),(2,0)] h fun ac wd h => ?_
    injection ab with ab; subst ab
    exact ⟨!(decide (a0.Mode = 1)),rfl,h.z⟩
   ·
    refine qeg [] [none,none,none,none,none,some (some 16,false),some (some 16,false),some (some 16,false),some (some 16,false),some (some 16,false),some (some 21,true),some (some 21,true),some (some 21,true),some (some 16,false),none] [1,2,4,7,26] [(1,0),(2,0)] h fun ac wd h => ?_
    injection ab with ab; subst ab
    exact ⟨false,rfl,h.z⟩
 ·
  rintro ac wd ⟨ad,rfl,h⟩
  (try dsimp only at hD)
  rcases i2b hD with ⟨ag,hD⟩ | ⟨ag,hD⟩
  ·
   refine kT h ?_
   refine qs 20 [] [8] [] h fun ac wd h => ?_
   refine wp_ret ?_
   injection hD with hD
   subst hD
   exact rE h [.tmp 8]
  ·
   refine kF h ?_
   refine wp_skip ?_
   change Code.wp Try.prog _ _ _ _
   refine wp_seq ?_
   refine qs 20 [] [1,2,4,7,9] [(1,0),(2,0)] h fun ac wd h => ?_
   refine wp_block ?_
   refine r_while (fun nf ac wd => ∃ (ah : Int),L_ref04_picks_l1 a0 a1 a2 a3 nf ah = some r ∧ SL ⟨wb,S,Φ,P0⟩ 89 236 [(1,.one (.d (.int .i64 a1))),(2,.one (.d (.int .i64 a2))),(4,.one (.ptr (1,0) 0)),(7,.one (.ptr (2,0) 0)),(9,.one (.d (.int .i64 ah)))] [((1,0),some (.box 90 (cTState a0))),((2,0),some (.box 32 (cTGraph a3)))] ac wd) (((a0.Picks.length : Int) - 0).toNat + 1) ⟨0,hD,h.z⟩ (fun nf ac wd hJ => ?_)
   obtain ⟨ah,ai,h⟩ := hJ
   cases nf with
   | zero => rw [L_ref04_picks_l1] at ai; cases ai
   | succ nf =>
    rw [L_ref04_picks_l1] at ai
    refine wp_seq ?_
    refine qs 241 [] [1,2,4,7,9,31] [(1,0),(2,0)] h fun ac wd h => ?_
    rcases i2 ai with ⟨aj,ai⟩ | ⟨aj,ai⟩
    ·
     refine kT h ?_
     refine wp_skip ?_
     change Code.wp Try.prog _ _ _ _
     obtain ⟨ak,al,ai⟩ := Option.bind_eq_some_iff.1 ai
     refine r_seqJ (fun ac wd => (.inl ()) = ak ∧ SL ⟨wb,S,Φ,P0⟩ 89 341 [(1,.one (.d (.int .i64 a1))),(2,.one (.d (.int .i64 a2))),(4,.one (.ptr (1,0) 0)),(7,.one (.ptr (2,0) 0)),(9,.one (.d (.int .i64 ah)))] [((1,0),some (.box 90 (cTState a0))),((2,0),some (.box 32 (cTGraph a3)))] ac wd) ?_ ?_
     ·
      refine wp_block ?_
      obtain ⟨am,an,ao,ap,aq,al⟩ := aB al
      refine qs 248 [] [1,2,4,7,9,10] [(1,0),(2,0),(246,0)] h fun ac wd h => ?_
      refine wp_seq ?_
      obtain ⟨ar,au,al⟩ := Option.bind_eq_some_iff.1 al
      refine r_seqJ (fun ac wd => ∃ (av : Bool),av = ar ∧ SL ⟨wb,S,Φ,P0⟩ 89 263 [(1,.one (.d (.int .i64 a1))),(2,.one (.d (.int .i64 a2))),(4,.one (.ptr (1,0) 0)),(7,.one (.ptr (2,0) 0)),(9,.one (.d (.int .i64 ah))),(10,.one (.ptr (246,0) 0)),(53,.one (.d (.bool av)))] [((1,0),some (.box 90 (cTState a0))),((2,0),some (.box 32 (cTGraph a3))),((246,0),some (.box 189 (cTPick am)))] ac wd) ?_ ?_
      ·
       rcases i2 au with ⟨aw,au⟩ | ⟨aw,au⟩
       ·
        refine qeg [] [none,none,none,none,some (some 42,false),some (some 42,false),some (some 42,false),some (some 42,false),none,none,some (some 48,false),some (some 48,false),some (some 48,false),some (some 48,false),none] [1,2,4,7,9,10,53] [(1,0),(2,0),(246,0)] h fun ac wd h => ?_
        injection au with au; subst au
        exact ⟨true,rfl,h.z⟩
       ·
        rcases i2 au with ⟨ax,au⟩ | ⟨ax,au⟩
        ·
         refine qeg [] [none,none,none,none,some (some 42,false),some (some 42,false),some (some 42,false),some (some 42,false),none,none,some (some 48,false),some (some 48,false),some (some 48,false),some (some 48,false),none] [1,2,4,7,9,10,53] [(1,0),(2,0),(246,0)] h fun ac wd h => ?_
         injection au with au; subst au
         exact ⟨true,rfl,h.z⟩
        ·
         refine qeg [] [none,none,none,none,some (some 42,false),some (some 42,false),some (some 42,false),some (some 42,false),none,none,some (some 48,false),some (some 48,false),some (some 48,false),some (some 48,false),none] [1,2,4,7,9,10,53] [(1,0),(2,0),(246,0)] h fun ac wd h => ?_
         injection au with au; subst au
         exact ⟨decide ((am.Sends.length : Int) > 4),rfl,h.z⟩
      ·
       rintro ac wd ⟨av,rfl,h⟩
       (try dsimp only at al)
       rcases i2b al with ⟨ay,al⟩ | ⟨ay,al⟩
       ·
        refine kT h ?_
        refine qs 264 [] [8] [] h fun ac wd h => ?_
        refine wp_ret ?_
        injection al with al
        subst al
        (try dsimp only at ai)
        injection ai with ai
        subst ai
        exact rE h [.tmp 8]
       ·
        refine kF h ?_
        refine wp_skip ?_
        change Code.wp Try.prog _ _ _ _
        refine qs 264 [] [1,2,4,7,9,10,11] [(1,0),(2,0),(246,0)] h fun ac wd h => ?_
        obtain ⟨az,aA,al⟩ := Option.bind_eq_some_iff.1 al
        refine r_meetQ (fun ac wd => (.inl ()) = az ∧ SL ⟨wb,S,Φ,P0⟩ 89 341 [(1,.one (.d (.int .i64 a1))),(2,.one (.d (.int .i64 a2))),(4,.one (.ptr (1,0) 0)),(7,.one (.ptr (2,0) 0)),(9,.one (.d (.int .i64 ah)))] [((1,0),some (.box 90 (cTState a0))),((2,0),some (.box 32 (cTGraph a3)))] ac wd) ?_ ?_
        ·
         refine wp_block ?_
         refine r_while (fun nf ac wd => ∃ (aC : Int),L_ref04_picks_l2 a1 a3 am nf aC = some az ∧ SL ⟨wb,S,Φ,P0⟩ 89 336 [(1,.one (.d (.int .i64 a1))),(2,.one (.d (.int .i64 a2))),(4,.one (.ptr (1,0) 0)),(7,.one (.ptr (2,0) 0)),(9,.one (.d (.int .i64 ah))),(10,.one (.ptr (246,0) 0)),(11,.one (.d (.int .i64 aC)))] [((1,0),some (.box 90 (cTState a0))),((2,0),some (.box 32 (cTGraph a3))),((246,0),some (.box 189 (cTPick am)))] ac wd) (((am.Sends.length : Int) - 0).toNat + 1) ⟨0,aA,h.z⟩ (fun nf ac wd hJ => ?_)
         obtain ⟨aC,aD,h⟩ := hJ
         cases nf with
         | zero => rw [L_ref04_picks_l2] at aD; cases aD
         | succ nf =>
          rw [L_ref04_picks_l2] at aD
          refine wp_seq ?_
          refine qs 341 [] [1,2,4,7,9,10,11,58] [(1,0),(2,0),(246,0)] h fun ac wd h => ?_
          rcases i2 aD with ⟨aE,aD⟩ | ⟨aE,aD⟩
          ·
           refine kT h ?_
           refine wp_skip ?_
           change Code.wp Try.prog _ _ _ _
           refine wp_seq ?_
           refine wp_block ?_
           obtain ⟨aF,aG,aD⟩ := Option.bind_eq_some_iff.1 aD
           refine r_seqJ (fun ac wd => ∃ (aH : Bool),aH = aF ∧ SL ⟨wb,S,Φ,P0⟩ 89 369 [(1,.one (.d (.int .i64 a1))),(2,.one (.d (.int .i64 a2))),(4,.one (.ptr (1,0) 0)),(7,.one (.ptr (2,0) 0)),(9,.one (.d (.int .i64 ah))),(10,.one (.ptr (246,0) 0)),(11,.one (.d (.int .i64 aC))),(88,.one (.d (.bool aH)))] [((1,0),some (.box 90 (cTState a0))),((2,0),some (.box 32 (cTGraph a3))),((246,0),some (.box 189 (cTPick am)))] ac wd) ?_ ?_
           ·
            obtain ⟨aI,aJ,aK,aL,aM,aG⟩ := aB aG
            obtain ⟨aN,aO,aG⟩ := oB aG
            rcases i2 aG with ⟨aP,aG⟩ | ⟨aP,aG⟩
            ·
             have aQ := L_ref03_Find_ok aO
             refine deg [factE 349 aQ] [none,none,none,none,none,none,none,none,none,none,none,some (some 71,false),some (some 71,false),some (some 71,false),some (some 71,false),some (some 71,false),some (some 71,false),some (some 71,false),none,none,some (some 80,false),some (some 80,false),some (some 80,false),some (some 80,false),some (some 80,false),some (some 80,false),some (some 80,false),none] [1,2,4,7,9,10,11,88] [(1,0),(2,0),(246,0)] h fun ac wd h => ?_
             injection aG with aG; subst aG
             exact ⟨true,rfl,h.z⟩
            ·
             rcases i2 aG with ⟨aR,aG⟩ | ⟨aR,aG⟩
             ·
              have aQ := L_ref03_Find_ok aO
              refine deg [factE 349 aQ] [none,none,none,none,none,none,none,none,none,none,none,some (some 71,false),some (some 71,false),some (some 71,false),some (some 71,false),some (some 71,false),some (some 71,false),some (some 71,false),none,none,some (some 80,false),some (some 80,false),some (some 80,false),some (some 80,false),some (some 80,false),some (some 80,false),some (some 80,false),none] [1,2,4,7,9,10,11,88] [(1,0),(2,0),(246,0)] h fun ac wd h => ?_
              injection aG with aG; subst aG
              exact ⟨true,rfl,h.z⟩
             ·
              have aQ := L_ref03_Find_ok aO
              refine deg [factE 349 aQ] [none,none,none,none,none,none,none,none,none,none,none,some (some 71,false),some (some 71,false),some (some 71,false),some (some 71,false),some (some 71,false),some (some 71,false),some (some 71,false),none,none,some (some 80,false),some (some 80,false),some (some 80,false),some (some 80,false),some (some 80,false),some (some 80,false),some (some 80,false),none] [1,2,4,7,9,10,11,88] [(1,0),(2,0),(246,0)] h fun ac wd h => ?_
              injection aG with aG; subst aG
              exact ⟨decide (aI.Letter > 3),rfl,h.z⟩
           ·
            rintro ac wd ⟨aH,rfl,h⟩
            (try dsimp only at aD)
            rcases i2b aD with ⟨aS,aD⟩ | ⟨aS,aD⟩
            ·
             refine kT h ?_
             refine qs 370 [] [8] [] h fun ac wd h => ?_
             refine wp_ret ?_
             injection aD with aD
             subst aD
             (try dsimp only at al)
             injection al with al
             subst al
             (try dsimp only at ai)
             injection ai with ai
             subst ai
             exact rE h [.tmp 8]
            ·
             refine kF h ?_
             refine wp_skip ?_
             change Code.wp Try.prog _ _ _ _
             refine qe [] [1,2,4,7,9,10,11] [(1,0),(2,0),(246,0)] h fun ac wd h => ?_
             exact ⟨nf,Nat.lt_succ_self nf,(IntKind.wrap .i64 (aC + 1)),aD,h.z⟩
          ·
           refine kF h ?_
           refine wp_exit ?_
           injection aD with aD; subst aD
           exact ⟨rfl,h.z⟩
        ·
         rintro ac wd ⟨rfl,h⟩
         (try dsimp only at al)
         injection al with al; subst al
         exact ⟨rfl,h.z⟩
     ·
      rintro ac wd ⟨rfl,h⟩
      (try dsimp only at ai)
      refine qe [] [1,2,4,7,9] [(1,0),(2,0)] h fun ac wd h => ?_
      exact ⟨nf,Nat.lt_succ_self nf,(IntKind.wrap .i64 (ah + 1)),ai,h.z⟩
    ·
     refine kF h ?_
     refine wp_exit ?_
     change Code.wp Try.prog _ _ _ _
     refine qs 242 [] [8] [] h fun ac wd h => ?_
     refine wp_ret ?_
     injection ai with ai
     subst ai
     exact rE h [.tmp 8]

theorem L_ref04_In_ok {a0 : (List Int)} {a1 : Int} {r : Bool} (hD : L_ref04_In a0 a1 = some r) :
  CallH Try.prog 122 [.one (.d (.sl (List.map eI a0))),.one (.d (.int .i64 a1))] []
   (.one (.d (.bool r))) [] := by
 unfold L_ref04_In at hD
 refine rc Try.func122 rfl Try.ntmps122 fun S Φ P0 wb ac h => ?_
 refine qs 2 [] [0,1] [] h fun ac wd h => ?_
 refine wp_seq ?_
 refine qs 3 [] [0,1,5] [] h fun ac wd h => ?_
 refine wp_block ?_
 refine r_while (fun nf ac wd => ∃ (aa : Int),L_ref04_In_l1 a0 a1 nf aa = some r ∧ SL ⟨wb,S,Φ,P0⟩ 18 29 [(0,.one (.d (.sl (List.map eI a0)))),(1,.one (.d (.int .i64 a1))),(5,.one (.d (.int .i64 aa)))] [] ac wd) (((a0.length : Int) - 0).toNat + 1) ⟨0,hD,h.z⟩ (fun nf ac wd hJ => ?_)
 obtain ⟨aa,ab,h⟩ := hJ
 cases nf with
 | zero => rw [L_ref04_In_l1] at ab; cases ab
 | succ nf =>
  rw [L_ref04_In_l1] at ab
  refine wp_seq ?_
  refine qs 33 [] [0,1,5,9] [] h fun ac wd h => ?_
  rcases i2 ab with ⟨ad,ab⟩ | ⟨ad,ab⟩
  ·
   refine kT h ?_
   refine wp_skip ?_
   change Code.wp Try.prog _ _ _ _
   refine wp_seq ?_
   refine wp_block ?_
   obtain ⟨ae,af,ag,ah,ai,ab⟩ := aB ab
   refine qs 39 [] [0,1,5,17] [] h fun ac wd h => ?_
   rcases i2e ab with ⟨aj,ab⟩ | ⟨aj,ab⟩
   ·
    refine kT h ?_
    refine qs 40 [] [4] [] h fun ac wd h => ?_
    refine wp_ret ?_
    injection ab with ab
    subst ab
    exact rE h [.tmp 4]
   ·
    refine kF h ?_
    refine wp_skip ?_
    change Code.wp Try.prog _ _ _ _
    refine qe [] [0,1,5] [] h fun ac wd h => ?_
    exact ⟨nf,Nat.lt_succ_self nf,(IntKind.wrap .i64 (aa + 1)),ab,h.z⟩
  ·
   refine kF h ?_
   refine wp_exit ?_
   change Code.wp Try.prog _ _ _ _
   refine qs 34 [] [4] [] h fun ac wd h => ?_
   refine wp_ret ?_
   injection ab with ab
   subst ab
   exact rE h [.tmp 4]

theorem L_ref04_kept_ok {a0 : TState} {a1 : TState} {a2 : Int} {r : Bool} (hD : L_ref04_kept a0 a1 a2 = some r) :
  CallH Try.prog 96 [.agg (cTState a0),.agg (cTState a1),.one (.d (.int .i64 a2))] []
   (.one (.d (.bool r))) [] := by
 unfold L_ref04_kept at hD
 refine rc Try.func96 rfl Try.ntmps96 fun S Φ P0 wb ac h => ?_
 refine qs 4 [] [2,3,4] [(1,0),(2,0)] h fun ac wd h => ?_
 refine wp_seq ?_
 refine qs 5 [] [2,3,4,7] [(1,0),(2,0)] h fun ac wd h => ?_
 refine wp_block ?_
 refine r_while (fun nf ac wd => ∃ (aa : Int),L_ref04_kept_l1 a0 a1 a2 nf aa = some r ∧ SL ⟨wb,S,Φ,P0⟩ 38 67 [(2,.one (.d (.int .i64 a2))),(3,.one (.ptr (1,0) 0)),(4,.one (.ptr (2,0) 0)),(7,.one (.d (.int .i64 aa)))] [((1,0),some (.box 90 (cTState a0))),((2,0),some (.box 90 (cTState a1)))] ac wd) (((a0.Waits.length : Int) - 0).toNat + 1) ⟨0,hD,h.z⟩ (fun nf ac wd hJ => ?_)
 obtain ⟨aa,ab,h⟩ := hJ
 cases nf with
 | zero => rw [L_ref04_kept_l1] at ab; cases ab
 | succ nf =>
  rw [L_ref04_kept_l1] at ab
  refine wp_seq ?_
  refine qs 72 [] [2,3,4,7,12] [(1,0),(2,0)] h fun ac wd h => ?_
  rcases i2 ab with ⟨ad,ab⟩ | ⟨ad,ab⟩
  ·
   refine kT h ?_
   refine wp_skip ?_
   change Code.wp Try.prog _ _ _ _
   refine wp_seq ?_
   refine wp_block ?_
   obtain ⟨ae,af,ab⟩ := Option.bind_eq_some_iff.1 ab
   refine r_seqJ (fun ac wd => ∃ (ag : Bool),ag = ae ∧ SL ⟨wb,S,Φ,P0⟩ 38 95 [(2,.one (.d (.int .i64 a2))),(3,.one (.ptr (1,0) 0)),(4,.one (.ptr (2,0) 0)),(7,.one (.d (.int .i64 aa))),(37,.one (.d (.bool ag)))] [((1,0),some (.box 90 (cTState a0))),((2,0),some (.box 90 (cTState a1)))] ac wd) ?_ ?_
   ·
    obtain ⟨ah,ai,aj,ak,al,af⟩ := aB af
    rcases i2e af with ⟨am,af⟩ | ⟨am,af⟩
    ·
     refine deg [] [none,none,none,none,none,none,none,none,some (some 22,true),some (some 22,true),some (some 22,true),some (some 22,true),some (some 26,false),some (some 26,false),some (some 26,false),some (some 26,false),some (some 26,false),some (some 26,false),some (some 26,false),some (some 26,false),some (some 26,false),some (some 22,true),none] [2,3,4,7,37] [(1,0),(2,0)] h fun ac wd h => ?_
     injection af with af; subst af
     exact ⟨false,rfl,h.z⟩
    ·
     rcases i2e af with ⟨an,af⟩ | ⟨an,af⟩
     ·
      obtain ⟨ao,ap,af⟩ := oB af
      have aq := L_ref04_In_ok ap
      refine deg [factE 91 aq] [none,none,none,none,none,none,none,none,some (some 22,true),some (some 22,true),some (some 22,true),some (some 22,true),some (some 26,false),some (some 26,false),some (some 26,false),some (some 26,false),some (some 26,false),some (some 26,false),some (some 26,false),some (some 26,false),some (some 26,false),some (some 22,true),none] [2,3,4,7,37] [(1,0),(2,0)] h fun ac wd h => ?_
      injection af with af; subst af
      exact ⟨!(ao),rfl,h.z⟩
     ·
      refine deg [] [none,none,none,none,none,none,none,none,some (some 22,true),some (some 22,true),some (some 22,true),some (some 22,true),some (some 26,false),some (some 26,false),some (some 26,false),some (some 26,false),some (some 26,false),some (some 26,false),some (some 26,false),some (some 26,false),some (some 26,false),some (some 22,true),none] [2,3,4,7,37] [(1,0),(2,0)] h fun ac wd h => ?_
      injection af with af; subst af
      exact ⟨true,rfl,h.z⟩
   ·
    rintro ac wd ⟨ag,rfl,h⟩
    (try dsimp only at ab)
    rcases i2b ab with ⟨ar,ab⟩ | ⟨ar,ab⟩
    ·
     refine kT h ?_
     refine qs 96 [] [6] [] h fun ac wd h => ?_
     refine wp_ret ?_
     injection ab with ab
     subst ab
     exact rE h [.tmp 6]
    ·
     refine kF h ?_
     refine wp_skip ?_
     change Code.wp Try.prog _ _ _ _
     refine qe [] [2,3,4,7] [(1,0),(2,0)] h fun ac wd h => ?_
     exact ⟨nf,Nat.lt_succ_self nf,(IntKind.wrap .i64 (aa + 1)),ab,h.z⟩
  ·
   refine kF h ?_
   refine wp_exit ?_
   change Code.wp Try.prog _ _ _ _
   refine qs 73 [] [6] [] h fun ac wd h => ?_
   refine wp_ret ?_
   injection ab with ab
   subst ab
   exact rE h [.tmp 6]

theorem L_ref04_takes_ok {a0 : TState} {a1 : Int} {a2 : TNode} {a3 : TGraph} {r : Bool} (hD : L_ref04_takes a0 a1 a2 a3 = some r) :
  CallH Try.prog 53 [.agg (cTState a0),.one (.d (.int .i64 a1)),.agg (cTNode a2),.agg (cTGraph a3)] []
   (.one (.d (.bool r))) [] := by
 unfold L_ref04_takes at hD
 refine rc Try.func53 rfl Try.ntmps53 fun S Φ P0 wb ac h => ?_
 refine qs 5 [] [1,4,6,7] [(1,0),(2,0),(3,0)] h fun ac wd h => ?_
 refine wp_seq ?_
 refine qs 6 [] [1,4,6,7,9] [(1,0),(2,0),(3,0)] h fun ac wd h => ?_
 refine wp_block ?_
 refine r_while (fun nf ac wd => ∃ (aa : Int),L_ref04_takes_l1 a0 a1 a2 a3 nf aa = some r ∧ SL ⟨wb,S,Φ,P0⟩ 91 180 [(1,.one (.d (.int .i64 a1))),(4,.one (.ptr (1,0) 0)),(6,.one (.ptr (2,0) 0)),(7,.one (.ptr (3,0) 0)),(9,.one (.d (.int .i64 aa)))] [((1,0),some (.box 90 (cTState a0))),((2,0),some (.box 132 (cTNode a2))),((3,0),some (.box 32 (cTGraph a3)))] ac wd) (((a0.Takes.length : Int) - 0).toNat + 1) ⟨0,hD,h.z⟩ (fun nf ac wd hJ => ?_)
 obtain ⟨aa,ab,h⟩ := hJ
 cases nf with
 | zero => rw [L_ref04_takes_l1] at ab; cases ab
 | succ nf =>
  rw [L_ref04_takes_l1] at ab
  refine wp_seq ?_
  refine qs 185 [] [1,4,6,7,9,16] [(1,0),(2,0),(3,0)] h fun ac wd h => ?_
  rcases i2 ab with ⟨ad,ab⟩ | ⟨ad,ab⟩
  ·
   refine kT h ?_
   refine wp_skip ?_
   change Code.wp Try.prog _ _ _ _
   obtain ⟨ae,af,ab⟩ := Option.bind_eq_some_iff.1 ab
   refine r_seqJ (fun ac wd => (.inl ()) = ae ∧ SL ⟨wb,S,Φ,P0⟩ 91 290 [(1,.one (.d (.int .i64 a1))),(4,.one (.ptr (1,0) 0)),(6,.one (.ptr (2,0) 0)),(7,.one (.ptr (3,0) 0)),(9,.one (.d (.int .i64 aa)))] [((1,0),some (.box 90 (cTState a0))),((2,0),some (.box 132 (cTNode a2))),((3,0),some (.box 32 (cTGraph a3)))] ac wd) ?_ ?_
   ·
    refine wp_block ?_
    obtain ⟨ag,ah,ai,aj,ak,af⟩ := aB af
    refine qs 192 [] [1,4,6,7,9,10] [(1,0),(2,0),(3,0),(190,0)] h fun ac wd h => ?_
    refine wp_seq ?_
    obtain ⟨al,am,af⟩ := Option.bind_eq_some_iff.1 af
    refine r_seqJ (fun ac wd => ∃ (an : Bool),an = al ∧ SL ⟨wb,S,Φ,P0⟩ 91 234 [(1,.one (.d (.int .i64 a1))),(4,.one (.ptr (1,0) 0)),(6,.one (.ptr (2,0) 0)),(7,.one (.ptr (3,0) 0)),(9,.one (.d (.int .i64 aa))),(10,.one (.ptr (190,0) 0)),(65,.one (.d (.bool an)))] [((1,0),some (.box 90 (cTState a0))),((2,0),some (.box 132 (cTNode a2))),((3,0),some (.box 32 (cTGraph a3))),((190,0),some (.box 191 (cTTake ag)))] ac wd) ?_ ?_
    ·
     obtain ⟨ao,ap,am⟩ := oB am
     rcases i2 am with ⟨aq,am⟩ | ⟨aq,am⟩
     ·
      have ar := L_ref03_Find_ok ap
      refine deg [factE 196 ar] [none,none,none,none,none,none,none,some (some 30,false),some (some 30,false),some (some 30,false),none,none,some (some 35,false),some (some 35,false),some (some 35,false),none,none,some (some 40,false),some (some 40,false),some (some 40,false),none,none,some (some 45,false),some (some 45,false),some (some 45,false),some (some 45,false),some (some 45,false),some (some 45,false),none,none,some (some 53,false),some (some 53,false),some (some 53,false),some (some 53,false),some (some 53,false),some (some 53,false),some (some 53,false),some (some 53,false),some (some 53,false),some (some 53,false),some (some 53,false),none] [1,4,6,7,9,10,65] [(1,0),(2,0),(3,0),(190,0)] h fun ac wd h => ?_
      injection am with am; subst am
      exact ⟨true,rfl,h.z⟩
     ·
      rcases i2 am with ⟨au,am⟩ | ⟨au,am⟩
      ·
       have ar := L_ref03_Find_ok ap
       refine deg [factE 196 ar] [none,none,none,none,none,none,none,some (some 30,false),some (some 30,false),some (some 30,false),none,none,some (some 35,false),some (some 35,false),some (some 35,false),none,none,some (some 40,false),some (some 40,false),some (some 40,false),none,none,some (some 45,false),some (some 45,false),some (some 45,false),some (some 45,false),some (some 45,false),some (some 45,false),none,none,some (some 53,false),some (some 53,false),some (some 53,false),some (some 53,false),some (some 53,false),some (some 53,false),some (some 53,false),some (some 53,false),some (some 53,false),some (some 53,false),some (some 53,false),none] [1,4,6,7,9,10,65] [(1,0),(2,0),(3,0),(190,0)] h fun ac wd h => ?_
       injection am with am; subst am
       exact ⟨true,rfl,h.z⟩
      ·
       rcases i2 am with ⟨av,am⟩ | ⟨av,am⟩
       ·
        have ar := L_ref03_Find_ok ap
        refine deg [factE 196 ar] [none,none,none,none,none,none,none,some (some 30,false),some (some 30,false),some (some 30,false),none,none,some (some 35,false),some (some 35,false),some (some 35,false),none,none,some (some 40,false),some (some 40,false),some (some 40,false),none,none,some (some 45,false),some (some 45,false),some (some 45,false),some (some 45,false),some (some 45,false),some (some 45,false),none,none,some (some 53,false),some (some 53,false),some (some 53,false),some (some 53,false),some (some 53,false),some (some 53,false),some (some 53,false),some (some 53,false),some (some 53,false),some (some 53,false),some (some 53,false),none] [1,4,6,7,9,10,65] [(1,0),(2,0),(3,0),(190,0)] h fun ac wd h => ?_
        injection am with am; subst am
        exact ⟨true,rfl,h.z⟩
       ·
        rcases i2 am with ⟨aw,am⟩ | ⟨aw,am⟩
        ·
         have ar := L_ref03_Find_ok ap
         refine deg [factE 196 ar] [none,none,none,none,none,none,none,some (some 30,false),some (some 30,false),some (some 30,false),none,none,some (some 35,false),some (some 35,false),some (some 35,false),none,none,some (some 40,false),some (some 40,false),some (some 40,false),none,none,some (some 45,false),some (some 45,false),some (some 45,false),some (some 45,false),some (some 45,false),some (some 45,false),none,none,some (some 53,false),some (some 53,false),some (some 53,false),some (some 53,false),some (some 53,false),some (some 53,false),some (some 53,false),some (some 53,false),some (some 53,false),some (some 53,false),some (some 53,false),none] [1,4,6,7,9,10,65] [(1,0),(2,0),(3,0),(190,0)] h fun ac wd h => ?_
         injection am with am; subst am
         exact ⟨true,rfl,h.z⟩
        ·
         rcases i2 am with ⟨ax,am⟩ | ⟨ax,am⟩
         ·
          have ar := L_ref03_Find_ok ap
          refine deg [factE 196 ar] [none,none,none,none,none,none,none,some (some 30,false),some (some 30,false),some (some 30,false),none,none,some (some 35,false),some (some 35,false),some (some 35,false),none,none,some (some 40,false),some (some 40,false),some (some 40,false),none,none,some (some 45,false),some (some 45,false),some (some 45,false),some (some 45,false),some (some 45,false),some (some 45,false),none,none,some (some 53,false),some (some 53,false),some (some 53,false),some (some 53,false),some (some 53,false),some (some 53,false),some (some 53,false),some (some 53,false),some (some 53,false),some (some 53,false),some (some 53,false),none] [1,4,6,7,9,10,65] [(1,0),(2,0),(3,0),(190,0)] h fun ac wd h => ?_
          injection am with am; subst am
          exact ⟨true,rfl,h.z⟩
         ·
          obtain ⟨ay,az,aA,aC,aD,am⟩ := aB am
          obtain ⟨aE,aF,am⟩ := oB am
          have ar := L_ref03_Find_ok ap
          have aG := L_ref04_kept_ok aF
          refine deg [factE 196 ar,factE 231 aG] [none,none,none,none,none,none,none,some (some 30,false),some (some 30,false),some (some 30,false),none,none,some (some 35,false),some (some 35,false),some (some 35,false),none,none,some (some 40,false),some (some 40,false),some (some 40,false),none,none,some (some 45,false),some (some 45,false),some (some 45,false),some (some 45,false),some (some 45,false),some (some 45,false),none,none,some (some 53,false),some (some 53,false),some (some 53,false),some (some 53,false),some (some 53,false),some (some 53,false),some (some 53,false),some (some 53,false),some (some 53,false),some (some 53,false),some (some 53,false),none] [1,4,6,7,9,10,65] [(1,0),(2,0),(3,0),(190,0)] h fun ac wd h => ?_
          injection am with am; subst am
          exact ⟨!(aE),rfl,h.z⟩
    ·
     rintro ac wd ⟨an,rfl,h⟩
     (try dsimp only at af)
     rcases i2b af with ⟨aH,af⟩ | ⟨aH,af⟩
     ·
      refine kT h ?_
      refine qs 235 [] [8] [] h fun ac wd h => ?_
      refine wp_ret ?_
      injection af with af
      subst af
      (try dsimp only at ab)
      injection ab with ab
      subst ab
      exact rE h [.tmp 8]
     ·
      refine kF h ?_
      refine wp_skip ?_
      change Code.wp Try.prog _ _ _ _
      refine qs 235 [] [1,4,6,7,9,10,11] [(1,0),(2,0),(3,0),(190,0)] h fun ac wd h => ?_
      obtain ⟨aI,aJ,af⟩ := Option.bind_eq_some_iff.1 af
      refine r_meetQ (fun ac wd => (.inl ()) = aI ∧ SL ⟨wb,S,Φ,P0⟩ 91 290 [(1,.one (.d (.int .i64 a1))),(4,.one (.ptr (1,0) 0)),(6,.one (.ptr (2,0) 0)),(7,.one (.ptr (3,0) 0)),(9,.one (.d (.int .i64 aa)))] [((1,0),some (.box 90 (cTState a0))),((2,0),some (.box 132 (cTNode a2))),((3,0),some (.box 32 (cTGraph a3)))] ac wd) ?_ ?_
      ·
       refine wp_block ?_
       refine r_while (fun nf ac wd => ∃ (aK : Int),L_ref04_takes_l2 a0 aa ag nf aK = some aI ∧ SL ⟨wb,S,Φ,P0⟩ 91 287 [(1,.one (.d (.int .i64 a1))),(4,.one (.ptr (1,0) 0)),(6,.one (.ptr (2,0) 0)),(7,.one (.ptr (3,0) 0)),(9,.one (.d (.int .i64 aa))),(10,.one (.ptr (190,0) 0)),(11,.one (.d (.int .i64 aK)))] [((1,0),some (.box 90 (cTState a0))),((2,0),some (.box 132 (cTNode a2))),((3,0),some (.box 32 (cTGraph a3))),((190,0),some (.box 191 (cTTake ag)))] ac wd) ((aa - 0).toNat + 1) ⟨0,aJ,h.z⟩ (fun nf ac wd hJ => ?_)
       obtain ⟨aK,aL,h⟩ := hJ
       cases nf with
       | zero => rw [L_ref04_takes_l2] at aL; cases aL
       | succ nf =>
        rw [L_ref04_takes_l2] at aL
        refine wp_seq ?_
        refine qs 290 [] [1,4,6,7,9,10,11,68] [(1,0),(2,0),(3,0),(190,0)] h fun ac wd h => ?_
        rcases i2 aL with ⟨aM,aL⟩ | ⟨aM,aL⟩
        ·
         refine kT h ?_
         refine wp_skip ?_
         change Code.wp Try.prog _ _ _ _
         refine wp_seq ?_
         refine wp_block ?_
         obtain ⟨aN,aO,aL⟩ := Option.bind_eq_some_iff.1 aL
         refine r_seqJ (fun ac wd => ∃ (aP : Bool),aP = aN ∧ SL ⟨wb,S,Φ,P0⟩ 91 310 [(1,.one (.d (.int .i64 a1))),(4,.one (.ptr (1,0) 0)),(6,.one (.ptr (2,0) 0)),(7,.one (.ptr (3,0) 0)),(9,.one (.d (.int .i64 aa))),(10,.one (.ptr (190,0) 0)),(11,.one (.d (.int .i64 aK))),(90,.one (.d (.bool aP)))] [((1,0),some (.box 90 (cTState a0))),((2,0),some (.box 132 (cTNode a2))),((3,0),some (.box 32 (cTGraph a3))),((190,0),some (.box 191 (cTTake ag)))] ac wd) ?_ ?_
         ·
          obtain ⟨aQ,aR,aS,aT,aU,aO⟩ := aB aO
          rcases i2e aO with ⟨aV,aO⟩ | ⟨aV,aO⟩
          ·
           refine deg [] [none,none,none,none,none,none,none,none,none,none,some (some 80,true),some (some 80,true),some (some 80,true),some (some 80,true),some (some 80,true),some (some 80,true),some (some 80,true),some (some 80,true),some (some 80,true),none] [1,4,6,7,9,10,11,90] [(1,0),(2,0),(3,0),(190,0)] h fun ac wd h => ?_
           injection aO with aO; subst aO
           exact ⟨decide (aQ.Letter = ag.Letter),rfl,h.z⟩
          ·
           refine deg [] [none,none,none,none,none,none,none,none,none,none,some (some 80,true),some (some 80,true),some (some 80,true),some (some 80,true),some (some 80,true),some (some 80,true),some (some 80,true),some (some 80,true),some (some 80,true),none] [1,4,6,7,9,10,11,90] [(1,0),(2,0),(3,0),(190,0)] h fun ac wd h => ?_
           injection aO with aO; subst aO
           exact ⟨false,rfl,h.z⟩
         ·
          rintro ac wd ⟨aP,rfl,h⟩
          (try dsimp only at aL)
          rcases i2b aL with ⟨aW,aL⟩ | ⟨aW,aL⟩
          ·
           refine kT h ?_
           refine qs 311 [] [8] [] h fun ac wd h => ?_
           refine wp_ret ?_
           injection aL with aL
           subst aL
           (try dsimp only at af)
           injection af with af
           subst af
           (try dsimp only at ab)
           injection ab with ab
           subst ab
           exact rE h [.tmp 8]
          ·
           refine kF h ?_
           refine wp_skip ?_
           change Code.wp Try.prog _ _ _ _
           refine qe [] [1,4,6,7,9,10,11] [(1,0),(2,0),(3,0),(190,0)] h fun ac wd h => ?_
           exact ⟨nf,Nat.lt_succ_self nf,(IntKind.wrap .i64 (aK + 1)),aL,h.z⟩
        ·
         refine kF h ?_
         refine wp_exit ?_
         injection aL with aL; subst aL
         exact ⟨rfl,h.z⟩
      ·
       rintro ac wd ⟨rfl,h⟩
       (try dsimp only at af)
       injection af with af; subst af
       exact ⟨rfl,h.z⟩
   ·
    rintro ac wd ⟨rfl,h⟩
    (try dsimp only at ab)
    refine qe [] [1,4,6,7,9] [(1,0),(2,0),(3,0)] h fun ac wd h => ?_
    exact ⟨nf,Nat.lt_succ_self nf,(IntKind.wrap .i64 (aa + 1)),ab,h.z⟩
  ·
   refine kF h ?_
   refine wp_exit ?_
   change Code.wp Try.prog _ _ _ _
   refine qs 186 [] [8] [] h fun ac wd h => ?_
   refine wp_ret ?_
   injection ab with ab
   subst ab
   exact rE h [.tmp 8]

end Go.Proofs.Ytabbejabdkkaiaa
