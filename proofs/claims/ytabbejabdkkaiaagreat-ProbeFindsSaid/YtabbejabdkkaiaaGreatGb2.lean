/- Functions as typed ones,and that the program's functions answer as these do. No condition. -/
import Derived.Test.YtabbejabdkkaiaaGreatGb1
import Derived.Test.YtabbejabdkkaiaaGreatGd
set_option linter.unusedSimpArgs false
set_option linter.unusedVariables false
set_option maxRecDepth 20000
set_option maxHeartbeats 4000000
namespace Go.Proofs.YtabbejabdkkaiaaGreat
open Go.RowKit

theorem L_ref04_In_ok {a0 : (List Int)} {a1 : Int} {r : Bool} (hD : L_ref04_In a0 a1 = some r) :
  CallH Tryz.prog 25 [.one (.d (.sl (List.map eI a0))),.one (.d (.int .i64 a1))] []
   (.one (.d (.bool r))) [] := by
 unfold L_ref04_In at hD
 refine rc Tryz.func25 rfl Tryz.ntmps25 fun S Φ P0 wb ac h => ?_
 refine qs 2 [] [0,1] [] h fun ac wd h => ?_
 refine wp_seq ?_
 refine qs 3 [] [0,1,5] [] h fun ac wd h => ?_
 refine wp_block ?_
 refine r_while (fun nf ac wd => ∃ (aa : Int),L_ref04_In_l1 a0 a1 nf aa = some r ∧ SL ⟨wb,S,Φ,P0⟩ 18 29 [(0,.one (.d (.sl (List.map eI a0)))),(1,.one (.d (.int .i64 a1))),(5,.one (.d (.int .i64 aa)))] [] ac wd) (((a0.length : Int) - 0).toNat + 1) ⟨0,hD,h.z⟩ (fun nf ac wd hJ => ?_)
 obtain ⟨aa,ab,h⟩ := hJ
 cases nf with
 | zero => rw [L_ref04_In_l1] at ab; cases ab
 | succ nf =>
  rw [L_ref04_In_l1] at ab
  refine wp_seq ?_
  refine qs 33 [] [0,1,5,9] [] h fun ac wd h => ?_
  rcases i2 ab with ⟨ad,ab⟩ | ⟨ad,ab⟩
  ·
   refine kT h ?_
   refine wp_skip ?_
   change Code.wp Tryz.prog _ _ _ _
   refine wp_seq ?_
   refine wp_block ?_
   obtain ⟨ae,af,ag,ah,ai,ab⟩ := aB ab
   refine qs 39 [] [0,1,5,17] [] h fun ac wd h => ?_
   rcases i2e ab with ⟨aj,ab⟩ | ⟨aj,ab⟩
   ·
    refine kT h ?_
    refine qs 40 [] [4] [] h fun ac wd h => ?_
    refine wp_ret ?_
    injection ab with ab
    subst ab
    exact rE h [.tmp 4]
   ·
    refine kF h ?_
    refine wp_skip ?_
    change Code.wp Tryz.prog _ _ _ _
    refine qe [] [0,1,5] [] h fun ac wd h => ?_
    exact ⟨nf,Nat.lt_succ_self nf,(IntKind.wrap .i64 (aa + 1)),ab,h.z⟩
  ·
   refine kF h ?_
   refine wp_exit ?_
   change Code.wp Tryz.prog _ _ _ _
   refine qs 34 [] [4] [] h fun ac wd h => ?_
   refine wp_ret ?_
   injection ab with ab
   subst ab
   exact rE h [.tmp 4]

theorem L_ref04_kept_ok {a0 : TState} {a1 : TState} {a2 : Int} {r : Bool} (hD : L_ref04_kept a0 a1 a2 = some r) :
  CallH Tryz.prog 81 [.agg (cTState a0),.agg (cTState a1),.one (.d (.int .i64 a2))] []
   (.one (.d (.bool r))) [] := by
 unfold L_ref04_kept at hD
 refine rc Tryz.func81 rfl Tryz.ntmps81 fun S Φ P0 wb ac h => ?_
 refine qs 4 [] [2,3,4] [(1,0),(2,0)] h fun ac wd h => ?_
 refine wp_seq ?_
 refine qs 5 [] [2,3,4,7] [(1,0),(2,0)] h fun ac wd h => ?_
 refine wp_block ?_
 refine r_while (fun nf ac wd => ∃ (aa : Int),L_ref04_kept_l1 a0 a1 a2 nf aa = some r ∧ SL ⟨wb,S,Φ,P0⟩ 38 67 [(2,.one (.d (.int .i64 a2))),(3,.one (.ptr (1,0) 0)),(4,.one (.ptr (2,0) 0)),(7,.one (.d (.int .i64 aa)))] [((1,0),some (.box 86 (cTState a0))),((2,0),some (.box 86 (cTState a1)))] ac wd) (((a0.Waits.length : Int) - 0).toNat + 1) ⟨0,hD,h.z⟩ (fun nf ac wd hJ => ?_)
 obtain ⟨aa,ab,h⟩ := hJ
 cases nf with
 | zero => rw [L_ref04_kept_l1] at ab; cases ab
 | succ nf =>
  rw [L_ref04_kept_l1] at ab
  refine wp_seq ?_
  refine qs 72 [] [2,3,4,7,12] [(1,0),(2,0)] h fun ac wd h => ?_
  rcases i2 ab with ⟨ad,ab⟩ | ⟨ad,ab⟩
  ·
   refine kT h ?_
   refine wp_skip ?_
   change Code.wp Tryz.prog _ _ _ _
   refine wp_seq ?_
   refine wp_block ?_
   obtain ⟨ae,af,ab⟩ := Option.bind_eq_some_iff.1 ab
   refine r_seqJ (fun ac wd => ∃ (ag : Bool),ag = ae ∧ SL ⟨wb,S,Φ,P0⟩ 38 95 [(2,.one (.d (.int .i64 a2))),(3,.one (.ptr (1,0) 0)),(4,.one (.ptr (2,0) 0)),(7,.one (.d (.int .i64 aa))),(37,.one (.d (.bool ag)))] [((1,0),some (.box 86 (cTState a0))),((2,0),some (.box 86 (cTState a1)))] ac wd) ?_ ?_
   ·
    obtain ⟨ah,ai,aj,ak,al,af⟩ := aB af
    rcases i2e af with ⟨am,af⟩ | ⟨am,af⟩
    ·
     refine deg [] [none,none,none,none,none,none,none,none,some (some 22,true),some (some 22,true),some (some 22,true),some (some 22,true),some (some 26,false),some (some 26,false),some (some 26,false),some (some 26,false),some (some 26,false),some (some 26,false),some (some 26,false),some (some 26,false),some (some 26,false),some (some 22,true),none] [2,3,4,7,37] [(1,0),(2,0)] h fun ac wd h => ?_
     injection af with af; subst af
     exact ⟨false,rfl,h.z⟩
    ·
     rcases i2e af with ⟨an,af⟩ | ⟨an,af⟩
     ·
      obtain ⟨ao,ap,af⟩ := oB af
      have aq := L_ref04_In_ok ap
      refine deg [factE 91 aq] [none,none,none,none,none,none,none,none,some (some 22,true),some (some 22,true),some (some 22,true),some (some 22,true),some (some 26,false),some (some 26,false),some (some 26,false),some (some 26,false),some (some 26,false),some (some 26,false),some (some 26,false),some (some 26,false),some (some 26,false),some (some 22,true),none] [2,3,4,7,37] [(1,0),(2,0)] h fun ac wd h => ?_
      injection af with af; subst af
      exact ⟨!(ao),rfl,h.z⟩
     ·
      refine deg [] [none,none,none,none,none,none,none,none,some (some 22,true),some (some 22,true),some (some 22,true),some (some 22,true),some (some 26,false),some (some 26,false),some (some 26,false),some (some 26,false),some (some 26,false),some (some 26,false),some (some 26,false),some (some 26,false),some (some 26,false),some (some 22,true),none] [2,3,4,7,37] [(1,0),(2,0)] h fun ac wd h => ?_
      injection af with af; subst af
      exact ⟨true,rfl,h.z⟩
   ·
    rintro ac wd ⟨ag,rfl,h⟩
    (try dsimp only at ab)
    rcases i2b ab with ⟨ar,ab⟩ | ⟨ar,ab⟩
    ·
     refine kT h ?_
     refine qs 96 [] [6] [] h fun ac wd h => ?_
     refine wp_ret ?_
     injection ab with ab
     subst ab
     exact rE h [.tmp 6]
    ·
     refine kF h ?_
     refine wp_skip ?_
     change Code.wp Tryz.prog _ _ _ _
     refine qe [] [2,3,4,7] [(1,0),(2,0)] h fun ac wd h => ?_
     exact ⟨nf,Nat.lt_succ_self nf,(IntKind.wrap .i64 (aa + 1)),ab,h.z⟩
  ·
   refine kF h ?_
   refine wp_exit ?_
   change Code.wp Tryz.prog _ _ _ _
   refine qs 73 [] [6] [] h fun ac wd h => ?_
   refine wp_ret ?_
   injection ab with ab
   subst ab
   exact rE h [.tmp 6]

theorem L_ref04_takes_ok {a0 : TState} {a1 : Int} {a2 : TNode} {a3 : TGraph} {r : Bool} (hD : L_ref04_takes a0 a1 a2 a3 = some r) :
  CallH Tryz.prog 58 [.agg (cTState a0),.one (.d (.int .i64 a1)),.agg (cTNode a2),.agg (cTGraph a3)] []
   (.one (.d (.bool r))) [] := by
 unfold L_ref04_takes at hD
 refine rc Tryz.func58 rfl Tryz.ntmps58 fun S Φ P0 wb ac h => ?_
 refine qs 5 [] [1,4,6,7] [(1,0),(2,0),(3,0)] h fun ac wd h => ?_
 refine wp_seq ?_
 refine qs 6 [] [1,4,6,7,9] [(1,0),(2,0),(3,0)] h fun ac wd h => ?_
 refine wp_block ?_
 refine r_while (fun nf ac wd => ∃ (aa : Int),L_ref04_takes_l1 a0 a1 a2 a3 nf aa = some r ∧ SL ⟨wb,S,Φ,P0⟩ 91 180 [(1,.one (.d (.int .i64 a1))),(4,.one (.ptr (1,0) 0)),(6,.one (.ptr (2,0) 0)),(7,.one (.ptr (3,0) 0)),(9,.one (.d (.int .i64 aa)))] [((1,0),some (.box 86 (cTState a0))),((2,0),some (.box 106 (cTNode a2))),((3,0),some (.box 41 (cTGraph a3)))] ac wd) (((a0.Takes.length : Int) - 0).toNat + 1) ⟨0,hD,h.z⟩ (fun nf ac wd hJ => ?_)
 obtain ⟨aa,ab,h⟩ := hJ
 cases nf with
 | zero => rw [L_ref04_takes_l1] at ab; cases ab
 | succ nf =>
  rw [L_ref04_takes_l1] at ab
  refine wp_seq ?_
  refine qs 185 [] [1,4,6,7,9,16] [(1,0),(2,0),(3,0)] h fun ac wd h => ?_
  rcases i2 ab with ⟨ad,ab⟩ | ⟨ad,ab⟩
  ·
   refine kT h ?_
   refine wp_skip ?_
   change Code.wp Tryz.prog _ _ _ _
   obtain ⟨ae,af,ab⟩ := Option.bind_eq_some_iff.1 ab
   refine r_seqJ (fun ac wd => (.inl ()) = ae ∧ SL ⟨wb,S,Φ,P0⟩ 91 290 [(1,.one (.d (.int .i64 a1))),(4,.one (.ptr (1,0) 0)),(6,.one (.ptr (2,0) 0)),(7,.one (.ptr (3,0) 0)),(9,.one (.d (.int .i64 aa)))] [((1,0),some (.box 86 (cTState a0))),((2,0),some (.box 106 (cTNode a2))),((3,0),some (.box 41 (cTGraph a3)))] ac wd) ?_ ?_
   ·
    refine wp_block ?_
    obtain ⟨ag,ah,ai,aj,ak,af⟩ := aB af
    refine qs 192 [] [1,4,6,7,9,10] [(1,0),(2,0),(3,0),(190,0)] h fun ac wd h => ?_
    refine wp_seq ?_
    obtain ⟨al,am,af⟩ := Option.bind_eq_some_iff.1 af
    refine r_seqJ (fun ac wd => ∃ (an : Bool),an = al ∧ SL ⟨wb,S,Φ,P0⟩ 91 234 [(1,.one (.d (.int .i64 a1))),(4,.one (.ptr (1,0) 0)),(6,.one (.ptr (2,0) 0)),(7,.one (.ptr (3,0) 0)),(9,.one (.d (.int .i64 aa))),(10,.one (.ptr (190,0) 0)),(65,.one (.d (.bool an)))] [((1,0),some (.box 86 (cTState a0))),((2,0),some (.box 106 (cTNode a2))),((3,0),some (.box 41 (cTGraph a3))),((190,0),some (.box 161 (cTTake ag)))] ac wd) ?_ ?_
    ·
     obtain ⟨ao,ap,am⟩ := oB am
     rcases i2 am with ⟨aq,am⟩ | ⟨aq,am⟩
     ·
      have ar := L_ref03_Find_ok ap
      refine deg [factE 196 ar] [none,none,none,none,none,none,none,some (some 30,false),some (some 30,false),some (some 30,false),none,none,some (some 35,false),some (some 35,false),some (some 35,false),none,none,some (some 40,false),some (some 40,false),some (some 40,false),none,none,some (some 45,false),some (some 45,false),some (some 45,false),some (some 45,false),some (some 45,false),some (some 45,false),none,none,some (some 53,false),some (some 53,false),some (some 53,false),some (some 53,false),some (some 53,false),some (some 53,false),some (some 53,false),some (some 53,false),some (some 53,false),some (some 53,false),some (some 53,false),none] [1,4,6,7,9,10,65] [(1,0),(2,0),(3,0),(190,0)] h fun ac wd h => ?_
      injection am with am; subst am
      exact ⟨true,rfl,h.z⟩
     ·
      rcases i2 am with ⟨au,am⟩ | ⟨au,am⟩
      ·
       have ar := L_ref03_Find_ok ap
       refine deg [factE 196 ar] [none,none,none,none,none,none,none,some (some 30,false),some (some 30,false),some (some 30,false),none,none,some (some 35,false),some (some 35,false),some (some 35,false),none,none,some (some 40,false),some (some 40,false),some (some 40,false),none,none,some (some 45,false),some (some 45,false),some (some 45,false),some (some 45,false),some (some 45,false),some (some 45,false),none,none,some (some 53,false),some (some 53,false),some (some 53,false),some (some 53,false),some (some 53,false),some (some 53,false),some (some 53,false),some (some 53,false),some (some 53,false),some (some 53,false),some (some 53,false),none] [1,4,6,7,9,10,65] [(1,0),(2,0),(3,0),(190,0)] h fun ac wd h => ?_
       injection am with am; subst am
       exact ⟨true,rfl,h.z⟩
      ·
       rcases i2 am with ⟨av,am⟩ | ⟨av,am⟩
       ·
        have ar := L_ref03_Find_ok ap
        refine deg [factE 196 ar] [none,none,none,none,none,none,none,some (some 30,false),some (some 30,false),some (some 30,false),none,none,some (some 35,false),some (some 35,false),some (some 35,false),none,none,some (some 40,false),some (some 40,false),some (some 40,false),none,none,some (some 45,false),some (some 45,false),some (some 45,false),some (some 45,false),some (some 45,false),some (some 45,false),none,none,some (some 53,false),some (some 53,false),some (some 53,false),some (some 53,false),some (some 53,false),some (some 53,false),some (some 53,false),some (some 53,false),some (some 53,false),some (some 53,false),some (some 53,false),none] [1,4,6,7,9,10,65] [(1,0),(2,0),(3,0),(190,0)] h fun ac wd h => ?_
        injection am with am; subst am
        exact ⟨true,rfl,h.z⟩
       ·
        rcases i2 am with ⟨aw,am⟩ | ⟨aw,am⟩
        ·
         have ar := L_ref03_Find_ok ap
         refine deg [factE 196 ar] [none,none,none,none,none,none,none,some (some 30,false),some (some 30,false),some (some 30,false),none,none,some (some 35,false),some (some 35,false),some (some 35,false),none,none,some (some 40,false),some (some 40,false),some (some 40,false),none,none,some (some 45,false),some (some 45,false),some (some 45,false),some (some 45,false),some (some 45,false),some (some 45,false),none,none,some (some 53,false),some (some 53,false),some (some 53,false),some (some 53,false),some (some 53,false),some (some 53,false),some (some 53,false),some (some 53,false),some (some 53,false),some (some 53,false),some (some 53,false),none] [1,4,6,7,9,10,65] [(1,0),(2,0),(3,0),(190,0)] h fun ac wd h => ?_
         injection am with am; subst am
         exact ⟨true,rfl,h.z⟩
        ·
         rcases i2 am with ⟨ax,am⟩ | ⟨ax,am⟩
         ·
          have ar := L_ref03_Find_ok ap
          refine deg [factE 196 ar] [none,none,none,none,none,none,none,some (some 30,false),some (some 30,false),some (some 30,false),none,none,some (some 35,false),some (some 35,false),some (some 35,false),none,none,some (some 40,false),some (some 40,false),some (some 40,false),none,none,some (some 45,false),some (some 45,false),some (some 45,false),some (some 45,false),some (some 45,false),some (some 45,false),none,none,some (some 53,false),some (some 53,false),some (some 53,false),some (some 53,false),some (some 53,false),some (some 53,false),some (some 53,false),some (some 53,false),some (some 53,false),some (some 53,false),some (some 53,false),none] [1,4,6,7,9,10,65] [(1,0),(2,0),(3,0),(190,0)] h fun ac wd h => ?_
          injection am with am; subst am
          exact ⟨true,rfl,h.z⟩
         ·
          obtain ⟨ay,az,aA,aC,aD,am⟩ := aB am
          obtain ⟨aE,aF,am⟩ := oB am
          have ar := L_ref03_Find_ok ap
          have aG := L_ref04_kept_ok aF
          refine deg [factE 196 ar,factE 231 aG] [none,none,none,none,none,none,none,some (some 30,false),some (some 30,false),some (some 30,false),none,none,some (some 35,false),some (some 35,false),some (some 35,false),none,none,some (some 40,false),some (some 40,false),some (some 40,false),none,none,some (some 45,false),some (some 45,false),some (some 45,false),some (some 45,false),some (some 45,false),some (some 45,false),none,none,some (some 53,false),some (some 53,false),some (some 53,false),some (some 53,false),some (some 53,false),some (some 53,false),some (some 53,false),some (some 53,false),some (some 53,false),some (some 53,false),some (some 53,false),none] [1,4,6,7,9,10,65] [(1,0),(2,0),(3,0),(190,0)] h fun ac wd h => ?_
          injection am with am; subst am
          exact ⟨!(aE),rfl,h.z⟩
    ·
     rintro ac wd ⟨an,rfl,h⟩
     (try dsimp only at af)
     rcases i2b af with ⟨aH,af⟩ | ⟨aH,af⟩
     ·
      refine kT h ?_
      refine qs 235 [] [8] [] h fun ac wd h => ?_
      refine wp_ret ?_
      injection af with af
      subst af
      (try dsimp only at ab)
      injection ab with ab
      subst ab
      exact rE h [.tmp 8]
     ·
      refine kF h ?_
      refine wp_skip ?_
      change Code.wp Tryz.prog _ _ _ _
      refine qs 235 [] [1,4,6,7,9,10,11] [(1,0),(2,0),(3,0),(190,0)] h fun ac wd h => ?_
      obtain ⟨aI,aJ,af⟩ := Option.bind_eq_some_iff.1 af
      refine r_meetQ (fun ac wd => (.inl ()) = aI ∧ SL ⟨wb,S,Φ,P0⟩ 91 290 [(1,.one (.d (.int .i64 a1))),(4,.one (.ptr (1,0) 0)),(6,.one (.ptr (2,0) 0)),(7,.one (.ptr (3,0) 0)),(9,.one (.d (.int .i64 aa)))] [((1,0),some (.box 86 (cTState a0))),((2,0),some (.box 106 (cTNode a2))),((3,0),some (.box 41 (cTGraph a3)))] ac wd) ?_ ?_
      ·
       refine wp_block ?_
       refine r_while (fun nf ac wd => ∃ (aK : Int),L_ref04_takes_l2 a0 aa ag nf aK = some aI ∧ SL ⟨wb,S,Φ,P0⟩ 91 287 [(1,.one (.d (.int .i64 a1))),(4,.one (.ptr (1,0) 0)),(6,.one (.ptr (2,0) 0)),(7,.one (.ptr (3,0) 0)),(9,.one (.d (.int .i64 aa))),(10,.one (.ptr (190,0) 0)),(11,.one (.d (.int .i64 aK)))] [((1,0),some (.box 86 (cTState a0))),((2,0),some (.box 106 (cTNode a2))),((3,0),some (.box 41 (cTGraph a3))),((190,0),some (.box 161 (cTTake ag)))] ac wd) ((aa - 0).toNat + 1) ⟨0,aJ,h.z⟩ (fun nf ac wd hJ => ?_)
       obtain ⟨aK,aL,h⟩ := hJ
       cases nf with
       | zero => rw [L_ref04_takes_l2] at aL; cases aL
       | succ nf =>
        rw [L_ref04_takes_l2] at aL
        refine wp_seq ?_
        refine qs 290 [] [1,4,6,7,9,10,11,68] [(1,0),(2,0),(3,0),(190,0)] h fun ac wd h => ?_
        rcases i2 aL with ⟨aM,aL⟩ | ⟨aM,aL⟩
        ·
         refine kT h ?_
         refine wp_skip ?_
         change Code.wp Tryz.prog _ _ _ _
         refine wp_seq ?_
         refine wp_block ?_
         obtain ⟨aN,aO,aL⟩ := Option.bind_eq_some_iff.1 aL
         refine r_seqJ (fun ac wd => ∃ (aP : Bool),aP = aN ∧ SL ⟨wb,S,Φ,P0⟩ 91 310 [(1,.one (.d (.int .i64 a1))),(4,.one (.ptr (1,0) 0)),(6,.one (.ptr (2,0) 0)),(7,.one (.ptr (3,0) 0)),(9,.one (.d (.int .i64 aa))),(10,.one (.ptr (190,0) 0)),(11,.one (.d (.int .i64 aK))),(90,.one (.d (.bool aP)))] [((1,0),some (.box 86 (cTState a0))),((2,0),some (.box 106 (cTNode a2))),((3,0),some (.box 41 (cTGraph a3))),((190,0),some (.box 161 (cTTake ag)))] ac wd) ?_ ?_
         ·
          obtain ⟨aQ,aR,aS,aT,aU,aO⟩ := aB aO
          rcases i2e aO with ⟨aV,aO⟩ | ⟨aV,aO⟩
          ·
           refine deg [] [none,none,none,none,none,none,none,none,none,none,some (some 80,true),some (some 80,true),some (some 80,true),some (some 80,true),some (some 80,true),some (some 80,true),some (some 80,true),some (some 80,true),some (some 80,true),none] [1,4,6,7,9,10,11,90] [(1,0),(2,0),(3,0),(190,0)] h fun ac wd h => ?_
           injection aO with aO; subst aO
           exact ⟨decide (aQ.Letter = ag.Letter),rfl,h.z⟩
          ·
           refine deg [] [none,none,none,none,none,none,none,none,none,none,some (some 80,true),some (some 80,true),some (some 80,true),some (some 80,true),some (some 80,true),some (some 80,true),some (some 80,true),some (some 80,true),some (some 80,true),none] [1,4,6,7,9,10,11,90] [(1,0),(2,0),(3,0),(190,0)] h fun ac wd h => ?_
           injection aO with aO; subst aO
           exact ⟨false,rfl,h.z⟩
         ·
          rintro ac wd ⟨aP,rfl,h⟩
          (try dsimp only at aL)
          rcases i2b aL with ⟨aW,aL⟩ | ⟨aW,aL⟩
          ·
           refine kT h ?_
           refine qs 311 [] [8] [] h fun ac wd h => ?_
           refine wp_ret ?_
           injection aL with aL
           subst aL
           (try dsimp only at af)
           injection af with af
           subst af
           (try dsimp only at ab)
           injection ab with ab
           subst ab
           exact rE h [.tmp 8]
          ·
           refine kF h ?_
           refine wp_skip ?_
           change Code.wp Tryz.prog _ _ _ _
           refine qe [] [1,4,6,7,9,10,11] [(1,0),(2,0),(3,0),(190,0)] h fun ac wd h => ?_
           exact ⟨nf,Nat.lt_succ_self nf,(IntKind.wrap .i64 (aK + 1)),aL,h.z⟩
        ·
         refine kF h ?_
         refine wp_exit ?_
         injection aL with aL; subst aL
         exact ⟨rfl,h.z⟩
      ·
       rintro ac wd ⟨rfl,h⟩
       (try dsimp only at af)
       injection af with af; subst af
       exact ⟨rfl,h.z⟩
   ·
    rintro ac wd ⟨rfl,h⟩
    (try dsimp only at ab)
    refine qe [] [1,4,6,7,9] [(1,0),(2,0),(3,0)] h fun ac wd h => ?_
    exact ⟨nf,Nat.lt_succ_self nf,(IntKind.wrap .i64 (aa + 1)),ab,h.z⟩
  ·
   refine kF h ?_
   refine wp_exit ?_
   change Code.wp Tryz.prog _ _ _ _
   refine qs 186 [] [8] [] h fun ac wd h => ?_
   refine wp_ret ?_
   injection ab with ab
   subst ab
   exact rE h [.tmp 8]

theorem L_ref04_Right_ok {a0 : (List TNode)} {a1 : TGraph} {r : Bool} (hD : L_ref04_Right a0 a1 = some r) :
  CallH Tryz.prog 20 [.one (.d (.sl (List.map eTNode a0))),.agg (cTGraph a1)] []
   (.one (.d (.bool r))) [] := by
 unfold L_ref04_Right at hD
 refine rc Tryz.func20 rfl Tryz.ntmps20 fun S Φ P0 wb ac h => ?_
 refine qs 3 [] [0,3] [(1,0)] h fun ac wd h => ?_
 refine wp_seq ?_
 obtain ⟨aa,ab,hD⟩ := Option.bind_eq_some_iff.1 hD
 refine r_seqJ (fun ac wd => ∃ (ad : Bool),ad = aa ∧ SL ⟨wb,S,Φ,P0⟩ 101 13 [(0,.one (.d (.sl (List.map eTNode a0)))),(3,.one (.ptr (1,0) 0)),(18,.one (.d (.bool ad)))] [((1,0),some (.box 41 (cTGraph a1)))] ac wd) ?_ ?_
 ·
  obtain ⟨ae,af,ab⟩ := oB ab
  rcases i2b ab with ⟨ag,ab⟩ | ⟨ag,ab⟩
  ·
   have ah := L_ref03_Right_ok af
   refine qeg [factE 4 ah] [none,none,none,none,some (some 12,false),some (some 12,false),some (some 12,false),some (some 12,false),some (some 12,false),none] [0,3,18] [(1,0)] h fun ac wd h => ?_
   injection ab with ab; subst ab
   exact ⟨!(decide ((a0.length : Int) = a1.N)),rfl,h.z⟩
  ·
   have ah := L_ref03_Right_ok af
   refine qeg [factE 4 ah] [none,none,none,none,some (some 12,false),some (some 12,false),some (some 12,false),some (some 12,false),some (some 12,false),none] [0,3,18] [(1,0)] h fun ac wd h => ?_
   injection ab with ab; subst ab
   exact ⟨true,rfl,h.z⟩
 ·
  rintro ac wd ⟨ad,rfl,h⟩
  (try dsimp only at hD)
  rcases i2b hD with ⟨ai,hD⟩ | ⟨ai,hD⟩
  ·
   refine kT h ?_
   refine qs 14 [] [4] [] h fun ac wd h => ?_
   refine wp_ret ?_
   injection hD with hD
   subst hD
   exact rE h [.tmp 4]
  ·
   refine kF h ?_
   refine wp_skip ?_
   change Code.wp Tryz.prog _ _ _ _
   refine wp_seq ?_
   refine qs 14 [] [0,3,5] [(1,0)] h fun ac wd h => ?_
   refine wp_block ?_
   refine r_while (fun nf ac wd => ∃ (aj : Int),L_ref04_Right_l1 a0 a1 nf aj = some r ∧ SL ⟨wb,S,Φ,P0⟩ 101 296 [(0,.one (.d (.sl (List.map eTNode a0)))),(3,.one (.ptr (1,0) 0)),(5,.one (.d (.int .i64 aj)))] [((1,0),some (.box 41 (cTGraph a1)))] ac wd) (((a0.length : Int) - 0).toNat + 1) ⟨0,hD,h.z⟩ (fun nf ac wd hJ => ?_)
   obtain ⟨aj,ak,h⟩ := hJ
   cases nf with
   | zero => rw [L_ref04_Right_l1] at ak; cases ak
   | succ nf =>
    rw [L_ref04_Right_l1] at ak
    refine wp_seq ?_
    refine qs 300 [] [0,3,5,22] [(1,0)] h fun ac wd h => ?_
    rcases i2 ak with ⟨al,ak⟩ | ⟨al,ak⟩
    ·
     refine kT h ?_
     refine wp_skip ?_
     change Code.wp Tryz.prog _ _ _ _
     obtain ⟨am,an,ak⟩ := Option.bind_eq_some_iff.1 ak
     refine r_seqJ (fun ac wd => (.inl ()) = am ∧ SL ⟨wb,S,Φ,P0⟩ 101 434 [(0,.one (.d (.sl (List.map eTNode a0)))),(3,.one (.ptr (1,0) 0)),(5,.one (.d (.int .i64 aj)))] [((1,0),some (.box 41 (cTGraph a1)))] ac wd) ?_ ?_
     ·
      refine wp_block ?_
      obtain ⟨ao,ap,aq,ar,au,an⟩ := aB an
      refine qs 307 [] [0,3,5,6] [(1,0)] h fun ac wd h => ?_
      refine wp_seq ?_
      obtain ⟨av,aw,an⟩ := Option.bind_eq_some_iff.1 an
      refine r_seqJ (fun ac wd => ∃ (ax : Bool),ax = av ∧ SL ⟨wb,S,Φ,P0⟩ 101 330 [(0,.one (.d (.sl (List.map eTNode a0)))),(3,.one (.ptr (1,0) 0)),(5,.one (.d (.int .i64 aj))),(6,.one (.d (.int .i64 (ao.States.length : Int)))),(53,.one (.d (.bool ax)))] [((1,0),some (.box 41 (cTGraph a1)))] ac wd) ?_ ?_
      ·
       rcases i2 aw with ⟨ay,aw⟩ | ⟨ay,aw⟩
       ·
        refine qeg [] [none,none,none,some (some 33,false),some (some 33,false),none,none,some (some 37,false),some (some 37,false),some (some 37,false),some (some 37,false),some (some 37,false),some (some 37,false),none,none,some (some 45,false),some (some 45,false),some (some 45,false),some (some 45,false),some (some 45,false),some (some 45,false),some (some 45,false),none] [0,3,5,6,53] [(1,0)] h fun ac wd h => ?_
        injection aw with aw; subst aw
        exact ⟨true,rfl,h.z⟩
       ·
        rcases i2 aw with ⟨az,aw⟩ | ⟨az,aw⟩
        ·
         refine qeg [] [none,none,none,some (some 33,false),some (some 33,false),none,none,some (some 37,false),some (some 37,false),some (some 37,false),some (some 37,false),some (some 37,false),some (some 37,false),none,none,some (some 45,false),some (some 45,false),some (some 45,false),some (some 45,false),some (some 45,false),some (some 45,false),some (some 45,false),none] [0,3,5,6,53] [(1,0)] h fun ac wd h => ?_
         injection aw with aw; subst aw
         exact ⟨true,rfl,h.z⟩
        ·
         rcases i2 aw with ⟨aA,aw⟩ | ⟨aA,aw⟩
         ·
          refine qeg [] [none,none,none,some (some 33,false),some (some 33,false),none,none,some (some 37,false),some (some 37,false),some (some 37,false),some (some 37,false),some (some 37,false),some (some 37,false),none,none,some (some 45,false),some (some 45,false),some (some 45,false),some (some 45,false),some (some 45,false),some (some 45,false),some (some 45,false),none] [0,3,5,6,53] [(1,0)] h fun ac wd h => ?_
          injection aw with aw; subst aw
          exact ⟨true,rfl,h.z⟩
         ·
          refine qeg [] [none,none,none,some (some 33,false),some (some 33,false),none,none,some (some 37,false),some (some 37,false),some (some 37,false),some (some 37,false),some (some 37,false),some (some 37,false),none,none,some (some 45,false),some (some 45,false),some (some 45,false),some (some 45,false),some (some 45,false),some (some 45,false),some (some 45,false),none] [0,3,5,6,53] [(1,0)] h fun ac wd h => ?_
          injection aw with aw; subst aw
          exact ⟨decide (ao.Start ≥ (ao.States.length : Int)),rfl,h.z⟩
      ·
       rintro ac wd ⟨ax,rfl,h⟩
       (try dsimp only at an)
       rcases i2b an with ⟨aC,an⟩ | ⟨aC,an⟩
       ·
        refine kT h ?_
        refine qs 331 [] [4] [] h fun ac wd h => ?_
        refine wp_ret ?_
        injection an with an
        subst an
        (try dsimp only at ak)
        injection ak with ak
        subst ak
        exact rE h [.tmp 4]
       ·
        refine kF h ?_
        refine wp_skip ?_
        change Code.wp Tryz.prog _ _ _ _
        refine qs 331 [] [0,3,5,6,7] [(1,0)] h fun ac wd h => ?_
        obtain ⟨aD,aE,an⟩ := Option.bind_eq_some_iff.1 an
        refine r_meetQ (fun ac wd => (.inl ()) = aD ∧ SL ⟨wb,S,Φ,P0⟩ 101 434 [(0,.one (.d (.sl (List.map eTNode a0)))),(3,.one (.ptr (1,0) 0)),(5,.one (.d (.int .i64 aj)))] [((1,0),some (.box 41 (cTGraph a1)))] ac wd) ?_ ?_
        ·
         refine wp_block ?_
         refine r_while (fun nf ac wd => ∃ (aF : Int),L_ref04_Right_l2 a1 aj ao nf aF = some aD ∧ SL ⟨wb,S,Φ,P0⟩ 101 431 [(0,.one (.d (.sl (List.map eTNode a0)))),(3,.one (.ptr (1,0) 0)),(5,.one (.d (.int .i64 aj))),(6,.one (.d (.int .i64 (ao.States.length : Int)))),(7,.one (.d (.int .i64 aF)))] [((1,0),some (.box 41 (cTGraph a1)))] ac wd) (((ao.States.length : Int) - 0).toNat + 1) ⟨0,aE,h.z⟩ (fun nf ac wd hJ => ?_)
         obtain ⟨aF,aG,h⟩ := hJ
         cases nf with
         | zero => rw [L_ref04_Right_l2] at aG; cases aG
         | succ nf =>
          rw [L_ref04_Right_l2] at aG
          refine wp_seq ?_
          refine qs 434 [] [0,3,5,6,7,56] [(1,0)] h fun ac wd h => ?_
          rcases i2 aG with ⟨aH,aG⟩ | ⟨aH,aG⟩
          ·
           refine kT h ?_
           refine wp_skip ?_
           change Code.wp Tryz.prog _ _ _ _
           refine wp_seq ?_
           refine wp_block ?_
           obtain ⟨aI,aJ,aK,aL,aM,aG⟩ := aB aG
           refine qs 444 [] [0,3,5,6,7,8] [(1,0),(442,0)] h fun ac wd h => ?_
           obtain ⟨aN,aO,aG⟩ := Option.bind_eq_some_iff.1 aG
           refine r_seqJ (fun ac wd => ∃ (aP : Bool),aP = aN ∧ SL ⟨wb,S,Φ,P0⟩ 101 478 [(0,.one (.d (.sl (List.map eTNode a0)))),(3,.one (.ptr (1,0) 0)),(5,.one (.d (.int .i64 aj))),(6,.one (.d (.int .i64 (ao.States.length : Int)))),(7,.one (.d (.int .i64 aF))),(100,.one (.d (.bool aP)))] [((1,0),some (.box 41 (cTGraph a1)))] ac wd) ?_ ?_
           ·
            rcases i2 aO with ⟨aQ,aO⟩ | ⟨aQ,aO⟩
            ·
             refine deg [] [none,none,none,none,some (some 70,false),some (some 70,false),some (some 70,false),none,none,some (some 75,false),some (some 75,false),some (some 75,false),some (some 75,false),some (some 75,false),none,none,some (some 82,false),some (some 82,false),some (some 82,false),some (some 82,false),some (some 82,false),some (some 82,false),none,none,some (some 90,false),some (some 90,false),some (some 90,false),some (some 90,false),some (some 90,false),some (some 90,false),some (some 90,false),some (some 90,false),some (some 90,false),none] [0,3,5,6,7,100] [(1,0)] h fun ac wd h => ?_
             injection aO with aO; subst aO
             exact ⟨true,rfl,h.z⟩
            ·
             rcases i2 aO with ⟨aR,aO⟩ | ⟨aR,aO⟩
             ·
              refine deg [] [none,none,none,none,some (some 70,false),some (some 70,false),some (some 70,false),none,none,some (some 75,false),some (some 75,false),some (some 75,false),some (some 75,false),some (some 75,false),none,none,some (some 82,false),some (some 82,false),some (some 82,false),some (some 82,false),some (some 82,false),some (some 82,false),none,none,some (some 90,false),some (some 90,false),some (some 90,false),some (some 90,false),some (some 90,false),some (some 90,false),some (some 90,false),some (some 90,false),some (some 90,false),none] [0,3,5,6,7,100] [(1,0)] h fun ac wd h => ?_
              injection aO with aO; subst aO
              exact ⟨true,rfl,h.z⟩
             ·
              obtain ⟨aS,aT,aO⟩ := oB aO
              rcases i2b aO with ⟨aU,aO⟩ | ⟨aU,aO⟩
              ·
               obtain ⟨aV,aW,aO⟩ := oB aO
               rcases i2b aO with ⟨aX,aO⟩ | ⟨aX,aO⟩
               ·
                obtain ⟨aY,aZ,aO⟩ := oB aO
                have ba := L_ref04_waits_ok aT
                have bb := L_ref04_picks_ok aW
                have bc := L_ref04_takes_ok aZ
                refine deg [factE 456 ba,factE 464 bb,factE 475 bc] [none,none,none,none,some (some 70,false),some (some 70,false),some (some 70,false),none,none,some (some 75,false),some (some 75,false),some (some 75,false),some (some 75,false),some (some 75,false),none,none,some (some 82,false),some (some 82,false),some (some 82,false),some (some 82,false),some (some 82,false),some (some 82,false),none,none,some (some 90,false),some (some 90,false),some (some 90,false),some (some 90,false),some (some 90,false),some (some 90,false),some (some 90,false),some (some 90,false),some (some 90,false),none] [0,3,5,6,7,100] [(1,0)] h fun ac wd h => ?_
                injection aO with aO; subst aO
                exact ⟨!(aY),rfl,h.z⟩
               ·
                have ba := L_ref04_waits_ok aT
                have bb := L_ref04_picks_ok aW
                refine deg [factE 456 ba,factE 464 bb] [none,none,none,none,some (some 70,false),some (some 70,false),some (some 70,false),none,none,some (some 75,false),some (some 75,false),some (some 75,false),some (some 75,false),some (some 75,false),none,none,some (some 82,false),some (some 82,false),some (some 82,false),some (some 82,false),some (some 82,false),some (some 82,false),none,none,some (some 90,false),some (some 90,false),some (some 90,false),some (some 90,false),some (some 90,false),some (some 90,false),some (some 90,false),some (some 90,false),some (some 90,false),none] [0,3,5,6,7,100] [(1,0)] h fun ac wd h => ?_
                injection aO with aO; subst aO
                exact ⟨true,rfl,h.z⟩
              ·
               have ba := L_ref04_waits_ok aT
               refine deg [factE 456 ba] [none,none,none,none,some (some 70,false),some (some 70,false),some (some 70,false),none,none,some (some 75,false),some (some 75,false),some (some 75,false),some (some 75,false),some (some 75,false),none,none,some (some 82,false),some (some 82,false),some (some 82,false),some (some 82,false),some (some 82,false),some (some 82,false),none,none,some (some 90,false),some (some 90,false),some (some 90,false),some (some 90,false),some (some 90,false),some (some 90,false),some (some 90,false),some (some 90,false),some (some 90,false),none] [0,3,5,6,7,100] [(1,0)] h fun ac wd h => ?_
               injection aO with aO; subst aO
               exact ⟨true,rfl,h.z⟩
           ·
            rintro ac wd ⟨aP,rfl,h⟩
            (try dsimp only at aG)
            rcases i2b aG with ⟨bd,aG⟩ | ⟨bd,aG⟩
            ·
             refine kT h ?_
             refine qs 479 [] [4] [] h fun ac wd h => ?_
             refine wp_ret ?_
             injection aG with aG
             subst aG
             (try dsimp only at an)
             injection an with an
             subst an
             (try dsimp only at ak)
             injection ak with ak
             subst ak
             exact rE h [.tmp 4]
            ·
             refine kF h ?_
             refine wp_skip ?_
             change Code.wp Tryz.prog _ _ _ _
             refine qe [] [0,3,5,6,7] [(1,0)] h fun ac wd h => ?_
             exact ⟨nf,Nat.lt_succ_self nf,(IntKind.wrap .i64 (aF + 1)),aG,h.z⟩
          ·
           refine kF h ?_
           refine wp_exit ?_
           injection aG with aG; subst aG
           exact ⟨rfl,h.z⟩
        ·
         rintro ac wd ⟨rfl,h⟩
         (try dsimp only at an)
         injection an with an; subst an
         exact ⟨rfl,h.z⟩
     ·
      rintro ac wd ⟨rfl,h⟩
      (try dsimp only at ak)
      refine qe [] [0,3,5] [(1,0)] h fun ac wd h => ?_
      exact ⟨nf,Nat.lt_succ_self nf,(IntKind.wrap .i64 (aj + 1)),ak,h.z⟩
    ·
     refine kF h ?_
     refine wp_exit ?_
     change Code.wp Tryz.prog _ _ _ _
     refine qs 301 [] [4] [] h fun ac wd h => ?_
     refine wp_ret ?_
     injection ak with ak
     subst ak
     exact rE h [.tmp 4]

theorem L_ref03_In_own {a0 : TGraph} {a1 : Int} {r : (List Int)} (hD : L_ref03_In a0 a1 = some r) :
  CallH Tryz.prog 33 [.agg (cTGraph a0),.one (.d (.int .i64 a1))] []
   (.one (.own (1,0) r.length)) [((1,0),some (.row 3 1 (dat (List.map eI r))))] := by
 unfold L_ref03_In at hD
 refine rc Tryz.func33 rfl Tryz.ntmps33 fun S Φ P0 wb ac h => ?_
 refine qs 3 [] [1,2] [(1,0)] h fun ac wd h => ?_
 refine qs 5 [] [1,2,5] [(1,0),(3,0)] h fun ac wd h => ?_
 refine wp_seq ?_
 refine qs 6 [] [1,2,5,6] [(1,0),(3,0)] h fun ac wd h => ?_
 refine wp_block ?_
 refine r_while (fun nf ac wd => ∃ (aa : Int) (ab : List Int),L_ref03_In_l1 a0 a1 nf aa ab = some r ∧ SL ⟨wb,S,Φ,P0⟩ 28 48 [(1,.one (.d (.int .i64 a1))),(2,.one (.ptr (1,0) 0)),(5,.one (.own (3,0) ab.length)),(6,.one (.d (.int .i64 aa)))] [((1,0),some (.box 41 (cTGraph a0))),((3,0),some (.row 3 1 (dat (List.map eI ab))))] ac wd) (((a0.Links.length : Int) - 0).toNat + 1) ⟨0,([] : List Int),hD,h.z⟩ (fun nf ac wd hJ => ?_)
 obtain ⟨aa,ab,ad,h⟩ := hJ
 cases nf with
 | zero => rw [L_ref03_In_l1] at ad; cases ad
 | succ nf =>
  rw [L_ref03_In_l1] at ad
  refine wp_seq ?_
  refine qs 53 [] [1,2,5,6,12] [(1,0),(3,0)] h fun ac wd h => ?_
  rcases i2 ad with ⟨ae,ad⟩ | ⟨ae,ad⟩
  ·
   refine kT h ?_
   refine wp_skip ?_
   change Code.wp Tryz.prog _ _ _ _
   obtain ⟨af,ag,ad⟩ := Option.bind_eq_some_iff.1 ad
   refine r_seqJ (fun ac wd => ∃ (ah : List Int),ah = af ∧ SL ⟨wb,S,Φ,P0⟩ 28 66 [(1,.one (.d (.int .i64 a1))),(2,.one (.ptr (1,0) 0)),(5,.one (.own (64,0) ah.length)),(6,.one (.d (.int .i64 aa)))] [((1,0),some (.box 41 (cTGraph a0))),((64,0),some (.row 3 1 (dat (List.map eI ah))))] ac wd) ?_ ?_
   ·
    refine wp_block ?_
    obtain ⟨ai,aj,ak,al,am,ag⟩ := aB ag
    refine qs 61 [] [1,2,5,6,22] [(1,0),(3,0)] h fun ac wd h => ?_
    rcases i2e ag with ⟨an,ag⟩ | ⟨an,ag⟩
    ·
     refine kT h ?_
     obtain ⟨ao,ag⟩ := iT ag
     refine qe [] [1,2,5,6] [(1,0),(64,0)] h fun ac wd h => ?_
     injection ag with ag; subst ag
     exact ⟨(ab ++ [aa]),rfl,h.z⟩
    ·
     refine kF h ?_
     refine wp_skip ?_
     have h := h.sw (64,0) (3,0) 66
     injection ag with ag; subst ag
     exact ⟨ab,rfl,h.z⟩
   ·
    rintro ac wd ⟨ah,rfl,h⟩
    (try dsimp only at ad)
    refine qe [] [1,2,5,6] [(1,0),(64,0)] h fun ac wd h => ?_
    have h := h.sw (3,0) (64,0) 69
    exact ⟨nf,Nat.lt_succ_self nf,(IntKind.wrap .i64 (aa + 1)),ah,ad,h.z⟩
  ·
   refine kF h ?_
   refine wp_exit ?_
   change Code.wp Tryz.prog _ _ _ _
   refine qs 55 [] [4] [(3,0)] h fun ac wd h => ?_
   refine wp_ret ?_
   have h := h.sw (1,0) (3,0) 55
   injection ad with ad
   subst ad
   exact rO h [.tmp 4] [(1,0)]
theorem L_ref03_In_ok {a0 : TGraph} {a1 : Int} {r : (List Int)} (hD : L_ref03_In a0 a1 = some r) :
  CallH Tryz.prog 33 [.agg (cTGraph a0),.one (.d (.int .i64 a1))] []
   (.one (.d (.sl (List.map eI r)))) [] :=
 (L_ref03_In_own hD).fr

theorem L_ref03_Out_own {a0 : TGraph} {a1 : Int} {r : (List Int)} (hD : L_ref03_Out a0 a1 = some r) :
  CallH Tryz.prog 34 [.agg (cTGraph a0),.one (.d (.int .i64 a1))] []
   (.one (.own (1,0) r.length)) [((1,0),some (.row 3 1 (dat (List.map eI r))))] := by
 unfold L_ref03_Out at hD
 refine rc Tryz.func34 rfl Tryz.ntmps34 fun S Φ P0 wb ac h => ?_
 refine qs 3 [] [1,2] [(1,0)] h fun ac wd h => ?_
 refine qs 5 [] [1,2,5] [(1,0),(3,0)] h fun ac wd h => ?_
 refine wp_seq ?_
 refine qs 6 [] [1,2,5,6] [(1,0),(3,0)] h fun ac wd h => ?_
 refine wp_block ?_
 refine r_while (fun nf ac wd => ∃ (aa : Int) (ab : List Int),L_ref03_Out_l1 a0 a1 nf aa ab = some r ∧ SL ⟨wb,S,Φ,P0⟩ 28 48 [(1,.one (.d (.int .i64 a1))),(2,.one (.ptr (1,0) 0)),(5,.one (.own (3,0) ab.length)),(6,.one (.d (.int .i64 aa)))] [((1,0),some (.box 41 (cTGraph a0))),((3,0),some (.row 3 1 (dat (List.map eI ab))))] ac wd) (((a0.Links.length : Int) - 0).toNat + 1) ⟨0,([] : List Int),hD,h.z⟩ (fun nf ac wd hJ => ?_)
 obtain ⟨aa,ab,ad,h⟩ := hJ
 cases nf with
 | zero => rw [L_ref03_Out_l1] at ad; cases ad
 | succ nf =>
  rw [L_ref03_Out_l1] at ad
  refine wp_seq ?_
  refine qs 53 [] [1,2,5,6,12] [(1,0),(3,0)] h fun ac wd h => ?_
  rcases i2 ad with ⟨ae,ad⟩ | ⟨ae,ad⟩
  ·
   refine kT h ?_
   refine wp_skip ?_
   change Code.wp Tryz.prog _ _ _ _
   obtain ⟨af,ag,ad⟩ := Option.bind_eq_some_iff.1 ad
   refine r_seqJ (fun ac wd => ∃ (ah : List Int),ah = af ∧ SL ⟨wb,S,Φ,P0⟩ 28 66 [(1,.one (.d (.int .i64 a1))),(2,.one (.ptr (1,0) 0)),(5,.one (.own (64,0) ah.length)),(6,.one (.d (.int .i64 aa)))] [((1,0),some (.box 41 (cTGraph a0))),((64,0),some (.row 3 1 (dat (List.map eI ah))))] ac wd) ?_ ?_
   ·
    refine wp_block ?_
    obtain ⟨ai,aj,ak,al,am,ag⟩ := aB ag
    refine qs 61 [] [1,2,5,6,22] [(1,0),(3,0)] h fun ac wd h => ?_
    rcases i2e ag with ⟨an,ag⟩ | ⟨an,ag⟩
    ·
     refine kT h ?_
     obtain ⟨ao,ag⟩ := iT ag
     refine qe [] [1,2,5,6] [(1,0),(64,0)] h fun ac wd h => ?_
     injection ag with ag; subst ag
     exact ⟨(ab ++ [aa]),rfl,h.z⟩
    ·
     refine kF h ?_
     refine wp_skip ?_
     have h := h.sw (64,0) (3,0) 66
     injection ag with ag; subst ag
     exact ⟨ab,rfl,h.z⟩
   ·
    rintro ac wd ⟨ah,rfl,h⟩
    (try dsimp only at ad)
    refine qe [] [1,2,5,6] [(1,0),(64,0)] h fun ac wd h => ?_
    have h := h.sw (3,0) (64,0) 69
    exact ⟨nf,Nat.lt_succ_self nf,(IntKind.wrap .i64 (aa + 1)),ah,ad,h.z⟩
  ·
   refine kF h ?_
   refine wp_exit ?_
   change Code.wp Tryz.prog _ _ _ _
   refine qs 55 [] [4] [(3,0)] h fun ac wd h => ?_
   refine wp_ret ?_
   have h := h.sw (1,0) (3,0) 55
   injection ad with ad
   subst ad
   exact rO h [.tmp 4] [(1,0)]
theorem L_ref03_Out_ok {a0 : TGraph} {a1 : Int} {r : (List Int)} (hD : L_ref03_Out a0 a1 = some r) :
  CallH Tryz.prog 34 [.agg (cTGraph a0),.one (.d (.int .i64 a1))] []
   (.one (.d (.sl (List.map eI r)))) [] :=
 (L_ref03_Out_own hD).fr

end Go.Proofs.YtabbejabdkkaiaaGreat
