/- Functions as typed ones,and that the program's functions answer as these do. No condition. -/
import Derived.Test.YtabbejabdkkaiaaGb1
import Derived.Test.YtabbejabdkkaiaaGd
set_option linter.unusedSimpArgs false
set_option linter.unusedVariables false
set_option maxRecDepth 20000
set_option maxHeartbeats 4000000
namespace Go.Proofs.Ytabbejabdkkaiaa
open Go.RowKit

theorem L_ref04_takes_ok {a0 : TState} {a1 : Int} {a2 : TNode} {a3 : TGraph} {r : Bool} (hD : L_ref04_takes a0 a1 a2 a3 = some r) :
  CallH Try.prog 53 [.agg (cTState a0),.one (.d (.int .i64 a1)),.agg (cTNode a2),.agg (cTGraph a3)] []
   (.one (.d (.bool r))) [] := by
 unfold L_ref04_takes at hD
 refine rc Try.func53 rfl Try.ntmps53 fun S Φ P0 wb ac h => ?_
 refine qs 5 [] [1,4,6,7] [(1,0),(2,0),(3,0)] h fun ac wd h => ?_
 refine wp_seq ?_
 refine qs 6 [] [1,4,6,7,9] [(1,0),(2,0),(3,0)] h fun ac wd h => ?_
 refine wp_block ?_
 refine r_while (fun nf ac wd => ∃ (aa : Int),L_ref04_takes_l1 a0 a1 a2 a3 nf aa = some r ∧ SL ⟨wb,S,Φ,P0⟩ 91 180 [(1,.one (.d (.int .i64 a1))),(4,.one (.ptr (1,0) 0)),(6,.one (.ptr (2,0) 0)),(7,.one (.ptr (3,0) 0)),(9,.one (.d (.int .i64 aa)))] [((1,0),some (.box 90 (cTState a0))),((2,0),some (.box 132 (cTNode a2))),((3,0),some (.box 32 (cTGraph a3)))] ac wd) (((a0.Takes.length : Int) - 0).toNat + 1) ⟨0,hD,h.z⟩ (fun nf ac wd hJ => ?_)
 obtain ⟨aa,ab,h⟩ := hJ
 cases nf with
 | zero => rw [L_ref04_takes_l1] at ab; cases ab
 | succ nf =>
  rw [L_ref04_takes_l1] at ab
  refine wp_seq ?_
  refine qs 185 [] [1,4,6,7,9,16] [(1,0),(2,0),(3,0)] h fun ac wd h => ?_
  rcases i2 ab with ⟨ad,ab⟩ | ⟨ad,ab⟩
  ·
   refine kT h ?_
   refine wp_skip ?_
   change Code.wp Try.prog _ _ _ _
   obtain ⟨ae,af,ab⟩ := Option.bind_eq_some_iff.1 ab
   refine r_seqJ (fun ac wd => (.inl ()) = ae ∧ SL ⟨wb,S,Φ,P0⟩ 91 290 [(1,.one (.d (.int .i64 a1))),(4,.one (.ptr (1,0) 0)),(6,.one (.ptr (2,0) 0)),(7,.one (.ptr (3,0) 0)),(9,.one (.d (.int .i64 aa)))] [((1,0),some (.box 90 (cTState a0))),((2,0),some (.box 132 (cTNode a2))),((3,0),some (.box 32 (cTGraph a3)))] ac wd) ?_ ?_
   ·
    refine wp_block ?_
    obtain ⟨ag,ah,ai,aj,ak,af⟩ := aB af
    refine qs 192 [] [1,4,6,7,9,10] [(1,0),(2,0),(3,0),(190,0)] h fun ac wd h => ?_
    refine wp_seq ?_
    obtain ⟨al,am,af⟩ := Option.bind_eq_some_iff.1 af
    refine r_seqJ (fun ac wd => ∃ (an : Bool),an = al ∧ SL ⟨wb,S,Φ,P0⟩ 91 234 [(1,.one (.d (.int .i64 a1))),(4,.one (.ptr (1,0) 0)),(6,.one (.ptr (2,0) 0)),(7,.one (.ptr (3,0) 0)),(9,.one (.d (.int .i64 aa))),(10,.one (.ptr (190,0) 0)),(65,.one (.d (.bool an)))] [((1,0),some (.box 90 (cTState a0))),((2,0),some (.box 132 (cTNode a2))),((3,0),some (.box 32 (cTGraph a3))),((190,0),some (.box 191 (cTTake ag)))] ac wd) ?_ ?_
    ·
     obtain ⟨ao,ap,am⟩ := oB am
     rcases i2 am with ⟨aq,am⟩ | ⟨aq,am⟩
     ·
      have ar := L_ref03_Find_ok ap
      refine deg [factE 196 ar] [none,none,none,none,none,none,none,some (some 30,false),some (some 30,false),some (some 30,false),none,none,some (some 35,false),some (some 35,false),some (some 35,false),none,none,some (some 40,false),some (some 40,false),some (some 40,false),none,none,some (some 45,false),some (some 45,false),some (some 45,false),some (some 45,false),some (some 45,false),some (some 45,false),none,none,some (some 53,false),some (some 53,false),some (some 53,false),some (some 53,false),some (some 53,false),some (some 53,false),some (some 53,false),some (some 53,false),some (some 53,false),some (some 53,false),some (some 53,false),none] [1,4,6,7,9,10,65] [(1,0),(2,0),(3,0),(190,0)] h fun ac wd h => ?_
      injection am with am; subst am
      exact ⟨true,rfl,h.z⟩
     ·
      rcases i2 am with ⟨au,am⟩ | ⟨au,am⟩
      ·
       have ar := L_ref03_Find_ok ap
       refine deg [factE 196 ar] [none,none,none,none,none,none,none,some (some 30,false),some (some 30,false),some (some 30,false),none,none,some (some 35,false),some (some 35,false),some (some 35,false),none,none,some (some 40,false),some (some 40,false),some (some 40,false),none,none,some (some 45,false),some (some 45,false),some (some 45,false),some (some 45,false),some (some 45,false),some (some 45,false),none,none,some (some 53,false),some (some 53,false),some (some 53,false),some (some 53,false),some (some 53,false),some (some 53,false),some (some 53,false),some (some 53,false),some (some 53,false),some (some 53,false),some (some 53,false),none] [1,4,6,7,9,10,65] [(1,0),(2,0),(3,0),(190,0)] h fun ac wd h => ?_
       injection am with am; subst am
       exact ⟨true,rfl,h.z⟩
      ·
       rcases i2 am with ⟨av,am⟩ | ⟨av,am⟩
       ·
        have ar := L_ref03_Find_ok ap
        refine deg [factE 196 ar] [none,none,none,none,none,none,none,some (some 30,false),some (some 30,false),some (some 30,false),none,none,some (some 35,false),some (some 35,false),some (some 35,false),none,none,some (some 40,false),some (some 40,false),some (some 40,false),none,none,some (some 45,false),some (some 45,false),some (some 45,false),some (some 45,false),some (some 45,false),some (some 45,false),none,none,some (some 53,false),some (some 53,false),some (some 53,false),some (some 53,false),some (some 53,false),some (some 53,false),some (some 53,false),some (some 53,false),some (some 53,false),some (some 53,false),some (some 53,false),none] [1,4,6,7,9,10,65] [(1,0),(2,0),(3,0),(190,0)] h fun ac wd h => ?_
        injection am with am; subst am
        exact ⟨true,rfl,h.z⟩
       ·
        rcases i2 am with ⟨aw,am⟩ | ⟨aw,am⟩
        ·
         have ar := L_ref03_Find_ok ap
         refine deg [factE 196 ar] [none,none,none,none,none,none,none,some (some 30,false),some (some 30,false),some (some 30,false),none,none,some (some 35,false),some (some 35,false),some (some 35,false),none,none,some (some 40,false),some (some 40,false),some (some 40,false),none,none,some (some 45,false),some (some 45,false),some (some 45,false),some (some 45,false),some (some 45,false),some (some 45,false),none,none,some (some 53,false),some (some 53,false),some (some 53,false),some (some 53,false),some (some 53,false),some (some 53,false),some (some 53,false),some (some 53,false),some (some 53,false),some (some 53,false),some (some 53,false),none] [1,4,6,7,9,10,65] [(1,0),(2,0),(3,0),(190,0)] h fun ac wd h => ?_
         injection am with am; subst am
         exact ⟨true,rfl,h.z⟩
        ·
         rcases i2 am with ⟨ax,am⟩ | ⟨ax,am⟩
         ·
          have ar := L_ref03_Find_ok ap
          refine deg [factE 196 ar] [none,none,none,none,none,none,none,some (some 30,false),some (some 30,false),some (some 30,false),none,none,some (some 35,false),some (some 35,false),some (some 35,false),none,none,some (some 40,false),some (some 40,false),some (some 40,false),none,none,some (some 45,false),some (some 45,false),some (some 45,false),some (some 45,false),some (some 45,false),some (some 45,false),none,none,some (some 53,false),some (some 53,false),some (some 53,false),some (some 53,false),some (some 53,false),some (some 53,false),some (some 53,false),some (some 53,false),some (some 53,false),some (some 53,false),some (some 53,false),none] [1,4,6,7,9,10,65] [(1,0),(2,0),(3,0),(190,0)] h fun ac wd h => ?_
          injection am with am; subst am
          exact ⟨true,rfl,h.z⟩
         ·
          obtain ⟨ay,az,aA,aC,aD,am⟩ := aB am
          obtain ⟨aE,aF,am⟩ := oB am
          have ar := L_ref03_Find_ok ap
          have aG := L_ref04_kept_ok aF
          refine deg [factE 196 ar,factE 231 aG] [none,none,none,none,none,none,none,some (some 30,false),some (some 30,false),some (some 30,false),none,none,some (some 35,false),some (some 35,false),some (some 35,false),none,none,some (some 40,false),some (some 40,false),some (some 40,false),none,none,some (some 45,false),some (some 45,false),some (some 45,false),some (some 45,false),some (some 45,false),some (some 45,false),none,none,some (some 53,false),some (some 53,false),some (some 53,false),some (some 53,false),some (some 53,false),some (some 53,false),some (some 53,false),some (some 53,false),some (some 53,false),some (some 53,false),some (some 53,false),none] [1,4,6,7,9,10,65] [(1,0),(2,0),(3,0),(190,0)] h fun ac wd h => ?_
          injection am with am; subst am
          exact ⟨!(aE),rfl,h.z⟩
    ·
     rintro ac wd ⟨an,rfl,h⟩
     (try dsimp only at af)
     rcases i2b af with ⟨aH,af⟩ | ⟨aH,af⟩
     ·
      refine kT h ?_
      refine qs 235 [] [8] [] h fun ac wd h => ?_
      refine wp_ret ?_
      injection af with af
      subst af
      (try dsimp only at ab)
      injection ab with ab
      subst ab
      exact rE h [.tmp 8]
     ·
      refine kF h ?_
      refine wp_skip ?_
      change Code.wp Try.prog _ _ _ _
      refine qs 235 [] [1,4,6,7,9,10,11] [(1,0),(2,0),(3,0),(190,0)] h fun ac wd h => ?_
      obtain ⟨aI,aJ,af⟩ := Option.bind_eq_some_iff.1 af
      refine r_meetQ (fun ac wd => (.inl ()) = aI ∧ SL ⟨wb,S,Φ,P0⟩ 91 290 [(1,.one (.d (.int .i64 a1))),(4,.one (.ptr (1,0) 0)),(6,.one (.ptr (2,0) 0)),(7,.one (.ptr (3,0) 0)),(9,.one (.d (.int .i64 aa)))] [((1,0),some (.box 90 (cTState a0))),((2,0),some (.box 132 (cTNode a2))),((3,0),some (.box 32 (cTGraph a3)))] ac wd) ?_ ?_
      ·
       refine wp_block ?_
       refine r_while (fun nf ac wd => ∃ (aK : Int),L_ref04_takes_l2 a0 aa ag nf aK = some aI ∧ SL ⟨wb,S,Φ,P0⟩ 91 287 [(1,.one (.d (.int .i64 a1))),(4,.one (.ptr (1,0) 0)),(6,.one (.ptr (2,0) 0)),(7,.one (.ptr (3,0) 0)),(9,.one (.d (.int .i64 aa))),(10,.one (.ptr (190,0) 0)),(11,.one (.d (.int .i64 aK)))] [((1,0),some (.box 90 (cTState a0))),((2,0),some (.box 132 (cTNode a2))),((3,0),some (.box 32 (cTGraph a3))),((190,0),some (.box 191 (cTTake ag)))] ac wd) ((aa - 0).toNat + 1) ⟨0,aJ,h.z⟩ (fun nf ac wd hJ => ?_)
       obtain ⟨aK,aL,h⟩ := hJ
       cases nf with
       | zero => rw [L_ref04_takes_l2] at aL; cases aL
       | succ nf =>
        rw [L_ref04_takes_l2] at aL
        refine wp_seq ?_
        refine qs 290 [] [1,4,6,7,9,10,11,68] [(1,0),(2,0),(3,0),(190,0)] h fun ac wd h => ?_
        rcases i2 aL with ⟨aM,aL⟩ | ⟨aM,aL⟩
        ·
         refine kT h ?_
         refine wp_skip ?_
         change Code.wp Try.prog _ _ _ _
         refine wp_seq ?_
         refine wp_block ?_
         obtain ⟨aN,aO,aL⟩ := Option.bind_eq_some_iff.1 aL
         refine r_seqJ (fun ac wd => ∃ (aP : Bool),aP = aN ∧ SL ⟨wb,S,Φ,P0⟩ 91 310 [(1,.one (.d (.int .i64 a1))),(4,.one (.ptr (1,0) 0)),(6,.one (.ptr (2,0) 0)),(7,.one (.ptr (3,0) 0)),(9,.one (.d (.int .i64 aa))),(10,.one (.ptr (190,0) 0)),(11,.one (.d (.int .i64 aK))),(90,.one (.d (.bool aP)))] [((1,0),some (.box 90 (cTState a0))),((2,0),some (.box 132 (cTNode a2))),((3,0),some (.box 32 (cTGraph a3))),((190,0),some (.box 191 (cTTake ag)))] ac wd) ?_ ?_
         ·
          obtain ⟨aQ,aR,aS,aT,aU,aO⟩ := aB aO
          rcases i2e aO with ⟨aV,aO⟩ | ⟨aV,aO⟩
          ·
           refine deg [] [none,none,none,none,none,none,none,none,none,none,some (some 80,true),some (some 80,true),some (some 80,true),some (some 80,true),some (some 80,true),some (some 80,true),some (some 80,true),some (some 80,true),some (some 80,true),none] [1,4,6,7,9,10,11,90] [(1,0),(2,0),(3,0),(190,0)] h fun ac wd h => ?_
           injection aO with aO; subst aO
           exact ⟨decide (aQ.Letter = ag.Letter),rfl,h.z⟩
          ·
           refine deg [] [none,none,none,none,none,none,none,none,none,none,some (some 80,true),some (some 80,true),some (some 80,true),some (some 80,true),some (some 80,true),some (some 80,true),some (some 80,true),some (some 80,true),some (some 80,true),none] [1,4,6,7,9,10,11,90] [(1,0),(2,0),(3,0),(190,0)] h fun ac wd h => ?_
           injection aO with aO; subst aO
           exact ⟨false,rfl,h.z⟩
         ·
          rintro ac wd ⟨aP,rfl,h⟩
          (try dsimp only at aL)
          rcases i2b aL with ⟨aW,aL⟩ | ⟨aW,aL⟩
          ·
           refine kT h ?_
           refine qs 311 [] [8] [] h fun ac wd h => ?_
           refine wp_ret ?_
           injection aL with aL
           subst aL
           (try dsimp only at af)
           injection af with af
           subst af
           (try dsimp only at ab)
           injection ab with ab
           subst ab
           exact rE h [.tmp 8]
          ·
           refine kF h ?_
           refine wp_skip ?_
           change Code.wp Try.prog _ _ _ _
           refine qe [] [1,4,6,7,9,10,11] [(1,0),(2,0),(3,0),(190,0)] h fun ac wd h => ?_
           exact ⟨nf,Nat.lt_succ_self nf,(IntKind.wrap .i64 (aK + 1)),aL,h.z⟩
        ·
         refine kF h ?_
         refine wp_exit ?_
         injection aL with aL; subst aL
         exact ⟨rfl,h.z⟩
      ·
       rintro ac wd ⟨rfl,h⟩
       (try dsimp only at af)
       injection af with af; subst af
       exact ⟨rfl,h.z⟩
   ·
    rintro ac wd ⟨rfl,h⟩
    (try dsimp only at ab)
    refine qe [] [1,4,6,7,9] [(1,0),(2,0),(3,0)] h fun ac wd h => ?_
    exact ⟨nf,Nat.lt_succ_self nf,(IntKind.wrap .i64 (aa + 1)),ab,h.z⟩
  ·
   refine kF h ?_
   refine wp_exit ?_
   change Code.wp Try.prog _ _ _ _
   refine qs 186 [] [8] [] h fun ac wd h => ?_
   refine wp_ret ?_
   injection ab with ab
   subst ab
   exact rE h [.tmp 8]

theorem L_ref04_Right_ok {a0 : (List TNode)} {a1 : TGraph} {r : Bool} (hD : L_ref04_Right a0 a1 = some r) :
  CallH Try.prog 14 [.one (.d (.sl (List.map eTNode a0))),.agg (cTGraph a1)] []
   (.one (.d (.bool r))) [] := by
 unfold L_ref04_Right at hD
 refine rc Try.func14 rfl Try.ntmps14 fun S Φ P0 wb ac h => ?_
 refine qs 3 [] [0,3] [(1,0)] h fun ac wd h => ?_
 refine wp_seq ?_
 obtain ⟨aa,ab,hD⟩ := Option.bind_eq_some_iff.1 hD
 refine r_seqJ (fun ac wd => ∃ (ad : Bool),ad = aa ∧ SL ⟨wb,S,Φ,P0⟩ 101 13 [(0,.one (.d (.sl (List.map eTNode a0)))),(3,.one (.ptr (1,0) 0)),(18,.one (.d (.bool ad)))] [((1,0),some (.box 32 (cTGraph a1)))] ac wd) ?_ ?_
 ·
  obtain ⟨ae,af,ab⟩ := oB ab
  rcases i2b ab with ⟨ag,ab⟩ | ⟨ag,ab⟩
  ·
   have ah := L_ref03_Right_ok af
   refine qeg [factE 4 ah] [none,none,none,none,some (some 12,false),some (some 12,false),some (some 12,false),some (some 12,false),some (some 12,false),none] [0,3,18] [(1,0)] h fun ac wd h => ?_
   injection ab with ab; subst ab
   exact ⟨!(decide ((a0.length : Int) = a1.N)),rfl,h.z⟩
  ·
   have ah := L_ref03_Right_ok af
   refine qeg [factE 4 ah] [none,none,none,none,some (some 12,false),some (some 12,false),some (some 12,false),some (some 12,false),some (some 12,false),none] [0,3,18] [(1,0)] h fun ac wd h => ?_
   injection ab with ab; subst ab
   exact ⟨true,rfl,h.z⟩
 ·
  rintro ac wd ⟨ad,rfl,h⟩
  (try dsimp only at hD)
  rcases i2b hD with ⟨ai,hD⟩ | ⟨ai,hD⟩
  ·
   refine kT h ?_
   refine qs 14 [] [4] [] h fun ac wd h => ?_
   refine wp_ret ?_
   injection hD with hD
   subst hD
   exact rE h [.tmp 4]
  ·
   refine kF h ?_
   refine wp_skip ?_
   change Code.wp Try.prog _ _ _ _
   refine wp_seq ?_
   refine qs 14 [] [0,3,5] [(1,0)] h fun ac wd h => ?_
   refine wp_block ?_
   refine r_while (fun nf ac wd => ∃ (aj : Int),L_ref04_Right_l1 a0 a1 nf aj = some r ∧ SL ⟨wb,S,Φ,P0⟩ 101 296 [(0,.one (.d (.sl (List.map eTNode a0)))),(3,.one (.ptr (1,0) 0)),(5,.one (.d (.int .i64 aj)))] [((1,0),some (.box 32 (cTGraph a1)))] ac wd) (((a0.length : Int) - 0).toNat + 1) ⟨0,hD,h.z⟩ (fun nf ac wd hJ => ?_)
   obtain ⟨aj,ak,h⟩ := hJ
   cases nf with
   | zero => rw [L_ref04_Right_l1] at ak; cases ak
   | succ nf =>
    rw [L_ref04_Right_l1] at ak
    refine wp_seq ?_
    refine qs 300 [] [0,3,5,22] [(1,0)] h fun ac wd h => ?_
    rcases i2 ak with ⟨al,ak⟩ | ⟨al,ak⟩
    ·
     refine kT h ?_
     refine wp_skip ?_
     change Code.wp Try.prog _ _ _ _
     obtain ⟨am,an,ak⟩ := Option.bind_eq_some_iff.1 ak
     refine r_seqJ (fun ac wd => (.inl ()) = am ∧ SL ⟨wb,S,Φ,P0⟩ 101 434 [(0,.one (.d (.sl (List.map eTNode a0)))),(3,.one (.ptr (1,0) 0)),(5,.one (.d (.int .i64 aj)))] [((1,0),some (.box 32 (cTGraph a1)))] ac wd) ?_ ?_
     ·
      refine wp_block ?_
      obtain ⟨ao,ap,aq,ar,au,an⟩ := aB an
      refine qs 307 [] [0,3,5,6] [(1,0)] h fun ac wd h => ?_
      refine wp_seq ?_
      obtain ⟨av,aw,an⟩ := Option.bind_eq_some_iff.1 an
      refine r_seqJ (fun ac wd => ∃ (ax : Bool),ax = av ∧ SL ⟨wb,S,Φ,P0⟩ 101 330 [(0,.one (.d (.sl (List.map eTNode a0)))),(3,.one (.ptr (1,0) 0)),(5,.one (.d (.int .i64 aj))),(6,.one (.d (.int .i64 (ao.States.length : Int)))),(53,.one (.d (.bool ax)))] [((1,0),some (.box 32 (cTGraph a1)))] ac wd) ?_ ?_
      ·
       rcases i2 aw with ⟨ay,aw⟩ | ⟨ay,aw⟩
       ·
        refine qeg [] [none,none,none,some (some 33,false),some (some 33,false),none,none,some (some 37,false),some (some 37,false),some (some 37,false),some (some 37,false),some (some 37,false),some (some 37,false),none,none,some (some 45,false),some (some 45,false),some (some 45,false),some (some 45,false),some (some 45,false),some (some 45,false),some (some 45,false),none] [0,3,5,6,53] [(1,0)] h fun ac wd h => ?_
        injection aw with aw; subst aw
        exact ⟨true,rfl,h.z⟩
       ·
        rcases i2 aw with ⟨az,aw⟩ | ⟨az,aw⟩
        ·
         refine qeg [] [none,none,none,some (some 33,false),some (some 33,false),none,none,some (some 37,false),some (some 37,false),some (some 37,false),some (some 37,false),some (some 37,false),some (some 37,false),none,none,some (some 45,false),some (some 45,false),some (some 45,false),some (some 45,false),some (some 45,false),some (some 45,false),some (some 45,false),none] [0,3,5,6,53] [(1,0)] h fun ac wd h => ?_
         injection aw with aw; subst aw
         exact ⟨true,rfl,h.z⟩
        ·
         rcases i2 aw with ⟨aA,aw⟩ | ⟨aA,aw⟩
         ·
          refine qeg [] [none,none,none,some (some 33,false),some (some 33,false),none,none,some (some 37,false),some (some 37,false),some (some 37,false),some (some 37,false),some (some 37,false),some (some 37,false),none,none,some (some 45,false),some (some 45,false),some (some 45,false),some (some 45,false),some (some 45,false),some (some 45,false),some (some 45,false),none] [0,3,5,6,53] [(1,0)] h fun ac wd h => ?_
          injection aw with aw; subst aw
          exact ⟨true,rfl,h.z⟩
         ·
          refine qeg [] [none,none,none,some (some 33,false),some (some 33,false),none,none,some (some 37,false),some (some 37,false),some (some 37,false),some (some 37,false),some (some 37,false),some (some 37,false),none,none,some (some 45,false),some (some 45,false),some (some 45,false),some (some 45,false),some (some 45,false),some (some 45,false),some (some 45,false),none] [0,3,5,6,53] [(1,0)] h fun ac wd h => ?_
          injection aw with aw; subst aw
          exact ⟨decide (ao.Start ≥ (ao.States.length : Int)),rfl,h.z⟩
      ·
       rintro ac wd ⟨ax,rfl,h⟩
       (try dsimp only at an)
       rcases i2b an with ⟨aC,an⟩ | ⟨aC,an⟩
       ·
        refine kT h ?_
        refine qs 331 [] [4] [] h fun ac wd h => ?_
        refine wp_ret ?_
        injection an with an
        subst an
        (try dsimp only at ak)
        injection ak with ak
        subst ak
        exact rE h [.tmp 4]
       ·
        refine kF h ?_
        refine wp_skip ?_
        change Code.wp Try.prog _ _ _ _
        refine qs 331 [] [0,3,5,6,7] [(1,0)] h fun ac wd h => ?_
        obtain ⟨aD,aE,an⟩ := Option.bind_eq_some_iff.1 an
        refine r_meetQ (fun ac wd => (.inl ()) = aD ∧ SL ⟨wb,S,Φ,P0⟩ 101 434 [(0,.one (.d (.sl (List.map eTNode a0)))),(3,.one (.ptr (1,0) 0)),(5,.one (.d (.int .i64 aj)))] [((1,0),some (.box 32 (cTGraph a1)))] ac wd) ?_ ?_
        ·
         refine wp_block ?_
         refine r_while (fun nf ac wd => ∃ (aF : Int),L_ref04_Right_l2 a1 aj ao nf aF = some aD ∧ SL ⟨wb,S,Φ,P0⟩ 101 431 [(0,.one (.d (.sl (List.map eTNode a0)))),(3,.one (.ptr (1,0) 0)),(5,.one (.d (.int .i64 aj))),(6,.one (.d (.int .i64 (ao.States.length : Int)))),(7,.one (.d (.int .i64 aF)))] [((1,0),some (.box 32 (cTGraph a1)))] ac wd) (((ao.States.length : Int) - 0).toNat + 1) ⟨0,aE,h.z⟩ (fun nf ac wd hJ => ?_)
         obtain ⟨aF,aG,h⟩ := hJ
         cases nf with
         | zero => rw [L_ref04_Right_l2] at aG; cases aG
         | succ nf =>
          rw [L_ref04_Right_l2] at aG
          refine wp_seq ?_
          refine qs 434 [] [0,3,5,6,7,56] [(1,0)] h fun ac wd h => ?_
          rcases i2 aG with ⟨aH,aG⟩ | ⟨aH,aG⟩
          ·
           refine kT h ?_
           refine wp_skip ?_
           change Code.wp Try.prog _ _ _ _
           refine wp_seq ?_
           refine wp_block ?_
           obtain ⟨aI,aJ,aK,aL,aM,aG⟩ := aB aG
           refine qs 444 [] [0,3,5,6,7,8] [(1,0),(442,0)] h fun ac wd h => ?_
           obtain ⟨aN,aO,aG⟩ := Option.bind_eq_some_iff.1 aG
           refine r_seqJ (fun ac wd => ∃ (aP : Bool),aP = aN ∧ SL ⟨wb,S,Φ,P0⟩ 101 478 [(0,.one (.d (.sl (List.map eTNode a0)))),(3,.one (.ptr (1,0) 0)),(5,.one (.d (.int .i64 aj))),(6,.one (.d (.int .i64 (ao.States.length : Int)))),(7,.one (.d (.int .i64 aF))),(100,.one (.d (.bool aP)))] [((1,0),some (.box 32 (cTGraph a1)))] ac wd) ?_ ?_
           ·
            rcases i2 aO with ⟨aQ,aO⟩ | ⟨aQ,aO⟩
            ·
             refine deg [] [none,none,none,none,some (some 70,false),some (some 70,false),some (some 70,false),none,none,some (some 75,false),some (some 75,false),some (some 75,false),some (some 75,false),some (some 75,false),none,none,some (some 82,false),some (some 82,false),some (some 82,false),some (some 82,false),some (some 82,false),some (some 82,false),none,none,some (some 90,false),some (some 90,false),some (some 90,false),some (some 90,false),some (some 90,false),some (some 90,false),some (some 90,false),some (some 90,false),some (some 90,false),none] [0,3,5,6,7,100] [(1,0)] h fun ac wd h => ?_
             injection aO with aO; subst aO
             exact ⟨true,rfl,h.z⟩
            ·
             rcases i2 aO with ⟨aR,aO⟩ | ⟨aR,aO⟩
             ·
              refine deg [] [none,none,none,none,some (some 70,false),some (some 70,false),some (some 70,false),none,none,some (some 75,false),some (some 75,false),some (some 75,false),some (some 75,false),some (some 75,false),none,none,some (some 82,false),some (some 82,false),some (some 82,false),some (some 82,false),some (some 82,false),some (some 82,false),none,none,some (some 90,false),some (some 90,false),some (some 90,false),some (some 90,false),some (some 90,false),some (some 90,false),some (some 90,false),some (some 90,false),some (some 90,false),none] [0,3,5,6,7,100] [(1,0)] h fun ac wd h => ?_
              injection aO with aO; subst aO
              exact ⟨true,rfl,h.z⟩
             ·
              obtain ⟨aS,aT,aO⟩ := oB aO
              rcases i2b aO with ⟨aU,aO⟩ | ⟨aU,aO⟩
              ·
               obtain ⟨aV,aW,aO⟩ := oB aO
               rcases i2b aO with ⟨aX,aO⟩ | ⟨aX,aO⟩
               ·
                obtain ⟨aY,aZ,aO⟩ := oB aO
                have ba := L_ref04_waits_ok aT
                have bb := L_ref04_picks_ok aW
                have bc := L_ref04_takes_ok aZ
                refine deg [factE 456 ba,factE 464 bb,factE 475 bc] [none,none,none,none,some (some 70,false),some (some 70,false),some (some 70,false),none,none,some (some 75,false),some (some 75,false),some (some 75,false),some (some 75,false),some (some 75,false),none,none,some (some 82,false),some (some 82,false),some (some 82,false),some (some 82,false),some (some 82,false),some (some 82,false),none,none,some (some 90,false),some (some 90,false),some (some 90,false),some (some 90,false),some (some 90,false),some (some 90,false),some (some 90,false),some (some 90,false),some (some 90,false),none] [0,3,5,6,7,100] [(1,0)] h fun ac wd h => ?_
                injection aO with aO; subst aO
                exact ⟨!(aY),rfl,h.z⟩
               ·
                have ba := L_ref04_waits_ok aT
                have bb := L_ref04_picks_ok aW
                refine deg [factE 456 ba,factE 464 bb] [none,none,none,none,some (some 70,false),some (some 70,false),some (some 70,false),none,none,some (some 75,false),some (some 75,false),some (some 75,false),some (some 75,false),some (some 75,false),none,none,some (some 82,false),some (some 82,false),some (some 82,false),some (some 82,false),some (some 82,false),some (some 82,false),none,none,some (some 90,false),some (some 90,false),some (some 90,false),some (some 90,false),some (some 90,false),some (some 90,false),some (some 90,false),some (some 90,false),some (some 90,false),none] [0,3,5,6,7,100] [(1,0)] h fun ac wd h => ?_
                injection aO with aO; subst aO
                exact ⟨true,rfl,h.z⟩
              ·
               have ba := L_ref04_waits_ok aT
               refine deg [factE 456 ba] [none,none,none,none,some (some 70,false),some (some 70,false),some (some 70,false),none,none,some (some 75,false),some (some 75,false),some (some 75,false),some (some 75,false),some (some 75,false),none,none,some (some 82,false),some (some 82,false),some (some 82,false),some (some 82,false),some (some 82,false),some (some 82,false),none,none,some (some 90,false),some (some 90,false),some (some 90,false),some (some 90,false),some (some 90,false),some (some 90,false),some (some 90,false),some (some 90,false),some (some 90,false),none] [0,3,5,6,7,100] [(1,0)] h fun ac wd h => ?_
               injection aO with aO; subst aO
               exact ⟨true,rfl,h.z⟩
           ·
            rintro ac wd ⟨aP,rfl,h⟩
            (try dsimp only at aG)
            rcases i2b aG with ⟨bd,aG⟩ | ⟨bd,aG⟩
            ·
             refine kT h ?_
             refine qs 479 [] [4] [] h fun ac wd h => ?_
             refine wp_ret ?_
             injection aG with aG
             subst aG
             (try dsimp only at an)
             injection an with an
             subst an
             (try dsimp only at ak)
             injection ak with ak
             subst ak
             exact rE h [.tmp 4]
            ·
             refine kF h ?_
             refine wp_skip ?_
             change Code.wp Try.prog _ _ _ _
             refine qe [] [0,3,5,6,7] [(1,0)] h fun ac wd h => ?_
             exact ⟨nf,Nat.lt_succ_self nf,(IntKind.wrap .i64 (aF + 1)),aG,h.z⟩
          ·
           refine kF h ?_
           refine wp_exit ?_
           injection aG with aG; subst aG
           exact ⟨rfl,h.z⟩
        ·
         rintro ac wd ⟨rfl,h⟩
         (try dsimp only at an)
         injection an with an; subst an
         exact ⟨rfl,h.z⟩
     ·
      rintro ac wd ⟨rfl,h⟩
      (try dsimp only at ak)
      refine qe [] [0,3,5] [(1,0)] h fun ac wd h => ?_
      exact ⟨nf,Nat.lt_succ_self nf,(IntKind.wrap .i64 (aj + 1)),ak,h.z⟩
    ·
     refine kF h ?_
     refine wp_exit ?_
     change Code.wp Try.prog _ _ _ _
     refine qs 301 [] [4] [] h fun ac wd h => ?_
     refine wp_ret ?_
     injection ak with ak
     subst ak
     exact rE h [.tmp 4]

theorem L_ref05_Right_ok {a0 : TApp} {a1 : TConf} {r : Bool} (hD : L_ref05_Right a0 a1 = some r) :
  CallH Try.prog 35 [.agg (cTApp a0),.agg (cTConf a1)] []
   (.one (.d (.bool r))) [] := by
 unfold L_ref05_Right at hD
 refine rc Try.func35 rfl Try.ntmps35 fun S Φ P0 wb ac h => ?_
 refine qs 4 [] [2,3] [(1,0),(2,0)] h fun ac wd h => ?_
 refine wp_seq ?_
 obtain ⟨aa,ab,hD⟩ := Option.bind_eq_some_iff.1 hD
 refine r_seqJ (fun ac wd => ∃ (ad : Bool),ad = aa ∧ SL ⟨wb,S,Φ,P0⟩ 138 39 [(2,.one (.ptr (1,0) 0)),(3,.one (.ptr (2,0) 0)),(44,.one (.d (.bool ad)))] [((1,0),some (.box 69 (cTApp a0))),((2,0),some (.box 101 (cTConf a1)))] ac wd) ?_ ?_
 ·
  obtain ⟨ae,af,ab⟩ := oB ab
  rcases i2b ab with ⟨ag,ab⟩ | ⟨ag,ab⟩
  ·
   rcases i2e ab with ⟨ah,ab⟩ | ⟨ah,ab⟩
   ·
    rcases i2e ab with ⟨ai,ab⟩ | ⟨ai,ab⟩
    ·
     have aj := L_ref04_Right_ok af
     refine qeg [factE 8 aj] [none,none,none,none,none,none,none,some (some 16,false),some (some 16,false),some (some 16,false),some (some 16,false),some (some 16,false),some (some 16,false),some (some 16,false),none,none,some (some 25,false),some (some 25,false),some (some 25,false),some (some 25,false),some (some 25,false),some (some 25,false),some (some 25,false),some (some 25,false),none,none,some (some 35,false),some (some 35,false),some (some 35,false),some (some 35,false),some (some 35,false),some (some 35,false),some (some 35,false),some (some 35,false),none] [2,3,44] [(1,0),(2,0)] h fun ac wd h => ?_
     injection ab with ab; subst ab
     exact ⟨!(decide ((a1.Sent.length : Int) = (a0.G.Links.length : Int))),rfl,h.z⟩
    ·
     have aj := L_ref04_Right_ok af
     refine qeg [factE 8 aj] [none,none,none,none,none,none,none,some (some 16,false),some (some 16,false),some (some 16,false),some (some 16,false),some (some 16,false),some (some 16,false),some (some 16,false),none,none,some (some 25,false),some (some 25,false),some (some 25,false),some (some 25,false),some (some 25,false),some (some 25,false),some (some 25,false),some (some 25,false),none,none,some (some 35,false),some (some 35,false),some (some 35,false),some (some 35,false),some (some 35,false),some (some 35,false),some (some 35,false),some (some 35,false),none] [2,3,44] [(1,0),(2,0)] h fun ac wd h => ?_
     injection ab with ab; subst ab
     exact ⟨true,rfl,h.z⟩
   ·
    have aj := L_ref04_Right_ok af
    refine qeg [factE 8 aj] [none,none,none,none,none,none,none,some (some 16,false),some (some 16,false),some (some 16,false),some (some 16,false),some (some 16,false),some (some 16,false),some (some 16,false),none,none,some (some 25,false),some (some 25,false),some (some 25,false),some (some 25,false),some (some 25,false),some (some 25,false),some (some 25,false),some (some 25,false),none,none,some (some 35,false),some (some 35,false),some (some 35,false),some (some 35,false),some (some 35,false),some (some 35,false),some (some 35,false),some (some 35,false),none] [2,3,44] [(1,0),(2,0)] h fun ac wd h => ?_
    injection ab with ab; subst ab
    exact ⟨true,rfl,h.z⟩
  ·
   have aj := L_ref04_Right_ok af
   refine qeg [factE 8 aj] [none,none,none,none,none,none,none,some (some 16,false),some (some 16,false),some (some 16,false),some (some 16,false),some (some 16,false),some (some 16,false),some (some 16,false),none,none,some (some 25,false),some (some 25,false),some (some 25,false),some (some 25,false),some (some 25,false),some (some 25,false),some (some 25,false),some (some 25,false),none,none,some (some 35,false),some (some 35,false),some (some 35,false),some (some 35,false),some (some 35,false),some (some 35,false),some (some 35,false),some (some 35,false),none] [2,3,44] [(1,0),(2,0)] h fun ac wd h => ?_
   injection ab with ab; subst ab
   exact ⟨true,rfl,h.z⟩
 ·
  rintro ac wd ⟨ad,rfl,h⟩
  (try dsimp only at hD)
  rcases i2b hD with ⟨ak,hD⟩ | ⟨ak,hD⟩
  ·
   refine kT h ?_
   refine qs 40 [] [4] [] h fun ac wd h => ?_
   refine wp_ret ?_
   injection hD with hD
   subst hD
   exact rE h [.tmp 4]
  ·
   refine kF h ?_
   refine wp_skip ?_
   change Code.wp Try.prog _ _ _ _
   refine wp_seq ?_
   refine qs 40 [] [2,3,5] [(1,0),(2,0)] h fun ac wd h => ?_
   obtain ⟨al,am,hD⟩ := Option.bind_eq_some_iff.1 hD
   refine r_meet (fun ac wd => (.inl ()) = al ∧ SL ⟨wb,S,Φ,P0⟩ 138 103 [(3,.one (.ptr (2,0) 0))] [((2,0),some (.box 101 (cTConf a1)))] ac wd) ?_ ?_
   ·
    refine wp_block ?_
    refine r_while (fun nf ac wd => ∃ (an : Int),L_ref05_Right_l1 a0 a1 nf an = some al ∧ SL ⟨wb,S,Φ,P0⟩ 138 98 [(2,.one (.ptr (1,0) 0)),(3,.one (.ptr (2,0) 0)),(5,.one (.d (.int .i64 an)))] [((1,0),some (.box 69 (cTApp a0))),((2,0),some (.box 101 (cTConf a1)))] ac wd) (((a1.States.length : Int) - 0).toNat + 1) ⟨0,am,h.z⟩ (fun nf ac wd hJ => ?_)
    obtain ⟨an,ao,h⟩ := hJ
    cases nf with
    | zero => rw [L_ref05_Right_l1] at ao; cases ao
    | succ nf =>
     rw [L_ref05_Right_l1] at ao
     refine wp_seq ?_
     refine qs 103 [] [2,3,5,49] [(1,0),(2,0)] h fun ac wd h => ?_
     rcases i2 ao with ⟨ap,ao⟩ | ⟨ap,ao⟩
     ·
      refine kT h ?_
      refine wp_skip ?_
      change Code.wp Try.prog _ _ _ _
      refine wp_seq ?_
      refine wp_block ?_
      obtain ⟨aq,ar,ao⟩ := Option.bind_eq_some_iff.1 ao
      refine r_seqJ (fun ac wd => ∃ (au : Bool),au = aq ∧ SL ⟨wb,S,Φ,P0⟩ 138 124 [(2,.one (.ptr (1,0) 0)),(3,.one (.ptr (2,0) 0)),(5,.one (.d (.int .i64 an))),(72,.one (.d (.bool au)))] [((1,0),some (.box 69 (cTApp a0))),((2,0),some (.box 101 (cTConf a1)))] ac wd) ?_ ?_
      ·
       obtain ⟨av,aw,ax,ay,az,ar⟩ := aB ar
       rcases i2 ar with ⟨aA,ar⟩ | ⟨aA,ar⟩
       ·
        refine deg [] [none,none,none,none,none,none,none,some (some 58,false),some (some 58,false),some (some 58,false),some (some 58,false),some (some 58,false),some (some 58,false),some (some 58,false),some (some 58,false),some (some 58,false),some (some 58,false),some (some 58,false),some (some 58,false),some (some 58,false),none] [2,3,5,72] [(1,0),(2,0)] h fun ac wd h => ?_
        injection ar with ar; subst ar
        exact ⟨true,rfl,h.z⟩
       ·
        obtain ⟨aC,aD,aE,aF,aG,ar⟩ := aB ar
        refine deg [] [none,none,none,none,none,none,none,some (some 58,false),some (some 58,false),some (some 58,false),some (some 58,false),some (some 58,false),some (some 58,false),some (some 58,false),some (some 58,false),some (some 58,false),some (some 58,false),some (some 58,false),some (some 58,false),some (some 58,false),none] [2,3,5,72] [(1,0),(2,0)] h fun ac wd h => ?_
        injection ar with ar; subst ar
        exact ⟨decide (av ≥ (aC.States.length : Int)),rfl,h.z⟩
      ·
       rintro ac wd ⟨au,rfl,h⟩
       (try dsimp only at ao)
       rcases i2b ao with ⟨aH,ao⟩ | ⟨aH,ao⟩
       ·
        refine kT h ?_
        refine qs 125 [] [4] [] h fun ac wd h => ?_
        refine wp_ret ?_
        injection ao with ao
        subst ao
        (try dsimp only at hD)
        injection hD with hD
        subst hD
        exact rE h [.tmp 4]
       ·
        refine kF h ?_
        refine wp_skip ?_
        change Code.wp Try.prog _ _ _ _
        refine qe [] [2,3,5] [(1,0),(2,0)] h fun ac wd h => ?_
        exact ⟨nf,Nat.lt_succ_self nf,(IntKind.wrap .i64 (an + 1)),ao,h.z⟩
     ·
      refine kF h ?_
      refine wp_exit ?_
      injection ao with ao; subst ao
      exact ⟨rfl,h.z⟩
   ·
    rintro ac wd ⟨rfl,h⟩
    (try dsimp only at hD)
    refine wp_seq ?_
    refine qs 104 [] [3,6] [(2,0)] h fun ac wd h => ?_
    refine wp_block ?_
    refine r_while (fun nf ac wd => ∃ (aI : Int),L_ref05_Right_l2 a1 nf aI = some r ∧ SL ⟨wb,S,Φ,P0⟩ 138 360 [(3,.one (.ptr (2,0) 0)),(6,.one (.d (.int .i64 aI)))] [((2,0),some (.box 101 (cTConf a1)))] ac wd) (((a1.Links.length : Int) - 0).toNat + 1) ⟨0,hD,h.z⟩ (fun nf ac wd hJ => ?_)
    obtain ⟨aI,aJ,h⟩ := hJ
    cases nf with
    | zero => rw [L_ref05_Right_l2] at aJ; cases aJ
    | succ nf =>
     rw [L_ref05_Right_l2] at aJ
     refine wp_seq ?_
     refine qs 365 [] [3,6,77] [(2,0)] h fun ac wd h => ?_
     rcases i2 aJ with ⟨aK,aJ⟩ | ⟨aK,aJ⟩
     ·
      refine kT h ?_
      refine wp_skip ?_
      change Code.wp Try.prog _ _ _ _
      obtain ⟨aL,aM,aJ⟩ := Option.bind_eq_some_iff.1 aJ
      refine r_seqJ (fun ac wd => (.inl ()) = aL ∧ SL ⟨wb,S,Φ,P0⟩ 138 485 [(3,.one (.ptr (2,0) 0)),(6,.one (.d (.int .i64 aI)))] [((2,0),some (.box 101 (cTConf a1)))] ac wd) ?_ ?_
      ·
       refine wp_block ?_
       refine wp_seq ?_
       obtain ⟨aN,aO,aM⟩ := Option.bind_eq_some_iff.1 aM
       refine r_seqJ (fun ac wd => ∃ (aP : Bool),aP = aN ∧ SL ⟨wb,S,Φ,P0⟩ 138 379 [(3,.one (.ptr (2,0) 0)),(6,.one (.d (.int .i64 aI))),(93,.one (.d (.bool aP)))] [((2,0),some (.box 101 (cTConf a1)))] ac wd) ?_ ?_
       ·
        obtain ⟨aQ,aR,aS,aT,aU,aO⟩ := aB aO
        rcases i2 aO with ⟨aV,aO⟩ | ⟨aV,aO⟩
        ·
         refine qeg [] [none,none,none,none,none,none,none,some (some 86,false),some (some 86,false),some (some 86,false),some (some 86,false),some (some 86,false),some (some 86,false),none] [3,6,93] [(2,0)] h fun ac wd h => ?_
         injection aO with aO; subst aO
         exact ⟨true,rfl,h.z⟩
        ·
         refine qeg [] [none,none,none,none,none,none,none,some (some 86,false),some (some 86,false),some (some 86,false),some (some 86,false),some (some 86,false),some (some 86,false),none] [3,6,93] [(2,0)] h fun ac wd h => ?_
         injection aO with aO; subst aO
         exact ⟨decide (aQ > 500),rfl,h.z⟩
       ·
        rintro ac wd ⟨aP,rfl,h⟩
        (try dsimp only at aM)
        rcases i2b aM with ⟨aW,aM⟩ | ⟨aW,aM⟩
        ·
         refine kT h ?_
         refine qs 380 [] [4] [] h fun ac wd h => ?_
         refine wp_ret ?_
         injection aM with aM
         subst aM
         (try dsimp only at aJ)
         injection aJ with aJ
         subst aJ
         exact rE h [.tmp 4]
        ·
         refine kF h ?_
         refine wp_skip ?_
         change Code.wp Try.prog _ _ _ _
         refine qs 380 [] [3,6,7] [(2,0)] h fun ac wd h => ?_
         refine qs 381 [] [3,6,7,8] [(2,0)] h fun ac wd h => ?_
         obtain ⟨aX,aY,aM⟩ := Option.bind_eq_some_iff.1 aM
         refine r_meetQ (fun ac wd => (.inl ()) = aX ∧ SL ⟨wb,S,Φ,P0⟩ 138 485 [(3,.one (.ptr (2,0) 0)),(6,.one (.d (.int .i64 aI)))] [((2,0),some (.box 101 (cTConf a1)))] ac wd) ?_ ?_
         ·
          refine wp_block ?_
          refine r_while (fun nf ac wd => ∃ (aZ : Int) (ba : Int),L_ref05_Right_l3 a1 aI nf aZ ba = some aX ∧ SL ⟨wb,S,Φ,P0⟩ 138 477 [(3,.one (.ptr (2,0) 0)),(6,.one (.d (.int .i64 aI))),(7,.one (.d (.int .i64 aZ))),(8,.one (.d (.int .i64 ba)))] [((2,0),some (.box 101 (cTConf a1)))] ac wd) (a1.Links.flatten.length + 1) ⟨0,0,aY,h.z⟩ (fun nf ac wd hJ => ?_)
          obtain ⟨aZ,ba,bb,h⟩ := hJ
          cases nf with
          | zero => rw [L_ref05_Right_l3] at bb; cases bb
          | succ nf =>
           rw [L_ref05_Right_l3] at bb
           refine wp_seq ?_
           obtain ⟨bc,bd,be,bf,bg,bb⟩ := aB bb
           refine qs 485 [] [3,6,7,8,101] [(2,0)] h fun ac wd h => ?_
           rcases i2 bb with ⟨bh,bb⟩ | ⟨bh,bb⟩
           ·
            refine kT h ?_
            refine wp_skip ?_
            change Code.wp Try.prog _ _ _ _
            refine wp_seq ?_
            refine wp_block ?_
            obtain ⟨bi,bj,bk,bl,bm,bb⟩ := aB bb
            refine qs 495 [] [3,6,7,8,9] [(2,0),(493,0)] h fun ac wd h => ?_
            refine wp_seq ?_
            obtain ⟨bn,bo,bb⟩ := Option.bind_eq_some_iff.1 bb
            refine r_seqJ (fun ac wd => ∃ (bp : Bool),bp = bn ∧ SL ⟨wb,S,Φ,P0⟩ 138 519 [(3,.one (.ptr (2,0) 0)),(6,.one (.d (.int .i64 aI))),(8,.one (.d (.int .i64 ba))),(9,.one (.ptr (493,0) 0)),(135,.one (.d (.bool bp)))] [((2,0),some (.box 101 (cTConf a1))),((493,0),some (.box 59 (cTMsg bi)))] ac wd) ?_ ?_
            ·
             rcases i2 bo with ⟨bq,bo⟩ | ⟨bq,bo⟩
             ·
              refine deg [] [none,none,none,none,none,some (some 116,false),some (some 116,false),some (some 116,false),some (some 116,false),some (some 116,false),some (some 116,false),some (some 116,false),some (some 116,false),none,none,some (some 126,false),some (some 126,false),some (some 126,false),none,none,some (some 131,false),some (some 131,false),some (some 131,false),none] [3,6,8,9,135] [(2,0),(493,0)] h fun ac wd h => ?_
              injection bo with bo; subst bo
              exact ⟨true,rfl,h.z⟩
             ·
              obtain ⟨br,bs,bt,bu,bv,bo⟩ := aB bo
              rcases i2 bo with ⟨bw,bo⟩ | ⟨bw,bo⟩
              ·
               refine deg [] [none,none,none,none,none,some (some 116,false),some (some 116,false),some (some 116,false),some (some 116,false),some (some 116,false),some (some 116,false),some (some 116,false),some (some 116,false),none,none,some (some 126,false),some (some 126,false),some (some 126,false),none,none,some (some 131,false),some (some 131,false),some (some 131,false),none] [3,6,8,9,135] [(2,0),(493,0)] h fun ac wd h => ?_
               injection bo with bo; subst bo
               exact ⟨true,rfl,h.z⟩
              ·
               rcases i2 bo with ⟨bx,bo⟩ | ⟨bx,bo⟩
               ·
                refine deg [] [none,none,none,none,none,some (some 116,false),some (some 116,false),some (some 116,false),some (some 116,false),some (some 116,false),some (some 116,false),some (some 116,false),some (some 116,false),none,none,some (some 126,false),some (some 126,false),some (some 126,false),none,none,some (some 131,false),some (some 131,false),some (some 131,false),none] [3,6,8,9,135] [(2,0),(493,0)] h fun ac wd h => ?_
                injection bo with bo; subst bo
                exact ⟨true,rfl,h.z⟩
               ·
                refine deg [] [none,none,none,none,none,some (some 116,false),some (some 116,false),some (some 116,false),some (some 116,false),some (some 116,false),some (some 116,false),some (some 116,false),some (some 116,false),none,none,some (some 126,false),some (some 126,false),some (some 126,false),none,none,some (some 131,false),some (some 131,false),some (some 131,false),none] [3,6,8,9,135] [(2,0),(493,0)] h fun ac wd h => ?_
                injection bo with bo; subst bo
                exact ⟨decide (bi.Letter > 3),rfl,h.z⟩
            ·
             rintro ac wd ⟨bp,rfl,h⟩
             (try dsimp only at bb)
             rcases i2b bb with ⟨bz,bb⟩ | ⟨bz,bb⟩
             ·
              refine kT h ?_
              refine qs 520 [] [4] [] h fun ac wd h => ?_
              refine wp_ret ?_
              injection bb with bb
              subst bb
              (try dsimp only at aM)
              injection aM with aM
              subst aM
              (try dsimp only at aJ)
              injection aJ with aJ
              subst aJ
              exact rE h [.tmp 4]
             ·
              refine kF h ?_
              refine wp_skip ?_
              change Code.wp Try.prog _ _ _ _
              refine qe [] [3,6,7,8] [(2,0)] h fun ac wd h => ?_
              change Code.wp Try.prog _ _ _ _
              refine qe [] [3,6,7,8] [(2,0)] h fun ac wd h => ?_
              exact ⟨nf,Nat.lt_succ_self nf,bi.Seq,(IntKind.wrap .i64 (ba + 1)),bb,h.z⟩
           ·
            refine kF h ?_
            refine wp_exit ?_
            injection bb with bb; subst bb
            exact ⟨rfl,h.z⟩
         ·
          rintro ac wd ⟨rfl,h⟩
          (try dsimp only at aM)
          injection aM with aM; subst aM
          exact ⟨rfl,h.z⟩
      ·
       rintro ac wd ⟨rfl,h⟩
       (try dsimp only at aJ)
       refine qe [] [3,6] [(2,0)] h fun ac wd h => ?_
       exact ⟨nf,Nat.lt_succ_self nf,(IntKind.wrap .i64 (aI + 1)),aJ,h.z⟩
     ·
      refine kF h ?_
      refine wp_exit ?_
      change Code.wp Try.prog _ _ _ _
      refine qs 366 [] [4] [] h fun ac wd h => ?_
      refine wp_ret ?_
      injection aJ with aJ
      subst aJ
      exact rE h [.tmp 4]

end Go.Proofs.Ytabbejabdkkaiaa
