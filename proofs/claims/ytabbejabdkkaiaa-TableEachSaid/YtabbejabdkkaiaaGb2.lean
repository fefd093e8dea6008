/- Functions as typed ones,and that the program's functions answer as these do. No condition. -/
import Derived.Test.YtabbejabdkkaiaaGb1
import Derived.Test.YtabbejabdkkaiaaGd
set_option linter.unusedSimpArgs false
set_option linter.unusedVariables false
set_option maxRecDepth 20000
set_option maxHeartbeats 4000000
namespace Go.Proofs.Ytabbejabdkkaiaa
open Go.RowKit

theorem L_ref04_Right_ok {a0 : (List TNode)} {a1 : TGraph} {r : Bool} (hD : L_ref04_Right a0 a1 = some r) :
  CallH Try.prog 14 [.one (.d (.sl (List.map eTNode a0))),.agg (cTGraph a1)] []
   (.one (.d (.bool r))) [] := by
 unfold L_ref04_Right at hD
 refine rc Try.func14 rfl Try.ntmps14 fun S Φ P0 wb ac h => ?_
 refine qs 3 [] [0,3] [(1,0)] h fun ac wd h => ?_
 refine wp_seq ?_
 obtain ⟨aa,ab,hD⟩ := Option.bind_eq_some_iff.1 hD
 refine r_seqJ (fun ac wd => ∃ (ad : Bool),ad = aa ∧ SL ⟨wb,S,Φ,P0⟩ 101 13 [(0,.one (.d (.sl (List.map eTNode a0)))),(3,.one (.ptr (1,0) 0)),(18,.one (.d (.bool ad)))] [((1,0),some (.box 32 (cTGraph a1)))] ac wd) ?_ ?_
 ·
  obtain ⟨ae,af,ab⟩ := oB ab
  rcases i2b ab with ⟨ag,ab⟩ | ⟨ag,ab⟩
  ·
   have ah := L_ref03_Right_ok af
   refine qeg [factE 4 ah] [none,none,none,none,some (some 12,false),some (some 12,false),some (some 12,false),some (some 12,false),some (some 12,false),none] [0,3,18] [(1,0)] h fun ac wd h => ?_
   injection ab with ab; subst ab
   exact ⟨!(decide ((a0.length : Int) = a1.N)),rfl,h.z⟩
  ·
   have ah := L_ref03_Right_ok af
   refine qeg [factE 4 ah] [none,none,none,none,some (some 12,false),some (some 12,false),some (some 12,false),some (some 12,false),some (some 12,false),none] [0,3,18] [(1,0)] h fun ac wd h => ?_
   injection ab with ab; subst ab
   exact ⟨true,rfl,h.z⟩
 ·
  rintro ac wd ⟨ad,rfl,h⟩
  (try dsimp only at hD)
  rcases i2b hD with ⟨ai,hD⟩ | ⟨ai,hD⟩
  ·
   refine kT h ?_
   refine qs 14 [] [4] [] h fun ac wd h => ?_
   refine wp_ret ?_
   injection hD with hD
   subst hD
   exact rE h [.tmp 4]
  ·
   refine kF h ?_
   refine wp_skip ?_
   change Code.wp Try.prog _ _ _ _
   refine wp_seq ?_
   refine qs 14 [] [0,3,5] [(1,0)] h fun ac wd h => ?_
   refine wp_block ?_
   refine r_while (fun nf ac wd => ∃ (aj : Int),L_ref04_Right_l1 a0 a1 nf aj = some r ∧ SL ⟨wb,S,Φ,P0⟩ 101 296 [(0,.one (.d (.sl (List.map eTNode a0)))),(3,.one (.ptr (1,0) 0)),(5,.one (.d (.int .i64 aj)))] [((1,0),some (.box 32 (cTGraph a1)))] ac wd) (((a0.length : Int) - 0).toNat + 1) ⟨0,hD,h.z⟩ (fun nf ac wd hJ => ?_)
   obtain ⟨aj,ak,h⟩ := hJ
   cases nf with
   | zero => rw [L_ref04_Right_l1] at ak; cases ak
   | succ nf =>
    rw [L_ref04_Right_l1] at ak
    refine wp_seq ?_
    refine qs 300 [] [0,3,5,22] [(1,0)] h fun ac wd h => ?_
    rcases i2 ak with ⟨al,ak⟩ | ⟨al,ak⟩
    ·
     refine kT h ?_
     refine wp_skip ?_
     change Code.wp Try.prog _ _ _ _
     obtain ⟨am,an,ak⟩ := Option.bind_eq_some_iff.1 ak
     refine r_seqJ (fun ac wd => (.inl ()) = am ∧ SL ⟨wb,S,Φ,P0⟩ 101 434 [(0,.one (.d (.sl (List.map eTNode a0)))),(3,.one (.ptr (1,0) 0)),(5,.one (.d (.int .i64 aj)))] [((1,0),some (.box 32 (cTGraph a1)))] ac wd) ?_ ?_
     ·
      refine wp_block ?_
      obtain ⟨ao,ap,aq,ar,au,an⟩ := aB an
      refine qs 307 [] [0,3,5,6] [(1,0)] h fun ac wd h => ?_
      refine wp_seq ?_
      obtain ⟨av,aw,an⟩ := Option.bind_eq_some_iff.1 an
      refine r_seqJ (fun ac wd => ∃ (ax : Bool),ax = av ∧ SL ⟨wb,S,Φ,P0⟩ 101 330 [(0,.one (.d (.sl (List.map eTNode a0)))),(3,.one (.ptr (1,0) 0)),(5,.one (.d (.int .i64 aj))),(6,.one (.d (.int .i64 (ao.States.length : Int)))),(53,.one (.d (.bool ax)))] [((1,0),some (.box 32 (cTGraph a1)))] ac wd) ?_ ?_
      ·
       rcases i2 aw with ⟨ay,aw⟩ | ⟨ay,aw⟩
       ·
        refine qeg [] [none,none,none,some (some 33,false),some (some 33,false),none,none,some (some 37,false),some (some 37,false),some (some 37,false),some (some 37,false),some (some 37,false),some (some 37,false),none,none,some (some 45,false),some (some 45,false),some (some 45,false),some (some 45,false),some (some 45,false),some (some 45,false),some (some 45,false),none] [0,3,5,6,53] [(1,0)] h fun ac wd h => ?_
        injection aw with aw; subst aw
        exact ⟨true,rfl,h.z⟩
       ·
        rcases i2 aw with ⟨az,aw⟩ | ⟨az,aw⟩
        ·
         refine qeg [] [none,none,none,some (some 33,false),some (some 33,false),none,none,some (some 37,false),some (some 37,false),some (some 37,false),some (some 37,false),some (some 37,false),some (some 37,false),none,none,some (some 45,false),some (some 45,false),some (some 45,false),some (some 45,false),some (some 45,false),some (some 45,false),some (some 45,false),none] [0,3,5,6,53] [(1,0)] h fun ac wd h => ?_
         injection aw with aw; subst aw
         exact ⟨true,rfl,h.z⟩
        ·
         rcases i2 aw with ⟨aA,aw⟩ | ⟨aA,aw⟩
         ·
          refine qeg [] [none,none,none,some (some 33,false),some (some 33,false),none,none,some (some 37,false),some (some 37,false),some (some 37,false),some (some 37,false),some (some 37,false),some (some 37,false),none,none,some (some 45,false),some (some 45,false),some (some 45,false),some (some 45,false),some (some 45,false),some (some 45,false),some (some 45,false),none] [0,3,5,6,53] [(1,0)] h fun ac wd h => ?_
          injection aw with aw; subst aw
          exact ⟨true,rfl,h.z⟩
         ·
          refine qeg [] [none,none,none,some (some 33,false),some (some 33,false),none,none,some (some 37,false),some (some 37,false),some (some 37,false),some (some 37,false),some (some 37,false),some (some 37,false),none,none,some (some 45,false),some (some 45,false),some (some 45,false),some (some 45,false),some (some 45,false),some (some 45,false),some (some 45,false),none] [0,3,5,6,53] [(1,0)] h fun ac wd h => ?_
          injection aw with aw; subst aw
          exact ⟨decide (ao.Start ≥ (ao.States.length : Int)),rfl,h.z⟩
      ·
       rintro ac wd ⟨ax,rfl,h⟩
       (try dsimp only at an)
       rcases i2b an with ⟨aC,an⟩ | ⟨aC,an⟩
       ·
        refine kT h ?_
        refine qs 331 [] [4] [] h fun ac wd h => ?_
        refine wp_ret ?_
        injection an with an
        subst an
        (try dsimp only at ak)
        injection ak with ak
        subst ak
        exact rE h [.tmp 4]
       ·
        refine kF h ?_
        refine wp_skip ?_
        change Code.wp Try.prog _ _ _ _
        refine qs 331 [] [0,3,5,6,7] [(1,0)] h fun ac wd h => ?_
        obtain ⟨aD,aE,an⟩ := Option.bind_eq_some_iff.1 an
        refine r_meetQ (fun ac wd => (.inl ()) = aD ∧ SL ⟨wb,S,Φ,P0⟩ 101 434 [(0,.one (.d (.sl (List.map eTNode a0)))),(3,.one (.ptr (1,0) 0)),(5,.one (.d (.int .i64 aj)))] [((1,0),some (.box 32 (cTGraph a1)))] ac wd) ?_ ?_
        ·
         refine wp_block ?_
         refine r_while (fun nf ac wd => ∃ (aF : Int),L_ref04_Right_l2 a1 aj ao nf aF = some aD ∧ SL ⟨wb,S,Φ,P0⟩ 101 431 [(0,.one (.d (.sl (List.map eTNode a0)))),(3,.one (.ptr (1,0) 0)),(5,.one (.d (.int .i64 aj))),(6,.one (.d (.int .i64 (ao.States.length : Int)))),(7,.one (.d (.int .i64 aF)))] [((1,0),some (.box 32 (cTGraph a1)))] ac wd) (((ao.States.length : Int) - 0).toNat + 1) ⟨0,aE,h.z⟩ (fun nf ac wd hJ => ?_)
         obtain ⟨aF,aG,h⟩ := hJ
         cases nf with
         | zero => rw [L_ref04_Right_l2] at aG; cases aG
         | succ nf =>
          rw [L_ref04_Right_l2] at aG
          refine wp_seq ?_
          refine qs 434 [] [0,3,5,6,7,56] [(1,0)] h fun ac wd h => ?_
          rcases i2 aG with ⟨aH,aG⟩ | ⟨aH,aG⟩
          ·
           refine kT h ?_
           refine wp_skip ?_
           change Code.wp Try.prog _ _ _ _
           refine wp_seq ?_
           refine wp_block ?_
           obtain ⟨aI,aJ,aK,aL,aM,aG⟩ := aB aG
           refine qs 444 [] [0,3,5,6,7,8] [(1,0),(442,0)] h fun ac wd h => ?_
           obtain ⟨aN,aO,aG⟩ := Option.bind_eq_some_iff.1 aG
           refine r_seqJ (fun ac wd => ∃ (aP : Bool),aP = aN ∧ SL ⟨wb,S,Φ,P0⟩ 101 478 [(0,.one (.d (.sl (List.map eTNode a0)))),(3,.one (.ptr (1,0) 0)),(5,.one (.d (.int .i64 aj))),(6,.one (.d (.int .i64 (ao.States.length : Int)))),(7,.one (.d (.int .i64 aF))),(100,.one (.d (.bool aP)))] [((1,0),some (.box 32 (cTGraph a1)))] ac wd) ?_ ?_
           ·
            rcases i2 aO with ⟨aQ,aO⟩ | ⟨aQ,aO⟩
            ·
             refine deg [] [none,none,none,none,some (some 70,false),some (some 70,false),some (some 70,false),none,none,some (some 75,false),some (some 75,false),some (some 75,false),some (some 75,false),some (some 75,false),none,none,some (some 82,false),some (some 82,false),some (some 82,false),some (some 82,false),some (some 82,false),some (some 82,false),none,none,some (some 90,false),some (some 90,false),some (some 90,false),some (some 90,false),some (some 90,false),some (some 90,false),some (some 90,false),some (some 90,false),some (some 90,false),none] [0,3,5,6,7,100] [(1,0)] h fun ac wd h => ?_
             injection aO with aO; subst aO
             exact ⟨true,rfl,h.z⟩
            ·
             rcases i2 aO with ⟨aR,aO⟩ | ⟨aR,aO⟩
             ·
              refine deg [] [none,none,none,none,some (some 70,false),some (some 70,false),some (some 70,false),none,none,some (some 75,false),some (some 75,false),some (some 75,false),some (some 75,false),some (some 75,false),none,none,some (some 82,false),some (some 82,false),some (some 82,false),some (some 82,false),some (some 82,false),some (some 82,false),none,none,some (some 90,false),some (some 90,false),some (some 90,false),some (some 90,false),some (some 90,false),some (some 90,false),some (some 90,false),some (some 90,false),some (some 90,false),none] [0,3,5,6,7,100] [(1,0)] h fun ac wd h => ?_
              injection aO with aO; subst aO
              exact ⟨true,rfl,h.z⟩
             ·
              obtain ⟨aS,aT,aO⟩ := oB aO
              rcases i2b aO with ⟨aU,aO⟩ | ⟨aU,aO⟩
              ·
               obtain ⟨aV,aW,aO⟩ := oB aO
               rcases i2b aO with ⟨aX,aO⟩ | ⟨aX,aO⟩
               ·
                obtain ⟨aY,aZ,aO⟩ := oB aO
                have ba := L_ref04_waits_ok aT
                have bb := L_ref04_picks_ok aW
                have bc := L_ref04_takes_ok aZ
                refine deg [factE 456 ba,factE 464 bb,factE 475 bc] [none,none,none,none,some (some 70,false),some (some 70,false),some (some 70,false),none,none,some (some 75,false),some (some 75,false),some (some 75,false),some (some 75,false),some (some 75,false),none,none,some (some 82,false),some (some 82,false),some (some 82,false),some (some 82,false),some (some 82,false),some (some 82,false),none,none,some (some 90,false),some (some 90,false),some (some 90,false),some (some 90,false),some (some 90,false),some (some 90,false),some (some 90,false),some (some 90,false),some (some 90,false),none] [0,3,5,6,7,100] [(1,0)] h fun ac wd h => ?_
                injection aO with aO; subst aO
                exact ⟨!(aY),rfl,h.z⟩
               ·
                have ba := L_ref04_waits_ok aT
                have bb := L_ref04_picks_ok aW
                refine deg [factE 456 ba,factE 464 bb] [none,none,none,none,some (some 70,false),some (some 70,false),some (some 70,false),none,none,some (some 75,false),some (some 75,false),some (some 75,false),some (some 75,false),some (some 75,false),none,none,some (some 82,false),some (some 82,false),some (some 82,false),some (some 82,false),some (some 82,false),some (some 82,false),none,none,some (some 90,false),some (some 90,false),some (some 90,false),some (some 90,false),some (some 90,false),some (some 90,false),some (some 90,false),some (some 90,false),some (some 90,false),none] [0,3,5,6,7,100] [(1,0)] h fun ac wd h => ?_
                injection aO with aO; subst aO
                exact ⟨true,rfl,h.z⟩
              ·
               have ba := L_ref04_waits_ok aT
               refine deg [factE 456 ba] [none,none,none,none,some (some 70,false),some (some 70,false),some (some 70,false),none,none,some (some 75,false),some (some 75,false),some (some 75,false),some (some 75,false),some (some 75,false),none,none,some (some 82,false),some (some 82,false),some (some 82,false),some (some 82,false),some (some 82,false),some (some 82,false),none,none,some (some 90,false),some (some 90,false),some (some 90,false),some (some 90,false),some (some 90,false),some (some 90,false),some (some 90,false),some (some 90,false),some (some 90,false),none] [0,3,5,6,7,100] [(1,0)] h fun ac wd h => ?_
               injection aO with aO; subst aO
               exact ⟨true,rfl,h.z⟩
           ·
            rintro ac wd ⟨aP,rfl,h⟩
            (try dsimp only at aG)
            rcases i2b aG with ⟨bd,aG⟩ | ⟨bd,aG⟩
            ·
             refine kT h ?_
             refine qs 479 [] [4] [] h fun ac wd h => ?_
             refine wp_ret ?_
             injection aG with aG
             subst aG
             (try dsimp only at an)
             injection an with an
             subst an
             (try dsimp only at ak)
             injection ak with ak
             subst ak
             exact rE h [.tmp 4]
            ·
             refine kF h ?_
             refine wp_skip ?_
             change Code.wp Try.prog _ _ _ _
             refine qe [] [0,3,5,6,7] [(1,0)] h fun ac wd h => ?_
             exact ⟨nf,Nat.lt_succ_self nf,(IntKind.wrap .i64 (aF + 1)),aG,h.z⟩
          ·
           refine kF h ?_
           refine wp_exit ?_
           injection aG with aG; subst aG
           exact ⟨rfl,h.z⟩
        ·
         rintro ac wd ⟨rfl,h⟩
         (try dsimp only at an)
         injection an with an; subst an
         exact ⟨rfl,h.z⟩
     ·
      rintro ac wd ⟨rfl,h⟩
      (try dsimp only at ak)
      refine qe [] [0,3,5] [(1,0)] h fun ac wd h => ?_
      exact ⟨nf,Nat.lt_succ_self nf,(IntKind.wrap .i64 (aj + 1)),ak,h.z⟩
    ·
     refine kF h ?_
     refine wp_exit ?_
     change Code.wp Try.prog _ _ _ _
     refine qs 301 [] [4] [] h fun ac wd h => ?_
     refine wp_ret ?_
     injection ak with ak
     subst ak
     exact rE h [.tmp 4]

theorem L_graph_Graph_node_ok {a0 : TGraph} {a1 : Int} {r : Bool} (hD : L_graph_Graph_node a0 a1 = some r) :
  CallH Try.prog 97 [.agg (cTGraph a0),.one (.d (.int .i64 a1))] []
   (.one (.d (.bool r))) [] := by
 unfold L_graph_Graph_node at hD
 refine rc Try.func97 rfl Try.ntmps97 fun S Φ P0 wb ac h => ?_
 refine qs 3 [] [1,2] [(1,0)] h fun ac wd h => ?_
 obtain ⟨e8,ab,hD⟩ := Option.bind_eq_some_iff.1 hD
 refine r_seqJ (fun ac wd => ∃ (b7 : Bool),b7 = e8 ∧ SL ⟨wb,S,Φ,P0⟩ 13 12 [(4,.one (.d (.bool b7)))] [] ac wd) ?_ ?_
 ·
  rcases i2 ab with ⟨ae,ab⟩ | ⟨ae,ab⟩
  ·
   refine qeg [] [none,none,none,some (some 7,true),some (some 7,true),some (some 7,true),some (some 7,true),none,none] [4] [] h fun ac wd h => ?_
   injection ab with ab; subst ab
   exact ⟨decide (a1 < a0.N),rfl,h.z⟩
  ·
   refine qeg [] [none,none,none,some (some 7,true),some (some 7,true),some (some 7,true),some (some 7,true),none,none] [4] [] h fun ac wd h => ?_
   injection ab with ab; subst ab
   exact ⟨false,rfl,h.z⟩
 ·
  rintro ac wd ⟨b7,rfl,h⟩
  (try dsimp only at hD)
  refine wp_ret ?_
  injection hD with hD
  subst hD
  exact rE h [.tmp 4]

theorem L_graph_turned_ok {a0 : A2I} {r : A2I} (hD : L_graph_turned a0 = some r) :
  CallH Try.prog 98 [.agg (cA2I a0)] []
   (.agg [.d (.int .i64 r.a0),.d (.int .i64 r.a1)]) [] := by
 unfold L_graph_turned at hD
 refine rc Try.func98 rfl Try.ntmps98 fun S Φ P0 wb ac h => ?_
 refine qs 3 [] [1,2] [(1,0),(2,0)] h fun ac wd h => ?_
 refine qs 9 [] [2] [(2,0)] h fun ac wd h => ?_
 refine wp_ret ?_
 injection hD with hD
 subst hD
 exact rE h [.cell 2 126]

theorem L_math_bits_Mul64_ok {a0 : Int} {a1 : Int} {r : Int × Int} (hD : L_math_bits_Mul64 a0 a1 = some r) :
  CallH Try.prog 150 [.one (.d (.int .u64 a0)),.one (.d (.int .u64 a1))] []
   (.tup [.inr (.d (.int .u64 r.1)),.inr (.d (.int .u64 r.2))]) [] := by
 unfold L_math_bits_Mul64 at hD
 refine rc Try.func150 rfl Try.ntmps150 fun S Φ P0 wb ac h => ?_
 refine qs 3 [] [0,1] [] h fun ac wd h => ?_
 refine qs 6 [] [0,1,6] [] h fun ac wd h => ?_
 refine qs 9 [] [0,1,6,7] [] h fun ac wd h => ?_
 refine qs 12 [] [0,1,6,7,8] [] h fun ac wd h => ?_
 refine qs 15 [] [0,1,6,7,8,9] [] h fun ac wd h => ?_
 refine qs 19 [] [0,1,6,7,8,9,10] [] h fun ac wd h => ?_
 refine qs 26 [] [0,1,6,7,9,11] [] h fun ac wd h => ?_
 refine qs 29 [] [0,1,6,7,9,11,12] [] h fun ac wd h => ?_
 refine qs 32 [] [0,1,6,7,9,12,13] [] h fun ac wd h => ?_
 refine qs 38 [] [0,1,7,9,12,13] [] h fun ac wd h => ?_
 refine qs 47 [] [0,1,4] [] h fun ac wd h => ?_
 refine qs 51 [] [4,5] [] h fun ac wd h => ?_
 refine wp_ret ?_
 injection hD with hD
 subst hD
 exact rE h [.tmp 4,.tmp 5]

theorem L_math_bits_Mul_ok {a0 : Int} {a1 : Int} {r : Int × Int} (hD : L_math_bits_Mul a0 a1 = some r) :
  CallH Try.prog 144 [.one (.d (.int .u64 a0)),.one (.d (.int .u64 a1))] []
   (.tup [.inr (.d (.int .u64 r.1)),.inr (.d (.int .u64 r.2))]) [] := by
 unfold L_math_bits_Mul at hD
 refine rc Try.func144 rfl Try.ntmps144 fun S Φ P0 wb ac h => ?_
 refine qs 3 [] [0,1] [] h fun ac wd h => ?_
 refine wp_seq ?_
 refine kF h ?_
 refine wp_skip ?_
 change Code.wp Try.prog _ _ _ _
 obtain ⟨r7,ab,hD⟩ := oB hD
 have ad := L_math_bits_Mul64_ok ab
 refine qs 11 [factE 5 ad] [8,9] [] h fun ac wd h => ?_
 refine qs 15 [] [4,5] [] h fun ac wd h => ?_
 refine wp_ret ?_
 injection hD with hD
 subst hD
 exact rE h [.tmp 4,.tmp 5]

theorem L_slices_Repeat_int_int_own {a0 : (List Int)} {a1 : Int} {r : (List Int)} (hD : L_slices_Repeat_int_int a0 a1 = some r) :
  CallH Try.prog 123 [.one (.d (.sl (List.map eI a0))),.one (.d (.int .i64 a1))] []
   (.one (.own (1,0) r.length)) [((1,0),some (.row 3 1 (dat (List.map eI r))))] := by
 unfold L_slices_Repeat_int_int at hD
 refine rc Try.func123 rfl Try.ntmps123 fun S Φ P0 wb ac h => ?_
 refine qs 2 [] [0,1] [] h fun ac wd h => ?_
 refine wp_seq ?_
 refine qs 4 [] [0,1,10] [] h fun ac wd h => ?_
 rcases i2 hD with ⟨aa,hD⟩ | ⟨aa,hD⟩
 ·
  refine kT h ?_
  cases hD
 ·
  refine kF h ?_
  refine wp_skip ?_
  change Code.wp Try.prog _ _ _ _
  obtain ⟨ab,ad,hD⟩ := oB hD
  have ae := L_math_bits_Mul_ok ad
  refine qs 15 [factE 9 ae] [0,5,6] [] h fun ac wd h => ?_
  refine wp_seq ?_
  obtain ⟨af,ag,hD⟩ := Option.bind_eq_some_iff.1 hD
  refine r_seqJ (fun ac wd => ∃ (ah : Bool),ah = af ∧ SL ⟨wb,S,Φ,P0⟩ 48 21 [(0,.one (.d (.sl (List.map eI a0)))),(6,.one (.d (.int .u64 ab.2))),(26,.one (.d (.bool ah)))] [] ac wd) ?_ ?_
  ·
   rcases i2 ag with ⟨ai,ag⟩ | ⟨ai,ag⟩
   ·
    refine qeg [] [none,none,none,some (some 23,false),some (some 23,false),none] [0,6,26] [] h fun ac wd h => ?_
    injection ag with ag; subst ag
    exact ⟨true,rfl,h.z⟩
   ·
    refine qeg [] [none,none,none,some (some 23,false),some (some 23,false),none] [0,6,26] [] h fun ac wd h => ?_
    injection ag with ag; subst ag
    exact ⟨decide (ab.2 > 9223372036854775807),rfl,h.z⟩
  ·
   rintro ac wd ⟨ah,rfl,h⟩
   (try dsimp only at hD)
   rcases i2b hD with ⟨aj,hD⟩ | ⟨aj,hD⟩
   ·
    refine kT h ?_
    cases hD
   ·
    refine kF h ?_
    refine wp_skip ?_
    change Code.wp Try.prog _ _ _ _
    obtain ⟨ak,hD⟩ := iT hD
    obtain ⟨al,hD⟩ := iT hD
    obtain ⟨am,hD⟩ := iT hD
    refine qs 25 [] [0,7] [(23,0)] h fun ac wd h => ?_
    obtain ⟨an,ao,hD⟩ := vB hD
    have h := h.same [0,7] [(23,0)] 25 [(0,.one (.d (.sl (List.map eI a0)))),(7,.one (.own (23,0) an.length))]
     [((23,0),some (.row 3 1 (dat (List.map eI an))))]
     (by simp only [EZ,simprocAttr,aa,aj,ak,al,am,dat_open,← ao] <;> rfl)
    have ap : ((a0.take an.length) ++ an.drop (a0.take an.length).length).length = an.length := by simp only [List.append_assoc,List.length_append,List.length_take,List.length_drop]; omega
    simp only [List.append_assoc,List.length_append,List.length_take,List.length_drop] at ap
    refine qs 29 [] [7,8] [(23,0)] h fun ac wd h => ?_
    refine wp_seq ?_
    refine wp_block ?_
    refine r_while (fun nf ac wd => ∃ (aq : Int) (ar : List Int),L_slices_Repeat_int_int_l1 nf aq ar = some r ∧ SL ⟨wb,S,Φ,P0⟩ 48 57 [(7,.one (.own (23,0) ar.length)),(8,.one (.d (.int .i64 aq)))] [((23,0),some (.row 3 1 (dat (List.map eI ar))))] ac wd) (((((a0.take an.length) ++ an.drop (a0.take an.length).length).length : Int) - ((Nat.min a0.length an.length : Nat) : Int)).toNat + 1) ⟨((Nat.min a0.length an.length : Nat) : Int),((a0.take an.length) ++ an.drop (a0.take an.length).length),hD,h.z⟩ (fun nf ac wd hJ => ?_)
    obtain ⟨aq,ar,au,h⟩ := hJ
    cases nf with
    | zero => rw [L_slices_Repeat_int_int_l1] at au; cases au
    | succ nf =>
     rw [L_slices_Repeat_int_int_l1] at au
     refine wp_seq ?_
     refine qs 61 [] [7,8,37] [(23,0)] h fun ac wd h => ?_
     rcases i2 au with ⟨av,au⟩ | ⟨av,au⟩
     ·
      refine kT h ?_
      refine wp_skip ?_
      change Code.wp Try.prog _ _ _ _
      refine wp_block ?_
      obtain ⟨aw,au⟩ := iT au
      obtain ⟨ax,au⟩ := iT au
      have ay : aq.toNat + (ar.length - aq.toNat) ≤ ar.length := by omega
      have az : ¬ ar.length = aq.toNat := by omega
      have aA : aq.toNat ≤ ar.length := by omega
      have aB : (ar.take aq.toNat ++ ((ar.take aq.toNat).take (((ar.drop aq.toNat).take (ar.length - aq.toNat)).length)) ++ ar.drop (aq.toNat + ((ar.take aq.toNat).take (((ar.drop aq.toNat).take (ar.length - aq.toNat)).length)).length)).length = ar.length := by simp only [List.append_assoc,List.length_append,List.length_take,List.length_drop]; omega
      simp only [List.append_assoc,List.length_append,List.length_take,List.length_drop] at aB
      refine de [] [7,8] [(23,0)] h fun ac wd h => ?_
      exact ⟨nf,Nat.lt_succ_self nf,(IntKind.wrap .i64 (aq + ((Nat.min (ar.take aq.toNat).length (((ar.drop aq.toNat).take (ar.length - aq.toNat)).length) : Nat) : Int))),(ar.take aq.toNat ++ ((ar.take aq.toNat).take (((ar.drop aq.toNat).take (ar.length - aq.toNat)).length)) ++ ar.drop (aq.toNat + ((ar.take aq.toNat).take (((ar.drop aq.toNat).take (ar.length - aq.toNat)).length)).length)),au,h.z⟩
     ·
      refine kF h ?_
      refine wp_exit ?_
      change Code.wp Try.prog _ _ _ _
      refine qs 63 [] [4] [(23,0)] h fun ac wd h => ?_
      refine wp_ret ?_
      have h := h.sw (1,0) (23,0) 63
      injection au with au
      subst au
      exact rO h [.tmp 4] [(1,0)]
theorem L_slices_Repeat_int_int_ok {a0 : (List Int)} {a1 : Int} {r : (List Int)} (hD : L_slices_Repeat_int_int a0 a1 = some r) :
  CallH Try.prog 123 [.one (.d (.sl (List.map eI a0))),.one (.d (.int .i64 a1))] []
   (.one (.d (.sl (List.map eI r)))) [] :=
 (L_slices_Repeat_int_int_own hD).fr

theorem L_graph_of_v1_own {a0 : TGraph} {a1 : Int} {r : (List Int)} (hD : L_graph_of_v1 a0 a1 = some r) :
  CallH Try.prog 113 [.agg (cTGraph a0),.one (.d (.int .i64 a1)),.one (.d (.int .i64 0))] []
   (.one (.own (1,0) r.length)) [((1,0),some (.row 3 1 (dat (List.map eI r))))] := by
 unfold L_graph_of_v1 at hD
 refine rc Try.func113 rfl Try.ntmps113 fun S Φ P0 wb ac h => ?_
 refine qs 3 [] [1,2,3] [(1,0)] h fun ac wd h => ?_
 refine qs 4 [] [1,2,3,7] [(1,0)] h fun ac wd h => ?_
 refine wp_seq ?_
 refine qs 8 [] [1,2,7,11,12,13] [] h fun ac wd h => ?_
 refine wp_block ?_
 have h := SL.bornS h 7 3 1 (by simp only [EZ,simprocAttr, *] <;> rfl)
 refine r_while (fun nf ac wd => ∃ (aa : Int) (ab : List Int),L_graph_of_v1_l1 a0 a1 nf aa ab = some r ∧ SL ⟨wb,S,Φ,P0⟩ 29 46 [(1,.one (.d (.int .i64 a1))),(2,.one (.d (.int .i64 0))),(7,.one (.own (8,0) ab.length)),(11,.one (.d (.sl (List.map eA2I a0.Links)))),(12,.one (.d (.int .i64 (a0.Links.length : Int)))),(13,.one (.d (.int .i64 aa)))] [((8,0),some (.row 3 1 (dat (List.map eI ab))))] ac wd) (((a0.Links.length : Int) - 0).toNat + 1) ⟨0,([] : List Int),hD,h.z⟩ (fun nf ac wd hJ => ?_)
 obtain ⟨aa,ab,ad,h⟩ := hJ
 cases nf with
 | zero => rw [L_graph_of_v1_l1] at ad; cases ad
 | succ nf =>
  rw [L_graph_of_v1_l1] at ad
  refine qs 47 [] [1,2,7,11,12,13,14] [(8,0)] h fun ac wd h => ?_
  refine wp_seq ?_
  rcases i2 ad with ⟨ae,ad⟩ | ⟨ae,ad⟩
  ·
   refine kT h ?_
   refine wp_skip ?_
   change Code.wp Try.prog _ _ _ _
   obtain ⟨af,ag,ad⟩ := Option.bind_eq_some_iff.1 ad
   refine r_seqJ (fun ac wd => ∃ (ah : List Int),ah = af ∧ SL ⟨wb,S,Φ,P0⟩ 29 63 [(1,.one (.d (.int .i64 a1))),(2,.one (.d (.int .i64 0))),(7,.one (.own (61,0) ah.length)),(11,.one (.d (.sl (List.map eA2I a0.Links)))),(12,.one (.d (.int .i64 (a0.Links.length : Int)))),(13,.one (.d (.int .i64 aa)))] [((61,0),some (.row 3 1 (dat (List.map eI ah))))] ac wd) ?_ ?_
   ·
    refine wp_block ?_
    obtain ⟨ai,aj,ak,al,am,ag⟩ := aB ag
    refine qs 53 [] [1,2,7,8,9,11,12,13] [(8,0),(50,0)] h fun ac wd h => ?_
    refine qs 58 [] [1,2,7,8,11,12,13,22] [(8,0)] h fun ac wd h => ?_
    rcases i2e ag with ⟨an,ag⟩ | ⟨an,ag⟩
    ·
     refine kT h ?_
     obtain ⟨ao,ag⟩ := iT ag
     refine qe [] [1,2,7,11,12,13] [(61,0)] h fun ac wd h => ?_
     injection ag with ag; subst ag
     exact ⟨(ab ++ [aa]),rfl,h.z⟩
    ·
     refine kF h ?_
     refine wp_skip ?_
     have h := h.sw (61,0) (8,0) 63
     injection ag with ag; subst ag
     exact ⟨ab,rfl,h.z⟩
   ·
    rintro ac wd ⟨ah,rfl,h⟩
    (try dsimp only at ad)
    refine qe [] [1,2,7,11,12,13] [(61,0)] h fun ac wd h => ?_
    have h := h.sw (8,0) (61,0) 65
    exact ⟨nf,Nat.lt_succ_self nf,(IntKind.wrap .i64 (aa + 1)),ah,ad,h.z⟩
  ·
   refine kF h ?_
   refine wp_exit ?_
   change Code.wp Try.prog _ _ _ _
   refine qs 49 [] [6] [(8,0)] h fun ac wd h => ?_
   refine wp_ret ?_
   have h := h.sw (1,0) (8,0) 49
   injection ad with ad
   subst ad
   exact rO h [.tmp 6] [(1,0)]
theorem L_graph_of_v1_ok {a0 : TGraph} {a1 : Int} {r : (List Int)} (hD : L_graph_of_v1 a0 a1 = some r) :
  CallH Try.prog 113 [.agg (cTGraph a0),.one (.d (.int .i64 a1)),.one (.d (.int .i64 0))] []
   (.one (.d (.sl (List.map eI r)))) [] :=
 (L_graph_of_v1_own hD).fr

theorem L_graph_Out_own {a0 : TGraph} {a1 : Int} {r : (List Int)} (hD : L_graph_Out a0 a1 = some r) :
  CallH Try.prog 109 [.agg (cTGraph a0),.one (.d (.int .i64 a1))] []
   (.one (.own (1,0) r.length)) [((1,0),some (.row 3 1 (dat (List.map eI r))))] := by
 unfold L_graph_Out at hD
 refine rc Try.func109 rfl Try.ntmps109 fun S Φ P0 wb ac h => ?_
 refine qs 3 [] [1,2] [(1,0)] h fun ac wd h => ?_
 obtain ⟨r7,ab,hD⟩ := oB hD
 have ad := ((L_graph_of_v1_own ab).cls 5).z
 refine qs 7 [factO ad] [4] [(5,0)] h fun ac wd h => ?_
 refine wp_ret ?_
 have h := h.sw (1,0) (5,0) 7
 injection hD with hD
 subst hD
 exact rO h [.tmp 4] [(1,0)]
theorem L_graph_Out_ok {a0 : TGraph} {a1 : Int} {r : (List Int)} (hD : L_graph_Out a0 a1 = some r) :
  CallH Try.prog 109 [.agg (cTGraph a0),.one (.d (.int .i64 a1))] []
   (.one (.d (.sl (List.map eI r)))) [] :=
 (L_graph_Out_own hD).fr

theorem L_graph_Dist_own {a0 : TGraph} {a1 : Int} {r : (List Int)} (hD : L_graph_Dist a0 a1 = some r) :
  CallH Try.prog 99 [.agg (cTGraph a0),.one (.d (.int .i64 a1))] []
   (.one (.own (1,0) r.length)) [((1,0),some (.row 3 1 (dat (List.map eI r))))] := by
 unfold L_graph_Dist at hD
 refine rc Try.func99 rfl Try.ntmps99 fun S Φ P0 wb ac h => ?_
 refine qs 3 [] [1,2] [(1,0)] h fun ac wd h => ?_
 refine wp_scope_straight ?_
 refine wp_seq ?_
 obtain ⟨aa,ab,hD⟩ := oB hD
 have ad := L_graph_Graph_node_ok ab
 refine qs 7 [factE 5 ad] [1,2,14] [(1,0)] h fun ac wd h => ?_
 rcases i2b hD with ⟨ae,hD⟩ | ⟨ae,hD⟩
 ·
  refine kF h ?_
  refine wp_skip ?_
  change Code.wp Try.prog _ _ _ _
  obtain ⟨af,ag,hD⟩ := oB hD
  have ah := ((L_slices_Repeat_int_int_own ag).cls 10).z
  refine qs 12 [factO ah] [1,2,5] [(1,0),(10,0)] h fun ac wd h => ?_
  obtain ⟨ai,aj,ak,al,am,hD⟩ := aB hD
  refine qs 16 [] [1,2,5] [(1,0),(10,0)] h fun ac wd h => ?_
  refine qs 19 [] [2,5,6] [(1,0),(10,0),(17,0)] h fun ac wd h => ?_
  refine wp_seq ?_
  refine wp_label ?_
  change Code.wp Try.prog _ _ _ _
  refine wp_seq ?_
  refine wp_block ?_
  refine r_while (fun nf ac wd => ∃ (an : List Int) (ao : List Int),L_graph_Dist_l1 a0 nf an ao = some r ∧ SL ⟨wb,S,Φ,P0⟩ 65 179 [(2,.one (.ptr (1,0) 0)),(5,.one (.own (10,0) an.length)),(6,.one (.own (17,0) ao.length))] [((1,0),some (.box 25 (cTGraph a0))),((10,0),some (.row 3 1 (dat (List.map eI an)))),((17,0),some (.row 3 1 (dat (List.map eI ao))))] ac wd) (a0.N.toNat + 2) ⟨(af.set a1.toNat 0),[a1],hD,h.z⟩ (fun nf ac wd hJ => ?_)
  obtain ⟨an,ao,ap,h⟩ := hJ
  cases nf with
  | zero => rw [L_graph_Dist_l1] at ap; cases ap
  | succ nf =>
   rw [L_graph_Dist_l1] at ap
   refine wp_block ?_
   refine wp_seq ?_
   refine qs 182 [] [2,5,6,26] [(1,0),(10,0),(17,0)] h fun ac wd h => ?_
   rcases i2e ap with ⟨aq,ap⟩ | ⟨aq,ap⟩
   ·
    refine kT h ?_
    refine wp_exit ?_
    change Code.wp Try.prog _ _ _ _
    refine qs 184 [] [4] [(10,0)] h fun ac wd h => ?_
    refine wp_ret ?_
    have h := h.sw (1,0) (10,0) 184
    injection ap with ap
    subst ap
    exact rO h [.tmp 4] [(1,0)]
   ·
    refine kF h ?_
    refine wp_skip ?_
    change Code.wp Try.prog _ _ _ _
    obtain ⟨ar,au,av,aw,ax,ap⟩ := aN 0 ap
    refine qs 186 [] [2,5,6,7] [(1,0),(10,0),(17,0)] h fun ac wd h => ?_
    obtain ⟨ay,ap⟩ := iT ap
    have az : 1 + (ao.length - 1) ≤ ao.length := by omega
    refine qs 189 [] [2,5,6,7] [(1,0),(10,0),(17,0)] h fun ac wd h => ?_
    obtain ⟨aA,aC,ap⟩ := oB ap
    have aD := L_graph_Out_ok aC
    refine qs 194 [factE 191 aD] [2,5,6,7,34,35,36] [(1,0),(10,0),(17,0)] h fun ac wd h => ?_
    obtain ⟨aE,aF,ap⟩ := Option.bind_eq_some_iff.1 ap
    refine r_meetQ (fun ac wd => ∃ (aG : List Int) (aH : List Int),(aG,aH) = aE ∧ SL ⟨wb,S,Φ,P0⟩ 65 259 [(2,.one (.ptr (1,0) 0)),(5,.one (.own (10,0) aG.length)),(6,.one (.own (17,0) aH.length))] [((1,0),some (.box 25 (cTGraph a0))),((10,0),some (.row 3 1 (dat (List.map eI aG)))),((17,0),some (.row 3 1 (dat (List.map eI aH))))] ac wd) ?_ ?_
    ·
     refine wp_block ?_
     have h := h.sm 194 [(2,.one (.ptr (1,0) 0)),(5,.one (.own (10,0) an.length)),(6,.one (.sub (17,0) 1 1 (ao.length - 1))),(7,.one (.d (.int .i64 ar))),(34,.one (.d (.sl (List.map eI aA)))),(35,.one (.d (.int .i64 (aA.length : Int)))),(36,.one (.d (.int .i64 0)))]
      [((1,0),some (.box 25 (cTGraph a0))),((10,0),some (.row 3 1 (dat (List.map eI an)))),((17,0),some (.row 3 1 (dat (List.map eI ao))))]
     have h := SL.tail h 6 (17,0) (by simp only [EZ,simprocAttr, *] <;> rfl) (by simp only [EZ,simprocAttr, *] <;> rfl) (by simp only [EZ,simprocAttr, *] <;> omega) rfl (by simp only [noIdF,EZ,simprocAttr, *] <;> rfl) (by simp only [noIdM,EZ,simprocAttr, *] <;> rfl)
     refine r_while (fun nf ac wd => ∃ (aI : Int) (aJ : List Int) (aK : List Int),L_graph_Dist_l2 a0 aA ar nf aI aJ aK = some aE ∧ SL ⟨wb,S,Φ,P0⟩ 65 258 [(2,.one (.ptr (1,0) 0)),(5,.one (.own (10,0) aJ.length)),(6,.one (.own (17,0) aK.length)),(7,.one (.d (.int .i64 ar))),(34,.one (.d (.sl (List.map eI aA)))),(35,.one (.d (.int .i64 (aA.length : Int)))),(36,.one (.d (.int .i64 aI)))] [((1,0),some (.box 25 (cTGraph a0))),((10,0),some (.row 3 1 (dat (List.map eI aJ)))),((17,0),some (.row 3 1 (dat (List.map eI aK))))] ac wd) (((aA.length : Int) - 0).toNat + 1) ⟨0,an,(ao.drop 1),aF,h.z⟩ (fun nf ac wd hJ => ?_)
     obtain ⟨aI,aJ,aK,aL,h⟩ := hJ
     cases nf with
     | zero => rw [L_graph_Dist_l2] at aL; cases aL
     | succ nf =>
      rw [L_graph_Dist_l2] at aL
      refine qs 259 [] [2,5,6,7,34,35,36,37] [(1,0),(10,0),(17,0)] h fun ac wd h => ?_
      refine wp_seq ?_
      rcases i2 aL with ⟨aM,aL⟩ | ⟨aM,aL⟩
      ·
       refine kT h ?_
       refine wp_skip ?_
       change Code.wp Try.prog _ _ _ _
       obtain ⟨aO,aP,aL⟩ := Option.bind_eq_some_iff.1 aL
       refine r_seqJ (fun ac wd => ∃ (aQ : List Int) (aR : List Int),(aQ,aR) = aO ∧ SL ⟨wb,S,Φ,P0⟩ 65 288 [(2,.one (.ptr (1,0) 0)),(5,.one (.own (10,0) aQ.length)),(6,.one (.own (286,0) aR.length)),(7,.one (.d (.int .i64 ar))),(34,.one (.d (.sl (List.map eI aA)))),(35,.one (.d (.int .i64 (aA.length : Int)))),(36,.one (.d (.int .i64 aI)))] [((1,0),some (.box 25 (cTGraph a0))),((10,0),some (.row 3 1 (dat (List.map eI aQ)))),((286,0),some (.row 3 1 (dat (List.map eI aR))))] ac wd) ?_ ?_
       ·
        refine wp_block ?_
        obtain ⟨aS,aT,aU,aV,aW,aP⟩ := aB aP
        refine qs 262 [] [2,5,6,7,9,34,35,36] [(1,0),(10,0),(17,0)] h fun ac wd h => ?_
        obtain ⟨aX,aY,aZ,ba,bb,aP⟩ := aB aP
        refine qs 269 [] [2,5,6,7,10,34,35,36] [(1,0),(10,0),(17,0)] h fun ac wd h => ?_
        obtain ⟨bc,bd,be,bf,bg,aP⟩ := aB aP
        refine qs 274 [] [2,5,6,7,10,34,35,36,50] [(1,0),(10,0),(17,0)] h fun ac wd h => ?_
        rcases i2 aP with ⟨bh,aP⟩ | ⟨bh,aP⟩
        ·
         refine kT h ?_
         obtain ⟨bi,bj,bk,bl,bm,aP⟩ := aB aP
         refine qs 283 [] [2,5,6,7,10,34,35,36] [(1,0),(10,0),(17,0)] h fun ac wd h => ?_
         obtain ⟨bn,aP⟩ := iT aP
         refine qe [] [2,5,6,7,34,35,36] [(1,0),(10,0),(286,0)] h fun ac wd h => ?_
         injection aP with aP; subst aP
         exact ⟨(aJ.set aX.a1.toNat (IntKind.wrap .i64 (bi + 1))),(aK ++ [aX.a1]),rfl,h.z⟩
        ·
         refine kF h ?_
         refine wp_skip ?_
         have h := h.sw (286,0) (17,0) 288
         injection aP with aP; subst aP
         exact ⟨aJ,aK,rfl,h.z⟩
       ·
        rintro ac wd ⟨aQ,aR,rfl,h⟩
        (try dsimp only at aL)
        refine qe [] [2,5,6,7,34,35,36] [(1,0),(10,0),(286,0)] h fun ac wd h => ?_
        have h := h.sw (17,0) (286,0) 290
        exact ⟨nf,Nat.lt_succ_self nf,(IntKind.wrap .i64 (aI + 1)),aQ,aR,aL,h.z⟩
      ·
       refine kF h ?_
       refine wp_exit ?_
       injection aL with aL; subst aL
       exact ⟨aJ,aK,rfl,h.z⟩
    ·
     rintro ac wd ⟨aG,aH,rfl,h⟩
     (try dsimp only at ap)
     exact ⟨nf,Nat.lt_succ_self nf,aG,aH,ap,h.z⟩
 ·
  refine kT h ?_
  refine qs 8 [] [4] [] h fun ac wd h => ?_
  refine wp_ret ?_
  have h := SL.bornS h 4 3 1 (by simp only [EZ,simprocAttr, *] <;> rfl)
  have h := h.sw (1,0) (8,0) 9
  injection hD with hD
  subst hD
  exact rO h [.tmp 4] [(1,0)]
theorem L_graph_Dist_ok {a0 : TGraph} {a1 : Int} {r : (List Int)} (hD : L_graph_Dist a0 a1 = some r) :
  CallH Try.prog 99 [.agg (cTGraph a0),.one (.d (.int .i64 a1))] []
   (.one (.d (.sl (List.map eI r)))) [] :=
 (L_graph_Dist_own hD).fr

theorem L_slices_Index_int_int_ok {a0 : (List Int)} {a1 : Int} {r : Int} (hD : L_slices_Index_int_int a0 a1 = some r) :
  CallH Try.prog 83 [.one (.d (.sl (List.map eI a0))),.one (.d (.int .i64 a1))] []
   (.one (.d (.int .i64 r))) [] := by
 unfold L_slices_Index_int_int at hD
 refine rc Try.func83 rfl Try.ntmps83 fun S Φ P0 wb ac h => ?_
 refine qs 2 [] [0,1] [] h fun ac wd h => ?_
 refine wp_seq ?_
 refine qs 5 [] [0,1,7,8] [] h fun ac wd h => ?_
 refine wp_block ?_
 refine r_while (fun nf ac wd => ∃ (aa : Int),L_slices_Index_int_int_l1 a0 a1 nf aa = some r ∧ SL ⟨wb,S,Φ,P0⟩ 19 27 [(0,.one (.d (.sl (List.map eI a0)))),(1,.one (.d (.int .i64 a1))),(7,.one (.d (.int .i64 (a0.length : Int)))),(8,.one (.d (.int .i64 aa)))] [] ac wd) (((a0.length : Int) - 0).toNat + 1) ⟨0,hD,h.z⟩ (fun nf ac wd hJ => ?_)
 obtain ⟨aa,ab,h⟩ := hJ
 cases nf with
 | zero => rw [L_slices_Index_int_int_l1] at ab; cases ab
 | succ nf =>
  rw [L_slices_Index_int_int_l1] at ab
  refine qs 28 [] [0,1,7,8,9] [] h fun ac wd h => ?_
  refine wp_seq ?_
  rcases i2 ab with ⟨ad,ab⟩ | ⟨ad,ab⟩
  ·
   refine kT h ?_
   refine wp_skip ?_
   change Code.wp Try.prog _ _ _ _
   refine wp_seq ?_
   refine wp_block ?_
   refine qs 30 [] [0,1,5,7,8] [] h fun ac wd h => ?_
   obtain ⟨ae,af,ag,ah,ai,ab⟩ := aB ab
   refine qs 36 [] [0,1,5,7,8,16] [] h fun ac wd h => ?_
   rcases i2e ab with ⟨aj,ab⟩ | ⟨aj,ab⟩
   ·
    refine kT h ?_
    refine qs 38 [] [4] [] h fun ac wd h => ?_
    refine wp_ret ?_
    injection ab with ab
    subst ab
    exact rE h [.tmp 4]
   ·
    refine kF h ?_
    refine wp_skip ?_
    change Code.wp Try.prog _ _ _ _
    refine qe [] [0,1,7,8] [] h fun ac wd h => ?_
    exact ⟨nf,Nat.lt_succ_self nf,(IntKind.wrap .i64 (aa + 1)),ab,h.z⟩
  ·
   refine kF h ?_
   refine wp_exit ?_
   change Code.wp Try.prog _ _ _ _
   refine qs 29 [] [4] [] h fun ac wd h => ?_
   refine wp_ret ?_
   injection ab with ab
   subst ab
   exact rE h [.tmp 4]

theorem L_slices_Contains_int_int_ok {a0 : (List Int)} {a1 : Int} {r : Bool} (hD : L_slices_Contains_int_int a0 a1 = some r) :
  CallH Try.prog 76 [.one (.d (.sl (List.map eI a0))),.one (.d (.int .i64 a1))] []
   (.one (.d (.bool r))) [] := by
 unfold L_slices_Contains_int_int at hD
 refine rc Try.func76 rfl Try.ntmps76 fun S Φ P0 wb ac h => ?_
 refine qs 2 [] [0,1] [] h fun ac wd h => ?_
 obtain ⟨r7,ab,hD⟩ := oB hD
 have ad := L_slices_Index_int_int_ok ab
 refine qs 7 [factE 4 ad] [4] [] h fun ac wd h => ?_
 refine wp_ret ?_
 injection hD with hD
 subst hD
 exact rE h [.tmp 4]

theorem L_graph_Right_ok {a0 : TGraph} {r : Bool} (hD : L_graph_Right a0 = some r) :
  CallH Try.prog 55 [.agg (cTGraph a0)] []
   (.one (.d (.bool r))) [] := by
 unfold L_graph_Right at hD
 refine rc Try.func55 rfl Try.ntmps55 fun S Φ P0 wb ac h => ?_
 refine qs 3 [] [1] [(1,0)] h fun ac wd h => ?_
 refine wp_seq ?_
 obtain ⟨aa,ab,hD⟩ := Option.bind_eq_some_iff.1 hD
 refine r_seqJ (fun ac wd => ∃ (ad : Bool),ad = aa ∧ SL ⟨wb,S,Φ,P0⟩ 79 17 [(1,.one (.ptr (1,0) 0)),(21,.one (.d (.bool ad)))] [((1,0),some (.box 25 (cTGraph a0)))] ac wd) ?_ ?_
 ·
  rcases i2 ab with ⟨ae,ab⟩ | ⟨ae,ab⟩
  ·
   refine qeg [] [none,none,none,none,some (some 11,false),some (some 11,false),some (some 11,false),none,none,some (some 16,false),some (some 16,false),some (some 16,false),some (some 16,false),none] [1,21] [(1,0)] h fun ac wd h => ?_
   injection ab with ab; subst ab
   exact ⟨true,rfl,h.z⟩
  ·
   rcases i2 ab with ⟨af,ab⟩ | ⟨af,ab⟩
   ·
    refine qeg [] [none,none,none,none,some (some 11,false),some (some 11,false),some (some 11,false),none,none,some (some 16,false),some (some 16,false),some (some 16,false),some (some 16,false),none] [1,21] [(1,0)] h fun ac wd h => ?_
    injection ab with ab; subst ab
    exact ⟨true,rfl,h.z⟩
   ·
    refine qeg [] [none,none,none,none,some (some 11,false),some (some 11,false),some (some 11,false),none,none,some (some 16,false),some (some 16,false),some (some 16,false),some (some 16,false),none] [1,21] [(1,0)] h fun ac wd h => ?_
    injection ab with ab; subst ab
    exact ⟨decide ((a0.Links.length : Int) > 30),rfl,h.z⟩
 ·
  rintro ac wd ⟨ad,rfl,h⟩
  (try dsimp only at hD)
  rcases i2b hD with ⟨ag,hD⟩ | ⟨ag,hD⟩
  ·
   refine kT h ?_
   refine qs 18 [] [2] [] h fun ac wd h => ?_
   refine wp_ret ?_
   injection hD with hD
   subst hD
   exact rE h [.tmp 2]
  ·
   refine kF h ?_
   refine wp_skip ?_
   change Code.wp Try.prog _ _ _ _
   refine qs 19 [] [1,3] [(1,0),(17,0)] h fun ac wd h => ?_
   refine wp_seq ?_
   refine qs 23 [] [1,3,24,25,26] [(1,0),(17,0)] h fun ac wd h => ?_
   obtain ⟨ah,ai,hD⟩ := Option.bind_eq_some_iff.1 hD
   refine r_meet (fun ac wd => ∃ (aj : NMap),(.inl aj) = ah ∧ SL ⟨wb,S,Φ,P0⟩ 79 102 [(1,.one (.ptr (1,0) 0)),(3,.one (.mp (17,0)))] [((1,0),some (.box 25 (cTGraph a0))),((17,0),some (.map 126 3 true 2 (mE aj)))] ac wd) ?_ ?_
   ·
    refine wp_block ?_
    refine r_while (fun nf ac wd => ∃ (ak : Int) (al : NMap),L_graph_Right_l1 a0 nf ak al = some ah ∧ SL ⟨wb,S,Φ,P0⟩ 79 101 [(1,.one (.ptr (1,0) 0)),(3,.one (.mp (17,0))),(24,.one (.d (.sl (List.map eA2I a0.Links)))),(25,.one (.d (.int .i64 (a0.Links.length : Int)))),(26,.one (.d (.int .i64 ak)))] [((1,0),some (.box 25 (cTGraph a0))),((17,0),some (.map 126 3 true 2 (mE al)))] ac wd) (((a0.Links.length : Int) - 0).toNat + 1) ⟨0,([] : NMap),ai,h.z⟩ (fun nf ac wd hJ => ?_)
    obtain ⟨ak,al,am,h⟩ := hJ
    cases nf with
    | zero => rw [L_graph_Right_l1] at am; cases am
    | succ nf =>
     rw [L_graph_Right_l1] at am
     refine qs 102 [] [1,3,24,25,26,27] [(1,0),(17,0)] h fun ac wd h => ?_
     refine wp_seq ?_
     rcases i2 am with ⟨an,am⟩ | ⟨an,am⟩
     ·
      refine kT h ?_
      refine wp_skip ?_
      change Code.wp Try.prog _ _ _ _
      refine wp_seq ?_
      refine wp_block ?_
      obtain ⟨ao,ap,aq,ar,au,am⟩ := aB am
      refine qs 106 [] [1,3,5,24,25,26] [(1,0),(17,0),(104,0)] h fun ac wd h => ?_
      refine wp_seq ?_
      obtain ⟨av,aw,am⟩ := Option.bind_eq_some_iff.1 am
      refine r_seqJ (fun ac wd => ∃ (ax : Bool),ax = av ∧ SL ⟨wb,S,Φ,P0⟩ 79 131 [(1,.one (.ptr (1,0) 0)),(3,.one (.mp (17,0))),(5,.one (.ptr (104,0) 0)),(24,.one (.d (.sl (List.map eA2I a0.Links)))),(25,.one (.d (.int .i64 (a0.Links.length : Int)))),(26,.one (.d (.int .i64 ak))),(54,.one (.d (.bool ax)))] [((1,0),some (.box 25 (cTGraph a0))),((17,0),some (.map 126 3 true 2 (mE al))),((104,0),some (.box 126 (cA2I ao)))] ac wd) ?_ ?_
      ·
       obtain ⟨ay,az,aw⟩ := oB aw
       rcases i2b aw with ⟨aA,aw⟩ | ⟨aA,aw⟩
       ·
        obtain ⟨aC,aD,aw⟩ := oB aw
        rcases i2b aw with ⟨aE,aw⟩ | ⟨aE,aw⟩
        ·
         rcases i2e aw with ⟨aF,aw⟩ | ⟨aF,aw⟩
         ·
          have aG := L_graph_Graph_node_ok az
          have aH := L_graph_Graph_node_ok aD
          refine qeg [factE 109 aG,factE 115 aH] [none,none,none,none,none,none,some (some 35,false),some (some 35,false),some (some 35,false),some (some 35,false),some (some 35,false),none,none,some (some 42,false),some (some 42,false),some (some 42,false),some (some 42,false),some (some 42,false),none,none,some (some 49,false),some (some 49,false),some (some 49,false),some (some 49,false),none] [1,3,5,24,25,26,54] [(1,0),(17,0),(104,0)] h fun ac wd h => ?_
          injection aw with aw; subst aw
          exact ⟨true,rfl,h.z⟩
         ·
          have aG := L_graph_Graph_node_ok az
          have aH := L_graph_Graph_node_ok aD
          refine qeg [factE 109 aG,factE 115 aH] [none,none,none,none,none,none,some (some 35,false),some (some 35,false),some (some 35,false),some (some 35,false),some (some 35,false),none,none,some (some 42,false),some (some 42,false),some (some 42,false),some (some 42,false),some (some 42,false),none,none,some (some 49,false),some (some 49,false),some (some 49,false),some (some 49,false),none] [1,3,5,24,25,26,54] [(1,0),(17,0),(104,0)] h fun ac wd h => ?_
          injection aw with aw; subst aw
          exact ⟨decide ((mGetI al [ao.a0,ao.a1]) > 0),rfl,h.z⟩
        ·
         have aG := L_graph_Graph_node_ok az
         have aH := L_graph_Graph_node_ok aD
         refine qeg [factE 109 aG,factE 115 aH] [none,none,none,none,none,none,some (some 35,false),some (some 35,false),some (some 35,false),some (some 35,false),some (some 35,false),none,none,some (some 42,false),some (some 42,false),some (some 42,false),some (some 42,false),some (some 42,false),none,none,some (some 49,false),some (some 49,false),some (some 49,false),some (some 49,false),none] [1,3,5,24,25,26,54] [(1,0),(17,0),(104,0)] h fun ac wd h => ?_
         injection aw with aw; subst aw
         exact ⟨true,rfl,h.z⟩
       ·
        have aG := L_graph_Graph_node_ok az
        refine qeg [factE 109 aG] [none,none,none,none,none,none,some (some 35,false),some (some 35,false),some (some 35,false),some (some 35,false),some (some 35,false),none,none,some (some 42,false),some (some 42,false),some (some 42,false),some (some 42,false),some (some 42,false),none,none,some (some 49,false),some (some 49,false),some (some 49,false),some (some 49,false),none] [1,3,5,24,25,26,54] [(1,0),(17,0),(104,0)] h fun ac wd h => ?_
        injection aw with aw; subst aw
        exact ⟨true,rfl,h.z⟩
      ·
       rintro ac wd ⟨ax,rfl,h⟩
       (try dsimp only at am)
       rcases i2b am with ⟨aI,am⟩ | ⟨aI,am⟩
       ·
        refine kT h ?_
        refine qs 132 [] [2] [] h fun ac wd h => ?_
        refine wp_ret ?_
        injection am with am
        subst am
        (try dsimp only at hD)
        injection hD with hD
        subst hD
        exact rE h [.tmp 2]
       ·
        refine kF h ?_
        refine wp_skip ?_
        change Code.wp Try.prog _ _ _ _
        refine de [] [1,3,24,25,26] [(1,0),(17,0)] h fun ac wd h => ?_
        change Code.wp Try.prog _ _ _ _
        refine qe [] [1,3,24,25,26] [(1,0),(17,0)] h fun ac wd h => ?_
        exact ⟨nf,Nat.lt_succ_self nf,(IntKind.wrap .i64 (ak + 1)),(mPutI al [ao.a0,ao.a1] (IntKind.wrap .i64 ((mGetI al [ao.a0,ao.a1]) + 1))),am,h.z⟩
     ·
      refine kF h ?_
      refine wp_exit ?_
      injection am with am; subst am
      exact ⟨al,rfl,h.z⟩
   ·
    rintro ac wd ⟨aj,rfl,h⟩
    (try dsimp only at hD)
    refine wp_seq ?_
    refine qs 106 [] [1,3,63,64,65] [(1,0),(17,0)] h fun ac wd h => ?_
    obtain ⟨aJ,aK,hD⟩ := Option.bind_eq_some_iff.1 hD
    refine r_meet (fun ac wd => (.inl ()) = aJ ∧ SL ⟨wb,S,Φ,P0⟩ 79 131 [(1,.one (.ptr (1,0) 0))] [((1,0),some (.box 25 (cTGraph a0)))] ac wd) ?_ ?_
    ·
     refine wp_block ?_
     refine r_while (fun nf ac wd => ∃ (aL : Int),L_graph_Right_l2 a0 aj nf aL = some aJ ∧ SL ⟨wb,S,Φ,P0⟩ 79 130 [(1,.one (.ptr (1,0) 0)),(3,.one (.mp (17,0))),(63,.one (.d (.sl (List.map eA2I a0.Links)))),(64,.one (.d (.int .i64 (a0.Links.length : Int)))),(65,.one (.d (.int .i64 aL)))] [((1,0),some (.box 25 (cTGraph a0))),((17,0),some (.map 126 3 true 2 (mE aj)))] ac wd) (((a0.Links.length : Int) - 0).toNat + 1) ⟨0,aK,h.z⟩ (fun nf ac wd hJ => ?_)
     obtain ⟨aL,aM,h⟩ := hJ
     cases nf with
     | zero => rw [L_graph_Right_l2] at aM; cases aM
     | succ nf =>
      rw [L_graph_Right_l2] at aM
      refine qs 131 [] [1,3,63,64,65,66] [(1,0),(17,0)] h fun ac wd h => ?_
      refine wp_seq ?_
      rcases i2 aM with ⟨aN,aM⟩ | ⟨aN,aM⟩
      ·
       refine kT h ?_
       refine wp_skip ?_
       change Code.wp Try.prog _ _ _ _
       refine wp_seq ?_
       refine wp_block ?_
       obtain ⟨aO,aP,aQ,aR,aS,aM⟩ := aB aM
       refine qs 135 [] [1,3,7,63,64,65] [(1,0),(17,0),(133,0)] h fun ac wd h => ?_
       obtain ⟨aT,aU,aM⟩ := oB aM
       have aV := L_graph_turned_ok aU
       refine qs 140 [factE 137 aV] [1,3,63,64,65,73] [(1,0),(17,0)] h fun ac wd h => ?_
       rcases i2e aM with ⟨aW,aM⟩ | ⟨aW,aM⟩
       ·
        refine kT h ?_
        refine qs 141 [] [2] [] h fun ac wd h => ?_
        refine wp_ret ?_
        injection aM with aM
        subst aM
        (try dsimp only at hD)
        injection hD with hD
        subst hD
        exact rE h [.tmp 2]
       ·
        refine kF h ?_
        refine wp_skip ?_
        change Code.wp Try.prog _ _ _ _
        refine qe [] [1,3,63,64,65] [(1,0),(17,0)] h fun ac wd h => ?_
        exact ⟨nf,Nat.lt_succ_self nf,(IntKind.wrap .i64 (aL + 1)),aM,h.z⟩
      ·
       refine kF h ?_
       refine wp_exit ?_
       injection aM with aM; subst aM
       exact ⟨rfl,h.z⟩
    ·
     rintro ac wd ⟨rfl,h⟩
     (try dsimp only at hD)
     obtain ⟨aX,aY,hD⟩ := oB hD
     obtain ⟨aZ,ba,hD⟩ := oB hD
     have bb := L_graph_Dist_ok aY
     have bc := L_slices_Contains_int_int_ok ba
     refine qs 136 [factE 132 bb,factE 133 bc] [2] [] h fun ac wd h => ?_
     refine wp_ret ?_
     injection hD with hD
     subst hD
     exact rE h [.tmp 2]

theorem L_table_place_may_1_own {a0 : TPlace} {r : Bool × TPlace} (hD : L_table_place_may_1 a0 = some r) :
  CallH Try.prog 100 [.one (.ptr (0,0) 0)] [((0,0),some (.box 139 (cTPlace a0)))]
   (.one (.d (.bool r.1))) [((0,0),some (.box 139 (cTPlace r.2)))] := by
 unfold L_table_place_may_1 at hD
 refine rc Try.func100 rfl Try.ntmps100 fun S Φ P0 wb ac h => ?_
 refine qs 2 [] [0] [(0,0)] h fun ac wd h => ?_
 obtain ⟨e8,ab,hD⟩ := Option.bind_eq_some_iff.1 hD
 refine r_seqJ (fun ac wd => ∃ (b7 : Bool),b7 = e8 ∧ SL ⟨wb,S,Φ,P0⟩ 12 13 [(1,.one (.d (.bool b7)))] [((0,0),some (.box 139 (cTPlace a0)))] ac wd) ?_ ?_
 ·
  rcases i2 ab with ⟨ae,ab⟩ | ⟨ae,ab⟩
  ·
   refine qeg [] [none,none,none,none,none,some (some 6,true),some (some 6,true),some (some 6,true),some (some 6,true),none,none] [1] [(0,0)] h fun ac wd h => ?_
   injection ab with ab; subst ab
   exact ⟨decide (a0.State.Mode < 3),rfl,h.z⟩
  ·
   refine qeg [] [none,none,none,none,none,some (some 6,true),some (some 6,true),some (some 6,true),some (some 6,true),none,none] [1] [(0,0)] h fun ac wd h => ?_
   injection ab with ab; subst ab
   exact ⟨false,rfl,h.z⟩
 ·
  rintro ac wd ⟨b7,rfl,h⟩
  (try dsimp only at hD)
  refine wp_ret ?_
  injection hD with hD
  subst hD
  exact rO h [.tmp 1] [(0,0)]

end Go.Proofs.Ytabbejabdkkaiaa
