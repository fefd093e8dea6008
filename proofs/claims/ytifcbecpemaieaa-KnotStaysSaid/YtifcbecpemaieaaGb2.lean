/- Functions as typed ones,and that the program's functions answer as these do. No condition. -/
import Derived.Test.YtifcbecpemaieaaGb1
import Derived.Test.YtifcbecpemaieaaGd
set_option linter.unusedSimpArgs false
set_option linter.unusedVariables false
set_option maxRecDepth 20000
set_option maxHeartbeats 4000000
namespace Go.Proofs.Ytifcbecpemaieaa
open Go.RowKit

theorem L_ref04_Right_ok {a0 : (List TNode)} {a1 : TGraph} {r : Bool} (hD : L_ref04_Right a0 a1 = some r) :
  CallH Try.prog 27 [.one (.d (.sl (List.map eTNode a0))),.agg (cTGraph a1)] []
   (.one (.d (.bool r))) [] := by
 unfold L_ref04_Right at hD
 refine rc Try.func27 rfl Try.ntmps27 fun S Φ P0 wb ac h => ?_
 refine qs 3 [] [0,3] [(1,0)] h fun ac wd h => ?_
 refine wp_seq ?_
 obtain ⟨e2345,hE2346,hD⟩ := Option.bind_eq_some_iff.1 hD
 refine r_seqJ (fun ac wd => ∃ (b2344 : Bool),b2344 = e2345 ∧ SL ⟨wb,S,Φ,P0⟩ 101 13 [(0,.one (.d (.sl (List.map eTNode a0)))),(3,.one (.ptr (1,0) 0)),(18,.one (.d (.bool b2344)))] [((1,0),some (.box 35 (cTGraph a1)))] ac wd) ?_ ?_
 ·
  obtain ⟨r2347,hc2348,hE2346⟩ := oB hE2346
  rcases i2b hE2346 with ⟨hb2349,hE2346⟩ | ⟨hb2349,hE2346⟩
  ·
   have hc2348k := L_ref03_Right_ok hc2348
   refine qeg [factE 4 hc2348k] [none,none,none,none,some (some 12,false),some (some 12,false),some (some 12,false),some (some 12,false),some (some 12,false),none] [0,3,18] [(1,0)] h fun ac wd h => ?_
   injection hE2346 with hE2346; subst hE2346
   exact ⟨!(decide ((a0.length : Int) = a1.N)),rfl,h.z⟩
  ·
   have hc2348k := L_ref03_Right_ok hc2348
   refine qeg [factE 4 hc2348k] [none,none,none,none,some (some 12,false),some (some 12,false),some (some 12,false),some (some 12,false),some (some 12,false),none] [0,3,18] [(1,0)] h fun ac wd h => ?_
   injection hE2346 with hE2346; subst hE2346
   exact ⟨true,rfl,h.z⟩
 ·
  rintro ac wd ⟨b2344,rfl,h⟩
  (try dsimp only at hD)
  rcases i2b hD with ⟨hb2351,hD⟩ | ⟨hb2351,hD⟩
  ·
   refine kT h ?_
   refine qs 14 [] [4] [] h fun ac wd h => ?_
   refine wp_ret ?_
   injection hD with hD
   subst hD
   exact rE h [.tmp 4]
  ·
   refine kF h ?_
   refine wp_skip ?_
   change Code.wp Try.prog _ _ _ _
   refine wp_seq ?_
   refine qs 14 [] [0,3,5] [(1,0)] h fun ac wd h => ?_
   refine wp_block ?_
   refine r_while (fun nf ac wd => ∃ (n4290 : Int),L_ref04_Right_l1 a0 a1 nf n4290 = some r ∧ SL ⟨wb,S,Φ,P0⟩ 101 296 [(0,.one (.d (.sl (List.map eTNode a0)))),(3,.one (.ptr (1,0) 0)),(5,.one (.d (.int .i64 n4290)))] [((1,0),some (.box 35 (cTGraph a1)))] ac wd) (((a0.length : Int) - 0).toNat + 1) ⟨0,hD,h.z⟩ (fun nf ac wd hJ => ?_)
   obtain ⟨n4290,hL4291,h⟩ := hJ
   cases nf with
   | zero => rw [L_ref04_Right_l1] at hL4291; cases hL4291
   | succ nf =>
    rw [L_ref04_Right_l1] at hL4291
    refine wp_seq ?_
    refine qs 300 [] [0,3,5,22] [(1,0)] h fun ac wd h => ?_
    rcases i2 hL4291 with ⟨hb4293,hL4291⟩ | ⟨hb4293,hL4291⟩
    ·
     refine kT h ?_
     refine wp_skip ?_
     change Code.wp Try.prog _ _ _ _
     obtain ⟨e4485,hE4486,hL4291⟩ := Option.bind_eq_some_iff.1 hL4291
     refine r_seqJ (fun ac wd => (.inl ()) = e4485 ∧ SL ⟨wb,S,Φ,P0⟩ 101 434 [(0,.one (.d (.sl (List.map eTNode a0)))),(3,.one (.ptr (1,0) 0)),(5,.one (.d (.int .i64 n4290)))] [((1,0),some (.box 35 (cTGraph a1)))] ac wd) ?_ ?_
     ·
      refine wp_block ?_
      obtain ⟨x4489,hx4490a,hx4490b,hx4490c,hx4490d,hE4486⟩ := aB hE4486
      refine qs 307 [] [0,3,5,6] [(1,0)] h fun ac wd h => ?_
      refine wp_seq ?_
      obtain ⟨e4495,hE4496,hE4486⟩ := Option.bind_eq_some_iff.1 hE4486
      refine r_seqJ (fun ac wd => ∃ (b4494 : Bool),b4494 = e4495 ∧ SL ⟨wb,S,Φ,P0⟩ 101 330 [(0,.one (.d (.sl (List.map eTNode a0)))),(3,.one (.ptr (1,0) 0)),(5,.one (.d (.int .i64 n4290))),(6,.one (.d (.int .i64 (x4489.States.length : Int)))),(53,.one (.d (.bool b4494)))] [((1,0),some (.box 35 (cTGraph a1)))] ac wd) ?_ ?_
      ·
       rcases i2 hE4496 with ⟨hb4497,hE4496⟩ | ⟨hb4497,hE4496⟩
       ·
        refine qeg [] [none,none,none,some (some 33,false),some (some 33,false),none,none,some (some 37,false),some (some 37,false),some (some 37,false),some (some 37,false),some (some 37,false),some (some 37,false),none,none,some (some 45,false),some (some 45,false),some (some 45,false),some (some 45,false),some (some 45,false),some (some 45,false),some (some 45,false),none] [0,3,5,6,53] [(1,0)] h fun ac wd h => ?_
        injection hE4496 with hE4496; subst hE4496
        exact ⟨true,rfl,h.z⟩
       ·
        rcases i2 hE4496 with ⟨hb4498,hE4496⟩ | ⟨hb4498,hE4496⟩
        ·
         refine qeg [] [none,none,none,some (some 33,false),some (some 33,false),none,none,some (some 37,false),some (some 37,false),some (some 37,false),some (some 37,false),some (some 37,false),some (some 37,false),none,none,some (some 45,false),some (some 45,false),some (some 45,false),some (some 45,false),some (some 45,false),some (some 45,false),some (some 45,false),none] [0,3,5,6,53] [(1,0)] h fun ac wd h => ?_
         injection hE4496 with hE4496; subst hE4496
         exact ⟨true,rfl,h.z⟩
        ·
         rcases i2 hE4496 with ⟨hb4499,hE4496⟩ | ⟨hb4499,hE4496⟩
         ·
          refine qeg [] [none,none,none,some (some 33,false),some (some 33,false),none,none,some (some 37,false),some (some 37,false),some (some 37,false),some (some 37,false),some (some 37,false),some (some 37,false),none,none,some (some 45,false),some (some 45,false),some (some 45,false),some (some 45,false),some (some 45,false),some (some 45,false),some (some 45,false),none] [0,3,5,6,53] [(1,0)] h fun ac wd h => ?_
          injection hE4496 with hE4496; subst hE4496
          exact ⟨true,rfl,h.z⟩
         ·
          refine qeg [] [none,none,none,some (some 33,false),some (some 33,false),none,none,some (some 37,false),some (some 37,false),some (some 37,false),some (some 37,false),some (some 37,false),some (some 37,false),none,none,some (some 45,false),some (some 45,false),some (some 45,false),some (some 45,false),some (some 45,false),some (some 45,false),some (some 45,false),none] [0,3,5,6,53] [(1,0)] h fun ac wd h => ?_
          injection hE4496 with hE4496; subst hE4496
          exact ⟨decide (x4489.Start ≥ (x4489.States.length : Int)),rfl,h.z⟩
      ·
       rintro ac wd ⟨b4494,rfl,h⟩
       (try dsimp only at hE4486)
       rcases i2b hE4486 with ⟨hb4501,hE4486⟩ | ⟨hb4501,hE4486⟩
       ·
        refine kT h ?_
        refine qs 331 [] [4] [] h fun ac wd h => ?_
        refine wp_ret ?_
        injection hE4486 with hE4486
        subst hE4486
        (try dsimp only at hL4291)
        injection hL4291 with hL4291
        subst hL4291
        exact rE h [.tmp 4]
       ·
        refine kF h ?_
        refine wp_skip ?_
        change Code.wp Try.prog _ _ _ _
        refine qs 331 [] [0,3,5,6,7] [(1,0)] h fun ac wd h => ?_
        obtain ⟨e4678,hE4679,hE4486⟩ := Option.bind_eq_some_iff.1 hE4486
        refine r_meetQ (fun ac wd => (.inl ()) = e4678 ∧ SL ⟨wb,S,Φ,P0⟩ 101 434 [(0,.one (.d (.sl (List.map eTNode a0)))),(3,.one (.ptr (1,0) 0)),(5,.one (.d (.int .i64 n4290)))] [((1,0),some (.box 35 (cTGraph a1)))] ac wd) ?_ ?_
        ·
         refine wp_block ?_
         refine r_while (fun nf ac wd => ∃ (n4797 : Int),L_ref04_Right_l2 a1 n4290 x4489 nf n4797 = some e4678 ∧ SL ⟨wb,S,Φ,P0⟩ 101 431 [(0,.one (.d (.sl (List.map eTNode a0)))),(3,.one (.ptr (1,0) 0)),(5,.one (.d (.int .i64 n4290))),(6,.one (.d (.int .i64 (x4489.States.length : Int)))),(7,.one (.d (.int .i64 n4797)))] [((1,0),some (.box 35 (cTGraph a1)))] ac wd) (((x4489.States.length : Int) - 0).toNat + 1) ⟨0,hE4679,h.z⟩ (fun nf ac wd hJ => ?_)
         obtain ⟨n4797,hL4798,h⟩ := hJ
         cases nf with
         | zero => rw [L_ref04_Right_l2] at hL4798; cases hL4798
         | succ nf =>
          rw [L_ref04_Right_l2] at hL4798
          refine wp_seq ?_
          refine qs 434 [] [0,3,5,6,7,56] [(1,0)] h fun ac wd h => ?_
          rcases i2 hL4798 with ⟨hb4800,hL4798⟩ | ⟨hb4800,hL4798⟩
          ·
           refine kT h ?_
           refine wp_skip ?_
           change Code.wp Try.prog _ _ _ _
           refine wp_seq ?_
           refine wp_block ?_
           obtain ⟨x4831,hx4832a,hx4832b,hx4832c,hx4832d,hL4798⟩ := aB hL4798
           refine qs 444 [] [0,3,5,6,7,8] [(1,0),(442,0)] h fun ac wd h => ?_
           obtain ⟨e4844,hE4845,hL4798⟩ := Option.bind_eq_some_iff.1 hL4798
           refine r_seqJ (fun ac wd => ∃ (b4843 : Bool),b4843 = e4844 ∧ SL ⟨wb,S,Φ,P0⟩ 101 478 [(0,.one (.d (.sl (List.map eTNode a0)))),(3,.one (.ptr (1,0) 0)),(5,.one (.d (.int .i64 n4290))),(6,.one (.d (.int .i64 (x4489.States.length : Int)))),(7,.one (.d (.int .i64 n4797))),(100,.one (.d (.bool b4843)))] [((1,0),some (.box 35 (cTGraph a1)))] ac wd) ?_ ?_
           ·
            rcases i2 hE4845 with ⟨hb4846,hE4845⟩ | ⟨hb4846,hE4845⟩
            ·
             refine deg [] [none,none,none,none,some (some 70,false),some (some 70,false),some (some 70,false),none,none,some (some 75,false),some (some 75,false),some (some 75,false),some (some 75,false),some (some 75,false),none,none,some (some 82,false),some (some 82,false),some (some 82,false),some (some 82,false),some (some 82,false),some (some 82,false),none,none,some (some 90,false),some (some 90,false),some (some 90,false),some (some 90,false),some (some 90,false),some (some 90,false),some (some 90,false),some (some 90,false),some (some 90,false),none] [0,3,5,6,7,100] [(1,0)] h fun ac wd h => ?_
             injection hE4845 with hE4845; subst hE4845
             exact ⟨true,rfl,h.z⟩
            ·
             rcases i2 hE4845 with ⟨hb4847,hE4845⟩ | ⟨hb4847,hE4845⟩
             ·
              refine deg [] [none,none,none,none,some (some 70,false),some (some 70,false),some (some 70,false),none,none,some (some 75,false),some (some 75,false),some (some 75,false),some (some 75,false),some (some 75,false),none,none,some (some 82,false),some (some 82,false),some (some 82,false),some (some 82,false),some (some 82,false),some (some 82,false),none,none,some (some 90,false),some (some 90,false),some (some 90,false),some (some 90,false),some (some 90,false),some (some 90,false),some (some 90,false),some (some 90,false),some (some 90,false),none] [0,3,5,6,7,100] [(1,0)] h fun ac wd h => ?_
              injection hE4845 with hE4845; subst hE4845
              exact ⟨true,rfl,h.z⟩
             ·
              obtain ⟨r4848,hc4849,hE4845⟩ := oB hE4845
              rcases i2b hE4845 with ⟨hb4850,hE4845⟩ | ⟨hb4850,hE4845⟩
              ·
               obtain ⟨r4851,hc4852,hE4845⟩ := oB hE4845
               rcases i2b hE4845 with ⟨hb4853,hE4845⟩ | ⟨hb4853,hE4845⟩
               ·
                obtain ⟨r4854,hc4855,hE4845⟩ := oB hE4845
                have hc4849k := L_ref04_waits_ok hc4849
                have hc4852k := L_ref04_picks_ok hc4852
                have hc4855k := L_ref04_takes_ok hc4855
                refine deg [factE 456 hc4849k,factE 464 hc4852k,factE 475 hc4855k] [none,none,none,none,some (some 70,false),some (some 70,false),some (some 70,false),none,none,some (some 75,false),some (some 75,false),some (some 75,false),some (some 75,false),some (some 75,false),none,none,some (some 82,false),some (some 82,false),some (some 82,false),some (some 82,false),some (some 82,false),some (some 82,false),none,none,some (some 90,false),some (some 90,false),some (some 90,false),some (some 90,false),some (some 90,false),some (some 90,false),some (some 90,false),some (some 90,false),some (some 90,false),none] [0,3,5,6,7,100] [(1,0)] h fun ac wd h => ?_
                injection hE4845 with hE4845; subst hE4845
                exact ⟨!(r4854),rfl,h.z⟩
               ·
                have hc4849k := L_ref04_waits_ok hc4849
                have hc4852k := L_ref04_picks_ok hc4852
                refine deg [factE 456 hc4849k,factE 464 hc4852k] [none,none,none,none,some (some 70,false),some (some 70,false),some (some 70,false),none,none,some (some 75,false),some (some 75,false),some (some 75,false),some (some 75,false),some (some 75,false),none,none,some (some 82,false),some (some 82,false),some (some 82,false),some (some 82,false),some (some 82,false),some (some 82,false),none,none,some (some 90,false),some (some 90,false),some (some 90,false),some (some 90,false),some (some 90,false),some (some 90,false),some (some 90,false),some (some 90,false),some (some 90,false),none] [0,3,5,6,7,100] [(1,0)] h fun ac wd h => ?_
                injection hE4845 with hE4845; subst hE4845
                exact ⟨true,rfl,h.z⟩
              ·
               have hc4849k := L_ref04_waits_ok hc4849
               refine deg [factE 456 hc4849k] [none,none,none,none,some (some 70,false),some (some 70,false),some (some 70,false),none,none,some (some 75,false),some (some 75,false),some (some 75,false),some (some 75,false),some (some 75,false),none,none,some (some 82,false),some (some 82,false),some (some 82,false),some (some 82,false),some (some 82,false),some (some 82,false),none,none,some (some 90,false),some (some 90,false),some (some 90,false),some (some 90,false),some (some 90,false),some (some 90,false),some (some 90,false),some (some 90,false),some (some 90,false),none] [0,3,5,6,7,100] [(1,0)] h fun ac wd h => ?_
               injection hE4845 with hE4845; subst hE4845
               exact ⟨true,rfl,h.z⟩
           ·
            rintro ac wd ⟨b4843,rfl,h⟩
            (try dsimp only at hL4798)
            rcases i2b hL4798 with ⟨hb4856,hL4798⟩ | ⟨hb4856,hL4798⟩
            ·
             refine kT h ?_
             refine qs 479 [] [4] [] h fun ac wd h => ?_
             refine wp_ret ?_
             injection hL4798 with hL4798
             subst hL4798
             (try dsimp only at hE4486)
             injection hE4486 with hE4486
             subst hE4486
             (try dsimp only at hL4291)
             injection hL4291 with hL4291
             subst hL4291
             exact rE h [.tmp 4]
            ·
             refine kF h ?_
             refine wp_skip ?_
             change Code.wp Try.prog _ _ _ _
             refine qe [] [0,3,5,6,7] [(1,0)] h fun ac wd h => ?_
             exact ⟨nf,Nat.lt_succ_self nf,(IntKind.wrap .i64 (n4797 + 1)),hL4798,h.z⟩
          ·
           refine kF h ?_
           refine wp_exit ?_
           injection hL4798 with hL4798; subst hL4798
           exact ⟨rfl,h.z⟩
        ·
         rintro ac wd ⟨rfl,h⟩
         (try dsimp only at hE4486)
         injection hE4486 with hE4486; subst hE4486
         exact ⟨rfl,h.z⟩
     ·
      rintro ac wd ⟨rfl,h⟩
      (try dsimp only at hL4291)
      refine qe [] [0,3,5] [(1,0)] h fun ac wd h => ?_
      exact ⟨nf,Nat.lt_succ_self nf,(IntKind.wrap .i64 (n4290 + 1)),hL4291,h.z⟩
    ·
     refine kF h ?_
     refine wp_exit ?_
     change Code.wp Try.prog _ _ _ _
     refine qs 301 [] [4] [] h fun ac wd h => ?_
     refine wp_ret ?_
     injection hL4291 with hL4291
     subst hL4291
     exact rE h [.tmp 4]

theorem L_graph_Graph_node_ok {a0 : TGraph} {a1 : Int} {r : Bool} (hD : L_graph_Graph_node a0 a1 = some r) :
  CallH Try.prog 114 [.agg (cTGraph a0),.one (.d (.int .i64 a1))] []
   (.one (.d (.bool r))) [] := by
 unfold L_graph_Graph_node at hD
 refine rc Try.func114 rfl Try.ntmps114 fun S Φ P0 wb ac h => ?_
 refine qs 3 [] [1,2] [(1,0)] h fun ac wd h => ?_
 obtain ⟨e8,hE9,hD⟩ := Option.bind_eq_some_iff.1 hD
 refine r_seqJ (fun ac wd => ∃ (b7 : Bool),b7 = e8 ∧ SL ⟨wb,S,Φ,P0⟩ 13 12 [(4,.one (.d (.bool b7)))] [] ac wd) ?_ ?_
 ·
  rcases i2 hE9 with ⟨hb10,hE9⟩ | ⟨hb10,hE9⟩
  ·
   refine qeg [] [none,none,none,some (some 7,true),some (some 7,true),some (some 7,true),some (some 7,true),none,none] [4] [] h fun ac wd h => ?_
   injection hE9 with hE9; subst hE9
   exact ⟨decide (a1 < a0.N),rfl,h.z⟩
  ·
   refine qeg [] [none,none,none,some (some 7,true),some (some 7,true),some (some 7,true),some (some 7,true),none,none] [4] [] h fun ac wd h => ?_
   injection hE9 with hE9; subst hE9
   exact ⟨false,rfl,h.z⟩
 ·
  rintro ac wd ⟨b7,rfl,h⟩
  (try dsimp only at hD)
  refine wp_ret ?_
  injection hD with hD
  subst hD
  exact rE h [.tmp 4]

theorem L_graph_turned_ok {a0 : A2I} {r : A2I} (hD : L_graph_turned a0 = some r) :
  CallH Try.prog 115 [.agg (cA2I a0)] []
   (.agg [.d (.int .i64 r.a0),.d (.int .i64 r.a1)]) [] := by
 unfold L_graph_turned at hD
 refine rc Try.func115 rfl Try.ntmps115 fun S Φ P0 wb ac h => ?_
 refine qs 3 [] [1,2] [(1,0),(2,0)] h fun ac wd h => ?_
 refine qs 9 [] [2] [(2,0)] h fun ac wd h => ?_
 refine wp_ret ?_
 injection hD with hD
 subst hD
 exact rE h [.cell 2 97]

theorem L_math_bits_Mul64_ok {a0 : Int} {a1 : Int} {r : Int × Int} (hD : L_math_bits_Mul64 a0 a1 = some r) :
  CallH Try.prog 137 [.one (.d (.int .u64 a0)),.one (.d (.int .u64 a1))] []
   (.tup [.inr (.d (.int .u64 r.1)),.inr (.d (.int .u64 r.2))]) [] := by
 unfold L_math_bits_Mul64 at hD
 refine rc Try.func137 rfl Try.ntmps137 fun S Φ P0 wb ac h => ?_
 refine qs 3 [] [0,1] [] h fun ac wd h => ?_
 refine qs 6 [] [0,1,6] [] h fun ac wd h => ?_
 refine qs 9 [] [0,1,6,7] [] h fun ac wd h => ?_
 refine qs 12 [] [0,1,6,7,8] [] h fun ac wd h => ?_
 refine qs 15 [] [0,1,6,7,8,9] [] h fun ac wd h => ?_
 refine qs 19 [] [0,1,6,7,8,9,10] [] h fun ac wd h => ?_
 refine qs 26 [] [0,1,6,7,9,11] [] h fun ac wd h => ?_
 refine qs 29 [] [0,1,6,7,9,11,12] [] h fun ac wd h => ?_
 refine qs 32 [] [0,1,6,7,9,12,13] [] h fun ac wd h => ?_
 refine qs 38 [] [0,1,7,9,12,13] [] h fun ac wd h => ?_
 refine qs 47 [] [0,1,4] [] h fun ac wd h => ?_
 refine qs 51 [] [4,5] [] h fun ac wd h => ?_
 refine wp_ret ?_
 injection hD with hD
 subst hD
 exact rE h [.tmp 4,.tmp 5]

theorem L_math_bits_Mul_ok {a0 : Int} {a1 : Int} {r : Int × Int} (hD : L_math_bits_Mul a0 a1 = some r) :
  CallH Try.prog 132 [.one (.d (.int .u64 a0)),.one (.d (.int .u64 a1))] []
   (.tup [.inr (.d (.int .u64 r.1)),.inr (.d (.int .u64 r.2))]) [] := by
 unfold L_math_bits_Mul at hD
 refine rc Try.func132 rfl Try.ntmps132 fun S Φ P0 wb ac h => ?_
 refine qs 3 [] [0,1] [] h fun ac wd h => ?_
 refine wp_seq ?_
 refine kF h ?_
 refine wp_skip ?_
 change Code.wp Try.prog _ _ _ _
 obtain ⟨r7,hc8,hD⟩ := oB hD
 have hc8k := L_math_bits_Mul64_ok hc8
 refine qs 11 [factE 5 hc8k] [8,9] [] h fun ac wd h => ?_
 refine qs 15 [] [4,5] [] h fun ac wd h => ?_
 refine wp_ret ?_
 injection hD with hD
 subst hD
 exact rE h [.tmp 4,.tmp 5]

theorem L_slices_Repeat_int_int_own {a0 : (List Int)} {a1 : Int} {r : (List Int)} (hD : L_slices_Repeat_int_int a0 a1 = some r) :
  CallH Try.prog 123 [.one (.d (.sl (List.map eI a0))),.one (.d (.int .i64 a1))] []
   (.one (.own (1,0) r.length)) [((1,0),some (.row 3 1 (dat (List.map eI r))))] := by
 unfold L_slices_Repeat_int_int at hD
 refine rc Try.func123 rfl Try.ntmps123 fun S Φ P0 wb ac h => ?_
 refine qs 2 [] [0,1] [] h fun ac wd h => ?_
 refine wp_seq ?_
 refine qs 4 [] [0,1,10] [] h fun ac wd h => ?_
 rcases i2 hD with ⟨hb94,hD⟩ | ⟨hb94,hD⟩
 ·
  refine kT h ?_
  cases hD
 ·
  refine kF h ?_
  refine wp_skip ?_
  change Code.wp Try.prog _ _ _ _
  obtain ⟨r97,hc98,hD⟩ := oB hD
  have hc98k := L_math_bits_Mul_ok hc98
  refine qs 15 [factE 9 hc98k] [0,5,6] [] h fun ac wd h => ?_
  refine wp_seq ?_
  obtain ⟨e101,hE102,hD⟩ := Option.bind_eq_some_iff.1 hD
  refine r_seqJ (fun ac wd => ∃ (b100 : Bool),b100 = e101 ∧ SL ⟨wb,S,Φ,P0⟩ 48 21 [(0,.one (.d (.sl (List.map eI a0)))),(6,.one (.d (.int .u64 r97.2))),(26,.one (.d (.bool b100)))] [] ac wd) ?_ ?_
  ·
   rcases i2 hE102 with ⟨hb103,hE102⟩ | ⟨hb103,hE102⟩
   ·
    refine qeg [] [none,none,none,some (some 23,false),some (some 23,false),none] [0,6,26] [] h fun ac wd h => ?_
    injection hE102 with hE102; subst hE102
    exact ⟨true,rfl,h.z⟩
   ·
    refine qeg [] [none,none,none,some (some 23,false),some (some 23,false),none] [0,6,26] [] h fun ac wd h => ?_
    injection hE102 with hE102; subst hE102
    exact ⟨decide (r97.2 > 9223372036854775807),rfl,h.z⟩
  ·
   rintro ac wd ⟨b100,rfl,h⟩
   (try dsimp only at hD)
   rcases i2b hD with ⟨hb105,hD⟩ | ⟨hb105,hD⟩
   ·
    refine kT h ?_
    cases hD
   ·
    refine kF h ?_
    refine wp_skip ?_
    change Code.wp Try.prog _ _ _ _
    obtain ⟨ha109,hD⟩ := iT hD
    obtain ⟨ha110,hD⟩ := iT hD
    obtain ⟨ha111,hD⟩ := iT hD
    refine qs 25 [] [0,7] [(23,0)] h fun ac wd h => ?_
    obtain ⟨v115,hv116,hD⟩ := vB hD
    have h := h.same [0,7] [(23,0)] 25 [(0,.one (.d (.sl (List.map eI a0)))),(7,.one (.own (23,0) v115.length))]
     [((23,0),some (.row 3 1 (dat (List.map eI v115))))]
     (by simp only [EZ,simprocAttr,hb94,hb105,ha109,ha110,ha111,dat_open,← hv116] <;> rfl)
    have hl117 : ((a0.take v115.length) ++ v115.drop (a0.take v115.length).length).length = v115.length := by simp only [List.append_assoc,List.length_append,List.length_take,List.length_drop]; omega
    simp only [List.append_assoc,List.length_append,List.length_take,List.length_drop] at hl117
    refine qs 29 [] [7,8] [(23,0)] h fun ac wd h => ?_
    refine wp_seq ?_
    refine wp_block ?_
    refine r_while (fun nf ac wd => ∃ (n172 : Int) (l173 : List Int),L_slices_Repeat_int_int_l1 nf n172 l173 = some r ∧ SL ⟨wb,S,Φ,P0⟩ 48 57 [(7,.one (.own (23,0) l173.length)),(8,.one (.d (.int .i64 n172)))] [((23,0),some (.row 3 1 (dat (List.map eI l173))))] ac wd) (((((a0.take v115.length) ++ v115.drop (a0.take v115.length).length).length : Int) - ((Nat.min a0.length v115.length : Nat) : Int)).toNat + 1) ⟨((Nat.min a0.length v115.length : Nat) : Int),((a0.take v115.length) ++ v115.drop (a0.take v115.length).length),hD,h.z⟩ (fun nf ac wd hJ => ?_)
    obtain ⟨n172,l173,hL174,h⟩ := hJ
    cases nf with
    | zero => rw [L_slices_Repeat_int_int_l1] at hL174; cases hL174
    | succ nf =>
     rw [L_slices_Repeat_int_int_l1] at hL174
     refine wp_seq ?_
     refine qs 61 [] [7,8,37] [(23,0)] h fun ac wd h => ?_
     rcases i2 hL174 with ⟨hb176,hL174⟩ | ⟨hb176,hL174⟩
     ·
      refine kT h ?_
      refine wp_skip ?_
      change Code.wp Try.prog _ _ _ _
      refine wp_block ?_
      obtain ⟨ha177,hL174⟩ := iT hL174
      obtain ⟨ha178,hL174⟩ := iT hL174
      have hq179 : n172.toNat + (l173.length - n172.toNat) ≤ l173.length := by omega
      have hq180 : ¬ l173.length = n172.toNat := by omega
      have hq181 : n172.toNat ≤ l173.length := by omega
      have hl182 : (l173.take n172.toNat ++ ((l173.take n172.toNat).take (((l173.drop n172.toNat).take (l173.length - n172.toNat)).length)) ++ l173.drop (n172.toNat + ((l173.take n172.toNat).take (((l173.drop n172.toNat).take (l173.length - n172.toNat)).length)).length)).length = l173.length := by simp only [List.append_assoc,List.length_append,List.length_take,List.length_drop]; omega
      simp only [List.append_assoc,List.length_append,List.length_take,List.length_drop] at hl182
      refine de [] [7,8] [(23,0)] h fun ac wd h => ?_
      exact ⟨nf,Nat.lt_succ_self nf,(IntKind.wrap .i64 (n172 + ((Nat.min (l173.take n172.toNat).length (((l173.drop n172.toNat).take (l173.length - n172.toNat)).length) : Nat) : Int))),(l173.take n172.toNat ++ ((l173.take n172.toNat).take (((l173.drop n172.toNat).take (l173.length - n172.toNat)).length)) ++ l173.drop (n172.toNat + ((l173.take n172.toNat).take (((l173.drop n172.toNat).take (l173.length - n172.toNat)).length)).length)),hL174,h.z⟩
     ·
      refine kF h ?_
      refine wp_exit ?_
      change Code.wp Try.prog _ _ _ _
      refine qs 63 [] [4] [(23,0)] h fun ac wd h => ?_
      refine wp_ret ?_
      have h := h.sw (1,0) (23,0) 63
      injection hL174 with hL174
      subst hL174
      exact rO h [.tmp 4] [(1,0)]
theorem L_graph_of_v1_own {a0 : TGraph} {a1 : Int} {r : (List Int)} (hD : L_graph_of_v1 a0 a1 = some r) :
  CallH Try.prog 133 [.agg (cTGraph a0),.one (.d (.int .i64 a1)),.one (.d (.int .i64 0))] []
   (.one (.own (1,0) r.length)) [((1,0),some (.row 3 1 (dat (List.map eI r))))] := by
 unfold L_graph_of_v1 at hD
 refine rc Try.func133 rfl Try.ntmps133 fun S Φ P0 wb ac h => ?_
 refine qs 3 [] [1,2,3] [(1,0)] h fun ac wd h => ?_
 refine qs 4 [] [1,2,3,7] [(1,0)] h fun ac wd h => ?_
 refine wp_seq ?_
 refine qs 8 [] [1,2,7,11,12,13] [] h fun ac wd h => ?_
 refine wp_block ?_
 have h := SL.bornS h 7 3 1 (by simp only [EZ,simprocAttr, *] <;> rfl)
 refine r_while (fun nf ac wd => ∃ (n197 : Int) (l198 : List Int),L_graph_of_v1_l1 a0 a1 nf n197 l198 = some r ∧ SL ⟨wb,S,Φ,P0⟩ 29 46 [(1,.one (.d (.int .i64 a1))),(2,.one (.d (.int .i64 0))),(7,.one (.own (8,0) l198.length)),(11,.one (.d (.sl (List.map eA2I a0.Links)))),(12,.one (.d (.int .i64 (a0.Links.length : Int)))),(13,.one (.d (.int .i64 n197)))] [((8,0),some (.row 3 1 (dat (List.map eI l198))))] ac wd) (((a0.Links.length : Int) - 0).toNat + 1) ⟨0,([] : List Int),hD,h.z⟩ (fun nf ac wd hJ => ?_)
 obtain ⟨n197,l198,hL199,h⟩ := hJ
 cases nf with
 | zero => rw [L_graph_of_v1_l1] at hL199; cases hL199
 | succ nf =>
  rw [L_graph_of_v1_l1] at hL199
  refine qs 47 [] [1,2,7,11,12,13,14] [(8,0)] h fun ac wd h => ?_
  refine wp_seq ?_
  rcases i2 hL199 with ⟨hb201,hL199⟩ | ⟨hb201,hL199⟩
  ·
   refine kT h ?_
   refine wp_skip ?_
   change Code.wp Try.prog _ _ _ _
   obtain ⟨e209,hE210,hL199⟩ := Option.bind_eq_some_iff.1 hL199
   refine r_seqJ (fun ac wd => ∃ (l208 : List Int),l208 = e209 ∧ SL ⟨wb,S,Φ,P0⟩ 29 63 [(1,.one (.d (.int .i64 a1))),(2,.one (.d (.int .i64 0))),(7,.one (.own (61,0) l208.length)),(11,.one (.d (.sl (List.map eA2I a0.Links)))),(12,.one (.d (.int .i64 (a0.Links.length : Int)))),(13,.one (.d (.int .i64 n197)))] [((61,0),some (.row 3 1 (dat (List.map eI l208))))] ac wd) ?_ ?_
   ·
    refine wp_block ?_
    obtain ⟨x213,hx214a,hx214b,hx214c,hx214d,hE210⟩ := aB hE210
    refine qs 53 [] [1,2,7,8,9,11,12,13] [(8,0),(50,0)] h fun ac wd h => ?_
    refine qs 58 [] [1,2,7,8,11,12,13,22] [(8,0)] h fun ac wd h => ?_
    rcases i2e hE210 with ⟨hb215,hE210⟩ | ⟨hb215,hE210⟩
    ·
     refine kT h ?_
     obtain ⟨ha216,hE210⟩ := iT hE210
     refine qe [] [1,2,7,11,12,13] [(61,0)] h fun ac wd h => ?_
     injection hE210 with hE210; subst hE210
     exact ⟨(l198 ++ [n197]),rfl,h.z⟩
    ·
     refine kF h ?_
     refine wp_skip ?_
     have h := h.sw (61,0) (8,0) 63
     injection hE210 with hE210; subst hE210
     exact ⟨l198,rfl,h.z⟩
   ·
    rintro ac wd ⟨l208,rfl,h⟩
    (try dsimp only at hL199)
    refine qe [] [1,2,7,11,12,13] [(61,0)] h fun ac wd h => ?_
    have h := h.sw (8,0) (61,0) 65
    exact ⟨nf,Nat.lt_succ_self nf,(IntKind.wrap .i64 (n197 + 1)),l208,hL199,h.z⟩
  ·
   refine kF h ?_
   refine wp_exit ?_
   change Code.wp Try.prog _ _ _ _
   refine qs 49 [] [6] [(8,0)] h fun ac wd h => ?_
   refine wp_ret ?_
   have h := h.sw (1,0) (8,0) 49
   injection hL199 with hL199
   subst hL199
   exact rO h [.tmp 6] [(1,0)]
theorem L_graph_Out_own {a0 : TGraph} {a1 : Int} {r : (List Int)} (hD : L_graph_Out a0 a1 = some r) :
  CallH Try.prog 124 [.agg (cTGraph a0),.one (.d (.int .i64 a1))] []
   (.one (.own (1,0) r.length)) [((1,0),some (.row 3 1 (dat (List.map eI r))))] := by
 unfold L_graph_Out at hD
 refine rc Try.func124 rfl Try.ntmps124 fun S Φ P0 wb ac h => ?_
 refine qs 3 [] [1,2] [(1,0)] h fun ac wd h => ?_
 obtain ⟨r7,hc8,hD⟩ := oB hD
 have hc8_5 := ((L_graph_of_v1_own hc8).cls 5).z
 refine qs 7 [factO hc8_5] [4] [(5,0)] h fun ac wd h => ?_
 refine wp_ret ?_
 have h := h.sw (1,0) (5,0) 7
 injection hD with hD
 subst hD
 exact rO h [.tmp 4] [(1,0)]
theorem L_graph_Out_ok {a0 : TGraph} {a1 : Int} {r : (List Int)} (hD : L_graph_Out a0 a1 = some r) :
  CallH Try.prog 124 [.agg (cTGraph a0),.one (.d (.int .i64 a1))] []
   (.one (.d (.sl (List.map eI r)))) [] :=
 (L_graph_Out_own hD).fr

theorem L_graph_Dist_own {a0 : TGraph} {a1 : Int} {r : (List Int)} (hD : L_graph_Dist a0 a1 = some r) :
  CallH Try.prog 116 [.agg (cTGraph a0),.one (.d (.int .i64 a1))] []
   (.one (.own (1,0) r.length)) [((1,0),some (.row 3 1 (dat (List.map eI r))))] := by
 unfold L_graph_Dist at hD
 refine rc Try.func116 rfl Try.ntmps116 fun S Φ P0 wb ac h => ?_
 refine qs 3 [] [1,2] [(1,0)] h fun ac wd h => ?_
 refine wp_scope_straight ?_
 refine wp_seq ?_
 obtain ⟨r920,hc921,hD⟩ := oB hD
 have hc921k := L_graph_Graph_node_ok hc921
 refine qs 7 [factE 5 hc921k] [1,2,14] [(1,0)] h fun ac wd h => ?_
 rcases i2b hD with ⟨hb923,hD⟩ | ⟨hb923,hD⟩
 ·
  refine kF h ?_
  refine wp_skip ?_
  change Code.wp Try.prog _ _ _ _
  obtain ⟨r926,hc927,hD⟩ := oB hD
  have hc927_10 := ((L_slices_Repeat_int_int_own hc927).cls 10).z
  refine qs 12 [factO hc927_10] [1,2,5] [(1,0),(10,0)] h fun ac wd h => ?_
  obtain ⟨x930,hx931a,hx931b,hx931c,hx931d,hD⟩ := aB hD
  refine qs 16 [] [1,2,5] [(1,0),(10,0)] h fun ac wd h => ?_
  refine qs 19 [] [2,5,6] [(1,0),(10,0),(17,0)] h fun ac wd h => ?_
  refine wp_seq ?_
  refine wp_label ?_
  change Code.wp Try.prog _ _ _ _
  refine wp_seq ?_
  refine wp_block ?_
  refine r_while (fun nf ac wd => ∃ (l1684 : List Int) (l1685 : List Int),L_graph_Dist_l1 a0 nf l1684 l1685 = some r ∧ SL ⟨wb,S,Φ,P0⟩ 65 179 [(2,.one (.ptr (1,0) 0)),(5,.one (.own (10,0) l1684.length)),(6,.one (.own (17,0) l1685.length))] [((1,0),some (.box 24 (cTGraph a0))),((10,0),some (.row 3 1 (dat (List.map eI l1684)))),((17,0),some (.row 3 1 (dat (List.map eI l1685))))] ac wd) (a0.N.toNat + 2) ⟨(r926.set a1.toNat 0),[a1],hD,h.z⟩ (fun nf ac wd hJ => ?_)
  obtain ⟨l1684,l1685,hL1686,h⟩ := hJ
  cases nf with
  | zero => rw [L_graph_Dist_l1] at hL1686; cases hL1686
  | succ nf =>
   rw [L_graph_Dist_l1] at hL1686
   refine wp_block ?_
   refine wp_seq ?_
   refine qs 182 [] [2,5,6,26] [(1,0),(10,0),(17,0)] h fun ac wd h => ?_
   rcases i2e hL1686 with ⟨hb1688,hL1686⟩ | ⟨hb1688,hL1686⟩
   ·
    refine kT h ?_
    refine wp_exit ?_
    change Code.wp Try.prog _ _ _ _
    refine qs 184 [] [4] [(10,0)] h fun ac wd h => ?_
    refine wp_ret ?_
    have h := h.sw (1,0) (10,0) 184
    injection hL1686 with hL1686
    subst hL1686
    exact rO h [.tmp 4] [(1,0)]
   ·
    refine kF h ?_
    refine wp_skip ?_
    change Code.wp Try.prog _ _ _ _
    obtain ⟨x1691,hx1692a,hx1692b,hx1692c,hx1692d,hL1686⟩ := aN 0 hL1686
    refine qs 186 [] [2,5,6,7] [(1,0),(10,0),(17,0)] h fun ac wd h => ?_
    obtain ⟨ha1695,hL1686⟩ := iT hL1686
    have hq1696 : 1 + (l1685.length - 1) ≤ l1685.length := by omega
    refine qs 189 [] [2,5,6,7] [(1,0),(10,0),(17,0)] h fun ac wd h => ?_
    obtain ⟨r1699,hc1700,hL1686⟩ := oB hL1686
    have hc1700k := L_graph_Out_ok hc1700
    refine qs 194 [factE 191 hc1700k] [2,5,6,7,34,35,36] [(1,0),(10,0),(17,0)] h fun ac wd h => ?_
    obtain ⟨e1835,hE1836,hL1686⟩ := Option.bind_eq_some_iff.1 hL1686
    refine r_meetQ (fun ac wd => ∃ (l1833 : List Int) (l1834 : List Int),(l1833,l1834) = e1835 ∧ SL ⟨wb,S,Φ,P0⟩ 65 259 [(2,.one (.ptr (1,0) 0)),(5,.one (.own (10,0) l1833.length)),(6,.one (.own (17,0) l1834.length))] [((1,0),some (.box 24 (cTGraph a0))),((10,0),some (.row 3 1 (dat (List.map eI l1833)))),((17,0),some (.row 3 1 (dat (List.map eI l1834))))] ac wd) ?_ ?_
    ·
     refine wp_block ?_
     have h := h.sm 194 [(2,.one (.ptr (1,0) 0)),(5,.one (.own (10,0) l1684.length)),(6,.one (.sub (17,0) 1 1 (l1685.length - 1))),(7,.one (.d (.int .i64 x1691))),(34,.one (.d (.sl (List.map eI r1699)))),(35,.one (.d (.int .i64 (r1699.length : Int)))),(36,.one (.d (.int .i64 0)))]
      [((1,0),some (.box 24 (cTGraph a0))),((10,0),some (.row 3 1 (dat (List.map eI l1684)))),((17,0),some (.row 3 1 (dat (List.map eI l1685))))]
     have h := SL.tail h 6 (17,0) (by simp only [EZ,simprocAttr, *] <;> rfl) (by simp only [EZ,simprocAttr, *] <;> rfl) (by simp only [EZ,simprocAttr, *] <;> omega) rfl (by simp only [noIdF,EZ,simprocAttr, *] <;> rfl) (by simp only [noIdM,EZ,simprocAttr, *] <;> rfl)
     refine r_while (fun nf ac wd => ∃ (n1924 : Int) (l1925 : List Int) (l1926 : List Int),L_graph_Dist_l2 a0 r1699 x1691 nf n1924 l1925 l1926 = some e1835 ∧ SL ⟨wb,S,Φ,P0⟩ 65 258 [(2,.one (.ptr (1,0) 0)),(5,.one (.own (10,0) l1925.length)),(6,.one (.own (17,0) l1926.length)),(7,.one (.d (.int .i64 x1691))),(34,.one (.d (.sl (List.map eI r1699)))),(35,.one (.d (.int .i64 (r1699.length : Int)))),(36,.one (.d (.int .i64 n1924)))] [((1,0),some (.box 24 (cTGraph a0))),((10,0),some (.row 3 1 (dat (List.map eI l1925)))),((17,0),some (.row 3 1 (dat (List.map eI l1926))))] ac wd) (((r1699.length : Int) - 0).toNat + 1) ⟨0,l1684,(l1685.drop 1),hE1836,h.z⟩ (fun nf ac wd hJ => ?_)
     obtain ⟨n1924,l1925,l1926,hL1927,h⟩ := hJ
     cases nf with
     | zero => rw [L_graph_Dist_l2] at hL1927; cases hL1927
     | succ nf =>
      rw [L_graph_Dist_l2] at hL1927
      refine qs 259 [] [2,5,6,7,34,35,36,37] [(1,0),(10,0),(17,0)] h fun ac wd h => ?_
      refine wp_seq ?_
      rcases i2 hL1927 with ⟨hb1929,hL1927⟩ | ⟨hb1929,hL1927⟩
      ·
       refine kT h ?_
       refine wp_skip ?_
       change Code.wp Try.prog _ _ _ _
       obtain ⟨e1950,hE1951,hL1927⟩ := Option.bind_eq_some_iff.1 hL1927
       refine r_seqJ (fun ac wd => ∃ (l1948 : List Int) (l1949 : List Int),(l1948,l1949) = e1950 ∧ SL ⟨wb,S,Φ,P0⟩ 65 288 [(2,.one (.ptr (1,0) 0)),(5,.one (.own (10,0) l1948.length)),(6,.one (.own (286,0) l1949.length)),(7,.one (.d (.int .i64 x1691))),(34,.one (.d (.sl (List.map eI r1699)))),(35,.one (.d (.int .i64 (r1699.length : Int)))),(36,.one (.d (.int .i64 n1924)))] [((1,0),some (.box 24 (cTGraph a0))),((10,0),some (.row 3 1 (dat (List.map eI l1948)))),((286,0),some (.row 3 1 (dat (List.map eI l1949))))] ac wd) ?_ ?_
       ·
        refine wp_block ?_
        obtain ⟨x1954,hx1955a,hx1955b,hx1955c,hx1955d,hE1951⟩ := aB hE1951
        refine qs 262 [] [2,5,6,7,9,34,35,36] [(1,0),(10,0),(17,0)] h fun ac wd h => ?_
        obtain ⟨x1958,hx1959a,hx1959b,hx1959c,hx1959d,hE1951⟩ := aB hE1951
        refine qs 269 [] [2,5,6,7,10,34,35,36] [(1,0),(10,0),(17,0)] h fun ac wd h => ?_
        obtain ⟨x1962,hx1963a,hx1963b,hx1963c,hx1963d,hE1951⟩ := aB hE1951
        refine qs 274 [] [2,5,6,7,10,34,35,36,50] [(1,0),(10,0),(17,0)] h fun ac wd h => ?_
        rcases i2 hE1951 with ⟨hb1964,hE1951⟩ | ⟨hb1964,hE1951⟩
        ·
         refine kT h ?_
         obtain ⟨x1967,hx1968a,hx1968b,hx1968c,hx1968d,hE1951⟩ := aB hE1951
         refine qs 283 [] [2,5,6,7,10,34,35,36] [(1,0),(10,0),(17,0)] h fun ac wd h => ?_
         obtain ⟨ha1969,hE1951⟩ := iT hE1951
         refine qe [] [2,5,6,7,34,35,36] [(1,0),(10,0),(286,0)] h fun ac wd h => ?_
         injection hE1951 with hE1951; subst hE1951
         exact ⟨(l1925.set x1958.a1.toNat (IntKind.wrap .i64 (x1967 + 1))),(l1926 ++ [x1958.a1]),rfl,h.z⟩
        ·
         refine kF h ?_
         refine wp_skip ?_
         have h := h.sw (286,0) (17,0) 288
         injection hE1951 with hE1951; subst hE1951
         exact ⟨l1925,l1926,rfl,h.z⟩
       ·
        rintro ac wd ⟨l1948,l1949,rfl,h⟩
        (try dsimp only at hL1927)
        refine qe [] [2,5,6,7,34,35,36] [(1,0),(10,0),(286,0)] h fun ac wd h => ?_
        have h := h.sw (17,0) (286,0) 290
        exact ⟨nf,Nat.lt_succ_self nf,(IntKind.wrap .i64 (n1924 + 1)),l1948,l1949,hL1927,h.z⟩
      ·
       refine kF h ?_
       refine wp_exit ?_
       injection hL1927 with hL1927; subst hL1927
       exact ⟨l1925,l1926,rfl,h.z⟩
    ·
     rintro ac wd ⟨l1833,l1834,rfl,h⟩
     (try dsimp only at hL1686)
     exact ⟨nf,Nat.lt_succ_self nf,l1833,l1834,hL1686,h.z⟩
 ·
  refine kT h ?_
  refine qs 8 [] [4] [] h fun ac wd h => ?_
  refine wp_ret ?_
  have h := SL.bornS h 4 3 1 (by simp only [EZ,simprocAttr, *] <;> rfl)
  have h := h.sw (1,0) (8,0) 9
  injection hD with hD
  subst hD
  exact rO h [.tmp 4] [(1,0)]
theorem L_graph_Dist_ok {a0 : TGraph} {a1 : Int} {r : (List Int)} (hD : L_graph_Dist a0 a1 = some r) :
  CallH Try.prog 116 [.agg (cTGraph a0),.one (.d (.int .i64 a1))] []
   (.one (.d (.sl (List.map eI r)))) [] :=
 (L_graph_Dist_own hD).fr

theorem L_slices_Index_int_int_ok {a0 : (List Int)} {a1 : Int} {r : Int} (hD : L_slices_Index_int_int a0 a1 = some r) :
  CallH Try.prog 105 [.one (.d (.sl (List.map eI a0))),.one (.d (.int .i64 a1))] []
   (.one (.d (.int .i64 r))) [] := by
 unfold L_slices_Index_int_int at hD
 refine rc Try.func105 rfl Try.ntmps105 fun S Φ P0 wb ac h => ?_
 refine qs 2 [] [0,1] [] h fun ac wd h => ?_
 refine wp_seq ?_
 refine qs 5 [] [0,1,7,8] [] h fun ac wd h => ?_
 refine wp_block ?_
 refine r_while (fun nf ac wd => ∃ (n143 : Int),L_slices_Index_int_int_l1 a0 a1 nf n143 = some r ∧ SL ⟨wb,S,Φ,P0⟩ 19 27 [(0,.one (.d (.sl (List.map eI a0)))),(1,.one (.d (.int .i64 a1))),(7,.one (.d (.int .i64 (a0.length : Int)))),(8,.one (.d (.int .i64 n143)))] [] ac wd) (((a0.length : Int) - 0).toNat + 1) ⟨0,hD,h.z⟩ (fun nf ac wd hJ => ?_)
 obtain ⟨n143,hL144,h⟩ := hJ
 cases nf with
 | zero => rw [L_slices_Index_int_int_l1] at hL144; cases hL144
 | succ nf =>
  rw [L_slices_Index_int_int_l1] at hL144
  refine qs 28 [] [0,1,7,8,9] [] h fun ac wd h => ?_
  refine wp_seq ?_
  rcases i2 hL144 with ⟨hb146,hL144⟩ | ⟨hb146,hL144⟩
  ·
   refine kT h ?_
   refine wp_skip ?_
   change Code.wp Try.prog _ _ _ _
   refine wp_seq ?_
   refine wp_block ?_
   refine qs 30 [] [0,1,5,7,8] [] h fun ac wd h => ?_
   obtain ⟨x154,hx155a,hx155b,hx155c,hx155d,hL144⟩ := aB hL144
   refine qs 36 [] [0,1,5,7,8,16] [] h fun ac wd h => ?_
   rcases i2e hL144 with ⟨hb156,hL144⟩ | ⟨hb156,hL144⟩
   ·
    refine kT h ?_
    refine qs 38 [] [4] [] h fun ac wd h => ?_
    refine wp_ret ?_
    injection hL144 with hL144
    subst hL144
    exact rE h [.tmp 4]
   ·
    refine kF h ?_
    refine wp_skip ?_
    change Code.wp Try.prog _ _ _ _
    refine qe [] [0,1,7,8] [] h fun ac wd h => ?_
    exact ⟨nf,Nat.lt_succ_self nf,(IntKind.wrap .i64 (n143 + 1)),hL144,h.z⟩
  ·
   refine kF h ?_
   refine wp_exit ?_
   change Code.wp Try.prog _ _ _ _
   refine qs 29 [] [4] [] h fun ac wd h => ?_
   refine wp_ret ?_
   injection hL144 with hL144
   subst hL144
   exact rE h [.tmp 4]

theorem L_slices_Contains_int_int_ok {a0 : (List Int)} {a1 : Int} {r : Bool} (hD : L_slices_Contains_int_int a0 a1 = some r) :
  CallH Try.prog 75 [.one (.d (.sl (List.map eI a0))),.one (.d (.int .i64 a1))] []
   (.one (.d (.bool r))) [] := by
 unfold L_slices_Contains_int_int at hD
 refine rc Try.func75 rfl Try.ntmps75 fun S Φ P0 wb ac h => ?_
 refine qs 2 [] [0,1] [] h fun ac wd h => ?_
 obtain ⟨r7,hc8,hD⟩ := oB hD
 have hc8k := L_slices_Index_int_int_ok hc8
 refine qs 7 [factE 4 hc8k] [4] [] h fun ac wd h => ?_
 refine wp_ret ?_
 injection hD with hD
 subst hD
 exact rE h [.tmp 4]

theorem L_graph_Right_ok {a0 : TGraph} {r : Bool} (hD : L_graph_Right a0 = some r) :
  CallH Try.prog 100 [.agg (cTGraph a0)] []
   (.one (.d (.bool r))) [] := by
 unfold L_graph_Right at hD
 refine rc Try.func100 rfl Try.ntmps100 fun S Φ P0 wb ac h => ?_
 refine qs 3 [] [1] [(1,0)] h fun ac wd h => ?_
 refine wp_seq ?_
 obtain ⟨e448,hE449,hD⟩ := Option.bind_eq_some_iff.1 hD
 refine r_seqJ (fun ac wd => ∃ (b447 : Bool),b447 = e448 ∧ SL ⟨wb,S,Φ,P0⟩ 79 17 [(1,.one (.ptr (1,0) 0)),(21,.one (.d (.bool b447)))] [((1,0),some (.box 24 (cTGraph a0)))] ac wd) ?_ ?_
 ·
  rcases i2 hE449 with ⟨hb450,hE449⟩ | ⟨hb450,hE449⟩
  ·
   refine qeg [] [none,none,none,none,some (some 11,false),some (some 11,false),some (some 11,false),none,none,some (some 16,false),some (some 16,false),some (some 16,false),some (some 16,false),none] [1,21] [(1,0)] h fun ac wd h => ?_
   injection hE449 with hE449; subst hE449
   exact ⟨true,rfl,h.z⟩
  ·
   rcases i2 hE449 with ⟨hb451,hE449⟩ | ⟨hb451,hE449⟩
   ·
    refine qeg [] [none,none,none,none,some (some 11,false),some (some 11,false),some (some 11,false),none,none,some (some 16,false),some (some 16,false),some (some 16,false),some (some 16,false),none] [1,21] [(1,0)] h fun ac wd h => ?_
    injection hE449 with hE449; subst hE449
    exact ⟨true,rfl,h.z⟩
   ·
    refine qeg [] [none,none,none,none,some (some 11,false),some (some 11,false),some (some 11,false),none,none,some (some 16,false),some (some 16,false),some (some 16,false),some (some 16,false),none] [1,21] [(1,0)] h fun ac wd h => ?_
    injection hE449 with hE449; subst hE449
    exact ⟨decide ((a0.Links.length : Int) > 30),rfl,h.z⟩
 ·
  rintro ac wd ⟨b447,rfl,h⟩
  (try dsimp only at hD)
  rcases i2b hD with ⟨hb453,hD⟩ | ⟨hb453,hD⟩
  ·
   refine kT h ?_
   refine qs 18 [] [2] [] h fun ac wd h => ?_
   refine wp_ret ?_
   injection hD with hD
   subst hD
   exact rE h [.tmp 2]
  ·
   refine kF h ?_
   refine wp_skip ?_
   change Code.wp Try.prog _ _ _ _
   refine qs 19 [] [1,3] [(1,0),(17,0)] h fun ac wd h => ?_
   refine wp_seq ?_
   refine qs 23 [] [1,3,24,25,26] [(1,0),(17,0)] h fun ac wd h => ?_
   obtain ⟨e603,hE604,hD⟩ := Option.bind_eq_some_iff.1 hD
   refine r_meet (fun ac wd => ∃ (l602 : NMap),(.inl l602) = e603 ∧ SL ⟨wb,S,Φ,P0⟩ 79 102 [(1,.one (.ptr (1,0) 0)),(3,.one (.mp (17,0)))] [((1,0),some (.box 24 (cTGraph a0))),((17,0),some (.map 97 3 true 2 (mE l602)))] ac wd) ?_ ?_
   ·
    refine wp_block ?_
    refine r_while (fun nf ac wd => ∃ (n703 : Int) (l704 : NMap),L_graph_Right_l1 a0 nf n703 l704 = some e603 ∧ SL ⟨wb,S,Φ,P0⟩ 79 101 [(1,.one (.ptr (1,0) 0)),(3,.one (.mp (17,0))),(24,.one (.d (.sl (List.map eA2I a0.Links)))),(25,.one (.d (.int .i64 (a0.Links.length : Int)))),(26,.one (.d (.int .i64 n703)))] [((1,0),some (.box 24 (cTGraph a0))),((17,0),some (.map 97 3 true 2 (mE l704)))] ac wd) (((a0.Links.length : Int) - 0).toNat + 1) ⟨0,([] : NMap),hE604,h.z⟩ (fun nf ac wd hJ => ?_)
    obtain ⟨n703,l704,hL705,h⟩ := hJ
    cases nf with
    | zero => rw [L_graph_Right_l1] at hL705; cases hL705
    | succ nf =>
     rw [L_graph_Right_l1] at hL705
     refine qs 102 [] [1,3,24,25,26,27] [(1,0),(17,0)] h fun ac wd h => ?_
     refine wp_seq ?_
     rcases i2 hL705 with ⟨hb707,hL705⟩ | ⟨hb707,hL705⟩
     ·
      refine kT h ?_
      refine wp_skip ?_
      change Code.wp Try.prog _ _ _ _
      refine wp_seq ?_
      refine wp_block ?_
      obtain ⟨x733,hx734a,hx734b,hx734c,hx734d,hL705⟩ := aB hL705
      refine qs 106 [] [1,3,5,24,25,26] [(1,0),(17,0),(104,0)] h fun ac wd h => ?_
      refine wp_seq ?_
      obtain ⟨e743,hE744,hL705⟩ := Option.bind_eq_some_iff.1 hL705
      refine r_seqJ (fun ac wd => ∃ (b742 : Bool),b742 = e743 ∧ SL ⟨wb,S,Φ,P0⟩ 79 131 [(1,.one (.ptr (1,0) 0)),(3,.one (.mp (17,0))),(5,.one (.ptr (104,0) 0)),(24,.one (.d (.sl (List.map eA2I a0.Links)))),(25,.one (.d (.int .i64 (a0.Links.length : Int)))),(26,.one (.d (.int .i64 n703))),(54,.one (.d (.bool b742)))] [((1,0),some (.box 24 (cTGraph a0))),((17,0),some (.map 97 3 true 2 (mE l704))),((104,0),some (.box 97 (cA2I x733)))] ac wd) ?_ ?_
      ·
       obtain ⟨r745,hc746,hE744⟩ := oB hE744
       rcases i2b hE744 with ⟨hb747,hE744⟩ | ⟨hb747,hE744⟩
       ·
        obtain ⟨r748,hc749,hE744⟩ := oB hE744
        rcases i2b hE744 with ⟨hb750,hE744⟩ | ⟨hb750,hE744⟩
        ·
         rcases i2e hE744 with ⟨hb751,hE744⟩ | ⟨hb751,hE744⟩
         ·
          have hc746k := L_graph_Graph_node_ok hc746
          have hc749k := L_graph_Graph_node_ok hc749
          refine qeg [factE 109 hc746k,factE 115 hc749k] [none,none,none,none,none,none,some (some 35,false),some (some 35,false),some (some 35,false),some (some 35,false),some (some 35,false),none,none,some (some 42,false),some (some 42,false),some (some 42,false),some (some 42,false),some (some 42,false),none,none,some (some 49,false),some (some 49,false),some (some 49,false),some (some 49,false),none] [1,3,5,24,25,26,54] [(1,0),(17,0),(104,0)] h fun ac wd h => ?_
          injection hE744 with hE744; subst hE744
          exact ⟨true,rfl,h.z⟩
         ·
          have hc746k := L_graph_Graph_node_ok hc746
          have hc749k := L_graph_Graph_node_ok hc749
          refine qeg [factE 109 hc746k,factE 115 hc749k] [none,none,none,none,none,none,some (some 35,false),some (some 35,false),some (some 35,false),some (some 35,false),some (some 35,false),none,none,some (some 42,false),some (some 42,false),some (some 42,false),some (some 42,false),some (some 42,false),none,none,some (some 49,false),some (some 49,false),some (some 49,false),some (some 49,false),none] [1,3,5,24,25,26,54] [(1,0),(17,0),(104,0)] h fun ac wd h => ?_
          injection hE744 with hE744; subst hE744
          exact ⟨decide ((mGetI l704 [x733.a0,x733.a1]) > 0),rfl,h.z⟩
        ·
         have hc746k := L_graph_Graph_node_ok hc746
         have hc749k := L_graph_Graph_node_ok hc749
         refine qeg [factE 109 hc746k,factE 115 hc749k] [none,none,none,none,none,none,some (some 35,false),some (some 35,false),some (some 35,false),some (some 35,false),some (some 35,false),none,none,some (some 42,false),some (some 42,false),some (some 42,false),some (some 42,false),some (some 42,false),none,none,some (some 49,false),some (some 49,false),some (some 49,false),some (some 49,false),none] [1,3,5,24,25,26,54] [(1,0),(17,0),(104,0)] h fun ac wd h => ?_
         injection hE744 with hE744; subst hE744
         exact ⟨true,rfl,h.z⟩
       ·
        have hc746k := L_graph_Graph_node_ok hc746
        refine qeg [factE 109 hc746k] [none,none,none,none,none,none,some (some 35,false),some (some 35,false),some (some 35,false),some (some 35,false),some (some 35,false),none,none,some (some 42,false),some (some 42,false),some (some 42,false),some (some 42,false),some (some 42,false),none,none,some (some 49,false),some (some 49,false),some (some 49,false),some (some 49,false),none] [1,3,5,24,25,26,54] [(1,0),(17,0),(104,0)] h fun ac wd h => ?_
        injection hE744 with hE744; subst hE744
        exact ⟨true,rfl,h.z⟩
      ·
       rintro ac wd ⟨b742,rfl,h⟩
       (try dsimp only at hL705)
       rcases i2b hL705 with ⟨hb753,hL705⟩ | ⟨hb753,hL705⟩
       ·
        refine kT h ?_
        refine qs 132 [] [2] [] h fun ac wd h => ?_
        refine wp_ret ?_
        injection hL705 with hL705
        subst hL705
        (try dsimp only at hD)
        injection hD with hD
        subst hD
        exact rE h [.tmp 2]
       ·
        refine kF h ?_
        refine wp_skip ?_
        change Code.wp Try.prog _ _ _ _
        refine de [] [1,3,24,25,26] [(1,0),(17,0)] h fun ac wd h => ?_
        change Code.wp Try.prog _ _ _ _
        refine qe [] [1,3,24,25,26] [(1,0),(17,0)] h fun ac wd h => ?_
        exact ⟨nf,Nat.lt_succ_self nf,(IntKind.wrap .i64 (n703 + 1)),(mPutI l704 [x733.a0,x733.a1] (IntKind.wrap .i64 ((mGetI l704 [x733.a0,x733.a1]) + 1))),hL705,h.z⟩
     ·
      refine kF h ?_
      refine wp_exit ?_
      injection hL705 with hL705; subst hL705
      exact ⟨l704,rfl,h.z⟩
   ·
    rintro ac wd ⟨l602,rfl,h⟩
    (try dsimp only at hD)
    refine wp_seq ?_
    refine qs 106 [] [1,3,63,64,65] [(1,0),(17,0)] h fun ac wd h => ?_
    obtain ⟨e816,hE817,hD⟩ := Option.bind_eq_some_iff.1 hD
    refine r_meet (fun ac wd => (.inl ()) = e816 ∧ SL ⟨wb,S,Φ,P0⟩ 79 131 [(1,.one (.ptr (1,0) 0))] [((1,0),some (.box 24 (cTGraph a0)))] ac wd) ?_ ?_
    ·
     refine wp_block ?_
     refine r_while (fun nf ac wd => ∃ (n859 : Int),L_graph_Right_l2 a0 l602 nf n859 = some e816 ∧ SL ⟨wb,S,Φ,P0⟩ 79 130 [(1,.one (.ptr (1,0) 0)),(3,.one (.mp (17,0))),(63,.one (.d (.sl (List.map eA2I a0.Links)))),(64,.one (.d (.int .i64 (a0.Links.length : Int)))),(65,.one (.d (.int .i64 n859)))] [((1,0),some (.box 24 (cTGraph a0))),((17,0),some (.map 97 3 true 2 (mE l602)))] ac wd) (((a0.Links.length : Int) - 0).toNat + 1) ⟨0,hE817,h.z⟩ (fun nf ac wd hJ => ?_)
     obtain ⟨n859,hL860,h⟩ := hJ
     cases nf with
     | zero => rw [L_graph_Right_l2] at hL860; cases hL860
     | succ nf =>
      rw [L_graph_Right_l2] at hL860
      refine qs 131 [] [1,3,63,64,65,66] [(1,0),(17,0)] h fun ac wd h => ?_
      refine wp_seq ?_
      rcases i2 hL860 with ⟨hb862,hL860⟩ | ⟨hb862,hL860⟩
      ·
       refine kT h ?_
       refine wp_skip ?_
       change Code.wp Try.prog _ _ _ _
       refine wp_seq ?_
       refine wp_block ?_
       obtain ⟨x874,hx875a,hx875b,hx875c,hx875d,hL860⟩ := aB hL860
       refine qs 135 [] [1,3,7,63,64,65] [(1,0),(17,0),(133,0)] h fun ac wd h => ?_
       obtain ⟨r878,hc879,hL860⟩ := oB hL860
       have hc879k := L_graph_turned_ok hc879
       refine qs 140 [factE 137 hc879k] [1,3,63,64,65,73] [(1,0),(17,0)] h fun ac wd h => ?_
       rcases i2e hL860 with ⟨hb880,hL860⟩ | ⟨hb880,hL860⟩
       ·
        refine kT h ?_
        refine qs 141 [] [2] [] h fun ac wd h => ?_
        refine wp_ret ?_
        injection hL860 with hL860
        subst hL860
        (try dsimp only at hD)
        injection hD with hD
        subst hD
        exact rE h [.tmp 2]
       ·
        refine kF h ?_
        refine wp_skip ?_
        change Code.wp Try.prog _ _ _ _
        refine qe [] [1,3,63,64,65] [(1,0),(17,0)] h fun ac wd h => ?_
        exact ⟨nf,Nat.lt_succ_self nf,(IntKind.wrap .i64 (n859 + 1)),hL860,h.z⟩
      ·
       refine kF h ?_
       refine wp_exit ?_
       injection hL860 with hL860; subst hL860
       exact ⟨rfl,h.z⟩
    ·
     rintro ac wd ⟨rfl,h⟩
     (try dsimp only at hD)
     obtain ⟨r885,hc886,hD⟩ := oB hD
     obtain ⟨r887,hc888,hD⟩ := oB hD
     have hc886k := L_graph_Dist_ok hc886
     have hc888k := L_slices_Contains_int_int_ok hc888
     refine qs 136 [factE 132 hc886k,factE 133 hc888k] [2] [] h fun ac wd h => ?_
     refine wp_ret ?_
     injection hD with hD
     subst hD
     exact rE h [.tmp 2]

theorem L_table_place_may_1_own {a0 : TPlace} {r : Bool × TPlace} (hD : L_table_place_may_1 a0 = some r) :
  CallH Try.prog 117 [.one (.ptr (0,0) 0)] [((0,0),some (.box 170 (cTPlace a0)))]
   (.one (.d (.bool r.1))) [((0,0),some (.box 170 (cTPlace r.2)))] := by
 unfold L_table_place_may_1 at hD
 refine rc Try.func117 rfl Try.ntmps117 fun S Φ P0 wb ac h => ?_
 refine qs 2 [] [0] [(0,0)] h fun ac wd h => ?_
 obtain ⟨e8,hE9,hD⟩ := Option.bind_eq_some_iff.1 hD
 refine r_seqJ (fun ac wd => ∃ (b7 : Bool),b7 = e8 ∧ SL ⟨wb,S,Φ,P0⟩ 12 13 [(1,.one (.d (.bool b7)))] [((0,0),some (.box 170 (cTPlace a0)))] ac wd) ?_ ?_
 ·
  rcases i2 hE9 with ⟨hb10,hE9⟩ | ⟨hb10,hE9⟩
  ·
   refine qeg [] [none,none,none,none,none,some (some 6,true),some (some 6,true),some (some 6,true),some (some 6,true),none,none] [1] [(0,0)] h fun ac wd h => ?_
   injection hE9 with hE9; subst hE9
   exact ⟨decide (a0.State.Mode < 3),rfl,h.z⟩
  ·
   refine qeg [] [none,none,none,none,none,some (some 6,true),some (some 6,true),some (some 6,true),some (some 6,true),none,none] [1] [(0,0)] h fun ac wd h => ?_
   injection hE9 with hE9; subst hE9
   exact ⟨false,rfl,h.z⟩
 ·
  rintro ac wd ⟨b7,rfl,h⟩
  (try dsimp only at hD)
  refine wp_ret ?_
  injection hD with hD
  subst hD
  exact rO h [.tmp 1] [(0,0)]

end Go.Proofs.Ytifcbecpemaieaa
