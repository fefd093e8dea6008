/- Functions as typed ones,and that the program's functions answer as these do. No condition. -/
import Derived.Test.YtifcbecpemaieaaGb2
import Derived.Test.YtifcbecpemaieaaGb7
import Derived.Test.YtifcbecpemaieaaGdCalmSteps
set_option linter.unusedSimpArgs false
set_option linter.unusedVariables false
set_option maxRecDepth 20000
set_option maxHeartbeats 4000000
namespace Go.Proofs.Ytifcbecpemaieaa
open Go.RowKit

theorem L_law14_CalmSteps_ok {a0 : TApp} {a1 : (List TStep)} {r : Bool} (hD : L_law14_CalmSteps a0 a1 = some r) :
  CallH Try.prog 4 [.agg (cTApp a0),.one (.d (.sl (List.map eTStep a1)))] []
   (.one (.d (.bool r))) [] := by
 unfold L_law14_CalmSteps at hD
 refine rc Try.func4 rfl Try.ntmps4 fun S Φ P0 wb ac h => ?_
 refine qs 3 [] [1,2] [(1,0)] h fun ac wd h => ?_
 obtain ⟨r1927,hc1928,hD⟩ := oB hD
 have hc1928k := L_law05_Cut_ok hc1928
 refine qs 6 [factE 4 hc1928k] [1,2] [(1,0)] h fun ac wd h => ?_
 obtain ⟨r1931,hc1932,hD⟩ := oB hD
 have hc1932k := L_law05_App_ok hc1932
 refine qs 10 [factE 7 hc1932k] [1,2,5] [(1,0),(8,0)] h fun ac wd h => ?_
 refine wp_seq ?_
 obtain ⟨r1935,hc1936,hD⟩ := oB hD
 have hc1936k := L_ref04_Right_ok hc1936
 refine qs 16 [factE 14 hc1936k] [1,2,29] [(1,0)] h fun ac wd h => ?_
 rcases i2b hD with ⟨hb1942,hD⟩ | ⟨hb1942,hD⟩
 ·
  refine kF h ?_
  refine wp_skip ?_
  change Code.wp Try.prog _ _ _ _
  obtain ⟨r2632,hc2633,hD⟩ := oB hD
  have hc2633k := L_plain_Start_ok hc2633
  refine qs 20 [factE 17 hc2633k] [1,2,6] [(1,0),(18,0)] h fun ac wd h => ?_
  refine wp_seq ?_
  refine qs 21 [] [1,2,6,7] [(1,0),(18,0)] h fun ac wd h => ?_
  obtain ⟨e3584,hE3585,hD⟩ := Option.bind_eq_some_iff.1 hD
  refine r_meet (fun ac wd => () = e3584 ∧ SL ⟨wb,S,Φ,P0⟩ 157 391 [] [] ac wd) ?_ ?_
  ·
   refine wp_block ?_
   refine r_while (fun nf ac wd => ∃ (n4216 : Int) (m4217 : TConf),L_law14_CalmSteps_l1 a1 r1927 nf n4216 m4217 = some e3584 ∧ SL ⟨wb,S,Φ,P0⟩ 157 383 [(1,.one (.d (.sl (List.map eTStep a1)))),(2,.one (.ptr (1,0) 0)),(6,.one (.ptr (18,0) 0)),(7,.one (.d (.int .i64 n4216)))] [((1,0),some (.box 27 [.d (.int .i64 r1927.G.N),.d (.sl (List.map eA2I r1927.G.Links)),.d (.sl (List.map eTNode r1927.T)),.d (.bool r1927.Fifo)])),((18,0),some (.box 31 (cTConf m4217)))] ac wd) (((a1.length : Int) - 0).toNat + 1) ⟨0,r2632,hE3585,h.z⟩ (fun nf ac wd hJ => ?_)
   obtain ⟨n4216,m4217,hL4218,h⟩ := hJ
   cases nf with
   | zero => rw [L_law14_CalmSteps_l1] at hL4218; cases hL4218
   | succ nf =>
    rw [L_law14_CalmSteps_l1] at hL4218
    refine wp_seq ?_
    obtain ⟨e4271,hE4272,hL4218⟩ := Option.bind_eq_some_iff.1 hL4218
    refine r_seqJ (fun ac wd => ∃ (b4270 : Bool),b4270 = e4271 ∧ SL ⟨wb,S,Φ,P0⟩ 157 391 [(1,.one (.d (.sl (List.map eTStep a1)))),(2,.one (.ptr (1,0) 0)),(6,.one (.ptr (18,0) 0)),(7,.one (.d (.int .i64 n4216))),(40,.one (.d (.bool b4270)))] [((1,0),some (.box 27 [.d (.int .i64 r1927.G.N),.d (.sl (List.map eA2I r1927.G.Links)),.d (.sl (List.map eTNode r1927.T)),.d (.bool r1927.Fifo)])),((18,0),some (.box 31 (cTConf m4217)))] ac wd) ?_ ?_
    ·
     rcases i2 hE4272 with ⟨hb4273,hE4272⟩ | ⟨hb4273,hE4272⟩
     ·
      refine qeg [] [none,none,none,none,none,some (some 37,true),some (some 37,true),none] [1,2,6,7,40] [(1,0),(18,0)] h fun ac wd h => ?_
      injection hE4272 with hE4272; subst hE4272
      exact ⟨decide (n4216 < 40),rfl,h.z⟩
     ·
      refine qeg [] [none,none,none,none,none,some (some 37,true),some (some 37,true),none] [1,2,6,7,40] [(1,0),(18,0)] h fun ac wd h => ?_
      injection hE4272 with hE4272; subst hE4272
      exact ⟨false,rfl,h.z⟩
    ·
     rintro ac wd ⟨b4270,rfl,h⟩
     (try dsimp only at hL4218)
     rcases i2b hL4218 with ⟨hb4275,hL4218⟩ | ⟨hb4275,hL4218⟩
     ·
      refine kT h ?_
      refine wp_skip ?_
      change Code.wp Try.prog _ _ _ _
      obtain ⟨e4478,hE4479,hL4218⟩ := Option.bind_eq_some_iff.1 hL4218
      refine r_seqJ (fun ac wd => ∃ (m4477 : TConf),m4477 = e4478 ∧ SL ⟨wb,S,Φ,P0⟩ 157 561 [(1,.one (.d (.sl (List.map eTStep a1)))),(2,.one (.ptr (1,0) 0)),(6,.one (.ptr (18,0) 0)),(7,.one (.d (.int .i64 n4216)))] [((1,0),some (.box 27 [.d (.int .i64 r1927.G.N),.d (.sl (List.map eA2I r1927.G.Links)),.d (.sl (List.map eTNode r1927.T)),.d (.bool r1927.Fifo)])),((18,0),some (.box 31 (cTConf m4477)))] ac wd) ?_ ?_
      ·
       refine wp_block ?_
       obtain ⟨x4484,hx4485a,hx4485b,hx4485c,hx4485d,hE4479⟩ := aB hE4479
       obtain ⟨r4486,hc4487,hE4479⟩ := oB hE4479
       have hc4487k := L_plain_Apply_ok hc4487
       refine ds 404 [factE 397 hc4487k] [1,2,6,7,8,9] [(1,0),(18,0),(401,0)] h fun ac wd h => ?_
       refine wp_seq ?_
       refine qs 406 [] [1,2,6,7,8,54] [(1,0),(18,0),(401,0)] h fun ac wd h => ?_
       rcases i2e hE4479 with ⟨hb4489,hE4479⟩ | ⟨hb4489,hE4479⟩
       ·
        refine kF h ?_
        refine wp_skip ?_
        change Code.wp Try.prog _ _ _ _
        obtain ⟨r4536,hc4537,hE4479⟩ := oB hE4479
        have hc4537k := L_calm_Count_ok hc4537
        refine qs 416 [factE 408 hc4537k] [1,2,6,7,8,10,11,12] [(1,0),(18,0),(401,0)] h fun ac wd h => ?_
        obtain ⟨r4540,hc4541,hE4479⟩ := oB hE4479
        have hc4541k := L_calm_Count_ok hc4541
        refine qs 426 [factE 418 hc4541k] [1,2,6,7,8,10,11,12,13,14,15] [(1,0),(18,0),(401,0)] h fun ac wd h => ?_
        refine qs 450 [] [1,2,6,7,8,16] [(1,0),(18,0),(401,0)] h fun ac wd h => ?_
        refine qs 451 [] [1,2,6,7,8,16,17] [(1,0),(18,0),(401,0)] h fun ac wd h => ?_
        refine wp_seq ?_
        refine qs 452 [] [1,2,6,7,8,16,17,18] [(1,0),(18,0),(401,0)] h fun ac wd h => ?_
        obtain ⟨e4610,hE4611,hE4479⟩ := Option.bind_eq_some_iff.1 hE4479
        refine r_meet (fun ac wd => ∃ (n4609 : Int),n4609 = e4610 ∧ SL ⟨wb,S,Φ,P0⟩ 157 522 [(1,.one (.d (.sl (List.map eTStep a1)))),(2,.one (.ptr (1,0) 0)),(6,.one (.ptr (18,0) 0)),(7,.one (.d (.int .i64 n4216))),(8,.one (.ptr (401,0) 0)),(16,.one (.d (.int .i64 (IntKind.wrap .i64 ((IntKind.wrap .i64 ((max (IntKind.wrap .i64 (r4536.1 - r4540.1)) (IntKind.wrap .i64 (r4540.1 - r4536.1))) + (max (IntKind.wrap .i64 (r4536.2.1 - r4540.2.1)) (IntKind.wrap .i64 (r4540.2.1 - r4536.2.1))))) + (max (IntKind.wrap .i64 (r4536.2.2 - r4540.2.2)) (IntKind.wrap .i64 (r4540.2.2 - r4536.2.2)))))))),(17,.one (.d (.int .i64 n4609)))] [((1,0),some (.box 27 [.d (.int .i64 r1927.G.N),.d (.sl (List.map eA2I r1927.G.Links)),.d (.sl (List.map eTNode r1927.T)),.d (.bool r1927.Fifo)])),((18,0),some (.box 31 (cTConf m4217))),((401,0),some (.box 31 [.d (.sl (List.map eI r4486.1.States)),.d (.sl (List.map (eL eTMsg) r4486.1.Links)),.d (.sl (List.map eI r4486.1.Sent))]))] ac wd) ?_ ?_
        ·
         refine wp_block ?_
         refine r_while (fun nf ac wd => ∃ (n4644 : Int) (n4645 : Int),L_law14_CalmSteps_l2 m4217 r4486 nf n4644 n4645 = some e4610 ∧ SL ⟨wb,S,Φ,P0⟩ 157 510 [(1,.one (.d (.sl (List.map eTStep a1)))),(2,.one (.ptr (1,0) 0)),(6,.one (.ptr (18,0) 0)),(7,.one (.d (.int .i64 n4216))),(8,.one (.ptr (401,0) 0)),(16,.one (.d (.int .i64 (IntKind.wrap .i64 ((IntKind.wrap .i64 ((max (IntKind.wrap .i64 (r4536.1 - r4540.1)) (IntKind.wrap .i64 (r4540.1 - r4536.1))) + (max (IntKind.wrap .i64 (r4536.2.1 - r4540.2.1)) (IntKind.wrap .i64 (r4540.2.1 - r4536.2.1))))) + (max (IntKind.wrap .i64 (r4536.2.2 - r4540.2.2)) (IntKind.wrap .i64 (r4540.2.2 - r4536.2.2)))))))),(17,.one (.d (.int .i64 n4644))),(18,.one (.d (.int .i64 n4645)))] [((1,0),some (.box 27 [.d (.int .i64 r1927.G.N),.d (.sl (List.map eA2I r1927.G.Links)),.d (.sl (List.map eTNode r1927.T)),.d (.bool r1927.Fifo)])),((18,0),some (.box 31 (cTConf m4217))),((401,0),some (.box 31 [.d (.sl (List.map eI r4486.1.States)),.d (.sl (List.map (eL eTMsg) r4486.1.Links)),.d (.sl (List.map eI r4486.1.Sent))]))] ac wd) (((r4486.1.Sent.length : Int) - 0).toNat + 1) ⟨0,0,hE4611,h.z⟩ (fun nf ac wd hJ => ?_)
         obtain ⟨n4644,n4645,hL4646,h⟩ := hJ
         cases nf with
         | zero => rw [L_law14_CalmSteps_l2] at hL4646; cases hL4646
         | succ nf =>
          rw [L_law14_CalmSteps_l2] at hL4646
          refine wp_seq ?_
          obtain ⟨e4654,hE4655,hL4646⟩ := Option.bind_eq_some_iff.1 hL4646
          refine r_seqJ (fun ac wd => ∃ (b4653 : Bool),b4653 = e4654 ∧ SL ⟨wb,S,Φ,P0⟩ 157 522 [(1,.one (.d (.sl (List.map eTStep a1)))),(2,.one (.ptr (1,0) 0)),(6,.one (.ptr (18,0) 0)),(7,.one (.d (.int .i64 n4216))),(8,.one (.ptr (401,0) 0)),(16,.one (.d (.int .i64 (IntKind.wrap .i64 ((IntKind.wrap .i64 ((max (IntKind.wrap .i64 (r4536.1 - r4540.1)) (IntKind.wrap .i64 (r4540.1 - r4536.1))) + (max (IntKind.wrap .i64 (r4536.2.1 - r4540.2.1)) (IntKind.wrap .i64 (r4540.2.1 - r4536.2.1))))) + (max (IntKind.wrap .i64 (r4536.2.2 - r4540.2.2)) (IntKind.wrap .i64 (r4540.2.2 - r4536.2.2)))))))),(17,.one (.d (.int .i64 n4644))),(18,.one (.d (.int .i64 n4645))),(103,.one (.d (.bool b4653)))] [((1,0),some (.box 27 [.d (.int .i64 r1927.G.N),.d (.sl (List.map eA2I r1927.G.Links)),.d (.sl (List.map eTNode r1927.T)),.d (.bool r1927.Fifo)])),((18,0),some (.box 31 (cTConf m4217))),((401,0),some (.box 31 [.d (.sl (List.map eI r4486.1.States)),.d (.sl (List.map (eL eTMsg) r4486.1.Links)),.d (.sl (List.map eI r4486.1.Sent))]))] ac wd) ?_ ?_
          ·
           rcases i2 hE4655 with ⟨hb4656,hE4655⟩ | ⟨hb4656,hE4655⟩
           ·
            refine qeg [] [none,none,none,none,none,none,some (some 97,true),some (some 97,true),some (some 97,true),some (some 97,true),some (some 97,true),none] [1,2,6,7,8,16,17,18,103] [(1,0),(18,0),(401,0)] h fun ac wd h => ?_
            injection hE4655 with hE4655; subst hE4655
            exact ⟨decide (n4645 < (m4217.Sent.length : Int)),rfl,h.z⟩
           ·
            refine qeg [] [none,none,none,none,none,none,some (some 97,true),some (some 97,true),some (some 97,true),some (some 97,true),some (some 97,true),none] [1,2,6,7,8,16,17,18,103] [(1,0),(18,0),(401,0)] h fun ac wd h => ?_
            injection hE4655 with hE4655; subst hE4655
            exact ⟨false,rfl,h.z⟩
          ·
           rintro ac wd ⟨b4653,rfl,h⟩
           (try dsimp only at hL4646)
           rcases i2b hL4646 with ⟨hb4658,hL4646⟩ | ⟨hb4658,hL4646⟩
           ·
            refine kT h ?_
            refine wp_skip ?_
            change Code.wp Try.prog _ _ _ _
            refine wp_seq ?_
            refine wp_block ?_
            obtain ⟨x4667,hx4668a,hx4668b,hx4668c,hx4668d,hL4646⟩ := aB hL4646
            obtain ⟨x4669,hx4670a,hx4670b,hx4670c,hx4670d,hL4646⟩ := aB hL4646
            refine de [] [1,2,6,7,8,16,17,18] [(1,0),(18,0),(401,0)] h fun ac wd h => ?_
            change Code.wp Try.prog _ _ _ _
            refine qe [] [1,2,6,7,8,16,17,18] [(1,0),(18,0),(401,0)] h fun ac wd h => ?_
            exact ⟨nf,Nat.lt_succ_self nf,(IntKind.wrap .i64 ((IntKind.wrap .i64 (n4644 + x4667)) - x4669)),(IntKind.wrap .i64 (n4645 + 1)),hL4646,h.z⟩
           ·
            refine kF h ?_
            refine wp_exit ?_
            injection hL4646 with hL4646; subst hL4646
            exact ⟨n4644,rfl,h.z⟩
        ·
         rintro ac wd ⟨n4609,rfl,h⟩
         (try dsimp only at hE4479)
         obtain ⟨r4675,hc4676,hE4479⟩ := oB hE4479
         obtain ⟨r4677,hc4678,hE4479⟩ := oB hE4479
         have hc4676k := L_calm_Way_ok hc4676
         have hc4678k := L_calm_Way_ok hc4678
         refine ds 528 [factE 523 hc4676k,factE 525 hc4678k] [1,2,6,7,8,16,17,19] [(1,0),(18,0),(401,0)] h fun ac wd h => ?_
         refine wp_seq ?_
         obtain ⟨e4694,hE4695,hE4479⟩ := Option.bind_eq_some_iff.1 hE4479
         refine r_seqJ (fun ac wd => ∃ (b4693 : Bool),b4693 = e4694 ∧ SL ⟨wb,S,Φ,P0⟩ 157 559 [(1,.one (.d (.sl (List.map eTStep a1)))),(2,.one (.ptr (1,0) 0)),(6,.one (.ptr (18,0) 0)),(7,.one (.d (.int .i64 n4216))),(8,.one (.ptr (401,0) 0)),(154,.one (.d (.bool b4693)))] [((1,0),some (.box 27 [.d (.int .i64 r1927.G.N),.d (.sl (List.map eA2I r1927.G.Links)),.d (.sl (List.map eTNode r1927.T)),.d (.bool r1927.Fifo)])),((18,0),some (.box 31 (cTConf m4217))),((401,0),some (.box 31 [.d (.sl (List.map eI r4486.1.States)),.d (.sl (List.map (eL eTMsg) r4486.1.Links)),.d (.sl (List.map eI r4486.1.Sent))]))] ac wd) ?_ ?_
         ·
          rcases i2e hE4695 with ⟨hb4696,hE4695⟩ | ⟨hb4696,hE4695⟩
          ·
           rcases i2e hE4695 with ⟨hb4704,hE4695⟩ | ⟨hb4704,hE4695⟩
           ·
            rcases i2e hE4695 with ⟨hb4708,hE4695⟩ | ⟨hb4708,hE4695⟩
            ·
             rcases i2e hE4695 with ⟨hb4710,hE4695⟩ | ⟨hb4710,hE4695⟩
             ·
              refine qeg [] [none,none,none,some (some 126,true),some (some 126,true),none,none,some (some 130,false),some (some 130,false),some (some 130,false),some (some 130,false),some (some 130,false),some (some 130,false),some (some 130,false),some (some 137,true),some (some 137,true),some (some 130,false),none,none,some (some 142,false),some (some 142,false),some (some 142,false),some (some 142,false),some (some 142,false),some (some 142,false),some (some 142,false),some (some 149,true),some (some 149,true),some (some 149,true),some (some 142,false),none] [1,2,6,7,8,154] [(1,0),(18,0),(401,0)] h fun ac wd h => ?_
              injection hE4695 with hE4695; subst hE4695
              exact ⟨!(decide ((IntKind.wrap .i64 (r4675 - r4677)) = n4609)),rfl,h.z⟩
             ·
              refine qeg [] [none,none,none,some (some 126,true),some (some 126,true),none,none,some (some 130,false),some (some 130,false),some (some 130,false),some (some 130,false),some (some 130,false),some (some 130,false),some (some 130,false),some (some 137,true),some (some 137,true),some (some 130,false),none,none,some (some 142,false),some (some 142,false),some (some 142,false),some (some 142,false),some (some 142,false),some (some 142,false),some (some 142,false),some (some 149,true),some (some 149,true),some (some 149,true),some (some 142,false),none] [1,2,6,7,8,154] [(1,0),(18,0),(401,0)] h fun ac wd h => ?_
              injection hE4695 with hE4695; subst hE4695
              exact ⟨false,rfl,h.z⟩
            ·
             refine qeg [] [none,none,none,some (some 126,true),some (some 126,true),none,none,some (some 130,false),some (some 130,false),some (some 130,false),some (some 130,false),some (some 130,false),some (some 130,false),some (some 130,false),some (some 137,true),some (some 137,true),some (some 130,false),none,none,some (some 142,false),some (some 142,false),some (some 142,false),some (some 142,false),some (some 142,false),some (some 142,false),some (some 142,false),some (some 149,true),some (some 149,true),some (some 149,true),some (some 142,false),none] [1,2,6,7,8,154] [(1,0),(18,0),(401,0)] h fun ac wd h => ?_
             injection hE4695 with hE4695; subst hE4695
             exact ⟨true,rfl,h.z⟩
           ·
            rcases i2e hE4695 with ⟨hb4711,hE4695⟩ | ⟨hb4711,hE4695⟩
            ·
             refine qeg [] [none,none,none,some (some 126,true),some (some 126,true),none,none,some (some 130,false),some (some 130,false),some (some 130,false),some (some 130,false),some (some 130,false),some (some 130,false),some (some 130,false),some (some 137,true),some (some 137,true),some (some 130,false),none,none,some (some 142,false),some (some 142,false),some (some 142,false),some (some 142,false),some (some 142,false),some (some 142,false),some (some 142,false),some (some 149,true),some (some 149,true),some (some 149,true),some (some 142,false),none] [1,2,6,7,8,154] [(1,0),(18,0),(401,0)] h fun ac wd h => ?_
             injection hE4695 with hE4695; subst hE4695
             exact ⟨!(decide ((IntKind.wrap .i64 (r4675 - r4677)) = n4609)),rfl,h.z⟩
            ·
             refine qeg [] [none,none,none,some (some 126,true),some (some 126,true),none,none,some (some 130,false),some (some 130,false),some (some 130,false),some (some 130,false),some (some 130,false),some (some 130,false),some (some 130,false),some (some 137,true),some (some 137,true),some (some 130,false),none,none,some (some 142,false),some (some 142,false),some (some 142,false),some (some 142,false),some (some 142,false),some (some 142,false),some (some 142,false),some (some 149,true),some (some 149,true),some (some 149,true),some (some 142,false),none] [1,2,6,7,8,154] [(1,0),(18,0),(401,0)] h fun ac wd h => ?_
             injection hE4695 with hE4695; subst hE4695
             exact ⟨false,rfl,h.z⟩
          ·
           rcases i2e hE4695 with ⟨hb4712,hE4695⟩ | ⟨hb4712,hE4695⟩
           ·
            rcases i2e hE4695 with ⟨hb4716,hE4695⟩ | ⟨hb4716,hE4695⟩
            ·
             rcases i2e hE4695 with ⟨hb4720,hE4695⟩ | ⟨hb4720,hE4695⟩
             ·
              rcases i2e hE4695 with ⟨hb4722,hE4695⟩ | ⟨hb4722,hE4695⟩
              ·
               refine qeg [] [none,none,none,some (some 126,true),some (some 126,true),none,none,some (some 130,false),some (some 130,false),some (some 130,false),some (some 130,false),some (some 130,false),some (some 130,false),some (some 130,false),some (some 137,true),some (some 137,true),some (some 130,false),none,none,some (some 142,false),some (some 142,false),some (some 142,false),some (some 142,false),some (some 142,false),some (some 142,false),some (some 142,false),some (some 149,true),some (some 149,true),some (some 149,true),some (some 142,false),none] [1,2,6,7,8,154] [(1,0),(18,0),(401,0)] h fun ac wd h => ?_
               injection hE4695 with hE4695; subst hE4695
               exact ⟨!(decide ((IntKind.wrap .i64 (r4675 - r4677)) = n4609)),rfl,h.z⟩
              ·
               refine qeg [] [none,none,none,some (some 126,true),some (some 126,true),none,none,some (some 130,false),some (some 130,false),some (some 130,false),some (some 130,false),some (some 130,false),some (some 130,false),some (some 130,false),some (some 137,true),some (some 137,true),some (some 130,false),none,none,some (some 142,false),some (some 142,false),some (some 142,false),some (some 142,false),some (some 142,false),some (some 142,false),some (some 142,false),some (some 149,true),some (some 149,true),some (some 149,true),some (some 142,false),none] [1,2,6,7,8,154] [(1,0),(18,0),(401,0)] h fun ac wd h => ?_
               injection hE4695 with hE4695; subst hE4695
               exact ⟨false,rfl,h.z⟩
             ·
              refine qeg [] [none,none,none,some (some 126,true),some (some 126,true),none,none,some (some 130,false),some (some 130,false),some (some 130,false),some (some 130,false),some (some 130,false),some (some 130,false),some (some 130,false),some (some 137,true),some (some 137,true),some (some 130,false),none,none,some (some 142,false),some (some 142,false),some (some 142,false),some (some 142,false),some (some 142,false),some (some 142,false),some (some 142,false),some (some 149,true),some (some 149,true),some (some 149,true),some (some 142,false),none] [1,2,6,7,8,154] [(1,0),(18,0),(401,0)] h fun ac wd h => ?_
              injection hE4695 with hE4695; subst hE4695
              exact ⟨true,rfl,h.z⟩
            ·
             rcases i2e hE4695 with ⟨hb4723,hE4695⟩ | ⟨hb4723,hE4695⟩
             ·
              refine qeg [] [none,none,none,some (some 126,true),some (some 126,true),none,none,some (some 130,false),some (some 130,false),some (some 130,false),some (some 130,false),some (some 130,false),some (some 130,false),some (some 130,false),some (some 137,true),some (some 137,true),some (some 130,false),none,none,some (some 142,false),some (some 142,false),some (some 142,false),some (some 142,false),some (some 142,false),some (some 142,false),some (some 142,false),some (some 149,true),some (some 149,true),some (some 149,true),some (some 142,false),none] [1,2,6,7,8,154] [(1,0),(18,0),(401,0)] h fun ac wd h => ?_
              injection hE4695 with hE4695; subst hE4695
              exact ⟨!(decide ((IntKind.wrap .i64 (r4675 - r4677)) = n4609)),rfl,h.z⟩
             ·
              refine qeg [] [none,none,none,some (some 126,true),some (some 126,true),none,none,some (some 130,false),some (some 130,false),some (some 130,false),some (some 130,false),some (some 130,false),some (some 130,false),some (some 130,false),some (some 137,true),some (some 137,true),some (some 130,false),none,none,some (some 142,false),some (some 142,false),some (some 142,false),some (some 142,false),some (some 142,false),some (some 142,false),some (some 142,false),some (some 149,true),some (some 149,true),some (some 149,true),some (some 142,false),none] [1,2,6,7,8,154] [(1,0),(18,0),(401,0)] h fun ac wd h => ?_
              injection hE4695 with hE4695; subst hE4695
              exact ⟨false,rfl,h.z⟩
           ·
            refine qeg [] [none,none,none,some (some 126,true),some (some 126,true),none,none,some (some 130,false),some (some 130,false),some (some 130,false),some (some 130,false),some (some 130,false),some (some 130,false),some (some 130,false),some (some 137,true),some (some 137,true),some (some 130,false),none,none,some (some 142,false),some (some 142,false),some (some 142,false),some (some 142,false),some (some 142,false),some (some 142,false),some (some 142,false),some (some 149,true),some (some 149,true),some (some 149,true),some (some 142,false),none] [1,2,6,7,8,154] [(1,0),(18,0),(401,0)] h fun ac wd h => ?_
            injection hE4695 with hE4695; subst hE4695
            exact ⟨true,rfl,h.z⟩
         ·
          rintro ac wd ⟨b4693,rfl,h⟩
          (try dsimp only at hE4479)
          obtain ⟨hb4725,hE4479⟩ := iFb hE4479
          refine kF h ?_
          refine wp_skip ?_
          change Code.wp Try.prog _ _ _ _
          refine qe [] [1,2,6,7] [(1,0),(18,0)] h fun ac wd h => ?_
          injection hE4479 with hE4479; subst hE4479
          exact ⟨r4486.1,rfl,h.z⟩
       ·
        refine kT h ?_
        refine wp_exit ?_
        injection hE4479 with hE4479; subst hE4479
        exact ⟨m4217,rfl,h.z⟩
      ·
       rintro ac wd ⟨m4477,rfl,h⟩
       (try dsimp only at hL4218)
       refine qe [] [1,2,6,7] [(1,0),(18,0)] h fun ac wd h => ?_
       exact ⟨nf,Nat.lt_succ_self nf,(IntKind.wrap .i64 (n4216 + 1)),m4477,hL4218,h.z⟩
     ·
      refine kF h ?_
      refine wp_exit ?_
      injection hL4218 with hL4218; subst hL4218
      exact ⟨rfl,h.z⟩
  ·
   rintro ac wd ⟨rfl,h⟩
   (try dsimp only at hD)
   obtain ⟨r4728,hc4729,hD⟩ := oB hD
   have hc4729k := L_law14_fixed_ok hc4729
   refine qs 393 [factE 391 hc4729k] [4] [] h fun ac wd h => ?_
   refine wp_ret ?_
   injection hD with hD
   subst hD
   exact rE h [.tmp 4]
 ·
  refine kT h ?_
  obtain ⟨r4732,hc4733,hD⟩ := oB hD
  have hc4733k := L_law14_fixed_ok hc4733
  refine qs 18 [factE 16 hc4733k] [4] [] h fun ac wd h => ?_
  refine wp_ret ?_
  injection hD with hD
  subst hD
  exact rE h [.tmp 4]

end Go.Proofs.Ytifcbecpemaieaa
