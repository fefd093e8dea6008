/- Functions as typed ones,and that the program's functions answer as these do. No condition. -/
import Derived.Test.YtifcbecpemaieaaGb6
import Derived.Test.YtifcbecpemaieaaGb8
import Derived.Test.YtifcbecpemaieaaGdPlainStays
set_option linter.unusedSimpArgs false
set_option linter.unusedVariables false
set_option maxRecDepth 20000
set_option maxHeartbeats 4000000
namespace Go.Proofs.Ytifcbecpemaieaa
open Go.RowKit

theorem L_law05_PlainStays_ok {a0 : TApp} {a1 : TConf} {r : Bool} (hD : L_law05_PlainStays a0 a1 = some r) :
  CallH Try.prog 12 [.agg (cTApp a0),.agg (cTConf a1)] []
   (.one (.d (.bool r))) [] := by
 unfold L_law05_PlainStays at hD
 refine rc Try.func12 rfl Try.ntmps12 fun S Φ P0 wb ac h => ?_
 refine qs 4 [] [2,3] [(1,0),(2,0)] h fun ac wd h => ?_
 obtain ⟨r3101,hc3102,hD⟩ := oB hD
 have hc3102k := L_law05_Cut_ok hc3102
 refine qs 7 [factE 5 hc3102k] [2,3] [(1,0),(2,0)] h fun ac wd h => ?_
 obtain ⟨r3105,hc3106,hD⟩ := oB hD
 have hc3106k := L_law05_CutConf_ok hc3106
 refine qs 10 [factE 8 hc3106k] [2,3] [(1,0),(2,0)] h fun ac wd h => ?_
 refine wp_seq ?_
 obtain ⟨r3113,hc3114,hD⟩ := oB hD
 obtain ⟨r3115,hc3116,hD⟩ := oB hD
 obtain ⟨r3117,hc3118,hD⟩ := oB hD
 have hc3114k := L_law05_App_ok hc3114
 have hc3116k := L_law05_Ref_ok hc3116
 have hc3118k := L_ref05_Right_ok hc3118
 refine ds 16 [factE 11 hc3114k,factE 13 hc3116k,factE 14 hc3118k] [2,3,21] [(1,0),(2,0)] h fun ac wd h => ?_
 rcases i2b hD with ⟨hb3133,hD⟩ | ⟨hb3133,hD⟩
 ·
  refine kF h ?_
  refine wp_skip ?_
  change Code.wp Try.prog _ _ _ _
  obtain ⟨r4249,hc4250,hD⟩ := oB hD
  have hc4250k := L_plain_Can_ok hc4250
  refine qs 20 [factE 18 hc4250k] [2,3,5] [(1,0),(2,0)] h fun ac wd h => ?_
  refine wp_seq ?_
  refine qs 21 [] [2,3,5,6] [(1,0),(2,0)] h fun ac wd h => ?_
  obtain ⟨e5775,hE5776,hD⟩ := Option.bind_eq_some_iff.1 hD
  refine r_meet (fun ac wd => () = e5775 ∧ SL ⟨wb,S,Φ,P0⟩ 137 395 [] [] ac wd) ?_ ?_
  ·
   refine wp_block ?_
   refine r_while (fun nf ac wd => ∃ (n6790 : Int),L_law05_PlainStays_l1 r3101 r3105 r4249 nf n6790 = some e5775 ∧ SL ⟨wb,S,Φ,P0⟩ 137 391 [(2,.one (.ptr (1,0) 0)),(3,.one (.ptr (2,0) 0)),(5,.one (.d (.sl (List.map eTStep r4249)))),(6,.one (.d (.int .i64 n6790)))] [((1,0),some (.box 27 [.d (.int .i64 r3101.G.N),.d (.sl (List.map eA2I r3101.G.Links)),.d (.sl (List.map eTNode r3101.T)),.d (.bool r3101.Fifo)])),((2,0),some (.box 31 [.d (.sl (List.map eI r3105.States)),.d (.sl (List.map (eL eTMsg) r3105.Links)),.d (.sl (List.map eI r3105.Sent))]))] ac wd) (((r4249.length : Int) - 0).toNat + 1) ⟨0,hE5776,h.z⟩ (fun nf ac wd hJ => ?_)
   obtain ⟨n6790,hL6791,h⟩ := hJ
   cases nf with
   | zero => rw [L_law05_PlainStays_l1] at hL6791; cases hL6791
   | succ nf =>
    rw [L_law05_PlainStays_l1] at hL6791
    refine wp_seq ?_
    refine qs 395 [] [2,3,5,6,35] [(1,0),(2,0)] h fun ac wd h => ?_
    rcases i2 hL6791 with ⟨hb6793,hL6791⟩ | ⟨hb6793,hL6791⟩
    ·
     refine kT h ?_
     refine wp_skip ?_
     change Code.wp Try.prog _ _ _ _
     obtain ⟨e7136,hE7137,hL6791⟩ := Option.bind_eq_some_iff.1 hL6791
     refine r_seqJ (fun ac wd => () = e7136 ∧ SL ⟨wb,S,Φ,P0⟩ 137 573 [(2,.one (.ptr (1,0) 0)),(3,.one (.ptr (2,0) 0)),(5,.one (.d (.sl (List.map eTStep r4249)))),(6,.one (.d (.int .i64 n6790)))] [((1,0),some (.box 27 [.d (.int .i64 r3101.G.N),.d (.sl (List.map eA2I r3101.G.Links)),.d (.sl (List.map eTNode r3101.T)),.d (.bool r3101.Fifo)])),((2,0),some (.box 31 [.d (.sl (List.map eI r3105.States)),.d (.sl (List.map (eL eTMsg) r3105.Links)),.d (.sl (List.map eI r3105.Sent))]))] ac wd) ?_ ?_
     ·
      refine wp_block ?_
      obtain ⟨x7142,hx7143a,hx7143b,hx7143c,hx7143d,hE7137⟩ := aB hE7137
      obtain ⟨r7144,hc7145,hE7137⟩ := oB hE7137
      have hc7145k := L_plain_Apply_ok hc7145
      refine ds 408 [factE 401 hc7145k] [2,3,5,6,7,8] [(1,0),(2,0),(405,0)] h fun ac wd h => ?_
      refine wp_seq ?_
      obtain ⟨hb7233,hE7137⟩ := iTe hE7137
      obtain ⟨r7234,hc7235,hE7137⟩ := oB hE7137
      have hc7235k := L_plain_Right_ok hc7235
      refine qsg 416 [factE 413 hc7235k] [none,none,none,some (some 50,false),some (some 50,false),some (some 50,false),some (some 50,false),none] [2,3,5,6,7,55] [(1,0),(2,0),(405,0)] h fun ac wd h => ?_
      obtain ⟨hb7237,hE7137⟩ := iT hE7137
      refine kF h ?_
      refine wp_skip ?_
      change Code.wp Try.prog _ _ _ _
      refine qs 418 [] [2,3,5,6,7,9,10] [(1,0),(2,0),(405,0)] h fun ac wd h => ?_
      refine wp_seq ?_
      refine qs 419 [] [2,3,5,6,7,9,10,11] [(1,0),(2,0),(405,0)] h fun ac wd h => ?_
      obtain ⟨e7357,hE7358,hE7137⟩ := Option.bind_eq_some_iff.1 hE7137
      refine r_meet (fun ac wd => ∃ (n7355 : Int) (n7356 : Int),(n7355,n7356) = e7357 ∧ SL ⟨wb,S,Φ,P0⟩ 137 542 [(2,.one (.ptr (1,0) 0)),(3,.one (.ptr (2,0) 0)),(5,.one (.d (.sl (List.map eTStep r4249)))),(6,.one (.d (.int .i64 n6790))),(9,.one (.d (.int .i64 n7355))),(10,.one (.d (.int .i64 n7356)))] [((1,0),some (.box 27 [.d (.int .i64 r3101.G.N),.d (.sl (List.map eA2I r3101.G.Links)),.d (.sl (List.map eTNode r3101.T)),.d (.bool r3101.Fifo)])),((2,0),some (.box 31 [.d (.sl (List.map eI r3105.States)),.d (.sl (List.map (eL eTMsg) r3105.Links)),.d (.sl (List.map eI r3105.Sent))]))] ac wd) ?_ ?_
      ·
       refine wp_block ?_
       refine r_while (fun nf ac wd => ∃ (n7428 : Int) (n7429 : Int) (n7430 : Int),L_law05_PlainStays_l2 r3105 r7144 nf n7428 n7429 n7430 = some e7357 ∧ SL ⟨wb,S,Φ,P0⟩ 137 523 [(2,.one (.ptr (1,0) 0)),(3,.one (.ptr (2,0) 0)),(5,.one (.d (.sl (List.map eTStep r4249)))),(6,.one (.d (.int .i64 n6790))),(7,.one (.ptr (405,0) 0)),(9,.one (.d (.int .i64 n7428))),(10,.one (.d (.int .i64 n7429))),(11,.one (.d (.int .i64 n7430)))] [((1,0),some (.box 27 [.d (.int .i64 r3101.G.N),.d (.sl (List.map eA2I r3101.G.Links)),.d (.sl (List.map eTNode r3101.T)),.d (.bool r3101.Fifo)])),((2,0),some (.box 31 [.d (.sl (List.map eI r3105.States)),.d (.sl (List.map (eL eTMsg) r3105.Links)),.d (.sl (List.map eI r3105.Sent))])),((405,0),some (.box 31 [.d (.sl (List.map eI r7144.1.States)),.d (.sl (List.map (eL eTMsg) r7144.1.Links)),.d (.sl (List.map eI r7144.1.Sent))]))] ac wd) (((r3105.Links.length : Int) - 0).toNat + 1) ⟨0,0,0,hE7358,h.z⟩ (fun nf ac wd hJ => ?_)
       obtain ⟨n7428,n7429,n7430,hL7431,h⟩ := hJ
       cases nf with
       | zero => rw [L_law05_PlainStays_l2] at hL7431; cases hL7431
       | succ nf =>
        rw [L_law05_PlainStays_l2] at hL7431
        refine wp_seq ?_
        obtain ⟨e7444,hE7445,hL7431⟩ := Option.bind_eq_some_iff.1 hL7431
        refine r_seqJ (fun ac wd => ∃ (b7443 : Bool),b7443 = e7444 ∧ SL ⟨wb,S,Φ,P0⟩ 137 542 [(2,.one (.ptr (1,0) 0)),(3,.one (.ptr (2,0) 0)),(5,.one (.d (.sl (List.map eTStep r4249)))),(6,.one (.d (.int .i64 n6790))),(7,.one (.ptr (405,0) 0)),(9,.one (.d (.int .i64 n7428))),(10,.one (.d (.int .i64 n7429))),(11,.one (.d (.int .i64 n7430))),(74,.one (.d (.bool b7443)))] [((1,0),some (.box 27 [.d (.int .i64 r3101.G.N),.d (.sl (List.map eA2I r3101.G.Links)),.d (.sl (List.map eTNode r3101.T)),.d (.bool r3101.Fifo)])),((2,0),some (.box 31 [.d (.sl (List.map eI r3105.States)),.d (.sl (List.map (eL eTMsg) r3105.Links)),.d (.sl (List.map eI r3105.Sent))])),((405,0),some (.box 31 [.d (.sl (List.map eI r7144.1.States)),.d (.sl (List.map (eL eTMsg) r7144.1.Links)),.d (.sl (List.map eI r7144.1.Sent))]))] ac wd) ?_ ?_
        ·
         rcases i2 hE7445 with ⟨hb7446,hE7445⟩ | ⟨hb7446,hE7445⟩
         ·
          rcases i2 hE7445 with ⟨hb7448,hE7445⟩ | ⟨hb7448,hE7445⟩
          ·
           refine qeg [] [none,none,none,none,none,none,some (some 61,true),some (some 61,true),some (some 61,true),some (some 61,true),some (some 61,true),none,none,some (some 68,true),some (some 68,true),some (some 68,true),some (some 68,true),some (some 68,true),none] [2,3,5,6,7,9,10,11,74] [(1,0),(2,0),(405,0)] h fun ac wd h => ?_
           injection hE7445 with hE7445; subst hE7445
           exact ⟨decide (n7430 < (r7144.1.Sent.length : Int)),rfl,h.z⟩
          ·
           refine qeg [] [none,none,none,none,none,none,some (some 61,true),some (some 61,true),some (some 61,true),some (some 61,true),some (some 61,true),none,none,some (some 68,true),some (some 68,true),some (some 68,true),some (some 68,true),some (some 68,true),none] [2,3,5,6,7,9,10,11,74] [(1,0),(2,0),(405,0)] h fun ac wd h => ?_
           injection hE7445 with hE7445; subst hE7445
           exact ⟨false,rfl,h.z⟩
         ·
          refine qeg [] [none,none,none,none,none,none,some (some 61,true),some (some 61,true),some (some 61,true),some (some 61,true),some (some 61,true),none,none,some (some 68,true),some (some 68,true),some (some 68,true),some (some 68,true),some (some 68,true),none] [2,3,5,6,7,9,10,11,74] [(1,0),(2,0),(405,0)] h fun ac wd h => ?_
          injection hE7445 with hE7445; subst hE7445
          exact ⟨false,rfl,h.z⟩
        ·
         rintro ac wd ⟨b7443,rfl,h⟩
         (try dsimp only at hL7431)
         rcases i2b hL7431 with ⟨hb7450,hL7431⟩ | ⟨hb7450,hL7431⟩
         ·
          refine kT h ?_
          refine wp_skip ?_
          change Code.wp Try.prog _ _ _ _
          refine wp_seq ?_
          refine wp_block ?_
          obtain ⟨x7475,hx7476a,hx7476b,hx7476c,hx7476d,hL7431⟩ := aB hL7431
          obtain ⟨x7477,hx7478a,hx7478b,hx7478c,hx7478d,hL7431⟩ := aB hL7431
          refine ds 558 [] [2,3,5,6,7,9,10,11] [(1,0),(2,0),(405,0)] h fun ac wd h => ?_
          obtain ⟨x7479,hx7480a,hx7480b,hx7480c,hx7480d,hL7431⟩ := aB hL7431
          obtain ⟨x7481,hx7482a,hx7482b,hx7482c,hx7482d,hL7431⟩ := aB hL7431
          refine de [] [2,3,5,6,7,9,10,11] [(1,0),(2,0),(405,0)] h fun ac wd h => ?_
          change Code.wp Try.prog _ _ _ _
          refine qe [] [2,3,5,6,7,9,10,11] [(1,0),(2,0),(405,0)] h fun ac wd h => ?_
          exact ⟨nf,Nat.lt_succ_self nf,(IntKind.wrap .i64 ((IntKind.wrap .i64 (n7428 + (x7475.length : Int))) - (x7477.length : Int))),(IntKind.wrap .i64 ((IntKind.wrap .i64 (n7429 + x7479)) - x7481)),(IntKind.wrap .i64 (n7430 + 1)),hL7431,h.z⟩
         ·
          refine kF h ?_
          refine wp_exit ?_
          injection hL7431 with hL7431; subst hL7431
          exact ⟨n7428,n7429,rfl,h.z⟩
      ·
       rintro ac wd ⟨n7355,n7356,rfl,h⟩
       (try dsimp only at hE7137)
       obtain ⟨e7493,hE7494,hE7137⟩ := Option.bind_eq_some_iff.1 hE7137
       refine r_seqJ (fun ac wd => ∃ (b7492 : Bool),b7492 = e7493 ∧ SL ⟨wb,S,Φ,P0⟩ 137 573 [(2,.one (.ptr (1,0) 0)),(3,.one (.ptr (2,0) 0)),(5,.one (.d (.sl (List.map eTStep r4249)))),(6,.one (.d (.int .i64 n6790))),(135,.one (.d (.bool b7492)))] [((1,0),some (.box 27 [.d (.int .i64 r3101.G.N),.d (.sl (List.map eA2I r3101.G.Links)),.d (.sl (List.map eTNode r3101.T)),.d (.bool r3101.Fifo)])),((2,0),some (.box 31 [.d (.sl (List.map eI r3105.States)),.d (.sl (List.map (eL eTMsg) r3105.Links)),.d (.sl (List.map eI r3105.Sent))]))] ac wd) ?_ ?_
       ·
        rcases i2e hE7494 with ⟨hb7495,hE7494⟩ | ⟨hb7495,hE7494⟩
        ·
         rcases i2e hE7494 with ⟨hb7502,hE7494⟩ | ⟨hb7502,hE7494⟩
         ·
          rcases i2e hE7494 with ⟨hb7506,hE7494⟩ | ⟨hb7506,hE7494⟩
          ·
           rcases i2e hE7494 with ⟨hb7509,hE7494⟩ | ⟨hb7509,hE7494⟩
           ·
            rcases i2e hE7494 with ⟨hb7511,hE7494⟩ | ⟨hb7511,hE7494⟩
            ·
             refine qeg [] [none,none,none,none,none,none,none,some (some 111,true),some (some 111,true),some (some 111,true),some (some 114,false),some (some 114,false),some (some 111,true),none,none,some (some 119,false),some (some 119,false),some (some 119,false),some (some 119,false),some (some 119,false),some (some 119,false),some (some 119,false),some (some 126,true),some (some 126,true),some (some 126,true),some (some 126,true),some (some 130,false),some (some 130,false),some (some 126,true),some (some 119,false),none] [2,3,5,6,135] [(1,0),(2,0)] h fun ac wd h => ?_
             injection hE7494 with hE7494; subst hE7494
             exact ⟨decide (n7356 < 0),rfl,h.z⟩
            ·
             refine qeg [] [none,none,none,none,none,none,none,some (some 111,true),some (some 111,true),some (some 111,true),some (some 114,false),some (some 114,false),some (some 111,true),none,none,some (some 119,false),some (some 119,false),some (some 119,false),some (some 119,false),some (some 119,false),some (some 119,false),some (some 119,false),some (some 126,true),some (some 126,true),some (some 126,true),some (some 126,true),some (some 130,false),some (some 130,false),some (some 126,true),some (some 119,false),none] [2,3,5,6,135] [(1,0),(2,0)] h fun ac wd h => ?_
             injection hE7494 with hE7494; subst hE7494
             exact ⟨true,rfl,h.z⟩
           ·
            refine qeg [] [none,none,none,none,none,none,none,some (some 111,true),some (some 111,true),some (some 111,true),some (some 114,false),some (some 114,false),some (some 111,true),none,none,some (some 119,false),some (some 119,false),some (some 119,false),some (some 119,false),some (some 119,false),some (some 119,false),some (some 119,false),some (some 126,true),some (some 126,true),some (some 126,true),some (some 126,true),some (some 130,false),some (some 130,false),some (some 126,true),some (some 119,false),none] [2,3,5,6,135] [(1,0),(2,0)] h fun ac wd h => ?_
            injection hE7494 with hE7494; subst hE7494
            exact ⟨false,rfl,h.z⟩
          ·
           refine qeg [] [none,none,none,none,none,none,none,some (some 111,true),some (some 111,true),some (some 111,true),some (some 114,false),some (some 114,false),some (some 111,true),none,none,some (some 119,false),some (some 119,false),some (some 119,false),some (some 119,false),some (some 119,false),some (some 119,false),some (some 119,false),some (some 126,true),some (some 126,true),some (some 126,true),some (some 126,true),some (some 130,false),some (some 130,false),some (some 126,true),some (some 119,false),none] [2,3,5,6,135] [(1,0),(2,0)] h fun ac wd h => ?_
           injection hE7494 with hE7494; subst hE7494
           exact ⟨true,rfl,h.z⟩
         ·
          refine qeg [] [none,none,none,none,none,none,none,some (some 111,true),some (some 111,true),some (some 111,true),some (some 114,false),some (some 114,false),some (some 111,true),none,none,some (some 119,false),some (some 119,false),some (some 119,false),some (some 119,false),some (some 119,false),some (some 119,false),some (some 119,false),some (some 126,true),some (some 126,true),some (some 126,true),some (some 126,true),some (some 130,false),some (some 130,false),some (some 126,true),some (some 119,false),none] [2,3,5,6,135] [(1,0),(2,0)] h fun ac wd h => ?_
          injection hE7494 with hE7494; subst hE7494
          exact ⟨true,rfl,h.z⟩
        ·
         rcases i2e hE7494 with ⟨hb7512,hE7494⟩ | ⟨hb7512,hE7494⟩
         ·
          rcases i2e hE7494 with ⟨hb7514,hE7494⟩ | ⟨hb7514,hE7494⟩
          ·
           refine qeg [] [none,none,none,none,none,none,none,some (some 111,true),some (some 111,true),some (some 111,true),some (some 114,false),some (some 114,false),some (some 111,true),none,none,some (some 119,false),some (some 119,false),some (some 119,false),some (some 119,false),some (some 119,false),some (some 119,false),some (some 119,false),some (some 126,true),some (some 126,true),some (some 126,true),some (some 126,true),some (some 130,false),some (some 130,false),some (some 126,true),some (some 119,false),none] [2,3,5,6,135] [(1,0),(2,0)] h fun ac wd h => ?_
           injection hE7494 with hE7494; subst hE7494
           exact ⟨decide (n7356 < 0),rfl,h.z⟩
          ·
           refine qeg [] [none,none,none,none,none,none,none,some (some 111,true),some (some 111,true),some (some 111,true),some (some 114,false),some (some 114,false),some (some 111,true),none,none,some (some 119,false),some (some 119,false),some (some 119,false),some (some 119,false),some (some 119,false),some (some 119,false),some (some 119,false),some (some 126,true),some (some 126,true),some (some 126,true),some (some 126,true),some (some 130,false),some (some 130,false),some (some 126,true),some (some 119,false),none] [2,3,5,6,135] [(1,0),(2,0)] h fun ac wd h => ?_
           injection hE7494 with hE7494; subst hE7494
           exact ⟨true,rfl,h.z⟩
         ·
          refine qeg [] [none,none,none,none,none,none,none,some (some 111,true),some (some 111,true),some (some 111,true),some (some 114,false),some (some 114,false),some (some 111,true),none,none,some (some 119,false),some (some 119,false),some (some 119,false),some (some 119,false),some (some 119,false),some (some 119,false),some (some 119,false),some (some 126,true),some (some 126,true),some (some 126,true),some (some 126,true),some (some 130,false),some (some 130,false),some (some 126,true),some (some 119,false),none] [2,3,5,6,135] [(1,0),(2,0)] h fun ac wd h => ?_
          injection hE7494 with hE7494; subst hE7494
          exact ⟨false,rfl,h.z⟩
       ·
        rintro ac wd ⟨b7492,rfl,h⟩
        (try dsimp only at hE7137)
        obtain ⟨hb7515,hE7137⟩ := iFb hE7137
        refine kF h ?_
        refine wp_skip ?_
        injection hE7137 with hE7137; subst hE7137
        exact ⟨rfl,h.z⟩
     ·
      rintro ac wd ⟨rfl,h⟩
      (try dsimp only at hL6791)
      refine qe [] [2,3,5,6] [(1,0),(2,0)] h fun ac wd h => ?_
      exact ⟨nf,Nat.lt_succ_self nf,(IntKind.wrap .i64 (n6790 + 1)),hL6791,h.z⟩
    ·
     refine kF h ?_
     refine wp_exit ?_
     injection hL6791 with hL6791; subst hL6791
     exact ⟨rfl,h.z⟩
  ·
   rintro ac wd ⟨rfl,h⟩
   (try dsimp only at hD)
   obtain ⟨r7518,hc7519,hD⟩ := oB hD
   have hc7519k := L_law05_fixed_ok hc7519
   refine qs 397 [factE 395 hc7519k] [4] [] h fun ac wd h => ?_
   refine wp_ret ?_
   injection hD with hD
   subst hD
   exact rE h [.tmp 4]
 ·
  refine kT h ?_
  obtain ⟨r7525,hc7526,hD⟩ := oB hD
  obtain ⟨hb7527,hD⟩ := iFb hD
  obtain ⟨r7530,hc7531,hD⟩ := oB hD
  have hc7526k := L_plain_Right_ok hc7526
  have hc7531k := L_law05_fixed_ok hc7531
  refine qsg 24 [factE 18 hc7526k,factE 21 hc7531k] [none,none,none,none,none,some (some 26,true),none,none] [4] [] h fun ac wd h => ?_
  refine wp_ret ?_
  injection hD with hD
  subst hD
  exact rE h [.tmp 4]

end Go.Proofs.Ytifcbecpemaieaa
