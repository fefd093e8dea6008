/- Functions as typed ones,and that the program's functions answer as these do. No condition. -/
import Derived.Test.YtabbejabdkkaiaaGb0
import Derived.Test.YtabbejabdkkaiaaGd
set_option linter.unusedSimpArgs false
set_option linter.unusedVariables false
set_option maxRecDepth 20000
set_option maxHeartbeats 4000000
namespace Go.Proofs.Ytabbejabdkkaiaa
open Go.RowKit

theorem L_ref03_Dist_own {a0 : TGraph} {a1 : Int} {r : (List Int)} (hD : L_ref03_Dist a0 a1 = some r) :
  CallH Try.prog 95 [.agg (cTGraph a0),.one (.d (.int .i64 a1))] []
   (.one (.own (1,0) r.length)) [((1,0),some (.row 3 1 (dat (List.map eI r))))] := by
 unfold L_ref03_Dist at hD
 refine rc Try.func95 rfl Try.ntmps95 fun S Φ P0 wb ac h => ?_
 refine qs 3 [] [1,2] [(1,0)] h fun ac wd h => ?_
 refine qs 5 [] [1,2,5] [(1,0),(3,0)] h fun ac wd h => ?_
 refine wp_seq ?_
 obtain ⟨e1794,hE1795,hD⟩ := Option.bind_eq_some_iff.1 hD
 refine r_seqJ (fun ac wd => ∃ (b1793 : Bool),b1793 = e1794 ∧ SL ⟨wb,S,Φ,P0⟩ 77 13 [(1,.one (.d (.int .i64 a1))),(2,.one (.ptr (1,0) 0)),(5,.one (.own (3,0) 0)),(19,.one (.d (.bool b1793)))] [((1,0),some (.box 32 (cTGraph a0))),((3,0),some (.row 3 1 ([])))] ac wd) ?_ ?_
 ·
  rcases i2 hE1795 with ⟨hb1796,hE1795⟩ | ⟨hb1796,hE1795⟩
  ·
   refine qeg [] [none,none,none,some (some 14,false),some (some 14,false),some (some 14,false),some (some 14,false),none] [1,2,5,19] [(1,0),(3,0)] h fun ac wd h => ?_
   injection hE1795 with hE1795; subst hE1795
   exact ⟨true,rfl,h.z⟩
  ·
   refine qeg [] [none,none,none,some (some 14,false),some (some 14,false),some (some 14,false),some (some 14,false),none] [1,2,5,19] [(1,0),(3,0)] h fun ac wd h => ?_
   injection hE1795 with hE1795; subst hE1795
   exact ⟨decide (a1 ≥ a0.N),rfl,h.z⟩
 ·
  rintro ac wd ⟨b1793,rfl,h⟩
  (try dsimp only at hD)
  rcases i2b hD with ⟨hb1798,hD⟩ | ⟨hb1798,hD⟩
  ·
   refine kT h ?_
   refine qs 15 [] [4] [(3,0)] h fun ac wd h => ?_
   refine wp_ret ?_
   have h := h.sw (1,0) (3,0) 15
   injection hD with hD
   subst hD
   exact rO h [.tmp 4] [(1,0)]
  ·
   refine kF h ?_
   refine wp_skip ?_
   change Code.wp Try.prog _ _ _ _
   refine wp_seq ?_
   refine qs 14 [] [1,2,5,6] [(1,0),(3,0)] h fun ac wd h => ?_
   obtain ⟨e1814,hE1815,hD⟩ := Option.bind_eq_some_iff.1 hD
   refine r_meet (fun ac wd => ∃ (l1813 : List Int),l1813 = e1814 ∧ SL ⟨wb,S,Φ,P0⟩ 77 40 [(1,.one (.d (.int .i64 a1))),(2,.one (.ptr (1,0) 0)),(5,.one (.own (3,0) l1813.length))] [((1,0),some (.box 32 (cTGraph a0))),((3,0),some (.row 3 1 (dat (List.map eI l1813))))] ac wd) ?_ ?_
   ·
    refine wp_block ?_
    refine r_while (fun nf ac wd => ∃ (n1824 : Int) (l1825 : List Int),L_ref03_Dist_l1 a0 nf n1824 l1825 = some e1814 ∧ SL ⟨wb,S,Φ,P0⟩ 77 36 [(1,.one (.d (.int .i64 a1))),(2,.one (.ptr (1,0) 0)),(5,.one (.own (3,0) l1825.length)),(6,.one (.d (.int .i64 n1824)))] [((1,0),some (.box 32 (cTGraph a0))),((3,0),some (.row 3 1 (dat (List.map eI l1825))))] ac wd) ((a0.N - 0).toNat + 1) ⟨0,([] : List Int),hE1815,h.z⟩ (fun nf ac wd hJ => ?_)
    obtain ⟨n1824,l1825,hL1826,h⟩ := hJ
    cases nf with
    | zero => rw [L_ref03_Dist_l1] at hL1826; cases hL1826
    | succ nf =>
     rw [L_ref03_Dist_l1] at hL1826
     refine wp_seq ?_
     refine qs 40 [] [1,2,5,6,24] [(1,0),(3,0)] h fun ac wd h => ?_
     rcases i2 hL1826 with ⟨hb1828,hL1826⟩ | ⟨hb1828,hL1826⟩
     ·
      refine kT h ?_
      refine wp_skip ?_
      change Code.wp Try.prog _ _ _ _
      refine wp_seq ?_
      refine wp_block ?_
      obtain ⟨ha1830,hL1826⟩ := iT hL1826
      refine qe [] [1,2,5,6] [(1,0),(42,0)] h fun ac wd h => ?_
      change Code.wp Try.prog _ _ _ _
      refine qe [] [1,2,5,6] [(1,0),(42,0)] h fun ac wd h => ?_
      have h := h.sw (3,0) (42,0) 47
      exact ⟨nf,Nat.lt_succ_self nf,(IntKind.wrap .i64 (n1824 + 1)),(l1825 ++ [(-1)]),hL1826,h.z⟩
     ·
      refine kF h ?_
      refine wp_exit ?_
      injection hL1826 with hL1826; subst hL1826
      exact ⟨l1825,rfl,h.z⟩
   ·
    rintro ac wd ⟨l1813,rfl,h⟩
    (try dsimp only at hD)
    obtain ⟨x1833,hx1834a,hx1834b,hx1834c,hx1834d,hD⟩ := aB hD
    refine qs 44 [] [2,5] [(1,0),(3,0)] h fun ac wd h => ?_
    refine wp_seq ?_
    refine qs 45 [] [2,5,7] [(1,0),(3,0)] h fun ac wd h => ?_
    refine wp_block ?_
    refine r_while (fun nf ac wd => ∃ (n3296 : Int) (l3297 : List Int),L_ref03_Dist_l2 a0 nf n3296 l3297 = some r ∧ SL ⟨wb,S,Φ,P0⟩ 77 235 [(2,.one (.ptr (1,0) 0)),(5,.one (.own (3,0) l3297.length)),(7,.one (.d (.int .i64 n3296)))] [((1,0),some (.box 32 (cTGraph a0))),((3,0),some (.row 3 1 (dat (List.map eI l3297))))] ac wd) ((a0.N - 0).toNat + 1) ⟨0,(l1813.set a1.toNat 0),hD,h.z⟩ (fun nf ac wd hJ => ?_)
    obtain ⟨n3296,l3297,hL3298,h⟩ := hJ
    cases nf with
    | zero => rw [L_ref03_Dist_l2] at hL3298; cases hL3298
    | succ nf =>
     rw [L_ref03_Dist_l2] at hL3298
     refine wp_seq ?_
     refine qs 239 [] [2,5,7,36] [(1,0),(3,0)] h fun ac wd h => ?_
     rcases i2 hL3298 with ⟨hb3300,hL3298⟩ | ⟨hb3300,hL3298⟩
     ·
      refine kT h ?_
      refine wp_skip ?_
      change Code.wp Try.prog _ _ _ _
      obtain ⟨e3441,hE3442,hL3298⟩ := Option.bind_eq_some_iff.1 hL3298
      refine r_seqJ (fun ac wd => ∃ (l3440 : List Int),l3440 = e3441 ∧ SL ⟨wb,S,Φ,P0⟩ 77 327 [(2,.one (.ptr (1,0) 0)),(5,.one (.own (3,0) l3440.length)),(7,.one (.d (.int .i64 n3296)))] [((1,0),some (.box 32 (cTGraph a0))),((3,0),some (.row 3 1 (dat (List.map eI l3440))))] ac wd) ?_ ?_
      ·
       refine wp_block ?_
       refine qs 240 [] [2,5,7,8] [(1,0),(3,0)] h fun ac wd h => ?_
       obtain ⟨e3583,hE3584,hE3442⟩ := Option.bind_eq_some_iff.1 hE3442
       refine r_meetQ (fun ac wd => ∃ (l3582 : List Int),l3582 = e3583 ∧ SL ⟨wb,S,Φ,P0⟩ 77 327 [(2,.one (.ptr (1,0) 0)),(5,.one (.own (3,0) l3582.length)),(7,.one (.d (.int .i64 n3296)))] [((1,0),some (.box 32 (cTGraph a0))),((3,0),some (.row 3 1 (dat (List.map eI l3582))))] ac wd) ?_ ?_
       ·
        refine wp_block ?_
        refine r_while (fun nf ac wd => ∃ (n3677 : Int) (l3678 : List Int),L_ref03_Dist_l3 a0 n3296 nf n3677 l3678 = some e3583 ∧ SL ⟨wb,S,Φ,P0⟩ 77 322 [(2,.one (.ptr (1,0) 0)),(5,.one (.own (3,0) l3678.length)),(7,.one (.d (.int .i64 n3296))),(8,.one (.d (.int .i64 n3677)))] [((1,0),some (.box 32 (cTGraph a0))),((3,0),some (.row 3 1 (dat (List.map eI l3678))))] ac wd) (((a0.Links.length : Int) - 0).toNat + 1) ⟨0,l3297,hE3584,h.z⟩ (fun nf ac wd hJ => ?_)
        obtain ⟨n3677,l3678,hL3679,h⟩ := hJ
        cases nf with
        | zero => rw [L_ref03_Dist_l3] at hL3679; cases hL3679
        | succ nf =>
         rw [L_ref03_Dist_l3] at hL3679
         refine wp_seq ?_
         refine qs 327 [] [2,5,7,8,43] [(1,0),(3,0)] h fun ac wd h => ?_
         rcases i2 hL3679 with ⟨hb3681,hL3679⟩ | ⟨hb3681,hL3679⟩
         ·
          refine kT h ?_
          refine wp_skip ?_
          change Code.wp Try.prog _ _ _ _
          obtain ⟨e3703,hE3704,hL3679⟩ := Option.bind_eq_some_iff.1 hL3679
          refine r_seqJ (fun ac wd => ∃ (l3702 : List Int),l3702 = e3703 ∧ SL ⟨wb,S,Φ,P0⟩ 77 360 [(2,.one (.ptr (1,0) 0)),(5,.one (.own (3,0) l3702.length)),(7,.one (.d (.int .i64 n3296))),(8,.one (.d (.int .i64 n3677)))] [((1,0),some (.box 32 (cTGraph a0))),((3,0),some (.row 3 1 (dat (List.map eI l3702))))] ac wd) ?_ ?_
          ·
           refine wp_block ?_
           obtain ⟨x3707,hx3708a,hx3708b,hx3708c,hx3708d,hE3704⟩ := aB hE3704
           refine ds 341 [] [2,5,7,8,9,10] [(1,0),(3,0)] h fun ac wd h => ?_
           obtain ⟨e3715,hE3716,hE3704⟩ := Option.bind_eq_some_iff.1 hE3704
           refine r_seqJ (fun ac wd => ∃ (b3714 : Bool),b3714 = e3715 ∧ SL ⟨wb,S,Φ,P0⟩ 77 354 [(2,.one (.ptr (1,0) 0)),(5,.one (.own (3,0) l3678.length)),(7,.one (.d (.int .i64 n3296))),(8,.one (.d (.int .i64 n3677))),(10,.one (.d (.int .i64 x3707.a1))),(70,.one (.d (.bool b3714)))] [((1,0),some (.box 32 (cTGraph a0))),((3,0),some (.row 3 1 (dat (List.map eI l3678))))] ac wd) ?_ ?_
           ·
            obtain ⟨x3717,hx3718a,hx3718b,hx3718c,hx3718d,hE3716⟩ := aB hE3716
            rcases i2e hE3716 with ⟨hb3719,hE3716⟩ | ⟨hb3719,hE3716⟩
            ·
             obtain ⟨x3720,hx3721a,hx3721b,hx3721c,hx3721d,hE3716⟩ := aB hE3716
             refine qeg [] [none,none,none,none,none,none,none,some (some 64,true),some (some 64,true),some (some 64,true),some (some 64,true),some (some 64,true),none] [2,5,7,8,10,70] [(1,0),(3,0)] h fun ac wd h => ?_
             injection hE3716 with hE3716; subst hE3716
             exact ⟨decide (x3720 < 0),rfl,h.z⟩
            ·
             refine qeg [] [none,none,none,none,none,none,none,some (some 64,true),some (some 64,true),some (some 64,true),some (some 64,true),some (some 64,true),none] [2,5,7,8,10,70] [(1,0),(3,0)] h fun ac wd h => ?_
             injection hE3716 with hE3716; subst hE3716
             exact ⟨false,rfl,h.z⟩
           ·
            rintro ac wd ⟨b3714,rfl,h⟩
            (try dsimp only at hE3704)
            rcases i2b hE3704 with ⟨hb3722,hE3704⟩ | ⟨hb3722,hE3704⟩
            ·
             refine kT h ?_
             obtain ⟨x3723,hx3724a,hx3724b,hx3724c,hx3724d,hE3704⟩ := aB hE3704
             refine qe [] [2,5,7,8] [(1,0),(3,0)] h fun ac wd h => ?_
             injection hE3704 with hE3704; subst hE3704
             exact ⟨(l3678.set x3707.a1.toNat (IntKind.wrap .i64 (n3296 + 1))),rfl,h.z⟩
            ·
             refine kF h ?_
             refine wp_skip ?_
             injection hE3704 with hE3704; subst hE3704
             exact ⟨l3678,rfl,h.z⟩
          ·
           rintro ac wd ⟨l3702,rfl,h⟩
           (try dsimp only at hL3679)
           refine qe [] [2,5,7,8] [(1,0),(3,0)] h fun ac wd h => ?_
           exact ⟨nf,Nat.lt_succ_self nf,(IntKind.wrap .i64 (n3677 + 1)),l3702,hL3679,h.z⟩
         ·
          refine kF h ?_
          refine wp_exit ?_
          injection hL3679 with hL3679; subst hL3679
          exact ⟨l3678,rfl,h.z⟩
       ·
        rintro ac wd ⟨l3582,rfl,h⟩
        (try dsimp only at hE3442)
        injection hE3442 with hE3442; subst hE3442
        exact ⟨l3582,rfl,h.z⟩
      ·
       rintro ac wd ⟨l3440,rfl,h⟩
       (try dsimp only at hL3298)
       refine qe [] [2,5,7] [(1,0),(3,0)] h fun ac wd h => ?_
       exact ⟨nf,Nat.lt_succ_self nf,(IntKind.wrap .i64 (n3296 + 1)),l3440,hL3298,h.z⟩
     ·
      refine kF h ?_
      refine wp_exit ?_
      change Code.wp Try.prog _ _ _ _
      refine qs 241 [] [4] [(3,0)] h fun ac wd h => ?_
      refine wp_ret ?_
      have h := h.sw (1,0) (3,0) 241
      injection hL3298 with hL3298
      subst hL3298
      exact rO h [.tmp 4] [(1,0)]
theorem L_ref03_Dist_ok {a0 : TGraph} {a1 : Int} {r : (List Int)} (hD : L_ref03_Dist a0 a1 = some r) :
  CallH Try.prog 95 [.agg (cTGraph a0),.one (.d (.int .i64 a1))] []
   (.one (.d (.sl (List.map eI r)))) [] :=
 (L_ref03_Dist_own hD).fr

theorem L_ref03_Right_ok {a0 : TGraph} {r : Bool} (hD : L_ref03_Right a0 = some r) :
  CallH Try.prog 50 [.agg (cTGraph a0)] []
   (.one (.d (.bool r))) [] := by
 unfold L_ref03_Right at hD
 refine rc Try.func50 rfl Try.ntmps50 fun S Φ P0 wb ac h => ?_
 refine qs 3 [] [1] [(1,0)] h fun ac wd h => ?_
 refine wp_seq ?_
 obtain ⟨e909,hE910,hD⟩ := Option.bind_eq_some_iff.1 hD
 refine r_seqJ (fun ac wd => ∃ (b908 : Bool),b908 = e909 ∧ SL ⟨wb,S,Φ,P0⟩ 100 17 [(1,.one (.ptr (1,0) 0)),(22,.one (.d (.bool b908)))] [((1,0),some (.box 32 (cTGraph a0)))] ac wd) ?_ ?_
 ·
  rcases i2 hE910 with ⟨hb911,hE910⟩ | ⟨hb911,hE910⟩
  ·
   refine qeg [] [none,none,none,none,some (some 12,false),some (some 12,false),some (some 12,false),none,none,some (some 17,false),some (some 17,false),some (some 17,false),some (some 17,false),none] [1,22] [(1,0)] h fun ac wd h => ?_
   injection hE910 with hE910; subst hE910
   exact ⟨true,rfl,h.z⟩
  ·
   rcases i2 hE910 with ⟨hb912,hE910⟩ | ⟨hb912,hE910⟩
   ·
    refine qeg [] [none,none,none,none,some (some 12,false),some (some 12,false),some (some 12,false),none,none,some (some 17,false),some (some 17,false),some (some 17,false),some (some 17,false),none] [1,22] [(1,0)] h fun ac wd h => ?_
    injection hE910 with hE910; subst hE910
    exact ⟨true,rfl,h.z⟩
   ·
    refine qeg [] [none,none,none,none,some (some 12,false),some (some 12,false),some (some 12,false),none,none,some (some 17,false),some (some 17,false),some (some 17,false),some (some 17,false),none] [1,22] [(1,0)] h fun ac wd h => ?_
    injection hE910 with hE910; subst hE910
    exact ⟨decide ((a0.Links.length : Int) > 30),rfl,h.z⟩
 ·
  rintro ac wd ⟨b908,rfl,h⟩
  (try dsimp only at hD)
  rcases i2b hD with ⟨hb914,hD⟩ | ⟨hb914,hD⟩
  ·
   refine kT h ?_
   refine qs 18 [] [2] [] h fun ac wd h => ?_
   refine wp_ret ?_
   injection hD with hD
   subst hD
   exact rE h [.tmp 2]
  ·
   refine kF h ?_
   refine wp_skip ?_
   change Code.wp Try.prog _ _ _ _
   refine wp_seq ?_
   refine qs 18 [] [1,3] [(1,0)] h fun ac wd h => ?_
   obtain ⟨e1091,hE1092,hD⟩ := Option.bind_eq_some_iff.1 hD
   refine r_meet (fun ac wd => (.inl ()) = e1091 ∧ SL ⟨wb,S,Φ,P0⟩ 100 143 [(1,.one (.ptr (1,0) 0))] [((1,0),some (.box 32 (cTGraph a0)))] ac wd) ?_ ?_
   ·
    refine wp_block ?_
    refine r_while (fun nf ac wd => ∃ (n1210 : Int),L_ref03_Right_l1 a0 nf n1210 = some e1091 ∧ SL ⟨wb,S,Φ,P0⟩ 100 138 [(1,.one (.ptr (1,0) 0)),(3,.one (.d (.int .i64 n1210)))] [((1,0),some (.box 32 (cTGraph a0)))] ac wd) (((a0.Links.length : Int) - 0).toNat + 1) ⟨0,hE1092,h.z⟩ (fun nf ac wd hJ => ?_)
    obtain ⟨n1210,hL1211,h⟩ := hJ
    cases nf with
    | zero => rw [L_ref03_Right_l1] at hL1211; cases hL1211
    | succ nf =>
     rw [L_ref03_Right_l1] at hL1211
     refine wp_seq ?_
     refine qs 143 [] [1,3,27] [(1,0)] h fun ac wd h => ?_
     rcases i2 hL1211 with ⟨hb1213,hL1211⟩ | ⟨hb1213,hL1211⟩
     ·
      refine kT h ?_
      refine wp_skip ?_
      change Code.wp Try.prog _ _ _ _
      refine wp_seq ?_
      refine wp_block ?_
      obtain ⟨x1244,hx1245a,hx1245b,hx1245c,hx1245d,hL1211⟩ := aB hL1211
      refine ds 157 [] [1,3,4,5] [(1,0)] h fun ac wd h => ?_
      obtain ⟨e1257,hE1258,hL1211⟩ := Option.bind_eq_some_iff.1 hL1211
      refine r_seqJ (fun ac wd => ∃ (b1256 : Bool),b1256 = e1257 ∧ SL ⟨wb,S,Φ,P0⟩ 100 195 [(1,.one (.ptr (1,0) 0)),(3,.one (.d (.int .i64 n1210))),(79,.one (.d (.bool b1256)))] [((1,0),some (.box 32 (cTGraph a0)))] ac wd) ?_ ?_
      ·
       rcases i2 hE1258 with ⟨hb1259,hE1258⟩ | ⟨hb1259,hE1258⟩
       ·
        refine qeg [] [none,none,none,some (some 44,false),some (some 44,false),some (some 44,false),some (some 44,false),none,none,some (some 50,false),some (some 50,false),none,none,some (some 54,false),some (some 54,false),some (some 54,false),some (some 54,false),none,none,some (some 60,false),some (some 60,false),some (some 60,false),none,none,some (some 65,false),some (some 65,false),some (some 65,false),some (some 65,false),some (some 65,false),some (some 65,false),none,none,some (some 73,false),some (some 73,false),some (some 73,false),some (some 73,false),some (some 73,false),none] [1,3,79] [(1,0)] h fun ac wd h => ?_
        injection hE1258 with hE1258; subst hE1258
        exact ⟨true,rfl,h.z⟩
       ·
        rcases i2 hE1258 with ⟨hb1260,hE1258⟩ | ⟨hb1260,hE1258⟩
        ·
         refine qeg [] [none,none,none,some (some 44,false),some (some 44,false),some (some 44,false),some (some 44,false),none,none,some (some 50,false),some (some 50,false),none,none,some (some 54,false),some (some 54,false),some (some 54,false),some (some 54,false),none,none,some (some 60,false),some (some 60,false),some (some 60,false),none,none,some (some 65,false),some (some 65,false),some (some 65,false),some (some 65,false),some (some 65,false),some (some 65,false),none,none,some (some 73,false),some (some 73,false),some (some 73,false),some (some 73,false),some (some 73,false),none] [1,3,79] [(1,0)] h fun ac wd h => ?_
         injection hE1258 with hE1258; subst hE1258
         exact ⟨true,rfl,h.z⟩
        ·
         rcases i2 hE1258 with ⟨hb1261,hE1258⟩ | ⟨hb1261,hE1258⟩
         ·
          refine qeg [] [none,none,none,some (some 44,false),some (some 44,false),some (some 44,false),some (some 44,false),none,none,some (some 50,false),some (some 50,false),none,none,some (some 54,false),some (some 54,false),some (some 54,false),some (some 54,false),none,none,some (some 60,false),some (some 60,false),some (some 60,false),none,none,some (some 65,false),some (some 65,false),some (some 65,false),some (some 65,false),some (some 65,false),some (some 65,false),none,none,some (some 73,false),some (some 73,false),some (some 73,false),some (some 73,false),some (some 73,false),none] [1,3,79] [(1,0)] h fun ac wd h => ?_
          injection hE1258 with hE1258; subst hE1258
          exact ⟨true,rfl,h.z⟩
         ·
          rcases i2 hE1258 with ⟨hb1262,hE1258⟩ | ⟨hb1262,hE1258⟩
          ·
           refine qeg [] [none,none,none,some (some 44,false),some (some 44,false),some (some 44,false),some (some 44,false),none,none,some (some 50,false),some (some 50,false),none,none,some (some 54,false),some (some 54,false),some (some 54,false),some (some 54,false),none,none,some (some 60,false),some (some 60,false),some (some 60,false),none,none,some (some 65,false),some (some 65,false),some (some 65,false),some (some 65,false),some (some 65,false),some (some 65,false),none,none,some (some 73,false),some (some 73,false),some (some 73,false),some (some 73,false),some (some 73,false),none] [1,3,79] [(1,0)] h fun ac wd h => ?_
           injection hE1258 with hE1258; subst hE1258
           exact ⟨true,rfl,h.z⟩
          ·
           rcases i2e hE1258 with ⟨hb1263,hE1258⟩ | ⟨hb1263,hE1258⟩
           ·
            refine qeg [] [none,none,none,some (some 44,false),some (some 44,false),some (some 44,false),some (some 44,false),none,none,some (some 50,false),some (some 50,false),none,none,some (some 54,false),some (some 54,false),some (some 54,false),some (some 54,false),none,none,some (some 60,false),some (some 60,false),some (some 60,false),none,none,some (some 65,false),some (some 65,false),some (some 65,false),some (some 65,false),some (some 65,false),some (some 65,false),none,none,some (some 73,false),some (some 73,false),some (some 73,false),some (some 73,false),some (some 73,false),none] [1,3,79] [(1,0)] h fun ac wd h => ?_
            injection hE1258 with hE1258; subst hE1258
            exact ⟨true,rfl,h.z⟩
           ·
            obtain ⟨r1264,hc1265,hE1258⟩ := oB hE1258
            rcases i2e hE1258 with ⟨hb1266,hE1258⟩ | ⟨hb1266,hE1258⟩
            ·
             obtain ⟨r1267,hc1268,hE1258⟩ := oB hE1258
             have hc1265k := L_ref03_Find_ok hc1265
             have hc1268k := L_ref03_Find_ok hc1268
             refine qeg [factE 184 hc1265k,factE 192 hc1268k] [none,none,none,some (some 44,false),some (some 44,false),some (some 44,false),some (some 44,false),none,none,some (some 50,false),some (some 50,false),none,none,some (some 54,false),some (some 54,false),some (some 54,false),some (some 54,false),none,none,some (some 60,false),some (some 60,false),some (some 60,false),none,none,some (some 65,false),some (some 65,false),some (some 65,false),some (some 65,false),some (some 65,false),some (some 65,false),none,none,some (some 73,false),some (some 73,false),some (some 73,false),some (some 73,false),some (some 73,false),none] [1,3,79] [(1,0)] h fun ac wd h => ?_
             injection hE1258 with hE1258; subst hE1258
             exact ⟨decide (r1267 < 0),rfl,h.z⟩
            ·
             have hc1265k := L_ref03_Find_ok hc1265
             refine qeg [factE 184 hc1265k] [none,none,none,some (some 44,false),some (some 44,false),some (some 44,false),some (some 44,false),none,none,some (some 50,false),some (some 50,false),none,none,some (some 54,false),some (some 54,false),some (some 54,false),some (some 54,false),none,none,some (some 60,false),some (some 60,false),some (some 60,false),none,none,some (some 65,false),some (some 65,false),some (some 65,false),some (some 65,false),some (some 65,false),some (some 65,false),none,none,some (some 73,false),some (some 73,false),some (some 73,false),some (some 73,false),some (some 73,false),none] [1,3,79] [(1,0)] h fun ac wd h => ?_
             injection hE1258 with hE1258; subst hE1258
             exact ⟨true,rfl,h.z⟩
      ·
       rintro ac wd ⟨b1256,rfl,h⟩
       (try dsimp only at hL1211)
       rcases i2b hL1211 with ⟨hb1269,hL1211⟩ | ⟨hb1269,hL1211⟩
       ·
        refine kT h ?_
        refine qs 196 [] [2] [] h fun ac wd h => ?_
        refine wp_ret ?_
        injection hL1211 with hL1211
        subst hL1211
        (try dsimp only at hD)
        injection hD with hD
        subst hD
        exact rE h [.tmp 2]
       ·
        refine kF h ?_
        refine wp_skip ?_
        change Code.wp Try.prog _ _ _ _
        refine qe [] [1,3] [(1,0)] h fun ac wd h => ?_
        exact ⟨nf,Nat.lt_succ_self nf,(IntKind.wrap .i64 (n1210 + 1)),hL1211,h.z⟩
     ·
      refine kF h ?_
      refine wp_exit ?_
      injection hL1211 with hL1211; subst hL1211
      exact ⟨rfl,h.z⟩
   ·
    rintro ac wd ⟨rfl,h⟩
    (try dsimp only at hD)
    refine wp_seq ?_
    refine qs 144 [] [1,6] [(1,0)] h fun ac wd h => ?_
    refine wp_block ?_
    refine r_while (fun nf ac wd => ∃ (n1718 : Int),L_ref03_Right_l2 a0 nf n1718 = some r ∧ SL ⟨wb,S,Φ,P0⟩ 100 224 [(1,.one (.ptr (1,0) 0)),(6,.one (.d (.int .i64 n1718)))] [((1,0),some (.box 32 (cTGraph a0)))] ac wd) ((a0.N - 0).toNat + 1) ⟨0,hD,h.z⟩ (fun nf ac wd hJ => ?_)
    obtain ⟨n1718,hL1719,h⟩ := hJ
    cases nf with
    | zero => rw [L_ref03_Right_l2] at hL1719; cases hL1719
    | succ nf =>
     rw [L_ref03_Right_l2] at hL1719
     refine wp_seq ?_
     refine qs 228 [] [1,6,83] [(1,0)] h fun ac wd h => ?_
     rcases i2 hL1719 with ⟨hb1721,hL1719⟩ | ⟨hb1721,hL1719⟩
     ·
      refine kT h ?_
      refine wp_skip ?_
      change Code.wp Try.prog _ _ _ _
      obtain ⟨e1764,hE1765,hL1719⟩ := Option.bind_eq_some_iff.1 hL1719
      refine r_seqJ (fun ac wd => (.inl ()) = e1764 ∧ SL ⟨wb,S,Φ,P0⟩ 100 261 [(1,.one (.ptr (1,0) 0)),(6,.one (.d (.int .i64 n1718)))] [((1,0),some (.box 32 (cTGraph a0)))] ac wd) ?_ ?_
      ·
       refine wp_block ?_
       obtain ⟨r1768,hc1769,hE1765⟩ := oB hE1765
       have hc1769k := L_ref03_Dist_ok hc1769
       refine qs 232 [factE 230 hc1769k] [1,6,7] [(1,0)] h fun ac wd h => ?_
       refine qs 233 [] [1,6,7,8] [(1,0)] h fun ac wd h => ?_
       obtain ⟨e1808,hE1809,hE1765⟩ := Option.bind_eq_some_iff.1 hE1765
       refine r_meetQ (fun ac wd => (.inl ()) = e1808 ∧ SL ⟨wb,S,Φ,P0⟩ 100 261 [(1,.one (.ptr (1,0) 0)),(6,.one (.d (.int .i64 n1718)))] [((1,0),some (.box 32 (cTGraph a0)))] ac wd) ?_ ?_
       ·
        refine wp_block ?_
        refine r_while (fun nf ac wd => ∃ (n1835 : Int),L_ref03_Right_l3 r1768 nf n1835 = some e1808 ∧ SL ⟨wb,S,Φ,P0⟩ 100 257 [(1,.one (.ptr (1,0) 0)),(6,.one (.d (.int .i64 n1718))),(7,.one (.d (.sl (List.map eI r1768)))),(8,.one (.d (.int .i64 n1835)))] [((1,0),some (.box 32 (cTGraph a0)))] ac wd) (((r1768.length : Int) - 0).toNat + 1) ⟨0,hE1809,h.z⟩ (fun nf ac wd hJ => ?_)
        obtain ⟨n1835,hL1836,h⟩ := hJ
        cases nf with
        | zero => rw [L_ref03_Right_l3] at hL1836; cases hL1836
        | succ nf =>
         rw [L_ref03_Right_l3] at hL1836
         refine wp_seq ?_
         refine qs 261 [] [1,6,7,8,92] [(1,0)] h fun ac wd h => ?_
         rcases i2 hL1836 with ⟨hb1838,hL1836⟩ | ⟨hb1838,hL1836⟩
         ·
          refine kT h ?_
          refine wp_skip ?_
          change Code.wp Try.prog _ _ _ _
          refine wp_seq ?_
          refine wp_block ?_
          obtain ⟨x1846,hx1847a,hx1847b,hx1847c,hx1847d,hL1836⟩ := aB hL1836
          refine qs 266 [] [1,6,7,8,99] [(1,0)] h fun ac wd h => ?_
          rcases i2 hL1836 with ⟨hb1848,hL1836⟩ | ⟨hb1848,hL1836⟩
          ·
           refine kT h ?_
           refine qs 267 [] [2] [] h fun ac wd h => ?_
           refine wp_ret ?_
           injection hL1836 with hL1836
           subst hL1836
           (try dsimp only at hE1765)
           injection hE1765 with hE1765
           subst hE1765
           (try dsimp only at hL1719)
           injection hL1719 with hL1719
           subst hL1719
           exact rE h [.tmp 2]
          ·
           refine kF h ?_
           refine wp_skip ?_
           change Code.wp Try.prog _ _ _ _
           refine qe [] [1,6,7,8] [(1,0)] h fun ac wd h => ?_
           exact ⟨nf,Nat.lt_succ_self nf,(IntKind.wrap .i64 (n1835 + 1)),hL1836,h.z⟩
         ·
          refine kF h ?_
          refine wp_exit ?_
          injection hL1836 with hL1836; subst hL1836
          exact ⟨rfl,h.z⟩
       ·
        rintro ac wd ⟨rfl,h⟩
        (try dsimp only at hE1765)
        injection hE1765 with hE1765; subst hE1765
        exact ⟨rfl,h.z⟩
      ·
       rintro ac wd ⟨rfl,h⟩
       (try dsimp only at hL1719)
       refine qe [] [1,6] [(1,0)] h fun ac wd h => ?_
       exact ⟨nf,Nat.lt_succ_self nf,(IntKind.wrap .i64 (n1718 + 1)),hL1719,h.z⟩
     ·
      refine kF h ?_
      refine wp_exit ?_
      change Code.wp Try.prog _ _ _ _
      refine qs 229 [] [2] [] h fun ac wd h => ?_
      refine wp_ret ?_
      injection hL1719 with hL1719
      subst hL1719
      exact rE h [.tmp 2]

theorem L_ref04_waits_ok {a0 : TState} {a1 : Int} {a2 : TGraph} {r : Bool} (hD : L_ref04_waits a0 a1 a2 = some r) :
  CallH Try.prog 51 [.agg (cTState a0),.one (.d (.int .i64 a1)),.agg (cTGraph a2)] []
   (.one (.d (.bool r))) [] := by
 unfold L_ref04_waits at hD
 refine rc Try.func51 rfl Try.ntmps51 fun S Φ P0 wb ac h => ?_
 refine qs 4 [] [1,3,5] [(1,0),(2,0)] h fun ac wd h => ?_
 refine wp_seq ?_
 refine qs 7 [] [1,3,5,10] [(1,0),(2,0)] h fun ac wd h => ?_
 rcases i2e hD with ⟨hb239,hD⟩ | ⟨hb239,hD⟩
 ·
  refine kF h ?_
  refine wp_skip ?_
  change Code.wp Try.prog _ _ _ _
  refine wp_seq ?_
  refine qs 8 [] [1,3,5,7] [(1,0),(2,0)] h fun ac wd h => ?_
  refine wp_block ?_
  refine r_while (fun nf ac wd => ∃ (n429 : Int),L_ref04_waits_l1 a0 a1 a2 nf n429 = some r ∧ SL ⟨wb,S,Φ,P0⟩ 53 78 [(1,.one (.d (.int .i64 a1))),(3,.one (.ptr (1,0) 0)),(5,.one (.ptr (2,0) 0)),(7,.one (.d (.int .i64 n429)))] [((1,0),some (.box 90 (cTState a0))),((2,0),some (.box 32 (cTGraph a2)))] ac wd) (((a0.Waits.length : Int) - 0).toNat + 1) ⟨0,hD,h.z⟩ (fun nf ac wd hJ => ?_)
  obtain ⟨n429,hL430,h⟩ := hJ
  cases nf with
  | zero => rw [L_ref04_waits_l1] at hL430; cases hL430
  | succ nf =>
   rw [L_ref04_waits_l1] at hL430
   refine wp_seq ?_
   refine qs 83 [] [1,3,5,7,19] [(1,0),(2,0)] h fun ac wd h => ?_
   rcases i2 hL430 with ⟨hb432,hL430⟩ | ⟨hb432,hL430⟩
   ·
    refine kT h ?_
    refine wp_skip ?_
    change Code.wp Try.prog _ _ _ _
    refine wp_seq ?_
    refine wp_block ?_
    obtain ⟨e462,hE463,hL430⟩ := Option.bind_eq_some_iff.1 hL430
    refine r_seqJ (fun ac wd => ∃ (b461 : Bool),b461 = e462 ∧ SL ⟨wb,S,Φ,P0⟩ 53 110 [(1,.one (.d (.int .i64 a1))),(3,.one (.ptr (1,0) 0)),(5,.one (.ptr (2,0) 0)),(7,.one (.d (.int .i64 n429))),(48,.one (.d (.bool b461)))] [((1,0),some (.box 90 (cTState a0))),((2,0),some (.box 32 (cTGraph a2)))] ac wd) ?_ ?_
    ·
     obtain ⟨x464,hx465a,hx465b,hx465c,hx465d,hE463⟩ := aB hE463
     obtain ⟨r466,hc467,hE463⟩ := oB hE463
     rcases i2 hE463 with ⟨hb468,hE463⟩ | ⟨hb468,hE463⟩
     ·
      have hc467k := L_ref03_Find_ok hc467
      refine deg [factE 90 hc467k] [none,none,none,none,none,none,none,none,none,none,some (some 31,false),some (some 31,false),some (some 31,false),some (some 34,true),some (some 34,true),some (some 34,true),some (some 34,true),some (some 34,true),some (some 34,true),some (some 34,true),some (some 34,true),some (some 34,true),some (some 34,true),some (some 34,true),some (some 34,true),some (some 31,false),none] [1,3,5,7,48] [(1,0),(2,0)] h fun ac wd h => ?_
      injection hE463 with hE463; subst hE463
      exact ⟨true,rfl,h.z⟩
     ·
      rcases i2 hE463 with ⟨hb469,hE463⟩ | ⟨hb469,hE463⟩
      ·
       obtain ⟨x470,hx471a,hx471b,hx471c,hx471d,hE463⟩ := aB hE463
       have hc467k := L_ref03_Find_ok hc467
       refine deg [factE 90 hc467k] [none,none,none,none,none,none,none,none,none,none,some (some 31,false),some (some 31,false),some (some 31,false),some (some 34,true),some (some 34,true),some (some 34,true),some (some 34,true),some (some 34,true),some (some 34,true),some (some 34,true),some (some 34,true),some (some 34,true),some (some 34,true),some (some 34,true),some (some 34,true),some (some 31,false),none] [1,3,5,7,48] [(1,0),(2,0)] h fun ac wd h => ?_
       injection hE463 with hE463; subst hE463
       exact ⟨decide (x464 ≤ x470),rfl,h.z⟩
      ·
       have hc467k := L_ref03_Find_ok hc467
       refine deg [factE 90 hc467k] [none,none,none,none,none,none,none,none,none,none,some (some 31,false),some (some 31,false),some (some 31,false),some (some 34,true),some (some 34,true),some (some 34,true),some (some 34,true),some (some 34,true),some (some 34,true),some (some 34,true),some (some 34,true),some (some 34,true),some (some 34,true),some (some 34,true),some (some 34,true),some (some 31,false),none] [1,3,5,7,48] [(1,0),(2,0)] h fun ac wd h => ?_
       injection hE463 with hE463; subst hE463
       exact ⟨false,rfl,h.z⟩
    ·
     rintro ac wd ⟨b461,rfl,h⟩
     (try dsimp only at hL430)
     rcases i2b hL430 with ⟨hb472,hL430⟩ | ⟨hb472,hL430⟩
     ·
      refine kT h ?_
      refine qs 111 [] [6] [] h fun ac wd h => ?_
      refine wp_ret ?_
      injection hL430 with hL430
      subst hL430
      exact rE h [.tmp 6]
     ·
      refine kF h ?_
      refine wp_skip ?_
      change Code.wp Try.prog _ _ _ _
      refine qe [] [1,3,5,7] [(1,0),(2,0)] h fun ac wd h => ?_
      exact ⟨nf,Nat.lt_succ_self nf,(IntKind.wrap .i64 (n429 + 1)),hL430,h.z⟩
   ·
    refine kF h ?_
    refine wp_exit ?_
    change Code.wp Try.prog _ _ _ _
    refine qs 88 [] [6] [] h fun ac wd h => ?_
    refine wp_ret ?_
    injection hL430 with hL430
    subst hL430
    exact rE h [.tmp 6]
 ·
  refine kT h ?_
  refine qs 12 [] [6] [] h fun ac wd h => ?_
  refine wp_ret ?_
  injection hD with hD
  subst hD
  exact rE h [.tmp 6]

theorem L_ref04_picks_ok {a0 : TState} {a1 : Int} {a2 : Int} {a3 : TGraph} {r : Bool} (hD : L_ref04_picks a0 a1 a2 a3 = some r) :
  CallH Try.prog 52 [.agg (cTState a0),.one (.d (.int .i64 a1)),.one (.d (.int .i64 a2)),.agg (cTGraph a3)] []
   (.one (.d (.bool r))) [] := by
 unfold L_ref04_picks at hD
 refine rc Try.func52 rfl Try.ntmps52 fun S Φ P0 wb ac h => ?_
 refine qs 4 [] [1,2,4,7] [(1,0),(2,0)] h fun ac wd h => ?_
 refine wp_seq ?_
 obtain ⟨e1454,hE1455,hD⟩ := Option.bind_eq_some_iff.1 hD
 refine r_seqJ (fun ac wd => ∃ (b1453 : Bool),b1453 = e1454 ∧ SL ⟨wb,S,Φ,P0⟩ 89 19 [(1,.one (.d (.int .i64 a1))),(2,.one (.d (.int .i64 a2))),(4,.one (.ptr (1,0) 0)),(7,.one (.ptr (2,0) 0)),(26,.one (.d (.bool b1453)))] [((1,0),some (.box 90 (cTState a0))),((2,0),some (.box 32 (cTGraph a3)))] ac wd) ?_ ?_
 ·
  rcases i2 hE1455 with ⟨hb1456,hE1455⟩ | ⟨hb1456,hE1455⟩
  ·
   refine qeg [] [none,none,none,none,none,some (some 16,false),some (some 16,false),some (some 16,false),some (some 16,false),some (some 16,false),some (some 21,true),some (some 21,true),some (some 21,true),some (some 16,false),none] [1,2,4,7,26] [(1,0),(2,0)] h fun ac wd h => ?_
   injection hE1455 with hE1455; subst hE1455
   exact ⟨true,rfl,h.z⟩
  ·
   rcases i2 hE1455 with ⟨hb1457,hE1455⟩ | ⟨hb1457,hE1455⟩
   ·
    refine qeg [] [none,none,none,none,none,some (some 16,false),some (some 16,false),some (some 16,false),some (some 16,false),some (some 16,false),some (some 21,true),some (some 21,true),some (some 21,true),some (some 16,false),none] [1,2,4,7,26] [(1,0),(2,0)] h fun ac wd h => ?_
    injection hE1455 with hE1455; subst hE1455
    exact ⟨!(decide (a0.Mode = 1)),rfl,h.z⟩
   ·
    refine qeg [] [none,none,none,none,none,some (some 16,false),some (some 16,false),some (some 16,false),some (some 16,false),some (some 16,false),some (some 21,true),some (some 21,true),some (some 21,true),some (some 16,false),none] [1,2,4,7,26] [(1,0),(2,0)] h fun ac wd h => ?_
    injection hE1455 with hE1455; subst hE1455
    exact ⟨false,rfl,h.z⟩
 ·
  rintro ac wd ⟨b1453,rfl,h⟩
  (try dsimp only at hD)
  rcases i2b hD with ⟨hb1459,hD⟩ | ⟨hb1459,hD⟩
  ·
   refine kT h ?_
   refine qs 20 [] [8] [] h fun ac wd h => ?_
   refine wp_ret ?_
   injection hD with hD
   subst hD
   exact rE h [.tmp 8]
  ·
   refine kF h ?_
   refine wp_skip ?_
   change Code.wp Try.prog _ _ _ _
   refine wp_seq ?_
   refine qs 20 [] [1,2,4,7,9] [(1,0),(2,0)] h fun ac wd h => ?_
   refine wp_block ?_
   refine r_while (fun nf ac wd => ∃ (n2658 : Int),L_ref04_picks_l1 a0 a1 a2 a3 nf n2658 = some r ∧ SL ⟨wb,S,Φ,P0⟩ 89 236 [(1,.one (.d (.int .i64 a1))),(2,.one (.d (.int .i64 a2))),(4,.one (.ptr (1,0) 0)),(7,.one (.ptr (2,0) 0)),(9,.one (.d (.int .i64 n2658)))] [((1,0),some (.box 90 (cTState a0))),((2,0),some (.box 32 (cTGraph a3)))] ac wd) (((a0.Picks.length : Int) - 0).toNat + 1) ⟨0,hD,h.z⟩ (fun nf ac wd hJ => ?_)
   obtain ⟨n2658,hL2659,h⟩ := hJ
   cases nf with
   | zero => rw [L_ref04_picks_l1] at hL2659; cases hL2659
   | succ nf =>
    rw [L_ref04_picks_l1] at hL2659
    refine wp_seq ?_
    refine qs 241 [] [1,2,4,7,9,31] [(1,0),(2,0)] h fun ac wd h => ?_
    rcases i2 hL2659 with ⟨hb2661,hL2659⟩ | ⟨hb2661,hL2659⟩
    ·
     refine kT h ?_
     refine wp_skip ?_
     change Code.wp Try.prog _ _ _ _
     obtain ⟨e2779,hE2780,hL2659⟩ := Option.bind_eq_some_iff.1 hL2659
     refine r_seqJ (fun ac wd => (.inl ()) = e2779 ∧ SL ⟨wb,S,Φ,P0⟩ 89 341 [(1,.one (.d (.int .i64 a1))),(2,.one (.d (.int .i64 a2))),(4,.one (.ptr (1,0) 0)),(7,.one (.ptr (2,0) 0)),(9,.one (.d (.int .i64 n2658)))] [((1,0),some (.box 90 (cTState a0))),((2,0),some (.box 32 (cTGraph a3)))] ac wd) ?_ ?_
     ·
      refine wp_block ?_
      obtain ⟨x2783,hx2784a,hx2784b,hx2784c,hx2784d,hE2780⟩ := aB hE2780
      refine qs 248 [] [1,2,4,7,9,10] [(1,0),(2,0),(246,0)] h fun ac wd h => ?_
      refine wp_seq ?_
      obtain ⟨e2788,hE2789,hE2780⟩ := Option.bind_eq_some_iff.1 hE2780
      refine r_seqJ (fun ac wd => ∃ (b2787 : Bool),b2787 = e2788 ∧ SL ⟨wb,S,Φ,P0⟩ 89 263 [(1,.one (.d (.int .i64 a1))),(2,.one (.d (.int .i64 a2))),(4,.one (.ptr (1,0) 0)),(7,.one (.ptr (2,0) 0)),(9,.one (.d (.int .i64 n2658))),(10,.one (.ptr (246,0) 0)),(53,.one (.d (.bool b2787)))] [((1,0),some (.box 90 (cTState a0))),((2,0),some (.box 32 (cTGraph a3))),((246,0),some (.box 189 (cTPick x2783)))] ac wd) ?_ ?_
      ·
       rcases i2 hE2789 with ⟨hb2790,hE2789⟩ | ⟨hb2790,hE2789⟩
       ·
        refine qeg [] [none,none,none,none,some (some 42,false),some (some 42,false),some (some 42,false),some (some 42,false),none,none,some (some 48,false),some (some 48,false),some (some 48,false),some (some 48,false),none] [1,2,4,7,9,10,53] [(1,0),(2,0),(246,0)] h fun ac wd h => ?_
        injection hE2789 with hE2789; subst hE2789
        exact ⟨true,rfl,h.z⟩
       ·
        rcases i2 hE2789 with ⟨hb2791,hE2789⟩ | ⟨hb2791,hE2789⟩
        ·
         refine qeg [] [none,none,none,none,some (some 42,false),some (some 42,false),some (some 42,false),some (some 42,false),none,none,some (some 48,false),some (some 48,false),some (some 48,false),some (some 48,false),none] [1,2,4,7,9,10,53] [(1,0),(2,0),(246,0)] h fun ac wd h => ?_
         injection hE2789 with hE2789; subst hE2789
         exact ⟨true,rfl,h.z⟩
        ·
         refine qeg [] [none,none,none,none,some (some 42,false),some (some 42,false),some (some 42,false),some (some 42,false),none,none,some (some 48,false),some (some 48,false),some (some 48,false),some (some 48,false),none] [1,2,4,7,9,10,53] [(1,0),(2,0),(246,0)] h fun ac wd h => ?_
         injection hE2789 with hE2789; subst hE2789
         exact ⟨decide ((x2783.Sends.length : Int) > 4),rfl,h.z⟩
      ·
       rintro ac wd ⟨b2787,rfl,h⟩
       (try dsimp only at hE2780)
       rcases i2b hE2780 with ⟨hb2793,hE2780⟩ | ⟨hb2793,hE2780⟩
       ·
        refine kT h ?_
        refine qs 264 [] [8] [] h fun ac wd h => ?_
        refine wp_ret ?_
        injection hE2780 with hE2780
        subst hE2780
        (try dsimp only at hL2659)
        injection hL2659 with hL2659
        subst hL2659
        exact rE h [.tmp 8]
       ·
        refine kF h ?_
        refine wp_skip ?_
        change Code.wp Try.prog _ _ _ _
        refine qs 264 [] [1,2,4,7,9,10,11] [(1,0),(2,0),(246,0)] h fun ac wd h => ?_
        obtain ⟨e2898,hE2899,hE2780⟩ := Option.bind_eq_some_iff.1 hE2780
        refine r_meetQ (fun ac wd => (.inl ()) = e2898 ∧ SL ⟨wb,S,Φ,P0⟩ 89 341 [(1,.one (.d (.int .i64 a1))),(2,.one (.d (.int .i64 a2))),(4,.one (.ptr (1,0) 0)),(7,.one (.ptr (2,0) 0)),(9,.one (.d (.int .i64 n2658)))] [((1,0),some (.box 90 (cTState a0))),((2,0),some (.box 32 (cTGraph a3)))] ac wd) ?_ ?_
        ·
         refine wp_block ?_
         refine r_while (fun nf ac wd => ∃ (n2969 : Int),L_ref04_picks_l2 a1 a3 x2783 nf n2969 = some e2898 ∧ SL ⟨wb,S,Φ,P0⟩ 89 336 [(1,.one (.d (.int .i64 a1))),(2,.one (.d (.int .i64 a2))),(4,.one (.ptr (1,0) 0)),(7,.one (.ptr (2,0) 0)),(9,.one (.d (.int .i64 n2658))),(10,.one (.ptr (246,0) 0)),(11,.one (.d (.int .i64 n2969)))] [((1,0),some (.box 90 (cTState a0))),((2,0),some (.box 32 (cTGraph a3))),((246,0),some (.box 189 (cTPick x2783)))] ac wd) (((x2783.Sends.length : Int) - 0).toNat + 1) ⟨0,hE2899,h.z⟩ (fun nf ac wd hJ => ?_)
         obtain ⟨n2969,hL2970,h⟩ := hJ
         cases nf with
         | zero => rw [L_ref04_picks_l2] at hL2970; cases hL2970
         | succ nf =>
          rw [L_ref04_picks_l2] at hL2970
          refine wp_seq ?_
          refine qs 341 [] [1,2,4,7,9,10,11,58] [(1,0),(2,0),(246,0)] h fun ac wd h => ?_
          rcases i2 hL2970 with ⟨hb2972,hL2970⟩ | ⟨hb2972,hL2970⟩
          ·
           refine kT h ?_
           refine wp_skip ?_
           change Code.wp Try.prog _ _ _ _
           refine wp_seq ?_
           refine wp_block ?_
           obtain ⟨e2996,hE2997,hL2970⟩ := Option.bind_eq_some_iff.1 hL2970
           refine r_seqJ (fun ac wd => ∃ (b2995 : Bool),b2995 = e2996 ∧ SL ⟨wb,S,Φ,P0⟩ 89 369 [(1,.one (.d (.int .i64 a1))),(2,.one (.d (.int .i64 a2))),(4,.one (.ptr (1,0) 0)),(7,.one (.ptr (2,0) 0)),(9,.one (.d (.int .i64 n2658))),(10,.one (.ptr (246,0) 0)),(11,.one (.d (.int .i64 n2969))),(88,.one (.d (.bool b2995)))] [((1,0),some (.box 90 (cTState a0))),((2,0),some (.box 32 (cTGraph a3))),((246,0),some (.box 189 (cTPick x2783)))] ac wd) ?_ ?_
           ·
            obtain ⟨x2998,hx2999a,hx2999b,hx2999c,hx2999d,hE2997⟩ := aB hE2997
            obtain ⟨r3000,hc3001,hE2997⟩ := oB hE2997
            rcases i2 hE2997 with ⟨hb3002,hE2997⟩ | ⟨hb3002,hE2997⟩
            ·
             have hc3001k := L_ref03_Find_ok hc3001
             refine deg [factE 349 hc3001k] [none,none,none,none,none,none,none,none,none,none,none,some (some 71,false),some (some 71,false),some (some 71,false),some (some 71,false),some (some 71,false),some (some 71,false),some (some 71,false),none,none,some (some 80,false),some (some 80,false),some (some 80,false),some (some 80,false),some (some 80,false),some (some 80,false),some (some 80,false),none] [1,2,4,7,9,10,11,88] [(1,0),(2,0),(246,0)] h fun ac wd h => ?_
             injection hE2997 with hE2997; subst hE2997
             exact ⟨true,rfl,h.z⟩
            ·
             rcases i2 hE2997 with ⟨hb3003,hE2997⟩ | ⟨hb3003,hE2997⟩
             ·
              have hc3001k := L_ref03_Find_ok hc3001
              refine deg [factE 349 hc3001k] [none,none,none,none,none,none,none,none,none,none,none,some (some 71,false),some (some 71,false),some (some 71,false),some (some 71,false),some (some 71,false),some (some 71,false),some (some 71,false),none,none,some (some 80,false),some (some 80,false),some (some 80,false),some (some 80,false),some (some 80,false),some (some 80,false),some (some 80,false),none] [1,2,4,7,9,10,11,88] [(1,0),(2,0),(246,0)] h fun ac wd h => ?_
              injection hE2997 with hE2997; subst hE2997
              exact ⟨true,rfl,h.z⟩
             ·
              have hc3001k := L_ref03_Find_ok hc3001
              refine deg [factE 349 hc3001k] [none,none,none,none,none,none,none,none,none,none,none,some (some 71,false),some (some 71,false),some (some 71,false),some (some 71,false),some (some 71,false),some (some 71,false),some (some 71,false),none,none,some (some 80,false),some (some 80,false),some (some 80,false),some (some 80,false),some (some 80,false),some (some 80,false),some (some 80,false),none] [1,2,4,7,9,10,11,88] [(1,0),(2,0),(246,0)] h fun ac wd h => ?_
              injection hE2997 with hE2997; subst hE2997
              exact ⟨decide (x2998.Letter > 3),rfl,h.z⟩
           ·
            rintro ac wd ⟨b2995,rfl,h⟩
            (try dsimp only at hL2970)
            rcases i2b hL2970 with ⟨hb3004,hL2970⟩ | ⟨hb3004,hL2970⟩
            ·
             refine kT h ?_
             refine qs 370 [] [8] [] h fun ac wd h => ?_
             refine wp_ret ?_
             injection hL2970 with hL2970
             subst hL2970
             (try dsimp only at hE2780)
             injection hE2780 with hE2780
             subst hE2780
             (try dsimp only at hL2659)
             injection hL2659 with hL2659
             subst hL2659
             exact rE h [.tmp 8]
            ·
             refine kF h ?_
             refine wp_skip ?_
             change Code.wp Try.prog _ _ _ _
             refine qe [] [1,2,4,7,9,10,11] [(1,0),(2,0),(246,0)] h fun ac wd h => ?_
             exact ⟨nf,Nat.lt_succ_self nf,(IntKind.wrap .i64 (n2969 + 1)),hL2970,h.z⟩
          ·
           refine kF h ?_
           refine wp_exit ?_
           injection hL2970 with hL2970; subst hL2970
           exact ⟨rfl,h.z⟩
        ·
         rintro ac wd ⟨rfl,h⟩
         (try dsimp only at hE2780)
         injection hE2780 with hE2780; subst hE2780
         exact ⟨rfl,h.z⟩
     ·
      rintro ac wd ⟨rfl,h⟩
      (try dsimp only at hL2659)
      refine qe [] [1,2,4,7,9] [(1,0),(2,0)] h fun ac wd h => ?_
      exact ⟨nf,Nat.lt_succ_self nf,(IntKind.wrap .i64 (n2658 + 1)),hL2659,h.z⟩
    ·
     refine kF h ?_
     refine wp_exit ?_
     change Code.wp Try.prog _ _ _ _
     refine qs 242 [] [8] [] h fun ac wd h => ?_
     refine wp_ret ?_
     injection hL2659 with hL2659
     subst hL2659
     exact rE h [.tmp 8]

theorem L_ref04_In_ok {a0 : (List Int)} {a1 : Int} {r : Bool} (hD : L_ref04_In a0 a1 = some r) :
  CallH Try.prog 122 [.one (.d (.sl (List.map eI a0))),.one (.d (.int .i64 a1))] []
   (.one (.d (.bool r))) [] := by
 unfold L_ref04_In at hD
 refine rc Try.func122 rfl Try.ntmps122 fun S Φ P0 wb ac h => ?_
 refine qs 2 [] [0,1] [] h fun ac wd h => ?_
 refine wp_seq ?_
 refine qs 3 [] [0,1,5] [] h fun ac wd h => ?_
 refine wp_block ?_
 refine r_while (fun nf ac wd => ∃ (n143 : Int),L_ref04_In_l1 a0 a1 nf n143 = some r ∧ SL ⟨wb,S,Φ,P0⟩ 18 29 [(0,.one (.d (.sl (List.map eI a0)))),(1,.one (.d (.int .i64 a1))),(5,.one (.d (.int .i64 n143)))] [] ac wd) (((a0.length : Int) - 0).toNat + 1) ⟨0,hD,h.z⟩ (fun nf ac wd hJ => ?_)
 obtain ⟨n143,hL144,h⟩ := hJ
 cases nf with
 | zero => rw [L_ref04_In_l1] at hL144; cases hL144
 | succ nf =>
  rw [L_ref04_In_l1] at hL144
  refine wp_seq ?_
  refine qs 33 [] [0,1,5,9] [] h fun ac wd h => ?_
  rcases i2 hL144 with ⟨hb146,hL144⟩ | ⟨hb146,hL144⟩
  ·
   refine kT h ?_
   refine wp_skip ?_
   change Code.wp Try.prog _ _ _ _
   refine wp_seq ?_
   refine wp_block ?_
   obtain ⟨x154,hx155a,hx155b,hx155c,hx155d,hL144⟩ := aB hL144
   refine qs 39 [] [0,1,5,17] [] h fun ac wd h => ?_
   rcases i2e hL144 with ⟨hb156,hL144⟩ | ⟨hb156,hL144⟩
   ·
    refine kT h ?_
    refine qs 40 [] [4] [] h fun ac wd h => ?_
    refine wp_ret ?_
    injection hL144 with hL144
    subst hL144
    exact rE h [.tmp 4]
   ·
    refine kF h ?_
    refine wp_skip ?_
    change Code.wp Try.prog _ _ _ _
    refine qe [] [0,1,5] [] h fun ac wd h => ?_
    exact ⟨nf,Nat.lt_succ_self nf,(IntKind.wrap .i64 (n143 + 1)),hL144,h.z⟩
  ·
   refine kF h ?_
   refine wp_exit ?_
   change Code.wp Try.prog _ _ _ _
   refine qs 34 [] [4] [] h fun ac wd h => ?_
   refine wp_ret ?_
   injection hL144 with hL144
   subst hL144
   exact rE h [.tmp 4]

theorem L_ref04_kept_ok {a0 : TState} {a1 : TState} {a2 : Int} {r : Bool} (hD : L_ref04_kept a0 a1 a2 = some r) :
  CallH Try.prog 96 [.agg (cTState a0),.agg (cTState a1),.one (.d (.int .i64 a2))] []
   (.one (.d (.bool r))) [] := by
 unfold L_ref04_kept at hD
 refine rc Try.func96 rfl Try.ntmps96 fun S Φ P0 wb ac h => ?_
 refine qs 4 [] [2,3,4] [(1,0),(2,0)] h fun ac wd h => ?_
 refine wp_seq ?_
 refine qs 5 [] [2,3,4,7] [(1,0),(2,0)] h fun ac wd h => ?_
 refine wp_block ?_
 refine r_while (fun nf ac wd => ∃ (n385 : Int),L_ref04_kept_l1 a0 a1 a2 nf n385 = some r ∧ SL ⟨wb,S,Φ,P0⟩ 38 67 [(2,.one (.d (.int .i64 a2))),(3,.one (.ptr (1,0) 0)),(4,.one (.ptr (2,0) 0)),(7,.one (.d (.int .i64 n385)))] [((1,0),some (.box 90 (cTState a0))),((2,0),some (.box 90 (cTState a1)))] ac wd) (((a0.Waits.length : Int) - 0).toNat + 1) ⟨0,hD,h.z⟩ (fun nf ac wd hJ => ?_)
 obtain ⟨n385,hL386,h⟩ := hJ
 cases nf with
 | zero => rw [L_ref04_kept_l1] at hL386; cases hL386
 | succ nf =>
  rw [L_ref04_kept_l1] at hL386
  refine wp_seq ?_
  refine qs 72 [] [2,3,4,7,12] [(1,0),(2,0)] h fun ac wd h => ?_
  rcases i2 hL386 with ⟨hb388,hL386⟩ | ⟨hb388,hL386⟩
  ·
   refine kT h ?_
   refine wp_skip ?_
   change Code.wp Try.prog _ _ _ _
   refine wp_seq ?_
   refine wp_block ?_
   obtain ⟨e412,hE413,hL386⟩ := Option.bind_eq_some_iff.1 hL386
   refine r_seqJ (fun ac wd => ∃ (b411 : Bool),b411 = e412 ∧ SL ⟨wb,S,Φ,P0⟩ 38 95 [(2,.one (.d (.int .i64 a2))),(3,.one (.ptr (1,0) 0)),(4,.one (.ptr (2,0) 0)),(7,.one (.d (.int .i64 n385))),(37,.one (.d (.bool b411)))] [((1,0),some (.box 90 (cTState a0))),((2,0),some (.box 90 (cTState a1)))] ac wd) ?_ ?_
   ·
    obtain ⟨x414,hx415a,hx415b,hx415c,hx415d,hE413⟩ := aB hE413
    rcases i2e hE413 with ⟨hb416,hE413⟩ | ⟨hb416,hE413⟩
    ·
     refine deg [] [none,none,none,none,none,none,none,none,some (some 22,true),some (some 22,true),some (some 22,true),some (some 22,true),some (some 26,false),some (some 26,false),some (some 26,false),some (some 26,false),some (some 26,false),some (some 26,false),some (some 26,false),some (some 26,false),some (some 26,false),some (some 22,true),none] [2,3,4,7,37] [(1,0),(2,0)] h fun ac wd h => ?_
     injection hE413 with hE413; subst hE413
     exact ⟨false,rfl,h.z⟩
    ·
     rcases i2e hE413 with ⟨hb417,hE413⟩ | ⟨hb417,hE413⟩
     ·
      obtain ⟨r418,hc419,hE413⟩ := oB hE413
      have hc419k := L_ref04_In_ok hc419
      refine deg [factE 91 hc419k] [none,none,none,none,none,none,none,none,some (some 22,true),some (some 22,true),some (some 22,true),some (some 22,true),some (some 26,false),some (some 26,false),some (some 26,false),some (some 26,false),some (some 26,false),some (some 26,false),some (some 26,false),some (some 26,false),some (some 26,false),some (some 22,true),none] [2,3,4,7,37] [(1,0),(2,0)] h fun ac wd h => ?_
      injection hE413 with hE413; subst hE413
      exact ⟨!(r418),rfl,h.z⟩
     ·
      refine deg [] [none,none,none,none,none,none,none,none,some (some 22,true),some (some 22,true),some (some 22,true),some (some 22,true),some (some 26,false),some (some 26,false),some (some 26,false),some (some 26,false),some (some 26,false),some (some 26,false),some (some 26,false),some (some 26,false),some (some 26,false),some (some 22,true),none] [2,3,4,7,37] [(1,0),(2,0)] h fun ac wd h => ?_
      injection hE413 with hE413; subst hE413
      exact ⟨true,rfl,h.z⟩
   ·
    rintro ac wd ⟨b411,rfl,h⟩
    (try dsimp only at hL386)
    rcases i2b hL386 with ⟨hb420,hL386⟩ | ⟨hb420,hL386⟩
    ·
     refine kT h ?_
     refine qs 96 [] [6] [] h fun ac wd h => ?_
     refine wp_ret ?_
     injection hL386 with hL386
     subst hL386
     exact rE h [.tmp 6]
    ·
     refine kF h ?_
     refine wp_skip ?_
     change Code.wp Try.prog _ _ _ _
     refine qe [] [2,3,4,7] [(1,0),(2,0)] h fun ac wd h => ?_
     exact ⟨nf,Nat.lt_succ_self nf,(IntKind.wrap .i64 (n385 + 1)),hL386,h.z⟩
  ·
   refine kF h ?_
   refine wp_exit ?_
   change Code.wp Try.prog _ _ _ _
   refine qs 73 [] [6] [] h fun ac wd h => ?_
   refine wp_ret ?_
   injection hL386 with hL386
   subst hL386
   exact rE h [.tmp 6]

end Go.Proofs.Ytabbejabdkkaiaa
