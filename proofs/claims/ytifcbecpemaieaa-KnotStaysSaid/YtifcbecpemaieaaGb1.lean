/- Functions as typed ones,and that the program's functions answer as these do. No condition. -/
import Derived.Test.YtifcbecpemaieaaGb0
import Derived.Test.YtifcbecpemaieaaGd
set_option linter.unusedSimpArgs false
set_option linter.unusedVariables false
set_option maxRecDepth 20000
set_option maxHeartbeats 4000000
namespace Go.Proofs.Ytifcbecpemaieaa
open Go.RowKit

theorem L_ref03_Right_ok {a0 : TGraph} {r : Bool} (hD : L_ref03_Right a0 = some r) :
  CallH Try.prog 61 [.agg (cTGraph a0)] []
   (.one (.d (.bool r))) [] := by
 unfold L_ref03_Right at hD
 refine rc Try.func61 rfl Try.ntmps61 fun S Φ P0 wb ac h => ?_
 refine qs 3 [] [1] [(1,0)] h fun ac wd h => ?_
 refine wp_seq ?_
 obtain ⟨e909,hE910,hD⟩ := Option.bind_eq_some_iff.1 hD
 refine r_seqJ (fun ac wd => ∃ (b908 : Bool),b908 = e909 ∧ SL ⟨wb,S,Φ,P0⟩ 100 17 [(1,.one (.ptr (1,0) 0)),(22,.one (.d (.bool b908)))] [((1,0),some (.box 35 (cTGraph a0)))] ac wd) ?_ ?_
 ·
  rcases i2 hE910 with ⟨hb911,hE910⟩ | ⟨hb911,hE910⟩
  ·
   refine qeg [] [none,none,none,none,some (some 12,false),some (some 12,false),some (some 12,false),none,none,some (some 17,false),some (some 17,false),some (some 17,false),some (some 17,false),none] [1,22] [(1,0)] h fun ac wd h => ?_
   injection hE910 with hE910; subst hE910
   exact ⟨true,rfl,h.z⟩
  ·
   rcases i2 hE910 with ⟨hb912,hE910⟩ | ⟨hb912,hE910⟩
   ·
    refine qeg [] [none,none,none,none,some (some 12,false),some (some 12,false),some (some 12,false),none,none,some (some 17,false),some (some 17,false),some (some 17,false),some (some 17,false),none] [1,22] [(1,0)] h fun ac wd h => ?_
    injection hE910 with hE910; subst hE910
    exact ⟨true,rfl,h.z⟩
   ·
    refine qeg [] [none,none,none,none,some (some 12,false),some (some 12,false),some (some 12,false),none,none,some (some 17,false),some (some 17,false),some (some 17,false),some (some 17,false),none] [1,22] [(1,0)] h fun ac wd h => ?_
    injection hE910 with hE910; subst hE910
    exact ⟨decide ((a0.Links.length : Int) > 30),rfl,h.z⟩
 ·
  rintro ac wd ⟨b908,rfl,h⟩
  (try dsimp only at hD)
  rcases i2b hD with ⟨hb914,hD⟩ | ⟨hb914,hD⟩
  ·
   refine kT h ?_
   refine qs 18 [] [2] [] h fun ac wd h => ?_
   refine wp_ret ?_
   injection hD with hD
   subst hD
   exact rE h [.tmp 2]
  ·
   refine kF h ?_
   refine wp_skip ?_
   change Code.wp Try.prog _ _ _ _
   refine wp_seq ?_
   refine qs 18 [] [1,3] [(1,0)] h fun ac wd h => ?_
   obtain ⟨e1091,hE1092,hD⟩ := Option.bind_eq_some_iff.1 hD
   refine r_meet (fun ac wd => (.inl ()) = e1091 ∧ SL ⟨wb,S,Φ,P0⟩ 100 143 [(1,.one (.ptr (1,0) 0))] [((1,0),some (.box 35 (cTGraph a0)))] ac wd) ?_ ?_
   ·
    refine wp_block ?_
    refine r_while (fun nf ac wd => ∃ (n1210 : Int),L_ref03_Right_l1 a0 nf n1210 = some e1091 ∧ SL ⟨wb,S,Φ,P0⟩ 100 138 [(1,.one (.ptr (1,0) 0)),(3,.one (.d (.int .i64 n1210)))] [((1,0),some (.box 35 (cTGraph a0)))] ac wd) (((a0.Links.length : Int) - 0).toNat + 1) ⟨0,hE1092,h.z⟩ (fun nf ac wd hJ => ?_)
    obtain ⟨n1210,hL1211,h⟩ := hJ
    cases nf with
    | zero => rw [L_ref03_Right_l1] at hL1211; cases hL1211
    | succ nf =>
     rw [L_ref03_Right_l1] at hL1211
     refine wp_seq ?_
     refine qs 143 [] [1,3,27] [(1,0)] h fun ac wd h => ?_
     rcases i2 hL1211 with ⟨hb1213,hL1211⟩ | ⟨hb1213,hL1211⟩
     ·
      refine kT h ?_
      refine wp_skip ?_
      change Code.wp Try.prog _ _ _ _
      refine wp_seq ?_
      refine wp_block ?_
      obtain ⟨x1244,hx1245a,hx1245b,hx1245c,hx1245d,hL1211⟩ := aB hL1211
      refine ds 157 [] [1,3,4,5] [(1,0)] h fun ac wd h => ?_
      obtain ⟨e1257,hE1258,hL1211⟩ := Option.bind_eq_some_iff.1 hL1211
      refine r_seqJ (fun ac wd => ∃ (b1256 : Bool),b1256 = e1257 ∧ SL ⟨wb,S,Φ,P0⟩ 100 195 [(1,.one (.ptr (1,0) 0)),(3,.one (.d (.int .i64 n1210))),(79,.one (.d (.bool b1256)))] [((1,0),some (.box 35 (cTGraph a0)))] ac wd) ?_ ?_
      ·
       rcases i2 hE1258 with ⟨hb1259,hE1258⟩ | ⟨hb1259,hE1258⟩
       ·
        refine qeg [] [none,none,none,some (some 44,false),some (some 44,false),some (some 44,false),some (some 44,false),none,none,some (some 50,false),some (some 50,false),none,none,some (some 54,false),some (some 54,false),some (some 54,false),some (some 54,false),none,none,some (some 60,false),some (some 60,false),some (some 60,false),none,none,some (some 65,false),some (some 65,false),some (some 65,false),some (some 65,false),some (some 65,false),some (some 65,false),none,none,some (some 73,false),some (some 73,false),some (some 73,false),some (some 73,false),some (some 73,false),none] [1,3,79] [(1,0)] h fun ac wd h => ?_
        injection hE1258 with hE1258; subst hE1258
        exact ⟨true,rfl,h.z⟩
       ·
        rcases i2 hE1258 with ⟨hb1260,hE1258⟩ | ⟨hb1260,hE1258⟩
        ·
         refine qeg [] [none,none,none,some (some 44,false),some (some 44,false),some (some 44,false),some (some 44,false),none,none,some (some 50,false),some (some 50,false),none,none,some (some 54,false),some (some 54,false),some (some 54,false),some (some 54,false),none,none,some (some 60,false),some (some 60,false),some (some 60,false),none,none,some (some 65,false),some (some 65,false),some (some 65,false),some (some 65,false),some (some 65,false),some (some 65,false),none,none,some (some 73,false),some (some 73,false),some (some 73,false),some (some 73,false),some (some 73,false),none] [1,3,79] [(1,0)] h fun ac wd h => ?_
         injection hE1258 with hE1258; subst hE1258
         exact ⟨true,rfl,h.z⟩
        ·
         rcases i2 hE1258 with ⟨hb1261,hE1258⟩ | ⟨hb1261,hE1258⟩
         ·
          refine qeg [] [none,none,none,some (some 44,false),some (some 44,false),some (some 44,false),some (some 44,false),none,none,some (some 50,false),some (some 50,false),none,none,some (some 54,false),some (some 54,false),some (some 54,false),some (some 54,false),none,none,some (some 60,false),some (some 60,false),some (some 60,false),none,none,some (some 65,false),some (some 65,false),some (some 65,false),some (some 65,false),some (some 65,false),some (some 65,false),none,none,some (some 73,false),some (some 73,false),some (some 73,false),some (some 73,false),some (some 73,false),none] [1,3,79] [(1,0)] h fun ac wd h => ?_
          injection hE1258 with hE1258; subst hE1258
          exact ⟨true,rfl,h.z⟩
         ·
          rcases i2 hE1258 with ⟨hb1262,hE1258⟩ | ⟨hb1262,hE1258⟩
          ·
           refine qeg [] [none,none,none,some (some 44,false),some (some 44,false),some (some 44,false),some (some 44,false),none,none,some (some 50,false),some (some 50,false),none,none,some (some 54,false),some (some 54,false),some (some 54,false),some (some 54,false),none,none,some (some 60,false),some (some 60,false),some (some 60,false),none,none,some (some 65,false),some (some 65,false),some (some 65,false),some (some 65,false),some (some 65,false),some (some 65,false),none,none,some (some 73,false),some (some 73,false),some (some 73,false),some (some 73,false),some (some 73,false),none] [1,3,79] [(1,0)] h fun ac wd h => ?_
           injection hE1258 with hE1258; subst hE1258
           exact ⟨true,rfl,h.z⟩
          ·
           rcases i2e hE1258 with ⟨hb1263,hE1258⟩ | ⟨hb1263,hE1258⟩
           ·
            refine qeg [] [none,none,none,some (some 44,false),some (some 44,false),some (some 44,false),some (some 44,false),none,none,some (some 50,false),some (some 50,false),none,none,some (some 54,false),some (some 54,false),some (some 54,false),some (some 54,false),none,none,some (some 60,false),some (some 60,false),some (some 60,false),none,none,some (some 65,false),some (some 65,false),some (some 65,false),some (some 65,false),some (some 65,false),some (some 65,false),none,none,some (some 73,false),some (some 73,false),some (some 73,false),some (some 73,false),some (some 73,false),none] [1,3,79] [(1,0)] h fun ac wd h => ?_
            injection hE1258 with hE1258; subst hE1258
            exact ⟨true,rfl,h.z⟩
           ·
            obtain ⟨r1264,hc1265,hE1258⟩ := oB hE1258
            rcases i2e hE1258 with ⟨hb1266,hE1258⟩ | ⟨hb1266,hE1258⟩
            ·
             obtain ⟨r1267,hc1268,hE1258⟩ := oB hE1258
             have hc1265k := L_ref03_Find_ok hc1265
             have hc1268k := L_ref03_Find_ok hc1268
             refine qeg [factE 184 hc1265k,factE 192 hc1268k] [none,none,none,some (some 44,false),some (some 44,false),some (some 44,false),some (some 44,false),none,none,some (some 50,false),some (some 50,false),none,none,some (some 54,false),some (some 54,false),some (some 54,false),some (some 54,false),none,none,some (some 60,false),some (some 60,false),some (some 60,false),none,none,some (some 65,false),some (some 65,false),some (some 65,false),some (some 65,false),some (some 65,false),some (some 65,false),none,none,some (some 73,false),some (some 73,false),some (some 73,false),some (some 73,false),some (some 73,false),none] [1,3,79] [(1,0)] h fun ac wd h => ?_
             injection hE1258 with hE1258; subst hE1258
             exact ⟨decide (r1267 < 0),rfl,h.z⟩
            ·
             have hc1265k := L_ref03_Find_ok hc1265
             refine qeg [factE 184 hc1265k] [none,none,none,some (some 44,false),some (some 44,false),some (some 44,false),some (some 44,false),none,none,some (some 50,false),some (some 50,false),none,none,some (some 54,false),some (some 54,false),some (some 54,false),some (some 54,false),none,none,some (some 60,false),some (some 60,false),some (some 60,false),none,none,some (some 65,false),some (some 65,false),some (some 65,false),some (some 65,false),some (some 65,false),some (some 65,false),none,none,some (some 73,false),some (some 73,false),some (some 73,false),some (some 73,false),some (some 73,false),none] [1,3,79] [(1,0)] h fun ac wd h => ?_
             injection hE1258 with hE1258; subst hE1258
             exact ⟨true,rfl,h.z⟩
      ·
       rintro ac wd ⟨b1256,rfl,h⟩
       (try dsimp only at hL1211)
       rcases i2b hL1211 with ⟨hb1269,hL1211⟩ | ⟨hb1269,hL1211⟩
       ·
        refine kT h ?_
        refine qs 196 [] [2] [] h fun ac wd h => ?_
        refine wp_ret ?_
        injection hL1211 with hL1211
        subst hL1211
        (try dsimp only at hD)
        injection hD with hD
        subst hD
        exact rE h [.tmp 2]
       ·
        refine kF h ?_
        refine wp_skip ?_
        change Code.wp Try.prog _ _ _ _
        refine qe [] [1,3] [(1,0)] h fun ac wd h => ?_
        exact ⟨nf,Nat.lt_succ_self nf,(IntKind.wrap .i64 (n1210 + 1)),hL1211,h.z⟩
     ·
      refine kF h ?_
      refine wp_exit ?_
      injection hL1211 with hL1211; subst hL1211
      exact ⟨rfl,h.z⟩
   ·
    rintro ac wd ⟨rfl,h⟩
    (try dsimp only at hD)
    refine wp_seq ?_
    refine qs 144 [] [1,6] [(1,0)] h fun ac wd h => ?_
    refine wp_block ?_
    refine r_while (fun nf ac wd => ∃ (n1718 : Int),L_ref03_Right_l2 a0 nf n1718 = some r ∧ SL ⟨wb,S,Φ,P0⟩ 100 224 [(1,.one (.ptr (1,0) 0)),(6,.one (.d (.int .i64 n1718)))] [((1,0),some (.box 35 (cTGraph a0)))] ac wd) ((a0.N - 0).toNat + 1) ⟨0,hD,h.z⟩ (fun nf ac wd hJ => ?_)
    obtain ⟨n1718,hL1719,h⟩ := hJ
    cases nf with
    | zero => rw [L_ref03_Right_l2] at hL1719; cases hL1719
    | succ nf =>
     rw [L_ref03_Right_l2] at hL1719
     refine wp_seq ?_
     refine qs 228 [] [1,6,83] [(1,0)] h fun ac wd h => ?_
     rcases i2 hL1719 with ⟨hb1721,hL1719⟩ | ⟨hb1721,hL1719⟩
     ·
      refine kT h ?_
      refine wp_skip ?_
      change Code.wp Try.prog _ _ _ _
      obtain ⟨e1764,hE1765,hL1719⟩ := Option.bind_eq_some_iff.1 hL1719
      refine r_seqJ (fun ac wd => (.inl ()) = e1764 ∧ SL ⟨wb,S,Φ,P0⟩ 100 261 [(1,.one (.ptr (1,0) 0)),(6,.one (.d (.int .i64 n1718)))] [((1,0),some (.box 35 (cTGraph a0)))] ac wd) ?_ ?_
      ·
       refine wp_block ?_
       obtain ⟨r1768,hc1769,hE1765⟩ := oB hE1765
       have hc1769k := L_ref03_Dist_ok hc1769
       refine qs 232 [factE 230 hc1769k] [1,6,7] [(1,0)] h fun ac wd h => ?_
       refine qs 233 [] [1,6,7,8] [(1,0)] h fun ac wd h => ?_
       obtain ⟨e1808,hE1809,hE1765⟩ := Option.bind_eq_some_iff.1 hE1765
       refine r_meetQ (fun ac wd => (.inl ()) = e1808 ∧ SL ⟨wb,S,Φ,P0⟩ 100 261 [(1,.one (.ptr (1,0) 0)),(6,.one (.d (.int .i64 n1718)))] [((1,0),some (.box 35 (cTGraph a0)))] ac wd) ?_ ?_
       ·
        refine wp_block ?_
        refine r_while (fun nf ac wd => ∃ (n1835 : Int),L_ref03_Right_l3 r1768 nf n1835 = some e1808 ∧ SL ⟨wb,S,Φ,P0⟩ 100 257 [(1,.one (.ptr (1,0) 0)),(6,.one (.d (.int .i64 n1718))),(7,.one (.d (.sl (List.map eI r1768)))),(8,.one (.d (.int .i64 n1835)))] [((1,0),some (.box 35 (cTGraph a0)))] ac wd) (((r1768.length : Int) - 0).toNat + 1) ⟨0,hE1809,h.z⟩ (fun nf ac wd hJ => ?_)
        obtain ⟨n1835,hL1836,h⟩ := hJ
        cases nf with
        | zero => rw [L_ref03_Right_l3] at hL1836; cases hL1836
        | succ nf =>
         rw [L_ref03_Right_l3] at hL1836
         refine wp_seq ?_
         refine qs 261 [] [1,6,7,8,92] [(1,0)] h fun ac wd h => ?_
         rcases i2 hL1836 with ⟨hb1838,hL1836⟩ | ⟨hb1838,hL1836⟩
         ·
          refine kT h ?_
          refine wp_skip ?_
          change Code.wp Try.prog _ _ _ _
          refine wp_seq ?_
          refine wp_block ?_
          obtain ⟨x1846,hx1847a,hx1847b,hx1847c,hx1847d,hL1836⟩ := aB hL1836
          refine qs 266 [] [1,6,7,8,99] [(1,0)] h fun ac wd h => ?_
          rcases i2 hL1836 with ⟨hb1848,hL1836⟩ | ⟨hb1848,hL1836⟩
          ·
           refine kT h ?_
           refine qs 267 [] [2] [] h fun ac wd h => ?_
           refine wp_ret ?_
           injection hL1836 with hL1836
           subst hL1836
           (try dsimp only at hE1765)
           injection hE1765 with hE1765
           subst hE1765
           (try dsimp only at hL1719)
           injection hL1719 with hL1719
           subst hL1719
           exact rE h [.tmp 2]
          ·
           refine kF h ?_
           refine wp_skip ?_
           change Code.wp Try.prog _ _ _ _
           refine qe [] [1,6,7,8] [(1,0)] h fun ac wd h => ?_
           exact ⟨nf,Nat.lt_succ_self nf,(IntKind.wrap .i64 (n1835 + 1)),hL1836,h.z⟩
         ·
          refine kF h ?_
          refine wp_exit ?_
          injection hL1836 with hL1836; subst hL1836
          exact ⟨rfl,h.z⟩
       ·
        rintro ac wd ⟨rfl,h⟩
        (try dsimp only at hE1765)
        injection hE1765 with hE1765; subst hE1765
        exact ⟨rfl,h.z⟩
      ·
       rintro ac wd ⟨rfl,h⟩
       (try dsimp only at hL1719)
       refine qe [] [1,6] [(1,0)] h fun ac wd h => ?_
       exact ⟨nf,Nat.lt_succ_self nf,(IntKind.wrap .i64 (n1718 + 1)),hL1719,h.z⟩
     ·
      refine kF h ?_
      refine wp_exit ?_
      change Code.wp Try.prog _ _ _ _
      refine qs 229 [] [2] [] h fun ac wd h => ?_
      refine wp_ret ?_
      injection hL1719 with hL1719
      subst hL1719
      exact rE h [.tmp 2]

theorem L_ref04_waits_ok {a0 : TState} {a1 : Int} {a2 : TGraph} {r : Bool} (hD : L_ref04_waits a0 a1 a2 = some r) :
  CallH Try.prog 62 [.agg (cTState a0),.one (.d (.int .i64 a1)),.agg (cTGraph a2)] []
   (.one (.d (.bool r))) [] := by
 unfold L_ref04_waits at hD
 refine rc Try.func62 rfl Try.ntmps62 fun S Φ P0 wb ac h => ?_
 refine qs 4 [] [1,3,5] [(1,0),(2,0)] h fun ac wd h => ?_
 refine wp_seq ?_
 refine qs 7 [] [1,3,5,10] [(1,0),(2,0)] h fun ac wd h => ?_
 rcases i2e hD with ⟨hb239,hD⟩ | ⟨hb239,hD⟩
 ·
  refine kF h ?_
  refine wp_skip ?_
  change Code.wp Try.prog _ _ _ _
  refine wp_seq ?_
  refine qs 8 [] [1,3,5,7] [(1,0),(2,0)] h fun ac wd h => ?_
  refine wp_block ?_
  refine r_while (fun nf ac wd => ∃ (n429 : Int),L_ref04_waits_l1 a0 a1 a2 nf n429 = some r ∧ SL ⟨wb,S,Φ,P0⟩ 53 78 [(1,.one (.d (.int .i64 a1))),(3,.one (.ptr (1,0) 0)),(5,.one (.ptr (2,0) 0)),(7,.one (.d (.int .i64 n429)))] [((1,0),some (.box 66 (cTState a0))),((2,0),some (.box 35 (cTGraph a2)))] ac wd) (((a0.Waits.length : Int) - 0).toNat + 1) ⟨0,hD,h.z⟩ (fun nf ac wd hJ => ?_)
  obtain ⟨n429,hL430,h⟩ := hJ
  cases nf with
  | zero => rw [L_ref04_waits_l1] at hL430; cases hL430
  | succ nf =>
   rw [L_ref04_waits_l1] at hL430
   refine wp_seq ?_
   refine qs 83 [] [1,3,5,7,19] [(1,0),(2,0)] h fun ac wd h => ?_
   rcases i2 hL430 with ⟨hb432,hL430⟩ | ⟨hb432,hL430⟩
   ·
    refine kT h ?_
    refine wp_skip ?_
    change Code.wp Try.prog _ _ _ _
    refine wp_seq ?_
    refine wp_block ?_
    obtain ⟨e462,hE463,hL430⟩ := Option.bind_eq_some_iff.1 hL430
    refine r_seqJ (fun ac wd => ∃ (b461 : Bool),b461 = e462 ∧ SL ⟨wb,S,Φ,P0⟩ 53 110 [(1,.one (.d (.int .i64 a1))),(3,.one (.ptr (1,0) 0)),(5,.one (.ptr (2,0) 0)),(7,.one (.d (.int .i64 n429))),(48,.one (.d (.bool b461)))] [((1,0),some (.box 66 (cTState a0))),((2,0),some (.box 35 (cTGraph a2)))] ac wd) ?_ ?_
    ·
     obtain ⟨x464,hx465a,hx465b,hx465c,hx465d,hE463⟩ := aB hE463
     obtain ⟨r466,hc467,hE463⟩ := oB hE463
     rcases i2 hE463 with ⟨hb468,hE463⟩ | ⟨hb468,hE463⟩
     ·
      have hc467k := L_ref03_Find_ok hc467
      refine deg [factE 90 hc467k] [none,none,none,none,none,none,none,none,none,none,some (some 31,false),some (some 31,false),some (some 31,false),some (some 34,true),some (some 34,true),some (some 34,true),some (some 34,true),some (some 34,true),some (some 34,true),some (some 34,true),some (some 34,true),some (some 34,true),some (some 34,true),some (some 34,true),some (some 34,true),some (some 31,false),none] [1,3,5,7,48] [(1,0),(2,0)] h fun ac wd h => ?_
      injection hE463 with hE463; subst hE463
      exact ⟨true,rfl,h.z⟩
     ·
      rcases i2 hE463 with ⟨hb469,hE463⟩ | ⟨hb469,hE463⟩
      ·
       obtain ⟨x470,hx471a,hx471b,hx471c,hx471d,hE463⟩ := aB hE463
       have hc467k := L_ref03_Find_ok hc467
       refine deg [factE 90 hc467k] [none,none,none,none,none,none,none,none,none,none,some (some 31,false),some (some 31,false),some (some 31,false),some (some 34,true),some (some 34,true),some (some 34,true),some (some 34,true),some (some 34,true),some (some 34,true),some (some 34,true),some (some 34,true),some (some 34,true),some (some 34,true),some (some 34,true),some (some 34,true),some (some 31,false),none] [1,3,5,7,48] [(1,0),(2,0)] h fun ac wd h => ?_
       injection hE463 with hE463; subst hE463
       exact ⟨decide (x464 ≤ x470),rfl,h.z⟩
      ·
       have hc467k := L_ref03_Find_ok hc467
       refine deg [factE 90 hc467k] [none,none,none,none,none,none,none,none,none,none,some (some 31,false),some (some 31,false),some (some 31,false),some (some 34,true),some (some 34,true),some (some 34,true),some (some 34,true),some (some 34,true),some (some 34,true),some (some 34,true),some (some 34,true),some (some 34,true),some (some 34,true),some (some 34,true),some (some 34,true),some (some 31,false),none] [1,3,5,7,48] [(1,0),(2,0)] h fun ac wd h => ?_
       injection hE463 with hE463; subst hE463
       exact ⟨false,rfl,h.z⟩
    ·
     rintro ac wd ⟨b461,rfl,h⟩
     (try dsimp only at hL430)
     rcases i2b hL430 with ⟨hb472,hL430⟩ | ⟨hb472,hL430⟩
     ·
      refine kT h ?_
      refine qs 111 [] [6] [] h fun ac wd h => ?_
      refine wp_ret ?_
      injection hL430 with hL430
      subst hL430
      exact rE h [.tmp 6]
     ·
      refine kF h ?_
      refine wp_skip ?_
      change Code.wp Try.prog _ _ _ _
      refine qe [] [1,3,5,7] [(1,0),(2,0)] h fun ac wd h => ?_
      exact ⟨nf,Nat.lt_succ_self nf,(IntKind.wrap .i64 (n429 + 1)),hL430,h.z⟩
   ·
    refine kF h ?_
    refine wp_exit ?_
    change Code.wp Try.prog _ _ _ _
    refine qs 88 [] [6] [] h fun ac wd h => ?_
    refine wp_ret ?_
    injection hL430 with hL430
    subst hL430
    exact rE h [.tmp 6]
 ·
  refine kT h ?_
  refine qs 12 [] [6] [] h fun ac wd h => ?_
  refine wp_ret ?_
  injection hD with hD
  subst hD
  exact rE h [.tmp 6]

theorem L_ref04_picks_ok {a0 : TState} {a1 : Int} {a2 : Int} {a3 : TGraph} {r : Bool} (hD : L_ref04_picks a0 a1 a2 a3 = some r) :
  CallH Try.prog 63 [.agg (cTState a0),.one (.d (.int .i64 a1)),.one (.d (.int .i64 a2)),.agg (cTGraph a3)] []
   (.one (.d (.bool r))) [] := by
 unfold L_ref04_picks at hD
 refine rc Try.func63 rfl Try.ntmps63 fun S Φ P0 wb ac h => ?_
 refine qs 4 [] [1,2,4,7] [(1,0),(2,0)] h fun ac wd h => ?_
 refine wp_seq ?_
 obtain ⟨e1454,hE1455,hD⟩ := Option.bind_eq_some_iff.1 hD
 refine r_seqJ (fun ac wd => ∃ (b1453 : Bool),b1453 = e1454 ∧ SL ⟨wb,S,Φ,P0⟩ 89 19 [(1,.one (.d (.int .i64 a1))),(2,.one (.d (.int .i64 a2))),(4,.one (.ptr (1,0) 0)),(7,.one (.ptr (2,0) 0)),(26,.one (.d (.bool b1453)))] [((1,0),some (.box 66 (cTState a0))),((2,0),some (.box 35 (cTGraph a3)))] ac wd) ?_ ?_
 ·
  rcases i2 hE1455 with ⟨hb1456,hE1455⟩ | ⟨hb1456,hE1455⟩
  ·
   refine qeg [] [none,none,none,none,none,some (some 16,false),some (some 16,false),some (some 16,false),some (some 16,false),some (some 16,false),some (some 21,true),some (some 21,true),some (some 21,true),some (some 16,false),none] [1,2,4,7,26] [(1,0),(2,0)] h fun ac wd h => ?_
   injection hE1455 with hE1455; subst hE1455
   exact ⟨true,rfl,h.z⟩
  ·
   rcases i2 hE1455 with ⟨hb1457,hE1455⟩ | ⟨hb1457,hE1455⟩
   ·
    refine qeg [] [none,none,none,none,none,some (some 16,false),some (some 16,false),some (some 16,false),some (some 16,false),some (some 16,false),some (some 21,true),some (some 21,true),some (some 21,true),some (some 16,false),none] [1,2,4,7,26] [(1,0),(2,0)] h fun ac wd h => ?_
    injection hE1455 with hE1455; subst hE1455
    exact ⟨!(decide (a0.Mode = 1)),rfl,h.z⟩
   ·
    refine qeg [] [none,none,none,none,none,some (some 16,false),some (some 16,false),some (some 16,false),some (some 16,false),some (some 16,false),some (some 21,true),some (some 21,true),some (some 21,true),some (some 16,false),none] [1,2,4,7,26] [(1,0),(2,0)] h fun ac wd h => ?_
    injection hE1455 with hE1455; subst hE1455
    exact ⟨false,rfl,h.z⟩
 ·
  rintro ac wd ⟨b1453,rfl,h⟩
  (try dsimp only at hD)
  rcases i2b hD with ⟨hb1459,hD⟩ | ⟨hb1459,hD⟩
  ·
   refine kT h ?_
   refine qs 20 [] [8] [] h fun ac wd h => ?_
   refine wp_ret ?_
   injection hD with hD
   subst hD
   exact rE h [.tmp 8]
  ·
   refine kF h ?_
   refine wp_skip ?_
   change Code.wp Try.prog _ _ _ _
   refine wp_seq ?_
   refine qs 20 [] [1,2,4,7,9] [(1,0),(2,0)] h fun ac wd h => ?_
   refine wp_block ?_
   refine r_while (fun nf ac wd => ∃ (n2658 : Int),L_ref04_picks_l1 a0 a1 a2 a3 nf n2658 = some r ∧ SL ⟨wb,S,Φ,P0⟩ 89 236 [(1,.one (.d (.int .i64 a1))),(2,.one (.d (.int .i64 a2))),(4,.one (.ptr (1,0) 0)),(7,.one (.ptr (2,0) 0)),(9,.one (.d (.int .i64 n2658)))] [((1,0),some (.box 66 (cTState a0))),((2,0),some (.box 35 (cTGraph a3)))] ac wd) (((a0.Picks.length : Int) - 0).toNat + 1) ⟨0,hD,h.z⟩ (fun nf ac wd hJ => ?_)
   obtain ⟨n2658,hL2659,h⟩ := hJ
   cases nf with
   | zero => rw [L_ref04_picks_l1] at hL2659; cases hL2659
   | succ nf =>
    rw [L_ref04_picks_l1] at hL2659
    refine wp_seq ?_
    refine qs 241 [] [1,2,4,7,9,31] [(1,0),(2,0)] h fun ac wd h => ?_
    rcases i2 hL2659 with ⟨hb2661,hL2659⟩ | ⟨hb2661,hL2659⟩
    ·
     refine kT h ?_
     refine wp_skip ?_
     change Code.wp Try.prog _ _ _ _
     obtain ⟨e2779,hE2780,hL2659⟩ := Option.bind_eq_some_iff.1 hL2659
     refine r_seqJ (fun ac wd => (.inl ()) = e2779 ∧ SL ⟨wb,S,Φ,P0⟩ 89 341 [(1,.one (.d (.int .i64 a1))),(2,.one (.d (.int .i64 a2))),(4,.one (.ptr (1,0) 0)),(7,.one (.ptr (2,0) 0)),(9,.one (.d (.int .i64 n2658)))] [((1,0),some (.box 66 (cTState a0))),((2,0),some (.box 35 (cTGraph a3)))] ac wd) ?_ ?_
     ·
      refine wp_block ?_
      obtain ⟨x2783,hx2784a,hx2784b,hx2784c,hx2784d,hE2780⟩ := aB hE2780
      refine qs 248 [] [1,2,4,7,9,10] [(1,0),(2,0),(246,0)] h fun ac wd h => ?_
      refine wp_seq ?_
      obtain ⟨e2788,hE2789,hE2780⟩ := Option.bind_eq_some_iff.1 hE2780
      refine r_seqJ (fun ac wd => ∃ (b2787 : Bool),b2787 = e2788 ∧ SL ⟨wb,S,Φ,P0⟩ 89 263 [(1,.one (.d (.int .i64 a1))),(2,.one (.d (.int .i64 a2))),(4,.one (.ptr (1,0) 0)),(7,.one (.ptr (2,0) 0)),(9,.one (.d (.int .i64 n2658))),(10,.one (.ptr (246,0) 0)),(53,.one (.d (.bool b2787)))] [((1,0),some (.box 66 (cTState a0))),((2,0),some (.box 35 (cTGraph a3))),((246,0),some (.box 157 (cTPick x2783)))] ac wd) ?_ ?_
      ·
       rcases i2 hE2789 with ⟨hb2790,hE2789⟩ | ⟨hb2790,hE2789⟩
       ·
        refine qeg [] [none,none,none,none,some (some 42,false),some (some 42,false),some (some 42,false),some (some 42,false),none,none,some (some 48,false),some (some 48,false),some (some 48,false),some (some 48,false),none] [1,2,4,7,9,10,53] [(1,0),(2,0),(246,0)] h fun ac wd h => ?_
        injection hE2789 with hE2789; subst hE2789
        exact ⟨true,rfl,h.z⟩
       ·
        rcases i2 hE2789 with ⟨hb2791,hE2789⟩ | ⟨hb2791,hE2789⟩
        ·
         refine qeg [] [none,none,none,none,some (some 42,false),some (some 42,false),some (some 42,false),some (some 42,false),none,none,some (some 48,false),some (some 48,false),some (some 48,false),some (some 48,false),none] [1,2,4,7,9,10,53] [(1,0),(2,0),(246,0)] h fun ac wd h => ?_
         injection hE2789 with hE2789; subst hE2789
         exact ⟨true,rfl,h.z⟩
        ·
         refine qeg [] [none,none,none,none,some (some 42,false),some (some 42,false),some (some 42,false),some (some 42,false),none,none,some (some 48,false),some (some 48,false),some (some 48,false),some (some 48,false),none] [1,2,4,7,9,10,53] [(1,0),(2,0),(246,0)] h fun ac wd h => ?_
         injection hE2789 with hE2789; subst hE2789
         exact ⟨decide ((x2783.Sends.length : Int) > 4),rfl,h.z⟩
      ·
       rintro ac wd ⟨b2787,rfl,h⟩
       (try dsimp only at hE2780)
       rcases i2b hE2780 with ⟨hb2793,hE2780⟩ | ⟨hb2793,hE2780⟩
       ·
        refine kT h ?_
        refine qs 264 [] [8] [] h fun ac wd h => ?_
        refine wp_ret ?_
        injection hE2780 with hE2780
        subst hE2780
        (try dsimp only at hL2659)
        injection hL2659 with hL2659
        subst hL2659
        exact rE h [.tmp 8]
       ·
        refine kF h ?_
        refine wp_skip ?_
        change Code.wp Try.prog _ _ _ _
        refine qs 264 [] [1,2,4,7,9,10,11] [(1,0),(2,0),(246,0)] h fun ac wd h => ?_
        obtain ⟨e2898,hE2899,hE2780⟩ := Option.bind_eq_some_iff.1 hE2780
        refine r_meetQ (fun ac wd => (.inl ()) = e2898 ∧ SL ⟨wb,S,Φ,P0⟩ 89 341 [(1,.one (.d (.int .i64 a1))),(2,.one (.d (.int .i64 a2))),(4,.one (.ptr (1,0) 0)),(7,.one (.ptr (2,0) 0)),(9,.one (.d (.int .i64 n2658)))] [((1,0),some (.box 66 (cTState a0))),((2,0),some (.box 35 (cTGraph a3)))] ac wd) ?_ ?_
        ·
         refine wp_block ?_
         refine r_while (fun nf ac wd => ∃ (n2969 : Int),L_ref04_picks_l2 a1 a3 x2783 nf n2969 = some e2898 ∧ SL ⟨wb,S,Φ,P0⟩ 89 336 [(1,.one (.d (.int .i64 a1))),(2,.one (.d (.int .i64 a2))),(4,.one (.ptr (1,0) 0)),(7,.one (.ptr (2,0) 0)),(9,.one (.d (.int .i64 n2658))),(10,.one (.ptr (246,0) 0)),(11,.one (.d (.int .i64 n2969)))] [((1,0),some (.box 66 (cTState a0))),((2,0),some (.box 35 (cTGraph a3))),((246,0),some (.box 157 (cTPick x2783)))] ac wd) (((x2783.Sends.length : Int) - 0).toNat + 1) ⟨0,hE2899,h.z⟩ (fun nf ac wd hJ => ?_)
         obtain ⟨n2969,hL2970,h⟩ := hJ
         cases nf with
         | zero => rw [L_ref04_picks_l2] at hL2970; cases hL2970
         | succ nf =>
          rw [L_ref04_picks_l2] at hL2970
          refine wp_seq ?_
          refine qs 341 [] [1,2,4,7,9,10,11,58] [(1,0),(2,0),(246,0)] h fun ac wd h => ?_
          rcases i2 hL2970 with ⟨hb2972,hL2970⟩ | ⟨hb2972,hL2970⟩
          ·
           refine kT h ?_
           refine wp_skip ?_
           change Code.wp Try.prog _ _ _ _
           refine wp_seq ?_
           refine wp_block ?_
           obtain ⟨e2996,hE2997,hL2970⟩ := Option.bind_eq_some_iff.1 hL2970
           refine r_seqJ (fun ac wd => ∃ (b2995 : Bool),b2995 = e2996 ∧ SL ⟨wb,S,Φ,P0⟩ 89 369 [(1,.one (.d (.int .i64 a1))),(2,.one (.d (.int .i64 a2))),(4,.one (.ptr (1,0) 0)),(7,.one (.ptr (2,0) 0)),(9,.one (.d (.int .i64 n2658))),(10,.one (.ptr (246,0) 0)),(11,.one (.d (.int .i64 n2969))),(88,.one (.d (.bool b2995)))] [((1,0),some (.box 66 (cTState a0))),((2,0),some (.box 35 (cTGraph a3))),((246,0),some (.box 157 (cTPick x2783)))] ac wd) ?_ ?_
           ·
            obtain ⟨x2998,hx2999a,hx2999b,hx2999c,hx2999d,hE2997⟩ := aB hE2997
            obtain ⟨r3000,hc3001,hE2997⟩ := oB hE2997
            rcases i2 hE2997 with ⟨hb3002,hE2997⟩ | ⟨hb3002,hE2997⟩
            ·
             have hc3001k := L_ref03_Find_ok hc3001
             refine deg [factE 349 hc3001k] [none,none,none,none,none,none,none,none,none,none,none,some (some 71,false),some (some 71,false),some (some 71,false),some (some 71,false),some (some 71,false),some (some 71,false),some (some 71,false),none,none,some (some 80,false),some (some 80,false),some (some 80,false),some (some 80,false),some (some 80,false),some (some 80,false),some (some 80,false),none] [1,2,4,7,9,10,11,88] [(1,0),(2,0),(246,0)] h fun ac wd h => ?_
             injection hE2997 with hE2997; subst hE2997
             exact ⟨true,rfl,h.z⟩
            ·
             rcases i2 hE2997 with ⟨hb3003,hE2997⟩ | ⟨hb3003,hE2997⟩
             ·
              have hc3001k := L_ref03_Find_ok hc3001
              refine deg [factE 349 hc3001k] [none,none,none,none,none,none,none,none,none,none,none,some (some 71,false),some (some 71,false),some (some 71,false),some (some 71,false),some (some 71,false),some (some 71,false),some (some 71,false),none,none,some (some 80,false),some (some 80,false),some (some 80,false),some (some 80,false),some (some 80,false),some (some 80,false),some (some 80,false),none] [1,2,4,7,9,10,11,88] [(1,0),(2,0),(246,0)] h fun ac wd h => ?_
              injection hE2997 with hE2997; subst hE2997
              exact ⟨true,rfl,h.z⟩
             ·
              have hc3001k := L_ref03_Find_ok hc3001
              refine deg [factE 349 hc3001k] [none,none,none,none,none,none,none,none,none,none,none,some (some 71,false),some (some 71,false),some (some 71,false),some (some 71,false),some (some 71,false),some (some 71,false),some (some 71,false),none,none,some (some 80,false),some (some 80,false),some (some 80,false),some (some 80,false),some (some 80,false),some (some 80,false),some (some 80,false),none] [1,2,4,7,9,10,11,88] [(1,0),(2,0),(246,0)] h fun ac wd h => ?_
              injection hE2997 with hE2997; subst hE2997
              exact ⟨decide (x2998.Letter > 3),rfl,h.z⟩
           ·
            rintro ac wd ⟨b2995,rfl,h⟩
            (try dsimp only at hL2970)
            rcases i2b hL2970 with ⟨hb3004,hL2970⟩ | ⟨hb3004,hL2970⟩
            ·
             refine kT h ?_
             refine qs 370 [] [8] [] h fun ac wd h => ?_
             refine wp_ret ?_
             injection hL2970 with hL2970
             subst hL2970
             (try dsimp only at hE2780)
             injection hE2780 with hE2780
             subst hE2780
             (try dsimp only at hL2659)
             injection hL2659 with hL2659
             subst hL2659
             exact rE h [.tmp 8]
            ·
             refine kF h ?_
             refine wp_skip ?_
             change Code.wp Try.prog _ _ _ _
             refine qe [] [1,2,4,7,9,10,11] [(1,0),(2,0),(246,0)] h fun ac wd h => ?_
             exact ⟨nf,Nat.lt_succ_self nf,(IntKind.wrap .i64 (n2969 + 1)),hL2970,h.z⟩
          ·
           refine kF h ?_
           refine wp_exit ?_
           injection hL2970 with hL2970; subst hL2970
           exact ⟨rfl,h.z⟩
        ·
         rintro ac wd ⟨rfl,h⟩
         (try dsimp only at hE2780)
         injection hE2780 with hE2780; subst hE2780
         exact ⟨rfl,h.z⟩
     ·
      rintro ac wd ⟨rfl,h⟩
      (try dsimp only at hL2659)
      refine qe [] [1,2,4,7,9] [(1,0),(2,0)] h fun ac wd h => ?_
      exact ⟨nf,Nat.lt_succ_self nf,(IntKind.wrap .i64 (n2658 + 1)),hL2659,h.z⟩
    ·
     refine kF h ?_
     refine wp_exit ?_
     change Code.wp Try.prog _ _ _ _
     refine qs 242 [] [8] [] h fun ac wd h => ?_
     refine wp_ret ?_
     injection hL2659 with hL2659
     subst hL2659
     exact rE h [.tmp 8]

theorem L_ref04_In_ok {a0 : (List Int)} {a1 : Int} {r : Bool} (hD : L_ref04_In a0 a1 = some r) :
  CallH Try.prog 41 [.one (.d (.sl (List.map eI a0))),.one (.d (.int .i64 a1))] []
   (.one (.d (.bool r))) [] := by
 unfold L_ref04_In at hD
 refine rc Try.func41 rfl Try.ntmps41 fun S Φ P0 wb ac h => ?_
 refine qs 2 [] [0,1] [] h fun ac wd h => ?_
 refine wp_seq ?_
 refine qs 3 [] [0,1,5] [] h fun ac wd h => ?_
 refine wp_block ?_
 refine r_while (fun nf ac wd => ∃ (n143 : Int),L_ref04_In_l1 a0 a1 nf n143 = some r ∧ SL ⟨wb,S,Φ,P0⟩ 18 29 [(0,.one (.d (.sl (List.map eI a0)))),(1,.one (.d (.int .i64 a1))),(5,.one (.d (.int .i64 n143)))] [] ac wd) (((a0.length : Int) - 0).toNat + 1) ⟨0,hD,h.z⟩ (fun nf ac wd hJ => ?_)
 obtain ⟨n143,hL144,h⟩ := hJ
 cases nf with
 | zero => rw [L_ref04_In_l1] at hL144; cases hL144
 | succ nf =>
  rw [L_ref04_In_l1] at hL144
  refine wp_seq ?_
  refine qs 33 [] [0,1,5,9] [] h fun ac wd h => ?_
  rcases i2 hL144 with ⟨hb146,hL144⟩ | ⟨hb146,hL144⟩
  ·
   refine kT h ?_
   refine wp_skip ?_
   change Code.wp Try.prog _ _ _ _
   refine wp_seq ?_
   refine wp_block ?_
   obtain ⟨x154,hx155a,hx155b,hx155c,hx155d,hL144⟩ := aB hL144
   refine qs 39 [] [0,1,5,17] [] h fun ac wd h => ?_
   rcases i2e hL144 with ⟨hb156,hL144⟩ | ⟨hb156,hL144⟩
   ·
    refine kT h ?_
    refine qs 40 [] [4] [] h fun ac wd h => ?_
    refine wp_ret ?_
    injection hL144 with hL144
    subst hL144
    exact rE h [.tmp 4]
   ·
    refine kF h ?_
    refine wp_skip ?_
    change Code.wp Try.prog _ _ _ _
    refine qe [] [0,1,5] [] h fun ac wd h => ?_
    exact ⟨nf,Nat.lt_succ_self nf,(IntKind.wrap .i64 (n143 + 1)),hL144,h.z⟩
  ·
   refine kF h ?_
   refine wp_exit ?_
   change Code.wp Try.prog _ _ _ _
   refine qs 34 [] [4] [] h fun ac wd h => ?_
   refine wp_ret ?_
   injection hL144 with hL144
   subst hL144
   exact rE h [.tmp 4]

theorem L_ref04_kept_ok {a0 : TState} {a1 : TState} {a2 : Int} {r : Bool} (hD : L_ref04_kept a0 a1 a2 = some r) :
  CallH Try.prog 93 [.agg (cTState a0),.agg (cTState a1),.one (.d (.int .i64 a2))] []
   (.one (.d (.bool r))) [] := by
 unfold L_ref04_kept at hD
 refine rc Try.func93 rfl Try.ntmps93 fun S Φ P0 wb ac h => ?_
 refine qs 4 [] [2,3,4] [(1,0),(2,0)] h fun ac wd h => ?_
 refine wp_seq ?_
 refine qs 5 [] [2,3,4,7] [(1,0),(2,0)] h fun ac wd h => ?_
 refine wp_block ?_
 refine r_while (fun nf ac wd => ∃ (n385 : Int),L_ref04_kept_l1 a0 a1 a2 nf n385 = some r ∧ SL ⟨wb,S,Φ,P0⟩ 38 67 [(2,.one (.d (.int .i64 a2))),(3,.one (.ptr (1,0) 0)),(4,.one (.ptr (2,0) 0)),(7,.one (.d (.int .i64 n385)))] [((1,0),some (.box 66 (cTState a0))),((2,0),some (.box 66 (cTState a1)))] ac wd) (((a0.Waits.length : Int) - 0).toNat + 1) ⟨0,hD,h.z⟩ (fun nf ac wd hJ => ?_)
 obtain ⟨n385,hL386,h⟩ := hJ
 cases nf with
 | zero => rw [L_ref04_kept_l1] at hL386; cases hL386
 | succ nf =>
  rw [L_ref04_kept_l1] at hL386
  refine wp_seq ?_
  refine qs 72 [] [2,3,4,7,12] [(1,0),(2,0)] h fun ac wd h => ?_
  rcases i2 hL386 with ⟨hb388,hL386⟩ | ⟨hb388,hL386⟩
  ·
   refine kT h ?_
   refine wp_skip ?_
   change Code.wp Try.prog _ _ _ _
   refine wp_seq ?_
   refine wp_block ?_
   obtain ⟨e412,hE413,hL386⟩ := Option.bind_eq_some_iff.1 hL386
   refine r_seqJ (fun ac wd => ∃ (b411 : Bool),b411 = e412 ∧ SL ⟨wb,S,Φ,P0⟩ 38 95 [(2,.one (.d (.int .i64 a2))),(3,.one (.ptr (1,0) 0)),(4,.one (.ptr (2,0) 0)),(7,.one (.d (.int .i64 n385))),(37,.one (.d (.bool b411)))] [((1,0),some (.box 66 (cTState a0))),((2,0),some (.box 66 (cTState a1)))] ac wd) ?_ ?_
   ·
    obtain ⟨x414,hx415a,hx415b,hx415c,hx415d,hE413⟩ := aB hE413
    rcases i2e hE413 with ⟨hb416,hE413⟩ | ⟨hb416,hE413⟩
    ·
     refine deg [] [none,none,none,none,none,none,none,none,some (some 22,true),some (some 22,true),some (some 22,true),some (some 22,true),some (some 26,false),some (some 26,false),some (some 26,false),some (some 26,false),some (some 26,false),some (some 26,false),some (some 26,false),some (some 26,false),some (some 26,false),some (some 22,true),none] [2,3,4,7,37] [(1,0),(2,0)] h fun ac wd h => ?_
     injection hE413 with hE413; subst hE413
     exact ⟨false,rfl,h.z⟩
    ·
     rcases i2e hE413 with ⟨hb417,hE413⟩ | ⟨hb417,hE413⟩
     ·
      obtain ⟨r418,hc419,hE413⟩ := oB hE413
      have hc419k := L_ref04_In_ok hc419
      refine deg [factE 91 hc419k] [none,none,none,none,none,none,none,none,some (some 22,true),some (some 22,true),some (some 22,true),some (some 22,true),some (some 26,false),some (some 26,false),some (some 26,false),some (some 26,false),some (some 26,false),some (some 26,false),some (some 26,false),some (some 26,false),some (some 26,false),some (some 22,true),none] [2,3,4,7,37] [(1,0),(2,0)] h fun ac wd h => ?_
      injection hE413 with hE413; subst hE413
      exact ⟨!(r418),rfl,h.z⟩
     ·
      refine deg [] [none,none,none,none,none,none,none,none,some (some 22,true),some (some 22,true),some (some 22,true),some (some 22,true),some (some 26,false),some (some 26,false),some (some 26,false),some (some 26,false),some (some 26,false),some (some 26,false),some (some 26,false),some (some 26,false),some (some 26,false),some (some 22,true),none] [2,3,4,7,37] [(1,0),(2,0)] h fun ac wd h => ?_
      injection hE413 with hE413; subst hE413
      exact ⟨true,rfl,h.z⟩
   ·
    rintro ac wd ⟨b411,rfl,h⟩
    (try dsimp only at hL386)
    rcases i2b hL386 with ⟨hb420,hL386⟩ | ⟨hb420,hL386⟩
    ·
     refine kT h ?_
     refine qs 96 [] [6] [] h fun ac wd h => ?_
     refine wp_ret ?_
     injection hL386 with hL386
     subst hL386
     exact rE h [.tmp 6]
    ·
     refine kF h ?_
     refine wp_skip ?_
     change Code.wp Try.prog _ _ _ _
     refine qe [] [2,3,4,7] [(1,0),(2,0)] h fun ac wd h => ?_
     exact ⟨nf,Nat.lt_succ_self nf,(IntKind.wrap .i64 (n385 + 1)),hL386,h.z⟩
  ·
   refine kF h ?_
   refine wp_exit ?_
   change Code.wp Try.prog _ _ _ _
   refine qs 73 [] [6] [] h fun ac wd h => ?_
   refine wp_ret ?_
   injection hL386 with hL386
   subst hL386
   exact rE h [.tmp 6]

theorem L_ref04_takes_ok {a0 : TState} {a1 : Int} {a2 : TNode} {a3 : TGraph} {r : Bool} (hD : L_ref04_takes a0 a1 a2 a3 = some r) :
  CallH Try.prog 64 [.agg (cTState a0),.one (.d (.int .i64 a1)),.agg (cTNode a2),.agg (cTGraph a3)] []
   (.one (.d (.bool r))) [] := by
 unfold L_ref04_takes at hD
 refine rc Try.func64 rfl Try.ntmps64 fun S Φ P0 wb ac h => ?_
 refine qs 5 [] [1,4,6,7] [(1,0),(2,0),(3,0)] h fun ac wd h => ?_
 refine wp_seq ?_
 refine qs 6 [] [1,4,6,7,9] [(1,0),(2,0),(3,0)] h fun ac wd h => ?_
 refine wp_block ?_
 refine r_while (fun nf ac wd => ∃ (n1700 : Int),L_ref04_takes_l1 a0 a1 a2 a3 nf n1700 = some r ∧ SL ⟨wb,S,Φ,P0⟩ 91 180 [(1,.one (.d (.int .i64 a1))),(4,.one (.ptr (1,0) 0)),(6,.one (.ptr (2,0) 0)),(7,.one (.ptr (3,0) 0)),(9,.one (.d (.int .i64 n1700)))] [((1,0),some (.box 66 (cTState a0))),((2,0),some (.box 108 (cTNode a2))),((3,0),some (.box 35 (cTGraph a3)))] ac wd) (((a0.Takes.length : Int) - 0).toNat + 1) ⟨0,hD,h.z⟩ (fun nf ac wd hJ => ?_)
 obtain ⟨n1700,hL1701,h⟩ := hJ
 cases nf with
 | zero => rw [L_ref04_takes_l1] at hL1701; cases hL1701
 | succ nf =>
  rw [L_ref04_takes_l1] at hL1701
  refine wp_seq ?_
  refine qs 185 [] [1,4,6,7,9,16] [(1,0),(2,0),(3,0)] h fun ac wd h => ?_
  rcases i2 hL1701 with ⟨hb1703,hL1701⟩ | ⟨hb1703,hL1701⟩
  ·
   refine kT h ?_
   refine wp_skip ?_
   change Code.wp Try.prog _ _ _ _
   obtain ⟨e1803,hE1804,hL1701⟩ := Option.bind_eq_some_iff.1 hL1701
   refine r_seqJ (fun ac wd => (.inl ()) = e1803 ∧ SL ⟨wb,S,Φ,P0⟩ 91 290 [(1,.one (.d (.int .i64 a1))),(4,.one (.ptr (1,0) 0)),(6,.one (.ptr (2,0) 0)),(7,.one (.ptr (3,0) 0)),(9,.one (.d (.int .i64 n1700)))] [((1,0),some (.box 66 (cTState a0))),((2,0),some (.box 108 (cTNode a2))),((3,0),some (.box 35 (cTGraph a3)))] ac wd) ?_ ?_
   ·
    refine wp_block ?_
    obtain ⟨x1807,hx1808a,hx1808b,hx1808c,hx1808d,hE1804⟩ := aB hE1804
    refine qs 192 [] [1,4,6,7,9,10] [(1,0),(2,0),(3,0),(190,0)] h fun ac wd h => ?_
    refine wp_seq ?_
    obtain ⟨e1821,hE1822,hE1804⟩ := Option.bind_eq_some_iff.1 hE1804
    refine r_seqJ (fun ac wd => ∃ (b1820 : Bool),b1820 = e1821 ∧ SL ⟨wb,S,Φ,P0⟩ 91 234 [(1,.one (.d (.int .i64 a1))),(4,.one (.ptr (1,0) 0)),(6,.one (.ptr (2,0) 0)),(7,.one (.ptr (3,0) 0)),(9,.one (.d (.int .i64 n1700))),(10,.one (.ptr (190,0) 0)),(65,.one (.d (.bool b1820)))] [((1,0),some (.box 66 (cTState a0))),((2,0),some (.box 108 (cTNode a2))),((3,0),some (.box 35 (cTGraph a3))),((190,0),some (.box 159 (cTTake x1807)))] ac wd) ?_ ?_
    ·
     obtain ⟨r1823,hc1824,hE1822⟩ := oB hE1822
     rcases i2 hE1822 with ⟨hb1825,hE1822⟩ | ⟨hb1825,hE1822⟩
     ·
      have hc1824k := L_ref03_Find_ok hc1824
      refine deg [factE 196 hc1824k] [none,none,none,none,none,none,none,some (some 30,false),some (some 30,false),some (some 30,false),none,none,some (some 35,false),some (some 35,false),some (some 35,false),none,none,some (some 40,false),some (some 40,false),some (some 40,false),none,none,some (some 45,false),some (some 45,false),some (some 45,false),some (some 45,false),some (some 45,false),some (some 45,false),none,none,some (some 53,false),some (some 53,false),some (some 53,false),some (some 53,false),some (some 53,false),some (some 53,false),some (some 53,false),some (some 53,false),some (some 53,false),some (some 53,false),some (some 53,false),none] [1,4,6,7,9,10,65] [(1,0),(2,0),(3,0),(190,0)] h fun ac wd h => ?_
      injection hE1822 with hE1822; subst hE1822
      exact ⟨true,rfl,h.z⟩
     ·
      rcases i2 hE1822 with ⟨hb1826,hE1822⟩ | ⟨hb1826,hE1822⟩
      ·
       have hc1824k := L_ref03_Find_ok hc1824
       refine deg [factE 196 hc1824k] [none,none,none,none,none,none,none,some (some 30,false),some (some 30,false),some (some 30,false),none,none,some (some 35,false),some (some 35,false),some (some 35,false),none,none,some (some 40,false),some (some 40,false),some (some 40,false),none,none,some (some 45,false),some (some 45,false),some (some 45,false),some (some 45,false),some (some 45,false),some (some 45,false),none,none,some (some 53,false),some (some 53,false),some (some 53,false),some (some 53,false),some (some 53,false),some (some 53,false),some (some 53,false),some (some 53,false),some (some 53,false),some (some 53,false),some (some 53,false),none] [1,4,6,7,9,10,65] [(1,0),(2,0),(3,0),(190,0)] h fun ac wd h => ?_
       injection hE1822 with hE1822; subst hE1822
       exact ⟨true,rfl,h.z⟩
      ·
       rcases i2 hE1822 with ⟨hb1827,hE1822⟩ | ⟨hb1827,hE1822⟩
       ·
        have hc1824k := L_ref03_Find_ok hc1824
        refine deg [factE 196 hc1824k] [none,none,none,none,none,none,none,some (some 30,false),some (some 30,false),some (some 30,false),none,none,some (some 35,false),some (some 35,false),some (some 35,false),none,none,some (some 40,false),some (some 40,false),some (some 40,false),none,none,some (some 45,false),some (some 45,false),some (some 45,false),some (some 45,false),some (some 45,false),some (some 45,false),none,none,some (some 53,false),some (some 53,false),some (some 53,false),some (some 53,false),some (some 53,false),some (some 53,false),some (some 53,false),some (some 53,false),some (some 53,false),some (some 53,false),some (some 53,false),none] [1,4,6,7,9,10,65] [(1,0),(2,0),(3,0),(190,0)] h fun ac wd h => ?_
        injection hE1822 with hE1822; subst hE1822
        exact ⟨true,rfl,h.z⟩
       ·
        rcases i2 hE1822 with ⟨hb1828,hE1822⟩ | ⟨hb1828,hE1822⟩
        ·
         have hc1824k := L_ref03_Find_ok hc1824
         refine deg [factE 196 hc1824k] [none,none,none,none,none,none,none,some (some 30,false),some (some 30,false),some (some 30,false),none,none,some (some 35,false),some (some 35,false),some (some 35,false),none,none,some (some 40,false),some (some 40,false),some (some 40,false),none,none,some (some 45,false),some (some 45,false),some (some 45,false),some (some 45,false),some (some 45,false),some (some 45,false),none,none,some (some 53,false),some (some 53,false),some (some 53,false),some (some 53,false),some (some 53,false),some (some 53,false),some (some 53,false),some (some 53,false),some (some 53,false),some (some 53,false),some (some 53,false),none] [1,4,6,7,9,10,65] [(1,0),(2,0),(3,0),(190,0)] h fun ac wd h => ?_
         injection hE1822 with hE1822; subst hE1822
         exact ⟨true,rfl,h.z⟩
        ·
         rcases i2 hE1822 with ⟨hb1829,hE1822⟩ | ⟨hb1829,hE1822⟩
         ·
          have hc1824k := L_ref03_Find_ok hc1824
          refine deg [factE 196 hc1824k] [none,none,none,none,none,none,none,some (some 30,false),some (some 30,false),some (some 30,false),none,none,some (some 35,false),some (some 35,false),some (some 35,false),none,none,some (some 40,false),some (some 40,false),some (some 40,false),none,none,some (some 45,false),some (some 45,false),some (some 45,false),some (some 45,false),some (some 45,false),some (some 45,false),none,none,some (some 53,false),some (some 53,false),some (some 53,false),some (some 53,false),some (some 53,false),some (some 53,false),some (some 53,false),some (some 53,false),some (some 53,false),some (some 53,false),some (some 53,false),none] [1,4,6,7,9,10,65] [(1,0),(2,0),(3,0),(190,0)] h fun ac wd h => ?_
          injection hE1822 with hE1822; subst hE1822
          exact ⟨true,rfl,h.z⟩
         ·
          obtain ⟨x1830,hx1831a,hx1831b,hx1831c,hx1831d,hE1822⟩ := aB hE1822
          obtain ⟨r1832,hc1833,hE1822⟩ := oB hE1822
          have hc1824k := L_ref03_Find_ok hc1824
          have hc1833k := L_ref04_kept_ok hc1833
          refine deg [factE 196 hc1824k,factE 231 hc1833k] [none,none,none,none,none,none,none,some (some 30,false),some (some 30,false),some (some 30,false),none,none,some (some 35,false),some (some 35,false),some (some 35,false),none,none,some (some 40,false),some (some 40,false),some (some 40,false),none,none,some (some 45,false),some (some 45,false),some (some 45,false),some (some 45,false),some (some 45,false),some (some 45,false),none,none,some (some 53,false),some (some 53,false),some (some 53,false),some (some 53,false),some (some 53,false),some (some 53,false),some (some 53,false),some (some 53,false),some (some 53,false),some (some 53,false),some (some 53,false),none] [1,4,6,7,9,10,65] [(1,0),(2,0),(3,0),(190,0)] h fun ac wd h => ?_
          injection hE1822 with hE1822; subst hE1822
          exact ⟨!(r1832),rfl,h.z⟩
    ·
     rintro ac wd ⟨b1820,rfl,h⟩
     (try dsimp only at hE1804)
     rcases i2b hE1804 with ⟨hb1835,hE1804⟩ | ⟨hb1835,hE1804⟩
     ·
      refine kT h ?_
      refine qs 235 [] [8] [] h fun ac wd h => ?_
      refine wp_ret ?_
      injection hE1804 with hE1804
      subst hE1804
      (try dsimp only at hL1701)
      injection hL1701 with hL1701
      subst hL1701
      exact rE h [.tmp 8]
     ·
      refine kF h ?_
      refine wp_skip ?_
      change Code.wp Try.prog _ _ _ _
      refine qs 235 [] [1,4,6,7,9,10,11] [(1,0),(2,0),(3,0),(190,0)] h fun ac wd h => ?_
      obtain ⟨e1904,hE1905,hE1804⟩ := Option.bind_eq_some_iff.1 hE1804
      refine r_meetQ (fun ac wd => (.inl ()) = e1904 ∧ SL ⟨wb,S,Φ,P0⟩ 91 290 [(1,.one (.d (.int .i64 a1))),(4,.one (.ptr (1,0) 0)),(6,.one (.ptr (2,0) 0)),(7,.one (.ptr (3,0) 0)),(9,.one (.d (.int .i64 n1700)))] [((1,0),some (.box 66 (cTState a0))),((2,0),some (.box 108 (cTNode a2))),((3,0),some (.box 35 (cTGraph a3)))] ac wd) ?_ ?_
      ·
       refine wp_block ?_
       refine r_while (fun nf ac wd => ∃ (n1951 : Int),L_ref04_takes_l2 a0 n1700 x1807 nf n1951 = some e1904 ∧ SL ⟨wb,S,Φ,P0⟩ 91 287 [(1,.one (.d (.int .i64 a1))),(4,.one (.ptr (1,0) 0)),(6,.one (.ptr (2,0) 0)),(7,.one (.ptr (3,0) 0)),(9,.one (.d (.int .i64 n1700))),(10,.one (.ptr (190,0) 0)),(11,.one (.d (.int .i64 n1951)))] [((1,0),some (.box 66 (cTState a0))),((2,0),some (.box 108 (cTNode a2))),((3,0),some (.box 35 (cTGraph a3))),((190,0),some (.box 159 (cTTake x1807)))] ac wd) ((n1700 - 0).toNat + 1) ⟨0,hE1905,h.z⟩ (fun nf ac wd hJ => ?_)
       obtain ⟨n1951,hL1952,h⟩ := hJ
       cases nf with
       | zero => rw [L_ref04_takes_l2] at hL1952; cases hL1952
       | succ nf =>
        rw [L_ref04_takes_l2] at hL1952
        refine wp_seq ?_
        refine qs 290 [] [1,4,6,7,9,10,11,68] [(1,0),(2,0),(3,0),(190,0)] h fun ac wd h => ?_
        rcases i2 hL1952 with ⟨hb1954,hL1952⟩ | ⟨hb1954,hL1952⟩
        ·
         refine kT h ?_
         refine wp_skip ?_
         change Code.wp Try.prog _ _ _ _
         refine wp_seq ?_
         refine wp_block ?_
         obtain ⟨e1969,hE1970,hL1952⟩ := Option.bind_eq_some_iff.1 hL1952
         refine r_seqJ (fun ac wd => ∃ (b1968 : Bool),b1968 = e1969 ∧ SL ⟨wb,S,Φ,P0⟩ 91 310 [(1,.one (.d (.int .i64 a1))),(4,.one (.ptr (1,0) 0)),(6,.one (.ptr (2,0) 0)),(7,.one (.ptr (3,0) 0)),(9,.one (.d (.int .i64 n1700))),(10,.one (.ptr (190,0) 0)),(11,.one (.d (.int .i64 n1951))),(90,.one (.d (.bool b1968)))] [((1,0),some (.box 66 (cTState a0))),((2,0),some (.box 108 (cTNode a2))),((3,0),some (.box 35 (cTGraph a3))),((190,0),some (.box 159 (cTTake x1807)))] ac wd) ?_ ?_
         ·
          obtain ⟨x1971,hx1972a,hx1972b,hx1972c,hx1972d,hE1970⟩ := aB hE1970
          rcases i2e hE1970 with ⟨hb1973,hE1970⟩ | ⟨hb1973,hE1970⟩
          ·
           refine deg [] [none,none,none,none,none,none,none,none,none,none,some (some 80,true),some (some 80,true),some (some 80,true),some (some 80,true),some (some 80,true),some (some 80,true),some (some 80,true),some (some 80,true),some (some 80,true),none] [1,4,6,7,9,10,11,90] [(1,0),(2,0),(3,0),(190,0)] h fun ac wd h => ?_
           injection hE1970 with hE1970; subst hE1970
           exact ⟨decide (x1971.Letter = x1807.Letter),rfl,h.z⟩
          ·
           refine deg [] [none,none,none,none,none,none,none,none,none,none,some (some 80,true),some (some 80,true),some (some 80,true),some (some 80,true),some (some 80,true),some (some 80,true),some (some 80,true),some (some 80,true),some (some 80,true),none] [1,4,6,7,9,10,11,90] [(1,0),(2,0),(3,0),(190,0)] h fun ac wd h => ?_
           injection hE1970 with hE1970; subst hE1970
           exact ⟨false,rfl,h.z⟩
         ·
          rintro ac wd ⟨b1968,rfl,h⟩
          (try dsimp only at hL1952)
          rcases i2b hL1952 with ⟨hb1974,hL1952⟩ | ⟨hb1974,hL1952⟩
          ·
           refine kT h ?_
           refine qs 311 [] [8] [] h fun ac wd h => ?_
           refine wp_ret ?_
           injection hL1952 with hL1952
           subst hL1952
           (try dsimp only at hE1804)
           injection hE1804 with hE1804
           subst hE1804
           (try dsimp only at hL1701)
           injection hL1701 with hL1701
           subst hL1701
           exact rE h [.tmp 8]
          ·
           refine kF h ?_
           refine wp_skip ?_
           change Code.wp Try.prog _ _ _ _
           refine qe [] [1,4,6,7,9,10,11] [(1,0),(2,0),(3,0),(190,0)] h fun ac wd h => ?_
           exact ⟨nf,Nat.lt_succ_self nf,(IntKind.wrap .i64 (n1951 + 1)),hL1952,h.z⟩
        ·
         refine kF h ?_
         refine wp_exit ?_
         injection hL1952 with hL1952; subst hL1952
         exact ⟨rfl,h.z⟩
      ·
       rintro ac wd ⟨rfl,h⟩
       (try dsimp only at hE1804)
       injection hE1804 with hE1804; subst hE1804
       exact ⟨rfl,h.z⟩
   ·
    rintro ac wd ⟨rfl,h⟩
    (try dsimp only at hL1701)
    refine qe [] [1,4,6,7,9] [(1,0),(2,0),(3,0)] h fun ac wd h => ?_
    exact ⟨nf,Nat.lt_succ_self nf,(IntKind.wrap .i64 (n1700 + 1)),hL1701,h.z⟩
  ·
   refine kF h ?_
   refine wp_exit ?_
   change Code.wp Try.prog _ _ _ _
   refine qs 186 [] [8] [] h fun ac wd h => ?_
   refine wp_ret ?_
   injection hL1701 with hL1701
   subst hL1701
   exact rE h [.tmp 8]

end Go.Proofs.Ytifcbecpemaieaa
