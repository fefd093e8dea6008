/- Functions as typed ones,and that the program's functions answer as these do. No condition. -/
import Derived.Test.YtabbejabdkkaiaaGb1
import Derived.Test.YtabbejabdkkaiaaGd
set_option linter.unusedSimpArgs false
set_option linter.unusedVariables false
set_option maxRecDepth 20000
set_option maxHeartbeats 4000000
namespace Go.Proofs.Ytabbejabdkkaiaa
open Go.RowKit

theorem L_ref04_takes_ok {a0 : TState} {a1 : Int} {a2 : TNode} {a3 : TGraph} {r : Bool} (hD : L_ref04_takes a0 a1 a2 a3 = some r) :
  CallH Try.prog 53 [.agg (cTState a0),.one (.d (.int .i64 a1)),.agg (cTNode a2),.agg (cTGraph a3)] []
   (.one (.d (.bool r))) [] := by
 unfold L_ref04_takes at hD
 refine rc Try.func53 rfl Try.ntmps53 fun S Φ P0 wb ac h => ?_
 refine qs 5 [] [1,4,6,7] [(1,0),(2,0),(3,0)] h fun ac wd h => ?_
 refine wp_seq ?_
 refine qs 6 [] [1,4,6,7,9] [(1,0),(2,0),(3,0)] h fun ac wd h => ?_
 refine wp_block ?_
 refine r_while (fun nf ac wd => ∃ (n1700 : Int),L_ref04_takes_l1 a0 a1 a2 a3 nf n1700 = some r ∧ SL ⟨wb,S,Φ,P0⟩ 91 180 [(1,.one (.d (.int .i64 a1))),(4,.one (.ptr (1,0) 0)),(6,.one (.ptr (2,0) 0)),(7,.one (.ptr (3,0) 0)),(9,.one (.d (.int .i64 n1700)))] [((1,0),some (.box 90 (cTState a0))),((2,0),some (.box 132 (cTNode a2))),((3,0),some (.box 32 (cTGraph a3)))] ac wd) (((a0.Takes.length : Int) - 0).toNat + 1) ⟨0,hD,h.z⟩ (fun nf ac wd hJ => ?_)
 obtain ⟨n1700,hL1701,h⟩ := hJ
 cases nf with
 | zero => rw [L_ref04_takes_l1] at hL1701; cases hL1701
 | succ nf =>
  rw [L_ref04_takes_l1] at hL1701
  refine wp_seq ?_
  refine qs 185 [] [1,4,6,7,9,16] [(1,0),(2,0),(3,0)] h fun ac wd h => ?_
  rcases i2 hL1701 with ⟨hb1703,hL1701⟩ | ⟨hb1703,hL1701⟩
  ·
   refine kT h ?_
   refine wp_skip ?_
   change Code.wp Try.prog _ _ _ _
   obtain ⟨e1803,hE1804,hL1701⟩ := Option.bind_eq_some_iff.1 hL1701
   refine r_seqJ (fun ac wd => (.inl ()) = e1803 ∧ SL ⟨wb,S,Φ,P0⟩ 91 290 [(1,.one (.d (.int .i64 a1))),(4,.one (.ptr (1,0) 0)),(6,.one (.ptr (2,0) 0)),(7,.one (.ptr (3,0) 0)),(9,.one (.d (.int .i64 n1700)))] [((1,0),some (.box 90 (cTState a0))),((2,0),some (.box 132 (cTNode a2))),((3,0),some (.box 32 (cTGraph a3)))] ac wd) ?_ ?_
   ·
    refine wp_block ?_
    obtain ⟨x1807,hx1808a,hx1808b,hx1808c,hx1808d,hE1804⟩ := aB hE1804
    refine qs 192 [] [1,4,6,7,9,10] [(1,0),(2,0),(3,0),(190,0)] h fun ac wd h => ?_
    refine wp_seq ?_
    obtain ⟨e1821,hE1822,hE1804⟩ := Option.bind_eq_some_iff.1 hE1804
    refine r_seqJ (fun ac wd => ∃ (b1820 : Bool),b1820 = e1821 ∧ SL ⟨wb,S,Φ,P0⟩ 91 234 [(1,.one (.d (.int .i64 a1))),(4,.one (.ptr (1,0) 0)),(6,.one (.ptr (2,0) 0)),(7,.one (.ptr (3,0) 0)),(9,.one (.d (.int .i64 n1700))),(10,.one (.ptr (190,0) 0)),(65,.one (.d (.bool b1820)))] [((1,0),some (.box 90 (cTState a0))),((2,0),some (.box 132 (cTNode a2))),((3,0),some (.box 32 (cTGraph a3))),((190,0),some (.box 191 (cTTake x1807)))] ac wd) ?_ ?_
    ·
     obtain ⟨r1823,hc1824,hE1822⟩ := oB hE1822
     rcases i2 hE1822 with ⟨hb1825,hE1822⟩ | ⟨hb1825,hE1822⟩
     ·
      have hc1824k := L_ref03_Find_ok hc1824
      refine deg [factE 196 hc1824k] [none,none,none,none,none,none,none,some (some 30,false),some (some 30,false),some (some 30,false),none,none,some (some 35,false),some (some 35,false),some (some 35,false),none,none,some (some 40,false),some (some 40,false),some (some 40,false),none,none,some (some 45,false),some (some 45,false),some (some 45,false),some (some 45,false),some (some 45,false),some (some 45,false),none,none,some (some 53,false),some (some 53,false),some (some 53,false),some (some 53,false),some (some 53,false),some (some 53,false),some (some 53,false),some (some 53,false),some (some 53,false),some (some 53,false),some (some 53,false),none] [1,4,6,7,9,10,65] [(1,0),(2,0),(3,0),(190,0)] h fun ac wd h => ?_
      injection hE1822 with hE1822; subst hE1822
      exact ⟨true,rfl,h.z⟩
     ·
      rcases i2 hE1822 with ⟨hb1826,hE1822⟩ | ⟨hb1826,hE1822⟩
      ·
       have hc1824k := L_ref03_Find_ok hc1824
       refine deg [factE 196 hc1824k] [none,none,none,none,none,none,none,some (some 30,false),some (some 30,false),some (some 30,false),none,none,some (some 35,false),some (some 35,false),some (some 35,false),none,none,some (some 40,false),some (some 40,false),some (some 40,false),none,none,some (some 45,false),some (some 45,false),some (some 45,false),some (some 45,false),some (some 45,false),some (some 45,false),none,none,some (some 53,false),some (some 53,false),some (some 53,false),some (some 53,false),some (some 53,false),some (some 53,false),some (some 53,false),some (some 53,false),some (some 53,false),some (some 53,false),some (some 53,false),none] [1,4,6,7,9,10,65] [(1,0),(2,0),(3,0),(190,0)] h fun ac wd h => ?_
       injection hE1822 with hE1822; subst hE1822
       exact ⟨true,rfl,h.z⟩
      ·
       rcases i2 hE1822 with ⟨hb1827,hE1822⟩ | ⟨hb1827,hE1822⟩
       ·
        have hc1824k := L_ref03_Find_ok hc1824
        refine deg [factE 196 hc1824k] [none,none,none,none,none,none,none,some (some 30,false),some (some 30,false),some (some 30,false),none,none,some (some 35,false),some (some 35,false),some (some 35,false),none,none,some (some 40,false),some (some 40,false),some (some 40,false),none,none,some (some 45,false),some (some 45,false),some (some 45,false),some (some 45,false),some (some 45,false),some (some 45,false),none,none,some (some 53,false),some (some 53,false),some (some 53,false),some (some 53,false),some (some 53,false),some (some 53,false),some (some 53,false),some (some 53,false),some (some 53,false),some (some 53,false),some (some 53,false),none] [1,4,6,7,9,10,65] [(1,0),(2,0),(3,0),(190,0)] h fun ac wd h => ?_
        injection hE1822 with hE1822; subst hE1822
        exact ⟨true,rfl,h.z⟩
       ·
        rcases i2 hE1822 with ⟨hb1828,hE1822⟩ | ⟨hb1828,hE1822⟩
        ·
         have hc1824k := L_ref03_Find_ok hc1824
         refine deg [factE 196 hc1824k] [none,none,none,none,none,none,none,some (some 30,false),some (some 30,false),some (some 30,false),none,none,some (some 35,false),some (some 35,false),some (some 35,false),none,none,some (some 40,false),some (some 40,false),some (some 40,false),none,none,some (some 45,false),some (some 45,false),some (some 45,false),some (some 45,false),some (some 45,false),some (some 45,false),none,none,some (some 53,false),some (some 53,false),some (some 53,false),some (some 53,false),some (some 53,false),some (some 53,false),some (some 53,false),some (some 53,false),some (some 53,false),some (some 53,false),some (some 53,false),none] [1,4,6,7,9,10,65] [(1,0),(2,0),(3,0),(190,0)] h fun ac wd h => ?_
         injection hE1822 with hE1822; subst hE1822
         exact ⟨true,rfl,h.z⟩
        ·
         rcases i2 hE1822 with ⟨hb1829,hE1822⟩ | ⟨hb1829,hE1822⟩
         ·
          have hc1824k := L_ref03_Find_ok hc1824
          refine deg [factE 196 hc1824k] [none,none,none,none,none,none,none,some (some 30,false),some (some 30,false),some (some 30,false),none,none,some (some 35,false),some (some 35,false),some (some 35,false),none,none,some (some 40,false),some (some 40,false),some (some 40,false),none,none,some (some 45,false),some (some 45,false),some (some 45,false),some (some 45,false),some (some 45,false),some (some 45,false),none,none,some (some 53,false),some (some 53,false),some (some 53,false),some (some 53,false),some (some 53,false),some (some 53,false),some (some 53,false),some (some 53,false),some (some 53,false),some (some 53,false),some (some 53,false),none] [1,4,6,7,9,10,65] [(1,0),(2,0),(3,0),(190,0)] h fun ac wd h => ?_
          injection hE1822 with hE1822; subst hE1822
          exact ⟨true,rfl,h.z⟩
         ·
          obtain ⟨x1830,hx1831a,hx1831b,hx1831c,hx1831d,hE1822⟩ := aB hE1822
          obtain ⟨r1832,hc1833,hE1822⟩ := oB hE1822
          have hc1824k := L_ref03_Find_ok hc1824
          have hc1833k := L_ref04_kept_ok hc1833
          refine deg [factE 196 hc1824k,factE 231 hc1833k] [none,none,none,none,none,none,none,some (some 30,false),some (some 30,false),some (some 30,false),none,none,some (some 35,false),some (some 35,false),some (some 35,false),none,none,some (some 40,false),some (some 40,false),some (some 40,false),none,none,some (some 45,false),some (some 45,false),some (some 45,false),some (some 45,false),some (some 45,false),some (some 45,false),none,none,some (some 53,false),some (some 53,false),some (some 53,false),some (some 53,false),some (some 53,false),some (some 53,false),some (some 53,false),some (some 53,false),some (some 53,false),some (some 53,false),some (some 53,false),none] [1,4,6,7,9,10,65] [(1,0),(2,0),(3,0),(190,0)] h fun ac wd h => ?_
          injection hE1822 with hE1822; subst hE1822
          exact ⟨!(r1832),rfl,h.z⟩
    ·
     rintro ac wd ⟨b1820,rfl,h⟩
     (try dsimp only at hE1804)
     rcases i2b hE1804 with ⟨hb1835,hE1804⟩ | ⟨hb1835,hE1804⟩
     ·
      refine kT h ?_
      refine qs 235 [] [8] [] h fun ac wd h => ?_
      refine wp_ret ?_
      injection hE1804 with hE1804
      subst hE1804
      (try dsimp only at hL1701)
      injection hL1701 with hL1701
      subst hL1701
      exact rE h [.tmp 8]
     ·
      refine kF h ?_
      refine wp_skip ?_
      change Code.wp Try.prog _ _ _ _
      refine qs 235 [] [1,4,6,7,9,10,11] [(1,0),(2,0),(3,0),(190,0)] h fun ac wd h => ?_
      obtain ⟨e1904,hE1905,hE1804⟩ := Option.bind_eq_some_iff.1 hE1804
      refine r_meetQ (fun ac wd => (.inl ()) = e1904 ∧ SL ⟨wb,S,Φ,P0⟩ 91 290 [(1,.one (.d (.int .i64 a1))),(4,.one (.ptr (1,0) 0)),(6,.one (.ptr (2,0) 0)),(7,.one (.ptr (3,0) 0)),(9,.one (.d (.int .i64 n1700)))] [((1,0),some (.box 90 (cTState a0))),((2,0),some (.box 132 (cTNode a2))),((3,0),some (.box 32 (cTGraph a3)))] ac wd) ?_ ?_
      ·
       refine wp_block ?_
       refine r_while (fun nf ac wd => ∃ (n1951 : Int),L_ref04_takes_l2 a0 n1700 x1807 nf n1951 = some e1904 ∧ SL ⟨wb,S,Φ,P0⟩ 91 287 [(1,.one (.d (.int .i64 a1))),(4,.one (.ptr (1,0) 0)),(6,.one (.ptr (2,0) 0)),(7,.one (.ptr (3,0) 0)),(9,.one (.d (.int .i64 n1700))),(10,.one (.ptr (190,0) 0)),(11,.one (.d (.int .i64 n1951)))] [((1,0),some (.box 90 (cTState a0))),((2,0),some (.box 132 (cTNode a2))),((3,0),some (.box 32 (cTGraph a3))),((190,0),some (.box 191 (cTTake x1807)))] ac wd) ((n1700 - 0).toNat + 1) ⟨0,hE1905,h.z⟩ (fun nf ac wd hJ => ?_)
       obtain ⟨n1951,hL1952,h⟩ := hJ
       cases nf with
       | zero => rw [L_ref04_takes_l2] at hL1952; cases hL1952
       | succ nf =>
        rw [L_ref04_takes_l2] at hL1952
        refine wp_seq ?_
        refine qs 290 [] [1,4,6,7,9,10,11,68] [(1,0),(2,0),(3,0),(190,0)] h fun ac wd h => ?_
        rcases i2 hL1952 with ⟨hb1954,hL1952⟩ | ⟨hb1954,hL1952⟩
        ·
         refine kT h ?_
         refine wp_skip ?_
         change Code.wp Try.prog _ _ _ _
         refine wp_seq ?_
         refine wp_block ?_
         obtain ⟨e1969,hE1970,hL1952⟩ := Option.bind_eq_some_iff.1 hL1952
         refine r_seqJ (fun ac wd => ∃ (b1968 : Bool),b1968 = e1969 ∧ SL ⟨wb,S,Φ,P0⟩ 91 310 [(1,.one (.d (.int .i64 a1))),(4,.one (.ptr (1,0) 0)),(6,.one (.ptr (2,0) 0)),(7,.one (.ptr (3,0) 0)),(9,.one (.d (.int .i64 n1700))),(10,.one (.ptr (190,0) 0)),(11,.one (.d (.int .i64 n1951))),(90,.one (.d (.bool b1968)))] [((1,0),some (.box 90 (cTState a0))),((2,0),some (.box 132 (cTNode a2))),((3,0),some (.box 32 (cTGraph a3))),((190,0),some (.box 191 (cTTake x1807)))] ac wd) ?_ ?_
         ·
          obtain ⟨x1971,hx1972a,hx1972b,hx1972c,hx1972d,hE1970⟩ := aB hE1970
          rcases i2e hE1970 with ⟨hb1973,hE1970⟩ | ⟨hb1973,hE1970⟩
          ·
           refine deg [] [none,none,none,none,none,none,none,none,none,none,some (some 80,true),some (some 80,true),some (some 80,true),some (some 80,true),some (some 80,true),some (some 80,true),some (some 80,true),some (some 80,true),some (some 80,true),none] [1,4,6,7,9,10,11,90] [(1,0),(2,0),(3,0),(190,0)] h fun ac wd h => ?_
           injection hE1970 with hE1970; subst hE1970
           exact ⟨decide (x1971.Letter = x1807.Letter),rfl,h.z⟩
          ·
           refine deg [] [none,none,none,none,none,none,none,none,none,none,some (some 80,true),some (some 80,true),some (some 80,true),some (some 80,true),some (some 80,true),some (some 80,true),some (some 80,true),some (some 80,true),some (some 80,true),none] [1,4,6,7,9,10,11,90] [(1,0),(2,0),(3,0),(190,0)] h fun ac wd h => ?_
           injection hE1970 with hE1970; subst hE1970
           exact ⟨false,rfl,h.z⟩
         ·
          rintro ac wd ⟨b1968,rfl,h⟩
          (try dsimp only at hL1952)
          rcases i2b hL1952 with ⟨hb1974,hL1952⟩ | ⟨hb1974,hL1952⟩
          ·
           refine kT h ?_
           refine qs 311 [] [8] [] h fun ac wd h => ?_
           refine wp_ret ?_
           injection hL1952 with hL1952
           subst hL1952
           (try dsimp only at hE1804)
           injection hE1804 with hE1804
           subst hE1804
           (try dsimp only at hL1701)
           injection hL1701 with hL1701
           subst hL1701
           exact rE h [.tmp 8]
          ·
           refine kF h ?_
           refine wp_skip ?_
           change Code.wp Try.prog _ _ _ _
           refine qe [] [1,4,6,7,9,10,11] [(1,0),(2,0),(3,0),(190,0)] h fun ac wd h => ?_
           exact ⟨nf,Nat.lt_succ_self nf,(IntKind.wrap .i64 (n1951 + 1)),hL1952,h.z⟩
        ·
         refine kF h ?_
         refine wp_exit ?_
         injection hL1952 with hL1952; subst hL1952
         exact ⟨rfl,h.z⟩
      ·
       rintro ac wd ⟨rfl,h⟩
       (try dsimp only at hE1804)
       injection hE1804 with hE1804; subst hE1804
       exact ⟨rfl,h.z⟩
   ·
    rintro ac wd ⟨rfl,h⟩
    (try dsimp only at hL1701)
    refine qe [] [1,4,6,7,9] [(1,0),(2,0),(3,0)] h fun ac wd h => ?_
    exact ⟨nf,Nat.lt_succ_self nf,(IntKind.wrap .i64 (n1700 + 1)),hL1701,h.z⟩
  ·
   refine kF h ?_
   refine wp_exit ?_
   change Code.wp Try.prog _ _ _ _
   refine qs 186 [] [8] [] h fun ac wd h => ?_
   refine wp_ret ?_
   injection hL1701 with hL1701
   subst hL1701
   exact rE h [.tmp 8]

theorem L_ref04_Right_ok {a0 : (List TNode)} {a1 : TGraph} {r : Bool} (hD : L_ref04_Right a0 a1 = some r) :
  CallH Try.prog 14 [.one (.d (.sl (List.map eTNode a0))),.agg (cTGraph a1)] []
   (.one (.d (.bool r))) [] := by
 unfold L_ref04_Right at hD
 refine rc Try.func14 rfl Try.ntmps14 fun S Φ P0 wb ac h => ?_
 refine qs 3 [] [0,3] [(1,0)] h fun ac wd h => ?_
 refine wp_seq ?_
 obtain ⟨e2345,hE2346,hD⟩ := Option.bind_eq_some_iff.1 hD
 refine r_seqJ (fun ac wd => ∃ (b2344 : Bool),b2344 = e2345 ∧ SL ⟨wb,S,Φ,P0⟩ 101 13 [(0,.one (.d (.sl (List.map eTNode a0)))),(3,.one (.ptr (1,0) 0)),(18,.one (.d (.bool b2344)))] [((1,0),some (.box 32 (cTGraph a1)))] ac wd) ?_ ?_
 ·
  obtain ⟨r2347,hc2348,hE2346⟩ := oB hE2346
  rcases i2b hE2346 with ⟨hb2349,hE2346⟩ | ⟨hb2349,hE2346⟩
  ·
   have hc2348k := L_ref03_Right_ok hc2348
   refine qeg [factE 4 hc2348k] [none,none,none,none,some (some 12,false),some (some 12,false),some (some 12,false),some (some 12,false),some (some 12,false),none] [0,3,18] [(1,0)] h fun ac wd h => ?_
   injection hE2346 with hE2346; subst hE2346
   exact ⟨!(decide ((a0.length : Int) = a1.N)),rfl,h.z⟩
  ·
   have hc2348k := L_ref03_Right_ok hc2348
   refine qeg [factE 4 hc2348k] [none,none,none,none,some (some 12,false),some (some 12,false),some (some 12,false),some (some 12,false),some (some 12,false),none] [0,3,18] [(1,0)] h fun ac wd h => ?_
   injection hE2346 with hE2346; subst hE2346
   exact ⟨true,rfl,h.z⟩
 ·
  rintro ac wd ⟨b2344,rfl,h⟩
  (try dsimp only at hD)
  rcases i2b hD with ⟨hb2351,hD⟩ | ⟨hb2351,hD⟩
  ·
   refine kT h ?_
   refine qs 14 [] [4] [] h fun ac wd h => ?_
   refine wp_ret ?_
   injection hD with hD
   subst hD
   exact rE h [.tmp 4]
  ·
   refine kF h ?_
   refine wp_skip ?_
   change Code.wp Try.prog _ _ _ _
   refine wp_seq ?_
   refine qs 14 [] [0,3,5] [(1,0)] h fun ac wd h => ?_
   refine wp_block ?_
   refine r_while (fun nf ac wd => ∃ (n4290 : Int),L_ref04_Right_l1 a0 a1 nf n4290 = some r ∧ SL ⟨wb,S,Φ,P0⟩ 101 296 [(0,.one (.d (.sl (List.map eTNode a0)))),(3,.one (.ptr (1,0) 0)),(5,.one (.d (.int .i64 n4290)))] [((1,0),some (.box 32 (cTGraph a1)))] ac wd) (((a0.length : Int) - 0).toNat + 1) ⟨0,hD,h.z⟩ (fun nf ac wd hJ => ?_)
   obtain ⟨n4290,hL4291,h⟩ := hJ
   cases nf with
   | zero => rw [L_ref04_Right_l1] at hL4291; cases hL4291
   | succ nf =>
    rw [L_ref04_Right_l1] at hL4291
    refine wp_seq ?_
    refine qs 300 [] [0,3,5,22] [(1,0)] h fun ac wd h => ?_
    rcases i2 hL4291 with ⟨hb4293,hL4291⟩ | ⟨hb4293,hL4291⟩
    ·
     refine kT h ?_
     refine wp_skip ?_
     change Code.wp Try.prog _ _ _ _
     obtain ⟨e4485,hE4486,hL4291⟩ := Option.bind_eq_some_iff.1 hL4291
     refine r_seqJ (fun ac wd => (.inl ()) = e4485 ∧ SL ⟨wb,S,Φ,P0⟩ 101 434 [(0,.one (.d (.sl (List.map eTNode a0)))),(3,.one (.ptr (1,0) 0)),(5,.one (.d (.int .i64 n4290)))] [((1,0),some (.box 32 (cTGraph a1)))] ac wd) ?_ ?_
     ·
      refine wp_block ?_
      obtain ⟨x4489,hx4490a,hx4490b,hx4490c,hx4490d,hE4486⟩ := aB hE4486
      refine qs 307 [] [0,3,5,6] [(1,0)] h fun ac wd h => ?_
      refine wp_seq ?_
      obtain ⟨e4495,hE4496,hE4486⟩ := Option.bind_eq_some_iff.1 hE4486
      refine r_seqJ (fun ac wd => ∃ (b4494 : Bool),b4494 = e4495 ∧ SL ⟨wb,S,Φ,P0⟩ 101 330 [(0,.one (.d (.sl (List.map eTNode a0)))),(3,.one (.ptr (1,0) 0)),(5,.one (.d (.int .i64 n4290))),(6,.one (.d (.int .i64 (x4489.States.length : Int)))),(53,.one (.d (.bool b4494)))] [((1,0),some (.box 32 (cTGraph a1)))] ac wd) ?_ ?_
      ·
       rcases i2 hE4496 with ⟨hb4497,hE4496⟩ | ⟨hb4497,hE4496⟩
       ·
        refine qeg [] [none,none,none,some (some 33,false),some (some 33,false),none,none,some (some 37,false),some (some 37,false),some (some 37,false),some (some 37,false),some (some 37,false),some (some 37,false),none,none,some (some 45,false),some (some 45,false),some (some 45,false),some (some 45,false),some (some 45,false),some (some 45,false),some (some 45,false),none] [0,3,5,6,53] [(1,0)] h fun ac wd h => ?_
        injection hE4496 with hE4496; subst hE4496
        exact ⟨true,rfl,h.z⟩
       ·
        rcases i2 hE4496 with ⟨hb4498,hE4496⟩ | ⟨hb4498,hE4496⟩
        ·
         refine qeg [] [none,none,none,some (some 33,false),some (some 33,false),none,none,some (some 37,false),some (some 37,false),some (some 37,false),some (some 37,false),some (some 37,false),some (some 37,false),none,none,some (some 45,false),some (some 45,false),some (some 45,false),some (some 45,false),some (some 45,false),some (some 45,false),some (some 45,false),none] [0,3,5,6,53] [(1,0)] h fun ac wd h => ?_
         injection hE4496 with hE4496; subst hE4496
         exact ⟨true,rfl,h.z⟩
        ·
         rcases i2 hE4496 with ⟨hb4499,hE4496⟩ | ⟨hb4499,hE4496⟩
         ·
          refine qeg [] [none,none,none,some (some 33,false),some (some 33,false),none,none,some (some 37,false),some (some 37,false),some (some 37,false),some (some 37,false),some (some 37,false),some (some 37,false),none,none,some (some 45,false),some (some 45,false),some (some 45,false),some (some 45,false),some (some 45,false),some (some 45,false),some (some 45,false),none] [0,3,5,6,53] [(1,0)] h fun ac wd h => ?_
          injection hE4496 with hE4496; subst hE4496
          exact ⟨true,rfl,h.z⟩
         ·
          refine qeg [] [none,none,none,some (some 33,false),some (some 33,false),none,none,some (some 37,false),some (some 37,false),some (some 37,false),some (some 37,false),some (some 37,false),some (some 37,false),none,none,some (some 45,false),some (some 45,false),some (some 45,false),some (some 45,false),some (some 45,false),some (some 45,false),some (some 45,false),none] [0,3,5,6,53] [(1,0)] h fun ac wd h => ?_
          injection hE4496 with hE4496; subst hE4496
          exact ⟨decide (x4489.Start ≥ (x4489.States.length : Int)),rfl,h.z⟩
      ·
       rintro ac wd ⟨b4494,rfl,h⟩
       (try dsimp only at hE4486)
       rcases i2b hE4486 with ⟨hb4501,hE4486⟩ | ⟨hb4501,hE4486⟩
       ·
        refine kT h ?_
        refine qs 331 [] [4] [] h fun ac wd h => ?_
        refine wp_ret ?_
        injection hE4486 with hE4486
        subst hE4486
        (try dsimp only at hL4291)
        injection hL4291 with hL4291
        subst hL4291
        exact rE h [.tmp 4]
       ·
        refine kF h ?_
        refine wp_skip ?_
        change Code.wp Try.prog _ _ _ _
        refine qs 331 [] [0,3,5,6,7] [(1,0)] h fun ac wd h => ?_
        obtain ⟨e4678,hE4679,hE4486⟩ := Option.bind_eq_some_iff.1 hE4486
        refine r_meetQ (fun ac wd => (.inl ()) = e4678 ∧ SL ⟨wb,S,Φ,P0⟩ 101 434 [(0,.one (.d (.sl (List.map eTNode a0)))),(3,.one (.ptr (1,0) 0)),(5,.one (.d (.int .i64 n4290)))] [((1,0),some (.box 32 (cTGraph a1)))] ac wd) ?_ ?_
        ·
         refine wp_block ?_
         refine r_while (fun nf ac wd => ∃ (n4797 : Int),L_ref04_Right_l2 a1 n4290 x4489 nf n4797 = some e4678 ∧ SL ⟨wb,S,Φ,P0⟩ 101 431 [(0,.one (.d (.sl (List.map eTNode a0)))),(3,.one (.ptr (1,0) 0)),(5,.one (.d (.int .i64 n4290))),(6,.one (.d (.int .i64 (x4489.States.length : Int)))),(7,.one (.d (.int .i64 n4797)))] [((1,0),some (.box 32 (cTGraph a1)))] ac wd) (((x4489.States.length : Int) - 0).toNat + 1) ⟨0,hE4679,h.z⟩ (fun nf ac wd hJ => ?_)
         obtain ⟨n4797,hL4798,h⟩ := hJ
         cases nf with
         | zero => rw [L_ref04_Right_l2] at hL4798; cases hL4798
         | succ nf =>
          rw [L_ref04_Right_l2] at hL4798
          refine wp_seq ?_
          refine qs 434 [] [0,3,5,6,7,56] [(1,0)] h fun ac wd h => ?_
          rcases i2 hL4798 with ⟨hb4800,hL4798⟩ | ⟨hb4800,hL4798⟩
          ·
           refine kT h ?_
           refine wp_skip ?_
           change Code.wp Try.prog _ _ _ _
           refine wp_seq ?_
           refine wp_block ?_
           obtain ⟨x4831,hx4832a,hx4832b,hx4832c,hx4832d,hL4798⟩ := aB hL4798
           refine qs 444 [] [0,3,5,6,7,8] [(1,0),(442,0)] h fun ac wd h => ?_
           obtain ⟨e4844,hE4845,hL4798⟩ := Option.bind_eq_some_iff.1 hL4798
           refine r_seqJ (fun ac wd => ∃ (b4843 : Bool),b4843 = e4844 ∧ SL ⟨wb,S,Φ,P0⟩ 101 478 [(0,.one (.d (.sl (List.map eTNode a0)))),(3,.one (.ptr (1,0) 0)),(5,.one (.d (.int .i64 n4290))),(6,.one (.d (.int .i64 (x4489.States.length : Int)))),(7,.one (.d (.int .i64 n4797))),(100,.one (.d (.bool b4843)))] [((1,0),some (.box 32 (cTGraph a1)))] ac wd) ?_ ?_
           ·
            rcases i2 hE4845 with ⟨hb4846,hE4845⟩ | ⟨hb4846,hE4845⟩
            ·
             refine deg [] [none,none,none,none,some (some 70,false),some (some 70,false),some (some 70,false),none,none,some (some 75,false),some (some 75,false),some (some 75,false),some (some 75,false),some (some 75,false),none,none,some (some 82,false),some (some 82,false),some (some 82,false),some (some 82,false),some (some 82,false),some (some 82,false),none,none,some (some 90,false),some (some 90,false),some (some 90,false),some (some 90,false),some (some 90,false),some (some 90,false),some (some 90,false),some (some 90,false),some (some 90,false),none] [0,3,5,6,7,100] [(1,0)] h fun ac wd h => ?_
             injection hE4845 with hE4845; subst hE4845
             exact ⟨true,rfl,h.z⟩
            ·
             rcases i2 hE4845 with ⟨hb4847,hE4845⟩ | ⟨hb4847,hE4845⟩
             ·
              refine deg [] [none,none,none,none,some (some 70,false),some (some 70,false),some (some 70,false),none,none,some (some 75,false),some (some 75,false),some (some 75,false),some (some 75,false),some (some 75,false),none,none,some (some 82,false),some (some 82,false),some (some 82,false),some (some 82,false),some (some 82,false),some (some 82,false),none,none,some (some 90,false),some (some 90,false),some (some 90,false),some (some 90,false),some (some 90,false),some (some 90,false),some (some 90,false),some (some 90,false),some (some 90,false),none] [0,3,5,6,7,100] [(1,0)] h fun ac wd h => ?_
              injection hE4845 with hE4845; subst hE4845
              exact ⟨true,rfl,h.z⟩
             ·
              obtain ⟨r4848,hc4849,hE4845⟩ := oB hE4845
              rcases i2b hE4845 with ⟨hb4850,hE4845⟩ | ⟨hb4850,hE4845⟩
              ·
               obtain ⟨r4851,hc4852,hE4845⟩ := oB hE4845
               rcases i2b hE4845 with ⟨hb4853,hE4845⟩ | ⟨hb4853,hE4845⟩
               ·
                obtain ⟨r4854,hc4855,hE4845⟩ := oB hE4845
                have hc4849k := L_ref04_waits_ok hc4849
                have hc4852k := L_ref04_picks_ok hc4852
                have hc4855k := L_ref04_takes_ok hc4855
                refine deg [factE 456 hc4849k,factE 464 hc4852k,factE 475 hc4855k] [none,none,none,none,some (some 70,false),some (some 70,false),some (some 70,false),none,none,some (some 75,false),some (some 75,false),some (some 75,false),some (some 75,false),some (some 75,false),none,none,some (some 82,false),some (some 82,false),some (some 82,false),some (some 82,false),some (some 82,false),some (some 82,false),none,none,some (some 90,false),some (some 90,false),some (some 90,false),some (some 90,false),some (some 90,false),some (some 90,false),some (some 90,false),some (some 90,false),some (some 90,false),none] [0,3,5,6,7,100] [(1,0)] h fun ac wd h => ?_
                injection hE4845 with hE4845; subst hE4845
                exact ⟨!(r4854),rfl,h.z⟩
               ·
                have hc4849k := L_ref04_waits_ok hc4849
                have hc4852k := L_ref04_picks_ok hc4852
                refine deg [factE 456 hc4849k,factE 464 hc4852k] [none,none,none,none,some (some 70,false),some (some 70,false),some (some 70,false),none,none,some (some 75,false),some (some 75,false),some (some 75,false),some (some 75,false),some (some 75,false),none,none,some (some 82,false),some (some 82,false),some (some 82,false),some (some 82,false),some (some 82,false),some (some 82,false),none,none,some (some 90,false),some (some 90,false),some (some 90,false),some (some 90,false),some (some 90,false),some (some 90,false),some (some 90,false),some (some 90,false),some (some 90,false),none] [0,3,5,6,7,100] [(1,0)] h fun ac wd h => ?_
                injection hE4845 with hE4845; subst hE4845
                exact ⟨true,rfl,h.z⟩
              ·
               have hc4849k := L_ref04_waits_ok hc4849
               refine deg [factE 456 hc4849k] [none,none,none,none,some (some 70,false),some (some 70,false),some (some 70,false),none,none,some (some 75,false),some (some 75,false),some (some 75,false),some (some 75,false),some (some 75,false),none,none,some (some 82,false),some (some 82,false),some (some 82,false),some (some 82,false),some (some 82,false),some (some 82,false),none,none,some (some 90,false),some (some 90,false),some (some 90,false),some (some 90,false),some (some 90,false),some (some 90,false),some (some 90,false),some (some 90,false),some (some 90,false),none] [0,3,5,6,7,100] [(1,0)] h fun ac wd h => ?_
               injection hE4845 with hE4845; subst hE4845
               exact ⟨true,rfl,h.z⟩
           ·
            rintro ac wd ⟨b4843,rfl,h⟩
            (try dsimp only at hL4798)
            rcases i2b hL4798 with ⟨hb4856,hL4798⟩ | ⟨hb4856,hL4798⟩
            ·
             refine kT h ?_
             refine qs 479 [] [4] [] h fun ac wd h => ?_
             refine wp_ret ?_
             injection hL4798 with hL4798
             subst hL4798
             (try dsimp only at hE4486)
             injection hE4486 with hE4486
             subst hE4486
             (try dsimp only at hL4291)
             injection hL4291 with hL4291
             subst hL4291
             exact rE h [.tmp 4]
            ·
             refine kF h ?_
             refine wp_skip ?_
             change Code.wp Try.prog _ _ _ _
             refine qe [] [0,3,5,6,7] [(1,0)] h fun ac wd h => ?_
             exact ⟨nf,Nat.lt_succ_self nf,(IntKind.wrap .i64 (n4797 + 1)),hL4798,h.z⟩
          ·
           refine kF h ?_
           refine wp_exit ?_
           injection hL4798 with hL4798; subst hL4798
           exact ⟨rfl,h.z⟩
        ·
         rintro ac wd ⟨rfl,h⟩
         (try dsimp only at hE4486)
         injection hE4486 with hE4486; subst hE4486
         exact ⟨rfl,h.z⟩
     ·
      rintro ac wd ⟨rfl,h⟩
      (try dsimp only at hL4291)
      refine qe [] [0,3,5] [(1,0)] h fun ac wd h => ?_
      exact ⟨nf,Nat.lt_succ_self nf,(IntKind.wrap .i64 (n4290 + 1)),hL4291,h.z⟩
    ·
     refine kF h ?_
     refine wp_exit ?_
     change Code.wp Try.prog _ _ _ _
     refine qs 301 [] [4] [] h fun ac wd h => ?_
     refine wp_ret ?_
     injection hL4291 with hL4291
     subst hL4291
     exact rE h [.tmp 4]

theorem L_ref05_Right_ok {a0 : TApp} {a1 : TConf} {r : Bool} (hD : L_ref05_Right a0 a1 = some r) :
  CallH Try.prog 35 [.agg (cTApp a0),.agg (cTConf a1)] []
   (.one (.d (.bool r))) [] := by
 unfold L_ref05_Right at hD
 refine rc Try.func35 rfl Try.ntmps35 fun S Φ P0 wb ac h => ?_
 refine qs 4 [] [2,3] [(1,0),(2,0)] h fun ac wd h => ?_
 refine wp_seq ?_
 obtain ⟨e2010,hE2011,hD⟩ := Option.bind_eq_some_iff.1 hD
 refine r_seqJ (fun ac wd => ∃ (b2009 : Bool),b2009 = e2010 ∧ SL ⟨wb,S,Φ,P0⟩ 138 39 [(2,.one (.ptr (1,0) 0)),(3,.one (.ptr (2,0) 0)),(44,.one (.d (.bool b2009)))] [((1,0),some (.box 69 (cTApp a0))),((2,0),some (.box 101 (cTConf a1)))] ac wd) ?_ ?_
 ·
  obtain ⟨r2012,hc2013,hE2011⟩ := oB hE2011
  rcases i2b hE2011 with ⟨hb2014,hE2011⟩ | ⟨hb2014,hE2011⟩
  ·
   rcases i2e hE2011 with ⟨hb2015,hE2011⟩ | ⟨hb2015,hE2011⟩
   ·
    rcases i2e hE2011 with ⟨hb2016,hE2011⟩ | ⟨hb2016,hE2011⟩
    ·
     have hc2013k := L_ref04_Right_ok hc2013
     refine qeg [factE 8 hc2013k] [none,none,none,none,none,none,none,some (some 16,false),some (some 16,false),some (some 16,false),some (some 16,false),some (some 16,false),some (some 16,false),some (some 16,false),none,none,some (some 25,false),some (some 25,false),some (some 25,false),some (some 25,false),some (some 25,false),some (some 25,false),some (some 25,false),some (some 25,false),none,none,some (some 35,false),some (some 35,false),some (some 35,false),some (some 35,false),some (some 35,false),some (some 35,false),some (some 35,false),some (some 35,false),none] [2,3,44] [(1,0),(2,0)] h fun ac wd h => ?_
     injection hE2011 with hE2011; subst hE2011
     exact ⟨!(decide ((a1.Sent.length : Int) = (a0.G.Links.length : Int))),rfl,h.z⟩
    ·
     have hc2013k := L_ref04_Right_ok hc2013
     refine qeg [factE 8 hc2013k] [none,none,none,none,none,none,none,some (some 16,false),some (some 16,false),some (some 16,false),some (some 16,false),some (some 16,false),some (some 16,false),some (some 16,false),none,none,some (some 25,false),some (some 25,false),some (some 25,false),some (some 25,false),some (some 25,false),some (some 25,false),some (some 25,false),some (some 25,false),none,none,some (some 35,false),some (some 35,false),some (some 35,false),some (some 35,false),some (some 35,false),some (some 35,false),some (some 35,false),some (some 35,false),none] [2,3,44] [(1,0),(2,0)] h fun ac wd h => ?_
     injection hE2011 with hE2011; subst hE2011
     exact ⟨true,rfl,h.z⟩
   ·
    have hc2013k := L_ref04_Right_ok hc2013
    refine qeg [factE 8 hc2013k] [none,none,none,none,none,none,none,some (some 16,false),some (some 16,false),some (some 16,false),some (some 16,false),some (some 16,false),some (some 16,false),some (some 16,false),none,none,some (some 25,false),some (some 25,false),some (some 25,false),some (some 25,false),some (some 25,false),some (some 25,false),some (some 25,false),some (some 25,false),none,none,some (some 35,false),some (some 35,false),some (some 35,false),some (some 35,false),some (some 35,false),some (some 35,false),some (some 35,false),some (some 35,false),none] [2,3,44] [(1,0),(2,0)] h fun ac wd h => ?_
    injection hE2011 with hE2011; subst hE2011
    exact ⟨true,rfl,h.z⟩
  ·
   have hc2013k := L_ref04_Right_ok hc2013
   refine qeg [factE 8 hc2013k] [none,none,none,none,none,none,none,some (some 16,false),some (some 16,false),some (some 16,false),some (some 16,false),some (some 16,false),some (some 16,false),some (some 16,false),none,none,some (some 25,false),some (some 25,false),some (some 25,false),some (some 25,false),some (some 25,false),some (some 25,false),some (some 25,false),some (some 25,false),none,none,some (some 35,false),some (some 35,false),some (some 35,false),some (some 35,false),some (some 35,false),some (some 35,false),some (some 35,false),some (some 35,false),none] [2,3,44] [(1,0),(2,0)] h fun ac wd h => ?_
   injection hE2011 with hE2011; subst hE2011
   exact ⟨true,rfl,h.z⟩
 ·
  rintro ac wd ⟨b2009,rfl,h⟩
  (try dsimp only at hD)
  rcases i2b hD with ⟨hb2018,hD⟩ | ⟨hb2018,hD⟩
  ·
   refine kT h ?_
   refine qs 40 [] [4] [] h fun ac wd h => ?_
   refine wp_ret ?_
   injection hD with hD
   subst hD
   exact rE h [.tmp 4]
  ·
   refine kF h ?_
   refine wp_skip ?_
   change Code.wp Try.prog _ _ _ _
   refine wp_seq ?_
   refine qs 40 [] [2,3,5] [(1,0),(2,0)] h fun ac wd h => ?_
   obtain ⟨e2111,hE2112,hD⟩ := Option.bind_eq_some_iff.1 hD
   refine r_meet (fun ac wd => (.inl ()) = e2111 ∧ SL ⟨wb,S,Φ,P0⟩ 138 103 [(3,.one (.ptr (2,0) 0))] [((2,0),some (.box 101 (cTConf a1)))] ac wd) ?_ ?_
   ·
    refine wp_block ?_
    refine r_while (fun nf ac wd => ∃ (n2174 : Int),L_ref05_Right_l1 a0 a1 nf n2174 = some e2111 ∧ SL ⟨wb,S,Φ,P0⟩ 138 98 [(2,.one (.ptr (1,0) 0)),(3,.one (.ptr (2,0) 0)),(5,.one (.d (.int .i64 n2174)))] [((1,0),some (.box 69 (cTApp a0))),((2,0),some (.box 101 (cTConf a1)))] ac wd) (((a1.States.length : Int) - 0).toNat + 1) ⟨0,hE2112,h.z⟩ (fun nf ac wd hJ => ?_)
    obtain ⟨n2174,hL2175,h⟩ := hJ
    cases nf with
    | zero => rw [L_ref05_Right_l1] at hL2175; cases hL2175
    | succ nf =>
     rw [L_ref05_Right_l1] at hL2175
     refine wp_seq ?_
     refine qs 103 [] [2,3,5,49] [(1,0),(2,0)] h fun ac wd h => ?_
     rcases i2 hL2175 with ⟨hb2177,hL2175⟩ | ⟨hb2177,hL2175⟩
     ·
      refine kT h ?_
      refine wp_skip ?_
      change Code.wp Try.prog _ _ _ _
      refine wp_seq ?_
      refine wp_block ?_
      obtain ⟨e2198,hE2199,hL2175⟩ := Option.bind_eq_some_iff.1 hL2175
      refine r_seqJ (fun ac wd => ∃ (b2197 : Bool),b2197 = e2198 ∧ SL ⟨wb,S,Φ,P0⟩ 138 124 [(2,.one (.ptr (1,0) 0)),(3,.one (.ptr (2,0) 0)),(5,.one (.d (.int .i64 n2174))),(72,.one (.d (.bool b2197)))] [((1,0),some (.box 69 (cTApp a0))),((2,0),some (.box 101 (cTConf a1)))] ac wd) ?_ ?_
      ·
       obtain ⟨x2200,hx2201a,hx2201b,hx2201c,hx2201d,hE2199⟩ := aB hE2199
       rcases i2 hE2199 with ⟨hb2202,hE2199⟩ | ⟨hb2202,hE2199⟩
       ·
        refine deg [] [none,none,none,none,none,none,none,some (some 58,false),some (some 58,false),some (some 58,false),some (some 58,false),some (some 58,false),some (some 58,false),some (some 58,false),some (some 58,false),some (some 58,false),some (some 58,false),some (some 58,false),some (some 58,false),some (some 58,false),none] [2,3,5,72] [(1,0),(2,0)] h fun ac wd h => ?_
        injection hE2199 with hE2199; subst hE2199
        exact ⟨true,rfl,h.z⟩
       ·
        obtain ⟨x2203,hx2204a,hx2204b,hx2204c,hx2204d,hE2199⟩ := aB hE2199
        refine deg [] [none,none,none,none,none,none,none,some (some 58,false),some (some 58,false),some (some 58,false),some (some 58,false),some (some 58,false),some (some 58,false),some (some 58,false),some (some 58,false),some (some 58,false),some (some 58,false),some (some 58,false),some (some 58,false),some (some 58,false),none] [2,3,5,72] [(1,0),(2,0)] h fun ac wd h => ?_
        injection hE2199 with hE2199; subst hE2199
        exact ⟨decide (x2200 ≥ (x2203.States.length : Int)),rfl,h.z⟩
      ·
       rintro ac wd ⟨b2197,rfl,h⟩
       (try dsimp only at hL2175)
       rcases i2b hL2175 with ⟨hb2205,hL2175⟩ | ⟨hb2205,hL2175⟩
       ·
        refine kT h ?_
        refine qs 125 [] [4] [] h fun ac wd h => ?_
        refine wp_ret ?_
        injection hL2175 with hL2175
        subst hL2175
        (try dsimp only at hD)
        injection hD with hD
        subst hD
        exact rE h [.tmp 4]
       ·
        refine kF h ?_
        refine wp_skip ?_
        change Code.wp Try.prog _ _ _ _
        refine qe [] [2,3,5] [(1,0),(2,0)] h fun ac wd h => ?_
        exact ⟨nf,Nat.lt_succ_self nf,(IntKind.wrap .i64 (n2174 + 1)),hL2175,h.z⟩
     ·
      refine kF h ?_
      refine wp_exit ?_
      injection hL2175 with hL2175; subst hL2175
      exact ⟨rfl,h.z⟩
   ·
    rintro ac wd ⟨rfl,h⟩
    (try dsimp only at hD)
    refine wp_seq ?_
    refine qs 104 [] [3,6] [(2,0)] h fun ac wd h => ?_
    refine wp_block ?_
    refine r_while (fun nf ac wd => ∃ (n3704 : Int),L_ref05_Right_l2 a1 nf n3704 = some r ∧ SL ⟨wb,S,Φ,P0⟩ 138 360 [(3,.one (.ptr (2,0) 0)),(6,.one (.d (.int .i64 n3704)))] [((2,0),some (.box 101 (cTConf a1)))] ac wd) (((a1.Links.length : Int) - 0).toNat + 1) ⟨0,hD,h.z⟩ (fun nf ac wd hJ => ?_)
    obtain ⟨n3704,hL3705,h⟩ := hJ
    cases nf with
    | zero => rw [L_ref05_Right_l2] at hL3705; cases hL3705
    | succ nf =>
     rw [L_ref05_Right_l2] at hL3705
     refine wp_seq ?_
     refine qs 365 [] [3,6,77] [(2,0)] h fun ac wd h => ?_
     rcases i2 hL3705 with ⟨hb3707,hL3705⟩ | ⟨hb3707,hL3705⟩
     ·
      refine kT h ?_
      refine wp_skip ?_
      change Code.wp Try.prog _ _ _ _
      obtain ⟨e3855,hE3856,hL3705⟩ := Option.bind_eq_some_iff.1 hL3705
      refine r_seqJ (fun ac wd => (.inl ()) = e3855 ∧ SL ⟨wb,S,Φ,P0⟩ 138 485 [(3,.one (.ptr (2,0) 0)),(6,.one (.d (.int .i64 n3704)))] [((2,0),some (.box 101 (cTConf a1)))] ac wd) ?_ ?_
      ·
       refine wp_block ?_
       refine wp_seq ?_
       obtain ⟨e3861,hE3862,hE3856⟩ := Option.bind_eq_some_iff.1 hE3856
       refine r_seqJ (fun ac wd => ∃ (b3860 : Bool),b3860 = e3861 ∧ SL ⟨wb,S,Φ,P0⟩ 138 379 [(3,.one (.ptr (2,0) 0)),(6,.one (.d (.int .i64 n3704))),(93,.one (.d (.bool b3860)))] [((2,0),some (.box 101 (cTConf a1)))] ac wd) ?_ ?_
       ·
        obtain ⟨x3863,hx3864a,hx3864b,hx3864c,hx3864d,hE3862⟩ := aB hE3862
        rcases i2 hE3862 with ⟨hb3865,hE3862⟩ | ⟨hb3865,hE3862⟩
        ·
         refine qeg [] [none,none,none,none,none,none,none,some (some 86,false),some (some 86,false),some (some 86,false),some (some 86,false),some (some 86,false),some (some 86,false),none] [3,6,93] [(2,0)] h fun ac wd h => ?_
         injection hE3862 with hE3862; subst hE3862
         exact ⟨true,rfl,h.z⟩
        ·
         refine qeg [] [none,none,none,none,none,none,none,some (some 86,false),some (some 86,false),some (some 86,false),some (some 86,false),some (some 86,false),some (some 86,false),none] [3,6,93] [(2,0)] h fun ac wd h => ?_
         injection hE3862 with hE3862; subst hE3862
         exact ⟨decide (x3863 > 500),rfl,h.z⟩
       ·
        rintro ac wd ⟨b3860,rfl,h⟩
        (try dsimp only at hE3856)
        rcases i2b hE3856 with ⟨hb3867,hE3856⟩ | ⟨hb3867,hE3856⟩
        ·
         refine kT h ?_
         refine qs 380 [] [4] [] h fun ac wd h => ?_
         refine wp_ret ?_
         injection hE3856 with hE3856
         subst hE3856
         (try dsimp only at hL3705)
         injection hL3705 with hL3705
         subst hL3705
         exact rE h [.tmp 4]
        ·
         refine kF h ?_
         refine wp_skip ?_
         change Code.wp Try.prog _ _ _ _
         refine qs 380 [] [3,6,7] [(2,0)] h fun ac wd h => ?_
         refine qs 381 [] [3,6,7,8] [(2,0)] h fun ac wd h => ?_
         obtain ⟨e4004,hE4005,hE3856⟩ := Option.bind_eq_some_iff.1 hE3856
         refine r_meetQ (fun ac wd => (.inl ()) = e4004 ∧ SL ⟨wb,S,Φ,P0⟩ 138 485 [(3,.one (.ptr (2,0) 0)),(6,.one (.d (.int .i64 n3704)))] [((2,0),some (.box 101 (cTConf a1)))] ac wd) ?_ ?_
         ·
          refine wp_block ?_
          refine r_while (fun nf ac wd => ∃ (n4096 : Int) (n4097 : Int),L_ref05_Right_l3 a1 n3704 nf n4096 n4097 = some e4004 ∧ SL ⟨wb,S,Φ,P0⟩ 138 477 [(3,.one (.ptr (2,0) 0)),(6,.one (.d (.int .i64 n3704))),(7,.one (.d (.int .i64 n4096))),(8,.one (.d (.int .i64 n4097)))] [((2,0),some (.box 101 (cTConf a1)))] ac wd) (a1.Links.flatten.length + 1) ⟨0,0,hE4005,h.z⟩ (fun nf ac wd hJ => ?_)
          obtain ⟨n4096,n4097,hL4098,h⟩ := hJ
          cases nf with
          | zero => rw [L_ref05_Right_l3] at hL4098; cases hL4098
          | succ nf =>
           rw [L_ref05_Right_l3] at hL4098
           refine wp_seq ?_
           obtain ⟨x4101,hx4102a,hx4102b,hx4102c,hx4102d,hL4098⟩ := aB hL4098
           refine qs 485 [] [3,6,7,8,101] [(2,0)] h fun ac wd h => ?_
           rcases i2 hL4098 with ⟨hb4104,hL4098⟩ | ⟨hb4104,hL4098⟩
           ·
            refine kT h ?_
            refine wp_skip ?_
            change Code.wp Try.prog _ _ _ _
            refine wp_seq ?_
            refine wp_block ?_
            obtain ⟨x4126,hx4127a,hx4127b,hx4127c,hx4127d,hL4098⟩ := aB hL4098
            refine qs 495 [] [3,6,7,8,9] [(2,0),(493,0)] h fun ac wd h => ?_
            refine wp_seq ?_
            obtain ⟨e4134,hE4135,hL4098⟩ := Option.bind_eq_some_iff.1 hL4098
            refine r_seqJ (fun ac wd => ∃ (b4133 : Bool),b4133 = e4134 ∧ SL ⟨wb,S,Φ,P0⟩ 138 519 [(3,.one (.ptr (2,0) 0)),(6,.one (.d (.int .i64 n3704))),(8,.one (.d (.int .i64 n4097))),(9,.one (.ptr (493,0) 0)),(135,.one (.d (.bool b4133)))] [((2,0),some (.box 101 (cTConf a1))),((493,0),some (.box 59 (cTMsg x4126)))] ac wd) ?_ ?_
            ·
             rcases i2 hE4135 with ⟨hb4136,hE4135⟩ | ⟨hb4136,hE4135⟩
             ·
              refine deg [] [none,none,none,none,none,some (some 116,false),some (some 116,false),some (some 116,false),some (some 116,false),some (some 116,false),some (some 116,false),some (some 116,false),some (some 116,false),none,none,some (some 126,false),some (some 126,false),some (some 126,false),none,none,some (some 131,false),some (some 131,false),some (some 131,false),none] [3,6,8,9,135] [(2,0),(493,0)] h fun ac wd h => ?_
              injection hE4135 with hE4135; subst hE4135
              exact ⟨true,rfl,h.z⟩
             ·
              obtain ⟨x4137,hx4138a,hx4138b,hx4138c,hx4138d,hE4135⟩ := aB hE4135
              rcases i2 hE4135 with ⟨hb4139,hE4135⟩ | ⟨hb4139,hE4135⟩
              ·
               refine deg [] [none,none,none,none,none,some (some 116,false),some (some 116,false),some (some 116,false),some (some 116,false),some (some 116,false),some (some 116,false),some (some 116,false),some (some 116,false),none,none,some (some 126,false),some (some 126,false),some (some 126,false),none,none,some (some 131,false),some (some 131,false),some (some 131,false),none] [3,6,8,9,135] [(2,0),(493,0)] h fun ac wd h => ?_
               injection hE4135 with hE4135; subst hE4135
               exact ⟨true,rfl,h.z⟩
              ·
               rcases i2 hE4135 with ⟨hb4140,hE4135⟩ | ⟨hb4140,hE4135⟩
               ·
                refine deg [] [none,none,none,none,none,some (some 116,false),some (some 116,false),some (some 116,false),some (some 116,false),some (some 116,false),some (some 116,false),some (some 116,false),some (some 116,false),none,none,some (some 126,false),some (some 126,false),some (some 126,false),none,none,some (some 131,false),some (some 131,false),some (some 131,false),none] [3,6,8,9,135] [(2,0),(493,0)] h fun ac wd h => ?_
                injection hE4135 with hE4135; subst hE4135
                exact ⟨true,rfl,h.z⟩
               ·
                refine deg [] [none,none,none,none,none,some (some 116,false),some (some 116,false),some (some 116,false),some (some 116,false),some (some 116,false),some (some 116,false),some (some 116,false),some (some 116,false),none,none,some (some 126,false),some (some 126,false),some (some 126,false),none,none,some (some 131,false),some (some 131,false),some (some 131,false),none] [3,6,8,9,135] [(2,0),(493,0)] h fun ac wd h => ?_
                injection hE4135 with hE4135; subst hE4135
                exact ⟨decide (x4126.Letter > 3),rfl,h.z⟩
            ·
             rintro ac wd ⟨b4133,rfl,h⟩
             (try dsimp only at hL4098)
             rcases i2b hL4098 with ⟨hb4142,hL4098⟩ | ⟨hb4142,hL4098⟩
             ·
              refine kT h ?_
              refine qs 520 [] [4] [] h fun ac wd h => ?_
              refine wp_ret ?_
              injection hL4098 with hL4098
              subst hL4098
              (try dsimp only at hE3856)
              injection hE3856 with hE3856
              subst hE3856
              (try dsimp only at hL3705)
              injection hL3705 with hL3705
              subst hL3705
              exact rE h [.tmp 4]
             ·
              refine kF h ?_
              refine wp_skip ?_
              change Code.wp Try.prog _ _ _ _
              refine qe [] [3,6,7,8] [(2,0)] h fun ac wd h => ?_
              change Code.wp Try.prog _ _ _ _
              refine qe [] [3,6,7,8] [(2,0)] h fun ac wd h => ?_
              exact ⟨nf,Nat.lt_succ_self nf,x4126.Seq,(IntKind.wrap .i64 (n4097 + 1)),hL4098,h.z⟩
           ·
            refine kF h ?_
            refine wp_exit ?_
            injection hL4098 with hL4098; subst hL4098
            exact ⟨rfl,h.z⟩
         ·
          rintro ac wd ⟨rfl,h⟩
          (try dsimp only at hE3856)
          injection hE3856 with hE3856; subst hE3856
          exact ⟨rfl,h.z⟩
      ·
       rintro ac wd ⟨rfl,h⟩
       (try dsimp only at hL3705)
       refine qe [] [3,6] [(2,0)] h fun ac wd h => ?_
       exact ⟨nf,Nat.lt_succ_self nf,(IntKind.wrap .i64 (n3704 + 1)),hL3705,h.z⟩
     ·
      refine kF h ?_
      refine wp_exit ?_
      change Code.wp Try.prog _ _ _ _
      refine qs 366 [] [4] [] h fun ac wd h => ?_
      refine wp_ret ?_
      injection hL3705 with hL3705
      subst hL3705
      exact rE h [.tmp 4]

end Go.Proofs.Ytabbejabdkkaiaa
