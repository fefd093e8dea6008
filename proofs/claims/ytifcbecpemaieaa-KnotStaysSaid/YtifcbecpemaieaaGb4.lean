/- Functions as typed ones,and that the program's functions answer as these do. No condition. -/
import Derived.Test.YtifcbecpemaieaaGb3
import Derived.Test.YtifcbecpemaieaaGd
set_option linter.unusedSimpArgs false
set_option linter.unusedVariables false
set_option maxRecDepth 20000
set_option maxHeartbeats 4000000
namespace Go.Proofs.Ytifcbecpemaieaa
open Go.RowKit

theorem L_table_Right_ok {a0 : (List TNode)} {a1 : TGraph} {r : Bool} (hD : L_table_Right a0 a1 = some r) :
  CallH Try.prog 67 [.one (.d (.sl (List.map eTNode a0))),.agg (cTGraph a1)] []
   (.one (.d (.bool r))) [] := by
 unfold L_table_Right at hD
 refine rc Try.func67 rfl Try.ntmps67 fun S Φ P0 wb ac h => ?_
 refine qs 3 [] [0,3] [(1,0)] h fun ac wd h => ?_
 refine wp_seq ?_
 obtain ⟨e977,hE978,hD⟩ := Option.bind_eq_some_iff.1 hD
 refine r_seqJ (fun ac wd => ∃ (b976 : Bool),b976 = e977 ∧ SL ⟨wb,S,Φ,P0⟩ 65 13 [(0,.one (.d (.sl (List.map eTNode a0)))),(3,.one (.ptr (1,0) 0)),(18,.one (.d (.bool b976)))] [((1,0),some (.box 24 (cTGraph a1)))] ac wd) ?_ ?_
 ·
  obtain ⟨r979,hc980,hE978⟩ := oB hE978
  rcases i2b hE978 with ⟨hb981,hE978⟩ | ⟨hb981,hE978⟩
  ·
   have hc980k := L_graph_Right_ok hc980
   refine qeg [factE 4 hc980k] [none,none,none,none,some (some 12,false),some (some 12,false),some (some 12,false),some (some 12,false),some (some 12,false),none] [0,3,18] [(1,0)] h fun ac wd h => ?_
   injection hE978 with hE978; subst hE978
   exact ⟨!(decide ((a0.length : Int) = a1.N)),rfl,h.z⟩
  ·
   have hc980k := L_graph_Right_ok hc980
   refine qeg [factE 4 hc980k] [none,none,none,none,some (some 12,false),some (some 12,false),some (some 12,false),some (some 12,false),some (some 12,false),none] [0,3,18] [(1,0)] h fun ac wd h => ?_
   injection hE978 with hE978; subst hE978
   exact ⟨true,rfl,h.z⟩
 ·
  rintro ac wd ⟨b976,rfl,h⟩
  (try dsimp only at hD)
  rcases i2b hD with ⟨hb983,hD⟩ | ⟨hb983,hD⟩
  ·
   refine kT h ?_
   refine qs 14 [] [4] [] h fun ac wd h => ?_
   refine wp_ret ?_
   injection hD with hD
   subst hD
   exact rE h [.tmp 4]
  ·
   refine kF h ?_
   refine wp_skip ?_
   change Code.wp Try.prog _ _ _ _
   refine wp_seq ?_
   refine qs 16 [] [3,19,20,21] [(1,0)] h fun ac wd h => ?_
   refine wp_block ?_
   refine r_while (fun nf ac wd => ∃ (n1782 : Int),L_table_Right_l1 a0 a1 nf n1782 = some r ∧ SL ⟨wb,S,Φ,P0⟩ 65 146 [(3,.one (.ptr (1,0) 0)),(19,.one (.d (.sl (List.map eTNode a0)))),(20,.one (.d (.int .i64 (a0.length : Int)))),(21,.one (.d (.int .i64 n1782)))] [((1,0),some (.box 24 (cTGraph a1)))] ac wd) (((a0.length : Int) - 0).toNat + 1) ⟨0,hD,h.z⟩ (fun nf ac wd hJ => ?_)
   obtain ⟨n1782,hL1783,h⟩ := hJ
   cases nf with
   | zero => rw [L_table_Right_l1] at hL1783; cases hL1783
   | succ nf =>
    rw [L_table_Right_l1] at hL1783
    refine qs 147 [] [3,19,20,21,22] [(1,0)] h fun ac wd h => ?_
    refine wp_seq ?_
    rcases i2 hL1783 with ⟨hb1785,hL1783⟩ | ⟨hb1785,hL1783⟩
    ·
     refine kT h ?_
     refine wp_skip ?_
     change Code.wp Try.prog _ _ _ _
     obtain ⟨e1863,hE1864,hL1783⟩ := Option.bind_eq_some_iff.1 hL1783
     refine r_seqJ (fun ac wd => (.inl ()) = e1863 ∧ SL ⟨wb,S,Φ,P0⟩ 65 209 [(3,.one (.ptr (1,0) 0)),(19,.one (.d (.sl (List.map eTNode a0)))),(20,.one (.d (.int .i64 (a0.length : Int)))),(21,.one (.d (.int .i64 n1782)))] [((1,0),some (.box 24 (cTGraph a1)))] ac wd) ?_ ?_
     ·
      refine wp_block ?_
      obtain ⟨x1867,hx1868a,hx1868b,hx1868c,hx1868d,hE1864⟩ := aB hE1864
      refine qs 153 [] [3,5,6,19,20,21] [(1,0),(150,0)] h fun ac wd h => ?_
      refine wp_seq ?_
      obtain ⟨e1873,hE1874,hE1864⟩ := Option.bind_eq_some_iff.1 hE1864
      refine r_seqJ (fun ac wd => ∃ (b1872 : Bool),b1872 = e1873 ∧ SL ⟨wb,S,Φ,P0⟩ 65 176 [(3,.one (.ptr (1,0) 0)),(5,.one (.d (.int .i64 n1782))),(6,.one (.ptr (150,0) 0)),(19,.one (.d (.sl (List.map eTNode a0)))),(20,.one (.d (.int .i64 (a0.length : Int)))),(21,.one (.d (.int .i64 n1782))),(48,.one (.d (.bool b1872)))] [((1,0),some (.box 24 (cTGraph a1))),((150,0),some (.box 120 (cTNode x1867)))] ac wd) ?_ ?_
      ·
       rcases i2 hE1874 with ⟨hb1875,hE1874⟩ | ⟨hb1875,hE1874⟩
       ·
        refine qeg [] [none,none,none,none,none,some (some 30,false),some (some 30,false),some (some 30,false),some (some 30,false),none,none,some (some 36,false),some (some 36,false),some (some 36,false),none,none,some (some 41,false),some (some 41,false),some (some 41,false),some (some 41,false),some (some 41,false),some (some 41,false),none] [3,5,6,19,20,21,48] [(1,0),(150,0)] h fun ac wd h => ?_
        injection hE1874 with hE1874; subst hE1874
        exact ⟨true,rfl,h.z⟩
       ·
        rcases i2 hE1874 with ⟨hb1876,hE1874⟩ | ⟨hb1876,hE1874⟩
        ·
         refine qeg [] [none,none,none,none,none,some (some 30,false),some (some 30,false),some (some 30,false),some (some 30,false),none,none,some (some 36,false),some (some 36,false),some (some 36,false),none,none,some (some 41,false),some (some 41,false),some (some 41,false),some (some 41,false),some (some 41,false),some (some 41,false),none] [3,5,6,19,20,21,48] [(1,0),(150,0)] h fun ac wd h => ?_
         injection hE1874 with hE1874; subst hE1874
         exact ⟨true,rfl,h.z⟩
        ·
         rcases i2 hE1874 with ⟨hb1877,hE1874⟩ | ⟨hb1877,hE1874⟩
         ·
          refine qeg [] [none,none,none,none,none,some (some 30,false),some (some 30,false),some (some 30,false),some (some 30,false),none,none,some (some 36,false),some (some 36,false),some (some 36,false),none,none,some (some 41,false),some (some 41,false),some (some 41,false),some (some 41,false),some (some 41,false),some (some 41,false),none] [3,5,6,19,20,21,48] [(1,0),(150,0)] h fun ac wd h => ?_
          injection hE1874 with hE1874; subst hE1874
          exact ⟨true,rfl,h.z⟩
         ·
          refine qeg [] [none,none,none,none,none,some (some 30,false),some (some 30,false),some (some 30,false),some (some 30,false),none,none,some (some 36,false),some (some 36,false),some (some 36,false),none,none,some (some 41,false),some (some 41,false),some (some 41,false),some (some 41,false),some (some 41,false),some (some 41,false),none] [3,5,6,19,20,21,48] [(1,0),(150,0)] h fun ac wd h => ?_
          injection hE1874 with hE1874; subst hE1874
          exact ⟨decide (x1867.Start ≥ (x1867.States.length : Int)),rfl,h.z⟩
      ·
       rintro ac wd ⟨b1872,rfl,h⟩
       (try dsimp only at hE1864)
       rcases i2b hE1864 with ⟨hb1879,hE1864⟩ | ⟨hb1879,hE1864⟩
       ·
        refine kT h ?_
        refine qs 177 [] [4] [] h fun ac wd h => ?_
        refine wp_ret ?_
        injection hE1864 with hE1864
        subst hE1864
        (try dsimp only at hL1783)
        injection hL1783 with hL1783
        subst hL1783
        exact rE h [.tmp 4]
       ·
        refine kF h ?_
        refine wp_skip ?_
        change Code.wp Try.prog _ _ _ _
        refine qs 180 [] [3,5,6,19,20,21,50,51,52] [(1,0),(150,0)] h fun ac wd h => ?_
        obtain ⟨e1942,hE1943,hE1864⟩ := Option.bind_eq_some_iff.1 hE1864
        refine r_meetQ (fun ac wd => (.inl ()) = e1942 ∧ SL ⟨wb,S,Φ,P0⟩ 65 209 [(3,.one (.ptr (1,0) 0)),(19,.one (.d (.sl (List.map eTNode a0)))),(20,.one (.d (.int .i64 (a0.length : Int)))),(21,.one (.d (.int .i64 n1782)))] [((1,0),some (.box 24 (cTGraph a1)))] ac wd) ?_ ?_
        ·
         refine wp_block ?_
         refine r_while (fun nf ac wd => ∃ (n1985 : Int),L_table_Right_l2 a1 n1782 x1867 nf n1985 = some e1942 ∧ SL ⟨wb,S,Φ,P0⟩ 65 208 [(3,.one (.ptr (1,0) 0)),(5,.one (.d (.int .i64 n1782))),(6,.one (.ptr (150,0) 0)),(19,.one (.d (.sl (List.map eTNode a0)))),(20,.one (.d (.int .i64 (a0.length : Int)))),(21,.one (.d (.int .i64 n1782))),(50,.one (.d (.sl (List.map eTState x1867.States)))),(51,.one (.d (.int .i64 (x1867.States.length : Int)))),(52,.one (.d (.int .i64 n1985)))] [((1,0),some (.box 24 (cTGraph a1))),((150,0),some (.box 120 (cTNode x1867)))] ac wd) (((x1867.States.length : Int) - 0).toNat + 1) ⟨0,hE1943,h.z⟩ (fun nf ac wd hJ => ?_)
         obtain ⟨n1985,hL1986,h⟩ := hJ
         cases nf with
         | zero => rw [L_table_Right_l2] at hL1986; cases hL1986
         | succ nf =>
          rw [L_table_Right_l2] at hL1986
          refine qs 209 [] [3,5,6,19,20,21,50,51,52,53] [(1,0),(150,0)] h fun ac wd h => ?_
          refine wp_seq ?_
          rcases i2 hL1986 with ⟨hb1988,hL1986⟩ | ⟨hb1988,hL1986⟩
          ·
           refine kT h ?_
           refine wp_skip ?_
           change Code.wp Try.prog _ _ _ _
           refine wp_seq ?_
           refine wp_block ?_
           obtain ⟨x2000,hx2001a,hx2001b,hx2001c,hx2001d,hL1986⟩ := aB hL1986
           refine qs 213 [] [3,5,6,8,19,20,21,50,51,52] [(1,0),(150,0),(211,0)] h fun ac wd h => ?_
           obtain ⟨r2004,hc2005,hL1986⟩ := oB hL1986
           have hc2005k := L_table_place_may_ok hc2005
           refine qs 220 [factE 218 hc2005k] [3,5,6,19,20,21,50,51,52,62] [(1,0),(150,0)] h fun ac wd h => ?_
           rcases i2b hL1986 with ⟨hb2006,hL1986⟩ | ⟨hb2006,hL1986⟩
           ·
            refine kF h ?_
            refine wp_skip ?_
            change Code.wp Try.prog _ _ _ _
            refine qe [] [3,5,6,19,20,21,50,51,52] [(1,0),(150,0)] h fun ac wd h => ?_
            exact ⟨nf,Nat.lt_succ_self nf,(IntKind.wrap .i64 (n1985 + 1)),hL1986,h.z⟩
           ·
            refine kT h ?_
            refine qs 221 [] [4] [] h fun ac wd h => ?_
            refine wp_ret ?_
            injection hL1986 with hL1986
            subst hL1986
            (try dsimp only at hE1864)
            injection hE1864 with hE1864
            subst hE1864
            (try dsimp only at hL1783)
            injection hL1783 with hL1783
            subst hL1783
            exact rE h [.tmp 4]
          ·
           refine kF h ?_
           refine wp_exit ?_
           injection hL1986 with hL1986; subst hL1986
           exact ⟨rfl,h.z⟩
        ·
         rintro ac wd ⟨rfl,h⟩
         (try dsimp only at hE1864)
         injection hE1864 with hE1864; subst hE1864
         exact ⟨rfl,h.z⟩
     ·
      rintro ac wd ⟨rfl,h⟩
      (try dsimp only at hL1783)
      refine qe [] [3,19,20,21] [(1,0)] h fun ac wd h => ?_
      exact ⟨nf,Nat.lt_succ_self nf,(IntKind.wrap .i64 (n1782 + 1)),hL1783,h.z⟩
    ·
     refine kF h ?_
     refine wp_exit ?_
     change Code.wp Try.prog _ _ _ _
     refine qs 148 [] [4] [] h fun ac wd h => ?_
     refine wp_ret ?_
     injection hL1783 with hL1783
     subst hL1783
     exact rE h [.tmp 4]

theorem L_plain_may_ok {a0 : (List TMsg)} {a1 : Int} {r : Bool} (hD : L_plain_may a0 a1 = some r) :
  CallH Try.prog 68 [.one (.d (.sl (List.map eTMsg a0))),.one (.d (.int .i64 a1))] []
   (.one (.d (.bool r))) [] := by
 unfold L_plain_may at hD
 refine rc Try.func68 rfl Try.ntmps68 fun S Φ P0 wb ac h => ?_
 refine qs 2 [] [0,1] [] h fun ac wd h => ?_
 refine qs 3 [] [0,1,5] [] h fun ac wd h => ?_
 refine wp_seq ?_
 refine qs 6 [] [1,5,8,9,10] [] h fun ac wd h => ?_
 refine wp_block ?_
 refine r_while (fun nf ac wd => ∃ (n375 : Int) (n376 : Int),L_plain_may_l1 a0 a1 nf n375 n376 = some r ∧ SL ⟨wb,S,Φ,P0⟩ 43 66 [(1,.one (.d (.int .i64 a1))),(5,.one (.d (.int .i64 n375))),(8,.one (.d (.sl (List.map eTMsg a0)))),(9,.one (.d (.int .i64 (a0.length : Int)))),(10,.one (.d (.int .i64 n376)))] [] ac wd) (((a0.length : Int) - 0).toNat + 1) ⟨0,0,hD,h.z⟩ (fun nf ac wd hJ => ?_)
 obtain ⟨n375,n376,hL377,h⟩ := hJ
 cases nf with
 | zero => rw [L_plain_may_l1] at hL377; cases hL377
 | succ nf =>
  rw [L_plain_may_l1] at hL377
  refine qs 67 [] [1,5,8,9,10,11] [] h fun ac wd h => ?_
  refine wp_seq ?_
  rcases i2 hL377 with ⟨hb379,hL377⟩ | ⟨hb379,hL377⟩
  ·
   refine kT h ?_
   refine wp_skip ?_
   change Code.wp Try.prog _ _ _ _
   refine wp_seq ?_
   refine wp_block ?_
   obtain ⟨x397,hx398a,hx398b,hx398c,hx398d,hL377⟩ := aB hL377
   refine qs 71 [] [1,5,7,8,9,10] [(69,0)] h fun ac wd h => ?_
   refine wp_seq ?_
   obtain ⟨e403,hE404,hL377⟩ := Option.bind_eq_some_iff.1 hL377
   refine r_seqJ (fun ac wd => ∃ (b402 : Bool),b402 = e403 ∧ SL ⟨wb,S,Φ,P0⟩ 43 91 [(1,.one (.d (.int .i64 a1))),(7,.one (.ptr (69,0) 0)),(8,.one (.d (.sl (List.map eTMsg a0)))),(9,.one (.d (.int .i64 (a0.length : Int)))),(10,.one (.d (.int .i64 n376))),(33,.one (.d (.bool b402)))] [((69,0),some (.box 70 (cTMsg x397)))] ac wd) ?_ ?_
   ·
    rcases i2 hE404 with ⟨hb405,hE404⟩ | ⟨hb405,hE404⟩
    ·
     refine qeg [] [none,none,none,none,none,some (some 18,false),some (some 18,false),some (some 18,false),some (some 18,false),none,none,some (some 24,false),some (some 24,false),some (some 24,false),none,none,some (some 29,false),some (some 29,false),some (some 29,false),none] [1,7,8,9,10,33] [(69,0)] h fun ac wd h => ?_
     injection hE404 with hE404; subst hE404
     exact ⟨true,rfl,h.z⟩
    ·
     rcases i2 hE404 with ⟨hb406,hE404⟩ | ⟨hb406,hE404⟩
     ·
      refine qeg [] [none,none,none,none,none,some (some 18,false),some (some 18,false),some (some 18,false),some (some 18,false),none,none,some (some 24,false),some (some 24,false),some (some 24,false),none,none,some (some 29,false),some (some 29,false),some (some 29,false),none] [1,7,8,9,10,33] [(69,0)] h fun ac wd h => ?_
      injection hE404 with hE404; subst hE404
      exact ⟨true,rfl,h.z⟩
     ·
      rcases i2 hE404 with ⟨hb407,hE404⟩ | ⟨hb407,hE404⟩
      ·
       refine qeg [] [none,none,none,none,none,some (some 18,false),some (some 18,false),some (some 18,false),some (some 18,false),none,none,some (some 24,false),some (some 24,false),some (some 24,false),none,none,some (some 29,false),some (some 29,false),some (some 29,false),none] [1,7,8,9,10,33] [(69,0)] h fun ac wd h => ?_
       injection hE404 with hE404; subst hE404
       exact ⟨true,rfl,h.z⟩
      ·
       refine qeg [] [none,none,none,none,none,some (some 18,false),some (some 18,false),some (some 18,false),some (some 18,false),none,none,some (some 24,false),some (some 24,false),some (some 24,false),none,none,some (some 29,false),some (some 29,false),some (some 29,false),none] [1,7,8,9,10,33] [(69,0)] h fun ac wd h => ?_
       injection hE404 with hE404; subst hE404
       exact ⟨decide (x397.Letter ≥ 4),rfl,h.z⟩
   ·
    rintro ac wd ⟨b402,rfl,h⟩
    (try dsimp only at hL377)
    rcases i2b hL377 with ⟨hb409,hL377⟩ | ⟨hb409,hL377⟩
    ·
     refine kT h ?_
     refine qs 92 [] [4] [] h fun ac wd h => ?_
     refine wp_ret ?_
     injection hL377 with hL377
     subst hL377
     exact rE h [.tmp 4]
    ·
     refine kF h ?_
     refine wp_skip ?_
     change Code.wp Try.prog _ _ _ _
     refine qe [] [1,5,8,9,10] [] h fun ac wd h => ?_
     change Code.wp Try.prog _ _ _ _
     refine qe [] [1,5,8,9,10] [] h fun ac wd h => ?_
     exact ⟨nf,Nat.lt_succ_self nf,x397.Seq,(IntKind.wrap .i64 (n376 + 1)),hL377,h.z⟩
  ·
   refine kF h ?_
   refine wp_exit ?_
   change Code.wp Try.prog _ _ _ _
   obtain ⟨e412,hE413,hL377⟩ := Option.bind_eq_some_iff.1 hL377
   refine r_seqJ (fun ac wd => ∃ (b411 : Bool),b411 = e412 ∧ SL ⟨wb,S,Φ,P0⟩ 43 74 [(4,.one (.d (.bool b411)))] [] ac wd) ?_ ?_
   ·
    rcases i2 hE413 with ⟨hb414,hE413⟩ | ⟨hb414,hE413⟩
    ·
     refine qeg [] [none,none,none,some (some 39,true),some (some 39,true),none,none] [4] [] h fun ac wd h => ?_
     injection hE413 with hE413; subst hE413
     exact ⟨decide (a1 ≤ 500),rfl,h.z⟩
    ·
     refine qeg [] [none,none,none,some (some 39,true),some (some 39,true),none,none] [4] [] h fun ac wd h => ?_
     injection hE413 with hE413; subst hE413
     exact ⟨false,rfl,h.z⟩
   ·
    rintro ac wd ⟨b411,rfl,h⟩
    (try dsimp only at hL377)
    refine wp_ret ?_
    injection hL377 with hL377
    subst hL377
    exact rE h [.tmp 4]

theorem L_plain_Right_ok {a0 : TApp} {a1 : TConf} {r : Bool} (hD : L_plain_Right a0 a1 = some r) :
  CallH Try.prog 30 [.agg (cTApp a0),.agg (cTConf a1)] []
   (.one (.d (.bool r))) [] := by
 unfold L_plain_Right at hD
 refine rc Try.func30 rfl Try.ntmps30 fun S Φ P0 wb ac h => ?_
 refine qs 4 [] [2,3] [(1,0),(2,0)] h fun ac wd h => ?_
 refine wp_seq ?_
 obtain ⟨e384,hE385,hD⟩ := Option.bind_eq_some_iff.1 hD
 refine r_seqJ (fun ac wd => ∃ (b383 : Bool),b383 = e384 ∧ SL ⟨wb,S,Φ,P0⟩ 83 39 [(2,.one (.ptr (1,0) 0)),(3,.one (.ptr (2,0) 0)),(43,.one (.d (.bool b383)))] [((1,0),some (.box 27 (cTApp a0))),((2,0),some (.box 31 (cTConf a1)))] ac wd) ?_ ?_
 ·
  obtain ⟨r386,hc387,hE385⟩ := oB hE385
  rcases i2b hE385 with ⟨hb388,hE385⟩ | ⟨hb388,hE385⟩
  ·
   rcases i2e hE385 with ⟨hb389,hE385⟩ | ⟨hb389,hE385⟩
   ·
    rcases i2e hE385 with ⟨hb390,hE385⟩ | ⟨hb390,hE385⟩
    ·
     have hc387k := L_table_Right_ok hc387
     refine qeg [factE 8 hc387k] [none,none,none,none,none,none,none,some (some 15,false),some (some 15,false),some (some 15,false),some (some 15,false),some (some 15,false),some (some 15,false),some (some 15,false),none,none,some (some 24,false),some (some 24,false),some (some 24,false),some (some 24,false),some (some 24,false),some (some 24,false),some (some 24,false),some (some 24,false),none,none,some (some 34,false),some (some 34,false),some (some 34,false),some (some 34,false),some (some 34,false),some (some 34,false),some (some 34,false),some (some 34,false),none] [2,3,43] [(1,0),(2,0)] h fun ac wd h => ?_
     injection hE385 with hE385; subst hE385
     exact ⟨!(decide ((a1.Sent.length : Int) = (a0.G.Links.length : Int))),rfl,h.z⟩
    ·
     have hc387k := L_table_Right_ok hc387
     refine qeg [factE 8 hc387k] [none,none,none,none,none,none,none,some (some 15,false),some (some 15,false),some (some 15,false),some (some 15,false),some (some 15,false),some (some 15,false),some (some 15,false),none,none,some (some 24,false),some (some 24,false),some (some 24,false),some (some 24,false),some (some 24,false),some (some 24,false),some (some 24,false),some (some 24,false),none,none,some (some 34,false),some (some 34,false),some (some 34,false),some (some 34,false),some (some 34,false),some (some 34,false),some (some 34,false),some (some 34,false),none] [2,3,43] [(1,0),(2,0)] h fun ac wd h => ?_
     injection hE385 with hE385; subst hE385
     exact ⟨true,rfl,h.z⟩
   ·
    have hc387k := L_table_Right_ok hc387
    refine qeg [factE 8 hc387k] [none,none,none,none,none,none,none,some (some 15,false),some (some 15,false),some (some 15,false),some (some 15,false),some (some 15,false),some (some 15,false),some (some 15,false),none,none,some (some 24,false),some (some 24,false),some (some 24,false),some (some 24,false),some (some 24,false),some (some 24,false),some (some 24,false),some (some 24,false),none,none,some (some 34,false),some (some 34,false),some (some 34,false),some (some 34,false),some (some 34,false),some (some 34,false),some (some 34,false),some (some 34,false),none] [2,3,43] [(1,0),(2,0)] h fun ac wd h => ?_
    injection hE385 with hE385; subst hE385
    exact ⟨true,rfl,h.z⟩
  ·
   have hc387k := L_table_Right_ok hc387
   refine qeg [factE 8 hc387k] [none,none,none,none,none,none,none,some (some 15,false),some (some 15,false),some (some 15,false),some (some 15,false),some (some 15,false),some (some 15,false),some (some 15,false),none,none,some (some 24,false),some (some 24,false),some (some 24,false),some (some 24,false),some (some 24,false),some (some 24,false),some (some 24,false),some (some 24,false),none,none,some (some 34,false),some (some 34,false),some (some 34,false),some (some 34,false),some (some 34,false),some (some 34,false),some (some 34,false),some (some 34,false),none] [2,3,43] [(1,0),(2,0)] h fun ac wd h => ?_
   injection hE385 with hE385; subst hE385
   exact ⟨true,rfl,h.z⟩
 ·
  rintro ac wd ⟨b383,rfl,h⟩
  (try dsimp only at hD)
  rcases i2b hD with ⟨hb392,hD⟩ | ⟨hb392,hD⟩
  ·
   refine kT h ?_
   refine qs 40 [] [4] [] h fun ac wd h => ?_
   refine wp_ret ?_
   injection hD with hD
   subst hD
   exact rE h [.tmp 4]
  ·
   refine kF h ?_
   refine wp_skip ?_
   change Code.wp Try.prog _ _ _ _
   refine wp_seq ?_
   refine qs 43 [] [2,3,45,46,47] [(1,0),(2,0)] h fun ac wd h => ?_
   obtain ⟨e485,hE486,hD⟩ := Option.bind_eq_some_iff.1 hD
   refine r_meet (fun ac wd => (.inl ()) = e485 ∧ SL ⟨wb,S,Φ,P0⟩ 83 86 [(3,.one (.ptr (2,0) 0))] [((2,0),some (.box 31 (cTConf a1)))] ac wd) ?_ ?_
   ·
    refine wp_block ?_
    refine r_while (fun nf ac wd => ∃ (n548 : Int),L_plain_Right_l1 a0 a1 nf n548 = some e485 ∧ SL ⟨wb,S,Φ,P0⟩ 83 85 [(2,.one (.ptr (1,0) 0)),(3,.one (.ptr (2,0) 0)),(45,.one (.d (.sl (List.map eI a1.States)))),(46,.one (.d (.int .i64 (a1.States.length : Int)))),(47,.one (.d (.int .i64 n548)))] [((1,0),some (.box 27 (cTApp a0))),((2,0),some (.box 31 (cTConf a1)))] ac wd) (((a1.States.length : Int) - 0).toNat + 1) ⟨0,hE486,h.z⟩ (fun nf ac wd hJ => ?_)
    obtain ⟨n548,hL549,h⟩ := hJ
    cases nf with
    | zero => rw [L_plain_Right_l1] at hL549; cases hL549
    | succ nf =>
     rw [L_plain_Right_l1] at hL549
     refine qs 86 [] [2,3,45,46,47,48] [(1,0),(2,0)] h fun ac wd h => ?_
     refine wp_seq ?_
     rcases i2 hL549 with ⟨hb551,hL549⟩ | ⟨hb551,hL549⟩
     ·
      refine kT h ?_
      refine wp_skip ?_
      change Code.wp Try.prog _ _ _ _
      refine wp_seq ?_
      refine wp_block ?_
      obtain ⟨x568,hx569a,hx569b,hx569c,hx569d,hL549⟩ := aB hL549
      refine qs 91 [] [2,3,5,6,45,46,47] [(1,0),(2,0)] h fun ac wd h => ?_
      obtain ⟨e574,hE575,hL549⟩ := Option.bind_eq_some_iff.1 hL549
      refine r_seqJ (fun ac wd => ∃ (b573 : Bool),b573 = e574 ∧ SL ⟨wb,S,Φ,P0⟩ 83 104 [(2,.one (.ptr (1,0) 0)),(3,.one (.ptr (2,0) 0)),(45,.one (.d (.sl (List.map eI a1.States)))),(46,.one (.d (.int .i64 (a1.States.length : Int)))),(47,.one (.d (.int .i64 n548))),(64,.one (.d (.bool b573)))] [((1,0),some (.box 27 (cTApp a0))),((2,0),some (.box 31 (cTConf a1)))] ac wd) ?_ ?_
      ·
       rcases i2 hE575 with ⟨hb576,hE575⟩ | ⟨hb576,hE575⟩
       ·
        refine qeg [] [none,none,none,some (some 54,false),some (some 54,false),some (some 54,false),some (some 54,false),some (some 54,false),some (some 54,false),some (some 54,false),some (some 54,false),some (some 54,false),none] [2,3,45,46,47,64] [(1,0),(2,0)] h fun ac wd h => ?_
        injection hE575 with hE575; subst hE575
        exact ⟨true,rfl,h.z⟩
       ·
        obtain ⟨x577,hx578a,hx578b,hx578c,hx578d,hE575⟩ := aB hE575
        refine qeg [] [none,none,none,some (some 54,false),some (some 54,false),some (some 54,false),some (some 54,false),some (some 54,false),some (some 54,false),some (some 54,false),some (some 54,false),some (some 54,false),none] [2,3,45,46,47,64] [(1,0),(2,0)] h fun ac wd h => ?_
        injection hE575 with hE575; subst hE575
        exact ⟨decide (x568 ≥ (x577.States.length : Int)),rfl,h.z⟩
      ·
       rintro ac wd ⟨b573,rfl,h⟩
       (try dsimp only at hL549)
       rcases i2b hL549 with ⟨hb579,hL549⟩ | ⟨hb579,hL549⟩
       ·
        refine kT h ?_
        refine qs 105 [] [4] [] h fun ac wd h => ?_
        refine wp_ret ?_
        injection hL549 with hL549
        subst hL549
        (try dsimp only at hD)
        injection hD with hD
        subst hD
        exact rE h [.tmp 4]
       ·
        refine kF h ?_
        refine wp_skip ?_
        change Code.wp Try.prog _ _ _ _
        refine qe [] [2,3,45,46,47] [(1,0),(2,0)] h fun ac wd h => ?_
        exact ⟨nf,Nat.lt_succ_self nf,(IntKind.wrap .i64 (n548 + 1)),hL549,h.z⟩
     ·
      refine kF h ?_
      refine wp_exit ?_
      injection hL549 with hL549; subst hL549
      exact ⟨rfl,h.z⟩
   ·
    rintro ac wd ⟨rfl,h⟩
    (try dsimp only at hD)
    refine wp_seq ?_
    refine qs 90 [] [3,67,68,69] [(2,0)] h fun ac wd h => ?_
    refine wp_block ?_
    refine r_while (fun nf ac wd => ∃ (n723 : Int),L_plain_Right_l2 a1 nf n723 = some r ∧ SL ⟨wb,S,Φ,P0⟩ 83 122 [(3,.one (.ptr (2,0) 0)),(67,.one (.d (.sl (List.map (eL eTMsg) a1.Links)))),(68,.one (.d (.int .i64 (a1.Links.length : Int)))),(69,.one (.d (.int .i64 n723)))] [((2,0),some (.box 31 (cTConf a1)))] ac wd) (((a1.Links.length : Int) - 0).toNat + 1) ⟨0,hD,h.z⟩ (fun nf ac wd hJ => ?_)
    obtain ⟨n723,hL724,h⟩ := hJ
    cases nf with
    | zero => rw [L_plain_Right_l2] at hL724; cases hL724
    | succ nf =>
     rw [L_plain_Right_l2] at hL724
     refine qs 123 [] [3,67,68,69,70] [(2,0)] h fun ac wd h => ?_
     refine wp_seq ?_
     rcases i2 hL724 with ⟨hb726,hL724⟩ | ⟨hb726,hL724⟩
     ·
      refine kT h ?_
      refine wp_skip ?_
      change Code.wp Try.prog _ _ _ _
      refine wp_seq ?_
      refine wp_block ?_
      obtain ⟨x742,hx743a,hx743b,hx743c,hx743d,hL724⟩ := aB hL724
      refine qs 128 [] [3,7,8,67,68,69] [(2,0)] h fun ac wd h => ?_
      obtain ⟨x748,hx749a,hx749b,hx749c,hx749d,hL724⟩ := aB hL724
      obtain ⟨r750,hc751,hL724⟩ := oB hL724
      have hc751k := L_plain_may_ok hc751
      refine qs 136 [factE 134 hc751k] [3,67,68,69,81] [(2,0)] h fun ac wd h => ?_
      rcases i2b hL724 with ⟨hb752,hL724⟩ | ⟨hb752,hL724⟩
      ·
       refine kF h ?_
       refine wp_skip ?_
       change Code.wp Try.prog _ _ _ _
       refine qe [] [3,67,68,69] [(2,0)] h fun ac wd h => ?_
       exact ⟨nf,Nat.lt_succ_self nf,(IntKind.wrap .i64 (n723 + 1)),hL724,h.z⟩
      ·
       refine kT h ?_
       refine qs 137 [] [4] [] h fun ac wd h => ?_
       refine wp_ret ?_
       injection hL724 with hL724
       subst hL724
       exact rE h [.tmp 4]
     ·
      refine kF h ?_
      refine wp_exit ?_
      change Code.wp Try.prog _ _ _ _
      refine qs 124 [] [4] [] h fun ac wd h => ?_
      refine wp_ret ?_
      injection hL724 with hL724
      subst hL724
      exact rE h [.tmp 4]

theorem L_graph_Full_own {a0 : Int} {r : TGraph} (hD : L_graph_Full a0 = some r) :
  CallH Try.prog 88 [.one (.d (.int .i64 a0))] []
   (.agg [.d (.int .i64 r.N),.own (1,0) r.Links.length]) [((1,0),some (.row 97 2 (dat (List.map eA2I r.Links))))] := by
 unfold L_graph_Full at hD
 refine rc Try.func88 rfl Try.ntmps88 fun S Φ P0 wb ac h => ?_
 refine qs 2 [] [0,2] [(1,0)] h fun ac wd h => ?_
 refine qs 8 [] [2,3] [(1,0),(6,0)] h fun ac wd h => ?_
 refine wp_seq ?_
 refine qs 11 [] [2,3,11,12] [(1,0),(6,0)] h fun ac wd h => ?_
 refine wp_block ?_
 have h := SL.bornB h (6,0) 1 97 2 (by simp only [EZ,simprocAttr, *] <;> rfl) (by simp only [EZ,simprocAttr, *] <;> rfl)
 refine r_while (fun nf ac wd => ∃ (n771 : Int) (l772 : List A2I),L_graph_Full_l1 a0 nf n771 l772 = some r ∧ SL ⟨wb,S,Φ,P0⟩ 34 105 [(2,.one (.ptr (1,0) 0)),(3,.one (.ptr (6,0) 0)),(11,.one (.d (.int .i64 (min (max a0 1) 6)))),(12,.one (.d (.int .i64 n771)))] [((1,0),some (.box 24 [.d (.int .i64 0),.nil])),((6,0),some (.box 24 [.d (.int .i64 (min (max a0 1) 6)),.own (11,0) l772.length])),((11,0),some (.row 97 2 (dat (List.map eA2I l772))))] ac wd) (((min (max a0 1) 6) - 0).toNat + 1) ⟨0,([] : List A2I),hD,h.z⟩ (fun nf ac wd hJ => ?_)
 obtain ⟨n771,l772,hL773,h⟩ := hJ
 cases nf with
 | zero => rw [L_graph_Full_l1] at hL773; cases hL773
 | succ nf =>
  rw [L_graph_Full_l1] at hL773
  refine qs 106 [] [2,3,11,12,13] [(1,0),(6,0),(11,0)] h fun ac wd h => ?_
  refine wp_seq ?_
  rcases i2 hL773 with ⟨hb775,hL773⟩ | ⟨hb775,hL773⟩
  ·
   refine kT h ?_
   refine wp_skip ?_
   change Code.wp Try.prog _ _ _ _
   obtain ⟨e808,hE809,hL773⟩ := Option.bind_eq_some_iff.1 hL773
   refine r_seqJ (fun ac wd => ∃ (l807 : List A2I),l807 = e808 ∧ SL ⟨wb,S,Φ,P0⟩ 34 146 [(2,.one (.ptr (1,0) 0)),(3,.one (.ptr (6,0) 0)),(11,.one (.d (.int .i64 (min (max a0 1) 6)))),(12,.one (.d (.int .i64 n771)))] [((1,0),some (.box 24 [.d (.int .i64 0),.nil])),((6,0),some (.box 24 [.d (.int .i64 (min (max a0 1) 6)),.own (11,0) l807.length])),((11,0),some (.row 97 2 (dat (List.map eA2I l807))))] ac wd) ?_ ?_
   ·
    refine wp_block ?_
    refine qs 108 [] [2,3,4,11,12] [(1,0),(6,0),(11,0)] h fun ac wd h => ?_
    refine qs 111 [] [2,3,4,11,12,16,17] [(1,0),(6,0),(11,0)] h fun ac wd h => ?_
    obtain ⟨e842,hE843,hE809⟩ := Option.bind_eq_some_iff.1 hE809
    refine r_meetQ (fun ac wd => ∃ (l841 : List A2I),l841 = e842 ∧ SL ⟨wb,S,Φ,P0⟩ 34 146 [(2,.one (.ptr (1,0) 0)),(3,.one (.ptr (6,0) 0)),(11,.one (.d (.int .i64 (min (max a0 1) 6)))),(12,.one (.d (.int .i64 n771)))] [((1,0),some (.box 24 [.d (.int .i64 0),.nil])),((6,0),some (.box 24 [.d (.int .i64 (min (max a0 1) 6)),.own (11,0) l841.length])),((11,0),some (.row 97 2 (dat (List.map eA2I l841))))] ac wd) ?_ ?_
    ·
     refine wp_block ?_
     refine r_while (fun nf ac wd => ∃ (n864 : Int) (l865 : List A2I),L_graph_Full_l2 a0 n771 nf n864 l865 = some e842 ∧ SL ⟨wb,S,Φ,P0⟩ 34 145 [(2,.one (.ptr (1,0) 0)),(3,.one (.ptr (6,0) 0)),(4,.one (.d (.int .i64 n771))),(11,.one (.d (.int .i64 (min (max a0 1) 6)))),(12,.one (.d (.int .i64 n771))),(16,.one (.d (.int .i64 (min (max a0 1) 6)))),(17,.one (.d (.int .i64 n864)))] [((1,0),some (.box 24 [.d (.int .i64 0),.nil])),((6,0),some (.box 24 [.d (.int .i64 (min (max a0 1) 6)),.own (11,0) l865.length])),((11,0),some (.row 97 2 (dat (List.map eA2I l865))))] ac wd) (((min (max a0 1) 6) - 0).toNat + 1) ⟨0,l772,hE843,h.z⟩ (fun nf ac wd hJ => ?_)
     obtain ⟨n864,l865,hL866,h⟩ := hJ
     cases nf with
     | zero => rw [L_graph_Full_l2] at hL866; cases hL866
     | succ nf =>
      rw [L_graph_Full_l2] at hL866
      refine qs 146 [] [2,3,4,11,12,16,17,18] [(1,0),(6,0),(11,0)] h fun ac wd h => ?_
      refine wp_seq ?_
      rcases i2 hL866 with ⟨hb868,hL866⟩ | ⟨hb868,hL866⟩
      ·
       refine kT h ?_
       refine wp_skip ?_
       change Code.wp Try.prog _ _ _ _
       obtain ⟨e872,hE873,hL866⟩ := Option.bind_eq_some_iff.1 hL866
       refine r_seqJ (fun ac wd => ∃ (l871 : List A2I),l871 = e872 ∧ SL ⟨wb,S,Φ,P0⟩ 34 160 [(2,.one (.ptr (1,0) 0)),(3,.one (.ptr (6,0) 0)),(4,.one (.d (.int .i64 n771))),(11,.one (.d (.int .i64 (min (max a0 1) 6)))),(12,.one (.d (.int .i64 n771))),(16,.one (.d (.int .i64 (min (max a0 1) 6)))),(17,.one (.d (.int .i64 n864)))] [((1,0),some (.box 24 [.d (.int .i64 0),.nil])),((6,0),some (.box 24 [.d (.int .i64 (min (max a0 1) 6)),.own (11,0) l871.length])),((11,0),some (.row 97 2 (dat (List.map eA2I l871))))] ac wd) ?_ ?_
       ·
        refine wp_block ?_
        refine qs 148 [] [2,3,4,5,11,12,16,17] [(1,0),(6,0),(11,0)] h fun ac wd h => ?_
        refine qs 151 [] [2,3,4,5,11,12,16,17,22] [(1,0),(6,0),(11,0)] h fun ac wd h => ?_
        rcases i2e hE873 with ⟨hb874,hE873⟩ | ⟨hb874,hE873⟩
        ·
         refine kF h ?_
         refine wp_skip ?_
         injection hE873 with hE873; subst hE873
         exact ⟨l865,rfl,h.z⟩
        ·
         refine kT h ?_
         obtain ⟨ha875,hE873⟩ := iT hE873
         refine qe [] [2,3,4,11,12,16,17] [(1,0),(6,0),(157,0)] h fun ac wd h => ?_
         have h := h.sw (11,0) (157,0) 160
         injection hE873 with hE873; subst hE873
         exact ⟨(l865 ++ [(A2I.mk n771 n864)]),rfl,h.z⟩
       ·
        rintro ac wd ⟨l871,rfl,h⟩
        (try dsimp only at hL866)
        refine qe [] [2,3,4,11,12,16,17] [(1,0),(6,0),(11,0)] h fun ac wd h => ?_
        exact ⟨nf,Nat.lt_succ_self nf,(IntKind.wrap .i64 (n864 + 1)),l871,hL866,h.z⟩
      ·
       refine kF h ?_
       refine wp_exit ?_
       injection hL866 with hL866; subst hL866
       exact ⟨l865,rfl,h.z⟩
    ·
     rintro ac wd ⟨l841,rfl,h⟩
     (try dsimp only at hE809)
     injection hE809 with hE809; subst hE809
     exact ⟨l841,rfl,h.z⟩
   ·
    rintro ac wd ⟨l807,rfl,h⟩
    (try dsimp only at hL773)
    refine qe [] [2,3,11,12] [(1,0),(6,0),(11,0)] h fun ac wd h => ?_
    exact ⟨nf,Nat.lt_succ_self nf,(IntKind.wrap .i64 (n771 + 1)),l807,hL773,h.z⟩
  ·
   refine kF h ?_
   refine wp_exit ?_
   change Code.wp Try.prog _ _ _ _
   refine qs 108 [] [2] [(1,0),(11,0)] h fun ac wd h => ?_
   refine wp_ret ?_
   have h := h.sw (1,0) (11,0) 108
   injection hL773 with hL773
   subst hL773
   exact rO h [.cell 2 24] [(1,0)]
theorem L_table_at_ok {a0 : (List TNode)} {a1 : Int} {a2 : Int} {r : TState × Bool} (hD : L_table_at a0 a1 a2 = some r) :
  CallH Try.prog 112 [.one (.d (.sl (List.map eTNode a0))),.one (.d (.int .i64 a1)),.one (.d (.int .i64 a2))] []
   (.tup [.inl [.d (.int .i64 r.1.Mode),.d (.sl (List.map eI r.1.Waits)),.d (.sl (List.map eTPick r.1.Picks)),.d (.sl (List.map eTTake r.1.Takes))],.inr (.d (.bool r.2))]) [] := by
 unfold L_table_at at hD
 refine rc Try.func112 rfl Try.ntmps112 fun S Φ P0 wb ac h => ?_
 refine qs 3 [] [0,1,2,6] [(1,0)] h fun ac wd h => ?_
 refine wp_seq ?_
 obtain ⟨e30,hE31,hD⟩ := Option.bind_eq_some_iff.1 hD
 refine r_seqJ (fun ac wd => ∃ (b29 : Bool),b29 = e30 ∧ SL ⟨wb,S,Φ,P0⟩ 39 25 [(0,.one (.d (.sl (List.map eTNode a0)))),(1,.one (.d (.int .i64 a1))),(2,.one (.d (.int .i64 a2))),(6,.one (.ptr (1,0) 0)),(29,.one (.d (.bool b29)))] [((1,0),some (.box 141 [.d (.int .i64 0),.nil,.nil,.nil]))] ac wd) ?_ ?_
 ·
  rcases i2 hE31 with ⟨hb32,hE31⟩ | ⟨hb32,hE31⟩
  ·
   refine qeg [] [none,none,none,some (some 10,false),some (some 10,false),some (some 10,false),some (some 10,false),none,none,some (some 16,false),some (some 16,false),none,none,some (some 20,false),some (some 20,false),some (some 20,false),some (some 20,false),some (some 20,false),some (some 20,false),some (some 20,false),some (some 20,false),none] [0,1,2,6,29] [(1,0)] h fun ac wd h => ?_
   injection hE31 with hE31; subst hE31
   exact ⟨true,rfl,h.z⟩
  ·
   rcases i2 hE31 with ⟨hb33,hE31⟩ | ⟨hb33,hE31⟩
   ·
    refine qeg [] [none,none,none,some (some 10,false),some (some 10,false),some (some 10,false),some (some 10,false),none,none,some (some 16,false),some (some 16,false),none,none,some (some 20,false),some (some 20,false),some (some 20,false),some (some 20,false),some (some 20,false),some (some 20,false),some (some 20,false),some (some 20,false),none] [0,1,2,6,29] [(1,0)] h fun ac wd h => ?_
    injection hE31 with hE31; subst hE31
    exact ⟨true,rfl,h.z⟩
   ·
    rcases i2 hE31 with ⟨hb34,hE31⟩ | ⟨hb34,hE31⟩
    ·
     refine qeg [] [none,none,none,some (some 10,false),some (some 10,false),some (some 10,false),some (some 10,false),none,none,some (some 16,false),some (some 16,false),none,none,some (some 20,false),some (some 20,false),some (some 20,false),some (some 20,false),some (some 20,false),some (some 20,false),some (some 20,false),some (some 20,false),none] [0,1,2,6,29] [(1,0)] h fun ac wd h => ?_
     injection hE31 with hE31; subst hE31
     exact ⟨true,rfl,h.z⟩
    ·
     obtain ⟨x35,hx36a,hx36b,hx36c,hx36d,hE31⟩ := aB hE31
     refine qeg [] [none,none,none,some (some 10,false),some (some 10,false),some (some 10,false),some (some 10,false),none,none,some (some 16,false),some (some 16,false),none,none,some (some 20,false),some (some 20,false),some (some 20,false),some (some 20,false),some (some 20,false),some (some 20,false),some (some 20,false),some (some 20,false),none] [0,1,2,6,29] [(1,0)] h fun ac wd h => ?_
     injection hE31 with hE31; subst hE31
     exact ⟨decide (a2 ≥ (x35.States.length : Int)),rfl,h.z⟩
 ·
  rintro ac wd ⟨b29,rfl,h⟩
  (try dsimp only at hD)
  rcases i2b hD with ⟨hb38,hD⟩ | ⟨hb38,hD⟩
  ·
   refine kT h ?_
   refine qs 28 [] [6,7] [(1,0)] h fun ac wd h => ?_
   refine wp_ret ?_
   injection hD with hD
   subst hD
   exact rE h [.cell 6 141,.tmp 7]
  ·
   refine kF h ?_
   refine wp_skip ?_
   change Code.wp Try.prog _ _ _ _
   obtain ⟨x43,hx44a,hx44b,hx44c,hx44d,hD⟩ := aB hD
   obtain ⟨x45,hx46a,hx46b,hx46c,hx46d,hD⟩ := aB hD
   refine qs 35 [] [6,7] [(1,0)] h fun ac wd h => ?_
   refine wp_ret ?_
   injection hD with hD
   subst hD
   exact rE h [.cell 6 141,.tmp 7]

theorem L_table_Mode_ok {a0 : (List TNode)} {a1 : Int} {a2 : Int} {r : Int} (hD : L_table_Mode a0 a1 a2 = some r) :
  CallH Try.prog 90 [.one (.d (.sl (List.map eTNode a0))),.one (.d (.int .i64 a1)),.one (.d (.int .i64 a2))] []
   (.one (.d (.int .i64 r))) [] := by
 unfold L_table_Mode at hD
 refine rc Try.func90 rfl Try.ntmps90 fun S Φ P0 wb ac h => ?_
 refine qs 2 [] [0,1,2] [] h fun ac wd h => ?_
 obtain ⟨r7,hc8,hD⟩ := oB hD
 have hc8k := L_table_at_ok hc8
 refine qs 12 [factE 5 hc8k] [7] [(9,0)] h fun ac wd h => ?_
 refine qs 15 [] [6] [] h fun ac wd h => ?_
 refine wp_ret ?_
 injection hD with hD
 subst hD
 exact rE h [.tmp 6]

end Go.Proofs.Ytifcbecpemaieaa
