/- Functions as typed ones,and that the program's functions answer as these do. No condition. -/
import Derived.Test.YtifcbecpemaieaaGb5
import Derived.Test.YtifcbecpemaieaaGd
set_option linter.unusedSimpArgs false
set_option linter.unusedVariables false
set_option maxRecDepth 20000
set_option maxHeartbeats 4000000
namespace Go.Proofs.Ytifcbecpemaieaa
open Go.RowKit

theorem L_plain_Can_own {a0 : TApp} {a1 : TConf} {r : (List TStep)} (hD : L_plain_Can a0 a1 = some r) :
  CallH Try.prog 42 [.agg (cTApp a0),.agg (cTConf a1)] []
   (.one (.own (1,0) r.length)) [((1,0),some (.row 57 5 (dat (List.map eTStep r))))] := by
 unfold L_plain_Can at hD
 refine rc Try.func42 rfl Try.ntmps42 fun S Φ P0 wb ac h => ?_
 refine qs 4 [] [2,3] [(1,0),(2,0)] h fun ac wd h => ?_
 refine qs 6 [] [2,3,5,6] [(1,0),(2,0)] h fun ac wd h => ?_
 refine wp_seq ?_
 refine qs 10 [] [2,3,5,6,19,20] [(1,0),(2,0)] h fun ac wd h => ?_
 obtain ⟨e1028,hE1029,hD⟩ := Option.bind_eq_some_iff.1 hD
 refine r_meet (fun ac wd => ∃ (l1027 : List TStep),l1027 = e1028 ∧ SL ⟨wb,S,Φ,P0⟩ 78 73 [(2,.one (.ptr (1,0) 0)),(3,.one (.ptr (2,0) 0)),(5,.one (.own (10,0) l1027.length)),(6,.one (.nil))] [((1,0),some (.box 27 (cTApp a0))),((2,0),some (.box 31 (cTConf a1))),((10,0),some (.row 57 5 (dat (List.map eTStep l1027))))] ac wd) ?_ ?_
 ·
  refine wp_block ?_
  have h := SL.bornS h 5 57 5 (by simp only [EZ,simprocAttr, *] <;> rfl)
  refine r_while (fun nf ac wd => ∃ (n1094 : Int) (l1095 : List TStep),L_plain_Can_l1 a0 nf n1094 l1095 = some e1028 ∧ SL ⟨wb,S,Φ,P0⟩ 78 72 [(2,.one (.ptr (1,0) 0)),(3,.one (.ptr (2,0) 0)),(5,.one (.own (10,0) l1095.length)),(6,.one (.nil)),(19,.one (.d (.int .i64 a0.G.N))),(20,.one (.d (.int .i64 n1094)))] [((1,0),some (.box 27 (cTApp a0))),((2,0),some (.box 31 (cTConf a1))),((10,0),some (.row 57 5 (dat (List.map eTStep l1095))))] ac wd) ((a0.G.N - 0).toNat + 1) ⟨0,([] : List TStep),hE1029,h.z⟩ (fun nf ac wd hJ => ?_)
  obtain ⟨n1094,l1095,hL1096,h⟩ := hJ
  cases nf with
  | zero => rw [L_plain_Can_l1] at hL1096; cases hL1096
  | succ nf =>
   rw [L_plain_Can_l1] at hL1096
   refine qs 73 [] [2,3,5,6,19,20,21] [(1,0),(2,0),(10,0)] h fun ac wd h => ?_
   refine wp_seq ?_
   rcases i2 hL1096 with ⟨hb1098,hL1096⟩ | ⟨hb1098,hL1096⟩
   ·
    refine kT h ?_
    refine wp_skip ?_
    change Code.wp Try.prog _ _ _ _
    obtain ⟨e1114,hE1115,hL1096⟩ := Option.bind_eq_some_iff.1 hL1096
    refine r_seqJ (fun ac wd => ∃ (l1113 : List TStep),l1113 = e1114 ∧ SL ⟨wb,S,Φ,P0⟩ 78 101 [(2,.one (.ptr (1,0) 0)),(3,.one (.ptr (2,0) 0)),(5,.one (.own (10,0) l1113.length)),(6,.one (.nil)),(19,.one (.d (.int .i64 a0.G.N))),(20,.one (.d (.int .i64 n1094)))] [((1,0),some (.box 27 (cTApp a0))),((2,0),some (.box 31 (cTConf a1))),((10,0),some (.row 57 5 (dat (List.map eTStep l1113))))] ac wd) ?_ ?_
    ·
     refine wp_block ?_
     refine qs 75 [] [2,3,5,6,7,19,20] [(1,0),(2,0),(10,0)] h fun ac wd h => ?_
     refine qs 76 [] [2,3,5,6,7,19,20,23] [(1,0),(2,0),(10,0)] h fun ac wd h => ?_
     obtain ⟨e1131,hE1132,hE1115⟩ := Option.bind_eq_some_iff.1 hE1115
     refine r_meetQ (fun ac wd => ∃ (l1130 : List TStep),l1130 = e1131 ∧ SL ⟨wb,S,Φ,P0⟩ 78 101 [(2,.one (.ptr (1,0) 0)),(3,.one (.ptr (2,0) 0)),(5,.one (.own (10,0) l1130.length)),(6,.one (.nil)),(19,.one (.d (.int .i64 a0.G.N))),(20,.one (.d (.int .i64 n1094)))] [((1,0),some (.box 27 (cTApp a0))),((2,0),some (.box 31 (cTConf a1))),((10,0),some (.row 57 5 (dat (List.map eTStep l1130))))] ac wd) ?_ ?_
     ·
      refine wp_block ?_
      refine r_while (fun nf ac wd => ∃ (n1141 : Int) (l1142 : List TStep),L_plain_Can_l2 n1094 nf n1141 l1142 = some e1131 ∧ SL ⟨wb,S,Φ,P0⟩ 78 100 [(2,.one (.ptr (1,0) 0)),(3,.one (.ptr (2,0) 0)),(5,.one (.own (10,0) l1142.length)),(6,.one (.nil)),(7,.one (.d (.int .i64 n1094))),(19,.one (.d (.int .i64 a0.G.N))),(20,.one (.d (.int .i64 n1094))),(23,.one (.d (.int .i64 n1141)))] [((1,0),some (.box 27 (cTApp a0))),((2,0),some (.box 31 (cTConf a1))),((10,0),some (.row 57 5 (dat (List.map eTStep l1142))))] ac wd) (((4 : Int) - 0).toNat + 1) ⟨0,l1095,hE1132,h.z⟩ (fun nf ac wd hJ => ?_)
      obtain ⟨n1141,l1142,hL1143,h⟩ := hJ
      cases nf with
      | zero => rw [L_plain_Can_l2] at hL1143; cases hL1143
      | succ nf =>
       rw [L_plain_Can_l2] at hL1143
       refine qs 101 [] [2,3,5,6,7,19,20,23,24] [(1,0),(2,0),(10,0)] h fun ac wd h => ?_
       refine wp_seq ?_
       rcases i2 hL1143 with ⟨hb1145,hL1143⟩ | ⟨hb1145,hL1143⟩
       ·
        refine kT h ?_
        refine wp_skip ?_
        change Code.wp Try.prog _ _ _ _
        refine wp_seq ?_
        refine wp_block ?_
        refine qs 103 [] [2,3,5,6,7,8,19,20,23] [(1,0),(2,0),(10,0)] h fun ac wd h => ?_
        obtain ⟨ha1147,hL1143⟩ := iT hL1143
        refine qe [] [2,3,5,6,7,19,20,23] [(1,0),(2,0),(108,0)] h fun ac wd h => ?_
        change Code.wp Try.prog _ _ _ _
        refine qe [] [2,3,5,6,7,19,20,23] [(1,0),(2,0),(108,0)] h fun ac wd h => ?_
        have h := h.sw (10,0) (108,0) 112
        exact ⟨nf,Nat.lt_succ_self nf,(IntKind.wrap .i64 (n1141 + 1)),(l1142 ++ [(TStep.mk 0 n1094 n1141 0 0)]),hL1143,h.z⟩
       ·
        refine kF h ?_
        refine wp_exit ?_
        injection hL1143 with hL1143; subst hL1143
        exact ⟨l1142,rfl,h.z⟩
     ·
      rintro ac wd ⟨l1130,rfl,h⟩
      (try dsimp only at hE1115)
      injection hE1115 with hE1115; subst hE1115
      exact ⟨l1130,rfl,h.z⟩
    ·
     rintro ac wd ⟨l1113,rfl,h⟩
     (try dsimp only at hL1096)
     refine qe [] [2,3,5,6,19,20] [(1,0),(2,0),(10,0)] h fun ac wd h => ?_
     exact ⟨nf,Nat.lt_succ_self nf,(IntKind.wrap .i64 (n1094 + 1)),l1113,hL1096,h.z⟩
   ·
    refine kF h ?_
    refine wp_exit ?_
    injection hL1096 with hL1096; subst hL1096
    exact ⟨l1095,rfl,h.z⟩
 ·
  rintro ac wd ⟨l1027,rfl,h⟩
  (try dsimp only at hD)
  refine wp_seq ?_
  refine qs 77 [] [2,3,5,6,35,36,37] [(1,0),(2,0),(10,0)] h fun ac wd h => ?_
  obtain ⟨e1432,hE1433,hD⟩ := Option.bind_eq_some_iff.1 hD
  refine r_meet (fun ac wd => ∃ (l1431 : List TStep),l1431 = e1432 ∧ SL ⟨wb,S,Φ,P0⟩ 78 162 [(2,.one (.ptr (1,0) 0)),(3,.one (.ptr (2,0) 0)),(5,.one (.own (10,0) l1431.length)),(6,.one (.nil))] [((1,0),some (.box 27 (cTApp a0))),((2,0),some (.box 31 (cTConf a1))),((10,0),some (.row 57 5 (dat (List.map eTStep l1431))))] ac wd) ?_ ?_
  ·
   refine wp_block ?_
   refine r_while (fun nf ac wd => ∃ (n1622 : Int) (l1623 : List TStep),L_plain_Can_l3 a1 nf n1622 l1623 = some e1432 ∧ SL ⟨wb,S,Φ,P0⟩ 78 161 [(2,.one (.ptr (1,0) 0)),(3,.one (.ptr (2,0) 0)),(5,.one (.own (10,0) l1623.length)),(6,.one (.nil)),(35,.one (.d (.sl (List.map (eL eTMsg) a1.Links)))),(36,.one (.d (.int .i64 (a1.Links.length : Int)))),(37,.one (.d (.int .i64 n1622)))] [((1,0),some (.box 27 (cTApp a0))),((2,0),some (.box 31 (cTConf a1))),((10,0),some (.row 57 5 (dat (List.map eTStep l1623))))] ac wd) (((a1.Links.length : Int) - 0).toNat + 1) ⟨0,l1027,hE1433,h.z⟩ (fun nf ac wd hJ => ?_)
   obtain ⟨n1622,l1623,hL1624,h⟩ := hJ
   cases nf with
   | zero => rw [L_plain_Can_l3] at hL1624; cases hL1624
   | succ nf =>
    rw [L_plain_Can_l3] at hL1624
    refine qs 162 [] [2,3,5,6,35,36,37,38] [(1,0),(2,0),(10,0)] h fun ac wd h => ?_
    refine wp_seq ?_
    rcases i2 hL1624 with ⟨hb1626,hL1624⟩ | ⟨hb1626,hL1624⟩
    ·
     refine kT h ?_
     refine wp_skip ?_
     change Code.wp Try.prog _ _ _ _
     obtain ⟨e1672,hE1673,hL1624⟩ := Option.bind_eq_some_iff.1 hL1624
     refine r_seqJ (fun ac wd => ∃ (l1671 : List TStep),l1671 = e1672 ∧ SL ⟨wb,S,Φ,P0⟩ 78 201 [(2,.one (.ptr (1,0) 0)),(3,.one (.ptr (2,0) 0)),(5,.one (.own (10,0) l1671.length)),(6,.one (.nil)),(35,.one (.d (.sl (List.map (eL eTMsg) a1.Links)))),(36,.one (.d (.int .i64 (a1.Links.length : Int)))),(37,.one (.d (.int .i64 n1622)))] [((1,0),some (.box 27 (cTApp a0))),((2,0),some (.box 31 (cTConf a1))),((10,0),some (.row 57 5 (dat (List.map eTStep l1671))))] ac wd) ?_ ?_
     ·
      refine wp_block ?_
      obtain ⟨x1676,hx1677a,hx1677b,hx1677c,hx1677d,hE1673⟩ := aB hE1673
      refine qs 167 [] [2,3,5,6,9,10,35,36,37] [(1,0),(2,0),(10,0)] h fun ac wd h => ?_
      refine qs 170 [] [2,3,5,6,9,35,36,37,42,43,44] [(1,0),(2,0),(10,0)] h fun ac wd h => ?_
      obtain ⟨e1719,hE1720,hE1673⟩ := Option.bind_eq_some_iff.1 hE1673
      refine r_meetQ (fun ac wd => ∃ (l1718 : List TStep),l1718 = e1719 ∧ SL ⟨wb,S,Φ,P0⟩ 78 201 [(2,.one (.ptr (1,0) 0)),(3,.one (.ptr (2,0) 0)),(5,.one (.own (10,0) l1718.length)),(6,.one (.nil)),(35,.one (.d (.sl (List.map (eL eTMsg) a1.Links)))),(36,.one (.d (.int .i64 (a1.Links.length : Int)))),(37,.one (.d (.int .i64 n1622)))] [((1,0),some (.box 27 (cTApp a0))),((2,0),some (.box 31 (cTConf a1))),((10,0),some (.row 57 5 (dat (List.map eTStep l1718))))] ac wd) ?_ ?_
      ·
       refine wp_block ?_
       refine r_while (fun nf ac wd => ∃ (n1747 : Int) (l1748 : List TStep),L_plain_Can_l4 n1622 x1676 nf n1747 l1748 = some e1719 ∧ SL ⟨wb,S,Φ,P0⟩ 78 200 [(2,.one (.ptr (1,0) 0)),(3,.one (.ptr (2,0) 0)),(5,.one (.own (10,0) l1748.length)),(6,.one (.nil)),(9,.one (.d (.int .i64 n1622))),(35,.one (.d (.sl (List.map (eL eTMsg) a1.Links)))),(36,.one (.d (.int .i64 (a1.Links.length : Int)))),(37,.one (.d (.int .i64 n1622))),(42,.one (.d (.sl (List.map eTMsg x1676)))),(43,.one (.d (.int .i64 (x1676.length : Int)))),(44,.one (.d (.int .i64 n1747)))] [((1,0),some (.box 27 (cTApp a0))),((2,0),some (.box 31 (cTConf a1))),((10,0),some (.row 57 5 (dat (List.map eTStep l1748))))] ac wd) (((x1676.length : Int) - 0).toNat + 1) ⟨0,l1623,hE1720,h.z⟩ (fun nf ac wd hJ => ?_)
       obtain ⟨n1747,l1748,hL1749,h⟩ := hJ
       cases nf with
       | zero => rw [L_plain_Can_l4] at hL1749; cases hL1749
       | succ nf =>
        rw [L_plain_Can_l4] at hL1749
        refine qs 201 [] [2,3,5,6,9,35,36,37,42,43,44,45] [(1,0),(2,0),(10,0)] h fun ac wd h => ?_
        refine wp_seq ?_
        rcases i2 hL1749 with ⟨hb1751,hL1749⟩ | ⟨hb1751,hL1749⟩
        ·
         refine kT h ?_
         refine wp_skip ?_
         change Code.wp Try.prog _ _ _ _
         refine wp_seq ?_
         refine wp_block ?_
         obtain ⟨x1759,hx1760a,hx1760b,hx1760c,hx1760d,hL1749⟩ := aB hL1749
         refine qs 205 [] [2,3,5,6,9,12,35,36,37,42,43,44] [(1,0),(2,0),(10,0),(203,0)] h fun ac wd h => ?_
         obtain ⟨ha1761,hL1749⟩ := iT hL1749
         refine qe [] [2,3,5,6,9,35,36,37,42,43,44] [(1,0),(2,0),(211,0)] h fun ac wd h => ?_
         change Code.wp Try.prog _ _ _ _
         refine qe [] [2,3,5,6,9,35,36,37,42,43,44] [(1,0),(2,0),(211,0)] h fun ac wd h => ?_
         have h := h.sw (10,0) (211,0) 215
         exact ⟨nf,Nat.lt_succ_self nf,(IntKind.wrap .i64 (n1747 + 1)),(l1748 ++ [(TStep.mk 1 0 0 n1622 x1759.Seq)]),hL1749,h.z⟩
        ·
         refine kF h ?_
         refine wp_exit ?_
         injection hL1749 with hL1749; subst hL1749
         exact ⟨l1748,rfl,h.z⟩
      ·
       rintro ac wd ⟨l1718,rfl,h⟩
       (try dsimp only at hE1673)
       injection hE1673 with hE1673; subst hE1673
       exact ⟨l1718,rfl,h.z⟩
     ·
      rintro ac wd ⟨l1671,rfl,h⟩
      (try dsimp only at hL1624)
      refine qe [] [2,3,5,6,35,36,37] [(1,0),(2,0),(10,0)] h fun ac wd h => ?_
      exact ⟨nf,Nat.lt_succ_self nf,(IntKind.wrap .i64 (n1622 + 1)),l1671,hL1624,h.z⟩
    ·
     refine kF h ?_
     refine wp_exit ?_
     injection hL1624 with hL1624; subst hL1624
     exact ⟨l1623,rfl,h.z⟩
  ·
   rintro ac wd ⟨l1431,rfl,h⟩
   (try dsimp only at hD)
   refine wp_seq ?_
   refine qs 165 [] [2,3,6,57,58,59] [(1,0),(2,0),(10,0)] h fun ac wd h => ?_
   refine wp_block ?_
   have h := SL.bornS h 6 57 5 (by simp only [EZ,simprocAttr, *] <;> rfl)
   refine r_while (fun nf ac wd => ∃ (n1889 : Int) (l1890 : List TStep),L_plain_Can_l5 a0 a1 l1431 nf n1889 l1890 = some r ∧ SL ⟨wb,S,Φ,P0⟩ 78 213 [(2,.one (.ptr (1,0) 0)),(3,.one (.ptr (2,0) 0)),(6,.one (.own (165,0) l1890.length)),(57,.one (.own (10,0) l1431.length)),(58,.one (.d (.int .i64 (l1431.length : Int)))),(59,.one (.d (.int .i64 n1889)))] [((1,0),some (.box 27 (cTApp a0))),((2,0),some (.box 31 (cTConf a1))),((10,0),some (.row 57 5 (dat (List.map eTStep l1431)))),((165,0),some (.row 57 5 (dat (List.map eTStep l1890))))] ac wd) (((l1431.length : Int) - 0).toNat + 1) ⟨0,([] : List TStep),hD,h.z⟩ (fun nf ac wd hJ => ?_)
   obtain ⟨n1889,l1890,hL1891,h⟩ := hJ
   cases nf with
   | zero => rw [L_plain_Can_l5] at hL1891; cases hL1891
   | succ nf =>
    rw [L_plain_Can_l5] at hL1891
    refine qs 214 [] [2,3,6,57,58,59,60] [(1,0),(2,0),(10,0),(165,0)] h fun ac wd h => ?_
    refine wp_seq ?_
    rcases i2 hL1891 with ⟨hb1893,hL1891⟩ | ⟨hb1893,hL1891⟩
    ·
     refine kT h ?_
     refine wp_skip ?_
     change Code.wp Try.prog _ _ _ _
     obtain ⟨e1905,hE1906,hL1891⟩ := Option.bind_eq_some_iff.1 hL1891
     refine r_seqJ (fun ac wd => ∃ (l1904 : List TStep),l1904 = e1905 ∧ SL ⟨wb,S,Φ,P0⟩ 78 235 [(2,.one (.ptr (1,0) 0)),(3,.one (.ptr (2,0) 0)),(6,.one (.own (233,0) l1904.length)),(57,.one (.own (10,0) l1431.length)),(58,.one (.d (.int .i64 (l1431.length : Int)))),(59,.one (.d (.int .i64 n1889)))] [((1,0),some (.box 27 (cTApp a0))),((2,0),some (.box 31 (cTConf a1))),((10,0),some (.row 57 5 (dat (List.map eTStep l1431)))),((233,0),some (.row 57 5 (dat (List.map eTStep l1904))))] ac wd) ?_ ?_
     ·
      refine wp_block ?_
      obtain ⟨x1909,hx1910a,hx1910b,hx1910c,hx1910d,hE1906⟩ := aB hE1906
      refine qs 218 [] [2,3,6,14,57,58,59] [(1,0),(2,0),(10,0),(165,0),(216,0)] h fun ac wd h => ?_
      obtain ⟨r1913,hc1914,hE1906⟩ := oB hE1906
      have hc1914k := L_plain_Apply_ok hc1914
      refine qs 228 [factE 221 hc1914k] [2,3,6,14,16,57,58,59] [(1,0),(2,0),(10,0),(165,0),(216,0)] h fun ac wd h => ?_
      refine qs 230 [] [2,3,6,14,57,58,59,71] [(1,0),(2,0),(10,0),(165,0),(216,0)] h fun ac wd h => ?_
      rcases i2e hE1906 with ⟨hb1915,hE1906⟩ | ⟨hb1915,hE1906⟩
      ·
       refine kT h ?_
       obtain ⟨ha1916,hE1906⟩ := iT hE1906
       refine qe [] [2,3,6,57,58,59] [(1,0),(2,0),(10,0),(233,0)] h fun ac wd h => ?_
       injection hE1906 with hE1906; subst hE1906
       exact ⟨(l1890 ++ [x1909]),rfl,h.z⟩
      ·
       refine kF h ?_
       refine wp_skip ?_
       have h := h.sw (233,0) (165,0) 235
       injection hE1906 with hE1906; subst hE1906
       exact ⟨l1890,rfl,h.z⟩
     ·
      rintro ac wd ⟨l1904,rfl,h⟩
      (try dsimp only at hL1891)
      refine qe [] [2,3,6,57,58,59] [(1,0),(2,0),(10,0),(233,0)] h fun ac wd h => ?_
      have h := h.sw (165,0) (233,0) 237
      exact ⟨nf,Nat.lt_succ_self nf,(IntKind.wrap .i64 (n1889 + 1)),l1904,hL1891,h.z⟩
    ·
     refine kF h ?_
     refine wp_exit ?_
     change Code.wp Try.prog _ _ _ _
     refine qs 216 [] [4] [(165,0)] h fun ac wd h => ?_
     refine wp_ret ?_
     have h := h.sw (1,0) (165,0) 216
     injection hL1891 with hL1891
     subst hL1891
     exact rO h [.tmp 4] [(1,0)]
theorem L_plain_Can_ok {a0 : TApp} {a1 : TConf} {r : (List TStep)} (hD : L_plain_Can a0 a1 = some r) :
  CallH Try.prog 42 [.agg (cTApp a0),.agg (cTConf a1)] []
   (.one (.d (.sl (List.map eTStep r)))) [] :=
 (L_plain_Can_own hD).fr

theorem L_law05_Ref_ok {a0 : TConf} {r : TConf} (hD : L_law05_Ref a0 = some r) :
  CallH Try.prog 21 [.agg (cTConf a0)] []
   (.agg [.d (.sl (List.map eI r.States)),.d (.sl (List.map (eL eTMsg) r.Links)),.d (.sl (List.map eI r.Sent))]) [] := by
 unfold L_law05_Ref at hD
 refine rc Try.func21 rfl Try.ntmps21 fun S Φ P0 wb ac h => ?_
 refine qs 3 [] [1,2] [(1,0),(2,0)] h fun ac wd h => ?_
 refine qs 11 [] [2] [(2,0)] h fun ac wd h => ?_
 refine wp_ret ?_
 injection hD with hD
 subst hD
 exact rE h [.cell 2 40]

theorem L_ref01_Ints_ok {a0 : (List Int)} {a1 : (List Int)} {r : Bool} (hD : L_ref01_Ints a0 a1 = some r) :
  CallH Try.prog 34 [.one (.d (.sl (List.map eI a0))),.one (.d (.sl (List.map eI a1)))] []
   (.one (.d (.bool r))) [] := by
 unfold L_ref01_Ints at hD
 refine rc Try.func34 rfl Try.ntmps34 fun S Φ P0 wb ac h => ?_
 refine qs 2 [] [0,1] [] h fun ac wd h => ?_
 refine wp_seq ?_
 refine qs 7 [] [0,1,10] [] h fun ac wd h => ?_
 rcases i2e hD with ⟨hb131,hD⟩ | ⟨hb131,hD⟩
 ·
  refine kF h ?_
  refine wp_skip ?_
  change Code.wp Try.prog _ _ _ _
  refine wp_seq ?_
  refine qs 8 [] [0,1,5] [] h fun ac wd h => ?_
  refine wp_block ?_
  refine r_while (fun nf ac wd => ∃ (n235 : Int),L_ref01_Ints_l1 a0 a1 nf n235 = some r ∧ SL ⟨wb,S,Φ,P0⟩ 26 40 [(0,.one (.d (.sl (List.map eI a0)))),(1,.one (.d (.sl (List.map eI a1)))),(5,.one (.d (.int .i64 n235)))] [] ac wd) (((a0.length : Int) - 0).toNat + 1) ⟨0,hD,h.z⟩ (fun nf ac wd hJ => ?_)
  obtain ⟨n235,hL236,h⟩ := hJ
  cases nf with
  | zero => rw [L_ref01_Ints_l1] at hL236; cases hL236
  | succ nf =>
   rw [L_ref01_Ints_l1] at hL236
   refine wp_seq ?_
   refine qs 44 [] [0,1,5,14] [] h fun ac wd h => ?_
   rcases i2 hL236 with ⟨hb238,hL236⟩ | ⟨hb238,hL236⟩
   ·
    refine kT h ?_
    refine wp_skip ?_
    change Code.wp Try.prog _ _ _ _
    refine wp_seq ?_
    refine wp_block ?_
    obtain ⟨x252,hx253a,hx253b,hx253c,hx253d,hL236⟩ := aB hL236
    obtain ⟨x254,hx255a,hx255b,hx255c,hx255d,hL236⟩ := aB hL236
    refine ds 53 [] [0,1,5,25] [] h fun ac wd h => ?_
    rcases i2e hL236 with ⟨hb256,hL236⟩ | ⟨hb256,hL236⟩
    ·
     refine kF h ?_
     refine wp_skip ?_
     change Code.wp Try.prog _ _ _ _
     refine qe [] [0,1,5] [] h fun ac wd h => ?_
     exact ⟨nf,Nat.lt_succ_self nf,(IntKind.wrap .i64 (n235 + 1)),hL236,h.z⟩
    ·
     refine kT h ?_
     refine qs 54 [] [4] [] h fun ac wd h => ?_
     refine wp_ret ?_
     injection hL236 with hL236
     subst hL236
     exact rE h [.tmp 4]
   ·
    refine kF h ?_
    refine wp_exit ?_
    change Code.wp Try.prog _ _ _ _
    refine qs 45 [] [4] [] h fun ac wd h => ?_
    refine wp_ret ?_
    injection hL236 with hL236
    subst hL236
    exact rE h [.tmp 4]
 ·
  refine kT h ?_
  refine qs 8 [] [4] [] h fun ac wd h => ?_
  refine wp_ret ?_
  injection hD with hD
  subst hD
  exact rE h [.tmp 4]

theorem L_ref05_Msgs_ok {a0 : (List TMsg)} {a1 : (List TMsg)} {r : Bool} (hD : L_ref05_Msgs a0 a1 = some r) :
  CallH Try.prog 78 [.one (.d (.sl (List.map eTMsg a0))),.one (.d (.sl (List.map eTMsg a1)))] []
   (.one (.d (.bool r))) [] := by
 unfold L_ref05_Msgs at hD
 refine rc Try.func78 rfl Try.ntmps78 fun S Φ P0 wb ac h => ?_
 refine qs 2 [] [0,1] [] h fun ac wd h => ?_
 refine wp_seq ?_
 refine qs 7 [] [0,1,10] [] h fun ac wd h => ?_
 rcases i2e hD with ⟨hb155,hD⟩ | ⟨hb155,hD⟩
 ·
  refine kF h ?_
  refine wp_skip ?_
  change Code.wp Try.prog _ _ _ _
  refine wp_seq ?_
  refine qs 8 [] [0,1,5] [] h fun ac wd h => ?_
  refine wp_block ?_
  refine r_while (fun nf ac wd => ∃ (n279 : Int),L_ref05_Msgs_l1 a0 a1 nf n279 = some r ∧ SL ⟨wb,S,Φ,P0⟩ 26 40 [(0,.one (.d (.sl (List.map eTMsg a0)))),(1,.one (.d (.sl (List.map eTMsg a1)))),(5,.one (.d (.int .i64 n279)))] [] ac wd) (((a0.length : Int) - 0).toNat + 1) ⟨0,hD,h.z⟩ (fun nf ac wd hJ => ?_)
  obtain ⟨n279,hL280,h⟩ := hJ
  cases nf with
  | zero => rw [L_ref05_Msgs_l1] at hL280; cases hL280
  | succ nf =>
   rw [L_ref05_Msgs_l1] at hL280
   refine wp_seq ?_
   refine qs 44 [] [0,1,5,14] [] h fun ac wd h => ?_
   rcases i2 hL280 with ⟨hb282,hL280⟩ | ⟨hb282,hL280⟩
   ·
    refine kT h ?_
    refine wp_skip ?_
    change Code.wp Try.prog _ _ _ _
    refine wp_seq ?_
    refine wp_block ?_
    obtain ⟨x299,hx300a,hx300b,hx300c,hx300d,hL280⟩ := aB hL280
    obtain ⟨x301,hx302a,hx302b,hx302c,hx302d,hL280⟩ := aB hL280
    have hz303 := eq_TMsg_vv x299 x301
    refine ds 53 [] [0,1,5,25] [] h fun ac wd h => ?_
    rcases i2e hL280 with ⟨hb304,hL280⟩ | ⟨hb304,hL280⟩
    ·
     refine kF h ?_
     refine wp_skip ?_
     change Code.wp Try.prog _ _ _ _
     refine qe [] [0,1,5] [] h fun ac wd h => ?_
     exact ⟨nf,Nat.lt_succ_self nf,(IntKind.wrap .i64 (n279 + 1)),hL280,h.z⟩
    ·
     refine kT h ?_
     refine qs 54 [] [4] [] h fun ac wd h => ?_
     refine wp_ret ?_
     injection hL280 with hL280
     subst hL280
     exact rE h [.tmp 4]
   ·
    refine kF h ?_
    refine wp_exit ?_
    change Code.wp Try.prog _ _ _ _
    refine qs 45 [] [4] [] h fun ac wd h => ?_
    refine wp_ret ?_
    injection hL280 with hL280
    subst hL280
    exact rE h [.tmp 4]
 ·
  refine kT h ?_
  refine qs 8 [] [4] [] h fun ac wd h => ?_
  refine wp_ret ?_
  injection hD with hD
  subst hD
  exact rE h [.tmp 4]

theorem L_ref05_Same_ok {a0 : TConf} {a1 : TConf} {r : Bool} (hD : L_ref05_Same a0 a1 = some r) :
  CallH Try.prog 45 [.agg (cTConf a0),.agg (cTConf a1)] []
   (.one (.d (.bool r))) [] := by
 unfold L_ref05_Same at hD
 refine rc Try.func45 rfl Try.ntmps45 fun S Φ P0 wb ac h => ?_
 refine qs 4 [] [2,3] [(1,0),(2,0)] h fun ac wd h => ?_
 refine wp_seq ?_
 obtain ⟨e200,hE201,hD⟩ := Option.bind_eq_some_iff.1 hD
 refine r_seqJ (fun ac wd => ∃ (b199 : Bool),b199 = e200 ∧ SL ⟨wb,S,Φ,P0⟩ 48 27 [(2,.one (.ptr (1,0) 0)),(3,.one (.ptr (2,0) 0)),(28,.one (.d (.bool b199)))] [((1,0),some (.box 40 (cTConf a0))),((2,0),some (.box 40 (cTConf a1)))] ac wd) ?_ ?_
 ·
  obtain ⟨r202,hc203,hE201⟩ := oB hE201
  rcases i2b hE201 with ⟨hb204,hE201⟩ | ⟨hb204,hE201⟩
  ·
   obtain ⟨r205,hc206,hE201⟩ := oB hE201
   rcases i2b hE201 with ⟨hb207,hE201⟩ | ⟨hb207,hE201⟩
   ·
    have hc203k := L_ref01_Ints_ok hc203
    have hc206k := L_ref01_Ints_ok hc206
    refine qeg [factE 8 hc203k,factE 15 hc206k] [none,none,none,none,none,none,none,some (some 12,false),some (some 12,false),some (some 12,false),some (some 12,false),some (some 12,false),some (some 12,false),none,none,some (some 20,false),some (some 20,false),some (some 20,false),some (some 20,false),some (some 20,false),some (some 20,false),some (some 20,false),none] [2,3,28] [(1,0),(2,0)] h fun ac wd h => ?_
    injection hE201 with hE201; subst hE201
    exact ⟨!(decide ((a0.Links.length : Int) = (a1.Links.length : Int))),rfl,h.z⟩
   ·
    have hc203k := L_ref01_Ints_ok hc203
    have hc206k := L_ref01_Ints_ok hc206
    refine qeg [factE 8 hc203k,factE 15 hc206k] [none,none,none,none,none,none,none,some (some 12,false),some (some 12,false),some (some 12,false),some (some 12,false),some (some 12,false),some (some 12,false),none,none,some (some 20,false),some (some 20,false),some (some 20,false),some (some 20,false),some (some 20,false),some (some 20,false),some (some 20,false),none] [2,3,28] [(1,0),(2,0)] h fun ac wd h => ?_
    injection hE201 with hE201; subst hE201
    exact ⟨true,rfl,h.z⟩
  ·
   have hc203k := L_ref01_Ints_ok hc203
   refine qeg [factE 8 hc203k] [none,none,none,none,none,none,none,some (some 12,false),some (some 12,false),some (some 12,false),some (some 12,false),some (some 12,false),some (some 12,false),none,none,some (some 20,false),some (some 20,false),some (some 20,false),some (some 20,false),some (some 20,false),some (some 20,false),some (some 20,false),none] [2,3,28] [(1,0),(2,0)] h fun ac wd h => ?_
   injection hE201 with hE201; subst hE201
   exact ⟨true,rfl,h.z⟩
 ·
  rintro ac wd ⟨b199,rfl,h⟩
  (try dsimp only at hD)
  rcases i2b hD with ⟨hb209,hD⟩ | ⟨hb209,hD⟩
  ·
   refine kT h ?_
   refine qs 28 [] [4] [] h fun ac wd h => ?_
   refine wp_ret ?_
   injection hD with hD
   subst hD
   exact rE h [.tmp 4]
  ·
   refine kF h ?_
   refine wp_skip ?_
   change Code.wp Try.prog _ _ _ _
   refine wp_seq ?_
   refine qs 28 [] [2,3,5] [(1,0),(2,0)] h fun ac wd h => ?_
   refine wp_block ?_
   refine r_while (fun nf ac wd => ∃ (n353 : Int),L_ref05_Same_l1 a0 a1 nf n353 = some r ∧ SL ⟨wb,S,Φ,P0⟩ 48 68 [(2,.one (.ptr (1,0) 0)),(3,.one (.ptr (2,0) 0)),(5,.one (.d (.int .i64 n353)))] [((1,0),some (.box 40 (cTConf a0))),((2,0),some (.box 40 (cTConf a1)))] ac wd) (((a0.Links.length : Int) - 0).toNat + 1) ⟨0,hD,h.z⟩ (fun nf ac wd hJ => ?_)
   obtain ⟨n353,hL354,h⟩ := hJ
   cases nf with
   | zero => rw [L_ref05_Same_l1] at hL354; cases hL354
   | succ nf =>
    rw [L_ref05_Same_l1] at hL354
    refine wp_seq ?_
    refine qs 73 [] [2,3,5,33] [(1,0),(2,0)] h fun ac wd h => ?_
    rcases i2 hL354 with ⟨hb356,hL354⟩ | ⟨hb356,hL354⟩
    ·
     refine kT h ?_
     refine wp_skip ?_
     change Code.wp Try.prog _ _ _ _
     refine wp_seq ?_
     refine wp_block ?_
     obtain ⟨x376,hx377a,hx377b,hx377c,hx377d,hL354⟩ := aB hL354
     obtain ⟨x378,hx379a,hx379b,hx379c,hx379d,hL354⟩ := aB hL354
     obtain ⟨r380,hc381,hL354⟩ := oB hL354
     have hc381k := L_ref05_Msgs_ok hc381
     refine ds 85 [factE 83 hc381k] [2,3,5,47] [(1,0),(2,0)] h fun ac wd h => ?_
     rcases i2b hL354 with ⟨hb382,hL354⟩ | ⟨hb382,hL354⟩
     ·
      refine kF h ?_
      refine wp_skip ?_
      change Code.wp Try.prog _ _ _ _
      refine qe [] [2,3,5] [(1,0),(2,0)] h fun ac wd h => ?_
      exact ⟨nf,Nat.lt_succ_self nf,(IntKind.wrap .i64 (n353 + 1)),hL354,h.z⟩
     ·
      refine kT h ?_
      refine qs 86 [] [4] [] h fun ac wd h => ?_
      refine wp_ret ?_
      injection hL354 with hL354
      subst hL354
      exact rE h [.tmp 4]
    ·
     refine kF h ?_
     refine wp_exit ?_
     change Code.wp Try.prog _ _ _ _
     refine qs 74 [] [4] [] h fun ac wd h => ?_
     refine wp_ret ?_
     injection hL354 with hL354
     subst hL354
     exact rE h [.tmp 4]

theorem L_law05_Step_ok {a0 : TStep} {r : TStep} (hD : L_law05_Step a0 = some r) :
  CallH Try.prog 47 [.agg (cTStep a0)] []
   (.agg [.d (.int .i64 r.Kind),.d (.int .i64 r.Node),.d (.int .i64 r.K),.d (.int .i64 r.Link),.d (.int .i64 r.Seq)]) [] := by
 unfold L_law05_Step at hD
 refine rc Try.func47 rfl Try.ntmps47 fun S Φ P0 wb ac h => ?_
 refine qs 3 [] [1,2] [(1,0),(2,0)] h fun ac wd h => ?_
 refine qs 15 [] [2] [(2,0)] h fun ac wd h => ?_
 refine wp_ret ?_
 injection hD with hD
 subst hD
 exact rE h [.cell 2 85]

theorem L_law05_Steps_own {a0 : (List TStep)} {r : (List TStep)} (hD : L_law05_Steps a0 = some r) :
  CallH Try.prog 49 [.one (.d (.sl (List.map eTStep a0)))] []
   (.one (.own (1,0) r.length)) [((1,0),some (.row 85 5 (dat (List.map eTStep r))))] := by
 unfold L_law05_Steps at hD
 refine rc Try.func49 rfl Try.ntmps49 fun S Φ P0 wb ac h => ?_
 refine qs 2 [] [0] [] h fun ac wd h => ?_
 refine qs 4 [] [0,3] [(2,0)] h fun ac wd h => ?_
 refine wp_seq ?_
 refine qs 5 [] [0,3,4] [(2,0)] h fun ac wd h => ?_
 refine wp_block ?_
 refine r_while (fun nf ac wd => ∃ (n142 : Int) (l143 : List TStep),L_law05_Steps_l1 a0 nf n142 l143 = some r ∧ SL ⟨wb,S,Φ,P0⟩ 21 37 [(0,.one (.d (.sl (List.map eTStep a0)))),(3,.one (.own (2,0) l143.length)),(4,.one (.d (.int .i64 n142)))] [((2,0),some (.row 85 5 (dat (List.map eTStep l143))))] ac wd) (((a0.length : Int) - 0).toNat + 1) ⟨0,([] : List TStep),hD,h.z⟩ (fun nf ac wd hJ => ?_)
 obtain ⟨n142,l143,hL144,h⟩ := hJ
 cases nf with
 | zero => rw [L_law05_Steps_l1] at hL144; cases hL144
 | succ nf =>
  rw [L_law05_Steps_l1] at hL144
  refine wp_seq ?_
  refine qs 41 [] [0,3,4,9] [(2,0)] h fun ac wd h => ?_
  rcases i2 hL144 with ⟨hb146,hL144⟩ | ⟨hb146,hL144⟩
  ·
   refine kT h ?_
   refine wp_skip ?_
   change Code.wp Try.prog _ _ _ _
   refine wp_seq ?_
   refine wp_block ?_
   obtain ⟨x152,hx153a,hx153b,hx153c,hx153d,hL144⟩ := aB hL144
   obtain ⟨r154,hc155,hL144⟩ := oB hL144
   obtain ⟨ha156,hL144⟩ := iT hL144
   have hc155k := L_law05_Step_ok hc155
   refine qe [factE 46 hc155k] [0,3,4] [(48,0)] h fun ac wd h => ?_
   change Code.wp Try.prog _ _ _ _
   refine qe [] [0,3,4] [(48,0)] h fun ac wd h => ?_
   have h := h.sw (2,0) (48,0) 53
   exact ⟨nf,Nat.lt_succ_self nf,(IntKind.wrap .i64 (n142 + 1)),(l143 ++ [r154]),hL144,h.z⟩
  ·
   refine kF h ?_
   refine wp_exit ?_
   change Code.wp Try.prog _ _ _ _
   refine qs 43 [] [2] [(2,0)] h fun ac wd h => ?_
   refine wp_ret ?_
   have h := h.sw (1,0) (2,0) 43
   injection hL144 with hL144
   subst hL144
   exact rO h [.tmp 2] [(1,0)]
theorem L_law05_Steps_ok {a0 : (List TStep)} {r : (List TStep)} (hD : L_law05_Steps a0 = some r) :
  CallH Try.prog 49 [.one (.d (.sl (List.map eTStep a0)))] []
   (.one (.d (.sl (List.map eTStep r)))) [] :=
 (L_law05_Steps_own hD).fr

theorem L_ref05_Steps_ok {a0 : (List TStep)} {a1 : (List TStep)} {r : Bool} (hD : L_ref05_Steps a0 a1 = some r) :
  CallH Try.prog 48 [.one (.d (.sl (List.map eTStep a0))),.one (.d (.sl (List.map eTStep a1)))] []
   (.one (.d (.bool r))) [] := by
 unfold L_ref05_Steps at hD
 refine rc Try.func48 rfl Try.ntmps48 fun S Φ P0 wb ac h => ?_
 refine qs 2 [] [0,1] [] h fun ac wd h => ?_
 refine wp_seq ?_
 refine qs 7 [] [0,1,10] [] h fun ac wd h => ?_
 rcases i2e hD with ⟨hb155,hD⟩ | ⟨hb155,hD⟩
 ·
  refine kF h ?_
  refine wp_skip ?_
  change Code.wp Try.prog _ _ _ _
  refine wp_seq ?_
  refine qs 8 [] [0,1,5] [] h fun ac wd h => ?_
  refine wp_block ?_
  refine r_while (fun nf ac wd => ∃ (n279 : Int),L_ref05_Steps_l1 a0 a1 nf n279 = some r ∧ SL ⟨wb,S,Φ,P0⟩ 26 40 [(0,.one (.d (.sl (List.map eTStep a0)))),(1,.one (.d (.sl (List.map eTStep a1)))),(5,.one (.d (.int .i64 n279)))] [] ac wd) (((a0.length : Int) - 0).toNat + 1) ⟨0,hD,h.z⟩ (fun nf ac wd hJ => ?_)
  obtain ⟨n279,hL280,h⟩ := hJ
  cases nf with
  | zero => rw [L_ref05_Steps_l1] at hL280; cases hL280
  | succ nf =>
   rw [L_ref05_Steps_l1] at hL280
   refine wp_seq ?_
   refine qs 44 [] [0,1,5,14] [] h fun ac wd h => ?_
   rcases i2 hL280 with ⟨hb282,hL280⟩ | ⟨hb282,hL280⟩
   ·
    refine kT h ?_
    refine wp_skip ?_
    change Code.wp Try.prog _ _ _ _
    refine wp_seq ?_
    refine wp_block ?_
    obtain ⟨x299,hx300a,hx300b,hx300c,hx300d,hL280⟩ := aB hL280
    obtain ⟨x301,hx302a,hx302b,hx302c,hx302d,hL280⟩ := aB hL280
    have hz303 := eq_TStep_vv x299 x301
    refine ds 53 [] [0,1,5,25] [] h fun ac wd h => ?_
    rcases i2e hL280 with ⟨hb304,hL280⟩ | ⟨hb304,hL280⟩
    ·
     refine kF h ?_
     refine wp_skip ?_
     change Code.wp Try.prog _ _ _ _
     refine qe [] [0,1,5] [] h fun ac wd h => ?_
     exact ⟨nf,Nat.lt_succ_self nf,(IntKind.wrap .i64 (n279 + 1)),hL280,h.z⟩
    ·
     refine kT h ?_
     refine qs 54 [] [4] [] h fun ac wd h => ?_
     refine wp_ret ?_
     injection hL280 with hL280
     subst hL280
     exact rE h [.tmp 4]
   ·
    refine kF h ?_
    refine wp_exit ?_
    change Code.wp Try.prog _ _ _ _
    refine qs 45 [] [4] [] h fun ac wd h => ?_
    refine wp_ret ?_
    injection hL280 with hL280
    subst hL280
    exact rE h [.tmp 4]
 ·
  refine kT h ?_
  refine qs 8 [] [4] [] h fun ac wd h => ?_
  refine wp_ret ?_
  injection hD with hD
  subst hD
  exact rE h [.tmp 4]

theorem L_slices_Equal_int_int_ok {a0 : (List Int)} {a1 : (List Int)} {r : Bool} (hD : L_slices_Equal_int_int a0 a1 = some r) :
  CallH Try.prog 83 [.one (.d (.sl (List.map eI a0))),.one (.d (.sl (List.map eI a1)))] []
   (.one (.d (.bool r))) [] := by
 unfold L_slices_Equal_int_int at hD
 refine rc Try.func83 rfl Try.ntmps83 fun S Φ P0 wb ac h => ?_
 refine qs 2 [] [0,1] [] h fun ac wd h => ?_
 refine wp_seq ?_
 refine qs 7 [] [0,1,10] [] h fun ac wd h => ?_
 rcases i2e hD with ⟨hb131,hD⟩ | ⟨hb131,hD⟩
 ·
  refine kF h ?_
  refine wp_skip ?_
  change Code.wp Try.prog _ _ _ _
  refine wp_seq ?_
  refine qs 10 [] [0,1,12,13] [] h fun ac wd h => ?_
  refine wp_block ?_
  refine r_while (fun nf ac wd => ∃ (n235 : Int),L_slices_Equal_int_int_l1 a0 a1 nf n235 = some r ∧ SL ⟨wb,S,Φ,P0⟩ 26 38 [(0,.one (.d (.sl (List.map eI a0)))),(1,.one (.d (.sl (List.map eI a1)))),(12,.one (.d (.int .i64 (a0.length : Int)))),(13,.one (.d (.int .i64 n235)))] [] ac wd) (((a0.length : Int) - 0).toNat + 1) ⟨0,hD,h.z⟩ (fun nf ac wd hJ => ?_)
  obtain ⟨n235,hL236,h⟩ := hJ
  cases nf with
  | zero => rw [L_slices_Equal_int_int_l1] at hL236; cases hL236
  | succ nf =>
   rw [L_slices_Equal_int_int_l1] at hL236
   refine qs 39 [] [0,1,12,13,14] [] h fun ac wd h => ?_
   refine wp_seq ?_
   rcases i2 hL236 with ⟨hb238,hL236⟩ | ⟨hb238,hL236⟩
   ·
    refine kT h ?_
    refine wp_skip ?_
    change Code.wp Try.prog _ _ _ _
    refine wp_seq ?_
    refine wp_block ?_
    refine qs 41 [] [0,1,5,12,13] [] h fun ac wd h => ?_
    obtain ⟨x252,hx253a,hx253b,hx253c,hx253d,hL236⟩ := aB hL236
    obtain ⟨x254,hx255a,hx255b,hx255c,hx255d,hL236⟩ := aB hL236
    refine ds 50 [] [0,1,12,13,24] [] h fun ac wd h => ?_
    rcases i2e hL236 with ⟨hb256,hL236⟩ | ⟨hb256,hL236⟩
    ·
     refine kF h ?_
     refine wp_skip ?_
     change Code.wp Try.prog _ _ _ _
     refine qe [] [0,1,12,13] [] h fun ac wd h => ?_
     exact ⟨nf,Nat.lt_succ_self nf,(IntKind.wrap .i64 (n235 + 1)),hL236,h.z⟩
    ·
     refine kT h ?_
     refine qs 51 [] [4] [] h fun ac wd h => ?_
     refine wp_ret ?_
     injection hL236 with hL236
     subst hL236
     exact rE h [.tmp 4]
   ·
    refine kF h ?_
    refine wp_exit ?_
    change Code.wp Try.prog _ _ _ _
    refine qs 40 [] [4] [] h fun ac wd h => ?_
    refine wp_ret ?_
    injection hL236 with hL236
    subst hL236
    exact rE h [.tmp 4]
 ·
  refine kT h ?_
  refine qs 8 [] [4] [] h fun ac wd h => ?_
  refine wp_ret ?_
  injection hD with hD
  subst hD
  exact rE h [.tmp 4]

theorem L_slices_Equal_api_Msg_api_Msg_ok {a0 : (List TMsg)} {a1 : (List TMsg)} {r : Bool} (hD : L_slices_Equal_api_Msg_api_Msg a0 a1 = some r) :
  CallH Try.prog 85 [.one (.d (.sl (List.map eTMsg a0))),.one (.d (.sl (List.map eTMsg a1)))] []
   (.one (.d (.bool r))) [] := by
 unfold L_slices_Equal_api_Msg_api_Msg at hD
 refine rc Try.func85 rfl Try.ntmps85 fun S Φ P0 wb ac h => ?_
 refine qs 2 [] [0,1] [] h fun ac wd h => ?_
 refine wp_seq ?_
 refine qs 7 [] [0,1,10] [] h fun ac wd h => ?_
 rcases i2e hD with ⟨hb155,hD⟩ | ⟨hb155,hD⟩
 ·
  refine kF h ?_
  refine wp_skip ?_
  change Code.wp Try.prog _ _ _ _
  refine wp_seq ?_
  refine qs 10 [] [0,1,12,13] [] h fun ac wd h => ?_
  refine wp_block ?_
  refine r_while (fun nf ac wd => ∃ (n279 : Int),L_slices_Equal_api_Msg_api_Msg_l1 a0 a1 nf n279 = some r ∧ SL ⟨wb,S,Φ,P0⟩ 26 38 [(0,.one (.d (.sl (List.map eTMsg a0)))),(1,.one (.d (.sl (List.map eTMsg a1)))),(12,.one (.d (.int .i64 (a0.length : Int)))),(13,.one (.d (.int .i64 n279)))] [] ac wd) (((a0.length : Int) - 0).toNat + 1) ⟨0,hD,h.z⟩ (fun nf ac wd hJ => ?_)
  obtain ⟨n279,hL280,h⟩ := hJ
  cases nf with
  | zero => rw [L_slices_Equal_api_Msg_api_Msg_l1] at hL280; cases hL280
  | succ nf =>
   rw [L_slices_Equal_api_Msg_api_Msg_l1] at hL280
   refine qs 39 [] [0,1,12,13,14] [] h fun ac wd h => ?_
   refine wp_seq ?_
   rcases i2 hL280 with ⟨hb282,hL280⟩ | ⟨hb282,hL280⟩
   ·
    refine kT h ?_
    refine wp_skip ?_
    change Code.wp Try.prog _ _ _ _
    refine wp_seq ?_
    refine wp_block ?_
    refine qs 41 [] [0,1,5,12,13] [] h fun ac wd h => ?_
    obtain ⟨x299,hx300a,hx300b,hx300c,hx300d,hL280⟩ := aB hL280
    obtain ⟨x301,hx302a,hx302b,hx302c,hx302d,hL280⟩ := aB hL280
    have hz303 := eq_TMsg_vv x299 x301
    refine ds 50 [] [0,1,12,13,24] [] h fun ac wd h => ?_
    rcases i2e hL280 with ⟨hb304,hL280⟩ | ⟨hb304,hL280⟩
    ·
     refine kF h ?_
     refine wp_skip ?_
     change Code.wp Try.prog _ _ _ _
     refine qe [] [0,1,12,13] [] h fun ac wd h => ?_
     exact ⟨nf,Nat.lt_succ_self nf,(IntKind.wrap .i64 (n279 + 1)),hL280,h.z⟩
    ·
     refine kT h ?_
     refine qs 51 [] [4] [] h fun ac wd h => ?_
     refine wp_ret ?_
     injection hL280 with hL280
     subst hL280
     exact rE h [.tmp 4]
   ·
    refine kF h ?_
    refine wp_exit ?_
    change Code.wp Try.prog _ _ _ _
    refine qs 40 [] [4] [] h fun ac wd h => ?_
    refine wp_ret ?_
    injection hL280 with hL280
    subst hL280
    exact rE h [.tmp 4]
 ·
  refine kT h ?_
  refine qs 8 [] [4] [] h fun ac wd h => ?_
  refine wp_ret ?_
  injection hD with hD
  subst hD
  exact rE h [.tmp 4]

theorem L_slices_EqualFunc_api_Msg_api_Msg_api_Msg_api_Msg_ok {a0 : (List (List TMsg))} {a1 : (List (List TMsg))} {r : Bool} (hD : L_slices_EqualFunc_api_Msg_api_Msg_api_Msg_api_Msg a0 a1 = some r) :
  CallH Try.prog 84 [.one (.d (.sl (List.map (eL eTMsg) a0))),.one (.d (.sl (List.map (eL eTMsg) a1))),.one (.d (.fn 85 [] []))] []
   (.one (.d (.bool r))) [] := by
 unfold L_slices_EqualFunc_api_Msg_api_Msg_api_Msg_api_Msg at hD
 refine rc Try.func84 rfl Try.ntmps84 fun S Φ P0 wb ac h => ?_
 refine qs 2 [] [0,1,2] [] h fun ac wd h => ?_
 refine wp_seq ?_
 refine qs 7 [] [0,1,2,14] [] h fun ac wd h => ?_
 rcases i2e hD with ⟨hb179,hD⟩ | ⟨hb179,hD⟩
 ·
  refine kF h ?_
  refine wp_skip ?_
  change Code.wp Try.prog _ _ _ _
  refine wp_seq ?_
  refine qs 10 [] [1,2,15,16,17] [] h fun ac wd h => ?_
  refine wp_block ?_
  refine r_while (fun nf ac wd => ∃ (n323 : Int),L_slices_EqualFunc_api_Msg_api_Msg_api_Msg_api_Msg_l1 a0 a1 nf n323 = some r ∧ SL ⟨wb,S,Φ,P0⟩ 32 46 [(1,.one (.d (.sl (List.map (eL eTMsg) a1)))),(2,.one (.d (.fn 85 [] []))),(15,.one (.d (.sl (List.map (eL eTMsg) a0)))),(16,.one (.d (.int .i64 (a0.length : Int)))),(17,.one (.d (.int .i64 n323)))] [] ac wd) (((a0.length : Int) - 0).toNat + 1) ⟨0,hD,h.z⟩ (fun nf ac wd hJ => ?_)
  obtain ⟨n323,hL324,h⟩ := hJ
  cases nf with
  | zero => rw [L_slices_EqualFunc_api_Msg_api_Msg_api_Msg_api_Msg_l1] at hL324; cases hL324
  | succ nf =>
   rw [L_slices_EqualFunc_api_Msg_api_Msg_api_Msg_api_Msg_l1] at hL324
   refine qs 47 [] [1,2,15,16,17,18] [] h fun ac wd h => ?_
   refine wp_seq ?_
   rcases i2 hL324 with ⟨hb326,hL324⟩ | ⟨hb326,hL324⟩
   ·
    refine kT h ?_
    refine wp_skip ?_
    change Code.wp Try.prog _ _ _ _
    refine wp_seq ?_
    refine wp_block ?_
    obtain ⟨x342,hx343a,hx343b,hx343c,hx343d,hL324⟩ := aB hL324
    refine qs 52 [] [1,2,7,8,15,16,17] [] h fun ac wd h => ?_
    obtain ⟨x346,hx347a,hx347b,hx347c,hx347d,hL324⟩ := aB hL324
    refine qs 57 [] [1,2,8,9,15,16,17] [] h fun ac wd h => ?_
    obtain ⟨r350,hc351,hL324⟩ := oB hL324
    have hc351k := L_slices_Equal_api_Msg_api_Msg_ok hc351
    refine qs 62 [factE 60 hc351k] [1,2,15,16,17,30] [] h fun ac wd h => ?_
    rcases i2b hL324 with ⟨hb352,hL324⟩ | ⟨hb352,hL324⟩
    ·
     refine kF h ?_
     refine wp_skip ?_
     change Code.wp Try.prog _ _ _ _
     refine qe [] [1,2,15,16,17] [] h fun ac wd h => ?_
     exact ⟨nf,Nat.lt_succ_self nf,(IntKind.wrap .i64 (n323 + 1)),hL324,h.z⟩
    ·
     refine kT h ?_
     refine qs 63 [] [6] [] h fun ac wd h => ?_
     refine wp_ret ?_
     injection hL324 with hL324
     subst hL324
     exact rE h [.tmp 6]
   ·
    refine kF h ?_
    refine wp_exit ?_
    change Code.wp Try.prog _ _ _ _
    refine qs 48 [] [6] [] h fun ac wd h => ?_
    refine wp_ret ?_
    injection hL324 with hL324
    subst hL324
    exact rE h [.tmp 6]
 ·
  refine kT h ?_
  refine qs 8 [] [6] [] h fun ac wd h => ?_
  refine wp_ret ?_
  injection hD with hD
  subst hD
  exact rE h [.tmp 6]

theorem L_plain_Same_ok {a0 : TConf} {a1 : TConf} {r : Bool} (hD : L_plain_Same a0 a1 = some r) :
  CallH Try.prog 53 [.agg (cTConf a0),.agg (cTConf a1)] []
   (.one (.d (.bool r))) [] := by
 unfold L_plain_Same at hD
 refine rc Try.func53 rfl Try.ntmps53 fun S Φ P0 wb ac h => ?_
 refine qs 4 [] [2,3] [(1,0),(2,0)] h fun ac wd h => ?_
 obtain ⟨e29,hE30,hD⟩ := Option.bind_eq_some_iff.1 hD
 refine r_seqJ (fun ac wd => ∃ (b28 : Bool),b28 = e29 ∧ SL ⟨wb,S,Φ,P0⟩ 24 24 [(4,.one (.d (.bool b28)))] [] ac wd) ?_ ?_
 ·
  obtain ⟨r31,hc32,hE30⟩ := oB hE30
  rcases i2b hE30 with ⟨hb33,hE30⟩ | ⟨hb33,hE30⟩
  ·
   obtain ⟨r34,hc35,hE30⟩ := oB hE30
   rcases i2b hE30 with ⟨hb36,hE30⟩ | ⟨hb36,hE30⟩
   ·
    obtain ⟨r37,hc38,hE30⟩ := oB hE30
    have hc32k := L_slices_Equal_int_int_ok hc32
    have hc35k := L_slices_EqualFunc_api_Msg_api_Msg_api_Msg_api_Msg_ok hc35
    have hc38k := L_slices_Equal_int_int_ok hc38
    refine qeg [factE 8 hc32k,factE 14 hc35k,factE 21 hc38k] [none,none,none,none,none,none,some (some 10,true),some (some 10,true),some (some 10,true),some (some 10,true),some (some 10,true),none,none,some (some 17,true),some (some 17,true),some (some 17,true),some (some 17,true),some (some 17,true),none,none] [4] [] h fun ac wd h => ?_
    injection hE30 with hE30; subst hE30
    exact ⟨r37,rfl,h.z⟩
   ·
    have hc32k := L_slices_Equal_int_int_ok hc32
    have hc35k := L_slices_EqualFunc_api_Msg_api_Msg_api_Msg_api_Msg_ok hc35
    refine qeg [factE 8 hc32k,factE 14 hc35k] [none,none,none,none,none,none,some (some 10,true),some (some 10,true),some (some 10,true),some (some 10,true),some (some 10,true),none,none,some (some 17,true),some (some 17,true),some (some 17,true),some (some 17,true),some (some 17,true),none,none] [4] [] h fun ac wd h => ?_
    injection hE30 with hE30; subst hE30
    exact ⟨false,rfl,h.z⟩
  ·
   have hc32k := L_slices_Equal_int_int_ok hc32
   refine qeg [factE 8 hc32k] [none,none,none,none,none,none,some (some 10,true),some (some 10,true),some (some 10,true),some (some 10,true),some (some 10,true),none,none,some (some 17,true),some (some 17,true),some (some 17,true),some (some 17,true),some (some 17,true),none,none] [4] [] h fun ac wd h => ?_
   injection hE30 with hE30; subst hE30
   exact ⟨false,rfl,h.z⟩
 ·
  rintro ac wd ⟨b28,rfl,h⟩
  (try dsimp only at hD)
  refine wp_ret ?_
  injection hD with hD
  subst hD
  exact rE h [.tmp 4]

theorem L_law05_fixed_ok {r : Bool} (hD : L_law05_fixed = some r) :
  CallH Try.prog 43 [] []
   (.one (.d (.bool r))) [] := by
 unfold L_law05_fixed at hD
 refine rc Try.func43 rfl Try.ntmps43 fun S Φ P0 wb ac h => ?_
 refine qs 2 [] [] [] h fun ac wd h => ?_
 obtain ⟨r145,hc146,hD⟩ := oB hD
 have hc146k := L_law05_Two_ok hc146
 refine qs 5 [factE 2 hc146k] [1] [(3,0)] h fun ac wd h => ?_
 refine qs 8 [] [1,2] [(3,0),(6,0)] h fun ac wd h => ?_
 refine qs 10 [] [1,2] [(3,0),(6,0)] h fun ac wd h => ?_
 obtain ⟨r149,hc150,hD⟩ := oB hD
 have hc150k := L_plain_Start_ok hc150
 refine qs 14 [factE 11 hc150k] [1,2,3] [(3,0),(6,0),(12,0)] h fun ac wd h => ?_
 refine wp_seq ?_
 obtain ⟨r153,hc154,hD⟩ := oB hD
 have hc154k := L_plain_Right_ok hc154
 refine qs 18 [factE 16 hc154k] [1,2,3,28] [(3,0),(6,0),(12,0)] h fun ac wd h => ?_
 obtain ⟨hb156,hD⟩ := iT hD
 refine kF h ?_
 refine wp_skip ?_
 change Code.wp Try.prog _ _ _ _
 obtain ⟨r159,hc160,hD⟩ := oB hD
 have hc160k := L_plain_Apply_ok hc160
 refine qs 28 [factE 21 hc160k] [1,2,3,4,5] [(3,0),(6,0),(12,0),(25,0)] h fun ac wd h => ?_
 obtain ⟨r163,hc164,hD⟩ := oB hD
 have hc164k := L_plain_Apply_ok hc164
 refine qs 38 [factE 31 hc164k] [1,2,3,4,5,7] [(3,0),(6,0),(12,0),(25,0)] h fun ac wd h => ?_
 obtain ⟨r167,hc168,hD⟩ := oB hD
 have hc168k := L_plain_Apply_ok hc168
 refine qs 48 [factE 41 hc168k] [1,2,3,4,5,7,9] [(3,0),(6,0),(12,0),(25,0)] h fun ac wd h => ?_
 obtain ⟨r171,hc172,hD⟩ := oB hD
 have hc172k := L_plain_Apply_ok hc172
 refine qs 58 [factE 51 hc172k] [1,2,3,4,5,7,9,11] [(3,0),(6,0),(12,0),(25,0)] h fun ac wd h => ?_
 refine wp_seq ?_
 obtain ⟨hb226,hD⟩ := iTe hD
 obtain ⟨r227,hc228,hD⟩ := oB hD
 have hc228k := L_plain_Right_ok hc228
 refine qsg 66 [factE 63 hc228k] [none,none,none,some (some 59,false),some (some 59,false),some (some 59,false),some (some 59,false),none] [1,2,3,4,7,9,11,64] [(3,0),(6,0),(12,0),(25,0)] h fun ac wd h => ?_
 obtain ⟨hb230,hD⟩ := iT hD
 refine kF h ?_
 refine wp_skip ?_
 change Code.wp Try.prog _ _ _ _
 obtain ⟨r233,hc234,hD⟩ := oB hD
 have hc234k := L_plain_Apply_ok hc234
 refine qs 76 [factE 69 hc234k] [1,2,3,4,7,9,11,12,13] [(3,0),(6,0),(12,0),(25,0),(73,0)] h fun ac wd h => ?_
 obtain ⟨r237,hc238,hD⟩ := oB hD
 have hc238k := L_plain_Apply_ok hc238
 refine qs 86 [factE 79 hc238k] [1,2,3,4,7,9,11,12,13,15] [(3,0),(6,0),(12,0),(25,0),(73,0)] h fun ac wd h => ?_
 obtain ⟨r241,hc242,hD⟩ := oB hD
 have hc242k := L_plain_Run_ok hc242
 refine qs 101 [factE 92 hc242k] [1,2,3,4,7,9,11,12,13,15,16,17,18] [(3,0),(6,0),(12,0),(25,0),(73,0),(97,0)] h fun ac wd h => ?_
 obtain ⟨r245,hc246,hD⟩ := oB hD
 have hc246k := L_plain_Can_ok hc246
 refine qs 105 [factE 103 hc246k] [1,3,4,7,9,11,12,13,15,16,17,18,19] [(3,0),(12,0),(25,0),(73,0),(97,0)] h fun ac wd h => ?_
 obtain ⟨r288,hc289,hD⟩ := oB hD
 obtain ⟨r290,hc291,hD⟩ := oB hD
 obtain ⟨hb292,hD⟩ := iT hD
 obtain ⟨r293,hc294,hD⟩ := oB hD
 obtain ⟨r295,hc296,hD⟩ := oB hD
 obtain ⟨hb297,hD⟩ := iT hD
 obtain ⟨hb298,hD⟩ := iTe hD
 obtain ⟨hb299,hD⟩ := iTe hD
 obtain ⟨hb300,hD⟩ := iTe hD
 obtain ⟨r301,hc302,hD⟩ := oB hD
 obtain ⟨r303,hc304,hD⟩ := oB hD
 obtain ⟨hb305,hD⟩ := iT hD
 obtain ⟨hb306,hD⟩ := iTe hD
 obtain ⟨hb307,hD⟩ := iTe hD
 obtain ⟨r308,hc309,hD⟩ := oB hD
 obtain ⟨r310,hc311,hD⟩ := oB hD
 obtain ⟨hb312,hD⟩ := iT hD
 obtain ⟨hb313,hD⟩ := iTe hD
 obtain ⟨hb314,hD⟩ := iTe hD
 obtain ⟨r315,hc316,hD⟩ := oB hD
 obtain ⟨r317,hc318,hD⟩ := oB hD
 obtain ⟨hb319,hD⟩ := iT hD
 obtain ⟨r320,hc321,hD⟩ := oB hD
 obtain ⟨hb322,hD⟩ := iTe hD
 obtain ⟨r323,hc324,hD⟩ := oB hD
 obtain ⟨hb325,hD⟩ := iT hD
 obtain ⟨r326,hc327,hD⟩ := oB hD
 obtain ⟨hb328,hD⟩ := iFb hD
 have hc289k := L_law05_Ref_ok hc289
 have hc291k := L_ref05_Same_ok hc291
 have hc294k := L_law05_Ref_ok hc294
 have hc296k := L_ref05_Same_ok hc296
 have hc302k := L_law05_Ref_ok hc302
 have hc304k := L_ref05_Same_ok hc304
 have hc309k := L_law05_Ref_ok hc309
 have hc311k := L_ref05_Same_ok hc311
 have hc316k := L_law05_Steps_ok hc316
 have hc318k := L_ref05_Steps_ok hc318
 have hc321k := L_plain_Can_ok hc321
 have hc324k := L_plain_Same_ok hc324
 have hc327k := L_plain_Same_ok hc327
 refine qsg 202 [factE 106 hc289k,factE 111 hc291k,factE 114 hc294k,factE 122 hc296k,factE 138 hc302k,factE 145 hc304k,factE 157 hc309k,factE 164 hc311k,factE 176 hc316k,factE 179 hc318k,factE 184 hc321k,factE 191 hc324k,factE 196 hc327k] [none,none,none,none,none,none,none,none,some (some 100,true),some (some 100,true),some (some 100,true),some (some 100,true),some (some 100,true),some (some 100,true),some (some 100,true),some (some 100,true),some (some 100,true),some (some 100,true),none,none,some (some 112,true),some (some 112,true),none,none,some (some 116,true),some (some 116,true),none,none,some (some 120,true),some (some 120,true),none,none,some (some 124,true),some (some 124,true),some (some 124,true),some (some 124,true),some (some 124,true),some (some 124,true),some (some 124,true),some (some 124,true),some (some 124,true),none,none,some (some 135,true),some (some 135,true),none,none,some (some 139,true),some (some 139,true),none,none,some (some 143,true),some (some 143,true),some (some 143,true),some (some 143,true),some (some 143,true),some (some 143,true),some (some 143,true),some (some 143,true),some (some 143,true),none,none,some (some 154,true),some (some 154,true),none,none,some (some 158,true),some (some 158,true),none,none,some (some 162,true),some (some 162,true),some (some 162,true),some (some 162,true),some (some 162,true),none,none,some (some 169,true),some (some 169,true),some (some 169,true),some (some 169,true),some (some 169,true),none,none,some (some 176,true),some (some 176,true),some (some 176,true),none,none,some (some 181,true),some (some 181,true),some (some 181,true),some (some 181,true),none,none,none,none] [0] [] h fun ac wd h => ?_
 refine wp_ret ?_
 injection hD with hD
 subst hD
 exact rE h [.tmp 0]

end Go.Proofs.Ytifcbecpemaieaa
