/- Functions as typed ones,and that the program's functions answer as these do. No condition. -/
import Derived.Test.YtifcbecpemaieaaGb7
import Derived.Test.YtifcbecpemaieaaGd
set_option linter.unusedSimpArgs false
set_option linter.unusedVariables false
set_option maxRecDepth 20000
set_option maxHeartbeats 4000000
namespace Go.Proofs.Ytifcbecpemaieaa
open Go.RowKit

theorem L_plain_Can_own {a0 : TApp} {a1 : TConf} {r : (List TStep)} (hD : L_plain_Can a0 a1 = some r) :
  CallH Try.prog 42 [.agg (cTApp a0),.agg (cTConf a1)] []
   (.one (.own (1,0) r.length)) [((1,0),some (.row 57 5 (dat (List.map eTStep r))))] := by
 unfold L_plain_Can at hD
 refine rc Try.func42 rfl Try.ntmps42 fun S Φ P0 wb ac h => ?_
 refine qs 4 [] [2,3] [(1,0),(2,0)] h fun ac wd h => ?_
 refine qs 6 [] [2,3,5,6] [(1,0),(2,0)] h fun ac wd h => ?_
 refine wp_seq ?_
 refine qs 10 [] [2,3,5,6,19,20] [(1,0),(2,0)] h fun ac wd h => ?_
 obtain ⟨e1028,hE1029,hD⟩ := Option.bind_eq_some_iff.1 hD
 refine r_meet (fun ac wd => ∃ (l1027 : List TStep),l1027 = e1028 ∧ SL ⟨wb,S,Φ,P0⟩ 78 73 [(2,.one (.ptr (1,0) 0)),(3,.one (.ptr (2,0) 0)),(5,.one (.own (10,0) l1027.length)),(6,.one (.nil))] [((1,0),some (.box 27 (cTApp a0))),((2,0),some (.box 31 (cTConf a1))),((10,0),some (.row 57 5 (dat (List.map eTStep l1027))))] ac wd) ?_ ?_
 ·
  refine wp_block ?_
  have h := SL.bornS h 5 57 5 (by simp only [EZ,simprocAttr, *] <;> rfl)
  refine r_while (fun nf ac wd => ∃ (n1094 : Int) (l1095 : List TStep),L_plain_Can_l1 a0 nf n1094 l1095 = some e1028 ∧ SL ⟨wb,S,Φ,P0⟩ 78 72 [(2,.one (.ptr (1,0) 0)),(3,.one (.ptr (2,0) 0)),(5,.one (.own (10,0) l1095.length)),(6,.one (.nil)),(19,.one (.d (.int .i64 a0.G.N))),(20,.one (.d (.int .i64 n1094)))] [((1,0),some (.box 27 (cTApp a0))),((2,0),some (.box 31 (cTConf a1))),((10,0),some (.row 57 5 (dat (List.map eTStep l1095))))] ac wd) ((a0.G.N - 0).toNat + 1) ⟨0,([] : List TStep),hE1029,h.z⟩ (fun nf ac wd hJ => ?_)
  obtain ⟨n1094,l1095,hL1096,h⟩ := hJ
  cases nf with
  | zero => rw [L_plain_Can_l1] at hL1096; cases hL1096
  | succ nf =>
   rw [L_plain_Can_l1] at hL1096
   refine qs 73 [] [2,3,5,6,19,20,21] [(1,0),(2,0),(10,0)] h fun ac wd h => ?_
   refine wp_seq ?_
   rcases i2 hL1096 with ⟨hb1098,hL1096⟩ | ⟨hb1098,hL1096⟩
   ·
    refine kT h ?_
    refine wp_skip ?_
    change Code.wp Try.prog _ _ _ _
    obtain ⟨e1114,hE1115,hL1096⟩ := Option.bind_eq_some_iff.1 hL1096
    refine r_seqJ (fun ac wd => ∃ (l1113 : List TStep),l1113 = e1114 ∧ SL ⟨wb,S,Φ,P0⟩ 78 101 [(2,.one (.ptr (1,0) 0)),(3,.one (.ptr (2,0) 0)),(5,.one (.own (10,0) l1113.length)),(6,.one (.nil)),(19,.one (.d (.int .i64 a0.G.N))),(20,.one (.d (.int .i64 n1094)))] [((1,0),some (.box 27 (cTApp a0))),((2,0),some (.box 31 (cTConf a1))),((10,0),some (.row 57 5 (dat (List.map eTStep l1113))))] ac wd) ?_ ?_
    ·
     refine wp_block ?_
     refine qs 75 [] [2,3,5,6,7,19,20] [(1,0),(2,0),(10,0)] h fun ac wd h => ?_
     refine qs 76 [] [2,3,5,6,7,19,20,23] [(1,0),(2,0),(10,0)] h fun ac wd h => ?_
     obtain ⟨e1131,hE1132,hE1115⟩ := Option.bind_eq_some_iff.1 hE1115
     refine r_meetQ (fun ac wd => ∃ (l1130 : List TStep),l1130 = e1131 ∧ SL ⟨wb,S,Φ,P0⟩ 78 101 [(2,.one (.ptr (1,0) 0)),(3,.one (.ptr (2,0) 0)),(5,.one (.own (10,0) l1130.length)),(6,.one (.nil)),(19,.one (.d (.int .i64 a0.G.N))),(20,.one (.d (.int .i64 n1094)))] [((1,0),some (.box 27 (cTApp a0))),((2,0),some (.box 31 (cTConf a1))),((10,0),some (.row 57 5 (dat (List.map eTStep l1130))))] ac wd) ?_ ?_
     ·
      refine wp_block ?_
      refine r_while (fun nf ac wd => ∃ (n1141 : Int) (l1142 : List TStep),L_plain_Can_l2 n1094 nf n1141 l1142 = some e1131 ∧ SL ⟨wb,S,Φ,P0⟩ 78 100 [(2,.one (.ptr (1,0) 0)),(3,.one (.ptr (2,0) 0)),(5,.one (.own (10,0) l1142.length)),(6,.one (.nil)),(7,.one (.d (.int .i64 n1094))),(19,.one (.d (.int .i64 a0.G.N))),(20,.one (.d (.int .i64 n1094))),(23,.one (.d (.int .i64 n1141)))] [((1,0),some (.box 27 (cTApp a0))),((2,0),some (.box 31 (cTConf a1))),((10,0),some (.row 57 5 (dat (List.map eTStep l1142))))] ac wd) (((4 : Int) - 0).toNat + 1) ⟨0,l1095,hE1132,h.z⟩ (fun nf ac wd hJ => ?_)
      obtain ⟨n1141,l1142,hL1143,h⟩ := hJ
      cases nf with
      | zero => rw [L_plain_Can_l2] at hL1143; cases hL1143
      | succ nf =>
       rw [L_plain_Can_l2] at hL1143
       refine qs 101 [] [2,3,5,6,7,19,20,23,24] [(1,0),(2,0),(10,0)] h fun ac wd h => ?_
       refine wp_seq ?_
       rcases i2 hL1143 with ⟨hb1145,hL1143⟩ | ⟨hb1145,hL1143⟩
       ·
        refine kT h ?_
        refine wp_skip ?_
        change Code.wp Try.prog _ _ _ _
        refine wp_seq ?_
        refine wp_block ?_
        refine qs 103 [] [2,3,5,6,7,8,19,20,23] [(1,0),(2,0),(10,0)] h fun ac wd h => ?_
        obtain ⟨ha1147,hL1143⟩ := iT hL1143
        refine qe [] [2,3,5,6,7,19,20,23] [(1,0),(2,0),(108,0)] h fun ac wd h => ?_
        change Code.wp Try.prog _ _ _ _
        refine qe [] [2,3,5,6,7,19,20,23] [(1,0),(2,0),(108,0)] h fun ac wd h => ?_
        have h := h.sw (10,0) (108,0) 112
        exact ⟨nf,Nat.lt_succ_self nf,(IntKind.wrap .i64 (n1141 + 1)),(l1142 ++ [(TStep.mk 0 n1094 n1141 0 0)]),hL1143,h.z⟩
       ·
        refine kF h ?_
        refine wp_exit ?_
        injection hL1143 with hL1143; subst hL1143
        exact ⟨l1142,rfl,h.z⟩
     ·
      rintro ac wd ⟨l1130,rfl,h⟩
      (try dsimp only at hE1115)
      injection hE1115 with hE1115; subst hE1115
      exact ⟨l1130,rfl,h.z⟩
    ·
     rintro ac wd ⟨l1113,rfl,h⟩
     (try dsimp only at hL1096)
     refine qe [] [2,3,5,6,19,20] [(1,0),(2,0),(10,0)] h fun ac wd h => ?_
     exact ⟨nf,Nat.lt_succ_self nf,(IntKind.wrap .i64 (n1094 + 1)),l1113,hL1096,h.z⟩
   ·
    refine kF h ?_
    refine wp_exit ?_
    injection hL1096 with hL1096; subst hL1096
    exact ⟨l1095,rfl,h.z⟩
 ·
  rintro ac wd ⟨l1027,rfl,h⟩
  (try dsimp only at hD)
  refine wp_seq ?_
  refine qs 77 [] [2,3,5,6,35,36,37] [(1,0),(2,0),(10,0)] h fun ac wd h => ?_
  obtain ⟨e1432,hE1433,hD⟩ := Option.bind_eq_some_iff.1 hD
  refine r_meet (fun ac wd => ∃ (l1431 : List TStep),l1431 = e1432 ∧ SL ⟨wb,S,Φ,P0⟩ 78 162 [(2,.one (.ptr (1,0) 0)),(3,.one (.ptr (2,0) 0)),(5,.one (.own (10,0) l1431.length)),(6,.one (.nil))] [((1,0),some (.box 27 (cTApp a0))),((2,0),some (.box 31 (cTConf a1))),((10,0),some (.row 57 5 (dat (List.map eTStep l1431))))] ac wd) ?_ ?_
  ·
   refine wp_block ?_
   refine r_while (fun nf ac wd => ∃ (n1622 : Int) (l1623 : List TStep),L_plain_Can_l3 a1 nf n1622 l1623 = some e1432 ∧ SL ⟨wb,S,Φ,P0⟩ 78 161 [(2,.one (.ptr (1,0) 0)),(3,.one (.ptr (2,0) 0)),(5,.one (.own (10,0) l1623.length)),(6,.one (.nil)),(35,.one (.d (.sl (List.map (eL eTMsg) a1.Links)))),(36,.one (.d (.int .i64 (a1.Links.length : Int)))),(37,.one (.d (.int .i64 n1622)))] [((1,0),some (.box 27 (cTApp a0))),((2,0),some (.box 31 (cTConf a1))),((10,0),some (.row 57 5 (dat (List.map eTStep l1623))))] ac wd) (((a1.Links.length : Int) - 0).toNat + 1) ⟨0,l1027,hE1433,h.z⟩ (fun nf ac wd hJ => ?_)
   obtain ⟨n1622,l1623,hL1624,h⟩ := hJ
   cases nf with
   | zero => rw [L_plain_Can_l3] at hL1624; cases hL1624
   | succ nf =>
    rw [L_plain_Can_l3] at hL1624
    refine qs 162 [] [2,3,5,6,35,36,37,38] [(1,0),(2,0),(10,0)] h fun ac wd h => ?_
    refine wp_seq ?_
    rcases i2 hL1624 with ⟨hb1626,hL1624⟩ | ⟨hb1626,hL1624⟩
    ·
     refine kT h ?_
     refine wp_skip ?_
     change Code.wp Try.prog _ _ _ _
     obtain ⟨e1672,hE1673,hL1624⟩ := Option.bind_eq_some_iff.1 hL1624
     refine r_seqJ (fun ac wd => ∃ (l1671 : List TStep),l1671 = e1672 ∧ SL ⟨wb,S,Φ,P0⟩ 78 201 [(2,.one (.ptr (1,0) 0)),(3,.one (.ptr (2,0) 0)),(5,.one (.own (10,0) l1671.length)),(6,.one (.nil)),(35,.one (.d (.sl (List.map (eL eTMsg) a1.Links)))),(36,.one (.d (.int .i64 (a1.Links.length : Int)))),(37,.one (.d (.int .i64 n1622)))] [((1,0),some (.box 27 (cTApp a0))),((2,0),some (.box 31 (cTConf a1))),((10,0),some (.row 57 5 (dat (List.map eTStep l1671))))] ac wd) ?_ ?_
     ·
      refine wp_block ?_
      obtain ⟨x1676,hx1677a,hx1677b,hx1677c,hx1677d,hE1673⟩ := aB hE1673
      refine qs 167 [] [2,3,5,6,9,10,35,36,37] [(1,0),(2,0),(10,0)] h fun ac wd h => ?_
      refine qs 170 [] [2,3,5,6,9,35,36,37,42,43,44] [(1,0),(2,0),(10,0)] h fun ac wd h => ?_
      obtain ⟨e1719,hE1720,hE1673⟩ := Option.bind_eq_some_iff.1 hE1673
      refine r_meetQ (fun ac wd => ∃ (l1718 : List TStep),l1718 = e1719 ∧ SL ⟨wb,S,Φ,P0⟩ 78 201 [(2,.one (.ptr (1,0) 0)),(3,.one (.ptr (2,0) 0)),(5,.one (.own (10,0) l1718.length)),(6,.one (.nil)),(35,.one (.d (.sl (List.map (eL eTMsg) a1.Links)))),(36,.one (.d (.int .i64 (a1.Links.length : Int)))),(37,.one (.d (.int .i64 n1622)))] [((1,0),some (.box 27 (cTApp a0))),((2,0),some (.box 31 (cTConf a1))),((10,0),some (.row 57 5 (dat (List.map eTStep l1718))))] ac wd) ?_ ?_
      ·
       refine wp_block ?_
       refine r_while (fun nf ac wd => ∃ (n1747 : Int) (l1748 : List TStep),L_plain_Can_l4 n1622 x1676 nf n1747 l1748 = some e1719 ∧ SL ⟨wb,S,Φ,P0⟩ 78 200 [(2,.one (.ptr (1,0) 0)),(3,.one (.ptr (2,0) 0)),(5,.one (.own (10,0) l1748.length)),(6,.one (.nil)),(9,.one (.d (.int .i64 n1622))),(35,.one (.d (.sl (List.map (eL eTMsg) a1.Links)))),(36,.one (.d (.int .i64 (a1.Links.length : Int)))),(37,.one (.d (.int .i64 n1622))),(42,.one (.d (.sl (List.map eTMsg x1676)))),(43,.one (.d (.int .i64 (x1676.length : Int)))),(44,.one (.d (.int .i64 n1747)))] [((1,0),some (.box 27 (cTApp a0))),((2,0),some (.box 31 (cTConf a1))),((10,0),some (.row 57 5 (dat (List.map eTStep l1748))))] ac wd) (((x1676.length : Int) - 0).toNat + 1) ⟨0,l1623,hE1720,h.z⟩ (fun nf ac wd hJ => ?_)
       obtain ⟨n1747,l1748,hL1749,h⟩ := hJ
       cases nf with
       | zero => rw [L_plain_Can_l4] at hL1749; cases hL1749
       | succ nf =>
        rw [L_plain_Can_l4] at hL1749
        refine qs 201 [] [2,3,5,6,9,35,36,37,42,43,44,45] [(1,0),(2,0),(10,0)] h fun ac wd h => ?_
        refine wp_seq ?_
        rcases i2 hL1749 with ⟨hb1751,hL1749⟩ | ⟨hb1751,hL1749⟩
        ·
         refine kT h ?_
         refine wp_skip ?_
         change Code.wp Try.prog _ _ _ _
         refine wp_seq ?_
         refine wp_block ?_
         obtain ⟨x1759,hx1760a,hx1760b,hx1760c,hx1760d,hL1749⟩ := aB hL1749
         refine qs 205 [] [2,3,5,6,9,12,35,36,37,42,43,44] [(1,0),(2,0),(10,0),(203,0)] h fun ac wd h => ?_
         obtain ⟨ha1761,hL1749⟩ := iT hL1749
         refine qe [] [2,3,5,6,9,35,36,37,42,43,44] [(1,0),(2,0),(211,0)] h fun ac wd h => ?_
         change Code.wp Try.prog _ _ _ _
         refine qe [] [2,3,5,6,9,35,36,37,42,43,44] [(1,0),(2,0),(211,0)] h fun ac wd h => ?_
         have h := h.sw (10,0) (211,0) 215
         exact ⟨nf,Nat.lt_succ_self nf,(IntKind.wrap .i64 (n1747 + 1)),(l1748 ++ [(TStep.mk 1 0 0 n1622 x1759.Seq)]),hL1749,h.z⟩
        ·
         refine kF h ?_
         refine wp_exit ?_
         injection hL1749 with hL1749; subst hL1749
         exact ⟨l1748,rfl,h.z⟩
      ·
       rintro ac wd ⟨l1718,rfl,h⟩
       (try dsimp only at hE1673)
       injection hE1673 with hE1673; subst hE1673
       exact ⟨l1718,rfl,h.z⟩
     ·
      rintro ac wd ⟨l1671,rfl,h⟩
      (try dsimp only at hL1624)
      refine qe [] [2,3,5,6,35,36,37] [(1,0),(2,0),(10,0)] h fun ac wd h => ?_
      exact ⟨nf,Nat.lt_succ_self nf,(IntKind.wrap .i64 (n1622 + 1)),l1671,hL1624,h.z⟩
    ·
     refine kF h ?_
     refine wp_exit ?_
     injection hL1624 with hL1624; subst hL1624
     exact ⟨l1623,rfl,h.z⟩
  ·
   rintro ac wd ⟨l1431,rfl,h⟩
   (try dsimp only at hD)
   refine wp_seq ?_
   refine qs 165 [] [2,3,6,57,58,59] [(1,0),(2,0),(10,0)] h fun ac wd h => ?_
   refine wp_block ?_
   have h := SL.bornS h 6 57 5 (by simp only [EZ,simprocAttr, *] <;> rfl)
   refine r_while (fun nf ac wd => ∃ (n1889 : Int) (l1890 : List TStep),L_plain_Can_l5 a0 a1 l1431 nf n1889 l1890 = some r ∧ SL ⟨wb,S,Φ,P0⟩ 78 213 [(2,.one (.ptr (1,0) 0)),(3,.one (.ptr (2,0) 0)),(6,.one (.own (165,0) l1890.length)),(57,.one (.own (10,0) l1431.length)),(58,.one (.d (.int .i64 (l1431.length : Int)))),(59,.one (.d (.int .i64 n1889)))] [((1,0),some (.box 27 (cTApp a0))),((2,0),some (.box 31 (cTConf a1))),((10,0),some (.row 57 5 (dat (List.map eTStep l1431)))),((165,0),some (.row 57 5 (dat (List.map eTStep l1890))))] ac wd) (((l1431.length : Int) - 0).toNat + 1) ⟨0,([] : List TStep),hD,h.z⟩ (fun nf ac wd hJ => ?_)
   obtain ⟨n1889,l1890,hL1891,h⟩ := hJ
   cases nf with
   | zero => rw [L_plain_Can_l5] at hL1891; cases hL1891
   | succ nf =>
    rw [L_plain_Can_l5] at hL1891
    refine qs 214 [] [2,3,6,57,58,59,60] [(1,0),(2,0),(10,0),(165,0)] h fun ac wd h => ?_
    refine wp_seq ?_
    rcases i2 hL1891 with ⟨hb1893,hL1891⟩ | ⟨hb1893,hL1891⟩
    ·
     refine kT h ?_
     refine wp_skip ?_
     change Code.wp Try.prog _ _ _ _
     obtain ⟨e1905,hE1906,hL1891⟩ := Option.bind_eq_some_iff.1 hL1891
     refine r_seqJ (fun ac wd => ∃ (l1904 : List TStep),l1904 = e1905 ∧ SL ⟨wb,S,Φ,P0⟩ 78 235 [(2,.one (.ptr (1,0) 0)),(3,.one (.ptr (2,0) 0)),(6,.one (.own (233,0) l1904.length)),(57,.one (.own (10,0) l1431.length)),(58,.one (.d (.int .i64 (l1431.length : Int)))),(59,.one (.d (.int .i64 n1889)))] [((1,0),some (.box 27 (cTApp a0))),((2,0),some (.box 31 (cTConf a1))),((10,0),some (.row 57 5 (dat (List.map eTStep l1431)))),((233,0),some (.row 57 5 (dat (List.map eTStep l1904))))] ac wd) ?_ ?_
     ·
      refine wp_block ?_
      obtain ⟨x1909,hx1910a,hx1910b,hx1910c,hx1910d,hE1906⟩ := aB hE1906
      refine qs 218 [] [2,3,6,14,57,58,59] [(1,0),(2,0),(10,0),(165,0),(216,0)] h fun ac wd h => ?_
      obtain ⟨r1913,hc1914,hE1906⟩ := oB hE1906
      have hc1914k := L_plain_Apply_ok hc1914
      refine qs 228 [factE 221 hc1914k] [2,3,6,14,16,57,58,59] [(1,0),(2,0),(10,0),(165,0),(216,0)] h fun ac wd h => ?_
      refine qs 230 [] [2,3,6,14,57,58,59,71] [(1,0),(2,0),(10,0),(165,0),(216,0)] h fun ac wd h => ?_
      rcases i2e hE1906 with ⟨hb1915,hE1906⟩ | ⟨hb1915,hE1906⟩
      ·
       refine kT h ?_
       obtain ⟨ha1916,hE1906⟩ := iT hE1906
       refine qe [] [2,3,6,57,58,59] [(1,0),(2,0),(10,0),(233,0)] h fun ac wd h => ?_
       injection hE1906 with hE1906; subst hE1906
       exact ⟨(l1890 ++ [x1909]),rfl,h.z⟩
      ·
       refine kF h ?_
       refine wp_skip ?_
       have h := h.sw (233,0) (165,0) 235
       injection hE1906 with hE1906; subst hE1906
       exact ⟨l1890,rfl,h.z⟩
     ·
      rintro ac wd ⟨l1904,rfl,h⟩
      (try dsimp only at hL1891)
      refine qe [] [2,3,6,57,58,59] [(1,0),(2,0),(10,0),(233,0)] h fun ac wd h => ?_
      have h := h.sw (165,0) (233,0) 237
      exact ⟨nf,Nat.lt_succ_self nf,(IntKind.wrap .i64 (n1889 + 1)),l1904,hL1891,h.z⟩
    ·
     refine kF h ?_
     refine wp_exit ?_
     change Code.wp Try.prog _ _ _ _
     refine qs 216 [] [4] [(165,0)] h fun ac wd h => ?_
     refine wp_ret ?_
     have h := h.sw (1,0) (165,0) 216
     injection hL1891 with hL1891
     subst hL1891
     exact rO h [.tmp 4] [(1,0)]
theorem L_plain_Can_ok {a0 : TApp} {a1 : TConf} {r : (List TStep)} (hD : L_plain_Can a0 a1 = some r) :
  CallH Try.prog 42 [.agg (cTApp a0),.agg (cTConf a1)] []
   (.one (.d (.sl (List.map eTStep r)))) [] :=
 (L_plain_Can_own hD).fr

end Go.Proofs.Ytifcbecpemaieaa
