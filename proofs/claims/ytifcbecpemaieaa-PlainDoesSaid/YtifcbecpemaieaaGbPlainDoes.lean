/- Functions as typed ones,and that the program's functions answer as these do. No condition. -/
import Derived.Test.YtifcbecpemaieaaGb6
import Derived.Test.YtifcbecpemaieaaGb8
import Derived.Test.YtifcbecpemaieaaGdPlainDoes
set_option linter.unusedSimpArgs false
set_option linter.unusedVariables false
set_option maxRecDepth 20000
set_option maxHeartbeats 4000000
namespace Go.Proofs.Ytifcbecpemaieaa
open Go.RowKit

theorem L_law05_PlainDoes_ok {a0 : TApp} {a1 : (List TStep)} {r : Bool} (hD : L_law05_PlainDoes a0 a1 = some r) :
  CallH Try.prog 10 [.agg (cTApp a0),.one (.d (.sl (List.map eTStep a1)))] []
   (.one (.d (.bool r))) [] := by
 unfold L_law05_PlainDoes at hD
 refine rc Try.func10 rfl Try.ntmps10 fun S Φ P0 wb ac h => ?_
 refine qs 3 [] [1,2] [(1,0)] h fun ac wd h => ?_
 obtain ⟨r782,hc783,hD⟩ := oB hD
 have hc783k := L_law05_Cut_ok hc783
 refine qs 6 [factE 4 hc783k] [1,2] [(1,0)] h fun ac wd h => ?_
 obtain ⟨r786,hc787,hD⟩ := oB hD
 have hc787k := L_law05_App_ok hc787
 refine qs 10 [factE 7 hc787k] [1,2,5] [(1,0),(8,0)] h fun ac wd h => ?_
 refine wp_seq ?_
 obtain ⟨r790,hc791,hD⟩ := oB hD
 have hc791k := L_ref04_Right_ok hc791
 refine qs 16 [factE 14 hc791k] [1,2,5,28] [(1,0),(8,0)] h fun ac wd h => ?_
 rcases i2b hD with ⟨hb806,hD⟩ | ⟨hb806,hD⟩
 ·
  refine kF h ?_
  refine wp_skip ?_
  change Code.wp Try.prog _ _ _ _
  obtain ⟨r1079,hc1080,hD⟩ := oB hD
  obtain ⟨r1081,hc1082,hD⟩ := oB hD
  have hc1080k := L_plain_Start_ok hc1080
  have hc1082k := L_ref05_Start_ok hc1082
  refine ds 24 [factE 17 hc1080k,factE 19 hc1082k] [1,2,5,6,7] [(1,0),(8,0),(20,0),(21,0)] h fun ac wd h => ?_
  refine wp_seq ?_
  obtain ⟨r1087,hc1088,hD⟩ := oB hD
  obtain ⟨r1089,hc1090,hD⟩ := oB hD
  have hc1088k := L_law05_Ref_ok hc1088
  have hc1090k := L_ref05_Same_ok hc1090
  refine ds 29 [factE 25 hc1088k,factE 27 hc1090k] [1,2,5,6,7,44] [(1,0),(8,0),(20,0),(21,0)] h fun ac wd h => ?_
  obtain ⟨hb1092,hD⟩ := iT hD
  refine kF h ?_
  refine wp_skip ?_
  change Code.wp Try.prog _ _ _ _
  refine wp_seq ?_
  refine qs 30 [] [1,2,5,6,7,8] [(1,0),(8,0),(20,0),(21,0)] h fun ac wd h => ?_
  obtain ⟨e1470,hE1471,hD⟩ := Option.bind_eq_some_iff.1 hD
  refine r_meet (fun ac wd => () = e1470 ∧ SL ⟨wb,S,Φ,P0⟩ 142 168 [(1,.one (.d (.sl (List.map eTStep a1)))),(2,.one (.ptr (1,0) 0)),(5,.one (.ptr (8,0) 0))] [((1,0),some (.box 27 [.d (.int .i64 r782.G.N),.d (.sl (List.map eA2I r782.G.Links)),.d (.sl (List.map eTNode r782.T)),.d (.bool r782.Fifo)])),((8,0),some (.box 38 [.d (.int .i64 r786.G.N),.d (.sl (List.map eA2I r786.G.Links)),.d (.sl (List.map eTNode r786.T)),.d (.bool r786.Fifo)]))] ac wd) ?_ ?_
  ·
   refine wp_block ?_
   refine r_while (fun nf ac wd => ∃ (n1697 : Int) (m1698 : TConf) (m1699 : TConf),L_law05_PlainDoes_l1 a1 r782 r786 nf n1697 m1698 m1699 = some e1470 ∧ SL ⟨wb,S,Φ,P0⟩ 142 160 [(1,.one (.d (.sl (List.map eTStep a1)))),(2,.one (.ptr (1,0) 0)),(5,.one (.ptr (8,0) 0)),(6,.one (.ptr (20,0) 0)),(7,.one (.ptr (21,0) 0)),(8,.one (.d (.int .i64 n1697)))] [((1,0),some (.box 27 [.d (.int .i64 r782.G.N),.d (.sl (List.map eA2I r782.G.Links)),.d (.sl (List.map eTNode r782.T)),.d (.bool r782.Fifo)])),((8,0),some (.box 38 [.d (.int .i64 r786.G.N),.d (.sl (List.map eA2I r786.G.Links)),.d (.sl (List.map eTNode r786.T)),.d (.bool r786.Fifo)])),((20,0),some (.box 31 (cTConf m1698))),((21,0),some (.box 40 (cTConf m1699)))] ac wd) (((a1.length : Int) - 0).toNat + 1) ⟨0,r1079,r1081,hE1471,h.z⟩ (fun nf ac wd hJ => ?_)
   obtain ⟨n1697,m1698,m1699,hL1700,h⟩ := hJ
   cases nf with
   | zero => rw [L_law05_PlainDoes_l1] at hL1700; cases hL1700
   | succ nf =>
    rw [L_law05_PlainDoes_l1] at hL1700
    refine wp_seq ?_
    obtain ⟨e1728,hE1729,hL1700⟩ := Option.bind_eq_some_iff.1 hL1700
    refine r_seqJ (fun ac wd => ∃ (b1727 : Bool),b1727 = e1728 ∧ SL ⟨wb,S,Φ,P0⟩ 142 168 [(1,.one (.d (.sl (List.map eTStep a1)))),(2,.one (.ptr (1,0) 0)),(5,.one (.ptr (8,0) 0)),(6,.one (.ptr (20,0) 0)),(7,.one (.ptr (21,0) 0)),(8,.one (.d (.int .i64 n1697))),(52,.one (.d (.bool b1727)))] [((1,0),some (.box 27 [.d (.int .i64 r782.G.N),.d (.sl (List.map eA2I r782.G.Links)),.d (.sl (List.map eTNode r782.T)),.d (.bool r782.Fifo)])),((8,0),some (.box 38 [.d (.int .i64 r786.G.N),.d (.sl (List.map eA2I r786.G.Links)),.d (.sl (List.map eTNode r786.T)),.d (.bool r786.Fifo)])),((20,0),some (.box 31 (cTConf m1698))),((21,0),some (.box 40 (cTConf m1699)))] ac wd) ?_ ?_
    ·
     rcases i2 hE1729 with ⟨hb1730,hE1729⟩ | ⟨hb1730,hE1729⟩
     ·
      refine qeg [] [none,none,none,none,none,some (some 49,true),some (some 49,true),none] [1,2,5,6,7,8,52] [(1,0),(8,0),(20,0),(21,0)] h fun ac wd h => ?_
      injection hE1729 with hE1729; subst hE1729
      exact ⟨decide (n1697 < 40),rfl,h.z⟩
     ·
      refine qeg [] [none,none,none,none,none,some (some 49,true),some (some 49,true),none] [1,2,5,6,7,8,52] [(1,0),(8,0),(20,0),(21,0)] h fun ac wd h => ?_
      injection hE1729 with hE1729; subst hE1729
      exact ⟨false,rfl,h.z⟩
    ·
     rintro ac wd ⟨b1727,rfl,h⟩
     (try dsimp only at hL1700)
     rcases i2b hL1700 with ⟨hb1732,hL1700⟩ | ⟨hb1732,hL1700⟩
     ·
      refine kT h ?_
      refine wp_skip ?_
      change Code.wp Try.prog _ _ _ _
      obtain ⟨e1809,hE1810,hL1700⟩ := Option.bind_eq_some_iff.1 hL1700
      refine r_seqJ (fun ac wd => ∃ (m1807 : TConf) (m1808 : TConf),(m1807,m1808) = e1809 ∧ SL ⟨wb,S,Φ,P0⟩ 142 222 [(1,.one (.d (.sl (List.map eTStep a1)))),(2,.one (.ptr (1,0) 0)),(5,.one (.ptr (8,0) 0)),(6,.one (.ptr (20,0) 0)),(7,.one (.ptr (21,0) 0)),(8,.one (.d (.int .i64 n1697)))] [((1,0),some (.box 27 [.d (.int .i64 r782.G.N),.d (.sl (List.map eA2I r782.G.Links)),.d (.sl (List.map eTNode r782.T)),.d (.bool r782.Fifo)])),((8,0),some (.box 38 [.d (.int .i64 r786.G.N),.d (.sl (List.map eA2I r786.G.Links)),.d (.sl (List.map eTNode r786.T)),.d (.bool r786.Fifo)])),((20,0),some (.box 31 (cTConf m1807))),((21,0),some (.box 40 (cTConf m1808)))] ac wd) ?_ ?_
      ·
       refine wp_block ?_
       obtain ⟨x1815,hx1816a,hx1816b,hx1816c,hx1816d,hE1810⟩ := aB hE1810
       obtain ⟨r1817,hc1818,hE1810⟩ := oB hE1810
       have hc1818k := L_plain_Apply_ok hc1818
       refine ds 181 [factE 174 hc1818k] [1,2,5,6,7,8,9,10] [(1,0),(8,0),(20,0),(21,0),(178,0)] h fun ac wd h => ?_
       obtain ⟨r1823,hc1824,hE1810⟩ := oB hE1810
       obtain ⟨r1825,hc1826,hE1810⟩ := oB hE1810
       have hc1824k := L_law05_Step_ok hc1824
       have hc1826k := L_ref05_Apply_ok hc1826
       refine ds 195 [factE 187 hc1824k,factE 188 hc1826k] [1,2,5,6,7,8,9,10,11,12] [(1,0),(8,0),(20,0),(21,0),(178,0),(192,0)] h fun ac wd h => ?_
       refine wp_seq ?_
       obtain ⟨r1843,hc1844,hE1810⟩ := oB hE1810
       obtain ⟨r1845,hc1846,hE1810⟩ := oB hE1810
       obtain ⟨hb1847,hE1810⟩ := iT hE1810
       obtain ⟨hb1848,hE1810⟩ := iTe hE1810
       obtain ⟨r1849,hc1850,hE1810⟩ := oB hE1810
       obtain ⟨r1851,hc1852,hE1810⟩ := oB hE1810
       obtain ⟨r1853,hc1854,hE1810⟩ := oB hE1810
       obtain ⟨r1855,hc1856,hE1810⟩ := oB hE1810
       have hc1844k := L_law05_Ref_ok hc1844
       have hc1846k := L_ref05_Same_ok hc1846
       have hc1850k := L_plain_Can_ok hc1850
       have hc1852k := L_law05_Steps_ok hc1852
       have hc1854k := L_ref05_Can_ok hc1854
       have hc1856k := L_ref05_Steps_ok hc1856
       refine dsg 216 [factE 196 hc1844k,factE 198 hc1846k,factE 208 hc1850k,factE 209 hc1852k,factE 212 hc1854k,factE 213 hc1856k] [none,none,none,none,none,none,some (some 81,false),some (some 81,false),some (some 81,false),none,none,some (some 86,false),some (some 86,false),some (some 86,false),some (some 86,false),some (some 86,false),some (some 86,false),some (some 86,false),some (some 86,false),some (some 86,false),none] [1,2,5,6,7,8,9,10,11,96] [(1,0),(8,0),(20,0),(21,0),(178,0),(192,0)] h fun ac wd h => ?_
       obtain ⟨hb1858,hE1810⟩ := iT hE1810
       refine kF h ?_
       refine wp_skip ?_
       change Code.wp Try.prog _ _ _ _
       refine qs 218 [] [1,2,5,6,7,8,9,11,98] [(1,0),(8,0),(20,0),(21,0),(178,0),(192,0)] h fun ac wd h => ?_
       rcases i2e hE1810 with ⟨hb1859,hE1810⟩ | ⟨hb1859,hE1810⟩
       ·
        refine kT h ?_
        refine qs 220 [] [1,2,5,6,7,8,11] [(1,0),(8,0),(20,0),(21,0),(192,0)] h fun ac wd h => ?_
        refine qe [] [1,2,5,6,7,8] [(1,0),(8,0),(20,0),(21,0)] h fun ac wd h => ?_
        injection hE1810 with hE1810; subst hE1810
        exact ⟨r1817.1,r1825.1,rfl,h.z⟩
       ·
        refine kF h ?_
        refine wp_skip ?_
        injection hE1810 with hE1810; subst hE1810
        exact ⟨m1698,m1699,rfl,h.z⟩
      ·
       rintro ac wd ⟨m1807,m1808,rfl,h⟩
       (try dsimp only at hL1700)
       refine qe [] [1,2,5,6,7,8] [(1,0),(8,0),(20,0),(21,0)] h fun ac wd h => ?_
       exact ⟨nf,Nat.lt_succ_self nf,(IntKind.wrap .i64 (n1697 + 1)),m1807,m1808,hL1700,h.z⟩
     ·
      refine kF h ?_
      refine wp_exit ?_
      injection hL1700 with hL1700; subst hL1700
      exact ⟨rfl,h.z⟩
  ·
   rintro ac wd ⟨rfl,h⟩
   (try dsimp only at hD)
   obtain ⟨ha1864,hD⟩ := iT hD
   obtain ⟨ha1865,hD⟩ := iT hD
   obtain ⟨v1866,hv1867,hD⟩ := vB hD
   refine qs 174 [] [1,2,5] [(1,0),(8,0)] h fun ac wd h => ?_
   obtain ⟨r1870,hc1871,hD⟩ := oB hD
   have hc1080k := L_plain_Start_ok hc1080
   have hc1871k := L_plain_Run_ok hc1871
   refine ds 187 [factE 176 hc1080k,factE 178 hc1871k] [1,5,13,14,15] [(8,0),(183,0)] h fun ac wd h => ?_
   obtain ⟨r1876,hc1877,hD⟩ := oB hD
   obtain ⟨r1878,hc1879,hD⟩ := oB hD
   have hc1082k := L_ref05_Start_ok hc1082
   have hc1877k := L_law05_Steps_ok hc1877
   have hc1879k := L_ref05_Run_ok hc1879
   refine ds 201 [factE 189 hc1082k,factE 191 hc1877k,factE 192 hc1879k] [13,14,15,16,17,18] [(183,0),(197,0)] h fun ac wd h => ?_
   obtain ⟨r1889,hc1890,hD⟩ := oB hD
   obtain ⟨r1891,hc1892,hD⟩ := oB hD
   obtain ⟨hb1893,hD⟩ := iT hD
   obtain ⟨hb1894,hD⟩ := iTe hD
   obtain ⟨hb1895,hD⟩ := iTe hD
   obtain ⟨r1896,hc1897,hD⟩ := oB hD
   have hc1890k := L_law05_Ref_ok hc1890
   have hc1892k := L_ref05_Same_ok hc1892
   have hc1897k := L_law05_fixed_ok hc1897
   refine dsg 219 [factE 202 hc1890k,factE 204 hc1892k,factE 216 hc1897k] [none,none,none,none,none,some (some 129,true),some (some 129,true),some (some 129,true),none,none,some (some 134,true),some (some 134,true),some (some 134,true),none,none,some (some 139,true),none,none] [4] [] h fun ac wd h => ?_
   refine wp_ret ?_
   injection hD with hD
   subst hD
   exact rE h [.tmp 4]
 ·
  refine kT h ?_
  obtain ⟨r1903,hc1904,hD⟩ := oB hD
  obtain ⟨hb1905,hD⟩ := iFb hD
  obtain ⟨r1908,hc1909,hD⟩ := oB hD
  have hc1904k := L_plain_Right_ok hc1904
  have hc1909k := L_law05_fixed_ok hc1909
  refine qsg 24 [factE 18 hc1904k,factE 21 hc1909k] [none,none,none,none,none,some (some 33,true),none,none] [4] [] h fun ac wd h => ?_
  refine wp_ret ?_
  injection hD with hD
  subst hD
  exact rE h [.tmp 4]

end Go.Proofs.Ytifcbecpemaieaa
