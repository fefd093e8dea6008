/- Functions as typed ones, and that the program's functions answer as these do. No condition. -/
import Derived.Test.YtkfahinbpmhcgaaGb5
import Derived.Test.YtkfahinbpmhcgaaGdTableStays
set_option linter.unusedSimpArgs false
set_option linter.unusedVariables false
set_option maxRecDepth 20000
set_option maxHeartbeats 4000000
namespace Go.Proofs.Ytkfahinbpmhcgaa
open Go.RowKit

theorem L_law04_TableStays_ok {a0 : (List TNode)} {a1 : TGraph} {a2 : TCourse} {r : Bool} (hD : L_law04_TableStays a0 a1 a2 = some r) :
    CallH Try.prog 5 [.one (.d (.sl (List.map eTNode a0))), .agg (cTGraph a1), .agg (cTCourse a2)] []
      (.one (.d (.bool r))) [] := by
  unfold L_law04_TableStays at hD
  refine rc Try.func5 rfl Try.ntmps5 fun S Φ P0 wb ac h => ?_
  refine qs 4 [] [0, 4, 5] [(1, 0), (2, 0)] h fun ac wd h => ?_
  obtain ⟨r579, hc580, hD⟩ := oB hD
  have hc580k := L_law04_Cut_ok hc580
  refine qs 7 [factE 5 hc580k] [0, 4, 5] [(1, 0), (2, 0)] h fun ac wd h => ?_
  obtain ⟨r583, hc584, hD⟩ := oB hD
  have hc584k := L_law03_Cut_ok hc584
  refine qs 10 [factE 8 hc584k] [0, 4, 5] [(1, 0), (2, 0)] h fun ac wd h => ?_
  refine wp_seq ?_
  obtain ⟨r591, hc592, hD⟩ := oB hD
  obtain ⟨r593, hc594, hD⟩ := oB hD
  obtain ⟨r595, hc596, hD⟩ := oB hD
  have hc592k := L_law04_Ref_ok hc592
  have hc594k := L_law03_Ref_ok hc594
  have hc596k := L_ref04_Right_ok hc596
  refine ds 16 [factE 11 hc592k, factE 13 hc594k, factE 14 hc596k] [0, 4, 5, 24] [(1, 0), (2, 0)] h fun ac wd h => ?_
  rcases i2b hD with ⟨hb611, hD⟩ | ⟨hb611, hD⟩
  ·
    refine kF h ?_
    refine wp_skip ?_
    change Code.wp Try.prog _ _ _ _
    obtain ⟨ha630, hD⟩ := iT hD
    refine qs 23 [] [0, 4, 5, 7] [(1, 0), (2, 0)] h fun ac wd h => ?_
    obtain ⟨x634, hx635a, hx635b, hx635c, hx635d, hD⟩ := aB hD
    obtain ⟨ha636, hD⟩ := iT hD
    refine ds 34 [] [0, 4, 5, 7, 8] [(1, 0), (2, 0)] h fun ac wd h => ?_
    obtain ⟨r639, hc640, hD⟩ := oB hD
    have hc640k := L_table_Waits_ok hc640
    refine qs 39 [factE 37 hc640k] [0, 4, 5, 7, 8, 9] [(1, 0), (2, 0)] h fun ac wd h => ?_
    refine wp_seq ?_
    refine qs 42 [] [0, 4, 5, 7, 8, 9, 54] [(1, 0), (2, 0)] h fun ac wd h => ?_
    rcases i2e hD with ⟨hb655, hD⟩ | ⟨hb655, hD⟩
    ·
      refine kT h ?_
      obtain ⟨r834, hc835, hD⟩ := oB hD
      obtain ⟨hb836, hD⟩ := iF hD
      obtain ⟨r839, hc840, hD⟩ := oB hD
      have hc835k := L_table_Mode_ok hc835
      have hc840k := L_law04_fixed_ok hc840
      refine qsg 51 [factE 45 hc835k, factE 48 hc840k] [none, none, none, none, none, none, some (some 60, true), none, none] [6] [] h fun ac wd h => ?_
      refine wp_ret ?_
      injection hD with hD
      subst hD
      exact rE h [.tmp 6]
    ·
      refine kF h ?_
      refine wp_skip ?_
      change Code.wp Try.prog _ _ _ _
      obtain ⟨ha844, hD⟩ := iT hD
      obtain ⟨x845, hx846a, hx846b, hx846c, hx846d, hD⟩ := aB hD
      refine qs 52 [] [0, 4, 5, 7, 8, 10] [(1, 0), (2, 0)] h fun ac wd h => ?_
      refine wp_seq ?_
      refine qs 53 [] [0, 4, 5, 7, 8, 10, 11] [(1, 0), (2, 0)] h fun ac wd h => ?_
      obtain ⟨e1089, hE1090, hD⟩ := Option.bind_eq_some_iff.1 hD
      refine r_meet (fun ac wd => () = e1089 ∧ SL ⟨wb, S, Φ, P0⟩ 127 182 [] [] ac wd) ?_ ?_
      · skip
        refine wp_block ?_
        refine r_while (fun nf ac wd => ∃ (n1249 : Int) (n1250 : Int), L_law04_TableStays_l1 a2 r579 r583 x845 nf n1249 n1250 = some e1089 ∧ SL ⟨wb, S, Φ, P0⟩ 127 173 [(0, .one (.d (.sl (List.map eTNode r579)))), (4, .one (.ptr (1, 0) 0)), (5, .one (.ptr (2, 0) 0)), (7, .one (.d (.int .i64 ((landK .i64 a2.Node 255).tmod r583.N)))), (8, .one (.d (.int .i64 n1249))), (10, .one (.d (.int .i64 x845))), (11, .one (.d (.int .i64 n1250)))] [((1, 0), some (.box 24 [.d (.int .i64 r583.N), .d (.sl (List.map eA2I r583.Links))])), ((2, 0), some (.box 60 (cTCourse a2)))] ac wd) (((a2.From.length : Int) - 0).toNat + 1) ⟨((landK .i64 a2.State 255).tmod (x634.States.length : Int)), 0, hE1090, h.z⟩ (fun nf ac wd hJ => ?_)
        obtain ⟨n1249, n1250, hL1251, h⟩ := hJ
        cases nf with
        | zero => rw [L_law04_TableStays_l1] at hL1251; cases hL1251
        | succ nf =>
          rw [L_law04_TableStays_l1] at hL1251
          refine wp_seq ?_
          obtain ⟨e1258, hE1259, hL1251⟩ := Option.bind_eq_some_iff.1 hL1251
          refine r_seqJ (fun ac wd => ∃ (b1257 : Bool), b1257 = e1258 ∧ SL ⟨wb, S, Φ, P0⟩ 127 182 [(0, .one (.d (.sl (List.map eTNode r579)))), (4, .one (.ptr (1, 0) 0)), (5, .one (.ptr (2, 0) 0)), (7, .one (.d (.int .i64 ((landK .i64 a2.Node 255).tmod r583.N)))), (8, .one (.d (.int .i64 n1249))), (10, .one (.d (.int .i64 x845))), (11, .one (.d (.int .i64 n1250))), (80, .one (.d (.bool b1257)))] [((1, 0), some (.box 24 [.d (.int .i64 r583.N), .d (.sl (List.map eA2I r583.Links))])), ((2, 0), some (.box 60 (cTCourse a2)))] ac wd) ?_ ?_
          · skip
            rcases i2 hE1259 with ⟨hb1260, hE1259⟩ | ⟨hb1260, hE1259⟩
            ·
              refine qeg [] [none, none, none, none, none, none, some (some 77, true), some (some 77, true), none] [0, 4, 5, 7, 8, 10, 11, 80] [(1, 0), (2, 0)] h fun ac wd h => ?_
              injection hE1259 with hE1259; subst hE1259
              exact ⟨decide (n1250 < 30), rfl, h.z⟩
            ·
              refine qeg [] [none, none, none, none, none, none, some (some 77, true), some (some 77, true), none] [0, 4, 5, 7, 8, 10, 11, 80] [(1, 0), (2, 0)] h fun ac wd h => ?_
              injection hE1259 with hE1259; subst hE1259
              exact ⟨false, rfl, h.z⟩
          · skip
            rintro ac wd ⟨b1257, rfl, h⟩
            (try dsimp only at hL1251)
            rcases i2b hL1251 with ⟨hb1262, hL1251⟩ | ⟨hb1262, hL1251⟩
            ·
              refine kT h ?_
              refine wp_skip ?_
              change Code.wp Try.prog _ _ _ _
              obtain ⟨e1301, hE1302, hL1251⟩ := Option.bind_eq_some_iff.1 hL1251
              refine r_seqJ (fun ac wd => ∃ (n1300 : Int), n1300 = e1301 ∧ SL ⟨wb, S, Φ, P0⟩ 127 230 [(0, .one (.d (.sl (List.map eTNode r579)))), (4, .one (.ptr (1, 0) 0)), (5, .one (.ptr (2, 0) 0)), (7, .one (.d (.int .i64 ((landK .i64 a2.Node 255).tmod r583.N)))), (8, .one (.d (.int .i64 n1300))), (10, .one (.d (.int .i64 x845))), (11, .one (.d (.int .i64 n1250)))] [((1, 0), some (.box 24 [.d (.int .i64 r583.N), .d (.sl (List.map eA2I r583.Links))])), ((2, 0), some (.box 60 (cTCourse a2)))] ac wd) ?_ ?_
              · skip
                refine wp_block ?_
                obtain ⟨x1305, hx1306a, hx1306b, hx1306c, hx1306d, hE1302⟩ := aB hE1302
                refine ds 192 [] [0, 4, 5, 7, 8, 10, 11, 12] [(1, 0), (2, 0)] h fun ac wd h => ?_
                refine wp_seq ?_
                refine qs 195 [] [0, 4, 5, 7, 8, 10, 11, 12, 94] [(1, 0), (2, 0)] h fun ac wd h => ?_
                rcases i2e hE1302 with ⟨hb1308, hE1302⟩ | ⟨hb1308, hE1302⟩
                ·
                  refine kT h ?_
                  refine wp_exit ?_
                  injection hE1302 with hE1302; subst hE1302
                  exact ⟨n1249, rfl, h.z⟩
                ·
                  refine kF h ?_
                  refine wp_skip ?_
                  change Code.wp Try.prog _ _ _ _
                  obtain ⟨r1324, hc1325, hE1302⟩ := oB hE1302
                  have hc1325k := L_table_Taken_ok hc1325
                  refine qs 203 [factE 201 hc1325k] [0, 4, 5, 7, 8, 10, 11] [(1, 0), (2, 0)] h fun ac wd h => ?_
                  obtain ⟨r1328, hc1329, hE1302⟩ := oB hE1302
                  have hc1329k := L_table_Picked_ok hc1329
                  refine qs 213 [factE 206 hc1329k] [0, 4, 5, 7, 8, 10, 11, 14] [(1, 0), (2, 0)] h fun ac wd h => ?_
                  obtain ⟨r1339, hc1340, hE1302⟩ := oB hE1302
                  obtain ⟨hb1341, hE1302⟩ := iTe hE1302
                  obtain ⟨r1342, hc1343, hE1302⟩ := oB hE1302
                  obtain ⟨r1344, hc1345, hE1302⟩ := oB hE1302
                  obtain ⟨hb1346, hE1302⟩ := iT hE1302
                  have hc1340k := L_table_Mode_ok hc1340
                  have hc1343k := L_table_Waits_ok hc1343
                  have hc1345k := L_ref04_In_ok hc1345
                  refine qsg 230 [factE 216 hc1340k, factE 222 hc1343k, factE 224 hc1345k] [none, none, none, none, none, none, some (some 114, false), some (some 114, false), some (some 114, false), some (some 114, false), some (some 114, false), some (some 114, false), some (some 114, false), none, none, some (some 123, false), none] [0, 4, 5, 7, 8, 10, 11, 125] [(1, 0), (2, 0)] h fun ac wd h => ?_
                  obtain ⟨hb1347, hE1302⟩ := iFb hE1302
                  refine kF h ?_
                  refine wp_skip ?_
                  injection hE1302 with hE1302; subst hE1302
                  exact ⟨r1324, rfl, h.z⟩
              · skip
                rintro ac wd ⟨n1300, rfl, h⟩
                (try dsimp only at hL1251)
                refine qe [] [0, 4, 5, 7, 8, 10, 11] [(1, 0), (2, 0)] h fun ac wd h => ?_
                exact ⟨nf, Nat.lt_succ_self nf, n1300, (IntKind.wrap .i64 (n1250 + 1)), hL1251, h.z⟩
            ·
              refine kF h ?_
              refine wp_exit ?_
              injection hL1251 with hL1251; subst hL1251
              exact ⟨rfl, h.z⟩
      · skip
        rintro ac wd ⟨rfl, h⟩
        (try dsimp only at hD)
        obtain ⟨r1350, hc1351, hD⟩ := oB hD
        have hc1351k := L_law04_fixed_ok hc1351
        refine qs 184 [factE 182 hc1351k] [6] [] h fun ac wd h => ?_
        refine wp_ret ?_
        injection hD with hD
        subst hD
        exact rE h [.tmp 6]
  ·
    refine kT h ?_
    obtain ⟨r1357, hc1358, hD⟩ := oB hD
    obtain ⟨hb1359, hD⟩ := iFb hD
    obtain ⟨r1362, hc1363, hD⟩ := oB hD
    have hc1358k := L_table_Right_ok hc1358
    have hc1363k := L_law04_fixed_ok hc1363
    refine qsg 24 [factE 18 hc1358k, factE 21 hc1363k] [none, none, none, none, none, some (some 29, true), none, none] [6] [] h fun ac wd h => ?_
    refine wp_ret ?_
    injection hD with hD
    subst hD
    exact rE h [.tmp 6]

end Go.Proofs.Ytkfahinbpmhcgaa
