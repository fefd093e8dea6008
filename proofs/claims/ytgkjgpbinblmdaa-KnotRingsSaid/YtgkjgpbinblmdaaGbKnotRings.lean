/- Functions as typed ones, and that the program's functions answer as these do. No condition. -/
import Derived.Test.YtgkjgpbinblmdaaGb6
import Derived.Test.YtgkjgpbinblmdaaGdKnotRings
set_option linter.unusedSimpArgs false
set_option linter.unusedVariables false
set_option maxRecDepth 20000
set_option maxHeartbeats 4000000
namespace Go.Proofs.Ytgkjgpbinblmdaa
open Go.RowKit

theorem L_law15_KnotRings_ok {a0 : TApp} {a1 : TConf} {a2 : TWay} {r : Bool} (hD : L_law15_KnotRings a0 a1 a2 = some r) :
    CallH Try.prog 6 [.agg (cTApp a0), .agg (cTConf a1), .agg (cTWay a2)] []
      (.one (.d (.bool r))) [] := by
  unfold L_law15_KnotRings at hD
  refine rc Try.func6 rfl Try.ntmps6 fun S Φ P0 wb ac h => ?_
  refine qs 5 [] [3, 4, 5] [(1, 0), (2, 0), (3, 0)] h fun ac wd h => ?_
  obtain ⟨r568, hc569, hD⟩ := oB hD
  have hc569k := L_law05_Cut_ok hc569
  refine qs 8 [factE 6 hc569k] [3, 4, 5] [(1, 0), (2, 0), (3, 0)] h fun ac wd h => ?_
  obtain ⟨r572, hc573, hD⟩ := oB hD
  have hc573k := L_law05_CutConf_ok hc573
  refine qs 11 [factE 9 hc573k] [3, 4, 5] [(1, 0), (2, 0), (3, 0)] h fun ac wd h => ?_
  obtain ⟨ha578, hD⟩ := iT hD
  obtain ⟨ha579, hD⟩ := iT hD
  obtain ⟨v580, hv581, hD⟩ := vB hD
  refine qs 19 [] [3, 4, 7] [(1, 0), (2, 0)] h fun ac wd h => ?_
  refine wp_seq ?_
  obtain ⟨r588, hc589, hD⟩ := oB hD
  obtain ⟨r590, hc591, hD⟩ := oB hD
  obtain ⟨r592, hc593, hD⟩ := oB hD
  have hc589k := L_law05_App_ok hc589
  have hc591k := L_law05_Ref_ok hc591
  have hc593k := L_ref05_Right_ok hc593
  refine ds 25 [factE 20 hc589k, factE 22 hc591k, factE 23 hc593k] [3, 4, 7, 28] [(1, 0), (2, 0)] h fun ac wd h => ?_
  rcases i2b hD with ⟨hb608, hD⟩ | ⟨hb608, hD⟩
  ·
    refine kF h ?_
    refine wp_skip ?_
    change Code.wp Try.prog _ _ _ _
    obtain ⟨r787, hc788, hD⟩ := oB hD
    have hc788k := L_knot_Ring_ok hc788
    refine qs 30 [factE 28 hc788k] [3, 4, 7, 8] [(1, 0), (2, 0)] h fun ac wd h => ?_
    refine wp_seq ?_
    refine qs 31 [] [3, 4, 7, 8, 9] [(1, 0), (2, 0)] h fun ac wd h => ?_
    obtain ⟨e1035, hE1036, hD⟩ := Option.bind_eq_some_iff.1 hD
    refine r_meet (fun ac wd => () = e1035 ∧ SL ⟨wb, S, Φ, P0⟩ 101 105 [(3, .one (.ptr (1, 0) 0)), (4, .one (.ptr (2, 0) 0)), (7, .one (.d (.sl (List.map eI v580)))), (8, .one (.d (.bool r787)))] [((1, 0), some (.box 27 [.d (.int .i64 r568.G.N), .d (.sl (List.map eA2I r568.G.Links)), .d (.sl (List.map eTNode r568.T)), .d (.bool r568.Fifo)])), ((2, 0), some (.box 31 [.d (.sl (List.map eI r572.States)), .d (.sl (List.map (eL eTMsg) r572.Links)), .d (.sl (List.map eI r572.Sent))]))] ac wd) ?_ ?_
    · skip
      refine wp_block ?_
      refine r_while (fun nf ac wd => ∃ (n1186 : Int), L_law15_KnotRings_l1 r568 r572 r787 v580 nf n1186 = some e1035 ∧ SL ⟨wb, S, Φ, P0⟩ 101 101 [(3, .one (.ptr (1, 0) 0)), (4, .one (.ptr (2, 0) 0)), (7, .one (.d (.sl (List.map eI v580)))), (8, .one (.d (.bool r787))), (9, .one (.d (.int .i64 n1186)))] [((1, 0), some (.box 27 [.d (.int .i64 r568.G.N), .d (.sl (List.map eA2I r568.G.Links)), .d (.sl (List.map eTNode r568.T)), .d (.bool r568.Fifo)])), ((2, 0), some (.box 31 [.d (.sl (List.map eI r572.States)), .d (.sl (List.map (eL eTMsg) r572.Links)), .d (.sl (List.map eI r572.Sent))]))] ac wd) (((v580.length : Int) - 0).toNat + 1) ⟨0, hE1036, h.z⟩ (fun nf ac wd hJ => ?_)
      obtain ⟨n1186, hL1187, h⟩ := hJ
      cases nf with
      | zero => rw [L_law15_KnotRings_l1] at hL1187; cases hL1187
      | succ nf =>
        rw [L_law15_KnotRings_l1] at hL1187
        refine wp_seq ?_
        refine qs 105 [] [3, 4, 7, 8, 9, 43] [(1, 0), (2, 0)] h fun ac wd h => ?_
        rcases i2 hL1187 with ⟨hb1189, hL1187⟩ | ⟨hb1189, hL1187⟩
        ·
          refine kT h ?_
          refine wp_skip ?_
          change Code.wp Try.prog _ _ _ _
          refine wp_seq ?_
          refine wp_block ?_
          obtain ⟨ha1251, hL1187⟩ := iT hL1187
          obtain ⟨ha1252, hL1187⟩ := iT hL1187
          obtain ⟨v1253, hv1254, hL1187⟩ := vB hL1187
          obtain ⟨ha1255, hL1187⟩ := iT hL1187
          refine qs 111 [] [3, 4, 7, 8, 9, 10] [(1, 0), (2, 0), (109, 0)] h fun ac wd h => ?_
          obtain ⟨v1259, hv1260, hL1187⟩ := vB hL1187
          obtain ⟨ha1261, hL1187⟩ := iT hL1187
          refine qs 117 [] [3, 4, 7, 8, 9, 10] [(1, 0), (2, 0), (115, 0)] h fun ac wd h => ?_
          obtain ⟨r1272, hc1273, hL1187⟩ := oB hL1187
          obtain ⟨hb1274, hL1187⟩ := iTe hL1187
          obtain ⟨ha1275, hL1187⟩ := iT hL1187
          obtain ⟨ha1276, hL1187⟩ := iT hL1187
          obtain ⟨v1277, hv1278, hL1187⟩ := vB hL1187
          obtain ⟨r1279, hc1280, hL1187⟩ := oB hL1187
          have hc1273k := L_knot_Ring_ok hc1273
          have hc1280k := L_knot_Ring_ok hc1280
          refine dsg 133 [factE 120 hc1273k, factE 131 hc1280k] [none, none, none, none, none, none, none, some (some 62, false), some (some 62, false), some (some 62, false), some (some 62, false), some (some 62, false), some (some 62, false), some (some 62, false), some (some 62, false), none] [3, 4, 7, 8, 9, 71] [(1, 0), (2, 0)] h fun ac wd h => ?_
          obtain ⟨hb1281, hL1187⟩ := iFb hL1187
          refine kF h ?_
          refine wp_skip ?_
          change Code.wp Try.prog _ _ _ _
          refine qe [] [3, 4, 7, 8, 9] [(1, 0), (2, 0)] h fun ac wd h => ?_
          exact ⟨nf, Nat.lt_succ_self nf, (IntKind.wrap .i64 (n1186 + 1)), hL1187, h.z⟩
        ·
          refine kF h ?_
          refine wp_exit ?_
          injection hL1187 with hL1187; subst hL1187
          exact ⟨rfl, h.z⟩
    · skip
      rintro ac wd ⟨rfl, h⟩
      (try dsimp only at hD)
      obtain ⟨ha1283, hD⟩ := iT hD
      refine qs 109 [] [3, 4, 7, 8, 11] [(1, 0), (2, 0), (107, 0)] h fun ac wd h => ?_
      obtain ⟨ha1285, hD⟩ := iT hD
      refine qs 113 [] [3, 4, 7, 8, 11] [(1, 0), (2, 0), (111, 0)] h fun ac wd h => ?_
      obtain ⟨e1307, hE1308, hD⟩ := Option.bind_eq_some_iff.1 hD
      refine r_seqJ (fun ac wd => ∃ (b1306 : Bool), b1306 = e1307 ∧ SL ⟨wb, S, Φ, P0⟩ 101 137 [(6, .one (.d (.bool b1306)))] [] ac wd) ?_ ?_
      · skip
        rcases i2e hE1308 with ⟨hb1309, hE1308⟩ | ⟨hb1309, hE1308⟩
        ·
          rcases i2b hE1308 with ⟨hb1319, hE1308⟩ | ⟨hb1319, hE1308⟩
          ·
            obtain ⟨r1327, hc1328, hE1308⟩ := oB hE1308
            rcases i2b hE1308 with ⟨hb1329, hE1308⟩ | ⟨hb1329, hE1308⟩
            ·
              obtain ⟨r1332, hc1333, hE1308⟩ := oB hE1308
              have hc1328k := L_knot_Held_ok hc1328
              have hc1333k := L_law15_fixed_ok hc1333
              refine qeg [factE 130 hc1328k, factE 134 hc1333k] [none, none, none, none, some (some 81, false), some (some 81, false), some (some 81, false), some (some 81, false), some (some 81, false), none, none, some (some 88, true), some (some 88, true), some (some 88, true), some (some 91, false), some (some 91, false), some (some 91, false), some (some 91, false), some (some 88, true), none, none, some (some 98, true), none, none] [6] [] h fun ac wd h => ?_
              injection hE1308 with hE1308; subst hE1308
              exact ⟨r1332, rfl, h.z⟩
            ·
              have hc1328k := L_knot_Held_ok hc1328
              refine qeg [factE 130 hc1328k] [none, none, none, none, some (some 81, false), some (some 81, false), some (some 81, false), some (some 81, false), some (some 81, false), none, none, some (some 88, true), some (some 88, true), some (some 88, true), some (some 91, false), some (some 91, false), some (some 91, false), some (some 91, false), some (some 88, true), none, none, some (some 98, true), none, none] [6] [] h fun ac wd h => ?_
              injection hE1308 with hE1308; subst hE1308
              exact ⟨false, rfl, h.z⟩
          ·
            obtain ⟨r1334, hc1335, hE1308⟩ := oB hE1308
            have hc1335k := L_law15_fixed_ok hc1335
            refine qeg [factE 134 hc1335k] [none, none, none, none, some (some 81, false), some (some 81, false), some (some 81, false), some (some 81, false), some (some 81, false), none, none, some (some 88, true), some (some 88, true), some (some 88, true), some (some 91, false), some (some 91, false), some (some 91, false), some (some 91, false), some (some 88, true), none, none, some (some 98, true), none, none] [6] [] h fun ac wd h => ?_
            injection hE1308 with hE1308; subst hE1308
            exact ⟨r1334, rfl, h.z⟩
        ·
          obtain ⟨r1336, hc1337, hE1308⟩ := oB hE1308
          rcases i2b hE1308 with ⟨hb1338, hE1308⟩ | ⟨hb1338, hE1308⟩
          ·
            have hc1337k := L_knot_Ring_ok hc1337
            refine qeg [factE 120 hc1337k] [none, none, none, none, some (some 81, false), some (some 81, false), some (some 81, false), some (some 81, false), some (some 81, false), none, none, some (some 88, true), some (some 88, true), some (some 88, true), some (some 91, false), some (some 91, false), some (some 91, false), some (some 91, false), some (some 88, true), none, none, some (some 98, true), none, none] [6] [] h fun ac wd h => ?_
            injection hE1308 with hE1308; subst hE1308
            exact ⟨false, rfl, h.z⟩
          ·
            rcases i2b hE1308 with ⟨hb1345, hE1308⟩ | ⟨hb1345, hE1308⟩
            ·
              obtain ⟨r1353, hc1354, hE1308⟩ := oB hE1308
              rcases i2b hE1308 with ⟨hb1355, hE1308⟩ | ⟨hb1355, hE1308⟩
              ·
                obtain ⟨r1358, hc1359, hE1308⟩ := oB hE1308
                have hc1337k := L_knot_Ring_ok hc1337
                have hc1354k := L_knot_Held_ok hc1354
                have hc1359k := L_law15_fixed_ok hc1359
                refine qeg [factE 120 hc1337k, factE 130 hc1354k, factE 134 hc1359k] [none, none, none, none, some (some 81, false), some (some 81, false), some (some 81, false), some (some 81, false), some (some 81, false), none, none, some (some 88, true), some (some 88, true), some (some 88, true), some (some 91, false), some (some 91, false), some (some 91, false), some (some 91, false), some (some 88, true), none, none, some (some 98, true), none, none] [6] [] h fun ac wd h => ?_
                injection hE1308 with hE1308; subst hE1308
                exact ⟨r1358, rfl, h.z⟩
              ·
                have hc1337k := L_knot_Ring_ok hc1337
                have hc1354k := L_knot_Held_ok hc1354
                refine qeg [factE 120 hc1337k, factE 130 hc1354k] [none, none, none, none, some (some 81, false), some (some 81, false), some (some 81, false), some (some 81, false), some (some 81, false), none, none, some (some 88, true), some (some 88, true), some (some 88, true), some (some 91, false), some (some 91, false), some (some 91, false), some (some 91, false), some (some 88, true), none, none, some (some 98, true), none, none] [6] [] h fun ac wd h => ?_
                injection hE1308 with hE1308; subst hE1308
                exact ⟨false, rfl, h.z⟩
            ·
              obtain ⟨r1360, hc1361, hE1308⟩ := oB hE1308
              have hc1337k := L_knot_Ring_ok hc1337
              have hc1361k := L_law15_fixed_ok hc1361
              refine qeg [factE 120 hc1337k, factE 134 hc1361k] [none, none, none, none, some (some 81, false), some (some 81, false), some (some 81, false), some (some 81, false), some (some 81, false), none, none, some (some 88, true), some (some 88, true), some (some 88, true), some (some 91, false), some (some 91, false), some (some 91, false), some (some 91, false), some (some 88, true), none, none, some (some 98, true), none, none] [6] [] h fun ac wd h => ?_
              injection hE1308 with hE1308; subst hE1308
              exact ⟨r1360, rfl, h.z⟩
      · skip
        rintro ac wd ⟨b1306, rfl, h⟩
        (try dsimp only at hD)
        refine wp_ret ?_
        injection hD with hD
        subst hD
        exact rE h [.tmp 6]
  ·
    refine kT h ?_
    obtain ⟨r1367, hc1368, hD⟩ := oB hD
    obtain ⟨hb1369, hD⟩ := iFb hD
    obtain ⟨r1372, hc1373, hD⟩ := oB hD
    have hc1368k := L_plain_Right_ok hc1368
    have hc1373k := L_law15_fixed_ok hc1373
    refine qsg 33 [factE 27 hc1368k, factE 30 hc1373k] [none, none, none, none, none, some (some 33, true), none, none] [6] [] h fun ac wd h => ?_
    refine wp_ret ?_
    injection hD with hD
    subst hD
    exact rE h [.tmp 6]

end Go.Proofs.Ytgkjgpbinblmdaa
