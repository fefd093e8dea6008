/- Functions as typed ones, and that the program's functions answer as these do. No condition. -/
import Derived.Test.YteohodhcegbmmaaGb2
set_option linter.unusedSimpArgs false
set_option linter.unusedVariables false
namespace Go.Proofs.Yteohodhcegbmmaa
open Go.RowKit

set_option maxRecDepth 20000 in
set_option maxHeartbeats 4000000 in
theorem L_law03_GraphDist_ok {a0 : TGraph} {a1 : Int} {a2 : Int} {r : Bool} (hD : L_law03_GraphDist a0 a1 a2 = some r) :
    CallH Try.prog 5 [.agg [.d (.int .i64 a0.N), .d (.sl (List.map eA2I a0.Links))], .one (.d (.int .i64 a1)), .one (.d (.int .i64 a2))] []
      (.one (.d (.bool r))) [] := by
  unfold L_law03_GraphDist at hD
  refine r_call Try.func5 rfl Try.ntmps5 (by kernel_rfl) (by rfl) (by rfl) (by simp) fun S Φ P0 wb ac h => ?_
  refine rs_plain 3 [] [none, none] [1, 2, 3] [(1, 0)] h rfl rfl (by simp only [EX, simprocAttr, Nat.blt, Nat.ble, tz_4, tz_24] <;> rfl) fun ac wd h => ?_
  obtain ⟨r681, hc682, hD⟩ := Option.bind_eq_some_iff.1 hD
  have hc682k := L_law03_Cut_ok hc682
  refine rs_plain 6 [factE 4 hc682k] [none, none, none] [1, 2, 3] [(1, 0)] h rfl rfl (by simp only [EX, simprocAttr, Nat.blt, Nat.ble, tz_24] <;> rfl) fun ac wd h => ?_
  refine wp_seq ?_
  obtain ⟨r687, hc688, hD⟩ := Option.bind_eq_some_iff.1 hD
  obtain ⟨r689, hc690, hD⟩ := Option.bind_eq_some_iff.1 hD
  have hc688k := L_law03_Ref_ok hc688
  have hc690k := L_ref03_Right_ok hc690
  refine rs_plain 10 [factE 7 hc688k, factE 8 hc690k] [none, none, none, none] [1, 2, 3, 21] [(1, 0)] h rfl rfl (by simp only [EX, simprocAttr, Nat.blt, Nat.ble, tz_4, tz_24, tz_28] <;> rfl) fun ac wd h => ?_
  by_cases hb705 : r689 = true
  · rw [if_pos hb705] at hD
    refine r_condF h (!(r689)) (by simp only [EX, simprocAttr, Nat.blt, Nat.ble, hb705] <;> rfl) (by first | rfl | (simp only [EX, simprocAttr, Nat.blt, Nat.ble, hb705] <;> rfl)) ?_
    refine wp_skip ?_
    change Code.wp Try.prog _ _ _ _
    by_cases ha873 : ¬ r681.N = 0
    case neg => rw [if_neg ha873] at hD; cases hD
    rw [if_pos ha873] at hD
    refine rs_drawn 22 ty_hm [] [none, none, none, none, none, none, none, none, none, none, none, none] [3, 7, 8] [(1, 0)] h rfl rfl (by simp only [EX, simprocAttr, Nat.blt, Nat.ble, tz_3, tz_24, hb705, ha873] <;> rfl) (by kernel_rfl) fun ac wd h => ?_
    obtain ⟨r878, hc879, hD⟩ := Option.bind_eq_some_iff.1 hD
    obtain ⟨r880, hc881, hD⟩ := Option.bind_eq_some_iff.1 hD
    have hc879k := L_graph_Dist_ok hc879
    have hc881k := L_graph_Dist_ok hc881
    refine rs_drawn 30 ty_hm [factE 24 hc879k, factE 27 hc881k] [none, none, none, none, none, none, none, none] [3, 7, 8, 9, 10] [(1, 0)] h rfl rfl (by simp only [EX, simprocAttr, Nat.blt, Nat.ble, tz_3, tz_24, tz_35, hb705, ha873] <;> rfl) (by kernel_rfl) fun ac wd h => ?_
    refine wp_seq ?_
    by_cases hb1038 : (r878.length : Int) = r681.N
    · rw [if_pos hb1038] at hD
      have hb1038t := eq_true hb1038
      by_cases hb1039 : (r880.length : Int) = r681.N
      · rw [if_pos hb1039] at hD
        have hb1039t := eq_true hb1039
        obtain ⟨x1040, hx1041, hD⟩ := Option.bind_eq_some_iff.1 hD
        obtain ⟨hx1041a, hx1041b, hx1041c⟩ := at_some hx1041
        have hx1041d := (List.getElem?_eq_some_iff.1 hx1041b).1
        by_cases hb1042 : x1040 = 0
        · rw [if_pos hb1042] at hD
          have hb1042t := eq_true hb1042
          obtain ⟨x1043, hx1044, hD⟩ := Option.bind_eq_some_iff.1 hD
          obtain ⟨hx1044a, hx1044b, hx1044c⟩ := at_some hx1044
          have hx1044d := (List.getElem?_eq_some_iff.1 hx1044b).1
          obtain ⟨x1045, hx1046, hD⟩ := Option.bind_eq_some_iff.1 hD
          obtain ⟨hx1046a, hx1046b, hx1046c⟩ := at_some hx1046
          have hx1046d := (List.getElem?_eq_some_iff.1 hx1046b).1
          refine rs_drawn 60 ty_hm [] [none, none, none, none, none, none, some (some 49, false), some (some 49, false), some (some 49, false), some (some 49, false), some (some 49, false), none, none, some (some 56, false), some (some 56, false), some (some 56, false), some (some 56, false), some (some 56, false), none, none, some (some 63, false), some (some 63, false), some (some 63, false), some (some 63, false), some (some 63, false), some (some 63, false), some (some 63, false), some (some 63, false), some (some 63, false), none] [3, 7, 9, 73] [(1, 0)] h rfl rfl (by simp only [EX, simprocAttr, Nat.blt, Nat.ble, tz_3, tz_4, tz_24, tz_35, hb705, ha873, hb1038t, hb1039t, hb1042t, hx1041a, hx1041b, hx1041c, hx1041d, hx1044a, hx1044b, hx1044c, hx1044d, hx1046a, hx1046b, hx1046c, hx1046d] <;> rfl) (by kernel_rfl) fun ac wd h => ?_
          by_cases hb1048 : x1043 = x1045
          · rw [if_pos hb1048] at hD
            have hb1048t := eq_true hb1048
            refine r_condF h (!(decide (x1043 = x1045))) (by simp only [EX, simprocAttr, Nat.blt, Nat.ble, hb705, ha873, hb1038t, hb1039t, hb1042t, hb1048t] <;> rfl) (by first | rfl | (simp only [EX, simprocAttr, Nat.blt, Nat.ble, hb705, ha873, hb1038t, hb1039t, hb1042t, hb1048t] <;> rfl)) ?_
            refine wp_skip ?_
            change Code.wp Try.prog _ _ _ _
            by_cases ha1052 : 0 ≤ r681.N
            case neg => rw [if_neg ha1052] at hD; cases hD
            rw [if_pos ha1052] at hD
            by_cases ha1053 : 1 * r681.N.toNat ≤ 140737488355328
            case neg => rw [if_neg ha1053] at hD; cases hD
            rw [if_pos ha1053] at hD
            by_cases ha1054 : r681.N.toNat ≤ 140737488355328
            case neg => rw [if_neg ha1054] at hD; cases hD
            rw [if_pos ha1054] at hD
            refine rs_plain 64 [] [none, none, none, none] [3, 7, 9, 11] [(1, 0), (62, 0)] h rfl rfl (by simp only [EX, simprocAttr, Nat.blt, Nat.ble, tz_3, tz_4, tz_24, tz_44, hb705, ha873, hb1038t, hb1039t, hb1042t, hb1048t, ha1052, ha1053, ha1054] <;> rfl) fun ac wd h => ?_
            refine wp_seq ?_
            refine rs_plain 65 [] [none] [3, 7, 9, 11, 12] [(1, 0), (62, 0)] h rfl rfl (by simp only [EX, simprocAttr, Nat.blt, Nat.ble, tz_3, hb705, ha873, hb1038t, hb1039t, hb1042t, hb1048t, ha1052, ha1053, ha1054] <;> rfl) fun ac wd h => ?_
            obtain ⟨e1391, hE1392, hD⟩ := Option.bind_eq_some_iff.1 hD
            refine r_meet (fun ac wd => ∃ (l1390 : List Bool), l1390 = e1391 ∧ SL ⟨wb, S, Φ, P0⟩ 165 206 [(3, .one (.ptr (1, 0) 0)), (7, .one (.d (.int .i64 ((landK .i64 a1 255).tmod r681.N)))), (9, .one (.d (.sl (List.map eI r878)))), (11, .one (.own (62, 0) l1390.length))] [((1, 0), some (.box 24 [.d (.int .i64 r681.N), .d (.sl (List.map eA2I r681.Links))])), ((62, 0), some (.row 4 1 (dat (List.map eB l1390))))] ac wd) ?_ ?_
            · skip
              refine wp_block ?_
              have h := h.same [3, 7, 9, 11, 12] [(1, 0), (62, 0)] 201 [(3, .one (.ptr (1, 0) 0)), (7, .one (.d (.int .i64 ((landK .i64 a1 255).tmod r681.N)))), (9, .one (.d (.sl (List.map eI r878)))), (11, .one (.own (62, 0) (List.replicate r681.N.toNat false).length)), (12, .one (.d (.int .i64 0)))]
                [((1, 0), some (.box 24 [.d (.int .i64 r681.N), .d (.sl (List.map eA2I r681.Links))])), ((62, 0), some (.row 4 1 (dat (List.map eB (List.replicate r681.N.toNat false)))))]
                (by simp only [EX, simprocAttr, Nat.blt, Nat.ble, hb705, ha873, hb1038t, hb1039t, hx1041a, hx1041b, hx1041c, hx1041d, hb1042t, hx1044a, hx1044b, hx1044c, hx1044d, hx1046a, hx1046b, hx1046c, hx1046d, hb1048t, ha1052, ha1053, ha1054] <;> rfl)
              refine r_while (fun nf ac wd => ∃ (n1521 : Int) (l1522 : List Bool), L_law03_GraphDist_l1 r681 r878 nf n1521 l1522 = some e1391 ∧ SL ⟨wb, S, Φ, P0⟩ 165 201 [(3, .one (.ptr (1, 0) 0)), (7, .one (.d (.int .i64 ((landK .i64 a1 255).tmod r681.N)))), (9, .one (.d (.sl (List.map eI r878)))), (11, .one (.own (62, 0) l1522.length)), (12, .one (.d (.int .i64 n1521)))] [((1, 0), some (.box 24 [.d (.int .i64 r681.N), .d (.sl (List.map eA2I r681.Links))])), ((62, 0), some (.row 4 1 (dat (List.map eB l1522))))] ac wd) (((r681.Links.length : Int) - 0).toNat + 1) ⟨0, (List.replicate r681.N.toNat false), hE1392, h⟩ (fun nf ac wd hJ => ?_)
              obtain ⟨n1521, l1522, hL1523, h⟩ := hJ
              cases nf with
              | zero => rw [L_law03_GraphDist_l1] at hL1523; cases hL1523
              | succ nf =>
                rw [L_law03_GraphDist_l1] at hL1523
                refine wp_seq ?_
                refine rs_plain 206 [] [none, none, none, none, none] [3, 7, 9, 11, 12, 81] [(1, 0), (62, 0)] h rfl rfl (by simp only [EX, simprocAttr, Nat.blt, Nat.ble, tz_3, tz_4, tz_22, tz_24, tz_43, hb705, ha873, hb1038t, hb1039t, hb1042t, hb1048t, ha1052, ha1053, ha1054] <;> rfl) fun ac wd h => ?_
                by_cases hb1525 : n1521 < (r681.Links.length : Int)
                · rw [if_pos hb1525] at hL1523
                  refine r_condT h (decide (n1521 < (r681.Links.length : Int))) (by simp only [EX, simprocAttr, Nat.blt, Nat.ble, hb705, ha873, hb1038t, hb1039t, hb1042t, hb1048t, ha1052, ha1053, ha1054, hb1525] <;> rfl) (by first | rfl | (simp only [EX, simprocAttr, Nat.blt, Nat.ble, hb705, ha873, hb1038t, hb1039t, hb1042t, hb1048t, ha1052, ha1053, ha1054, hb1525] <;> rfl)) ?_
                  refine wp_skip ?_
                  change Code.wp Try.prog _ _ _ _
                  obtain ⟨e1567, hE1568, hL1523⟩ := Option.bind_eq_some_iff.1 hL1523
                  refine r_seqJ (fun ac wd => ∃ (l1566 : List Bool), l1566 = e1567 ∧ SL ⟨wb, S, Φ, P0⟩ 165 266 [(3, .one (.ptr (1, 0) 0)), (7, .one (.d (.int .i64 ((landK .i64 a1 255).tmod r681.N)))), (9, .one (.d (.sl (List.map eI r878)))), (11, .one (.own (62, 0) l1566.length)), (12, .one (.d (.int .i64 n1521)))] [((1, 0), some (.box 24 [.d (.int .i64 r681.N), .d (.sl (List.map eA2I r681.Links))])), ((62, 0), some (.row 4 1 (dat (List.map eB l1566))))] ac wd) ?_ ?_
                  · skip
                    refine wp_block ?_
                    obtain ⟨x1571, hx1572, hE1568⟩ := Option.bind_eq_some_iff.1 hE1568
                    obtain ⟨hx1572a, hx1572b, hx1572c⟩ := at_some hx1572
                    have hx1572d := (List.getElem?_eq_some_iff.1 hx1572b).1
                    refine rs_drawn 220 ty_hm [] [none, none, none, none, none, none, none, none, none, none, none, none, none, none] [3, 7, 9, 11, 12, 13, 14] [(1, 0), (62, 0)] h rfl rfl (by simp only [EX, simprocAttr, Nat.blt, Nat.ble, tz_3, tz_22, tz_24, tz_43, hb705, ha873, hb1038t, hb1039t, hb1042t, hb1048t, ha1052, ha1053, ha1054, hb1525, hx1572a, hx1572b, hx1572c, hx1572d] <;> rfl) (by kernel_rfl) fun ac wd h => ?_
                    refine wp_seq ?_
                    obtain ⟨x1583, hx1584, hE1568⟩ := Option.bind_eq_some_iff.1 hE1568
                    obtain ⟨hx1584a, hx1584b, hx1584c⟩ := at_some hx1584
                    have hx1584d := (List.getElem?_eq_some_iff.1 hx1584b).1
                    obtain ⟨x1585, hx1586, hE1568⟩ := Option.bind_eq_some_iff.1 hE1568
                    obtain ⟨hx1586a, hx1586b, hx1586c⟩ := at_some hx1586
                    have hx1586d := (List.getElem?_eq_some_iff.1 hx1586b).1
                    by_cases hb1587 : x1583 > (IntKind.wrap .i64 (x1585 + 1))
                    · rw [if_pos hb1587] at hE1568; cases hE1568
                    · rw [if_neg hb1587] at hE1568
                      by_cases hb1593 : x1585 < 0
                      · rw [if_pos hb1593] at hE1568; cases hE1568
                      · rw [if_neg hb1593] at hE1568
                        refine rs_drawn 246 ty_hm [] [none, none, none, none, none, none, none, none, none, none, none, some (some 106, false), some (some 106, false), some (some 106, false), some (some 106, false), some (some 106, false), none, none, some (some 113, false), some (some 113, false), some (some 113, false), some (some 113, false), some (some 113, false), some (some 113, false), some (some 113, false), none] [3, 7, 9, 11, 12, 13, 14, 121] [(1, 0), (62, 0)] h rfl rfl (by simp only [EX, simprocAttr, Nat.blt, Nat.ble, tz_3, tz_4, tz_24, tz_35, hb705, ha873, hb1038t, hb1039t, hb1042t, hb1048t, ha1052, ha1053, ha1054, hb1525, hb1587, hb1593, hx1584a, hx1584b, hx1584c, hx1584d, hx1586a, hx1586b, hx1586c, hx1586d] <;> rfl) (by kernel_rfl) fun ac wd h => ?_
                        by_cases hb1599 : x1585 ≥ r681.N
                        · rw [if_pos hb1599] at hE1568; cases hE1568
                        · rw [if_neg hb1599] at hE1568
                          refine r_condF h (decide (x1585 ≥ r681.N)) (by simp only [EX, simprocAttr, Nat.blt, Nat.ble, hb705, ha873, hb1038t, hb1039t, hb1042t, hb1048t, ha1052, ha1053, ha1054, hb1525, hb1587, hb1593, hb1599] <;> rfl) (by first | rfl | (simp only [EX, simprocAttr, Nat.blt, Nat.ble, hb705, ha873, hb1038t, hb1039t, hb1042t, hb1048t, ha1052, ha1053, ha1054, hb1525, hb1587, hb1593, hb1599] <;> rfl)) ?_
                          refine wp_skip ?_
                          change Code.wp Try.prog _ _ _ _
                          obtain ⟨x1603, hx1604, hE1568⟩ := Option.bind_eq_some_iff.1 hE1568
                          obtain ⟨hx1604a, hx1604b, hx1604c⟩ := at_some hx1604
                          have hx1604d := (List.getElem?_eq_some_iff.1 hx1604b).1
                          by_cases hb1605 : x1603 = true
                          · rw [if_pos hb1605] at hE1568
                            refine r_drawn ty_hm [] [none, none, none, none, none, none, none, some (some 128, false), some (some 128, false), some (some 128, false), some (some 128, false), some (some 128, false), some (some 128, false), some (some 128, false), some (some 128, false), some (some 128, false), some (some 128, false), none, none, none] [3, 7, 9, 11, 12] [(1, 0), (62, 0)] h rfl (by simp only [EX, simprocAttr, Nat.blt, Nat.ble, tz_3, tz_4, tz_35, tz_44, hb705, ha873, hb1038t, hb1039t, hb1042t, hb1048t, ha1052, ha1053, ha1054, hb1525, hb1587, hb1593, hb1599, hb1605, hx1604a, hx1604b, hx1604c, hx1604d] <;> rfl) (by kernel_rfl) fun ac wd h => ?_
                            have h := h.same [3, 7, 9, 11, 12] [(1, 0), (62, 0)] 266 [(3, .one (.ptr (1, 0) 0)), (7, .one (.d (.int .i64 ((landK .i64 a1 255).tmod r681.N)))), (9, .one (.d (.sl (List.map eI r878)))), (11, .one (.own (62, 0) (l1522.set x1571.a1.toNat true).length)), (12, .one (.d (.int .i64 n1521)))]
                              [((1, 0), some (.box 24 [.d (.int .i64 r681.N), .d (.sl (List.map eA2I r681.Links))])), ((62, 0), some (.row 4 1 (dat (List.map eB (l1522.set x1571.a1.toNat true)))))]
                              (by simp only [EX, simprocAttr, Nat.blt, Nat.ble, hb705, ha873, hb1038t, hb1039t, hx1041a, hx1041b, hx1041c, hx1041d, hb1042t, hx1044a, hx1044b, hx1044c, hx1044d, hx1046a, hx1046b, hx1046c, hx1046d, hb1048t, ha1052, ha1053, ha1054, hb1525, hx1572a, hx1572b, hx1572c, hx1572d, hx1584a, hx1584b, hx1584c, hx1584d, hx1586a, hx1586b, hx1586c, hx1586d, hb1587, hb1593, hb1599, hx1604a, hx1604b, hx1604c, hx1604d, hb1605] <;> rfl)
                            injection hE1568 with hE1568
                            exact ⟨(l1522.set x1571.a1.toNat true), hE1568, h⟩
                          · rw [if_neg hb1605] at hE1568
                            have hb1605n := eq_false_of_ne_true hb1605
                            refine r_drawn ty_hm [] [none, none, none, none, none, none, none, some (some 128, false), some (some 128, false), some (some 128, false), some (some 128, false), some (some 128, false), some (some 128, false), some (some 128, false), some (some 128, false), some (some 128, false), some (some 128, false), none, none, none] [3, 7, 9, 11, 12] [(1, 0), (62, 0)] h rfl (by simp only [EX, simprocAttr, Nat.blt, Nat.ble, tz_3, tz_4, tz_35, tz_44, hb705, ha873, hb1038t, hb1039t, hb1042t, hb1048t, ha1052, ha1053, ha1054, hb1525, hb1587, hb1593, hb1599, hb1605n, hx1604a, hx1604b, hx1604c, hx1604d, hx1586a, hx1586b, hx1586c, hx1586d, hx1584a, hx1584b, hx1584c, hx1584d] <;> rfl) (by kernel_rfl) fun ac wd h => ?_
                            have h := h.same [3, 7, 9, 11, 12] [(1, 0), (62, 0)] 266 [(3, .one (.ptr (1, 0) 0)), (7, .one (.d (.int .i64 ((landK .i64 a1 255).tmod r681.N)))), (9, .one (.d (.sl (List.map eI r878)))), (11, .one (.own (62, 0) (l1522.set x1571.a1.toNat (decide (x1585 = (IntKind.wrap .i64 (x1583 - 1))))).length)), (12, .one (.d (.int .i64 n1521)))]
                              [((1, 0), some (.box 24 [.d (.int .i64 r681.N), .d (.sl (List.map eA2I r681.Links))])), ((62, 0), some (.row 4 1 (dat (List.map eB (l1522.set x1571.a1.toNat (decide (x1585 = (IntKind.wrap .i64 (x1583 - 1)))))))))]
                              (by simp only [EX, simprocAttr, Nat.blt, Nat.ble, hb705, ha873, hb1038t, hb1039t, hx1041a, hx1041b, hx1041c, hx1041d, hb1042t, hx1044a, hx1044b, hx1044c, hx1044d, hx1046a, hx1046b, hx1046c, hx1046d, hb1048t, ha1052, ha1053, ha1054, hb1525, hx1572a, hx1572b, hx1572c, hx1572d, hx1584a, hx1584b, hx1584c, hx1584d, hx1586a, hx1586b, hx1586c, hx1586d, hb1587, hb1593, hb1599, hx1604a, hx1604b, hx1604c, hx1604d, hb1605n] <;> rfl)
                            injection hE1568 with hE1568
                            exact ⟨(l1522.set x1571.a1.toNat (decide (x1585 = (IntKind.wrap .i64 (x1583 - 1))))), hE1568, h⟩
                  · skip
                    rintro ac wd ⟨l1566, rfl, h⟩
                    (try dsimp only at hL1523)
                    refine r_plain [] [none, none, none] [3, 7, 9, 11, 12] [(1, 0), (62, 0)] h rfl (by simp only [EX, simprocAttr, Nat.blt, Nat.ble, tz_3, hb705, ha873, hb1038t, hb1039t, hb1042t, hb1048t, ha1052, ha1053, ha1054, hb1525] <;> rfl) fun ac wd h => ?_
                    have h := h.same [3, 7, 9, 11, 12] [(1, 0), (62, 0)] 201 [(3, .one (.ptr (1, 0) 0)), (7, .one (.d (.int .i64 ((landK .i64 a1 255).tmod r681.N)))), (9, .one (.d (.sl (List.map eI r878)))), (11, .one (.own (62, 0) l1566.length)), (12, .one (.d (.int .i64 (IntKind.wrap .i64 (n1521 + 1)))))]
                      [((1, 0), some (.box 24 [.d (.int .i64 r681.N), .d (.sl (List.map eA2I r681.Links))])), ((62, 0), some (.row 4 1 (dat (List.map eB l1566))))]
                      (by simp only [EX, simprocAttr, Nat.blt, Nat.ble, hb705, ha873, hb1038t, hb1039t, hx1041a, hx1041b, hx1041c, hx1041d, hb1042t, hx1044a, hx1044b, hx1044c, hx1044d, hx1046a, hx1046b, hx1046c, hx1046d, hb1048t, ha1052, ha1053, ha1054, hb1525] <;> rfl)
                    change ∃ n', _ ∧ _
                    exact ⟨nf, Nat.lt_succ_self nf, (IntKind.wrap .i64 (n1521 + 1)), l1566, hL1523, h⟩
                · rw [if_neg hb1525] at hL1523
                  refine r_condF h (decide (n1521 < (r681.Links.length : Int))) (by simp only [EX, simprocAttr, Nat.blt, Nat.ble, hb705, ha873, hb1038t, hb1039t, hb1042t, hb1048t, ha1052, ha1053, ha1054, hb1525] <;> rfl) (by first | rfl | (simp only [EX, simprocAttr, Nat.blt, Nat.ble, hb705, ha873, hb1038t, hb1039t, hb1042t, hb1048t, ha1052, ha1053, ha1054, hb1525] <;> rfl)) ?_
                  refine wp_exit ?_
                  have h := h.same [3, 7, 9, 11] [(1, 0), (62, 0)] 206 [(3, .one (.ptr (1, 0) 0)), (7, .one (.d (.int .i64 ((landK .i64 a1 255).tmod r681.N)))), (9, .one (.d (.sl (List.map eI r878)))), (11, .one (.own (62, 0) l1522.length))]
                    [((1, 0), some (.box 24 [.d (.int .i64 r681.N), .d (.sl (List.map eA2I r681.Links))])), ((62, 0), some (.row 4 1 (dat (List.map eB l1522))))]
                    (by simp only [EX, simprocAttr, Nat.blt, Nat.ble, hb705, ha873, hb1038t, hb1039t, hx1041a, hx1041b, hx1041c, hx1041d, hb1042t, hx1044a, hx1044b, hx1044c, hx1044d, hx1046a, hx1046b, hx1046c, hx1046d, hb1048t, ha1052, ha1053, ha1054, hb1525] <;> rfl)
                  injection hL1523 with hL1523
                  exact ⟨l1522, hL1523, h⟩
            · skip
              rintro ac wd ⟨l1390, rfl, h⟩
              (try dsimp only at hD)
              refine wp_seq ?_
              refine rs_plain 207 [] [none] [3, 7, 9, 11, 15] [(1, 0), (62, 0)] h rfl rfl (by simp only [EX, simprocAttr, Nat.blt, Nat.ble, tz_3, hb705, ha873, hb1038t, hb1039t, hb1042t, hb1048t, ha1052, ha1053, ha1054] <;> rfl) fun ac wd h => ?_
              obtain ⟨e1714, hE1715, hD⟩ := Option.bind_eq_some_iff.1 hD
              refine r_meet (fun ac wd => () = e1714 ∧ SL ⟨wb, S, Φ, P0⟩ 165 259 [] [] ac wd) ?_ ?_
              · skip
                refine wp_block ?_
                have h := h.same [3, 7, 9, 11, 15] [(1, 0), (62, 0)] 255 [(3, .one (.ptr (1, 0) 0)), (7, .one (.d (.int .i64 ((landK .i64 a1 255).tmod r681.N)))), (9, .one (.d (.sl (List.map eI r878)))), (11, .one (.own (62, 0) l1390.length)), (15, .one (.d (.int .i64 0)))]
                  [((1, 0), some (.box 24 [.d (.int .i64 r681.N), .d (.sl (List.map eA2I r681.Links))])), ((62, 0), some (.row 4 1 (dat (List.map eB l1390))))]
                  (by simp only [EX, simprocAttr, Nat.blt, Nat.ble, hb705, ha873, hb1038t, hb1039t, hx1041a, hx1041b, hx1041c, hx1041d, hb1042t, hx1044a, hx1044b, hx1044c, hx1044d, hx1046a, hx1046b, hx1046c, hx1046d, hb1048t, ha1052, ha1053, ha1054] <;> rfl)
                refine r_while (fun nf ac wd => ∃ (n1785 : Int), L_law03_GraphDist_l2 a1 l1390 r681 r878 nf n1785 = some e1714 ∧ SL ⟨wb, S, Φ, P0⟩ 165 255 [(3, .one (.ptr (1, 0) 0)), (7, .one (.d (.int .i64 ((landK .i64 a1 255).tmod r681.N)))), (9, .one (.d (.sl (List.map eI r878)))), (11, .one (.own (62, 0) l1390.length)), (15, .one (.d (.int .i64 n1785)))] [((1, 0), some (.box 24 [.d (.int .i64 r681.N), .d (.sl (List.map eA2I r681.Links))])), ((62, 0), some (.row 4 1 (dat (List.map eB l1390))))] ac wd) ((r681.N - 0).toNat + 1) ⟨0, hE1715, h⟩ (fun nf ac wd hJ => ?_)
                obtain ⟨n1785, hL1786, h⟩ := hJ
                cases nf with
                | zero => rw [L_law03_GraphDist_l2] at hL1786; cases hL1786
                | succ nf =>
                  rw [L_law03_GraphDist_l2] at hL1786
                  refine wp_seq ?_
                  refine rs_plain 259 [] [none, none, none, none] [3, 7, 9, 11, 15, 144] [(1, 0), (62, 0)] h rfl rfl (by simp only [EX, simprocAttr, Nat.blt, Nat.ble, tz_3, tz_4, tz_24, hb705, ha873, hb1038t, hb1039t, hb1042t, hb1048t, ha1052, ha1053, ha1054] <;> rfl) fun ac wd h => ?_
                  by_cases hb1788 : n1785 < r681.N
                  · rw [if_pos hb1788] at hL1786
                    refine r_condT h (decide (n1785 < r681.N)) (by simp only [EX, simprocAttr, Nat.blt, Nat.ble, hb705, ha873, hb1038t, hb1039t, hb1042t, hb1048t, ha1052, ha1053, ha1054, hb1788] <;> rfl) (by first | rfl | (simp only [EX, simprocAttr, Nat.blt, Nat.ble, hb705, ha873, hb1038t, hb1039t, hb1042t, hb1048t, ha1052, ha1053, ha1054, hb1788] <;> rfl)) ?_
                    refine wp_skip ?_
                    change Code.wp Try.prog _ _ _ _
                    refine wp_seq ?_
                    refine wp_block ?_
                    obtain ⟨e1814, hE1815, hL1786⟩ := Option.bind_eq_some_iff.1 hL1786
                    refine r_seqJ (fun ac wd => ∃ (b1813 : Bool), b1813 = e1814 ∧ SL ⟨wb, S, Φ, P0⟩ 165 276 [(3, .one (.ptr (1, 0) 0)), (7, .one (.d (.int .i64 ((landK .i64 a1 255).tmod r681.N)))), (9, .one (.d (.sl (List.map eI r878)))), (11, .one (.own (62, 0) l1390.length)), (15, .one (.d (.int .i64 n1785))), (163, .one (.d (.bool b1813)))] [((1, 0), some (.box 24 [.d (.int .i64 r681.N), .d (.sl (List.map eA2I r681.Links))])), ((62, 0), some (.row 4 1 (dat (List.map eB l1390))))] ac wd) ?_ ?_
                    · skip
                      by_cases hb1816 : n1785 = ((landK .i64 a1 255).tmod r681.N)
                      · rw [if_pos hb1816] at hE1815
                        have hb1816t := eq_true hb1816
                        refine r_plain [] [none, none, none, none, some (some 150, true), some (some 150, true), some (some 150, true), some (some 150, true), some (some 150, true), some (some 150, true), some (some 156, false), some (some 156, false), some (some 156, false), some (some 156, false), some (some 156, false), some (some 150, true), none] [3, 7, 9, 11, 15, 163] [(1, 0), (62, 0)] h rfl (by simp only [EX, simprocAttr, Nat.blt, Nat.ble, tz_3, tz_4, tz_35, tz_44, hb705, ha873, hb1038t, hb1039t, hb1042t, hb1048t, ha1052, ha1053, ha1054, hb1788, hb1816t] <;> rfl) fun ac wd h => ?_
                        have h := h.same [3, 7, 9, 11, 15, 163] [(1, 0), (62, 0)] 276 [(3, .one (.ptr (1, 0) 0)), (7, .one (.d (.int .i64 ((landK .i64 a1 255).tmod r681.N)))), (9, .one (.d (.sl (List.map eI r878)))), (11, .one (.own (62, 0) l1390.length)), (15, .one (.d (.int .i64 n1785))), (163, .one (.d (.bool false)))]
                          [((1, 0), some (.box 24 [.d (.int .i64 r681.N), .d (.sl (List.map eA2I r681.Links))])), ((62, 0), some (.row 4 1 (dat (List.map eB l1390))))]
                          (by simp only [EX, simprocAttr, Nat.blt, Nat.ble, hb705, ha873, hb1038t, hb1039t, hx1041a, hx1041b, hx1041c, hx1041d, hb1042t, hx1044a, hx1044b, hx1044c, hx1044d, hx1046a, hx1046b, hx1046c, hx1046d, hb1048t, ha1052, ha1053, ha1054, hb1788, hb1816t] <;> rfl)
                        injection hE1815 with hE1815
                        exact ⟨false, hE1815, h⟩
                      · rw [if_neg hb1816] at hE1815
                        obtain ⟨x1820, hx1821, hE1815⟩ := Option.bind_eq_some_iff.1 hE1815
                        obtain ⟨hx1821a, hx1821b, hx1821c⟩ := at_some hx1821
                        have hx1821d := (List.getElem?_eq_some_iff.1 hx1821b).1
                        by_cases hb1822 : x1820 < 1
                        · rw [if_pos hb1822] at hE1815
                          refine r_plain [] [none, none, none, none, some (some 150, true), some (some 150, true), some (some 150, true), some (some 150, true), some (some 150, true), some (some 150, true), some (some 156, false), some (some 156, false), some (some 156, false), some (some 156, false), some (some 156, false), some (some 150, true), none] [3, 7, 9, 11, 15, 163] [(1, 0), (62, 0)] h rfl (by simp only [EX, simprocAttr, Nat.blt, Nat.ble, tz_3, tz_4, tz_35, tz_44, hb705, ha873, hb1038t, hb1039t, hb1042t, hb1048t, ha1052, ha1053, ha1054, hb1788, hb1816, hb1822, hx1821a, hx1821b, hx1821c, hx1821d] <;> rfl) fun ac wd h => ?_
                          have h := h.same [3, 7, 9, 11, 15, 163] [(1, 0), (62, 0)] 276 [(3, .one (.ptr (1, 0) 0)), (7, .one (.d (.int .i64 ((landK .i64 a1 255).tmod r681.N)))), (9, .one (.d (.sl (List.map eI r878)))), (11, .one (.own (62, 0) l1390.length)), (15, .one (.d (.int .i64 n1785))), (163, .one (.d (.bool true)))]
                            [((1, 0), some (.box 24 [.d (.int .i64 r681.N), .d (.sl (List.map eA2I r681.Links))])), ((62, 0), some (.row 4 1 (dat (List.map eB l1390))))]
                            (by simp only [EX, simprocAttr, Nat.blt, Nat.ble, hb705, ha873, hb1038t, hb1039t, hx1041a, hx1041b, hx1041c, hx1041d, hb1042t, hx1044a, hx1044b, hx1044c, hx1044d, hx1046a, hx1046b, hx1046c, hx1046d, hb1048t, ha1052, ha1053, ha1054, hb1788, hb1816, hx1821a, hx1821b, hx1821c, hx1821d, hb1822] <;> rfl)
                          injection hE1815 with hE1815
                          exact ⟨true, hE1815, h⟩
                        · rw [if_neg hb1822] at hE1815
                          obtain ⟨x1825, hx1826, hE1815⟩ := Option.bind_eq_some_iff.1 hE1815
                          obtain ⟨hx1826a, hx1826b, hx1826c⟩ := at_some hx1826
                          have hx1826d := (List.getElem?_eq_some_iff.1 hx1826b).1
                          refine r_plain [] [none, none, none, none, some (some 150, true), some (some 150, true), some (some 150, true), some (some 150, true), some (some 150, true), some (some 150, true), some (some 156, false), some (some 156, false), some (some 156, false), some (some 156, false), some (some 156, false), some (some 150, true), none] [3, 7, 9, 11, 15, 163] [(1, 0), (62, 0)] h rfl (by simp only [EX, simprocAttr, Nat.blt, Nat.ble, tz_3, tz_4, tz_35, tz_44, hb705, ha873, hb1038t, hb1039t, hb1042t, hb1048t, ha1052, ha1053, ha1054, hb1788, hb1816, hb1822, hx1821a, hx1821b, hx1821c, hx1821d, hx1826a, hx1826b, hx1826c, hx1826d] <;> rfl) fun ac wd h => ?_
                          have h := h.same [3, 7, 9, 11, 15, 163] [(1, 0), (62, 0)] 276 [(3, .one (.ptr (1, 0) 0)), (7, .one (.d (.int .i64 ((landK .i64 a1 255).tmod r681.N)))), (9, .one (.d (.sl (List.map eI r878)))), (11, .one (.own (62, 0) l1390.length)), (15, .one (.d (.int .i64 n1785))), (163, .one (.d (.bool (!(x1825)))))]
                            [((1, 0), some (.box 24 [.d (.int .i64 r681.N), .d (.sl (List.map eA2I r681.Links))])), ((62, 0), some (.row 4 1 (dat (List.map eB l1390))))]
                            (by simp only [EX, simprocAttr, Nat.blt, Nat.ble, hb705, ha873, hb1038t, hb1039t, hx1041a, hx1041b, hx1041c, hx1041d, hb1042t, hx1044a, hx1044b, hx1044c, hx1044d, hx1046a, hx1046b, hx1046c, hx1046d, hb1048t, ha1052, ha1053, ha1054, hb1788, hb1816, hx1821a, hx1821b, hx1821c, hx1821d, hb1822, hx1826a, hx1826b, hx1826c, hx1826d] <;> rfl)
                          injection hE1815 with hE1815
                          exact ⟨!(x1825), hE1815, h⟩
                    · skip
                      rintro ac wd ⟨b1813, rfl, h⟩
                      (try dsimp only at hL1786)
                      by_cases hb1827 : b1813 = true
                      · rw [if_pos hb1827] at hL1786; cases hL1786
                      · rw [if_neg hb1827] at hL1786
                        have hb1827n := eq_false_of_ne_true hb1827
                        refine r_condF h b1813 (by simp only [EX, simprocAttr, Nat.blt, Nat.ble, hb705, ha873, hb1038t, hb1039t, hb1042t, hb1048t, ha1052, ha1053, ha1054, hb1788, hb1827n] <;> rfl) (by first | rfl | (simp only [EX, simprocAttr, Nat.blt, Nat.ble, hb705, ha873, hb1038t, hb1039t, hb1042t, hb1048t, ha1052, ha1053, ha1054, hb1788, hb1827n] <;> rfl)) ?_
                        refine wp_skip ?_
                        change Code.wp Try.prog _ _ _ _
                        refine r_plain [] [none, none, none] [3, 7, 9, 11, 15] [(1, 0), (62, 0)] h rfl (by simp only [EX, simprocAttr, Nat.blt, Nat.ble, tz_3, hb705, ha873, hb1038t, hb1039t, hb1042t, hb1048t, ha1052, ha1053, ha1054, hb1788, hb1827n] <;> rfl) fun ac wd h => ?_
                        have h := h.same [3, 7, 9, 11, 15] [(1, 0), (62, 0)] 255 [(3, .one (.ptr (1, 0) 0)), (7, .one (.d (.int .i64 ((landK .i64 a1 255).tmod r681.N)))), (9, .one (.d (.sl (List.map eI r878)))), (11, .one (.own (62, 0) l1390.length)), (15, .one (.d (.int .i64 (IntKind.wrap .i64 (n1785 + 1)))))]
                          [((1, 0), some (.box 24 [.d (.int .i64 r681.N), .d (.sl (List.map eA2I r681.Links))])), ((62, 0), some (.row 4 1 (dat (List.map eB l1390))))]
                          (by simp only [EX, simprocAttr, Nat.blt, Nat.ble, hb705, ha873, hb1038t, hb1039t, hx1041a, hx1041b, hx1041c, hx1041d, hb1042t, hx1044a, hx1044b, hx1044c, hx1044d, hx1046a, hx1046b, hx1046c, hx1046d, hb1048t, ha1052, ha1053, ha1054, hb1788, hb1827n] <;> rfl)
                        change ∃ n', _ ∧ _
                        exact ⟨nf, Nat.lt_succ_self nf, (IntKind.wrap .i64 (n1785 + 1)), hL1786, h⟩
                  · rw [if_neg hb1788] at hL1786
                    refine r_condF h (decide (n1785 < r681.N)) (by simp only [EX, simprocAttr, Nat.blt, Nat.ble, hb705, ha873, hb1038t, hb1039t, hb1042t, hb1048t, ha1052, ha1053, ha1054, hb1788] <;> rfl) (by first | rfl | (simp only [EX, simprocAttr, Nat.blt, Nat.ble, hb705, ha873, hb1038t, hb1039t, hb1042t, hb1048t, ha1052, ha1053, ha1054, hb1788] <;> rfl)) ?_
                    refine wp_exit ?_
                    have h := h.same [] [] 259 []
                      []
                      (by simp only [EX, simprocAttr, Nat.blt, Nat.ble, hb705, ha873, hb1038t, hb1039t, hx1041a, hx1041b, hx1041c, hx1041d, hb1042t, hx1044a, hx1044b, hx1044c, hx1044d, hx1046a, hx1046b, hx1046c, hx1046d, hb1048t, ha1052, ha1053, ha1054, hb1788] <;> rfl)
                    injection hL1786 with hL1786
                    exact ⟨hL1786, h⟩
              · skip
                rintro ac wd ⟨rfl, h⟩
                (try dsimp only at hD)
                obtain ⟨r1830, hc1831, hD⟩ := Option.bind_eq_some_iff.1 hD
                have hc1831k := L_law03_fixed_ok hc1831
                refine rs_plain 261 [factE 259 hc1831k] [none, none] [6] [] h rfl rfl (by simp only [EX, simprocAttr, Nat.blt, Nat.ble, tz_4, hb705, ha873, hb1038t, hb1039t, hb1042t, hb1048t, ha1052, ha1053, ha1054] <;> rfl) fun ac wd h => ?_
                refine wp_ret ?_
                injection hD with hD
                subst hD
                exact r_retE rfl h [.tmp 6] rfl (by simp only [retD, List.mapM_cons, List.mapM_nil, Option.bind_eq_bind, Option.pure_def, EX, simprocAttr, Nat.blt, Nat.ble, hb705, ha873, hb1038t, hb1039t, hb1042t, hb1048t, ha1052, ha1053, ha1054] <;> rfl)
          · rw [if_neg hb1048] at hD; cases hD
        · rw [if_neg hb1042] at hD; cases hD
      · rw [if_neg hb1039] at hD; cases hD
    · rw [if_neg hb1038] at hD; cases hD
  · rw [if_neg hb705] at hD
    have hb705n := eq_false_of_ne_true hb705
    refine r_condT h (!(r689)) (by simp only [EX, simprocAttr, Nat.blt, Nat.ble, hb705n] <;> rfl) (by first | rfl | (simp only [EX, simprocAttr, Nat.blt, Nat.ble, hb705n] <;> rfl)) ?_
    obtain ⟨r1837, hc1838, hD⟩ := Option.bind_eq_some_iff.1 hD
    by_cases hb1839 : r1837 = true
    · rw [if_pos hb1839] at hD; cases hD
    · rw [if_neg hb1839] at hD
      have hb1839n := eq_false_of_ne_true hb1839
      obtain ⟨r1842, hc1843, hD⟩ := Option.bind_eq_some_iff.1 hD
      have hc1838k := L_graph_Right_ok hc1838
      have hc1843k := L_law03_fixed_ok hc1843
      refine rs_plain 17 [factE 11 hc1838k, factE 14 hc1843k] [none, none, none, none, some (some 25, true), none, none] [6] [] h rfl rfl (by simp only [EX, simprocAttr, Nat.blt, Nat.ble, tz_4, tz_24, hb705n, hb1839n] <;> rfl) fun ac wd h => ?_
      refine wp_ret ?_
      injection hD with hD
      subst hD
      exact r_retE rfl h [.tmp 6] rfl (by simp only [retD, List.mapM_cons, List.mapM_nil, Option.bind_eq_bind, Option.pure_def, EX, simprocAttr, Nat.blt, Nat.ble, hb705n, hb1839n] <;> rfl)

set_option maxRecDepth 20000 in
set_option maxHeartbeats 4000000 in
theorem L_law03_GraphLess_ok {a0 : TGraph} {a1 : A3I} {r : Bool} (hD : L_law03_GraphLess a0 a1 = some r) :
    CallH Try.prog 6 [.agg [.d (.int .i64 a0.N), .d (.sl (List.map eA2I a0.Links))], .agg [.d (.int .i64 a1.a0), .d (.int .i64 a1.a1), .d (.int .i64 a1.a2)]] []
      (.one (.d (.bool r))) [] := by
  unfold L_law03_GraphLess at hD
  refine r_call Try.func6 rfl Try.ntmps6 (by kernel_rfl) (by rfl) (by rfl) (by simp) fun S Φ P0 wb ac h => ?_
  refine rs_plain 4 [] [none, none, none] [2, 3] [(1, 0), (2, 0)] h rfl rfl (by simp only [EX, simprocAttr, Nat.blt, Nat.ble, tz_4, tz_24, tz_45] <;> rfl) fun ac wd h => ?_
  obtain ⟨r168, hc169, hD⟩ := Option.bind_eq_some_iff.1 hD
  have hc169k := L_law03_Cut_ok hc169
  refine rs_plain 7 [factE 5 hc169k] [none, none, none] [2, 3] [(1, 0), (2, 0)] h rfl rfl (by simp only [EX, simprocAttr, Nat.blt, Nat.ble, tz_24] <;> rfl) fun ac wd h => ?_
  refine wp_seq ?_
  obtain ⟨r174, hc175, hD⟩ := Option.bind_eq_some_iff.1 hD
  obtain ⟨r176, hc177, hD⟩ := Option.bind_eq_some_iff.1 hD
  have hc175k := L_law03_Ref_ok hc175
  have hc177k := L_ref03_Right_ok hc177
  refine rs_plain 11 [factE 8 hc175k, factE 9 hc177k] [none, none, none, none] [2, 3, 16] [(1, 0), (2, 0)] h rfl rfl (by simp only [EX, simprocAttr, Nat.blt, Nat.ble, tz_4, tz_24, tz_28] <;> rfl) fun ac wd h => ?_
  by_cases hb192 : r176 = true
  · rw [if_pos hb192] at hD
    refine r_condF h (!(r176)) (by simp only [EX, simprocAttr, Nat.blt, Nat.ble, hb192] <;> rfl) (by first | rfl | (simp only [EX, simprocAttr, Nat.blt, Nat.ble, hb192] <;> rfl)) ?_
    refine wp_skip ?_
    change Code.wp Try.prog _ _ _ _
    refine wp_seq ?_
    refine rs_plain 15 [] [none, none, none, none] [2, 3, 26] [(1, 0), (2, 0)] h rfl rfl (by simp only [EX, simprocAttr, Nat.blt, Nat.ble, tz_3, tz_4, tz_22, tz_24, tz_43, hb192] <;> rfl) fun ac wd h => ?_
    obtain ⟨e291, hE292, hD⟩ := Option.bind_eq_some_iff.1 hD
    refine r_meet (fun ac wd => () = e291 ∧ SL ⟨wb, S, Φ, P0⟩ 118 64 [(2, .one (.ptr (1, 0) 0)), (3, .one (.ptr (2, 0) 0))] [((1, 0), some (.box 24 [.d (.int .i64 r168.N), .d (.sl (List.map eA2I r168.Links))])), ((2, 0), some (.box 45 [.d (.int .i64 a1.a0), .d (.int .i64 a1.a1), .d (.int .i64 a1.a2)]))] ac wd) ?_ ?_
    · skip
      by_cases hb293 : (r168.Links.length : Int) > 0
      · rw [if_pos hb293] at hE292
        refine r_condT h (decide ((r168.Links.length : Int) > 0)) (by simp only [EX, simprocAttr, Nat.blt, Nat.ble, hb192, hb293] <;> rfl) (by first | rfl | (simp only [EX, simprocAttr, Nat.blt, Nat.ble, hb192, hb293] <;> rfl)) ?_
        by_cases ha316 : ¬ (r168.Links.length : Int) = 0
        case neg => rw [if_neg ha316] at hE292; cases hE292
        rw [if_pos ha316] at hE292
        refine rs_plain 23 [] [none, none, none, none, none, none, none, none] [2, 3, 5] [(1, 0), (2, 0)] h rfl rfl (by simp only [EX, simprocAttr, Nat.blt, Nat.ble, tz_3, tz_22, tz_24, tz_43, tz_45, hb192, hb293, ha316] <;> rfl) fun ac wd h => ?_
        by_cases ha322 : 0 ≤ ((landK .i64 a1.a0 255).tmod (r168.Links.length : Int))
        case neg => rw [if_neg ha322] at hE292; cases hE292
        rw [if_pos ha322] at hE292
        by_cases ha323 : ((landK .i64 a1.a0 255).tmod (r168.Links.length : Int)) ≤ (r168.Links.length : Int)
        case neg => rw [if_neg ha323] at hE292; cases hE292
        rw [if_pos ha323] at hE292
        obtain ⟨v324, hv325, hE292⟩ := Option.bind_eq_some_iff.1 hE292
        injection hv325 with hv325
        by_cases ha326 : v324.length * 16 ≤ 140737488355328
        case neg => rw [if_neg ha326] at hE292; cases hE292
        rw [if_pos ha326] at hE292
        refine rs_plain 30 [] [none, none, none, none, none, none, none] [2, 3, 5, 6] [(1, 0), (2, 0), (28, 0)] h rfl rfl (by simp only [EX, simprocAttr, Nat.blt, Nat.ble, tz_3, tz_22, tz_24, tz_43, hb192, hb293, ha316, ha322, ha323, ha326, hv325] <;> rfl) fun ac wd h => ?_
        by_cases ha332 : 0 ≤ (IntKind.wrap .i64 (((landK .i64 a1.a0 255).tmod (r168.Links.length : Int)) + 1))
        case neg => rw [if_neg ha332] at hE292; cases hE292
        rw [if_pos ha332] at hE292
        by_cases ha333 : (IntKind.wrap .i64 (((landK .i64 a1.a0 255).tmod (r168.Links.length : Int)) + 1)) ≤ (r168.Links.length : Int)
        case neg => rw [if_neg ha333] at hE292; cases hE292
        rw [if_pos ha333] at hE292
        obtain ⟨v334, hv335, hE292⟩ := Option.bind_eq_some_iff.1 hE292
        injection hv335 with hv335
        by_cases ha336 : (v324.length + v334.length) * 16 ≤ 140737488355328
        case neg => rw [if_neg ha336] at hE292; cases hE292
        rw [if_pos ha336] at hE292
        refine rs_plain 38 [] [none, none, none, none, none, none, none, none] [2, 3, 5, 6] [(1, 0), (2, 0), (36, 0)] h rfl rfl (by simp only [EX, simprocAttr, Nat.blt, Nat.ble, tz_3, tz_22, tz_24, tz_43, hb192, hb293, ha316, ha322, ha323, ha326, ha332, ha333, ha336, hv335] <;> rfl) fun ac wd h => ?_
        by_cases ha338 : r168.Links.length * 16 ≤ 140737488355328
        case neg => rw [if_neg ha338] at hE292; cases hE292
        rw [if_pos ha338] at hE292
        refine rs_plain 43 [] [none, none, none, none, none] [2, 3, 5, 6, 7] [(1, 0), (2, 0), (36, 0), (41, 0)] h rfl rfl (by simp only [EX, simprocAttr, Nat.blt, Nat.ble, tz_22, tz_24, tz_43, hb192, hb293, ha316, ha322, ha323, ha326, ha332, ha333, ha336, ha338] <;> rfl) fun ac wd h => ?_
        obtain ⟨x342, hx343, hE292⟩ := Option.bind_eq_some_iff.1 hE292
        obtain ⟨hx343a, hx343b, hx343c⟩ := at_some hx343
        have hx343d := (List.getElem?_eq_some_iff.1 hx343b).1
        by_cases ha344 : (r168.Links.length + 1) * 16 ≤ 140737488355328
        case neg => rw [if_neg ha344] at hE292; cases hE292
        rw [if_pos ha344] at hE292
        refine rs_plain 52 [] [none, none, none, none, none, none, none, none, none] [2, 3, 6, 7] [(1, 0), (2, 0), (36, 0), (50, 0)] h rfl rfl (by simp only [EX, simprocAttr, Nat.blt, Nat.ble, tz_3, tz_22, tz_24, tz_43, hb192, hb293, ha316, ha322, ha323, ha326, ha332, ha333, ha336, ha338, ha344, hx343a, hx343b, hx343c, hx343d] <;> rfl) fun ac wd h => ?_
        obtain ⟨r351, hc352, hE292⟩ := Option.bind_eq_some_iff.1 hE292
        by_cases hb353 : r351 = true
        · rw [if_pos hb353] at hE292; cases hE292
        · rw [if_neg hb353] at hE292
          have hb353n := eq_false_of_ne_true hb353
          obtain ⟨r357, hc358, hE292⟩ := Option.bind_eq_some_iff.1 hE292
          have hc352k := L_graph_Right_ok hc352
          have hc358k := L_graph_Right_ok hc358
          refine rs_plain 64 [factE 56 hc352k, factE 62 hc358k] [none, none, none, none, none, none, some (some 64, false), some (some 64, false), some (some 64, false), some (some 64, false), some (some 64, false), none] [2, 3, 70] [(1, 0), (2, 0)] h rfl rfl (by simp only [EX, simprocAttr, Nat.blt, Nat.ble, tz_3, tz_4, tz_22, tz_24, tz_43, hb192, hb293, ha316, ha322, ha323, ha326, ha332, ha333, ha336, ha338, ha344, hb353n] <;> rfl) fun ac wd h => ?_
          by_cases hb359 : r357 = true
          · rw [if_pos hb359] at hE292; cases hE292
          · rw [if_neg hb359] at hE292
            have hb359n := eq_false_of_ne_true hb359
            refine r_condF h r357 (by simp only [EX, simprocAttr, Nat.blt, Nat.ble, hb192, hb293, ha316, ha322, ha323, ha326, ha332, ha333, ha336, ha338, ha344, hb353n, hb359n] <;> rfl) (by first | rfl | (simp only [EX, simprocAttr, Nat.blt, Nat.ble, hb192, hb293, ha316, ha322, ha323, ha326, ha332, ha333, ha336, ha338, ha344, hb353n, hb359n] <;> rfl)) ?_
            refine wp_skip ?_
            have h := h.same [2, 3] [(1, 0), (2, 0)] 64 [(2, .one (.ptr (1, 0) 0)), (3, .one (.ptr (2, 0) 0))]
              [((1, 0), some (.box 24 [.d (.int .i64 r168.N), .d (.sl (List.map eA2I r168.Links))])), ((2, 0), some (.box 45 [.d (.int .i64 a1.a0), .d (.int .i64 a1.a1), .d (.int .i64 a1.a2)]))]
              (by simp only [EX, simprocAttr, Nat.blt, Nat.ble, hb192, hb293, ha316, ha322, ha323, hv325, ha326, ha332, ha333, hv335, ha336, ha338, hx343a, hx343b, hx343c, hx343d, ha344, hb353n, hb359n] <;> rfl)
            injection hE292 with hE292
            exact ⟨hE292, h⟩
      · rw [if_neg hb293] at hE292
        refine r_condF h (decide ((r168.Links.length : Int) > 0)) (by simp only [EX, simprocAttr, Nat.blt, Nat.ble, hb192, hb293] <;> rfl) (by first | rfl | (simp only [EX, simprocAttr, Nat.blt, Nat.ble, hb192, hb293] <;> rfl)) ?_
        refine wp_skip ?_
        have h := h.same [2, 3] [(1, 0), (2, 0)] 64 [(2, .one (.ptr (1, 0) 0)), (3, .one (.ptr (2, 0) 0))]
          [((1, 0), some (.box 24 [.d (.int .i64 r168.N), .d (.sl (List.map eA2I r168.Links))])), ((2, 0), some (.box 45 [.d (.int .i64 a1.a0), .d (.int .i64 a1.a1), .d (.int .i64 a1.a2)]))]
          (by simp only [EX, simprocAttr, Nat.blt, Nat.ble, hb192, hb293] <;> rfl)
        injection hE292 with hE292
        exact ⟨hE292, h⟩
    · skip
      rintro ac wd ⟨rfl, h⟩
      (try dsimp only at hD)
      by_cases ha361 : ¬ r168.N = 0
      case neg => rw [if_neg ha361] at hD; cases hD
      rw [if_pos ha361] at hD
      refine rs_drawn 78 ty_hm [] [none, none, none, none, none, none, none, none, none, none, none, none, none, none] [2, 8, 9] [(1, 0)] h rfl rfl (by simp only [EX, simprocAttr, Nat.blt, Nat.ble, tz_3, tz_24, tz_45, hb192, ha361] <;> rfl) (by kernel_rfl) fun ac wd h => ?_
      by_cases ha363 : r168.Links.length * 16 ≤ 140737488355328
      case neg => rw [if_neg ha363] at hD; cases hD
      rw [if_pos ha363] at hD
      refine rs_plain 83 [] [none, none, none, none, none] [2, 8, 9, 10] [(1, 0), (81, 0)] h rfl rfl (by simp only [EX, simprocAttr, Nat.blt, Nat.ble, tz_22, tz_24, tz_43, hb192, ha361, ha363] <;> rfl) fun ac wd h => ?_
      by_cases ha365 : (r168.Links.length + 1) * 16 ≤ 140737488355328
      case neg => rw [if_neg ha365] at hD; cases hD
      rw [if_pos ha365] at hD
      refine rs_plain 90 [] [none, none, none, none, none, none, none] [2, 8, 9, 10] [(1, 0), (88, 0)] h rfl rfl (by simp only [EX, simprocAttr, Nat.blt, Nat.ble, tz_3, tz_22, tz_43, hb192, ha361, ha363, ha365] <;> rfl) fun ac wd h => ?_
      by_cases ha367 : (r168.Links.length + 1 + 1) * 16 ≤ 140737488355328
      case neg => rw [if_neg ha367] at hD; cases hD
      rw [if_pos ha367] at hD
      refine rs_plain 97 [] [none, none, none, none, none, none, none] [2, 8, 9, 10] [(1, 0), (95, 0)] h rfl rfl (by simp only [EX, simprocAttr, Nat.blt, Nat.ble, tz_3, tz_22, tz_43, hb192, ha361, ha363, ha365, ha367] <;> rfl) fun ac wd h => ?_
      obtain ⟨e380, hE381, hD⟩ := Option.bind_eq_some_iff.1 hD
      refine r_seqJ (fun ac wd => ∃ (b379 : Bool), b379 = e380 ∧ SL ⟨wb, S, Φ, P0⟩ 118 117 [(4, .one (.d (.bool b379)))] [] ac wd) ?_ ?_
      · skip
        obtain ⟨r382, hc383, hE381⟩ := Option.bind_eq_some_iff.1 hE381
        by_cases hb384 : ((landK .i64 a1.a1 255).tmod r168.N) = ((landK .i64 a1.a2 255).tmod r168.N)
        · rw [if_pos hb384] at hE381
          have hb384t := eq_true hb384
          by_cases hb393 : r382 = false
          · rw [if_pos hb393] at hE381
            have hb393t := eq_true hb393
            obtain ⟨r396, hc397, hE381⟩ := Option.bind_eq_some_iff.1 hE381
            have hc383k := L_graph_Right_ok hc383
            have hc397k := L_law03_fixed_ok hc397
            refine r_plain [factE 101 hc383k, factE 114 hc397k] [none, none, none, none, none, none, none, none, none, some (some 107, true), some (some 107, true), some (some 107, true), some (some 107, true), some (some 107, true), none, none, none, some (some 115, true), none, none] [4] [] h rfl (by simp only [EX, simprocAttr, Nat.blt, Nat.ble, tz_3, tz_4, tz_22, tz_24, tz_43, hb192, ha361, ha363, ha365, ha367, hb384t, hb393t] <;> rfl) fun ac wd h => ?_
            have h := h.same [4] [] 117 [(4, .one (.d (.bool r396)))]
              []
              (by simp only [EX, simprocAttr, Nat.blt, Nat.ble, hb192, ha361, ha363, ha365, ha367, hb384t, hb393t] <;> rfl)
            injection hE381 with hE381
            exact ⟨r396, hE381, h⟩
          · rw [if_neg hb393] at hE381
            have hc383k := L_graph_Right_ok hc383
            refine r_plain [factE 101 hc383k] [none, none, none, none, none, none, none, none, none, some (some 107, true), some (some 107, true), some (some 107, true), some (some 107, true), some (some 107, true), none, none, none, some (some 115, true), none, none] [4] [] h rfl (by simp only [EX, simprocAttr, Nat.blt, Nat.ble, tz_3, tz_4, tz_22, tz_24, tz_43, hb192, ha361, ha363, ha365, ha367, hb384t, hb393] <;> rfl) fun ac wd h => ?_
            have h := h.same [4] [] 117 [(4, .one (.d (.bool false)))]
              []
              (by simp only [EX, simprocAttr, Nat.blt, Nat.ble, hb192, ha361, ha363, ha365, ha367, hb384t, hb393] <;> rfl)
            injection hE381 with hE381
            exact ⟨false, hE381, h⟩
        · rw [if_neg hb384] at hE381
          obtain ⟨r398, hc399, hE381⟩ := Option.bind_eq_some_iff.1 hE381
          by_cases hb400 : r382 = (decide (r398 < 0))
          · rw [if_pos hb400] at hE381
            have hb400t := eq_true hb400
            obtain ⟨r403, hc404, hE381⟩ := Option.bind_eq_some_iff.1 hE381
            have hc383k := L_graph_Right_ok hc383
            have hc399k := L_graph_Find_ok hc399
            have hc404k := L_law03_fixed_ok hc404
            refine r_plain [factE 101 hc383k, factE 109 hc399k, factE 114 hc404k] [none, none, none, none, none, none, none, none, none, some (some 107, true), some (some 107, true), some (some 107, true), some (some 107, true), some (some 107, true), none, none, none, some (some 115, true), none, none] [4] [] h rfl (by simp only [EX, simprocAttr, Nat.blt, Nat.ble, tz_3, tz_4, tz_22, tz_24, tz_43, hb192, ha361, ha363, ha365, ha367, hb384, hb400t] <;> rfl) fun ac wd h => ?_
            have h := h.same [4] [] 117 [(4, .one (.d (.bool r403)))]
              []
              (by simp only [EX, simprocAttr, Nat.blt, Nat.ble, hb192, ha361, ha363, ha365, ha367, hb384, hb400t] <;> rfl)
            injection hE381 with hE381
            exact ⟨r403, hE381, h⟩
          · rw [if_neg hb400] at hE381
            have hc383k := L_graph_Right_ok hc383
            have hc399k := L_graph_Find_ok hc399
            refine r_plain [factE 101 hc383k, factE 109 hc399k] [none, none, none, none, none, none, none, none, none, some (some 107, true), some (some 107, true), some (some 107, true), some (some 107, true), some (some 107, true), none, none, none, some (some 115, true), none, none] [4] [] h rfl (by simp only [EX, simprocAttr, Nat.blt, Nat.ble, tz_3, tz_4, tz_22, tz_24, tz_43, hb192, ha361, ha363, ha365, ha367, hb384, hb400] <;> rfl) fun ac wd h => ?_
            have h := h.same [4] [] 117 [(4, .one (.d (.bool false)))]
              []
              (by simp only [EX, simprocAttr, Nat.blt, Nat.ble, hb192, ha361, ha363, ha365, ha367, hb384, hb400] <;> rfl)
            injection hE381 with hE381
            exact ⟨false, hE381, h⟩
      · skip
        rintro ac wd ⟨b379, rfl, h⟩
        (try dsimp only at hD)
        refine wp_ret ?_
        injection hD with hD
        subst hD
        exact r_retE rfl h [.tmp 4] rfl (by simp only [retD, List.mapM_cons, List.mapM_nil, Option.bind_eq_bind, Option.pure_def, EX, simprocAttr, Nat.blt, Nat.ble, hb192, ha361, ha363, ha365, ha367] <;> rfl)
  · rw [if_neg hb192] at hD
    have hb192n := eq_false_of_ne_true hb192
    refine r_condT h (!(r176)) (by simp only [EX, simprocAttr, Nat.blt, Nat.ble, hb192n] <;> rfl) (by first | rfl | (simp only [EX, simprocAttr, Nat.blt, Nat.ble, hb192n] <;> rfl)) ?_
    obtain ⟨r410, hc411, hD⟩ := Option.bind_eq_some_iff.1 hD
    by_cases hb412 : r410 = true
    · rw [if_pos hb412] at hD; cases hD
    · rw [if_neg hb412] at hD
      have hb412n := eq_false_of_ne_true hb412
      obtain ⟨r415, hc416, hD⟩ := Option.bind_eq_some_iff.1 hD
      have hc411k := L_graph_Right_ok hc411
      have hc416k := L_law03_fixed_ok hc416
      refine rs_plain 18 [factE 12 hc411k, factE 15 hc416k] [none, none, none, none, some (some 20, true), none, none] [4] [] h rfl rfl (by simp only [EX, simprocAttr, Nat.blt, Nat.ble, tz_4, tz_24, hb192n, hb412n] <;> rfl) fun ac wd h => ?_
      refine wp_ret ?_
      injection hD with hD
      subst hD
      exact r_retE rfl h [.tmp 4] rfl (by simp only [retD, List.mapM_cons, List.mapM_nil, Option.bind_eq_bind, Option.pure_def, EX, simprocAttr, Nat.blt, Nat.ble, hb192n, hb412n] <;> rfl)

set_option maxRecDepth 20000 in
set_option maxHeartbeats 4000000 in
theorem L_law03_GraphWays_ok {a0 : TGraph} {a1 : A3I} {r : Bool} (hD : L_law03_GraphWays a0 a1 = some r) :
    CallH Try.prog 7 [.agg [.d (.int .i64 a0.N), .d (.sl (List.map eA2I a0.Links))], .agg [.d (.int .i64 a1.a0), .d (.int .i64 a1.a1), .d (.int .i64 a1.a2)]] []
      (.one (.d (.bool r))) [] := by
  unfold L_law03_GraphWays at hD
  refine r_call Try.func7 rfl Try.ntmps7 (by kernel_rfl) (by rfl) (by rfl) (by simp) fun S Φ P0 wb ac h => ?_
  refine rs_plain 4 [] [none, none, none] [2, 3] [(1, 0), (2, 0)] h rfl rfl (by simp only [EX, simprocAttr, Nat.blt, Nat.ble, tz_4, tz_24, tz_45] <;> rfl) fun ac wd h => ?_
  obtain ⟨r87, hc88, hD⟩ := Option.bind_eq_some_iff.1 hD
  have hc88k := L_law03_Cut_ok hc88
  refine rs_plain 7 [factE 5 hc88k] [none, none, none] [2, 3] [(1, 0), (2, 0)] h rfl rfl (by simp only [EX, simprocAttr, Nat.blt, Nat.ble, tz_24] <;> rfl) fun ac wd h => ?_
  refine wp_seq ?_
  obtain ⟨r93, hc94, hD⟩ := Option.bind_eq_some_iff.1 hD
  obtain ⟨r95, hc96, hD⟩ := Option.bind_eq_some_iff.1 hD
  have hc94k := L_law03_Ref_ok hc94
  have hc96k := L_ref03_Right_ok hc96
  refine rs_plain 11 [factE 8 hc94k, factE 9 hc96k] [none, none, none, none] [2, 3, 15] [(1, 0), (2, 0)] h rfl rfl (by simp only [EX, simprocAttr, Nat.blt, Nat.ble, tz_4, tz_24, tz_28] <;> rfl) fun ac wd h => ?_
  by_cases hb111 : r95 = true
  · rw [if_pos hb111] at hD
    refine r_condF h (!(r95)) (by simp only [EX, simprocAttr, Nat.blt, Nat.ble, hb111] <;> rfl) (by first | rfl | (simp only [EX, simprocAttr, Nat.blt, Nat.ble, hb111] <;> rfl)) ?_
    refine wp_skip ?_
    change Code.wp Try.prog _ _ _ _
    by_cases ha137 : ¬ r87.N = 0
    case neg => rw [if_neg ha137] at hD; cases hD
    rw [if_pos ha137] at hD
    refine rs_drawn 32 ty_hm [] [none, none, none, none, none, none, none, none, none, none, none, none, none, none, none, none, none, none, none, none, none] [2, 5, 6, 7] [(1, 0)] h rfl rfl (by simp only [EX, simprocAttr, Nat.blt, Nat.ble, tz_3, tz_24, tz_45, hb111, ha137] <;> rfl) (by kernel_rfl) fun ac wd h => ?_
    obtain ⟨r142, hc143, hD⟩ := Option.bind_eq_some_iff.1 hD
    obtain ⟨r144, hc145, hD⟩ := Option.bind_eq_some_iff.1 hD
    have hc143k := L_graph_Dist_ok hc143
    have hc145k := L_graph_Dist_ok hc145
    refine rs_drawn 40 ty_hm [factE 34 hc143k, factE 37 hc145k] [none, none, none, none, none, none, none, none] [2, 5, 6, 7, 8, 9] [(1, 0)] h rfl rfl (by simp only [EX, simprocAttr, Nat.blt, Nat.ble, tz_3, tz_24, tz_35, hb111, ha137] <;> rfl) (by kernel_rfl) fun ac wd h => ?_
    refine wp_seq ?_
    by_cases hb160 : (r142.length : Int) = r87.N
    · rw [if_pos hb160] at hD
      have hb160t := eq_true hb160
      refine rs_plain 52 [] [none, none, none, none, none, none, some (some 51, false), some (some 51, false), some (some 51, false), some (some 51, false), some (some 51, false), none] [2, 5, 6, 7, 8, 9, 57] [(1, 0)] h rfl rfl (by simp only [EX, simprocAttr, Nat.blt, Nat.ble, tz_3, tz_4, tz_24, tz_35, hb111, ha137, hb160t] <;> rfl) fun ac wd h => ?_
      by_cases hb162 : (r144.length : Int) = r87.N
      · rw [if_pos hb162] at hD
        have hb162t := eq_true hb162
        refine r_condF h (!(decide ((r144.length : Int) = r87.N))) (by simp only [EX, simprocAttr, Nat.blt, Nat.ble, hb111, ha137, hb160t, hb162t] <;> rfl) (by first | rfl | (simp only [EX, simprocAttr, Nat.blt, Nat.ble, hb111, ha137, hb160t, hb162t] <;> rfl)) ?_
        refine wp_skip ?_
        change Code.wp Try.prog _ _ _ _
        obtain ⟨x175, hx176, hD⟩ := Option.bind_eq_some_iff.1 hD
        obtain ⟨hx176a, hx176b, hx176c⟩ := at_some hx176
        have hx176d := (List.getElem?_eq_some_iff.1 hx176b).1
        obtain ⟨x177, hx178, hD⟩ := Option.bind_eq_some_iff.1 hD
        obtain ⟨hx178a, hx178b, hx178c⟩ := at_some hx178
        have hx178d := (List.getElem?_eq_some_iff.1 hx178b).1
        obtain ⟨x179, hx180, hD⟩ := Option.bind_eq_some_iff.1 hD
        obtain ⟨hx180a, hx180b, hx180c⟩ := at_some hx180
        have hx180d := (List.getElem?_eq_some_iff.1 hx180b).1
        by_cases hb181 : x175 ≤ (IntKind.wrap .i64 (x177 + x179))
        · rw [if_pos hb181] at hD
          obtain ⟨r182, hc183, hD⟩ := Option.bind_eq_some_iff.1 hD
          by_cases hb184 : (decide (x177 = 1)) = (decide (r182 ≥ 0))
          · rw [if_pos hb184] at hD
            have hb184t := eq_true hb184
            obtain ⟨r185, hc186, hD⟩ := Option.bind_eq_some_iff.1 hD
            have hc183k := L_graph_Find_ok hc183
            have hc186k := L_law03_fixed_ok hc186
            refine rs_drawn 83 ty_hm [factE 75 hc183k, factE 80 hc186k] [none, none, none, none, none, none, none, none, none, none, none, none, none, none, none, some (some 72, true), some (some 72, true), some (some 72, true), some (some 72, true), some (some 72, true), some (some 72, true), some (some 72, true), some (some 72, true), some (some 72, true), some (some 72, true), some (some 72, true), none, none, some (some 85, true), none, none] [4] [] h rfl rfl (by simp only [EX, simprocAttr, Nat.blt, Nat.ble, tz_3, tz_4, tz_24, tz_35, hb111, ha137, hb160t, hb162t, hb181, hb184t, hx176a, hx176b, hx176c, hx176d, hx178a, hx178b, hx178c, hx178d, hx180a, hx180b, hx180c, hx180d] <;> rfl) (by kernel_rfl) fun ac wd h => ?_
            refine wp_ret ?_
            injection hD with hD
            subst hD
            exact r_retE rfl h [.tmp 4] rfl (by simp only [retD, List.mapM_cons, List.mapM_nil, Option.bind_eq_bind, Option.pure_def, EX, simprocAttr, Nat.blt, Nat.ble, hb111, ha137, hb160t, hb162t, hb181, hb184t] <;> rfl)
          · rw [if_neg hb184] at hD; cases hD
        · rw [if_neg hb181] at hD; cases hD
      · rw [if_neg hb162] at hD; cases hD
    · rw [if_neg hb160] at hD; cases hD
  · rw [if_neg hb111] at hD
    have hb111n := eq_false_of_ne_true hb111
    refine r_condT h (!(r95)) (by simp only [EX, simprocAttr, Nat.blt, Nat.ble, hb111n] <;> rfl) (by first | rfl | (simp only [EX, simprocAttr, Nat.blt, Nat.ble, hb111n] <;> rfl)) ?_
    obtain ⟨r192, hc193, hD⟩ := Option.bind_eq_some_iff.1 hD
    by_cases hb194 : r192 = true
    · rw [if_pos hb194] at hD; cases hD
    · rw [if_neg hb194] at hD
      have hb194n := eq_false_of_ne_true hb194
      obtain ⟨r197, hc198, hD⟩ := Option.bind_eq_some_iff.1 hD
      have hc193k := L_graph_Right_ok hc193
      have hc198k := L_law03_fixed_ok hc198
      refine rs_plain 18 [factE 12 hc193k, factE 15 hc198k] [none, none, none, none, some (some 19, true), none, none] [4] [] h rfl rfl (by simp only [EX, simprocAttr, Nat.blt, Nat.ble, tz_4, tz_24, hb111n, hb194n] <;> rfl) fun ac wd h => ?_
      refine wp_ret ?_
      injection hD with hD
      subst hD
      exact r_retE rfl h [.tmp 4] rfl (by simp only [retD, List.mapM_cons, List.mapM_nil, Option.bind_eq_bind, Option.pure_def, EX, simprocAttr, Nat.blt, Nat.ble, hb111n, hb194n] <;> rfl)

set_option maxRecDepth 20000 in
set_option maxHeartbeats 4000000 in
theorem L_law03_GraphTurned_ok {a0 : TGraph} {a1 : Int} {a2 : Int} {r : Bool} (hD : L_law03_GraphTurned a0 a1 a2 = some r) :
    CallH Try.prog 8 [.agg [.d (.int .i64 a0.N), .d (.sl (List.map eA2I a0.Links))], .one (.d (.int .i64 a1)), .one (.d (.int .i64 a2))] []
      (.one (.d (.bool r))) [] := by
  unfold L_law03_GraphTurned at hD
  refine r_call Try.func8 rfl Try.ntmps8 (by kernel_rfl) (by rfl) (by rfl) (by simp) fun S Φ P0 wb ac h => ?_
  refine rs_plain 3 [] [none, none] [1, 2, 3] [(1, 0)] h rfl rfl (by simp only [EX, simprocAttr, Nat.blt, Nat.ble, tz_4, tz_24] <;> rfl) fun ac wd h => ?_
  obtain ⟨r140, hc141, hD⟩ := Option.bind_eq_some_iff.1 hD
  have hc141k := L_law03_Cut_ok hc141
  refine rs_plain 6 [factE 4 hc141k] [none, none, none] [1, 2, 3] [(1, 0)] h rfl rfl (by simp only [EX, simprocAttr, Nat.blt, Nat.ble, tz_24] <;> rfl) fun ac wd h => ?_
  refine rs_plain 9 [] [none, none, none] [1, 2, 3, 7, 8] [(1, 0), (6, 0)] h rfl rfl (by simp only [EX, simprocAttr, Nat.blt, Nat.ble, tz_3, tz_22, tz_43] <;> rfl) fun ac wd h => ?_
  refine wp_seq ?_
  refine rs_plain 13 [] [none, none, none, none] [1, 2, 3, 7, 8, 17] [(1, 0), (6, 0)] h rfl rfl (by simp only [EX, simprocAttr, Nat.blt, Nat.ble, tz_3, tz_4, tz_22, tz_24, tz_43] <;> rfl) fun ac wd h => ?_
  obtain ⟨e194, hE195, hD⟩ := Option.bind_eq_some_iff.1 hD
  refine r_meet (fun ac wd => ∃ (n193 : Int), n193 = e194 ∧ SL ⟨wb, S, Φ, P0⟩ 85 20 [(1, .one (.d (.int .i64 a1))), (3, .one (.ptr (1, 0) 0)), (7, .one (.d (.int .i64 n193))), (8, .one (.own (6, 0) 0))] [((1, 0), some (.box 24 [.d (.int .i64 r140.N), .d (.sl (List.map eA2I r140.Links))])), ((6, 0), some (.row 43 2 ([])))] ac wd) ?_ ?_
  · skip
    by_cases hb196 : (r140.Links.length : Int) > 0
    · rw [if_pos hb196] at hE195
      refine r_condT h (decide ((r140.Links.length : Int) > 0)) (by simp only [EX, simprocAttr, Nat.blt, Nat.ble, hb196] <;> rfl) (by first | rfl | (simp only [EX, simprocAttr, Nat.blt, Nat.ble, hb196] <;> rfl)) ?_
      by_cases ha198 : ¬ (r140.Links.length : Int) = 0
      case neg => rw [if_neg ha198] at hE195; cases hE195
      rw [if_pos ha198] at hE195
      refine r_plain [] [none, none, none, none, none, none, none] [1, 3, 7, 8] [(1, 0), (6, 0)] h rfl (by simp only [EX, simprocAttr, Nat.blt, Nat.ble, tz_3, tz_22, tz_24, tz_43, hb196, ha198] <;> rfl) fun ac wd h => ?_
      have h := h.same [1, 3, 7, 8] [(1, 0), (6, 0)] 20 [(1, .one (.d (.int .i64 a1))), (3, .one (.ptr (1, 0) 0)), (7, .one (.d (.int .i64 ((landK .i64 a2 255).tmod (r140.Links.length : Int))))), (8, .one (.own (6, 0) 0))]
        [((1, 0), some (.box 24 [.d (.int .i64 r140.N), .d (.sl (List.map eA2I r140.Links))])), ((6, 0), some (.row 43 2 ([])))]
        (by simp only [EX, simprocAttr, Nat.blt, Nat.ble, hb196, ha198] <;> rfl)
      injection hE195 with hE195
      exact ⟨((landK .i64 a2 255).tmod (r140.Links.length : Int)), hE195, h⟩
    · rw [if_neg hb196] at hE195
      refine r_condF h (decide ((r140.Links.length : Int) > 0)) (by simp only [EX, simprocAttr, Nat.blt, Nat.ble, hb196] <;> rfl) (by first | rfl | (simp only [EX, simprocAttr, Nat.blt, Nat.ble, hb196] <;> rfl)) ?_
      refine wp_skip ?_
      have h := h.same [1, 3, 7, 8] [(1, 0), (6, 0)] 20 [(1, .one (.d (.int .i64 a1))), (3, .one (.ptr (1, 0) 0)), (7, .one (.d (.int .i64 0))), (8, .one (.own (6, 0) 0))]
        [((1, 0), some (.box 24 [.d (.int .i64 r140.N), .d (.sl (List.map eA2I r140.Links))])), ((6, 0), some (.row 43 2 ([])))]
        (by simp only [EX, simprocAttr, Nat.blt, Nat.ble, hb196] <;> rfl)
      injection hE195 with hE195
      exact ⟨0, hE195, h⟩
  · skip
    rintro ac wd ⟨n193, rfl, h⟩
    (try dsimp only at hD)
    refine wp_seq ?_
    refine rs_plain 21 [] [none] [1, 3, 7, 8, 9] [(1, 0), (6, 0)] h rfl rfl (by simp only [EX, simprocAttr, Nat.blt, Nat.ble, tz_3] <;> rfl) fun ac wd h => ?_
    obtain ⟨e280, hE281, hD⟩ := Option.bind_eq_some_iff.1 hD
    refine r_meet (fun ac wd => ∃ (l279 : List A2I), l279 = e280 ∧ SL ⟨wb, S, Φ, P0⟩ 85 82 [(1, .one (.d (.int .i64 a1))), (3, .one (.ptr (1, 0) 0)), (8, .one (.own (6, 0) l279.length))] [((1, 0), some (.box 24 [.d (.int .i64 r140.N), .d (.sl (List.map eA2I r140.Links))])), ((6, 0), some (.row 43 2 (dat (List.map eA2I l279))))] ac wd) ?_ ?_
    · skip
      refine wp_block ?_
      have h := h.same [1, 3, 7, 8, 9] [(1, 0), (6, 0)] 77 [(1, .one (.d (.int .i64 a1))), (3, .one (.ptr (1, 0) 0)), (7, .one (.d (.int .i64 n193))), (8, .one (.own (6, 0) ([] : List A2I).length)), (9, .one (.d (.int .i64 0)))]
        [((1, 0), some (.box 24 [.d (.int .i64 r140.N), .d (.sl (List.map eA2I r140.Links))])), ((6, 0), some (.row 43 2 (dat (List.map eA2I ([] : List A2I)))))]
        (by simp only [EX, simprocAttr, Nat.blt, Nat.ble] <;> rfl)
      refine r_while (fun nf ac wd => ∃ (n302 : Int) (l303 : List A2I), L_law03_GraphTurned_l1 n193 r140 nf n302 l303 = some e280 ∧ SL ⟨wb, S, Φ, P0⟩ 85 77 [(1, .one (.d (.int .i64 a1))), (3, .one (.ptr (1, 0) 0)), (7, .one (.d (.int .i64 n193))), (8, .one (.own (6, 0) l303.length)), (9, .one (.d (.int .i64 n302)))] [((1, 0), some (.box 24 [.d (.int .i64 r140.N), .d (.sl (List.map eA2I r140.Links))])), ((6, 0), some (.row 43 2 (dat (List.map eA2I l303))))] ac wd) (((r140.Links.length : Int) - 0).toNat + 1) ⟨0, ([] : List A2I), hE281, h⟩ (fun nf ac wd hJ => ?_)
      obtain ⟨n302, l303, hL304, h⟩ := hJ
      cases nf with
      | zero => rw [L_law03_GraphTurned_l1] at hL304; cases hL304
      | succ nf =>
        rw [L_law03_GraphTurned_l1] at hL304
        refine wp_seq ?_
        refine rs_plain 82 [] [none, none, none, none, none] [1, 3, 7, 8, 9, 28] [(1, 0), (6, 0)] h rfl rfl (by simp only [EX, simprocAttr, Nat.blt, Nat.ble, tz_3, tz_4, tz_22, tz_24, tz_43] <;> rfl) fun ac wd h => ?_
        by_cases hb306 : n302 < (r140.Links.length : Int)
        · rw [if_pos hb306] at hL304
          refine r_condT h (decide (n302 < (r140.Links.length : Int))) (by simp only [EX, simprocAttr, Nat.blt, Nat.ble, hb306] <;> rfl) (by first | rfl | (simp only [EX, simprocAttr, Nat.blt, Nat.ble, hb306] <;> rfl)) ?_
          refine wp_skip ?_
          change Code.wp Try.prog _ _ _ _
          refine wp_seq ?_
          refine wp_block ?_
          by_cases ha315 : ¬ (r140.Links.length : Int) = 0
          case neg => rw [if_neg ha315] at hL304; cases hL304
          rw [if_pos ha315] at hL304
          obtain ⟨x316, hx317, hL304⟩ := Option.bind_eq_some_iff.1 hL304
          obtain ⟨hx317a, hx317b, hx317c⟩ := at_some hx317
          have hx317d := (List.getElem?_eq_some_iff.1 hx317b).1
          by_cases ha318 : (l303.length + 1) * 16 ≤ 140737488355328
          case neg => rw [if_neg ha318] at hL304; cases hL304
          rw [if_pos ha318] at hL304
          refine r_drawn ty_hm [] [none, none, none, none, none, none, none, none, none, none, none, none, none, none, none, none, none, none, none, none] [1, 3, 7, 8, 9] [(1, 0), (100, 0)] h rfl (by simp only [EX, simprocAttr, Nat.blt, Nat.ble, tz_3, tz_22, tz_24, tz_43, hb306, ha315, ha318, hx317a, hx317b, hx317c, hx317d] <;> rfl) (by kernel_rfl) fun ac wd h => ?_
          change Code.wp Try.prog _ _ _ _
          refine r_plain [] [none, none, none] [1, 3, 7, 8, 9] [(1, 0), (100, 0)] h rfl (by simp only [EX, simprocAttr, Nat.blt, Nat.ble, tz_3, hb306, ha315, ha318] <;> rfl) fun ac wd h => ?_
          have h := SL.swap h (6, 0) (100, 0) 105 (by decide) (by decide) (by simp only [EX, simprocAttr, Nat.blt, Nat.ble, hb306, ha315, hx317a, hx317b, hx317c, hx317d, ha318, e_ren3, fren, mren, AV.ren, AObj.ren, Cell.ren, sumRen, Upd.ren, swp, csw, dat_ren, opn_ren] <;> rfl) (by simp only [EX, simprocAttr, Nat.blt, Nat.ble, hb306, ha315, hx317a, hx317b, hx317c, hx317d, ha318, e_ren3, fren, mren, AV.ren, AObj.ren, Cell.ren, sumRen, Upd.ren, swp, csw, dat_ren, opn_ren] <;> rfl) (by simp only [EX, simprocAttr, Nat.blt, Nat.ble, hb306, ha315, hx317a, hx317b, hx317c, hx317d, ha318, e_ren3, fren, mren, AV.ren, AObj.ren, Cell.ren, sumRen, Upd.ren, swp, csw, dat_ren, opn_ren] <;> rfl)
          have h := h.same [1, 3, 7, 8, 9] [(1, 0), (6, 0)] 77 [(1, .one (.d (.int .i64 a1))), (3, .one (.ptr (1, 0) 0)), (7, .one (.d (.int .i64 n193))), (8, .one (.own (6, 0) (l303 ++ [x316]).length)), (9, .one (.d (.int .i64 (IntKind.wrap .i64 (n302 + 1)))))]
            [((1, 0), some (.box 24 [.d (.int .i64 r140.N), .d (.sl (List.map eA2I r140.Links))])), ((6, 0), some (.row 43 2 (dat (List.map eA2I (l303 ++ [x316])))))]
            (by simp only [EX, simprocAttr, Nat.blt, Nat.ble, hb306, ha315, hx317a, hx317b, hx317c, hx317d, ha318] <;> rfl)
          change ∃ n', _ ∧ _
          exact ⟨nf, Nat.lt_succ_self nf, (IntKind.wrap .i64 (n302 + 1)), (l303 ++ [x316]), hL304, h⟩
        · rw [if_neg hb306] at hL304
          refine r_condF h (decide (n302 < (r140.Links.length : Int))) (by simp only [EX, simprocAttr, Nat.blt, Nat.ble, hb306] <;> rfl) (by first | rfl | (simp only [EX, simprocAttr, Nat.blt, Nat.ble, hb306] <;> rfl)) ?_
          refine wp_exit ?_
          have h := h.same [1, 3, 8] [(1, 0), (6, 0)] 82 [(1, .one (.d (.int .i64 a1))), (3, .one (.ptr (1, 0) 0)), (8, .one (.own (6, 0) l303.length))]
            [((1, 0), some (.box 24 [.d (.int .i64 r140.N), .d (.sl (List.map eA2I r140.Links))])), ((6, 0), some (.row 43 2 (dat (List.map eA2I l303))))]
            (by simp only [EX, simprocAttr, Nat.blt, Nat.ble, hb306] <;> rfl)
          injection hL304 with hL304
          exact ⟨l303, hL304, h⟩
    · skip
      rintro ac wd ⟨l279, rfl, h⟩
      (try dsimp only at hD)
      refine rs_plain 88 [] [none, none, none, none, none, none] [1, 3, 10] [(1, 0), (6, 0), (86, 0)] h rfl rfl (by simp only [EX, simprocAttr, Nat.blt, Nat.ble, tz_3, tz_22, tz_24, tz_43] <;> rfl) fun ac wd h => ?_
      refine wp_seq ?_
      obtain ⟨r323, hc324, hD⟩ := Option.bind_eq_some_iff.1 hD
      obtain ⟨r325, hc326, hD⟩ := Option.bind_eq_some_iff.1 hD
      have hc324k := L_graph_Right_ok hc324
      have hc326k := L_graph_Right_ok hc326
      refine rs_drawn 93 ty_hm [factE 89 hc324k, factE 91 hc326k] [none, none, none, none, none] [1, 3, 10, 58] [(1, 0), (6, 0), (86, 0)] h rfl rfl (by simp only [EX, simprocAttr, Nat.blt, Nat.ble, tz_4, tz_24] <;> rfl) (by kernel_rfl) fun ac wd h => ?_
      by_cases hb328 : r323 = r325
      · rw [if_pos hb328] at hD
        have hb328t := eq_true hb328
        refine r_condF h (!(decide (r323 = r325))) (by simp only [EX, simprocAttr, Nat.blt, Nat.ble, hb328t] <;> rfl) (by first | rfl | (simp only [EX, simprocAttr, Nat.blt, Nat.ble, hb328t] <;> rfl)) ?_
        refine wp_skip ?_
        change Code.wp Try.prog _ _ _ _
        refine wp_seq ?_
        obtain ⟨r333, hc334, hD⟩ := Option.bind_eq_some_iff.1 hD
        obtain ⟨r335, hc336, hD⟩ := Option.bind_eq_some_iff.1 hD
        have hc334k := L_law03_Ref_ok hc334
        have hc336k := L_ref03_Right_ok hc336
        refine rs_plain 97 [factE 94 hc334k, factE 95 hc336k] [none, none, none, none] [1, 3, 10, 62] [(1, 0), (6, 0), (86, 0)] h rfl rfl (by simp only [EX, simprocAttr, Nat.blt, Nat.ble, tz_4, tz_24, tz_28, hb328t] <;> rfl) fun ac wd h => ?_
        by_cases hb342 : r335 = true
        · rw [if_pos hb342] at hD
          refine r_condF h (!(r335)) (by simp only [EX, simprocAttr, Nat.blt, Nat.ble, hb328t, hb342] <;> rfl) (by first | rfl | (simp only [EX, simprocAttr, Nat.blt, Nat.ble, hb328t, hb342] <;> rfl)) ?_
          refine wp_skip ?_
          change Code.wp Try.prog _ _ _ _
          obtain ⟨r373, hc374, hD⟩ := Option.bind_eq_some_iff.1 hD
          obtain ⟨r375, hc376, hD⟩ := Option.bind_eq_some_iff.1 hD
          have h := SL.freeze h [(6, 0)] (by simp only [EX, simprocAttr, Nat.blt, Nat.ble, hb328t, hb342, ffrz, mfrz, gcell, AV.mapC, boxMap, sumMap, List.any_cons, List.any_nil, Bool.or_false, Bool.or_true, Bool.true_or, Bool.false_or] <;> rfl) (by simp only [EX, simprocAttr, Nat.blt, Nat.ble, hb328t, hb342, ffrz, mfrz, gcell, AV.mapC, boxMap, sumMap, List.any_cons, List.any_nil, Bool.or_false, Bool.or_true, Bool.true_or, Bool.false_or] <;> rfl) (by simp only [EX, simprocAttr, Nat.blt, Nat.ble, hb328t, hb342, ffrz, mfrz, gcell, AV.mapC, boxMap, sumMap, List.any_cons, List.any_nil, Bool.or_false, Bool.or_true, Bool.true_or, Bool.false_or] <;> rfl)
          obtain ⟨r377, hc378, hD⟩ := Option.bind_eq_some_iff.1 hD
          by_cases hb379 : r377 = true
          · rw [if_pos hb379] at hD
            obtain ⟨r380, hc381, hD⟩ := Option.bind_eq_some_iff.1 hD
            obtain ⟨r382, hc383, hD⟩ := Option.bind_eq_some_iff.1 hD
            by_cases hb384 : (r380.length : Int) = (r382.length : Int)
            · rw [if_pos hb384] at hD
              have hb384t := eq_true hb384
              obtain ⟨r385, hc386, hD⟩ := Option.bind_eq_some_iff.1 hD
              have hc374k := L_graph_Dist_ok hc374
              have hc376k := L_graph_Dist_ok hc376
              have hc378k := L_ref01_Ints_ok hc378
              have hc381k := L_graph_Out_ok hc381
              have hc383k := L_graph_Out_ok hc383
              have hc386k := L_law03_fixed_ok hc386
              refine rs_drawn 119 ty_hm [factE 99 hc374k, factE 102 hc376k, factE 103 hc378k, factE 107 hc381k, factE 111 hc383k, factE 116 hc386k] [none, none, none, none, none, none, none, none, some (some 71, true), some (some 71, true), some (some 71, true), some (some 71, true), some (some 71, true), some (some 71, true), some (some 71, true), some (some 71, true), some (some 71, true), none, none, some (some 82, true), none, none] [6] [] h rfl rfl (by simp only [EX, simprocAttr, Nat.blt, Nat.ble, tz_3, tz_4, tz_24, tz_35, hb328t, hb342, hb379, hb384t] <;> rfl) (by kernel_rfl) fun ac wd h => ?_
              refine wp_ret ?_
              injection hD with hD
              subst hD
              exact r_retE rfl h [.tmp 6] rfl (by simp only [retD, List.mapM_cons, List.mapM_nil, Option.bind_eq_bind, Option.pure_def, EX, simprocAttr, Nat.blt, Nat.ble, hb328t, hb342, hb379, hb384t] <;> rfl)
            · rw [if_neg hb384] at hD; cases hD
          · rw [if_neg hb379] at hD; cases hD
        · rw [if_neg hb342] at hD
          have hb342n := eq_false_of_ne_true hb342
          refine r_condT h (!(r335)) (by simp only [EX, simprocAttr, Nat.blt, Nat.ble, hb328t, hb342n] <;> rfl) (by first | rfl | (simp only [EX, simprocAttr, Nat.blt, Nat.ble, hb328t, hb342n] <;> rfl)) ?_
          obtain ⟨r389, hc390, hD⟩ := Option.bind_eq_some_iff.1 hD
          have hc390k := L_law03_fixed_ok hc390
          refine rs_plain 99 [factE 97 hc390k] [none, none] [6] [] h rfl rfl (by simp only [EX, simprocAttr, Nat.blt, Nat.ble, tz_4, hb328t, hb342n] <;> rfl) fun ac wd h => ?_
          refine wp_ret ?_
          injection hD with hD
          subst hD
          exact r_retE rfl h [.tmp 6] rfl (by simp only [retD, List.mapM_cons, List.mapM_nil, Option.bind_eq_bind, Option.pure_def, EX, simprocAttr, Nat.blt, Nat.ble, hb328t, hb342n] <;> rfl)
      · rw [if_neg hb328] at hD; cases hD

set_option maxRecDepth 20000 in
set_option maxHeartbeats 4000000 in
theorem L_law03_GraphFull_ok {a0 : Int} {a1 : Int} {r : Bool} (hD : L_law03_GraphFull a0 a1 = some r) :
    CallH Try.prog 9 [.one (.d (.int .i64 a0)), .one (.d (.int .i64 a1))] []
      (.one (.d (.bool r))) [] := by
  unfold L_law03_GraphFull at hD
  refine r_call Try.func9 rfl Try.ntmps9 (by kernel_rfl) (by rfl) (by rfl) (by simp) fun S Φ P0 wb ac h => ?_
  refine rs_plain 2 [] [none] [0, 1] [] h rfl rfl (by simp only [EX, simprocAttr, Nat.blt, Nat.ble, tz_4] <;> rfl) fun ac wd h => ?_
  obtain ⟨r401, hc402, hD⟩ := Option.bind_eq_some_iff.1 hD
  have hc402k := L_graph_Full_ok hc402
  refine rs_plain 6 [factE 3 hc402k] [none, none, none, none] [0, 1, 5] [(4, 0)] h rfl rfl (by simp only [EX, simprocAttr, Nat.blt, Nat.ble, tz_3, tz_24] <;> rfl) fun ac wd h => ?_
  refine wp_seq ?_
  by_cases hb544 : r401.N = (max 1 (min a0 6))
  · rw [if_pos hb544] at hD
    have hb544t := eq_true hb544
    by_cases hb545 : (r401.Links.length : Int) = (IntKind.wrap .i64 (r401.N * (IntKind.wrap .i64 (r401.N - 1))))
    · rw [if_pos hb545] at hD
      have hb545t := eq_true hb545
      obtain ⟨r546, hc547, hD⟩ := Option.bind_eq_some_iff.1 hD
      have hc547k := L_graph_Right_ok hc547
      refine rs_plain 29 [factE 26 hc547k] [none, none, none, none, none, none, none, some (some 17, false), some (some 17, false), some (some 17, false), some (some 17, false), some (some 17, false), some (some 17, false), some (some 17, false), some (some 17, false), some (some 17, false), some (some 17, false), none, none, some (some 29, false), some (some 29, false), some (some 29, false), none] [1, 5, 33] [(4, 0)] h rfl rfl (by simp only [EX, simprocAttr, Nat.blt, Nat.ble, tz_3, tz_4, tz_22, tz_24, tz_43, hb544t, hb545t] <;> rfl) fun ac wd h => ?_
      by_cases hb549 : r546 = true
      · rw [if_pos hb549] at hD
        refine r_condF h (!(r546)) (by simp only [EX, simprocAttr, Nat.blt, Nat.ble, hb544t, hb545t, hb549] <;> rfl) (by first | rfl | (simp only [EX, simprocAttr, Nat.blt, Nat.ble, hb544t, hb545t, hb549] <;> rfl)) ?_
        refine wp_skip ?_
        change Code.wp Try.prog _ _ _ _
        by_cases ha551 : ¬ r401.N = 0
        case neg => rw [if_neg ha551] at hD; cases hD
        rw [if_pos ha551] at hD
        refine rs_plain 35 [] [none, none, none, none, none, none] [5, 6] [(4, 0)] h rfl rfl (by simp only [EX, simprocAttr, Nat.blt, Nat.ble, tz_3, tz_24, hb544t, hb545t, hb549, ha551] <;> rfl) fun ac wd h => ?_
        obtain ⟨r554, hc555, hD⟩ := Option.bind_eq_some_iff.1 hD
        have hc555k := L_graph_Dist_ok hc555
        refine rs_plain 39 [factE 37 hc555k] [none, none, none, none] [5, 6, 7] [(4, 0)] h rfl rfl (by simp only [EX, simprocAttr, Nat.blt, Nat.ble, tz_3, tz_24, tz_35, hb544t, hb545t, hb549, ha551] <;> rfl) fun ac wd h => ?_
        refine wp_seq ?_
        by_cases hb689 : (r554.length : Int) = r401.N
        · rw [if_pos hb689] at hD
          have hb689t := eq_true hb689
          obtain ⟨r690, hc691, hD⟩ := Option.bind_eq_some_iff.1 hD
          by_cases hb692 : (r690.length : Int) = (IntKind.wrap .i64 (r401.N - 1))
          · rw [if_pos hb692] at hD
            have hb692t := eq_true hb692
            obtain ⟨r693, hc694, hD⟩ := Option.bind_eq_some_iff.1 hD
            have hc691k := L_graph_Out_ok hc691
            have hc694k := L_graph_In_ok hc694
            refine rs_drawn 64 ty_hm [factE 47 hc691k, factE 57 hc694k] [none, none, none, none, none, none, some (some 47, false), some (some 47, false), some (some 47, false), some (some 47, false), some (some 47, false), some (some 47, false), some (some 47, false), some (some 47, false), none, none, some (some 57, false), some (some 57, false), some (some 57, false), some (some 57, false), some (some 57, false), some (some 57, false), some (some 57, false), some (some 57, false), none] [5, 6, 7, 66] [(4, 0)] h rfl rfl (by simp only [EX, simprocAttr, Nat.blt, Nat.ble, tz_3, tz_4, tz_24, tz_35, hb544t, hb545t, hb549, ha551, hb689t, hb692t] <;> rfl) (by kernel_rfl) fun ac wd h => ?_
            by_cases hb696 : (r693.length : Int) = (IntKind.wrap .i64 (r401.N - 1))
            · rw [if_pos hb696] at hD
              have hb696t := eq_true hb696
              refine r_condF h (!(decide ((r693.length : Int) = (IntKind.wrap .i64 (r401.N - 1))))) (by simp only [EX, simprocAttr, Nat.blt, Nat.ble, hb544t, hb545t, hb549, ha551, hb689t, hb692t, hb696t] <;> rfl) (by first | rfl | (simp only [EX, simprocAttr, Nat.blt, Nat.ble, hb544t, hb545t, hb549, ha551, hb689t, hb692t, hb696t] <;> rfl)) ?_
              refine wp_skip ?_
              change Code.wp Try.prog _ _ _ _
              refine wp_seq ?_
              refine rs_plain 65 [] [none] [5, 6, 7, 8] [(4, 0)] h rfl rfl (by simp only [EX, simprocAttr, Nat.blt, Nat.ble, tz_3, hb544t, hb545t, hb549, ha551, hb689t, hb692t, hb696t] <;> rfl) fun ac wd h => ?_
              obtain ⟨e877, hE878, hD⟩ := Option.bind_eq_some_iff.1 hD
              refine r_meet (fun ac wd => () = e877 ∧ SL ⟨wb, S, Φ, P0⟩ 110 155 [] [] ac wd) ?_ ?_
              · skip
                refine wp_block ?_
                have h := h.same [5, 6, 7, 8] [(4, 0)] 151 [(5, .one (.ptr (4, 0) 0)), (6, .one (.d (.int .i64 ((landK .i64 a1 255).tmod r401.N)))), (7, .one (.d (.sl (List.map eI r554)))), (8, .one (.d (.int .i64 0)))]
                  [((4, 0), some (.box 24 [.d (.int .i64 r401.N), .d (.sl (List.map eA2I r401.Links))]))]
                  (by simp only [EX, simprocAttr, Nat.blt, Nat.ble, hb544t, hb545t, hb549, ha551, hb689t, hb692t, hb696t] <;> rfl)
                refine r_while (fun nf ac wd => ∃ (n996 : Int), L_law03_GraphFull_l1 a1 r401 r554 nf n996 = some e877 ∧ SL ⟨wb, S, Φ, P0⟩ 110 151 [(5, .one (.ptr (4, 0) 0)), (6, .one (.d (.int .i64 ((landK .i64 a1 255).tmod r401.N)))), (7, .one (.d (.sl (List.map eI r554)))), (8, .one (.d (.int .i64 n996)))] [((4, 0), some (.box 24 [.d (.int .i64 r401.N), .d (.sl (List.map eA2I r401.Links))]))] ac wd) ((r401.N - 0).toNat + 1) ⟨0, hE878, h⟩ (fun nf ac wd hJ => ?_)
                obtain ⟨n996, hL997, h⟩ := hJ
                cases nf with
                | zero => rw [L_law03_GraphFull_l1] at hL997; cases hL997
                | succ nf =>
                  rw [L_law03_GraphFull_l1] at hL997
                  refine wp_seq ?_
                  refine rs_plain 155 [] [none, none, none, none] [5, 6, 7, 8, 70] [(4, 0)] h rfl rfl (by simp only [EX, simprocAttr, Nat.blt, Nat.ble, tz_3, tz_4, tz_24, hb544t, hb545t, hb549, ha551, hb689t, hb692t, hb696t] <;> rfl) fun ac wd h => ?_
                  by_cases hb999 : n996 < r401.N
                  · rw [if_pos hb999] at hL997
                    refine r_condT h (decide (n996 < r401.N)) (by simp only [EX, simprocAttr, Nat.blt, Nat.ble, hb544t, hb545t, hb549, ha551, hb689t, hb692t, hb696t, hb999] <;> rfl) (by first | rfl | (simp only [EX, simprocAttr, Nat.blt, Nat.ble, hb544t, hb545t, hb549, ha551, hb689t, hb692t, hb696t, hb999] <;> rfl)) ?_
                    refine wp_skip ?_
                    change Code.wp Try.prog _ _ _ _
                    refine wp_seq ?_
                    refine wp_block ?_
                    obtain ⟨e1049, hE1050, hL997⟩ := Option.bind_eq_some_iff.1 hL997
                    refine r_seqJ (fun ac wd => ∃ (b1048 : Bool), b1048 = e1049 ∧ SL ⟨wb, S, Φ, P0⟩ 110 191 [(5, .one (.ptr (4, 0) 0)), (6, .one (.d (.int .i64 ((landK .i64 a1 255).tmod r401.N)))), (7, .one (.d (.sl (List.map eI r554)))), (8, .one (.d (.int .i64 n996))), (108, .one (.d (.bool b1048)))] [((4, 0), some (.box 24 [.d (.int .i64 r401.N), .d (.sl (List.map eA2I r401.Links))]))] ac wd) ?_ ?_
                    · skip
                      by_cases hb1051 : n996 = ((landK .i64 a1 255).tmod r401.N)
                      · rw [if_pos hb1051] at hE1050
                        have hb1051t := eq_true hb1051
                        obtain ⟨x1063, hx1064, hE1050⟩ := Option.bind_eq_some_iff.1 hE1050
                        obtain ⟨hx1064a, hx1064b, hx1064c⟩ := at_some hx1064
                        have hx1064d := (List.getElem?_eq_some_iff.1 hx1064b).1
                        by_cases hb1065 : x1063 = 0
                        · rw [if_pos hb1065] at hE1050
                          have hb1065t := eq_true hb1065
                          obtain ⟨r1069, hc1070, hE1050⟩ := Option.bind_eq_some_iff.1 hE1050
                          by_cases hb1071 : r1069 = (-1)
                          · rw [if_pos hb1071] at hE1050
                            have hb1071t := eq_true hb1071
                            have hc1070k := L_graph_Find_ok hc1070
                            refine r_plain [factE 168 hc1070k] [none, none, none, none, some (some 76, true), some (some 76, true), some (some 76, true), some (some 76, true), some (some 76, true), some (some 76, true), some (some 82, false), some (some 82, false), some (some 82, false), some (some 82, false), some (some 82, false), some (some 76, true), none, none, some (some 90, false), some (some 90, false), some (some 90, false), some (some 90, false), some (some 94, true), some (some 94, true), some (some 94, true), some (some 94, true), some (some 94, true), some (some 94, true), some (some 100, false), some (some 100, false), some (some 100, false), some (some 100, false), some (some 100, false), some (some 94, true), some (some 90, false), none] [5, 6, 7, 8, 108] [(4, 0)] h rfl (by simp only [EX, simprocAttr, Nat.blt, Nat.ble, tz_3, tz_4, tz_24, tz_35, hb544t, hb545t, hb549, ha551, hb689t, hb692t, hb696t, hb999, hb1051t, hb1065t, hb1071t, hx1064a, hx1064b, hx1064c, hx1064d] <;> rfl) fun ac wd h => ?_
                            have h := h.same [5, 6, 7, 8, 108] [(4, 0)] 191 [(5, .one (.ptr (4, 0) 0)), (6, .one (.d (.int .i64 ((landK .i64 a1 255).tmod r401.N)))), (7, .one (.d (.sl (List.map eI r554)))), (8, .one (.d (.int .i64 n996))), (108, .one (.d (.bool false)))]
                              [((4, 0), some (.box 24 [.d (.int .i64 r401.N), .d (.sl (List.map eA2I r401.Links))]))]
                              (by simp only [EX, simprocAttr, Nat.blt, Nat.ble, hb544t, hb545t, hb549, ha551, hb689t, hb692t, hb696t, hb999, hb1051t, hx1064a, hx1064b, hx1064c, hx1064d, hb1065t, hb1071t] <;> rfl)
                            injection hE1050 with hE1050
                            exact ⟨false, hE1050, h⟩
                          · rw [if_neg hb1071] at hE1050
                            have hc1070k := L_graph_Find_ok hc1070
                            refine r_plain [factE 168 hc1070k] [none, none, none, none, some (some 76, true), some (some 76, true), some (some 76, true), some (some 76, true), some (some 76, true), some (some 76, true), some (some 82, false), some (some 82, false), some (some 82, false), some (some 82, false), some (some 82, false), some (some 76, true), none, none, some (some 90, false), some (some 90, false), some (some 90, false), some (some 90, false), some (some 94, true), some (some 94, true), some (some 94, true), some (some 94, true), some (some 94, true), some (some 94, true), some (some 100, false), some (some 100, false), some (some 100, false), some (some 100, false), some (some 100, false), some (some 94, true), some (some 90, false), none] [5, 6, 7, 8, 108] [(4, 0)] h rfl (by simp only [EX, simprocAttr, Nat.blt, Nat.ble, tz_3, tz_4, tz_24, tz_35, hb544t, hb545t, hb549, ha551, hb689t, hb692t, hb696t, hb999, hb1051t, hb1065t, hb1071, hx1064a, hx1064b, hx1064c, hx1064d] <;> rfl) fun ac wd h => ?_
                            have h := h.same [5, 6, 7, 8, 108] [(4, 0)] 191 [(5, .one (.ptr (4, 0) 0)), (6, .one (.d (.int .i64 ((landK .i64 a1 255).tmod r401.N)))), (7, .one (.d (.sl (List.map eI r554)))), (8, .one (.d (.int .i64 n996))), (108, .one (.d (.bool true)))]
                              [((4, 0), some (.box 24 [.d (.int .i64 r401.N), .d (.sl (List.map eA2I r401.Links))]))]
                              (by simp only [EX, simprocAttr, Nat.blt, Nat.ble, hb544t, hb545t, hb549, ha551, hb689t, hb692t, hb696t, hb999, hb1051t, hx1064a, hx1064b, hx1064c, hx1064d, hb1065t, hb1071] <;> rfl)
                            injection hE1050 with hE1050
                            exact ⟨true, hE1050, h⟩
                        · rw [if_neg hb1065] at hE1050
                          refine r_plain [] [none, none, none, none, some (some 76, true), some (some 76, true), some (some 76, true), some (some 76, true), some (some 76, true), some (some 76, true), some (some 82, false), some (some 82, false), some (some 82, false), some (some 82, false), some (some 82, false), some (some 76, true), none, none, some (some 90, false), some (some 90, false), some (some 90, false), some (some 90, false), some (some 94, true), some (some 94, true), some (some 94, true), some (some 94, true), some (some 94, true), some (some 94, true), some (some 100, false), some (some 100, false), some (some 100, false), some (some 100, false), some (some 100, false), some (some 94, true), some (some 90, false), none] [5, 6, 7, 8, 108] [(4, 0)] h rfl (by simp only [EX, simprocAttr, Nat.blt, Nat.ble, tz_3, tz_4, tz_24, tz_35, hb544t, hb545t, hb549, ha551, hb689t, hb692t, hb696t, hb999, hb1051t, hb1065, hx1064a, hx1064b, hx1064c, hx1064d] <;> rfl) fun ac wd h => ?_
                          have h := h.same [5, 6, 7, 8, 108] [(4, 0)] 191 [(5, .one (.ptr (4, 0) 0)), (6, .one (.d (.int .i64 ((landK .i64 a1 255).tmod r401.N)))), (7, .one (.d (.sl (List.map eI r554)))), (8, .one (.d (.int .i64 n996))), (108, .one (.d (.bool true)))]
                            [((4, 0), some (.box 24 [.d (.int .i64 r401.N), .d (.sl (List.map eA2I r401.Links))]))]
                            (by simp only [EX, simprocAttr, Nat.blt, Nat.ble, hb544t, hb545t, hb549, ha551, hb689t, hb692t, hb696t, hb999, hb1051t, hx1064a, hx1064b, hx1064c, hx1064d, hb1065] <;> rfl)
                          injection hE1050 with hE1050
                          exact ⟨true, hE1050, h⟩
                      · rw [if_neg hb1051] at hE1050
                        obtain ⟨x1072, hx1073, hE1050⟩ := Option.bind_eq_some_iff.1 hE1050
                        obtain ⟨hx1073a, hx1073b, hx1073c⟩ := at_some hx1073
                        have hx1073d := (List.getElem?_eq_some_iff.1 hx1073b).1
                        by_cases hb1074 : x1072 = 1
                        · rw [if_pos hb1074] at hE1050
                          have hb1074t := eq_true hb1074
                          obtain ⟨r1077, hc1078, hE1050⟩ := Option.bind_eq_some_iff.1 hE1050
                          have hc1078k := L_graph_Find_ok hc1078
                          refine r_plain [factE 186 hc1078k] [none, none, none, none, some (some 76, true), some (some 76, true), some (some 76, true), some (some 76, true), some (some 76, true), some (some 76, true), some (some 82, false), some (some 82, false), some (some 82, false), some (some 82, false), some (some 82, false), some (some 76, true), none, none, some (some 90, false), some (some 90, false), some (some 90, false), some (some 90, false), some (some 94, true), some (some 94, true), some (some 94, true), some (some 94, true), some (some 94, true), some (some 94, true), some (some 100, false), some (some 100, false), some (some 100, false), some (some 100, false), some (some 100, false), some (some 94, true), some (some 90, false), none] [5, 6, 7, 8, 108] [(4, 0)] h rfl (by simp only [EX, simprocAttr, Nat.blt, Nat.ble, tz_3, tz_4, tz_24, tz_35, hb544t, hb545t, hb549, ha551, hb689t, hb692t, hb696t, hb999, hb1051, hb1074t, hx1073a, hx1073b, hx1073c, hx1073d] <;> rfl) fun ac wd h => ?_
                          have h := h.same [5, 6, 7, 8, 108] [(4, 0)] 191 [(5, .one (.ptr (4, 0) 0)), (6, .one (.d (.int .i64 ((landK .i64 a1 255).tmod r401.N)))), (7, .one (.d (.sl (List.map eI r554)))), (8, .one (.d (.int .i64 n996))), (108, .one (.d (.bool (decide (r1077 < 0)))))]
                            [((4, 0), some (.box 24 [.d (.int .i64 r401.N), .d (.sl (List.map eA2I r401.Links))]))]
                            (by simp only [EX, simprocAttr, Nat.blt, Nat.ble, hb544t, hb545t, hb549, ha551, hb689t, hb692t, hb696t, hb999, hb1051, hx1073a, hx1073b, hx1073c, hx1073d, hb1074t] <;> rfl)
                          injection hE1050 with hE1050
                          exact ⟨decide (r1077 < 0), hE1050, h⟩
                        · rw [if_neg hb1074] at hE1050
                          refine r_plain [] [none, none, none, none, some (some 76, true), some (some 76, true), some (some 76, true), some (some 76, true), some (some 76, true), some (some 76, true), some (some 82, false), some (some 82, false), some (some 82, false), some (some 82, false), some (some 82, false), some (some 76, true), none, none, some (some 90, false), some (some 90, false), some (some 90, false), some (some 90, false), some (some 94, true), some (some 94, true), some (some 94, true), some (some 94, true), some (some 94, true), some (some 94, true), some (some 100, false), some (some 100, false), some (some 100, false), some (some 100, false), some (some 100, false), some (some 94, true), some (some 90, false), none] [5, 6, 7, 8, 108] [(4, 0)] h rfl (by simp only [EX, simprocAttr, Nat.blt, Nat.ble, tz_3, tz_4, tz_24, tz_35, hb544t, hb545t, hb549, ha551, hb689t, hb692t, hb696t, hb999, hb1051, hb1074, hx1073a, hx1073b, hx1073c, hx1073d] <;> rfl) fun ac wd h => ?_
                          have h := h.same [5, 6, 7, 8, 108] [(4, 0)] 191 [(5, .one (.ptr (4, 0) 0)), (6, .one (.d (.int .i64 ((landK .i64 a1 255).tmod r401.N)))), (7, .one (.d (.sl (List.map eI r554)))), (8, .one (.d (.int .i64 n996))), (108, .one (.d (.bool true)))]
                            [((4, 0), some (.box 24 [.d (.int .i64 r401.N), .d (.sl (List.map eA2I r401.Links))]))]
                            (by simp only [EX, simprocAttr, Nat.blt, Nat.ble, hb544t, hb545t, hb549, ha551, hb689t, hb692t, hb696t, hb999, hb1051, hx1073a, hx1073b, hx1073c, hx1073d, hb1074] <;> rfl)
                          injection hE1050 with hE1050
                          exact ⟨true, hE1050, h⟩
                    · skip
                      rintro ac wd ⟨b1048, rfl, h⟩
                      (try dsimp only at hL997)
                      by_cases hb1079 : b1048 = true
                      · rw [if_pos hb1079] at hL997; cases hL997
                      · rw [if_neg hb1079] at hL997
                        have hb1079n := eq_false_of_ne_true hb1079
                        refine r_condF h b1048 (by simp only [EX, simprocAttr, Nat.blt, Nat.ble, hb544t, hb545t, hb549, ha551, hb689t, hb692t, hb696t, hb999, hb1079n] <;> rfl) (by first | rfl | (simp only [EX, simprocAttr, Nat.blt, Nat.ble, hb544t, hb545t, hb549, ha551, hb689t, hb692t, hb696t, hb999, hb1079n] <;> rfl)) ?_
                        refine wp_skip ?_
                        change Code.wp Try.prog _ _ _ _
                        refine r_plain [] [none, none, none] [5, 6, 7, 8] [(4, 0)] h rfl (by simp only [EX, simprocAttr, Nat.blt, Nat.ble, tz_3, hb544t, hb545t, hb549, ha551, hb689t, hb692t, hb696t, hb999, hb1079n] <;> rfl) fun ac wd h => ?_
                        have h := h.same [5, 6, 7, 8] [(4, 0)] 151 [(5, .one (.ptr (4, 0) 0)), (6, .one (.d (.int .i64 ((landK .i64 a1 255).tmod r401.N)))), (7, .one (.d (.sl (List.map eI r554)))), (8, .one (.d (.int .i64 (IntKind.wrap .i64 (n996 + 1)))))]
                          [((4, 0), some (.box 24 [.d (.int .i64 r401.N), .d (.sl (List.map eA2I r401.Links))]))]
                          (by simp only [EX, simprocAttr, Nat.blt, Nat.ble, hb544t, hb545t, hb549, ha551, hb689t, hb692t, hb696t, hb999, hb1079n] <;> rfl)
                        change ∃ n', _ ∧ _
                        exact ⟨nf, Nat.lt_succ_self nf, (IntKind.wrap .i64 (n996 + 1)), hL997, h⟩
                  · rw [if_neg hb999] at hL997
                    refine r_condF h (decide (n996 < r401.N)) (by simp only [EX, simprocAttr, Nat.blt, Nat.ble, hb544t, hb545t, hb549, ha551, hb689t, hb692t, hb696t, hb999] <;> rfl) (by first | rfl | (simp only [EX, simprocAttr, Nat.blt, Nat.ble, hb544t, hb545t, hb549, ha551, hb689t, hb692t, hb696t, hb999] <;> rfl)) ?_
                    refine wp_exit ?_
                    have h := h.same [] [] 155 []
                      []
                      (by simp only [EX, simprocAttr, Nat.blt, Nat.ble, hb544t, hb545t, hb549, ha551, hb689t, hb692t, hb696t, hb999] <;> rfl)
                    injection hL997 with hL997
                    exact ⟨hL997, h⟩
              · skip
                rintro ac wd ⟨rfl, h⟩
                (try dsimp only at hD)
                obtain ⟨r1082, hc1083, hD⟩ := Option.bind_eq_some_iff.1 hD
                have hc1083k := L_law03_fixed_ok hc1083
                refine rs_plain 157 [factE 155 hc1083k] [none, none] [4] [] h rfl rfl (by simp only [EX, simprocAttr, Nat.blt, Nat.ble, tz_4, hb544t, hb545t, hb549, ha551, hb689t, hb692t, hb696t] <;> rfl) fun ac wd h => ?_
                refine wp_ret ?_
                injection hD with hD
                subst hD
                exact r_retE rfl h [.tmp 4] rfl (by simp only [retD, List.mapM_cons, List.mapM_nil, Option.bind_eq_bind, Option.pure_def, EX, simprocAttr, Nat.blt, Nat.ble, hb544t, hb545t, hb549, ha551, hb689t, hb692t, hb696t] <;> rfl)
            · rw [if_neg hb696] at hD; cases hD
          · rw [if_neg hb692] at hD; cases hD
        · rw [if_neg hb689] at hD; cases hD
      · rw [if_neg hb549] at hD; cases hD
    · rw [if_neg hb545] at hD; cases hD
  · rw [if_neg hb544] at hD; cases hD

end Go.Proofs.Yteohodhcegbmmaa
