/- Functions as typed ones, and that the program's functions answer as these do. No condition. -/
import Derived.Test.YtkjihlonnhfidaaGb3
set_option linter.unusedSimpArgs false
set_option linter.unusedVariables false
namespace Go.Proofs.Ytkjihlonnhfidaa
open Go.RowKit

set_option maxRecDepth 20000 in
set_option maxHeartbeats 4000000 in
theorem L_law10_MarkOrder_ok {a0 : Int} {a1 : (List Int)} {r : Bool} (hD : L_law10_MarkOrder a0 a1 = some r) :
    CallH Try.prog 6 [.one (.d (.int .u8 a0)), .one (.d (.sl (List.map e_u8 a1)))] []
      (.one (.d (.bool r))) [] := by
  unfold L_law10_MarkOrder at hD
  refine r_call Try.func6 rfl Try.ntmps6 (by kernel_rfl) (by rfl) (by rfl) (by simp) fun S Φ P0 wb ac h => ?_
  refine rs_plain 2 [] [none] [0, 1] [] h rfl rfl (by simp only [EX, simprocAttr, Nat.blt, Nat.ble, tz_4] <;> rfl) fun ac wd h => ?_
  obtain ⟨r628, hc629, hD⟩ := Option.bind_eq_some_iff.1 hD
  have hc629k := L_law10_ends_ok hc629
  refine rs_plain 6 [factE 3 hc629k] [none, none, none, none] [1, 5] [(4, 0)] h rfl rfl (by simp only [EX, simprocAttr, Nat.blt, Nat.ble, tz_5, tz_26] <;> rfl) fun ac wd h => ?_
  refine rs_plain 10 [] [none, none, none, none] [1, 5, 6] [(4, 0)] h rfl rfl (by simp only [EX, simprocAttr, Nat.blt, Nat.ble, tz_3, tz_23, tz_26, tz_38, tz_57] <;> rfl) fun ac wd h => ?_
  obtain ⟨r632, hc633, hD⟩ := Option.bind_eq_some_iff.1 hD
  have hc633k := L_mark_Begin_ok hc633
  refine rs_plain 16 [factE 11 hc633k] [none, none, none, none, none, none] [1, 5, 6, 7, 8] [(4, 0), (12, 0), (13, 0)] h rfl rfl (by simp only [EX, simprocAttr, Nat.blt, Nat.ble, tz_3, tz_26, tz_29, tz_33] <;> rfl) fun ac wd h => ?_
  refine wp_seq ?_
  refine rs_plain 17 [] [none] [1, 5, 6, 7, 8, 9] [(4, 0), (12, 0), (13, 0)] h rfl rfl (by simp only [EX, simprocAttr, Nat.blt, Nat.ble, tz_3] <;> rfl) fun ac wd h => ?_
  obtain ⟨e1073, hE1074, hD⟩ := Option.bind_eq_some_iff.1 hD
  refine r_meet (fun ac wd => ∃ (l1072 : List Int), l1072 = e1073 ∧ SL ⟨wb, S, Φ, P0⟩ 85 42 [(1, .one (.d (.sl (List.map e_u8 a1)))), (5, .one (.ptr (4, 0) 0)), (6, .one (.d (.int .i64 (r628.In.length : Int)))), (7, .one (.ptr (13, 0) 0)), (8, .one (.own (12, 0) l1072.length))] [((4, 0), some (.box 26 [.d (.int .i64 r628.Node), .d (.int .i64 r628.State), .d (.int .i64 r628.Steps), .d (.sl (List.map (eL eTMsg) r628.In)), .d (.sl (List.map (eL eI) r628.Out))])), ((12, 0), some (.row 3 1 (dat (List.map eI l1072)))), ((13, 0), some (.box 33 [.d (.int .i64 r632.Epoch), .d (.sl (List.map eB r632.Open)), .d (.int .i64 r632.P.Node), .d (.int .i64 r632.P.State), .d (.int .i64 r632.P.Steps), .d (.sl (List.map eI r632.P.Sent)), .d (.sl (List.map (eL eTMsg) r632.P.In)), .d (.sl (List.map (eL eI) r632.P.Out))]))] ac wd) ?_ ?_
  · skip
    refine wp_block ?_
    have h := h.same [1, 5, 6, 7, 8, 9] [(4, 0), (12, 0), (13, 0)] 39 [(1, .one (.d (.sl (List.map e_u8 a1)))), (5, .one (.ptr (4, 0) 0)), (6, .one (.d (.int .i64 (r628.In.length : Int)))), (7, .one (.ptr (13, 0) 0)), (8, .one (.own (12, 0) ([] : List Int).length)), (9, .one (.d (.int .i64 0)))]
      [((4, 0), some (.box 26 [.d (.int .i64 r628.Node), .d (.int .i64 r628.State), .d (.int .i64 r628.Steps), .d (.sl (List.map (eL eTMsg) r628.In)), .d (.sl (List.map (eL eI) r628.Out))])), ((12, 0), some (.row 3 1 (dat (List.map eI ([] : List Int))))), ((13, 0), some (.box 33 [.d (.int .i64 r632.Epoch), .d (.sl (List.map eB r632.Open)), .d (.int .i64 r632.P.Node), .d (.int .i64 r632.P.State), .d (.int .i64 r632.P.Steps), .d (.sl (List.map eI r632.P.Sent)), .d (.sl (List.map (eL eTMsg) r632.P.In)), .d (.sl (List.map (eL eI) r632.P.Out))]))]
      (by simp only [EX, simprocAttr, Nat.blt, Nat.ble] <;> rfl)
    refine r_while (fun nf ac wd => ∃ (n1083 : Int) (l1084 : List Int), L_law10_MarkOrder_l1 r628 nf n1083 l1084 = some e1073 ∧ SL ⟨wb, S, Φ, P0⟩ 85 39 [(1, .one (.d (.sl (List.map e_u8 a1)))), (5, .one (.ptr (4, 0) 0)), (6, .one (.d (.int .i64 (r628.In.length : Int)))), (7, .one (.ptr (13, 0) 0)), (8, .one (.own (12, 0) l1084.length)), (9, .one (.d (.int .i64 n1083)))] [((4, 0), some (.box 26 [.d (.int .i64 r628.Node), .d (.int .i64 r628.State), .d (.int .i64 r628.Steps), .d (.sl (List.map (eL eTMsg) r628.In)), .d (.sl (List.map (eL eI) r628.Out))])), ((12, 0), some (.row 3 1 (dat (List.map eI l1084)))), ((13, 0), some (.box 33 [.d (.int .i64 r632.Epoch), .d (.sl (List.map eB r632.Open)), .d (.int .i64 r632.P.Node), .d (.int .i64 r632.P.State), .d (.int .i64 r632.P.Steps), .d (.sl (List.map eI r632.P.Sent)), .d (.sl (List.map (eL eTMsg) r632.P.In)), .d (.sl (List.map (eL eI) r632.P.Out))]))] ac wd) (((r628.In.length : Int) - 0).toNat + 1) ⟨0, ([] : List Int), hE1074, h⟩ (fun nf ac wd hJ => ?_)
    obtain ⟨n1083, l1084, hL1085, h⟩ := hJ
    cases nf with
    | zero => rw [L_law10_MarkOrder_l1] at hL1085; cases hL1085
    | succ nf =>
      rw [L_law10_MarkOrder_l1] at hL1085
      refine wp_seq ?_
      refine rs_plain 42 [] [none, none, none] [1, 5, 6, 7, 8, 9, 25] [(4, 0), (12, 0), (13, 0)] h rfl rfl (by simp only [EX, simprocAttr, Nat.blt, Nat.ble, tz_3, tz_4] <;> rfl) fun ac wd h => ?_
      by_cases hb1087 : n1083 < (r628.In.length : Int)
      · rw [if_pos hb1087] at hL1085
        refine r_condT h (decide (n1083 < (r628.In.length : Int))) (by simp only [EX, simprocAttr, Nat.blt, Nat.ble, hb1087] <;> rfl) (by first | rfl | (simp only [EX, simprocAttr, Nat.blt, Nat.ble, hb1087] <;> rfl)) ?_
        refine wp_skip ?_
        change Code.wp Try.prog _ _ _ _
        refine wp_seq ?_
        refine wp_block ?_
        by_cases ha1090 : (l1084.length + 1) * 8 ≤ 140737488355328
        case neg => rw [if_neg ha1090] at hL1085; cases hL1085
        rw [if_pos ha1090] at hL1085
        refine r_plain [] [none, none, none, none, none] [1, 5, 6, 7, 8, 9] [(4, 0), (13, 0), (45, 0)] h rfl (by simp only [EX, simprocAttr, Nat.blt, Nat.ble, tz_3, tz_29, hb1087, ha1090] <;> rfl) fun ac wd h => ?_
        change Code.wp Try.prog _ _ _ _
        refine r_plain [] [none, none, none] [1, 5, 6, 7, 8, 9] [(4, 0), (13, 0), (45, 0)] h rfl (by simp only [EX, simprocAttr, Nat.blt, Nat.ble, tz_3, hb1087, ha1090] <;> rfl) fun ac wd h => ?_
        have h := SL.swap h (12, 0) (45, 0) 50 (by decide) (by decide) (by simp only [EX, simprocAttr, Nat.blt, Nat.ble, hb1087, ha1090, fren, mren, AV.ren, AObj.ren, Cell.ren, sumRen, Upd.ren, swp, csw, dat_ren, opn_ren] <;> rfl) (by simp only [EX, simprocAttr, Nat.blt, Nat.ble, hb1087, ha1090, fren, mren, AV.ren, AObj.ren, Cell.ren, sumRen, Upd.ren, swp, csw, dat_ren, opn_ren] <;> rfl) (by simp only [EX, simprocAttr, Nat.blt, Nat.ble, hb1087, ha1090, fren, mren, AV.ren, AObj.ren, Cell.ren, sumRen, Upd.ren, swp, csw, dat_ren, opn_ren] <;> rfl)
        have h := h.same [1, 5, 6, 7, 8, 9] [(4, 0), (12, 0), (13, 0)] 39 [(1, .one (.d (.sl (List.map e_u8 a1)))), (5, .one (.ptr (4, 0) 0)), (6, .one (.d (.int .i64 (r628.In.length : Int)))), (7, .one (.ptr (13, 0) 0)), (8, .one (.own (12, 0) (l1084 ++ [n1083]).length)), (9, .one (.d (.int .i64 (IntKind.wrap .i64 (n1083 + 1)))))]
          [((4, 0), some (.box 26 [.d (.int .i64 r628.Node), .d (.int .i64 r628.State), .d (.int .i64 r628.Steps), .d (.sl (List.map (eL eTMsg) r628.In)), .d (.sl (List.map (eL eI) r628.Out))])), ((12, 0), some (.row 3 1 (dat (List.map eI (l1084 ++ [n1083]))))), ((13, 0), some (.box 33 [.d (.int .i64 r632.Epoch), .d (.sl (List.map eB r632.Open)), .d (.int .i64 r632.P.Node), .d (.int .i64 r632.P.State), .d (.int .i64 r632.P.Steps), .d (.sl (List.map eI r632.P.Sent)), .d (.sl (List.map (eL eTMsg) r632.P.In)), .d (.sl (List.map (eL eI) r632.P.Out))]))]
          (by simp only [EX, simprocAttr, Nat.blt, Nat.ble, hb1087, ha1090] <;> rfl)
        change ∃ n', _ ∧ _
        exact ⟨nf, Nat.lt_succ_self nf, (IntKind.wrap .i64 (n1083 + 1)), (l1084 ++ [n1083]), hL1085, h⟩
      · rw [if_neg hb1087] at hL1085
        refine r_condF h (decide (n1083 < (r628.In.length : Int))) (by simp only [EX, simprocAttr, Nat.blt, Nat.ble, hb1087] <;> rfl) (by first | rfl | (simp only [EX, simprocAttr, Nat.blt, Nat.ble, hb1087] <;> rfl)) ?_
        refine wp_exit ?_
        have h := h.same [1, 5, 6, 7, 8] [(4, 0), (12, 0), (13, 0)] 42 [(1, .one (.d (.sl (List.map e_u8 a1)))), (5, .one (.ptr (4, 0) 0)), (6, .one (.d (.int .i64 (r628.In.length : Int)))), (7, .one (.ptr (13, 0) 0)), (8, .one (.own (12, 0) l1084.length))]
          [((4, 0), some (.box 26 [.d (.int .i64 r628.Node), .d (.int .i64 r628.State), .d (.int .i64 r628.Steps), .d (.sl (List.map (eL eTMsg) r628.In)), .d (.sl (List.map (eL eI) r628.Out))])), ((12, 0), some (.row 3 1 (dat (List.map eI l1084)))), ((13, 0), some (.box 33 [.d (.int .i64 r632.Epoch), .d (.sl (List.map eB r632.Open)), .d (.int .i64 r632.P.Node), .d (.int .i64 r632.P.State), .d (.int .i64 r632.P.Steps), .d (.sl (List.map eI r632.P.Sent)), .d (.sl (List.map (eL eTMsg) r632.P.In)), .d (.sl (List.map (eL eI) r632.P.Out))]))]
          (by simp only [EX, simprocAttr, Nat.blt, Nat.ble, hb1087] <;> rfl)
        injection hL1085 with hL1085
        exact ⟨l1084, hL1085, h⟩
  · skip
    rintro ac wd ⟨l1072, rfl, h⟩
    (try dsimp only at hD)
    refine wp_seq ?_
    refine rs_plain 43 [] [none] [1, 5, 6, 7, 8, 10] [(4, 0), (12, 0), (13, 0)] h rfl rfl (by simp only [EX, simprocAttr, Nat.blt, Nat.ble, tz_3] <;> rfl) fun ac wd h => ?_
    obtain ⟨e1390, hE1391, hD⟩ := Option.bind_eq_some_iff.1 hD
    refine r_meet (fun ac wd => ∃ (m1389 : TMark), m1389 = e1390 ∧ SL ⟨wb, S, Φ, P0⟩ 85 152 [(7, .one (.ptr (13, 0) 0))] [((13, 0), some (.box 33 [.d (.int .i64 m1389.Epoch), .d (.sl (List.map eB m1389.Open)), .d (.int .i64 m1389.P.Node), .d (.int .i64 m1389.P.State), .d (.int .i64 m1389.P.Steps), .d (.sl (List.map eI m1389.P.Sent)), .d (.sl (List.map (eL eTMsg) m1389.P.In)), .d (.sl (List.map (eL eI) m1389.P.Out))]))] ac wd) ?_ ?_
    · skip
      refine wp_block ?_
      have h := h.same [1, 5, 6, 7, 8, 10] [(4, 0), (12, 0), (13, 0)] 149 [(1, .one (.d (.sl (List.map e_u8 a1)))), (5, .one (.ptr (4, 0) 0)), (6, .one (.d (.int .i64 (r628.In.length : Int)))), (7, .one (.ptr (13, 0) 0)), (8, .one (.own (12, 0) l1072.length)), (10, .one (.d (.int .i64 0)))]
        [((4, 0), some (.box 26 [.d (.int .i64 r628.Node), .d (.int .i64 r628.State), .d (.int .i64 r628.Steps), .d (.sl (List.map (eL eTMsg) r628.In)), .d (.sl (List.map (eL eI) r628.Out))])), ((12, 0), some (.row 3 1 (dat (List.map eI l1072)))), ((13, 0), some (.box 33 [.d (.int .i64 r632.Epoch), .d (.sl (List.map eB r632.Open)), .d (.int .i64 r632.P.Node), .d (.int .i64 r632.P.State), .d (.int .i64 r632.P.Steps), .d (.sl (List.map eI r632.P.Sent)), .d (.sl (List.map (eL eTMsg) r632.P.In)), .d (.sl (List.map (eL eI) r632.P.Out))]))]
        (by simp only [EX, simprocAttr, Nat.blt, Nat.ble] <;> rfl)
      refine r_while (fun nf ac wd => ∃ (n1579 : Int) (m1580 : TMark) (l1581 : List Int), L_law10_MarkOrder_l2 a1 r628 nf n1579 m1580 l1581 = some e1390 ∧ SL ⟨wb, S, Φ, P0⟩ 85 149 [(1, .one (.d (.sl (List.map e_u8 a1)))), (5, .one (.ptr (4, 0) 0)), (6, .one (.d (.int .i64 (r628.In.length : Int)))), (7, .one (.ptr (13, 0) 0)), (8, .one (.own (12, 0) l1581.length)), (10, .one (.d (.int .i64 n1579)))] [((4, 0), some (.box 26 [.d (.int .i64 r628.Node), .d (.int .i64 r628.State), .d (.int .i64 r628.Steps), .d (.sl (List.map (eL eTMsg) r628.In)), .d (.sl (List.map (eL eI) r628.Out))])), ((12, 0), some (.row 3 1 (dat (List.map eI l1581)))), ((13, 0), some (.box 33 [.d (.int .i64 m1580.Epoch), .d (.sl (List.map eB m1580.Open)), .d (.int .i64 m1580.P.Node), .d (.int .i64 m1580.P.State), .d (.int .i64 m1580.P.Steps), .d (.sl (List.map eI m1580.P.Sent)), .d (.sl (List.map (eL eTMsg) m1580.P.In)), .d (.sl (List.map (eL eI) m1580.P.Out))]))] ac wd) (((r628.In.length : Int) - 0).toNat + 1) ⟨0, r632, l1072, hE1391, h⟩ (fun nf ac wd hJ => ?_)
      obtain ⟨n1579, m1580, l1581, hL1582, h⟩ := hJ
      cases nf with
      | zero => rw [L_law10_MarkOrder_l2] at hL1582; cases hL1582
      | succ nf =>
        rw [L_law10_MarkOrder_l2] at hL1582
        refine wp_seq ?_
        refine rs_plain 152 [] [none, none, none] [1, 5, 6, 7, 8, 10, 34] [(4, 0), (12, 0), (13, 0)] h rfl rfl (by simp only [EX, simprocAttr, Nat.blt, Nat.ble, tz_3, tz_4] <;> rfl) fun ac wd h => ?_
        by_cases hb1584 : n1579 < (r628.In.length : Int)
        · rw [if_pos hb1584] at hL1582
          refine r_condT h (decide (n1579 < (r628.In.length : Int))) (by simp only [EX, simprocAttr, Nat.blt, Nat.ble, hb1584] <;> rfl) (by first | rfl | (simp only [EX, simprocAttr, Nat.blt, Nat.ble, hb1584] <;> rfl)) ?_
          refine wp_skip ?_
          change Code.wp Try.prog _ _ _ _
          refine wp_seq ?_
          refine wp_block ?_
          refine rs_plain 153 [] [none] [1, 5, 6, 7, 8, 10, 11] [(4, 0), (12, 0), (13, 0)] h rfl rfl (by simp only [EX, simprocAttr, Nat.blt, Nat.ble, tz_3, hb1584] <;> rfl) fun ac wd h => ?_
          refine wp_seq ?_
          refine rs_plain 157 [] [none, none, none, none] [1, 5, 6, 7, 8, 10, 11, 40] [(4, 0), (12, 0), (13, 0)] h rfl rfl (by simp only [EX, simprocAttr, Nat.blt, Nat.ble, tz_3, tz_4, tz_5, tz_60, hb1584] <;> rfl) fun ac wd h => ?_
          obtain ⟨e1689, hE1690, hL1582⟩ := Option.bind_eq_some_iff.1 hL1582
          refine r_meet (fun ac wd => ∃ (n1688 : Int), n1688 = e1689 ∧ SL ⟨wb, S, Φ, P0⟩ 85 166 [(1, .one (.d (.sl (List.map e_u8 a1)))), (5, .one (.ptr (4, 0) 0)), (6, .one (.d (.int .i64 (r628.In.length : Int)))), (7, .one (.ptr (13, 0) 0)), (8, .one (.own (12, 0) l1581.length)), (10, .one (.d (.int .i64 n1579))), (11, .one (.d (.int .i64 n1688)))] [((4, 0), some (.box 26 [.d (.int .i64 r628.Node), .d (.int .i64 r628.State), .d (.int .i64 r628.Steps), .d (.sl (List.map (eL eTMsg) r628.In)), .d (.sl (List.map (eL eI) r628.Out))])), ((12, 0), some (.row 3 1 (dat (List.map eI l1581)))), ((13, 0), some (.box 33 [.d (.int .i64 m1580.Epoch), .d (.sl (List.map eB m1580.Open)), .d (.int .i64 m1580.P.Node), .d (.int .i64 m1580.P.State), .d (.int .i64 m1580.P.Steps), .d (.sl (List.map eI m1580.P.Sent)), .d (.sl (List.map (eL eTMsg) m1580.P.In)), .d (.sl (List.map (eL eI) m1580.P.Out))]))] ac wd) ?_ ?_
          · skip
            by_cases hb1691 : n1579 < (a1.length : Int)
            · rw [if_pos hb1691] at hE1690
              refine r_condT h (decide (n1579 < (a1.length : Int))) (by simp only [EX, simprocAttr, Nat.blt, Nat.ble, hb1584, hb1691] <;> rfl) (by first | rfl | (simp only [EX, simprocAttr, Nat.blt, Nat.ble, hb1584, hb1691] <;> rfl)) ?_
              obtain ⟨x1695, hx1696, hE1690⟩ := Option.bind_eq_some_iff.1 hE1690
              obtain ⟨hx1696a, hx1696b, hx1696c⟩ := at_some hx1696
              have hx1696d := (List.getElem?_eq_some_iff.1 hx1696b).1
              by_cases ha1697 : ¬ (l1581.length : Int) = 0
              case neg => rw [if_neg ha1697] at hE1690; cases hE1690
              rw [if_pos ha1697] at hE1690
              refine r_plain [] [none, none, none, none, none, none, none, none, none] [1, 5, 6, 7, 8, 10, 11] [(4, 0), (12, 0), (13, 0)] h rfl (by simp only [EX, simprocAttr, Nat.blt, Nat.ble, tz_3, tz_5, tz_29, tz_60, hb1584, hb1691, ha1697, hx1696a, hx1696b, hx1696c, hx1696d] <;> rfl) fun ac wd h => ?_
              have h := h.same [1, 5, 6, 7, 8, 10, 11] [(4, 0), (12, 0), (13, 0)] 166 [(1, .one (.d (.sl (List.map e_u8 a1)))), (5, .one (.ptr (4, 0) 0)), (6, .one (.d (.int .i64 (r628.In.length : Int)))), (7, .one (.ptr (13, 0) 0)), (8, .one (.own (12, 0) l1581.length)), (10, .one (.d (.int .i64 n1579))), (11, .one (.d (.int .i64 ((IntKind.wrap .i64 x1695).tmod (l1581.length : Int)))))]
                [((4, 0), some (.box 26 [.d (.int .i64 r628.Node), .d (.int .i64 r628.State), .d (.int .i64 r628.Steps), .d (.sl (List.map (eL eTMsg) r628.In)), .d (.sl (List.map (eL eI) r628.Out))])), ((12, 0), some (.row 3 1 (dat (List.map eI l1581)))), ((13, 0), some (.box 33 [.d (.int .i64 m1580.Epoch), .d (.sl (List.map eB m1580.Open)), .d (.int .i64 m1580.P.Node), .d (.int .i64 m1580.P.State), .d (.int .i64 m1580.P.Steps), .d (.sl (List.map eI m1580.P.Sent)), .d (.sl (List.map (eL eTMsg) m1580.P.In)), .d (.sl (List.map (eL eI) m1580.P.Out))]))]
                (by simp only [EX, simprocAttr, Nat.blt, Nat.ble, hb1584, hb1691, hx1696a, hx1696b, hx1696c, hx1696d, ha1697] <;> rfl)
              injection hE1690 with hE1690
              exact ⟨((IntKind.wrap .i64 x1695).tmod (l1581.length : Int)), hE1690, h⟩
            · rw [if_neg hb1691] at hE1690
              refine r_condF h (decide (n1579 < (a1.length : Int))) (by simp only [EX, simprocAttr, Nat.blt, Nat.ble, hb1584, hb1691] <;> rfl) (by first | rfl | (simp only [EX, simprocAttr, Nat.blt, Nat.ble, hb1584, hb1691] <;> rfl)) ?_
              refine wp_skip ?_
              have h := h.same [1, 5, 6, 7, 8, 10, 11] [(4, 0), (12, 0), (13, 0)] 166 [(1, .one (.d (.sl (List.map e_u8 a1)))), (5, .one (.ptr (4, 0) 0)), (6, .one (.d (.int .i64 (r628.In.length : Int)))), (7, .one (.ptr (13, 0) 0)), (8, .one (.own (12, 0) l1581.length)), (10, .one (.d (.int .i64 n1579))), (11, .one (.d (.int .i64 0)))]
                [((4, 0), some (.box 26 [.d (.int .i64 r628.Node), .d (.int .i64 r628.State), .d (.int .i64 r628.Steps), .d (.sl (List.map (eL eTMsg) r628.In)), .d (.sl (List.map (eL eI) r628.Out))])), ((12, 0), some (.row 3 1 (dat (List.map eI l1581)))), ((13, 0), some (.box 33 [.d (.int .i64 m1580.Epoch), .d (.sl (List.map eB m1580.Open)), .d (.int .i64 m1580.P.Node), .d (.int .i64 m1580.P.State), .d (.int .i64 m1580.P.Steps), .d (.sl (List.map eI m1580.P.Sent)), .d (.sl (List.map (eL eTMsg) m1580.P.In)), .d (.sl (List.map (eL eI) m1580.P.Out))]))]
                (by simp only [EX, simprocAttr, Nat.blt, Nat.ble, hb1584, hb1691] <;> rfl)
              injection hE1690 with hE1690
              exact ⟨0, hE1690, h⟩
          · skip
            rintro ac wd ⟨n1688, rfl, h⟩
            (try dsimp only at hL1582)
            refine wp_seq ?_
            obtain ⟨r1700, hc1701, hL1582⟩ := Option.bind_eq_some_iff.1 hL1582
            have hc1701k := L_mark_Done_ok hc1701
            refine rs_plain 168 [factE 167 hc1701k] [none, none] [1, 5, 6, 7, 8, 10, 11, 50] [(4, 0), (12, 0), (13, 0)] h rfl rfl (by simp only [EX, simprocAttr, Nat.blt, Nat.ble, tz_3, tz_4, tz_33, hb1584] <;> rfl) fun ac wd h => ?_
            by_cases hb1703 : r1700 = true
            · rw [if_pos hb1703] at hL1582; cases hL1582
            · rw [if_neg hb1703] at hL1582
              have hb1703n := eq_false_of_ne_true hb1703
              refine r_condF h r1700 (by simp only [EX, simprocAttr, Nat.blt, Nat.ble, hb1584, hb1703n] <;> rfl) (by first | rfl | (simp only [EX, simprocAttr, Nat.blt, Nat.ble, hb1584, hb1703n] <;> rfl)) ?_
              refine wp_skip ?_
              change Code.wp Try.prog _ _ _ _
              obtain ⟨x1722, hx1723, hL1582⟩ := Option.bind_eq_some_iff.1 hL1582
              obtain ⟨hx1723a, hx1723b, hx1723c⟩ := at_some hx1723
              have hx1723d := (List.getElem?_eq_some_iff.1 hx1723b).1
              obtain ⟨r1724, hc1725, hL1582⟩ := Option.bind_eq_some_iff.1 hL1582
              have hc1725k := L_mark_Marker_ok hc1725
              refine rs_drawn 181 ty_hm [factE 174 hc1725k] [none, none, none, none, none, none, none, none, none, none, none, none, none] [1, 5, 6, 7, 8, 10, 11, 12, 13] [(4, 0), (12, 0), (13, 0), (178, 0)] h rfl rfl (by simp only [EX, simprocAttr, Nat.blt, Nat.ble, tz_3, tz_4, tz_26, tz_29, tz_33, hb1584, hb1703n, hx1723a, hx1723b, hx1723c, hx1723d] <;> rfl) (by kernel_rfl) fun ac wd h => ?_
              refine wp_seq ?_
              refine rs_plain 182 [] [none] [1, 5, 6, 7, 8, 10, 11, 12, 61] [(4, 0), (12, 0), (13, 0), (178, 0)] h rfl rfl (by simp only [EX, simprocAttr, Nat.blt, Nat.ble, tz_4, hb1584, hb1703n] <;> rfl) fun ac wd h => ?_
              by_cases hb1727 : r1724.2 = true
              · rw [if_pos hb1727] at hL1582; cases hL1582
              · rw [if_neg hb1727] at hL1582
                have hb1727n := eq_false_of_ne_true hb1727
                refine r_condF h r1724.2 (by simp only [EX, simprocAttr, Nat.blt, Nat.ble, hb1584, hb1703n, hb1727n] <;> rfl) (by first | rfl | (simp only [EX, simprocAttr, Nat.blt, Nat.ble, hb1584, hb1703n, hb1727n] <;> rfl)) ?_
                refine wp_skip ?_
                change Code.wp Try.prog _ _ _ _
                refine rs_plain 184 [] [none, none] [1, 5, 6, 7, 8, 10, 11] [(4, 0), (12, 0), (13, 0)] h rfl rfl (by simp only [EX, simprocAttr, Nat.blt, Nat.ble, tz_33, hb1584, hb1703n, hb1727n] <;> rfl) fun ac wd h => ?_
                by_cases ha1742 : 0 ≤ n1688
                case neg => rw [if_neg ha1742] at hL1582; cases hL1582
                rw [if_pos ha1742] at hL1582
                by_cases ha1743 : n1688 ≤ (l1581.length : Int)
                case neg => rw [if_neg ha1743] at hL1582; cases hL1582
                rw [if_pos ha1743] at hL1582
                have hq1744 : ¬ l1581.length = n1688.toNat := by omega
                have hq1745 : n1688.toNat ≤ l1581.length := by omega
                by_cases ha1746 : (min n1688.toNat l1581.length) * 8 ≤ 140737488355328
                case neg => rw [if_neg ha1746] at hL1582; cases hL1582
                rw [if_pos ha1746] at hL1582
                refine rs_plain 190 [] [none, none, none, none, none, none] [1, 5, 6, 7, 8, 10, 11, 14] [(4, 0), (12, 0), (13, 0), (188, 0)] h rfl rfl (by simp only [EX, simprocAttr, Nat.blt, Nat.ble, tz_3, tz_29, hb1584, hb1703n, hb1727n, ha1742, ha1743, hq1744, hq1745, ha1746] <;> rfl) fun ac wd h => ?_
                by_cases ha1751 : 0 ≤ (IntKind.wrap .i64 (n1688 + 1))
                case neg => rw [if_neg ha1751] at hL1582; cases hL1582
                rw [if_pos ha1751] at hL1582
                by_cases ha1752 : (IntKind.wrap .i64 (n1688 + 1)) ≤ (l1581.length : Int)
                case neg => rw [if_neg ha1752] at hL1582; cases hL1582
                rw [if_pos ha1752] at hL1582
                have hq1753 : ((IntKind.wrap .i64 (n1688 + 1)).toNat) + (l1581.length - ((IntKind.wrap .i64 (n1688 + 1)).toNat)) ≤ l1581.length := by omega
                by_cases ha1754 : ((min n1688.toNat l1581.length) + (min (l1581.length - ((IntKind.wrap .i64 (n1688 + 1)).toNat)) (l1581.length - ((IntKind.wrap .i64 (n1688 + 1)).toNat)))) * 8 ≤ 140737488355328
                case neg => rw [if_neg ha1754] at hL1582; cases hL1582
                rw [if_pos ha1754] at hL1582
                refine rs_plain 197 [] [none, none, none, none, none, none, none] [1, 5, 6, 7, 10, 14] [(4, 0), (13, 0), (195, 0)] h rfl rfl (by simp only [EX, simprocAttr, Nat.blt, Nat.ble, tz_3, tz_29, hb1584, hb1703n, hb1727n, ha1742, ha1743, hq1744, hq1745, ha1746, ha1751, ha1752, hq1753, ha1754] <;> rfl) fun ac wd h => ?_
                refine r_plain [] [none, none] [1, 5, 6, 7, 8, 10] [(4, 0), (13, 0), (195, 0)] h rfl (by simp only [EX, simprocAttr, Nat.blt, Nat.ble, tz_3, tz_29, hb1584, hb1703n, hb1727n, ha1742, ha1743, hq1744, hq1745, ha1746, ha1751, ha1752, hq1753, ha1754] <;> rfl) fun ac wd h => ?_
                change Code.wp Try.prog _ _ _ _
                refine r_plain [] [none, none, none] [1, 5, 6, 7, 8, 10] [(4, 0), (13, 0), (195, 0)] h rfl (by simp only [EX, simprocAttr, Nat.blt, Nat.ble, tz_3, hb1584, hb1703n, hb1727n, ha1742, ha1743, hq1744, hq1745, ha1746, ha1751, ha1752, hq1753, ha1754] <;> rfl) fun ac wd h => ?_
                have h := SL.swap h (12, 0) (195, 0) 202 (by decide) (by decide) (by simp only [EX, simprocAttr, Nat.blt, Nat.ble, hb1584, hb1703n, hx1723a, hx1723b, hx1723c, hx1723d, hb1727n, ha1742, ha1743, hq1744, hq1745, ha1746, ha1751, ha1752, hq1753, ha1754, fren, mren, AV.ren, AObj.ren, Cell.ren, sumRen, Upd.ren, swp, csw, dat_ren, opn_ren] <;> rfl) (by simp only [EX, simprocAttr, Nat.blt, Nat.ble, hb1584, hb1703n, hx1723a, hx1723b, hx1723c, hx1723d, hb1727n, ha1742, ha1743, hq1744, hq1745, ha1746, ha1751, ha1752, hq1753, ha1754, fren, mren, AV.ren, AObj.ren, Cell.ren, sumRen, Upd.ren, swp, csw, dat_ren, opn_ren] <;> rfl) (by simp only [EX, simprocAttr, Nat.blt, Nat.ble, hb1584, hb1703n, hx1723a, hx1723b, hx1723c, hx1723d, hb1727n, ha1742, ha1743, hq1744, hq1745, ha1746, ha1751, ha1752, hq1753, ha1754, fren, mren, AV.ren, AObj.ren, Cell.ren, sumRen, Upd.ren, swp, csw, dat_ren, opn_ren] <;> rfl)
                have h := h.same [1, 5, 6, 7, 8, 10] [(4, 0), (12, 0), (13, 0)] 149 [(1, .one (.d (.sl (List.map e_u8 a1)))), (5, .one (.ptr (4, 0) 0)), (6, .one (.d (.int .i64 (r628.In.length : Int)))), (7, .one (.ptr (13, 0) 0)), (8, .one (.own (12, 0) ((l1581.take n1688.toNat) ++ ((l1581.drop ((IntKind.wrap .i64 (n1688 + 1)).toNat)).take (l1581.length - ((IntKind.wrap .i64 (n1688 + 1)).toNat)))).length)), (10, .one (.d (.int .i64 (IntKind.wrap .i64 (n1579 + 1)))))]
                  [((4, 0), some (.box 26 [.d (.int .i64 r628.Node), .d (.int .i64 r628.State), .d (.int .i64 r628.Steps), .d (.sl (List.map (eL eTMsg) r628.In)), .d (.sl (List.map (eL eI) r628.Out))])), ((12, 0), some (.row 3 1 (dat (List.map eI ((l1581.take n1688.toNat) ++ ((l1581.drop ((IntKind.wrap .i64 (n1688 + 1)).toNat)).take (l1581.length - ((IntKind.wrap .i64 (n1688 + 1)).toNat)))))))), ((13, 0), some (.box 33 [.d (.int .i64 r1724.1.Epoch), .d (.sl (List.map eB r1724.1.Open)), .d (.int .i64 r1724.1.P.Node), .d (.int .i64 r1724.1.P.State), .d (.int .i64 r1724.1.P.Steps), .d (.sl (List.map eI r1724.1.P.Sent)), .d (.sl (List.map (eL eTMsg) r1724.1.P.In)), .d (.sl (List.map (eL eI) r1724.1.P.Out))]))]
                  (by simp only [EX, simprocAttr, Nat.blt, Nat.ble, hb1584, hb1703n, hx1723a, hx1723b, hx1723c, hx1723d, hb1727n, ha1742, ha1743, hq1744, hq1745, ha1746, ha1751, ha1752, hq1753, ha1754] <;> rfl)
                change ∃ n', _ ∧ _
                exact ⟨nf, Nat.lt_succ_self nf, (IntKind.wrap .i64 (n1579 + 1)), r1724.1, ((l1581.take n1688.toNat) ++ ((l1581.drop ((IntKind.wrap .i64 (n1688 + 1)).toNat)).take (l1581.length - ((IntKind.wrap .i64 (n1688 + 1)).toNat)))), hL1582, h⟩
        · rw [if_neg hb1584] at hL1582
          refine r_condF h (decide (n1579 < (r628.In.length : Int))) (by simp only [EX, simprocAttr, Nat.blt, Nat.ble, hb1584] <;> rfl) (by first | rfl | (simp only [EX, simprocAttr, Nat.blt, Nat.ble, hb1584] <;> rfl)) ?_
          refine wp_exit ?_
          have h := h.same [7] [(13, 0)] 152 [(7, .one (.ptr (13, 0) 0))]
            [((13, 0), some (.box 33 [.d (.int .i64 m1580.Epoch), .d (.sl (List.map eB m1580.Open)), .d (.int .i64 m1580.P.Node), .d (.int .i64 m1580.P.State), .d (.int .i64 m1580.P.Steps), .d (.sl (List.map eI m1580.P.Sent)), .d (.sl (List.map (eL eTMsg) m1580.P.In)), .d (.sl (List.map (eL eI) m1580.P.Out))]))]
            (by simp only [EX, simprocAttr, Nat.blt, Nat.ble, hb1584] <;> rfl)
          injection hL1582 with hL1582
          exact ⟨m1580, hL1582, h⟩
    · skip
      rintro ac wd ⟨m1389, rfl, h⟩
      (try dsimp only at hD)
      obtain ⟨r1763, hc1764, hD⟩ := Option.bind_eq_some_iff.1 hD
      by_cases hb1765 : r1763 = true
      · rw [if_pos hb1765] at hD
        obtain ⟨r1766, hc1767, hD⟩ := Option.bind_eq_some_iff.1 hD
        by_cases hb1768 : r1766 = true
        · rw [if_pos hb1768] at hD; cases hD
        · rw [if_neg hb1768] at hD
          have hb1768n := eq_false_of_ne_true hb1768
          obtain ⟨r1771, hc1772, hD⟩ := Option.bind_eq_some_iff.1 hD
          have hc1764k := L_mark_Done_ok hc1764
          have hc1767k := L_mark_Done_ok hc1767
          have hc1772k := L_law10_fixed_ok hc1772
          refine rs_plain 163 [factE 153 hc1764k, factE 156 hc1767k, factE 160 hc1772k] [none, none, none, some (some 77, true), some (some 77, true), some (some 77, true), none, none, some (some 82, true), none, none] [4] [] h rfl rfl (by simp only [EX, simprocAttr, Nat.blt, Nat.ble, tz_3, tz_4, tz_33, hb1765, hb1768n] <;> rfl) fun ac wd h => ?_
          refine wp_ret ?_
          injection hD with hD
          subst hD
          exact r_retE rfl h [.tmp 4] rfl (by simp only [retD, List.mapM_cons, List.mapM_nil, Option.bind_eq_bind, Option.pure_def, EX, simprocAttr, Nat.blt, Nat.ble, hb1765, hb1768n] <;> rfl)
      · rw [if_neg hb1765] at hD; cases hD

set_option maxRecDepth 20000 in
set_option maxHeartbeats 4000000 in
theorem L_law10_MarkOwn_ok {a0 : Int} {a1 : (List TOp)} {r : Bool} (hD : L_law10_MarkOwn a0 a1 = some r) :
    CallH Try.prog 7 [.one (.d (.int .u8 a0)), .one (.d (.sl (List.map eTOp a1)))] []
      (.one (.d (.bool r))) [] := by
  unfold L_law10_MarkOwn at hD
  refine r_call Try.func7 rfl Try.ntmps7 (by kernel_rfl) (by rfl) (by rfl) (by simp) fun S Φ P0 wb ac h => ?_
  refine rs_plain 2 [] [none] [0, 1] [] h rfl rfl (by simp only [EX, simprocAttr, Nat.blt, Nat.ble, tz_4] <;> rfl) fun ac wd h => ?_
  obtain ⟨r2281, hc2282, hD⟩ := Option.bind_eq_some_iff.1 hD
  have hc2282k := L_law10_ends_ok hc2282
  refine rs_plain 6 [factE 3 hc2282k] [none, none, none, none] [1, 5] [(4, 0)] h rfl rfl (by simp only [EX, simprocAttr, Nat.blt, Nat.ble, tz_5, tz_26] <;> rfl) fun ac wd h => ?_
  obtain ⟨r2285, hc2286, hD⟩ := Option.bind_eq_some_iff.1 hD
  have hc2286k := L_mark_Begin_ok hc2286
  refine rs_plain 10 [factE 7 hc2286k] [none, none, none, none] [1, 5, 6] [(4, 0), (8, 0)] h rfl rfl (by simp only [EX, simprocAttr, Nat.blt, Nat.ble, tz_3, tz_26, tz_33] <;> rfl) fun ac wd h => ?_
  refine wp_seq ?_
  refine rs_plain 11 [] [none] [1, 5, 6, 7] [(4, 0), (8, 0)] h rfl rfl (by simp only [EX, simprocAttr, Nat.blt, Nat.ble, tz_3] <;> rfl) fun ac wd h => ?_
  obtain ⟨e3423, hE3424, hD⟩ := Option.bind_eq_some_iff.1 hD
  refine r_meet (fun ac wd => () = e3423 ∧ SL ⟨wb, S, Φ, P0⟩ 237 549 [] [] ac wd) ?_ ?_
  · skip
    refine wp_block ?_
    have h := h.same [1, 5, 6, 7] [(4, 0), (8, 0)] 541 [(1, .one (.d (.sl (List.map eTOp a1)))), (5, .one (.ptr (4, 0) 0)), (6, .one (.ptr (8, 0) 0)), (7, .one (.d (.int .i64 0)))]
      [((4, 0), some (.box 26 [.d (.int .i64 r2281.Node), .d (.int .i64 r2281.State), .d (.int .i64 r2281.Steps), .d (.sl (List.map (eL eTMsg) r2281.In)), .d (.sl (List.map (eL eI) r2281.Out))])), ((8, 0), some (.box 33 [.d (.int .i64 r2285.Epoch), .d (.sl (List.map eB r2285.Open)), .d (.int .i64 r2285.P.Node), .d (.int .i64 r2285.P.State), .d (.int .i64 r2285.P.Steps), .d (.sl (List.map eI r2285.P.Sent)), .d (.sl (List.map (eL eTMsg) r2285.P.In)), .d (.sl (List.map (eL eI) r2285.P.Out))]))]
      (by simp only [EX, simprocAttr, Nat.blt, Nat.ble] <;> rfl)
    refine r_while (fun nf ac wd => ∃ (n4179 : Int) (m4180 : TMark), L_law10_MarkOwn_l1 a1 r2281 nf n4179 m4180 = some e3423 ∧ SL ⟨wb, S, Φ, P0⟩ 237 541 [(1, .one (.d (.sl (List.map eTOp a1)))), (5, .one (.ptr (4, 0) 0)), (6, .one (.ptr (8, 0) 0)), (7, .one (.d (.int .i64 n4179)))] [((4, 0), some (.box 26 [.d (.int .i64 r2281.Node), .d (.int .i64 r2281.State), .d (.int .i64 r2281.Steps), .d (.sl (List.map (eL eTMsg) r2281.In)), .d (.sl (List.map (eL eI) r2281.Out))])), ((8, 0), some (.box 33 [.d (.int .i64 m4180.Epoch), .d (.sl (List.map eB m4180.Open)), .d (.int .i64 m4180.P.Node), .d (.int .i64 m4180.P.State), .d (.int .i64 m4180.P.Steps), .d (.sl (List.map eI m4180.P.Sent)), .d (.sl (List.map (eL eTMsg) m4180.P.In)), .d (.sl (List.map (eL eI) m4180.P.Out))]))] ac wd) (((a1.length : Int) - 0).toNat + 1) ⟨0, r2285, hE3424, h⟩ (fun nf ac wd hJ => ?_)
    obtain ⟨n4179, m4180, hL4181, h⟩ := hJ
    cases nf with
    | zero => rw [L_law10_MarkOwn_l1] at hL4181; cases hL4181
    | succ nf =>
      rw [L_law10_MarkOwn_l1] at hL4181
      refine wp_seq ?_
      obtain ⟨e4217, hE4218, hL4181⟩ := Option.bind_eq_some_iff.1 hL4181
      refine r_seqJ (fun ac wd => ∃ (b4216 : Bool), b4216 = e4217 ∧ SL ⟨wb, S, Φ, P0⟩ 237 549 [(1, .one (.d (.sl (List.map eTOp a1)))), (5, .one (.ptr (4, 0) 0)), (6, .one (.ptr (8, 0) 0)), (7, .one (.d (.int .i64 n4179))), (26, .one (.d (.bool b4216)))] [((4, 0), some (.box 26 [.d (.int .i64 r2281.Node), .d (.int .i64 r2281.State), .d (.int .i64 r2281.Steps), .d (.sl (List.map (eL eTMsg) r2281.In)), .d (.sl (List.map (eL eI) r2281.Out))])), ((8, 0), some (.box 33 [.d (.int .i64 m4180.Epoch), .d (.sl (List.map eB m4180.Open)), .d (.int .i64 m4180.P.Node), .d (.int .i64 m4180.P.State), .d (.int .i64 m4180.P.Steps), .d (.sl (List.map eI m4180.P.Sent)), .d (.sl (List.map (eL eTMsg) m4180.P.In)), .d (.sl (List.map (eL eI) m4180.P.Out))]))] ac wd) ?_ ?_
      · skip
        by_cases hb4219 : n4179 < (a1.length : Int)
        · rw [if_pos hb4219] at hE4218
          refine r_plain [] [none, none, none, none, none, some (some 23, true), some (some 23, true), none] [1, 5, 6, 7, 26] [(4, 0), (8, 0)] h rfl (by simp only [EX, simprocAttr, Nat.blt, Nat.ble, tz_3, tz_4, tz_22, tz_40, hb4219] <;> rfl) fun ac wd h => ?_
          have h := h.same [1, 5, 6, 7, 26] [(4, 0), (8, 0)] 549 [(1, .one (.d (.sl (List.map eTOp a1)))), (5, .one (.ptr (4, 0) 0)), (6, .one (.ptr (8, 0) 0)), (7, .one (.d (.int .i64 n4179))), (26, .one (.d (.bool (decide (n4179 < 20)))))]
            [((4, 0), some (.box 26 [.d (.int .i64 r2281.Node), .d (.int .i64 r2281.State), .d (.int .i64 r2281.Steps), .d (.sl (List.map (eL eTMsg) r2281.In)), .d (.sl (List.map (eL eI) r2281.Out))])), ((8, 0), some (.box 33 [.d (.int .i64 m4180.Epoch), .d (.sl (List.map eB m4180.Open)), .d (.int .i64 m4180.P.Node), .d (.int .i64 m4180.P.State), .d (.int .i64 m4180.P.Steps), .d (.sl (List.map eI m4180.P.Sent)), .d (.sl (List.map (eL eTMsg) m4180.P.In)), .d (.sl (List.map (eL eI) m4180.P.Out))]))]
            (by simp only [EX, simprocAttr, Nat.blt, Nat.ble, hb4219] <;> rfl)
          injection hE4218 with hE4218
          exact ⟨decide (n4179 < 20), hE4218, h⟩
        · rw [if_neg hb4219] at hE4218
          refine r_plain [] [none, none, none, none, none, some (some 23, true), some (some 23, true), none] [1, 5, 6, 7, 26] [(4, 0), (8, 0)] h rfl (by simp only [EX, simprocAttr, Nat.blt, Nat.ble, tz_3, tz_4, tz_22, tz_40, hb4219] <;> rfl) fun ac wd h => ?_
          have h := h.same [1, 5, 6, 7, 26] [(4, 0), (8, 0)] 549 [(1, .one (.d (.sl (List.map eTOp a1)))), (5, .one (.ptr (4, 0) 0)), (6, .one (.ptr (8, 0) 0)), (7, .one (.d (.int .i64 n4179))), (26, .one (.d (.bool false)))]
            [((4, 0), some (.box 26 [.d (.int .i64 r2281.Node), .d (.int .i64 r2281.State), .d (.int .i64 r2281.Steps), .d (.sl (List.map (eL eTMsg) r2281.In)), .d (.sl (List.map (eL eI) r2281.Out))])), ((8, 0), some (.box 33 [.d (.int .i64 m4180.Epoch), .d (.sl (List.map eB m4180.Open)), .d (.int .i64 m4180.P.Node), .d (.int .i64 m4180.P.State), .d (.int .i64 m4180.P.Steps), .d (.sl (List.map eI m4180.P.Sent)), .d (.sl (List.map (eL eTMsg) m4180.P.In)), .d (.sl (List.map (eL eI) m4180.P.Out))]))]
            (by simp only [EX, simprocAttr, Nat.blt, Nat.ble, hb4219] <;> rfl)
          injection hE4218 with hE4218
          exact ⟨false, hE4218, h⟩
      · skip
        rintro ac wd ⟨b4216, rfl, h⟩
        (try dsimp only at hL4181)
        by_cases hb4221 : b4216 = true
        · rw [if_pos hb4221] at hL4181
          refine r_condT h b4216 (by simp only [EX, simprocAttr, Nat.blt, Nat.ble, hb4221] <;> rfl) (by first | rfl | (simp only [EX, simprocAttr, Nat.blt, Nat.ble, hb4221] <;> rfl)) ?_
          refine wp_skip ?_
          change Code.wp Try.prog _ _ _ _
          obtain ⟨e4438, hE4439, hL4181⟩ := Option.bind_eq_some_iff.1 hL4181
          refine r_seqJ (fun ac wd => ∃ (m4437 : TMark), m4437 = e4438 ∧ SL ⟨wb, S, Φ, P0⟩ 237 803 [(1, .one (.d (.sl (List.map eTOp a1)))), (5, .one (.ptr (4, 0) 0)), (6, .one (.ptr (8, 0) 0)), (7, .one (.d (.int .i64 n4179)))] [((4, 0), some (.box 26 [.d (.int .i64 r2281.Node), .d (.int .i64 r2281.State), .d (.int .i64 r2281.Steps), .d (.sl (List.map (eL eTMsg) r2281.In)), .d (.sl (List.map (eL eI) r2281.Out))])), ((8, 0), some (.box 33 [.d (.int .i64 m4437.Epoch), .d (.sl (List.map eB m4437.Open)), .d (.int .i64 m4437.P.Node), .d (.int .i64 m4437.P.State), .d (.int .i64 m4437.P.Steps), .d (.sl (List.map eI m4437.P.Sent)), .d (.sl (List.map (eL eTMsg) m4437.P.In)), .d (.sl (List.map (eL eI) m4437.P.Out))]))] ac wd) ?_ ?_
          · skip
            refine wp_block ?_
            by_cases ha4443 : m4180.Open.length * 1 ≤ 140737488355328
            case neg => rw [if_neg ha4443] at hE4439; cases hE4439
            rw [if_pos ha4443] at hE4439
            obtain ⟨r4444, hc4445, hE4439⟩ := Option.bind_eq_some_iff.1 hE4439
            have hc4445k := L_law10_Ref_ok hc4445
            refine rs_drawn 561 ty_hm [factE 556 hc4445k] [none, none, none, none, none, none, none, none, none, none, none, none] [1, 5, 6, 7, 8] [(4, 0), (8, 0), (554, 0), (559, 0)] h rfl rfl (by simp only [EX, simprocAttr, Nat.blt, Nat.ble, tz_2, tz_3, tz_4, tz_28, tz_33, tz_34, tz_36, hb4221, ha4443] <;> rfl) (by kernel_rfl) fun ac wd h => ?_
            refine rs_plain 564 [] [none, none, none] [1, 5, 6, 7, 8] [(4, 0), (8, 0), (554, 0), (559, 0)] h rfl rfl (by simp only [EX, simprocAttr, Nat.blt, Nat.ble, tz_2, tz_4, tz_23, tz_34, tz_36, tz_38, tz_57, hb4221, ha4443] <;> rfl) fun ac wd h => ?_
            refine wp_seq ?_
            refine rs_plain 565 [] [none] [1, 5, 6, 7, 8, 9] [(4, 0), (8, 0), (554, 0), (559, 0)] h rfl rfl (by simp only [EX, simprocAttr, Nat.blt, Nat.ble, tz_3, hb4221, ha4443] <;> rfl) fun ac wd h => ?_
            obtain ⟨e4547, hE4548, hE4439⟩ := Option.bind_eq_some_iff.1 hE4439
            refine r_meet (fun ac wd => ∃ (l4546 : List (List TMsg)), l4546 = e4547 ∧ SL ⟨wb, S, Φ, P0⟩ 237 621 [(1, .one (.d (.sl (List.map eTOp a1)))), (5, .one (.ptr (4, 0) 0)), (6, .one (.ptr (8, 0) 0)), (7, .one (.d (.int .i64 n4179))), (8, .one (.ptr (559, 0) 0))] [((4, 0), some (.box 26 [.d (.int .i64 r2281.Node), .d (.int .i64 r2281.State), .d (.int .i64 r2281.Steps), .d (.sl (List.map (eL eTMsg) r2281.In)), .d (.sl (List.map (eL eI) r2281.Out))])), ((8, 0), some (.box 33 [.d (.int .i64 m4180.Epoch), .d (.sl (List.map eB m4180.Open)), .d (.int .i64 m4180.P.Node), .d (.int .i64 m4180.P.State), .d (.int .i64 m4180.P.Steps), .d (.sl (List.map eI m4180.P.Sent)), .d (.sl (List.map (eL eTMsg) m4180.P.In)), .d (.sl (List.map (eL eI) m4180.P.Out))])), ((554, 0), some (.row 4 1 (dat (List.map eB m4180.Open)))), ((559, 0), some (.box 36 [.d (.int .i64 m4180.Epoch), .own (554, 0) m4180.Open.length, .d (.int .i64 r4444.P.Node), .d (.int .i64 r4444.P.State), .d (.int .i64 r4444.P.Steps), .d (.sl (List.map eI r4444.P.Sent)), .own (565, 0) l4546.length, .d (.sl (List.map (eL eI) r4444.P.Out))])), ((565, 0), some (.row 57 1 (openRows cols_57 (List.map (eL eTMsg) l4546))))] ac wd) ?_ ?_
            · skip
              refine wp_block ?_
              have h := SL.bornB h (559, 0) 6 57 1 (by simp only [EX, simprocAttr, Nat.blt, Nat.ble, hb4221, ha4443] <;> rfl) (by simp only [EX, simprocAttr, Nat.blt, Nat.ble, hb4221, ha4443] <;> rfl)
              have h := h.same [1, 5, 6, 7, 8, 9] [(4, 0), (8, 0), (554, 0), (559, 0), (565, 0)] 615 [(1, .one (.d (.sl (List.map eTOp a1)))), (5, .one (.ptr (4, 0) 0)), (6, .one (.ptr (8, 0) 0)), (7, .one (.d (.int .i64 n4179))), (8, .one (.ptr (559, 0) 0)), (9, .one (.d (.int .i64 0)))]
                [((4, 0), some (.box 26 [.d (.int .i64 r2281.Node), .d (.int .i64 r2281.State), .d (.int .i64 r2281.Steps), .d (.sl (List.map (eL eTMsg) r2281.In)), .d (.sl (List.map (eL eI) r2281.Out))])), ((8, 0), some (.box 33 [.d (.int .i64 m4180.Epoch), .d (.sl (List.map eB m4180.Open)), .d (.int .i64 m4180.P.Node), .d (.int .i64 m4180.P.State), .d (.int .i64 m4180.P.Steps), .d (.sl (List.map eI m4180.P.Sent)), .d (.sl (List.map (eL eTMsg) m4180.P.In)), .d (.sl (List.map (eL eI) m4180.P.Out))])), ((554, 0), some (.row 4 1 (dat (List.map eB m4180.Open)))), ((559, 0), some (.box 36 [.d (.int .i64 m4180.Epoch), .own (554, 0) m4180.Open.length, .d (.int .i64 r4444.P.Node), .d (.int .i64 r4444.P.State), .d (.int .i64 r4444.P.Steps), .d (.sl (List.map eI r4444.P.Sent)), .own (565, 0) ([] : List (List TMsg)).length, .d (.sl (List.map (eL eI) r4444.P.Out))])), ((565, 0), some (.row 57 1 (openRows cols_57 (List.map (eL eTMsg) ([] : List (List TMsg))))))]
                (by simp only [EX, simprocAttr, Nat.blt, Nat.ble, hb4221, ha4443] <;> rfl)
              refine r_while (fun nf ac wd => ∃ (n4571 : Int) (l4572 : List (List TMsg)), L_law10_MarkOwn_l2 m4180 nf n4571 l4572 = some e4547 ∧ SL ⟨wb, S, Φ, P0⟩ 237 615 [(1, .one (.d (.sl (List.map eTOp a1)))), (5, .one (.ptr (4, 0) 0)), (6, .one (.ptr (8, 0) 0)), (7, .one (.d (.int .i64 n4179))), (8, .one (.ptr (559, 0) 0)), (9, .one (.d (.int .i64 n4571)))] [((4, 0), some (.box 26 [.d (.int .i64 r2281.Node), .d (.int .i64 r2281.State), .d (.int .i64 r2281.Steps), .d (.sl (List.map (eL eTMsg) r2281.In)), .d (.sl (List.map (eL eI) r2281.Out))])), ((8, 0), some (.box 33 [.d (.int .i64 m4180.Epoch), .d (.sl (List.map eB m4180.Open)), .d (.int .i64 m4180.P.Node), .d (.int .i64 m4180.P.State), .d (.int .i64 m4180.P.Steps), .d (.sl (List.map eI m4180.P.Sent)), .d (.sl (List.map (eL eTMsg) m4180.P.In)), .d (.sl (List.map (eL eI) m4180.P.Out))])), ((554, 0), some (.row 4 1 (dat (List.map eB m4180.Open)))), ((559, 0), some (.box 36 [.d (.int .i64 m4180.Epoch), .own (554, 0) m4180.Open.length, .d (.int .i64 r4444.P.Node), .d (.int .i64 r4444.P.State), .d (.int .i64 r4444.P.Steps), .d (.sl (List.map eI r4444.P.Sent)), .own (565, 0) l4572.length, .d (.sl (List.map (eL eI) r4444.P.Out))])), ((565, 0), some (.row 57 1 (openRows cols_57 (List.map (eL eTMsg) l4572))))] ac wd) (((m4180.P.In.length : Int) - 0).toNat + 1) ⟨0, ([] : List (List TMsg)), hE4548, h⟩ (fun nf ac wd hJ => ?_)
              obtain ⟨n4571, l4572, hL4573, h⟩ := hJ
              cases nf with
              | zero => rw [L_law10_MarkOwn_l2] at hL4573; cases hL4573
              | succ nf =>
                rw [L_law10_MarkOwn_l2] at hL4573
                refine wp_seq ?_
                refine rs_plain 621 [] [none, none, none, none, none, none] [1, 5, 6, 7, 8, 9, 46] [(4, 0), (8, 0), (554, 0), (559, 0), (565, 0)] h rfl rfl (by simp only [EX, simprocAttr, Nat.blt, Nat.ble, tz_2, tz_3, tz_4, tz_23, tz_31, tz_33, tz_38, tz_57, hb4221, ha4443] <;> rfl) fun ac wd h => ?_
                by_cases hb4575 : n4571 < (m4180.P.In.length : Int)
                · rw [if_pos hb4575] at hL4573
                  refine r_condT h (decide (n4571 < (m4180.P.In.length : Int))) (by simp only [EX, simprocAttr, Nat.blt, Nat.ble, hb4221, ha4443, hb4575] <;> rfl) (by first | rfl | (simp only [EX, simprocAttr, Nat.blt, Nat.ble, hb4221, ha4443, hb4575] <;> rfl)) ?_
                  refine wp_skip ?_
                  change Code.wp Try.prog _ _ _ _
                  refine wp_seq ?_
                  refine wp_block ?_
                  obtain ⟨x4584, hx4585, hL4573⟩ := Option.bind_eq_some_iff.1 hL4573
                  obtain ⟨hx4585a, hx4585b, hx4585c⟩ := at_some hx4585
                  have hx4585d := (List.getElem?_eq_some_iff.1 hx4585b).1
                  by_cases ha4586 : x4584.length * 16 ≤ 140737488355328
                  case neg => rw [if_neg ha4586] at hL4573; cases hL4573
                  rw [if_pos ha4586] at hL4573
                  by_cases ha4587 : (l4572.length + 1) * 24 ≤ 140737488355328
                  case neg => rw [if_neg ha4587] at hL4573; cases hL4573
                  rw [if_pos ha4587] at hL4573
                  refine r_drawn ty_hm [] [none, none, none, none, none, none, none, none, none, none, none, none, none, none, none, none] [1, 5, 6, 7, 8, 9] [(4, 0), (8, 0), (554, 0), (559, 0), (631, 0), (633, 0)] h rfl (by simp only [EX, simprocAttr, Nat.blt, Nat.ble, tz_2, tz_3, tz_4, tz_23, tz_31, tz_33, tz_34, tz_36, tz_38, tz_57, hb4221, ha4443, hb4575, ha4586, ha4587, hx4585a, hx4585b, hx4585c, hx4585d] <;> rfl) (by kernel_rfl) fun ac wd h => ?_
                  have h := h.foldL (cols := (fun _ => .sc)) (633, 0) (631, 0) (openRows cols_57 (List.map (eL eTMsg) l4572)) [.own (631, 0) x4584.length] 0 (List.map eTMsg x4584) (by simp only [EX, simprocAttr, Nat.blt, Nat.ble, hb4221, ha4443, hb4575, hx4585a, hx4585b, hx4585c, hx4585d, ha4586, ha4587] <;> rfl)  (by rfl) (by simp only [EX, simprocAttr, Nat.blt, Nat.ble, hb4221, ha4443, hb4575, hx4585a, hx4585b, hx4585c, hx4585d, ha4586, ha4587] <;> rfl) (by simp only [EX, simprocAttr, Nat.blt, Nat.ble, hb4221, ha4443, hb4575, hx4585a, hx4585b, hx4585c, hx4585d, ha4586, ha4587, dat_open] <;> rfl) (by simp only [EX, simprocAttr, Nat.blt, Nat.ble, hb4221, ha4443, hb4575, hx4585a, hx4585b, hx4585c, hx4585d, ha4586, ha4587] <;> rfl) (by decide) (sc_38 _)
                  have h := h.same [1, 5, 6, 7, 8, 9] [(4, 0), (8, 0), (554, 0), (559, 0), (633, 0)] 637 [(1, .one (.d (.sl (List.map eTOp a1)))), (5, .one (.ptr (4, 0) 0)), (6, .one (.ptr (8, 0) 0)), (7, .one (.d (.int .i64 n4179))), (8, .one (.ptr (559, 0) 0)), (9, .one (.d (.int .i64 n4571)))]
                    [((4, 0), some (.box 26 [.d (.int .i64 r2281.Node), .d (.int .i64 r2281.State), .d (.int .i64 r2281.Steps), .d (.sl (List.map (eL eTMsg) r2281.In)), .d (.sl (List.map (eL eI) r2281.Out))])), ((8, 0), some (.box 33 [.d (.int .i64 m4180.Epoch), .d (.sl (List.map eB m4180.Open)), .d (.int .i64 m4180.P.Node), .d (.int .i64 m4180.P.State), .d (.int .i64 m4180.P.Steps), .d (.sl (List.map eI m4180.P.Sent)), .d (.sl (List.map (eL eTMsg) m4180.P.In)), .d (.sl (List.map (eL eI) m4180.P.Out))])), ((554, 0), some (.row 4 1 (dat (List.map eB m4180.Open)))), ((559, 0), some (.box 36 [.d (.int .i64 m4180.Epoch), .own (554, 0) m4180.Open.length, .d (.int .i64 r4444.P.Node), .d (.int .i64 r4444.P.State), .d (.int .i64 r4444.P.Steps), .d (.sl (List.map eI r4444.P.Sent)), .own (633, 0) (l4572.length + 1), .d (.sl (List.map (eL eI) r4444.P.Out))])), ((633, 0), some (.row 57 1 ((openRows cols_57 (List.map (eL eTMsg) l4572) ++ [[.tr (.sl 38 2 (fun _ => .sc)) (.sl (List.map eTMsg x4584))]]))))]
                    (by simp only [EX, simprocAttr, Nat.blt, Nat.ble, hb4221, ha4443, hb4575, hx4585a, hx4585b, hx4585c, hx4585d, ha4586, ha4587, dat_open] <;> rfl)
                  change Code.wp Try.prog _ _ _ _
                  refine r_plain [] [none, none, none] [1, 5, 6, 7, 8, 9] [(4, 0), (8, 0), (554, 0), (559, 0), (633, 0)] h rfl (by simp only [EX, simprocAttr, Nat.blt, Nat.ble, tz_3, hb4221, ha4443, hb4575, ha4586, ha4587] <;> rfl) fun ac wd h => ?_
                  have h := SL.swap h (565, 0) (633, 0) 640 (by decide) (by decide) (by simp only [EX, simprocAttr, Nat.blt, Nat.ble, hb4221, ha4443, hb4575, hx4585a, hx4585b, hx4585c, hx4585d, ha4586, ha4587, fren, mren, AV.ren, AObj.ren, Cell.ren, sumRen, Upd.ren, swp, csw, dat_ren, opn_ren] <;> rfl) (by simp only [EX, simprocAttr, Nat.blt, Nat.ble, hb4221, ha4443, hb4575, hx4585a, hx4585b, hx4585c, hx4585d, ha4586, ha4587, fren, mren, AV.ren, AObj.ren, Cell.ren, sumRen, Upd.ren, swp, csw, dat_ren, opn_ren] <;> rfl) (by simp only [EX, simprocAttr, Nat.blt, Nat.ble, hb4221, ha4443, hb4575, hx4585a, hx4585b, hx4585c, hx4585d, ha4586, ha4587, fren, mren, AV.ren, AObj.ren, Cell.ren, sumRen, Upd.ren, swp, csw, dat_ren, opn_ren] <;> rfl)
                  have h := h.same [1, 5, 6, 7, 8, 9] [(4, 0), (8, 0), (554, 0), (559, 0), (565, 0)] 615 [(1, .one (.d (.sl (List.map eTOp a1)))), (5, .one (.ptr (4, 0) 0)), (6, .one (.ptr (8, 0) 0)), (7, .one (.d (.int .i64 n4179))), (8, .one (.ptr (559, 0) 0)), (9, .one (.d (.int .i64 (IntKind.wrap .i64 (n4571 + 1)))))]
                    [((4, 0), some (.box 26 [.d (.int .i64 r2281.Node), .d (.int .i64 r2281.State), .d (.int .i64 r2281.Steps), .d (.sl (List.map (eL eTMsg) r2281.In)), .d (.sl (List.map (eL eI) r2281.Out))])), ((8, 0), some (.box 33 [.d (.int .i64 m4180.Epoch), .d (.sl (List.map eB m4180.Open)), .d (.int .i64 m4180.P.Node), .d (.int .i64 m4180.P.State), .d (.int .i64 m4180.P.Steps), .d (.sl (List.map eI m4180.P.Sent)), .d (.sl (List.map (eL eTMsg) m4180.P.In)), .d (.sl (List.map (eL eI) m4180.P.Out))])), ((554, 0), some (.row 4 1 (dat (List.map eB m4180.Open)))), ((559, 0), some (.box 36 [.d (.int .i64 m4180.Epoch), .own (554, 0) m4180.Open.length, .d (.int .i64 r4444.P.Node), .d (.int .i64 r4444.P.State), .d (.int .i64 r4444.P.Steps), .d (.sl (List.map eI r4444.P.Sent)), .own (565, 0) (l4572 ++ [x4584]).length, .d (.sl (List.map (eL eI) r4444.P.Out))])), ((565, 0), some (.row 57 1 (openRows cols_57 (List.map (eL eTMsg) (l4572 ++ [x4584])))))]
                    (by simp only [EX, simprocAttr, Nat.blt, Nat.ble, hb4221, ha4443, hb4575, hx4585a, hx4585b, hx4585c, hx4585d, ha4586, ha4587] <;> rfl)
                  change ∃ n', _ ∧ _
                  exact ⟨nf, Nat.lt_succ_self nf, (IntKind.wrap .i64 (n4571 + 1)), (l4572 ++ [x4584]), hL4573, h⟩
                · rw [if_neg hb4575] at hL4573
                  refine r_condF h (decide (n4571 < (m4180.P.In.length : Int))) (by simp only [EX, simprocAttr, Nat.blt, Nat.ble, hb4221, ha4443, hb4575] <;> rfl) (by first | rfl | (simp only [EX, simprocAttr, Nat.blt, Nat.ble, hb4221, ha4443, hb4575] <;> rfl)) ?_
                  refine wp_exit ?_
                  have h := h.same [1, 5, 6, 7, 8] [(4, 0), (8, 0), (554, 0), (559, 0), (565, 0)] 621 [(1, .one (.d (.sl (List.map eTOp a1)))), (5, .one (.ptr (4, 0) 0)), (6, .one (.ptr (8, 0) 0)), (7, .one (.d (.int .i64 n4179))), (8, .one (.ptr (559, 0) 0))]
                    [((4, 0), some (.box 26 [.d (.int .i64 r2281.Node), .d (.int .i64 r2281.State), .d (.int .i64 r2281.Steps), .d (.sl (List.map (eL eTMsg) r2281.In)), .d (.sl (List.map (eL eI) r2281.Out))])), ((8, 0), some (.box 33 [.d (.int .i64 m4180.Epoch), .d (.sl (List.map eB m4180.Open)), .d (.int .i64 m4180.P.Node), .d (.int .i64 m4180.P.State), .d (.int .i64 m4180.P.Steps), .d (.sl (List.map eI m4180.P.Sent)), .d (.sl (List.map (eL eTMsg) m4180.P.In)), .d (.sl (List.map (eL eI) m4180.P.Out))])), ((554, 0), some (.row 4 1 (dat (List.map eB m4180.Open)))), ((559, 0), some (.box 36 [.d (.int .i64 m4180.Epoch), .own (554, 0) m4180.Open.length, .d (.int .i64 r4444.P.Node), .d (.int .i64 r4444.P.State), .d (.int .i64 r4444.P.Steps), .d (.sl (List.map eI r4444.P.Sent)), .own (565, 0) l4572.length, .d (.sl (List.map (eL eI) r4444.P.Out))])), ((565, 0), some (.row 57 1 (openRows cols_57 (List.map (eL eTMsg) l4572))))]
                    (by simp only [EX, simprocAttr, Nat.blt, Nat.ble, hb4221, ha4443, hb4575] <;> rfl)
                  injection hL4573 with hL4573
                  exact ⟨l4572, hL4573, h⟩
            · skip
              rintro ac wd ⟨l4546, rfl, h⟩
              (try dsimp only at hE4439)
              obtain ⟨x4594, hx4595, hE4439⟩ := Option.bind_eq_some_iff.1 hE4439
              obtain ⟨hx4595a, hx4595b, hx4595c⟩ := at_some hx4595
              have hx4595d := (List.getElem?_eq_some_iff.1 hx4595b).1
              obtain ⟨r4596, hc4597, hE4439⟩ := Option.bind_eq_some_iff.1 hE4439
              obtain ⟨r4598, hc4599, hE4439⟩ := Option.bind_eq_some_iff.1 hE4439
              have hc4597k := L_mark_App_ok hc4597
              have hc4599k := L_mark_App_ok hc4599
              refine rs_drawn 645 ty_hm [factE 632 hc4597k, factE 640 hc4599k] [none, none, none, none, none, none, none, none, none, none, none, none, none, none, none, none, none, none, none, none, none, none, none, none] [1, 5, 6, 7, 8, 10, 11] [(4, 0), (8, 0), (554, 0), (559, 0), (565, 0), (641, 0), (642, 0)] h rfl rfl (by simp only [EX, simprocAttr, Nat.blt, Nat.ble, tz_2, tz_3, tz_22, tz_33, tz_38, tz_40, hb4221, ha4443, hx4595a, hx4595b, hx4595c, hx4595d] <;> rfl) (by kernel_rfl) fun ac wd h => ?_
              obtain ⟨r4602, hc4603, hE4439⟩ := Option.bind_eq_some_iff.1 hE4439
              have hc4603k := L_mark_Marker_ok hc4603
              refine rs_drawn 659 ty_hm [factE 652 hc4603k] [none, none, none, none, none, none, none, none, none, none, none, none, none, none] [1, 5, 6, 7, 8, 10, 11, 12] [(4, 0), (8, 0), (554, 0), (559, 0), (565, 0), (641, 0), (642, 0), (656, 0)] h rfl rfl (by simp only [EX, simprocAttr, Nat.blt, Nat.ble, tz_2, tz_3, tz_4, tz_22, tz_26, tz_33, tz_40, hb4221, ha4443, hx4595a, hx4595b, hx4595c, hx4595d] <;> rfl) (by kernel_rfl) fun ac wd h => ?_
              refine wp_seq ?_
              obtain ⟨r4606, hc4607, hE4439⟩ := Option.bind_eq_some_iff.1 hE4439
              have hc4445k := L_law10_Ref_ok hc4445
              have hc4607k := L_ref10_Same_ok hc4607
              refine rs_drawn 664 ty_hm [factE 660 hc4445k, factE 662 hc4607k] [none, none, none, none, none] [1, 5, 6, 7, 10, 11, 12, 99] [(4, 0), (8, 0), (641, 0), (642, 0), (656, 0)] h rfl rfl (by simp only [EX, simprocAttr, Nat.blt, Nat.ble, tz_4, tz_33, tz_36, hb4221, ha4443] <;> rfl) (by kernel_rfl) fun ac wd h => ?_
              by_cases hb4609 : r4606 = true
              · rw [if_pos hb4609] at hE4439
                refine r_condF h (!(r4606)) (by simp only [EX, simprocAttr, Nat.blt, Nat.ble, hb4221, ha4443, hb4609] <;> rfl) (by first | rfl | (simp only [EX, simprocAttr, Nat.blt, Nat.ble, hb4221, ha4443, hb4609] <;> rfl)) ?_
                refine wp_skip ?_
                change Code.wp Try.prog _ _ _ _
                refine wp_seq ?_
                obtain ⟨e4635, hE4636, hE4439⟩ := Option.bind_eq_some_iff.1 hE4439
                refine r_seqJ (fun ac wd => ∃ (b4634 : Bool), b4634 = e4635 ∧ SL ⟨wb, S, Φ, P0⟩ 237 692 [(1, .one (.d (.sl (List.map eTOp a1)))), (5, .one (.ptr (4, 0) 0)), (6, .one (.ptr (8, 0) 0)), (7, .one (.d (.int .i64 n4179))), (10, .one (.ptr (641, 0) 0)), (11, .one (.ptr (642, 0) 0)), (12, .one (.ptr (656, 0) 0)), (127, .one (.d (.bool b4634)))] [((4, 0), some (.box 26 [.d (.int .i64 r2281.Node), .d (.int .i64 r2281.State), .d (.int .i64 r2281.Steps), .d (.sl (List.map (eL eTMsg) r2281.In)), .d (.sl (List.map (eL eI) r2281.Out))])), ((8, 0), some (.box 33 [.d (.int .i64 m4180.Epoch), .d (.sl (List.map eB m4180.Open)), .d (.int .i64 m4180.P.Node), .d (.int .i64 m4180.P.State), .d (.int .i64 m4180.P.Steps), .d (.sl (List.map eI m4180.P.Sent)), .d (.sl (List.map (eL eTMsg) m4180.P.In)), .d (.sl (List.map (eL eI) m4180.P.Out))])), ((641, 0), some (.box 33 [.d (.int .i64 r4596.Epoch), .d (.sl (List.map eB r4596.Open)), .d (.int .i64 r4596.P.Node), .d (.int .i64 r4596.P.State), .d (.int .i64 r4596.P.Steps), .d (.sl (List.map eI r4596.P.Sent)), .d (.sl (List.map (eL eTMsg) r4596.P.In)), .d (.sl (List.map (eL eI) r4596.P.Out))])), ((642, 0), some (.box 33 [.d (.int .i64 r4598.Epoch), .d (.sl (List.map eB r4598.Open)), .d (.int .i64 r4598.P.Node), .d (.int .i64 r4598.P.State), .d (.int .i64 r4598.P.Steps), .d (.sl (List.map eI r4598.P.Sent)), .d (.sl (List.map (eL eTMsg) r4598.P.In)), .d (.sl (List.map (eL eI) r4598.P.Out))])), ((656, 0), some (.box 33 [.d (.int .i64 r4602.1.Epoch), .d (.sl (List.map eB r4602.1.Open)), .d (.int .i64 r4602.1.P.Node), .d (.int .i64 r4602.1.P.State), .d (.int .i64 r4602.1.P.Steps), .d (.sl (List.map eI r4602.1.P.Sent)), .d (.sl (List.map (eL eTMsg) r4602.1.P.In)), .d (.sl (List.map (eL eI) r4602.1.P.Out))]))] ac wd) ?_ ?_
                · skip
                  by_cases hb4637 : x4594.At ≥ 0
                  · rw [if_pos hb4637] at hE4636
                    by_cases hb4641 : x4594.At < (m4180.Open.length : Int)
                    · rw [if_pos hb4641] at hE4636
                      obtain ⟨x4644, hx4645, hE4636⟩ := Option.bind_eq_some_iff.1 hE4636
                      obtain ⟨hx4645a, hx4645b, hx4645c⟩ := at_some hx4645
                      have hx4645d := (List.getElem?_eq_some_iff.1 hx4645b).1
                      refine r_drawn ty_hm [] [none, none, none, none, none, none, none, some (some 106, true), some (some 106, true), some (some 106, true), some (some 106, true), some (some 106, true), some (some 106, true), some (some 106, true), some (some 106, true), some (some 106, true), none, none, some (some 117, true), some (some 117, true), some (some 117, true), some (some 117, true), some (some 117, true), some (some 117, true), some (some 117, true), some (some 117, true), some (some 117, true), none] [1, 5, 6, 7, 10, 11, 12, 127] [(4, 0), (8, 0), (641, 0), (642, 0), (656, 0)] h rfl (by simp only [EX, simprocAttr, Nat.blt, Nat.ble, tz_2, tz_3, tz_4, tz_22, tz_28, tz_33, tz_40, hb4221, ha4443, hb4609, hb4637, hb4641, hx4595a, hx4595b, hx4595c, hx4595d, hx4645a, hx4645b, hx4645c, hx4645d] <;> rfl) (by kernel_rfl) fun ac wd h => ?_
                      have h := h.same [1, 5, 6, 7, 10, 11, 12, 127] [(4, 0), (8, 0), (641, 0), (642, 0), (656, 0)] 692 [(1, .one (.d (.sl (List.map eTOp a1)))), (5, .one (.ptr (4, 0) 0)), (6, .one (.ptr (8, 0) 0)), (7, .one (.d (.int .i64 n4179))), (10, .one (.ptr (641, 0) 0)), (11, .one (.ptr (642, 0) 0)), (12, .one (.ptr (656, 0) 0)), (127, .one (.d (.bool x4644)))]
                        [((4, 0), some (.box 26 [.d (.int .i64 r2281.Node), .d (.int .i64 r2281.State), .d (.int .i64 r2281.Steps), .d (.sl (List.map (eL eTMsg) r2281.In)), .d (.sl (List.map (eL eI) r2281.Out))])), ((8, 0), some (.box 33 [.d (.int .i64 m4180.Epoch), .d (.sl (List.map eB m4180.Open)), .d (.int .i64 m4180.P.Node), .d (.int .i64 m4180.P.State), .d (.int .i64 m4180.P.Steps), .d (.sl (List.map eI m4180.P.Sent)), .d (.sl (List.map (eL eTMsg) m4180.P.In)), .d (.sl (List.map (eL eI) m4180.P.Out))])), ((641, 0), some (.box 33 [.d (.int .i64 r4596.Epoch), .d (.sl (List.map eB r4596.Open)), .d (.int .i64 r4596.P.Node), .d (.int .i64 r4596.P.State), .d (.int .i64 r4596.P.Steps), .d (.sl (List.map eI r4596.P.Sent)), .d (.sl (List.map (eL eTMsg) r4596.P.In)), .d (.sl (List.map (eL eI) r4596.P.Out))])), ((642, 0), some (.box 33 [.d (.int .i64 r4598.Epoch), .d (.sl (List.map eB r4598.Open)), .d (.int .i64 r4598.P.Node), .d (.int .i64 r4598.P.State), .d (.int .i64 r4598.P.Steps), .d (.sl (List.map eI r4598.P.Sent)), .d (.sl (List.map (eL eTMsg) r4598.P.In)), .d (.sl (List.map (eL eI) r4598.P.Out))])), ((656, 0), some (.box 33 [.d (.int .i64 r4602.1.Epoch), .d (.sl (List.map eB r4602.1.Open)), .d (.int .i64 r4602.1.P.Node), .d (.int .i64 r4602.1.P.State), .d (.int .i64 r4602.1.P.Steps), .d (.sl (List.map eI r4602.1.P.Sent)), .d (.sl (List.map (eL eTMsg) r4602.1.P.In)), .d (.sl (List.map (eL eI) r4602.1.P.Out))]))]
                        (by simp only [EX, simprocAttr, Nat.blt, Nat.ble, hb4221, ha4443, hx4595a, hx4595b, hx4595c, hx4595d, hb4609, hb4637, hb4641, hx4645a, hx4645b, hx4645c, hx4645d] <;> rfl)
                      injection hE4636 with hE4636
                      exact ⟨x4644, hE4636, h⟩
                    · rw [if_neg hb4641] at hE4636
                      refine r_drawn ty_hm [] [none, none, none, none, none, none, none, some (some 106, true), some (some 106, true), some (some 106, true), some (some 106, true), some (some 106, true), some (some 106, true), some (some 106, true), some (some 106, true), some (some 106, true), none, none, some (some 117, true), some (some 117, true), some (some 117, true), some (some 117, true), some (some 117, true), some (some 117, true), some (some 117, true), some (some 117, true), some (some 117, true), none] [1, 5, 6, 7, 10, 11, 12, 127] [(4, 0), (8, 0), (641, 0), (642, 0), (656, 0)] h rfl (by simp only [EX, simprocAttr, Nat.blt, Nat.ble, tz_2, tz_3, tz_4, tz_22, tz_28, tz_33, tz_40, hb4221, ha4443, hb4609, hb4637, hb4641, hx4595a, hx4595b, hx4595c, hx4595d] <;> rfl) (by kernel_rfl) fun ac wd h => ?_
                      have h := h.same [1, 5, 6, 7, 10, 11, 12, 127] [(4, 0), (8, 0), (641, 0), (642, 0), (656, 0)] 692 [(1, .one (.d (.sl (List.map eTOp a1)))), (5, .one (.ptr (4, 0) 0)), (6, .one (.ptr (8, 0) 0)), (7, .one (.d (.int .i64 n4179))), (10, .one (.ptr (641, 0) 0)), (11, .one (.ptr (642, 0) 0)), (12, .one (.ptr (656, 0) 0)), (127, .one (.d (.bool false)))]
                        [((4, 0), some (.box 26 [.d (.int .i64 r2281.Node), .d (.int .i64 r2281.State), .d (.int .i64 r2281.Steps), .d (.sl (List.map (eL eTMsg) r2281.In)), .d (.sl (List.map (eL eI) r2281.Out))])), ((8, 0), some (.box 33 [.d (.int .i64 m4180.Epoch), .d (.sl (List.map eB m4180.Open)), .d (.int .i64 m4180.P.Node), .d (.int .i64 m4180.P.State), .d (.int .i64 m4180.P.Steps), .d (.sl (List.map eI m4180.P.Sent)), .d (.sl (List.map (eL eTMsg) m4180.P.In)), .d (.sl (List.map (eL eI) m4180.P.Out))])), ((641, 0), some (.box 33 [.d (.int .i64 r4596.Epoch), .d (.sl (List.map eB r4596.Open)), .d (.int .i64 r4596.P.Node), .d (.int .i64 r4596.P.State), .d (.int .i64 r4596.P.Steps), .d (.sl (List.map eI r4596.P.Sent)), .d (.sl (List.map (eL eTMsg) r4596.P.In)), .d (.sl (List.map (eL eI) r4596.P.Out))])), ((642, 0), some (.box 33 [.d (.int .i64 r4598.Epoch), .d (.sl (List.map eB r4598.Open)), .d (.int .i64 r4598.P.Node), .d (.int .i64 r4598.P.State), .d (.int .i64 r4598.P.Steps), .d (.sl (List.map eI r4598.P.Sent)), .d (.sl (List.map (eL eTMsg) r4598.P.In)), .d (.sl (List.map (eL eI) r4598.P.Out))])), ((656, 0), some (.box 33 [.d (.int .i64 r4602.1.Epoch), .d (.sl (List.map eB r4602.1.Open)), .d (.int .i64 r4602.1.P.Node), .d (.int .i64 r4602.1.P.State), .d (.int .i64 r4602.1.P.Steps), .d (.sl (List.map eI r4602.1.P.Sent)), .d (.sl (List.map (eL eTMsg) r4602.1.P.In)), .d (.sl (List.map (eL eI) r4602.1.P.Out))]))]
                        (by simp only [EX, simprocAttr, Nat.blt, Nat.ble, hb4221, ha4443, hx4595a, hx4595b, hx4595c, hx4595d, hb4609, hb4637, hb4641] <;> rfl)
                      injection hE4636 with hE4636
                      exact ⟨false, hE4636, h⟩
                  · rw [if_neg hb4637] at hE4636
                    refine r_drawn ty_hm [] [none, none, none, none, none, none, none, some (some 106, true), some (some 106, true), some (some 106, true), some (some 106, true), some (some 106, true), some (some 106, true), some (some 106, true), some (some 106, true), some (some 106, true), none, none, some (some 117, true), some (some 117, true), some (some 117, true), some (some 117, true), some (some 117, true), some (some 117, true), some (some 117, true), some (some 117, true), some (some 117, true), none] [1, 5, 6, 7, 10, 11, 12, 127] [(4, 0), (8, 0), (641, 0), (642, 0), (656, 0)] h rfl (by simp only [EX, simprocAttr, Nat.blt, Nat.ble, tz_2, tz_3, tz_4, tz_22, tz_28, tz_33, tz_40, hb4221, ha4443, hb4609, hb4637, hx4595a, hx4595b, hx4595c, hx4595d] <;> rfl) (by kernel_rfl) fun ac wd h => ?_
                    have h := h.same [1, 5, 6, 7, 10, 11, 12, 127] [(4, 0), (8, 0), (641, 0), (642, 0), (656, 0)] 692 [(1, .one (.d (.sl (List.map eTOp a1)))), (5, .one (.ptr (4, 0) 0)), (6, .one (.ptr (8, 0) 0)), (7, .one (.d (.int .i64 n4179))), (10, .one (.ptr (641, 0) 0)), (11, .one (.ptr (642, 0) 0)), (12, .one (.ptr (656, 0) 0)), (127, .one (.d (.bool false)))]
                      [((4, 0), some (.box 26 [.d (.int .i64 r2281.Node), .d (.int .i64 r2281.State), .d (.int .i64 r2281.Steps), .d (.sl (List.map (eL eTMsg) r2281.In)), .d (.sl (List.map (eL eI) r2281.Out))])), ((8, 0), some (.box 33 [.d (.int .i64 m4180.Epoch), .d (.sl (List.map eB m4180.Open)), .d (.int .i64 m4180.P.Node), .d (.int .i64 m4180.P.State), .d (.int .i64 m4180.P.Steps), .d (.sl (List.map eI m4180.P.Sent)), .d (.sl (List.map (eL eTMsg) m4180.P.In)), .d (.sl (List.map (eL eI) m4180.P.Out))])), ((641, 0), some (.box 33 [.d (.int .i64 r4596.Epoch), .d (.sl (List.map eB r4596.Open)), .d (.int .i64 r4596.P.Node), .d (.int .i64 r4596.P.State), .d (.int .i64 r4596.P.Steps), .d (.sl (List.map eI r4596.P.Sent)), .d (.sl (List.map (eL eTMsg) r4596.P.In)), .d (.sl (List.map (eL eI) r4596.P.Out))])), ((642, 0), some (.box 33 [.d (.int .i64 r4598.Epoch), .d (.sl (List.map eB r4598.Open)), .d (.int .i64 r4598.P.Node), .d (.int .i64 r4598.P.State), .d (.int .i64 r4598.P.Steps), .d (.sl (List.map eI r4598.P.Sent)), .d (.sl (List.map (eL eTMsg) r4598.P.In)), .d (.sl (List.map (eL eI) r4598.P.Out))])), ((656, 0), some (.box 33 [.d (.int .i64 r4602.1.Epoch), .d (.sl (List.map eB r4602.1.Open)), .d (.int .i64 r4602.1.P.Node), .d (.int .i64 r4602.1.P.State), .d (.int .i64 r4602.1.P.Steps), .d (.sl (List.map eI r4602.1.P.Sent)), .d (.sl (List.map (eL eTMsg) r4602.1.P.In)), .d (.sl (List.map (eL eI) r4602.1.P.Out))]))]
                      (by simp only [EX, simprocAttr, Nat.blt, Nat.ble, hb4221, ha4443, hx4595a, hx4595b, hx4595c, hx4595d, hb4609, hb4637] <;> rfl)
                    injection hE4636 with hE4636
                    exact ⟨false, hE4636, h⟩
                · skip
                  rintro ac wd ⟨b4634, rfl, h⟩
                  (try dsimp only at hE4439)
                  obtain ⟨e4683, hE4684, hE4439⟩ := Option.bind_eq_some_iff.1 hE4439
                  refine r_meet (fun ac wd => () = e4683 ∧ SL ⟨wb, S, Φ, P0⟩ 237 794 [(1, .one (.d (.sl (List.map eTOp a1)))), (5, .one (.ptr (4, 0) 0)), (6, .one (.ptr (8, 0) 0)), (7, .one (.d (.int .i64 n4179))), (10, .one (.ptr (641, 0) 0)), (12, .one (.ptr (656, 0) 0))] [((4, 0), some (.box 26 [.d (.int .i64 r2281.Node), .d (.int .i64 r2281.State), .d (.int .i64 r2281.Steps), .d (.sl (List.map (eL eTMsg) r2281.In)), .d (.sl (List.map (eL eI) r2281.Out))])), ((8, 0), some (.box 33 [.d (.int .i64 m4180.Epoch), .d (.sl (List.map eB m4180.Open)), .d (.int .i64 m4180.P.Node), .d (.int .i64 m4180.P.State), .d (.int .i64 m4180.P.Steps), .d (.sl (List.map eI m4180.P.Sent)), .d (.sl (List.map (eL eTMsg) m4180.P.In)), .d (.sl (List.map (eL eI) m4180.P.Out))])), ((641, 0), some (.box 33 [.d (.int .i64 r4596.Epoch), .d (.sl (List.map eB r4596.Open)), .d (.int .i64 r4596.P.Node), .d (.int .i64 r4596.P.State), .d (.int .i64 r4596.P.Steps), .d (.sl (List.map eI r4596.P.Sent)), .d (.sl (List.map (eL eTMsg) r4596.P.In)), .d (.sl (List.map (eL eI) r4596.P.Out))])), ((656, 0), some (.box 33 [.d (.int .i64 r4602.1.Epoch), .d (.sl (List.map eB r4602.1.Open)), .d (.int .i64 r4602.1.P.Node), .d (.int .i64 r4602.1.P.State), .d (.int .i64 r4602.1.P.Steps), .d (.sl (List.map eI r4602.1.P.Sent)), .d (.sl (List.map (eL eTMsg) r4602.1.P.In)), .d (.sl (List.map (eL eI) r4602.1.P.Out))]))] ac wd) ?_ ?_
                  · skip
                    by_cases hb4685 : b4634 = true
                    · rw [if_pos hb4685] at hE4684
                      refine r_condT h b4634 (by simp only [EX, simprocAttr, Nat.blt, Nat.ble, hb4221, ha4443, hb4609, hb4685] <;> rfl) (by first | rfl | (simp only [EX, simprocAttr, Nat.blt, Nat.ble, hb4221, ha4443, hb4609, hb4685] <;> rfl)) ?_
                      obtain ⟨x4704, hx4705, hE4684⟩ := Option.bind_eq_some_iff.1 hE4684
                      obtain ⟨hx4705a, hx4705b, hx4705c⟩ := at_some hx4705
                      have hx4705d := (List.getElem?_eq_some_iff.1 hx4705b).1
                      refine rs_drawn 704 ty_hm [] [none, none, none, none, none, none, none, none, none, none, none, none] [1, 5, 6, 7, 10, 11, 12, 14] [(4, 0), (8, 0), (641, 0), (642, 0), (656, 0)] h rfl rfl (by simp only [EX, simprocAttr, Nat.blt, Nat.ble, tz_2, tz_3, tz_4, tz_22, tz_23, tz_31, tz_33, tz_38, tz_40, tz_57, hb4221, ha4443, hb4609, hb4685, hx4595a, hx4595b, hx4595c, hx4595d, hx4705a, hx4705b, hx4705c, hx4705d] <;> rfl) (by kernel_rfl) fun ac wd h => ?_
                      by_cases hb4720 : (r4596.P.In.length : Int) = (m4180.P.In.length : Int)
                      · rw [if_pos hb4720] at hE4684
                        have hb4720t := eq_true hb4720
                        by_cases hb4721 : (r4598.P.In.length : Int) = (m4180.P.In.length : Int)
                        · rw [if_pos hb4721] at hE4684
                          have hb4721t := eq_true hb4721
                          obtain ⟨x4722, hx4723, hE4684⟩ := Option.bind_eq_some_iff.1 hE4684
                          obtain ⟨hx4723a, hx4723b, hx4723c⟩ := at_some hx4723
                          have hx4723d := (List.getElem?_eq_some_iff.1 hx4723b).1
                          by_cases hb4724 : (x4722.length : Int) = (IntKind.wrap .i64 ((x4704.length : Int) + 1))
                          · rw [if_pos hb4724] at hE4684
                            have hb4724t := eq_true hb4724
                            obtain ⟨x4725, hx4726, hE4684⟩ := Option.bind_eq_some_iff.1 hE4684
                            obtain ⟨hx4726a, hx4726b, hx4726c⟩ := at_some hx4726
                            replace hx4726b : x4722[x4704.length]? = some x4725 := hx4726b
                            have hx4726d := (List.getElem?_eq_some_iff.1 hx4726b).1
                            by_cases hb4727 : x4725 = x4594.M
                            · rw [if_pos hb4727] at hE4684
                              have hb4727t := eq_true hb4727
                              obtain ⟨x4728, hx4729, hE4684⟩ := Option.bind_eq_some_iff.1 hE4684
                              obtain ⟨hx4729a, hx4729b, hx4729c⟩ := at_some hx4729
                              have hx4729d := (List.getElem?_eq_some_iff.1 hx4729b).1
                              by_cases hb4730 : (x4728.length : Int) = (IntKind.wrap .i64 ((x4704.length : Int) + 1))
                              · rw [if_pos hb4730] at hE4684
                                have hb4730t := eq_true hb4730
                                obtain ⟨x4731, hx4732, hE4684⟩ := Option.bind_eq_some_iff.1 hE4684
                                obtain ⟨hx4732a, hx4732b, hx4732c⟩ := at_some hx4732
                                replace hx4732b : x4728[x4704.length]? = some x4731 := hx4732b
                                have hx4732d := (List.getElem?_eq_some_iff.1 hx4732b).1
                                refine rs_drawn 794 ty_hm [] [none, none, none, none, none, none, none, none, none, none, some (some 148, false), some (some 148, false), some (some 148, false), some (some 148, false), some (some 148, false), some (some 148, false), some (some 148, false), some (some 148, false), some (some 148, false), none, none, some (some 159, false), some (some 159, false), some (some 159, false), some (some 159, false), some (some 159, false), some (some 159, false), some (some 159, false), some (some 159, false), some (some 159, false), some (some 159, false), some (some 159, false), some (some 159, false), some (some 159, false), some (some 159, false), none, none, some (some 175, false), some (some 175, false), some (some 175, false), some (some 175, false), some (some 175, false), some (some 175, false), some (some 175, false), some (some 175, false), some (some 175, false), some (some 175, false), some (some 175, false), some (some 175, false), some (some 175, false), some (some 175, false), some (some 175, false), some (some 175, false), some (some 175, false), some (some 175, false), some (some 175, false), none, none, some (some 196, false), some (some 196, false), some (some 196, false), some (some 196, false), some (some 196, false), some (some 196, false), some (some 196, false), some (some 196, false), some (some 196, false), some (some 196, false), some (some 196, false), some (some 196, false), some (some 196, false), some (some 196, false), none, none, some (some 212, false), some (some 212, false), some (some 212, false), some (some 212, false), some (some 212, false), some (some 212, false), some (some 212, false), some (some 212, false), some (some 212, false), some (some 212, false), some (some 212, false), some (some 212, false), some (some 212, false), some (some 212, false), some (some 212, false), none] [1, 5, 6, 7, 10, 12, 228] [(4, 0), (8, 0), (641, 0), (656, 0)] h rfl rfl (by simp (maxSteps := 10000000) only [EX, simprocAttr, Nat.blt, Nat.ble, tz_2, tz_3, tz_4, tz_22, tz_23, tz_31, tz_33, tz_38, tz_40, tz_57, hb4221, ha4443, hb4609, hb4685, hb4720t, hb4721t, hb4724t, hb4727t, hb4730t, hx4595a, hx4595b, hx4595c, hx4595d, hx4723a, hx4723b, hx4723c, hx4723d, hx4726a, hx4726b, hx4726c, hx4726d, eq_TMsg_vv, hx4729a, hx4729b, hx4729c, hx4729d, hx4732a, hx4732b, hx4732c, hx4732d] <;> rfl) (by kernel_rfl) fun ac wd h => ?_
                                by_cases hb4733 : x4731.Seq = 77
                                · rw [if_pos hb4733] at hE4684
                                  have hb4733t := eq_true hb4733
                                  refine r_condF h (!(decide (x4731.Seq = 77))) (by simp only [EX, simprocAttr, Nat.blt, Nat.ble, hb4221, ha4443, hb4609, hb4685, hb4720t, hb4721t, hb4724t, hb4727t, hb4730t, hb4733t] <;> rfl) (by first | rfl | (simp only [EX, simprocAttr, Nat.blt, Nat.ble, hb4221, ha4443, hb4609, hb4685, hb4720t, hb4721t, hb4724t, hb4727t, hb4730t, hb4733t] <;> rfl)) ?_
                                  refine wp_skip ?_
                                  have h := h.same [1, 5, 6, 7, 10, 12] [(4, 0), (8, 0), (641, 0), (656, 0)] 794 [(1, .one (.d (.sl (List.map eTOp a1)))), (5, .one (.ptr (4, 0) 0)), (6, .one (.ptr (8, 0) 0)), (7, .one (.d (.int .i64 n4179))), (10, .one (.ptr (641, 0) 0)), (12, .one (.ptr (656, 0) 0))]
                                    [((4, 0), some (.box 26 [.d (.int .i64 r2281.Node), .d (.int .i64 r2281.State), .d (.int .i64 r2281.Steps), .d (.sl (List.map (eL eTMsg) r2281.In)), .d (.sl (List.map (eL eI) r2281.Out))])), ((8, 0), some (.box 33 [.d (.int .i64 m4180.Epoch), .d (.sl (List.map eB m4180.Open)), .d (.int .i64 m4180.P.Node), .d (.int .i64 m4180.P.State), .d (.int .i64 m4180.P.Steps), .d (.sl (List.map eI m4180.P.Sent)), .d (.sl (List.map (eL eTMsg) m4180.P.In)), .d (.sl (List.map (eL eI) m4180.P.Out))])), ((641, 0), some (.box 33 [.d (.int .i64 r4596.Epoch), .d (.sl (List.map eB r4596.Open)), .d (.int .i64 r4596.P.Node), .d (.int .i64 r4596.P.State), .d (.int .i64 r4596.P.Steps), .d (.sl (List.map eI r4596.P.Sent)), .d (.sl (List.map (eL eTMsg) r4596.P.In)), .d (.sl (List.map (eL eI) r4596.P.Out))])), ((656, 0), some (.box 33 [.d (.int .i64 r4602.1.Epoch), .d (.sl (List.map eB r4602.1.Open)), .d (.int .i64 r4602.1.P.Node), .d (.int .i64 r4602.1.P.State), .d (.int .i64 r4602.1.P.Steps), .d (.sl (List.map eI r4602.1.P.Sent)), .d (.sl (List.map (eL eTMsg) r4602.1.P.In)), .d (.sl (List.map (eL eI) r4602.1.P.Out))]))]
                                    (by simp only [EX, simprocAttr, Nat.blt, Nat.ble, hb4221, ha4443, hx4595a, hx4595b, hx4595c, hx4595d, hb4609, hb4685, hx4705a, hx4705b, hx4705c, hx4705d, hb4720t, hb4721t, hx4723a, hx4723b, hx4723c, hx4723d, hb4724t, hx4726a, hx4726b, hx4726c, hx4726d, hb4727t, hx4729a, hx4729b, hx4729c, hx4729d, hb4730t, hx4732a, hx4732b, hx4732c, hx4732d, hb4733t] <;> rfl)
                                  injection hE4684 with hE4684
                                  exact ⟨hE4684, h⟩
                                · rw [if_neg hb4733] at hE4684; cases hE4684
                              · rw [if_neg hb4730] at hE4684; cases hE4684
                            · rw [if_neg hb4727] at hE4684; cases hE4684
                          · rw [if_neg hb4724] at hE4684; cases hE4684
                        · rw [if_neg hb4721] at hE4684; cases hE4684
                      · rw [if_neg hb4720] at hE4684; cases hE4684
                    · rw [if_neg hb4685] at hE4684
                      have hb4685n := eq_false_of_ne_true hb4685
                      refine r_condF h b4634 (by simp only [EX, simprocAttr, Nat.blt, Nat.ble, hb4221, ha4443, hb4609, hb4685n] <;> rfl) (by first | rfl | (simp only [EX, simprocAttr, Nat.blt, Nat.ble, hb4221, ha4443, hb4609, hb4685n] <;> rfl)) ?_
                      refine wp_skip ?_
                      have h := h.same [1, 5, 6, 7, 10, 12] [(4, 0), (8, 0), (641, 0), (656, 0)] 794 [(1, .one (.d (.sl (List.map eTOp a1)))), (5, .one (.ptr (4, 0) 0)), (6, .one (.ptr (8, 0) 0)), (7, .one (.d (.int .i64 n4179))), (10, .one (.ptr (641, 0) 0)), (12, .one (.ptr (656, 0) 0))]
                        [((4, 0), some (.box 26 [.d (.int .i64 r2281.Node), .d (.int .i64 r2281.State), .d (.int .i64 r2281.Steps), .d (.sl (List.map (eL eTMsg) r2281.In)), .d (.sl (List.map (eL eI) r2281.Out))])), ((8, 0), some (.box 33 [.d (.int .i64 m4180.Epoch), .d (.sl (List.map eB m4180.Open)), .d (.int .i64 m4180.P.Node), .d (.int .i64 m4180.P.State), .d (.int .i64 m4180.P.Steps), .d (.sl (List.map eI m4180.P.Sent)), .d (.sl (List.map (eL eTMsg) m4180.P.In)), .d (.sl (List.map (eL eI) m4180.P.Out))])), ((641, 0), some (.box 33 [.d (.int .i64 r4596.Epoch), .d (.sl (List.map eB r4596.Open)), .d (.int .i64 r4596.P.Node), .d (.int .i64 r4596.P.State), .d (.int .i64 r4596.P.Steps), .d (.sl (List.map eI r4596.P.Sent)), .d (.sl (List.map (eL eTMsg) r4596.P.In)), .d (.sl (List.map (eL eI) r4596.P.Out))])), ((656, 0), some (.box 33 [.d (.int .i64 r4602.1.Epoch), .d (.sl (List.map eB r4602.1.Open)), .d (.int .i64 r4602.1.P.Node), .d (.int .i64 r4602.1.P.State), .d (.int .i64 r4602.1.P.Steps), .d (.sl (List.map eI r4602.1.P.Sent)), .d (.sl (List.map (eL eTMsg) r4602.1.P.In)), .d (.sl (List.map (eL eI) r4602.1.P.Out))]))]
                        (by simp only [EX, simprocAttr, Nat.blt, Nat.ble, hb4221, ha4443, hx4595a, hx4595b, hx4595c, hx4595d, hb4609, hb4685n] <;> rfl)
                      injection hE4684 with hE4684
                      exact ⟨hE4684, h⟩
                  · skip
                    rintro ac wd ⟨rfl, h⟩
                    (try dsimp only at hE4439)
                    refine rs_plain 796 [] [none, none] [1, 5, 6, 7, 12] [(4, 0), (8, 0), (656, 0)] h rfl rfl (by simp only [EX, simprocAttr, Nat.blt, Nat.ble, tz_33, hb4221, ha4443, hb4609] <;> rfl) fun ac wd h => ?_
                    refine rs_plain 801 [] [none, none, none, none, none] [1, 5, 6, 7, 12, 234] [(4, 0), (8, 0), (656, 0)] h rfl rfl (by simp only [EX, simprocAttr, Nat.blt, Nat.ble, tz_3, tz_4, tz_22, tz_40, hb4221, ha4443, hb4609, hx4595a, hx4595b, hx4595c, hx4595d] <;> rfl) fun ac wd h => ?_
                    by_cases hb4734 : x4594.Marker = true
                    · rw [if_pos hb4734] at hE4439
                      refine r_condT h x4594.Marker (by simp only [EX, simprocAttr, Nat.blt, Nat.ble, hb4221, ha4443, hb4609, hb4734] <;> rfl) (by first | rfl | (simp only [EX, simprocAttr, Nat.blt, Nat.ble, hb4221, ha4443, hb4609, hb4734] <;> rfl)) ?_
                      refine r_plain [] [none, none] [1, 5, 6, 7] [(4, 0), (8, 0)] h rfl (by simp only [EX, simprocAttr, Nat.blt, Nat.ble, tz_33, hb4221, ha4443, hb4609, hb4734] <;> rfl) fun ac wd h => ?_
                      have h := h.same [1, 5, 6, 7] [(4, 0), (8, 0)] 803 [(1, .one (.d (.sl (List.map eTOp a1)))), (5, .one (.ptr (4, 0) 0)), (6, .one (.ptr (8, 0) 0)), (7, .one (.d (.int .i64 n4179)))]
                        [((4, 0), some (.box 26 [.d (.int .i64 r2281.Node), .d (.int .i64 r2281.State), .d (.int .i64 r2281.Steps), .d (.sl (List.map (eL eTMsg) r2281.In)), .d (.sl (List.map (eL eI) r2281.Out))])), ((8, 0), some (.box 33 [.d (.int .i64 r4602.1.Epoch), .d (.sl (List.map eB r4602.1.Open)), .d (.int .i64 r4602.1.P.Node), .d (.int .i64 r4602.1.P.State), .d (.int .i64 r4602.1.P.Steps), .d (.sl (List.map eI r4602.1.P.Sent)), .d (.sl (List.map (eL eTMsg) r4602.1.P.In)), .d (.sl (List.map (eL eI) r4602.1.P.Out))]))]
                        (by simp only [EX, simprocAttr, Nat.blt, Nat.ble, hb4221, ha4443, hx4595a, hx4595b, hx4595c, hx4595d, hb4609, hb4734] <;> rfl)
                      injection hE4439 with hE4439
                      exact ⟨r4602.1, hE4439, h⟩
                    · rw [if_neg hb4734] at hE4439
                      have hb4734n := eq_false_of_ne_true hb4734
                      refine r_condF h x4594.Marker (by simp only [EX, simprocAttr, Nat.blt, Nat.ble, hb4221, ha4443, hb4609, hb4734n] <;> rfl) (by first | rfl | (simp only [EX, simprocAttr, Nat.blt, Nat.ble, hb4221, ha4443, hb4609, hb4734n] <;> rfl)) ?_
                      refine wp_skip ?_
                      have h := h.same [1, 5, 6, 7] [(4, 0), (8, 0)] 803 [(1, .one (.d (.sl (List.map eTOp a1)))), (5, .one (.ptr (4, 0) 0)), (6, .one (.ptr (8, 0) 0)), (7, .one (.d (.int .i64 n4179)))]
                        [((4, 0), some (.box 26 [.d (.int .i64 r2281.Node), .d (.int .i64 r2281.State), .d (.int .i64 r2281.Steps), .d (.sl (List.map (eL eTMsg) r2281.In)), .d (.sl (List.map (eL eI) r2281.Out))])), ((8, 0), some (.box 33 [.d (.int .i64 r4596.Epoch), .d (.sl (List.map eB r4596.Open)), .d (.int .i64 r4596.P.Node), .d (.int .i64 r4596.P.State), .d (.int .i64 r4596.P.Steps), .d (.sl (List.map eI r4596.P.Sent)), .d (.sl (List.map (eL eTMsg) r4596.P.In)), .d (.sl (List.map (eL eI) r4596.P.Out))]))]
                        (by simp only [EX, simprocAttr, Nat.blt, Nat.ble, hb4221, ha4443, hx4595a, hx4595b, hx4595c, hx4595d, hb4609, hb4734n] <;> rfl)
                      injection hE4439 with hE4439
                      exact ⟨r4596, hE4439, h⟩
              · rw [if_neg hb4609] at hE4439; cases hE4439
          · skip
            rintro ac wd ⟨m4437, rfl, h⟩
            (try dsimp only at hL4181)
            refine r_plain [] [none, none, none] [1, 5, 6, 7] [(4, 0), (8, 0)] h rfl (by simp only [EX, simprocAttr, Nat.blt, Nat.ble, tz_3, hb4221] <;> rfl) fun ac wd h => ?_
            have h := h.same [1, 5, 6, 7] [(4, 0), (8, 0)] 541 [(1, .one (.d (.sl (List.map eTOp a1)))), (5, .one (.ptr (4, 0) 0)), (6, .one (.ptr (8, 0) 0)), (7, .one (.d (.int .i64 (IntKind.wrap .i64 (n4179 + 1)))))]
              [((4, 0), some (.box 26 [.d (.int .i64 r2281.Node), .d (.int .i64 r2281.State), .d (.int .i64 r2281.Steps), .d (.sl (List.map (eL eTMsg) r2281.In)), .d (.sl (List.map (eL eI) r2281.Out))])), ((8, 0), some (.box 33 [.d (.int .i64 m4437.Epoch), .d (.sl (List.map eB m4437.Open)), .d (.int .i64 m4437.P.Node), .d (.int .i64 m4437.P.State), .d (.int .i64 m4437.P.Steps), .d (.sl (List.map eI m4437.P.Sent)), .d (.sl (List.map (eL eTMsg) m4437.P.In)), .d (.sl (List.map (eL eI) m4437.P.Out))]))]
              (by simp only [EX, simprocAttr, Nat.blt, Nat.ble, hb4221] <;> rfl)
            change ∃ n', _ ∧ _
            exact ⟨nf, Nat.lt_succ_self nf, (IntKind.wrap .i64 (n4179 + 1)), m4437, hL4181, h⟩
        · rw [if_neg hb4221] at hL4181
          have hb4221n := eq_false_of_ne_true hb4221
          refine r_condF h b4216 (by simp only [EX, simprocAttr, Nat.blt, Nat.ble, hb4221n] <;> rfl) (by first | rfl | (simp only [EX, simprocAttr, Nat.blt, Nat.ble, hb4221n] <;> rfl)) ?_
          refine wp_exit ?_
          have h := h.same [] [] 549 []
            []
            (by simp only [EX, simprocAttr, Nat.blt, Nat.ble, hb4221n] <;> rfl)
          injection hL4181 with hL4181
          exact ⟨hL4181, h⟩
  · skip
    rintro ac wd ⟨rfl, h⟩
    (try dsimp only at hD)
    obtain ⟨r4737, hc4738, hD⟩ := Option.bind_eq_some_iff.1 hD
    have hc4738k := L_law10_fixed_ok hc4738
    refine rs_plain 551 [factE 549 hc4738k] [none, none] [4] [] h rfl rfl (by simp only [EX, simprocAttr, Nat.blt, Nat.ble, tz_4] <;> rfl) fun ac wd h => ?_
    refine wp_ret ?_
    injection hD with hD
    subst hD
    exact r_retE rfl h [.tmp 4] rfl (by simp only [retD, List.mapM_cons, List.mapM_nil, Option.bind_eq_bind, Option.pure_def, EX, simprocAttr, Nat.blt, Nat.ble] <;> rfl)

end Go.Proofs.Ytkjihlonnhfidaa
