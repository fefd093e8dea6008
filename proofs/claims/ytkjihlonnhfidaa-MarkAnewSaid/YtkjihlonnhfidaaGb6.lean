/- Functions as typed ones, and that the program's functions answer as these do. No condition. -/
import Derived.Test.YtkjihlonnhfidaaGb3
set_option linter.unusedSimpArgs false
set_option linter.unusedVariables false
namespace Go.Proofs.Ytkjihlonnhfidaa
open Go.RowKit

set_option maxRecDepth 20000 in
set_option maxHeartbeats 4000000 in
theorem L_law10_MarkAnew_ok {a0 : Int} {a1 : (List TOp)} {a2 : Int} {r : Bool} (hD : L_law10_MarkAnew a0 a1 a2 = some r) :
    CallH Try.prog 8 [.one (.d (.int .u8 a0)), .one (.d (.sl (List.map eTOp a1))), .one (.d (.int .i64 a2))] []
      (.one (.d (.bool r))) [] := by
  unfold L_law10_MarkAnew at hD
  refine r_call Try.func8 rfl Try.ntmps8 (by kernel_rfl) (by rfl) (by rfl) (by simp) fun S Φ P0 wb ac h => ?_
  refine rs_plain 2 [] [none] [0, 1, 2] [] h rfl rfl (by simp only [EX, simprocAttr, Nat.blt, Nat.ble, tz_4] <;> rfl) fun ac wd h => ?_
  obtain ⟨r381, hc382, hD⟩ := Option.bind_eq_some_iff.1 hD
  have hc382k := L_law10_ends_ok hc382
  refine rs_plain 6 [factE 3 hc382k] [none, none, none, none] [1, 2, 7] [(4, 0)] h rfl rfl (by simp only [EX, simprocAttr, Nat.blt, Nat.ble, tz_5, tz_26] <;> rfl) fun ac wd h => ?_
  refine rs_plain 10 [] [none, none, none, none] [1, 2, 7, 8] [(4, 0)] h rfl rfl (by simp only [EX, simprocAttr, Nat.blt, Nat.ble, tz_3, tz_23, tz_26, tz_38, tz_57] <;> rfl) fun ac wd h => ?_
  obtain ⟨r385, hc386, hD⟩ := Option.bind_eq_some_iff.1 hD
  have hc386k := L_mark_Begin_ok hc386
  refine rs_plain 14 [factE 11 hc386k] [none, none, none, none] [1, 2, 7, 8, 9] [(4, 0), (12, 0)] h rfl rfl (by simp only [EX, simprocAttr, Nat.blt, Nat.ble, tz_3, tz_26, tz_33] <;> rfl) fun ac wd h => ?_
  refine wp_seq ?_
  refine rs_plain 15 [] [none] [1, 2, 7, 8, 9, 10] [(4, 0), (12, 0)] h rfl rfl (by simp only [EX, simprocAttr, Nat.blt, Nat.ble, tz_3] <;> rfl) fun ac wd h => ?_
  obtain ⟨e463, hE464, hD⟩ := Option.bind_eq_some_iff.1 hD
  refine r_meet (fun ac wd => ∃ (m462 : TMark), m462 = e463 ∧ SL ⟨wb, S, Φ, P0⟩ 130 71 [(2, .one (.d (.int .i64 a2))), (7, .one (.ptr (4, 0) 0)), (8, .one (.d (.int .i64 (r381.In.length : Int)))), (9, .one (.ptr (12, 0) 0))] [((4, 0), some (.box 26 [.d (.int .i64 r381.Node), .d (.int .i64 r381.State), .d (.int .i64 r381.Steps), .d (.sl (List.map (eL eTMsg) r381.In)), .d (.sl (List.map (eL eI) r381.Out))])), ((12, 0), some (.box 33 [.d (.int .i64 m462.Epoch), .d (.sl (List.map eB m462.Open)), .d (.int .i64 m462.P.Node), .d (.int .i64 m462.P.State), .d (.int .i64 m462.P.Steps), .d (.sl (List.map eI m462.P.Sent)), .d (.sl (List.map (eL eTMsg) m462.P.In)), .d (.sl (List.map (eL eI) m462.P.Out))]))] ac wd) ?_ ?_
  · skip
    refine wp_block ?_
    have h := h.same [1, 2, 7, 8, 9, 10] [(4, 0), (12, 0)] 63 [(1, .one (.d (.sl (List.map eTOp a1)))), (2, .one (.d (.int .i64 a2))), (7, .one (.ptr (4, 0) 0)), (8, .one (.d (.int .i64 (r381.In.length : Int)))), (9, .one (.ptr (12, 0) 0)), (10, .one (.d (.int .i64 0)))]
      [((4, 0), some (.box 26 [.d (.int .i64 r381.Node), .d (.int .i64 r381.State), .d (.int .i64 r381.Steps), .d (.sl (List.map (eL eTMsg) r381.In)), .d (.sl (List.map (eL eI) r381.Out))])), ((12, 0), some (.box 33 [.d (.int .i64 r385.Epoch), .d (.sl (List.map eB r385.Open)), .d (.int .i64 r385.P.Node), .d (.int .i64 r385.P.State), .d (.int .i64 r385.P.Steps), .d (.sl (List.map eI r385.P.Sent)), .d (.sl (List.map (eL eTMsg) r385.P.In)), .d (.sl (List.map (eL eI) r385.P.Out))]))]
      (by simp only [EX, simprocAttr, Nat.blt, Nat.ble] <;> rfl)
    refine r_while (fun nf ac wd => ∃ (n497 : Int) (m498 : TMark), L_law10_MarkAnew_l1 a1 nf n497 m498 = some e463 ∧ SL ⟨wb, S, Φ, P0⟩ 130 63 [(1, .one (.d (.sl (List.map eTOp a1)))), (2, .one (.d (.int .i64 a2))), (7, .one (.ptr (4, 0) 0)), (8, .one (.d (.int .i64 (r381.In.length : Int)))), (9, .one (.ptr (12, 0) 0)), (10, .one (.d (.int .i64 n497)))] [((4, 0), some (.box 26 [.d (.int .i64 r381.Node), .d (.int .i64 r381.State), .d (.int .i64 r381.Steps), .d (.sl (List.map (eL eTMsg) r381.In)), .d (.sl (List.map (eL eI) r381.Out))])), ((12, 0), some (.box 33 [.d (.int .i64 m498.Epoch), .d (.sl (List.map eB m498.Open)), .d (.int .i64 m498.P.Node), .d (.int .i64 m498.P.State), .d (.int .i64 m498.P.Steps), .d (.sl (List.map eI m498.P.Sent)), .d (.sl (List.map (eL eTMsg) m498.P.In)), .d (.sl (List.map (eL eI) m498.P.Out))]))] ac wd) (((a1.length : Int) - 0).toNat + 1) ⟨0, r385, hE464, h⟩ (fun nf ac wd hJ => ?_)
    obtain ⟨n497, m498, hL499, h⟩ := hJ
    cases nf with
    | zero => rw [L_law10_MarkAnew_l1] at hL499; cases hL499
    | succ nf =>
      rw [L_law10_MarkAnew_l1] at hL499
      refine wp_seq ?_
      obtain ⟨e507, hE508, hL499⟩ := Option.bind_eq_some_iff.1 hL499
      refine r_seqJ (fun ac wd => ∃ (b506 : Bool), b506 = e507 ∧ SL ⟨wb, S, Φ, P0⟩ 130 71 [(1, .one (.d (.sl (List.map eTOp a1)))), (2, .one (.d (.int .i64 a2))), (7, .one (.ptr (4, 0) 0)), (8, .one (.d (.int .i64 (r381.In.length : Int)))), (9, .one (.ptr (12, 0) 0)), (10, .one (.d (.int .i64 n497))), (28, .one (.d (.bool b506)))] [((4, 0), some (.box 26 [.d (.int .i64 r381.Node), .d (.int .i64 r381.State), .d (.int .i64 r381.Steps), .d (.sl (List.map (eL eTMsg) r381.In)), .d (.sl (List.map (eL eI) r381.Out))])), ((12, 0), some (.box 33 [.d (.int .i64 m498.Epoch), .d (.sl (List.map eB m498.Open)), .d (.int .i64 m498.P.Node), .d (.int .i64 m498.P.State), .d (.int .i64 m498.P.Steps), .d (.sl (List.map eI m498.P.Sent)), .d (.sl (List.map (eL eTMsg) m498.P.In)), .d (.sl (List.map (eL eI) m498.P.Out))]))] ac wd) ?_ ?_
      · skip
        by_cases hb509 : n497 < (a1.length : Int)
        · rw [if_pos hb509] at hE508
          refine r_plain [] [none, none, none, none, none, some (some 25, true), some (some 25, true), none] [1, 2, 7, 8, 9, 10, 28] [(4, 0), (12, 0)] h rfl (by simp only [EX, simprocAttr, Nat.blt, Nat.ble, tz_3, tz_4, tz_22, tz_40, hb509] <;> rfl) fun ac wd h => ?_
          have h := h.same [1, 2, 7, 8, 9, 10, 28] [(4, 0), (12, 0)] 71 [(1, .one (.d (.sl (List.map eTOp a1)))), (2, .one (.d (.int .i64 a2))), (7, .one (.ptr (4, 0) 0)), (8, .one (.d (.int .i64 (r381.In.length : Int)))), (9, .one (.ptr (12, 0) 0)), (10, .one (.d (.int .i64 n497))), (28, .one (.d (.bool (decide (n497 < 20)))))]
            [((4, 0), some (.box 26 [.d (.int .i64 r381.Node), .d (.int .i64 r381.State), .d (.int .i64 r381.Steps), .d (.sl (List.map (eL eTMsg) r381.In)), .d (.sl (List.map (eL eI) r381.Out))])), ((12, 0), some (.box 33 [.d (.int .i64 m498.Epoch), .d (.sl (List.map eB m498.Open)), .d (.int .i64 m498.P.Node), .d (.int .i64 m498.P.State), .d (.int .i64 m498.P.Steps), .d (.sl (List.map eI m498.P.Sent)), .d (.sl (List.map (eL eTMsg) m498.P.In)), .d (.sl (List.map (eL eI) m498.P.Out))]))]
            (by simp only [EX, simprocAttr, Nat.blt, Nat.ble, hb509] <;> rfl)
          injection hE508 with hE508
          exact ⟨decide (n497 < 20), hE508, h⟩
        · rw [if_neg hb509] at hE508
          refine r_plain [] [none, none, none, none, none, some (some 25, true), some (some 25, true), none] [1, 2, 7, 8, 9, 10, 28] [(4, 0), (12, 0)] h rfl (by simp only [EX, simprocAttr, Nat.blt, Nat.ble, tz_3, tz_4, tz_22, tz_40, hb509] <;> rfl) fun ac wd h => ?_
          have h := h.same [1, 2, 7, 8, 9, 10, 28] [(4, 0), (12, 0)] 71 [(1, .one (.d (.sl (List.map eTOp a1)))), (2, .one (.d (.int .i64 a2))), (7, .one (.ptr (4, 0) 0)), (8, .one (.d (.int .i64 (r381.In.length : Int)))), (9, .one (.ptr (12, 0) 0)), (10, .one (.d (.int .i64 n497))), (28, .one (.d (.bool false)))]
            [((4, 0), some (.box 26 [.d (.int .i64 r381.Node), .d (.int .i64 r381.State), .d (.int .i64 r381.Steps), .d (.sl (List.map (eL eTMsg) r381.In)), .d (.sl (List.map (eL eI) r381.Out))])), ((12, 0), some (.box 33 [.d (.int .i64 m498.Epoch), .d (.sl (List.map eB m498.Open)), .d (.int .i64 m498.P.Node), .d (.int .i64 m498.P.State), .d (.int .i64 m498.P.Steps), .d (.sl (List.map eI m498.P.Sent)), .d (.sl (List.map (eL eTMsg) m498.P.In)), .d (.sl (List.map (eL eI) m498.P.Out))]))]
            (by simp only [EX, simprocAttr, Nat.blt, Nat.ble, hb509] <;> rfl)
          injection hE508 with hE508
          exact ⟨false, hE508, h⟩
      · skip
        rintro ac wd ⟨b506, rfl, h⟩
        (try dsimp only at hL499)
        by_cases hb511 : b506 = true
        · rw [if_pos hb511] at hL499
          refine r_condT h b506 (by simp only [EX, simprocAttr, Nat.blt, Nat.ble, hb511] <;> rfl) (by first | rfl | (simp only [EX, simprocAttr, Nat.blt, Nat.ble, hb511] <;> rfl)) ?_
          refine wp_skip ?_
          change Code.wp Try.prog _ _ _ _
          refine wp_seq ?_
          refine wp_block ?_
          obtain ⟨x520, hx521, hL499⟩ := Option.bind_eq_some_iff.1 hL499
          obtain ⟨hx521a, hx521b, hx521c⟩ := at_some hx521
          have hx521d := (List.getElem?_eq_some_iff.1 hx521b).1
          obtain ⟨r522, hc523, hL499⟩ := Option.bind_eq_some_iff.1 hL499
          have hc523k := L_mark_App_ok hc523
          refine r_drawn ty_hm [factE 82 hc523k] [none, none, none, none, none, none, none, none, none, none, none, none, none] [1, 2, 7, 8, 9, 10] [(4, 0), (12, 0)] h rfl (by simp only [EX, simprocAttr, Nat.blt, Nat.ble, tz_2, tz_3, tz_22, tz_33, tz_38, tz_40, hb511, hx521a, hx521b, hx521c, hx521d] <;> rfl) (by kernel_rfl) fun ac wd h => ?_
          change Code.wp Try.prog _ _ _ _
          refine r_plain [] [none, none, none] [1, 2, 7, 8, 9, 10] [(4, 0), (12, 0)] h rfl (by simp only [EX, simprocAttr, Nat.blt, Nat.ble, tz_3, hb511] <;> rfl) fun ac wd h => ?_
          have h := h.same [1, 2, 7, 8, 9, 10] [(4, 0), (12, 0)] 63 [(1, .one (.d (.sl (List.map eTOp a1)))), (2, .one (.d (.int .i64 a2))), (7, .one (.ptr (4, 0) 0)), (8, .one (.d (.int .i64 (r381.In.length : Int)))), (9, .one (.ptr (12, 0) 0)), (10, .one (.d (.int .i64 (IntKind.wrap .i64 (n497 + 1)))))]
            [((4, 0), some (.box 26 [.d (.int .i64 r381.Node), .d (.int .i64 r381.State), .d (.int .i64 r381.Steps), .d (.sl (List.map (eL eTMsg) r381.In)), .d (.sl (List.map (eL eI) r381.Out))])), ((12, 0), some (.box 33 [.d (.int .i64 r522.Epoch), .d (.sl (List.map eB r522.Open)), .d (.int .i64 r522.P.Node), .d (.int .i64 r522.P.State), .d (.int .i64 r522.P.Steps), .d (.sl (List.map eI r522.P.Sent)), .d (.sl (List.map (eL eTMsg) r522.P.In)), .d (.sl (List.map (eL eI) r522.P.Out))]))]
            (by simp only [EX, simprocAttr, Nat.blt, Nat.ble, hb511, hx521a, hx521b, hx521c, hx521d] <;> rfl)
          change ∃ n', _ ∧ _
          exact ⟨nf, Nat.lt_succ_self nf, (IntKind.wrap .i64 (n497 + 1)), r522, hL499, h⟩
        · rw [if_neg hb511] at hL499
          have hb511n := eq_false_of_ne_true hb511
          refine r_condF h b506 (by simp only [EX, simprocAttr, Nat.blt, Nat.ble, hb511n] <;> rfl) (by first | rfl | (simp only [EX, simprocAttr, Nat.blt, Nat.ble, hb511n] <;> rfl)) ?_
          refine wp_exit ?_
          have h := h.same [2, 7, 8, 9] [(4, 0), (12, 0)] 71 [(2, .one (.d (.int .i64 a2))), (7, .one (.ptr (4, 0) 0)), (8, .one (.d (.int .i64 (r381.In.length : Int)))), (9, .one (.ptr (12, 0) 0))]
            [((4, 0), some (.box 26 [.d (.int .i64 r381.Node), .d (.int .i64 r381.State), .d (.int .i64 r381.Steps), .d (.sl (List.map (eL eTMsg) r381.In)), .d (.sl (List.map (eL eI) r381.Out))])), ((12, 0), some (.box 33 [.d (.int .i64 m498.Epoch), .d (.sl (List.map eB m498.Open)), .d (.int .i64 m498.P.Node), .d (.int .i64 m498.P.State), .d (.int .i64 m498.P.Steps), .d (.sl (List.map eI m498.P.Sent)), .d (.sl (List.map (eL eTMsg) m498.P.In)), .d (.sl (List.map (eL eI) m498.P.Out))]))]
            (by simp only [EX, simprocAttr, Nat.blt, Nat.ble, hb511n] <;> rfl)
          injection hL499 with hL499
          exact ⟨m498, hL499, h⟩
  · skip
    rintro ac wd ⟨m462, rfl, h⟩
    (try dsimp only at hD)
    refine rs_plain 73 [] [none, none] [2, 7, 8, 9] [(4, 0), (12, 0)] h rfl rfl (by simp only [EX, simprocAttr, Nat.blt, Nat.ble, tz_2, tz_3, tz_26] <;> rfl) fun ac wd h => ?_
    obtain ⟨r526, hc527, hD⟩ := Option.bind_eq_some_iff.1 hD
    have hc527k := L_mark_Marker_ok hc527
    refine rs_plain 83 [factE 76 hc527k] [none, none, none, none, none, none, none, none, none, none] [2, 8, 9, 11, 12] [(12, 0), (80, 0)] h rfl rfl (by simp only [EX, simprocAttr, Nat.blt, Nat.ble, tz_3, tz_4, tz_26, tz_33] <;> rfl) fun ac wd h => ?_
    refine wp_seq ?_
    obtain ⟨e551, hE552, hD⟩ := Option.bind_eq_some_iff.1 hD
    refine r_seqJ (fun ac wd => ∃ (b550 : Bool), b550 = e551 ∧ SL ⟨wb, S, Φ, P0⟩ 130 90 [(2, .one (.d (.int .i64 a2))), (8, .one (.d (.int .i64 (r381.In.length : Int)))), (9, .one (.ptr (12, 0) 0)), (11, .one (.ptr (80, 0) 0)), (12, .one (.d (.bool r526.2))), (57, .one (.d (.bool b550)))] [((12, 0), some (.box 33 [.d (.int .i64 m462.Epoch), .d (.sl (List.map eB m462.Open)), .d (.int .i64 m462.P.Node), .d (.int .i64 m462.P.State), .d (.int .i64 m462.P.Steps), .d (.sl (List.map eI m462.P.Sent)), .d (.sl (List.map (eL eTMsg) m462.P.In)), .d (.sl (List.map (eL eI) m462.P.Out))])), ((80, 0), some (.box 33 [.d (.int .i64 r526.1.Epoch), .d (.sl (List.map eB r526.1.Open)), .d (.int .i64 r526.1.P.Node), .d (.int .i64 r526.1.P.State), .d (.int .i64 r526.1.P.Steps), .d (.sl (List.map eI r526.1.P.Sent)), .d (.sl (List.map (eL eTMsg) r526.1.P.In)), .d (.sl (List.map (eL eI) r526.1.P.Out))]))] ac wd) ?_ ?_
    · skip
      by_cases hb553 : a2 < 0
      · rw [if_pos hb553] at hE552
        refine r_plain [] [none, none, none, some (some 53, false), some (some 53, false), some (some 53, false), none] [2, 8, 9, 11, 12, 57] [(12, 0), (80, 0)] h rfl (by simp only [EX, simprocAttr, Nat.blt, Nat.ble, tz_3, tz_4, hb553] <;> rfl) fun ac wd h => ?_
        have h := h.same [2, 8, 9, 11, 12, 57] [(12, 0), (80, 0)] 90 [(2, .one (.d (.int .i64 a2))), (8, .one (.d (.int .i64 (r381.In.length : Int)))), (9, .one (.ptr (12, 0) 0)), (11, .one (.ptr (80, 0) 0)), (12, .one (.d (.bool r526.2))), (57, .one (.d (.bool true)))]
          [((12, 0), some (.box 33 [.d (.int .i64 m462.Epoch), .d (.sl (List.map eB m462.Open)), .d (.int .i64 m462.P.Node), .d (.int .i64 m462.P.State), .d (.int .i64 m462.P.Steps), .d (.sl (List.map eI m462.P.Sent)), .d (.sl (List.map (eL eTMsg) m462.P.In)), .d (.sl (List.map (eL eI) m462.P.Out))])), ((80, 0), some (.box 33 [.d (.int .i64 r526.1.Epoch), .d (.sl (List.map eB r526.1.Open)), .d (.int .i64 r526.1.P.Node), .d (.int .i64 r526.1.P.State), .d (.int .i64 r526.1.P.Steps), .d (.sl (List.map eI r526.1.P.Sent)), .d (.sl (List.map (eL eTMsg) r526.1.P.In)), .d (.sl (List.map (eL eI) r526.1.P.Out))]))]
          (by simp only [EX, simprocAttr, Nat.blt, Nat.ble, hb553] <;> rfl)
        injection hE552 with hE552
        exact ⟨true, hE552, h⟩
      · rw [if_neg hb553] at hE552
        refine r_plain [] [none, none, none, some (some 53, false), some (some 53, false), some (some 53, false), none] [2, 8, 9, 11, 12, 57] [(12, 0), (80, 0)] h rfl (by simp only [EX, simprocAttr, Nat.blt, Nat.ble, tz_3, tz_4, hb553] <;> rfl) fun ac wd h => ?_
        have h := h.same [2, 8, 9, 11, 12, 57] [(12, 0), (80, 0)] 90 [(2, .one (.d (.int .i64 a2))), (8, .one (.d (.int .i64 (r381.In.length : Int)))), (9, .one (.ptr (12, 0) 0)), (11, .one (.ptr (80, 0) 0)), (12, .one (.d (.bool r526.2))), (57, .one (.d (.bool (decide (a2 ≥ (r381.In.length : Int))))))]
          [((12, 0), some (.box 33 [.d (.int .i64 m462.Epoch), .d (.sl (List.map eB m462.Open)), .d (.int .i64 m462.P.Node), .d (.int .i64 m462.P.State), .d (.int .i64 m462.P.Steps), .d (.sl (List.map eI m462.P.Sent)), .d (.sl (List.map (eL eTMsg) m462.P.In)), .d (.sl (List.map (eL eI) m462.P.Out))])), ((80, 0), some (.box 33 [.d (.int .i64 r526.1.Epoch), .d (.sl (List.map eB r526.1.Open)), .d (.int .i64 r526.1.P.Node), .d (.int .i64 r526.1.P.State), .d (.int .i64 r526.1.P.Steps), .d (.sl (List.map eI r526.1.P.Sent)), .d (.sl (List.map (eL eTMsg) r526.1.P.In)), .d (.sl (List.map (eL eI) r526.1.P.Out))]))]
          (by simp only [EX, simprocAttr, Nat.blt, Nat.ble, hb553] <;> rfl)
        injection hE552 with hE552
        exact ⟨decide (a2 ≥ (r381.In.length : Int)), hE552, h⟩
    · skip
      rintro ac wd ⟨b550, rfl, h⟩
      (try dsimp only at hD)
      by_cases hb578 : b550 = true
      · rw [if_pos hb578] at hD
        refine r_condT h b550 (by simp only [EX, simprocAttr, Nat.blt, Nat.ble, hb578] <;> rfl) (by first | rfl | (simp only [EX, simprocAttr, Nat.blt, Nat.ble, hb578] <;> rfl)) ?_
        by_cases hb673 : r526.2 = true
        · rw [if_pos hb673] at hD; cases hD
        · rw [if_neg hb673] at hD
          have hb673n := eq_false_of_ne_true hb673
          obtain ⟨r683, hc684, hD⟩ := Option.bind_eq_some_iff.1 hD
          obtain ⟨r685, hc686, hD⟩ := Option.bind_eq_some_iff.1 hD
          obtain ⟨r687, hc688, hD⟩ := Option.bind_eq_some_iff.1 hD
          by_cases hb689 : r687 = true
          · rw [if_pos hb689] at hD
            obtain ⟨r690, hc691, hD⟩ := Option.bind_eq_some_iff.1 hD
            have hc684k := L_law10_Ref_ok hc684
            have hc686k := L_law10_Ref_ok hc686
            have hc688k := L_ref10_Same_ok hc688
            have hc691k := L_law10_fixed_ok hc691
            refine rs_drawn 103 ty_hm [factE 94 hc684k, factE 96 hc686k, factE 97 hc688k, factE 100 hc691k] [none, none, none, some (some 60, true), some (some 60, true), some (some 60, true), some (some 60, true), some (some 60, true), none, none, some (some 67, true), none, none] [6] [] h rfl rfl (by simp only [EX, simprocAttr, Nat.blt, Nat.ble, tz_4, tz_33, tz_36, hb578, hb673n, hb689] <;> rfl) (by kernel_rfl) fun ac wd h => ?_
            refine wp_ret ?_
            injection hD with hD
            subst hD
            exact r_retE rfl h [.tmp 6] rfl (by simp only [retD, List.mapM_cons, List.mapM_nil, Option.bind_eq_bind, Option.pure_def, EX, simprocAttr, Nat.blt, Nat.ble, hb578, hb673n, hb689] <;> rfl)
          · rw [if_neg hb689] at hD; cases hD
      · rw [if_neg hb578] at hD
        have hb578n := eq_false_of_ne_true hb578
        refine r_condF h b550 (by simp only [EX, simprocAttr, Nat.blt, Nat.ble, hb578n] <;> rfl) (by first | rfl | (simp only [EX, simprocAttr, Nat.blt, Nat.ble, hb578n] <;> rfl)) ?_
        refine wp_skip ?_
        change Code.wp Try.prog _ _ _ _
        refine wp_seq ?_
        by_cases hb766 : r526.2 = true
        · rw [if_pos hb766] at hD
          by_cases hb767 : r526.1.Epoch = 2
          · rw [if_pos hb767] at hD
            have hb767t := eq_true hb767
            by_cases hb768 : (r526.1.Open.length : Int) = (r381.In.length : Int)
            · rw [if_pos hb768] at hD
              have hb768t := eq_true hb768
              by_cases hb769 : (r526.1.P.In.length : Int) = (r381.In.length : Int)
              · rw [if_pos hb769] at hD
                have hb769t := eq_true hb769
                refine rs_plain 118 [] [none, none, none, some (some 72, false), some (some 72, false), some (some 72, false), none, none, some (some 77, false), some (some 77, false), some (some 77, false), some (some 77, false), some (some 77, false), none, none, some (some 84, false), some (some 84, false), some (some 84, false), some (some 84, false), some (some 84, false), some (some 84, false), none, none, some (some 92, false), some (some 92, false), some (some 92, false), some (some 92, false), none] [2, 8, 11, 97] [(80, 0)] h rfl rfl (by simp only [EX, simprocAttr, Nat.blt, Nat.ble, tz_2, tz_3, tz_4, tz_23, tz_28, tz_31, tz_33, tz_38, tz_57, hb578n, hb766, hb767t, hb768t, hb769t] <;> rfl) fun ac wd h => ?_
                by_cases hb771 : r526.1.P.Steps = 8
                · rw [if_pos hb771] at hD
                  have hb771t := eq_true hb771
                  refine r_condF h (!(decide (r526.1.P.Steps = 8))) (by simp only [EX, simprocAttr, Nat.blt, Nat.ble, hb578n, hb766, hb767t, hb768t, hb769t, hb771t] <;> rfl) (by first | rfl | (simp only [EX, simprocAttr, Nat.blt, Nat.ble, hb578n, hb766, hb767t, hb768t, hb769t, hb771t] <;> rfl)) ?_
                  refine wp_skip ?_
                  change Code.wp Try.prog _ _ _ _
                  refine wp_seq ?_
                  refine rs_plain 119 [] [none] [2, 8, 11, 13] [(80, 0)] h rfl rfl (by simp only [EX, simprocAttr, Nat.blt, Nat.ble, tz_3, hb578n, hb766, hb767t, hb768t, hb769t, hb771t] <;> rfl) fun ac wd h => ?_
                  obtain ⟨e874, hE875, hD⟩ := Option.bind_eq_some_iff.1 hD
                  refine r_meet (fun ac wd => () = e874 ∧ SL ⟨wb, S, Φ, P0⟩ 130 172 [(8, .one (.d (.int .i64 (r381.In.length : Int)))), (11, .one (.ptr (80, 0) 0))] [((80, 0), some (.box 33 [.d (.int .i64 r526.1.Epoch), .d (.sl (List.map eB r526.1.Open)), .d (.int .i64 r526.1.P.Node), .d (.int .i64 r526.1.P.State), .d (.int .i64 r526.1.P.Steps), .d (.sl (List.map eI r526.1.P.Sent)), .d (.sl (List.map (eL eTMsg) r526.1.P.In)), .d (.sl (List.map (eL eI) r526.1.P.Out))]))] ac wd) ?_ ?_
                  · skip
                    refine wp_block ?_
                    have h := h.same [2, 8, 11, 13] [(80, 0)] 169 [(2, .one (.d (.int .i64 a2))), (8, .one (.d (.int .i64 (r381.In.length : Int)))), (11, .one (.ptr (80, 0) 0)), (13, .one (.d (.int .i64 0)))]
                      [((80, 0), some (.box 33 [.d (.int .i64 r526.1.Epoch), .d (.sl (List.map eB r526.1.Open)), .d (.int .i64 r526.1.P.Node), .d (.int .i64 r526.1.P.State), .d (.int .i64 r526.1.P.Steps), .d (.sl (List.map eI r526.1.P.Sent)), .d (.sl (List.map (eL eTMsg) r526.1.P.In)), .d (.sl (List.map (eL eI) r526.1.P.Out))]))]
                      (by simp only [EX, simprocAttr, Nat.blt, Nat.ble, hb578n, hb766, hb767t, hb768t, hb769t, hb771t] <;> rfl)
                    refine r_while (fun nf ac wd => ∃ (n937 : Int), L_law10_MarkAnew_l2 a2 r381 r526 nf n937 = some e874 ∧ SL ⟨wb, S, Φ, P0⟩ 130 169 [(2, .one (.d (.int .i64 a2))), (8, .one (.d (.int .i64 (r381.In.length : Int)))), (11, .one (.ptr (80, 0) 0)), (13, .one (.d (.int .i64 n937)))] [((80, 0), some (.box 33 [.d (.int .i64 r526.1.Epoch), .d (.sl (List.map eB r526.1.Open)), .d (.int .i64 r526.1.P.Node), .d (.int .i64 r526.1.P.State), .d (.int .i64 r526.1.P.Steps), .d (.sl (List.map eI r526.1.P.Sent)), .d (.sl (List.map (eL eTMsg) r526.1.P.In)), .d (.sl (List.map (eL eI) r526.1.P.Out))]))] ac wd) (((r381.In.length : Int) - 0).toNat + 1) ⟨0, hE875, h⟩ (fun nf ac wd hJ => ?_)
                    obtain ⟨n937, hL938, h⟩ := hJ
                    cases nf with
                    | zero => rw [L_law10_MarkAnew_l2] at hL938; cases hL938
                    | succ nf =>
                      rw [L_law10_MarkAnew_l2] at hL938
                      refine wp_seq ?_
                      refine rs_plain 172 [] [none, none, none] [2, 8, 11, 13, 100] [(80, 0)] h rfl rfl (by simp only [EX, simprocAttr, Nat.blt, Nat.ble, tz_3, tz_4, hb578n, hb766, hb767t, hb768t, hb769t, hb771t] <;> rfl) fun ac wd h => ?_
                      by_cases hb940 : n937 < (r381.In.length : Int)
                      · rw [if_pos hb940] at hL938
                        refine r_condT h (decide (n937 < (r381.In.length : Int))) (by simp only [EX, simprocAttr, Nat.blt, Nat.ble, hb578n, hb766, hb767t, hb768t, hb769t, hb771t, hb940] <;> rfl) (by first | rfl | (simp only [EX, simprocAttr, Nat.blt, Nat.ble, hb578n, hb766, hb767t, hb768t, hb769t, hb771t, hb940] <;> rfl)) ?_
                        refine wp_skip ?_
                        change Code.wp Try.prog _ _ _ _
                        refine wp_seq ?_
                        refine wp_block ?_
                        obtain ⟨x967, hx968, hL938⟩ := Option.bind_eq_some_iff.1 hL938
                        obtain ⟨hx968a, hx968b, hx968c⟩ := at_some hx968
                        have hx968d := (List.getElem?_eq_some_iff.1 hx968b).1
                        by_cases hb969 : x967 = (decide (n937 = a2))
                        · rw [if_pos hb969] at hL938; cases hL938
                        · rw [if_neg hb969] at hL938
                          obtain ⟨x973, hx974, hL938⟩ := Option.bind_eq_some_iff.1 hL938
                          obtain ⟨hx974a, hx974b, hx974c⟩ := at_some hx974
                          have hx974d := (List.getElem?_eq_some_iff.1 hx974b).1
                          refine rs_plain 191 [] [none, none, none, none, none, none, none, none, none, none, some (some 112, false), some (some 112, false), some (some 112, false), some (some 112, false), some (some 112, false), some (some 112, false), some (some 112, false), some (some 112, false), none] [2, 8, 11, 13, 121] [(80, 0)] h rfl rfl (by simp only [EX, simprocAttr, Nat.blt, Nat.ble, tz_2, tz_3, tz_4, tz_23, tz_28, tz_31, tz_33, tz_38, tz_57, hb578n, hb766, hb767t, hb768t, hb769t, hb771t, hb940, hb969, hx968a, hx968b, hx968c, hx968d, hx974a, hx974b, hx974c, hx974d] <;> rfl) fun ac wd h => ?_
                          by_cases hb975 : (x973.length : Int) = 0
                          · rw [if_pos hb975] at hL938
                            have hb975t := eq_true hb975
                            refine r_condF h (!(decide ((x973.length : Int) = 0))) (by simp only [EX, simprocAttr, Nat.blt, Nat.ble, hb578n, hb766, hb767t, hb768t, hb769t, hb771t, hb940, hb969, hb975t] <;> rfl) (by first | rfl | (simp only [EX, simprocAttr, Nat.blt, Nat.ble, hb578n, hb766, hb767t, hb768t, hb769t, hb771t, hb940, hb969, hb975t] <;> rfl)) ?_
                            refine wp_skip ?_
                            change Code.wp Try.prog _ _ _ _
                            refine r_plain [] [none, none, none] [2, 8, 11, 13] [(80, 0)] h rfl (by simp only [EX, simprocAttr, Nat.blt, Nat.ble, tz_3, hb578n, hb766, hb767t, hb768t, hb769t, hb771t, hb940, hb969, hb975t] <;> rfl) fun ac wd h => ?_
                            have h := h.same [2, 8, 11, 13] [(80, 0)] 169 [(2, .one (.d (.int .i64 a2))), (8, .one (.d (.int .i64 (r381.In.length : Int)))), (11, .one (.ptr (80, 0) 0)), (13, .one (.d (.int .i64 (IntKind.wrap .i64 (n937 + 1)))))]
                              [((80, 0), some (.box 33 [.d (.int .i64 r526.1.Epoch), .d (.sl (List.map eB r526.1.Open)), .d (.int .i64 r526.1.P.Node), .d (.int .i64 r526.1.P.State), .d (.int .i64 r526.1.P.Steps), .d (.sl (List.map eI r526.1.P.Sent)), .d (.sl (List.map (eL eTMsg) r526.1.P.In)), .d (.sl (List.map (eL eI) r526.1.P.Out))]))]
                              (by simp only [EX, simprocAttr, Nat.blt, Nat.ble, hb578n, hb766, hb767t, hb768t, hb769t, hb771t, hb940, hx968a, hx968b, hx968c, hx968d, hb969, hx974a, hx974b, hx974c, hx974d, hb975t] <;> rfl)
                            change ∃ n', _ ∧ _
                            exact ⟨nf, Nat.lt_succ_self nf, (IntKind.wrap .i64 (n937 + 1)), hL938, h⟩
                          · rw [if_neg hb975] at hL938; cases hL938
                      · rw [if_neg hb940] at hL938
                        refine r_condF h (decide (n937 < (r381.In.length : Int))) (by simp only [EX, simprocAttr, Nat.blt, Nat.ble, hb578n, hb766, hb767t, hb768t, hb769t, hb771t, hb940] <;> rfl) (by first | rfl | (simp only [EX, simprocAttr, Nat.blt, Nat.ble, hb578n, hb766, hb767t, hb768t, hb769t, hb771t, hb940] <;> rfl)) ?_
                        refine wp_exit ?_
                        have h := h.same [8, 11] [(80, 0)] 172 [(8, .one (.d (.int .i64 (r381.In.length : Int)))), (11, .one (.ptr (80, 0) 0))]
                          [((80, 0), some (.box 33 [.d (.int .i64 r526.1.Epoch), .d (.sl (List.map eB r526.1.Open)), .d (.int .i64 r526.1.P.Node), .d (.int .i64 r526.1.P.State), .d (.int .i64 r526.1.P.Steps), .d (.sl (List.map eI r526.1.P.Sent)), .d (.sl (List.map (eL eTMsg) r526.1.P.In)), .d (.sl (List.map (eL eI) r526.1.P.Out))]))]
                          (by simp only [EX, simprocAttr, Nat.blt, Nat.ble, hb578n, hb766, hb767t, hb768t, hb769t, hb771t, hb940] <;> rfl)
                        injection hL938 with hL938
                        exact ⟨hL938, h⟩
                  · skip
                    rintro ac wd ⟨rfl, h⟩
                    (try dsimp only at hD)
                    obtain ⟨r981, hc982, hD⟩ := Option.bind_eq_some_iff.1 hD
                    by_cases hb983 : r981 = (decide ((r381.In.length : Int) = 1))
                    · rw [if_pos hb983] at hD
                      have hb983t := eq_true hb983
                      obtain ⟨r984, hc985, hD⟩ := Option.bind_eq_some_iff.1 hD
                      have hc982k := L_mark_Done_ok hc982
                      have hc985k := L_law10_fixed_ok hc985
                      refine rs_plain 181 [factE 173 hc982k, factE 178 hc985k] [none, none, none, none, none, none, some (some 127, true), none, none] [6] [] h rfl rfl (by simp only [EX, simprocAttr, Nat.blt, Nat.ble, tz_3, tz_4, tz_33, hb578n, hb766, hb767t, hb768t, hb769t, hb771t, hb983t] <;> rfl) fun ac wd h => ?_
                      refine wp_ret ?_
                      injection hD with hD
                      subst hD
                      exact r_retE rfl h [.tmp 6] rfl (by simp only [retD, List.mapM_cons, List.mapM_nil, Option.bind_eq_bind, Option.pure_def, EX, simprocAttr, Nat.blt, Nat.ble, hb578n, hb766, hb767t, hb768t, hb769t, hb771t, hb983t] <;> rfl)
                    · rw [if_neg hb983] at hD; cases hD
                · rw [if_neg hb771] at hD; cases hD
              · rw [if_neg hb769] at hD; cases hD
            · rw [if_neg hb768] at hD; cases hD
          · rw [if_neg hb767] at hD; cases hD
        · rw [if_neg hb766] at hD; cases hD

end Go.Proofs.Ytkjihlonnhfidaa
