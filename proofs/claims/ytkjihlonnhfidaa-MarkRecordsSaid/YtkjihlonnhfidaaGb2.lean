/- Functions as typed ones, and that the program's functions answer as these do. No condition. -/
import Derived.Test.YtkjihlonnhfidaaGb1
set_option linter.unusedSimpArgs false
set_option linter.unusedVariables false
namespace Go.Proofs.Ytkjihlonnhfidaa
open Go.RowKit

set_option maxRecDepth 20000 in
set_option maxHeartbeats 4000000 in
theorem L_ref10_Marker_ok {a0 : TMark} {a1 : THost} {a2 : Int} {a3 : Int} {r : TMark × Bool} (hD : L_ref10_Marker a0 a1 a2 a3 = some r) :
    CallH Try.prog 11 [.agg [.d (.int .i64 a0.Epoch), .d (.sl (List.map eB a0.Open)), .d (.int .i64 a0.P.Node), .d (.int .i64 a0.P.State), .d (.int .i64 a0.P.Steps), .d (.sl (List.map eI a0.P.Sent)), .d (.sl (List.map (eL eTMsg) a0.P.In)), .d (.sl (List.map (eL eI) a0.P.Out))], .agg [.d (.int .i64 a1.Node), .d (.int .i64 a1.State), .d (.int .i64 a1.Steps), .d (.sl (List.map (eL eTMsg) a1.In)), .d (.sl (List.map (eL eI) a1.Out))], .one (.d (.int .i64 a2)), .one (.d (.int .i64 a3))] []
      (.tup [.inl [.d (.int .i64 r.1.Epoch), .d (.sl (List.map eB r.1.Open)), .d (.int .i64 r.1.P.Node), .d (.int .i64 r.1.P.State), .d (.int .i64 r.1.P.Steps), .d (.sl (List.map eI r.1.P.Sent)), .d (.sl (List.map (eL eTMsg) r.1.P.In)), .d (.sl (List.map (eL eI) r.1.P.Out))], .inr (.d (.bool r.2))]) [] := by
  unfold L_ref10_Marker at hD
  refine r_call Try.func11 rfl Try.ntmps11 (by kernel_rfl) (by rfl) (by rfl) (by simp) fun S Φ P0 wb ac h => ?_
  refine rs_plain 5 [] [none, none, none, none] [2, 3, 4, 5, 8] [(1, 0), (2, 0), (3, 0)] h rfl rfl (by simp only [EX, simprocAttr, Nat.blt, Nat.ble, tz_4, tz_36, tz_45] <;> rfl) fun ac wd h => ?_
  refine wp_seq ?_
  obtain ⟨e27, hE28, hD⟩ := Option.bind_eq_some_iff.1 hD
  refine r_seqJ (fun ac wd => ∃ (b26 : Bool), b26 = e27 ∧ SL ⟨wb, S, Φ, P0⟩ 38 14 [(2, .one (.d (.int .i64 a2))), (3, .one (.d (.int .i64 a3))), (4, .one (.ptr (1, 0) 0)), (5, .one (.ptr (2, 0) 0)), (8, .one (.ptr (3, 0) 0)), (20, .one (.d (.bool b26)))] [((1, 0), some (.box 36 [.d (.int .i64 a0.Epoch), .d (.sl (List.map eB a0.Open)), .d (.int .i64 a0.P.Node), .d (.int .i64 a0.P.State), .d (.int .i64 a0.P.Steps), .d (.sl (List.map eI a0.P.Sent)), .d (.sl (List.map (eL eTMsg) a0.P.In)), .d (.sl (List.map (eL eI) a0.P.Out))])), ((2, 0), some (.box 45 [.d (.int .i64 a1.Node), .d (.int .i64 a1.State), .d (.int .i64 a1.Steps), .d (.sl (List.map (eL eTMsg) a1.In)), .d (.sl (List.map (eL eI) a1.Out))])), ((3, 0), some (.box 36 [.d (.int .i64 0), .nil, .d (.int .i64 0), .d (.int .i64 0), .d (.int .i64 0), .nil, .nil, .nil]))] ac wd) ?_ ?_
  · skip
    by_cases hb29 : a3 < 0
    · rw [if_pos hb29] at hE28
      refine r_plain [] [none, none, none, some (some 14, false), some (some 14, false), some (some 14, false), some (some 14, false), some (some 14, false), none] [2, 3, 4, 5, 8, 20] [(1, 0), (2, 0), (3, 0)] h rfl (by simp only [EX, simprocAttr, Nat.blt, Nat.ble, tz_3, tz_4, tz_23, tz_38, tz_45, tz_57, hb29] <;> rfl) fun ac wd h => ?_
      have h := h.same [2, 3, 4, 5, 8, 20] [(1, 0), (2, 0), (3, 0)] 14 [(2, .one (.d (.int .i64 a2))), (3, .one (.d (.int .i64 a3))), (4, .one (.ptr (1, 0) 0)), (5, .one (.ptr (2, 0) 0)), (8, .one (.ptr (3, 0) 0)), (20, .one (.d (.bool true)))]
        [((1, 0), some (.box 36 [.d (.int .i64 a0.Epoch), .d (.sl (List.map eB a0.Open)), .d (.int .i64 a0.P.Node), .d (.int .i64 a0.P.State), .d (.int .i64 a0.P.Steps), .d (.sl (List.map eI a0.P.Sent)), .d (.sl (List.map (eL eTMsg) a0.P.In)), .d (.sl (List.map (eL eI) a0.P.Out))])), ((2, 0), some (.box 45 [.d (.int .i64 a1.Node), .d (.int .i64 a1.State), .d (.int .i64 a1.Steps), .d (.sl (List.map (eL eTMsg) a1.In)), .d (.sl (List.map (eL eI) a1.Out))])), ((3, 0), some (.box 36 [.d (.int .i64 0), .nil, .d (.int .i64 0), .d (.int .i64 0), .d (.int .i64 0), .nil, .nil, .nil]))]
        (by simp only [EX, simprocAttr, Nat.blt, Nat.ble, hb29] <;> rfl)
      injection hE28 with hE28
      exact ⟨true, hE28, h⟩
    · rw [if_neg hb29] at hE28
      refine r_plain [] [none, none, none, some (some 14, false), some (some 14, false), some (some 14, false), some (some 14, false), some (some 14, false), none] [2, 3, 4, 5, 8, 20] [(1, 0), (2, 0), (3, 0)] h rfl (by simp only [EX, simprocAttr, Nat.blt, Nat.ble, tz_3, tz_4, tz_23, tz_38, tz_45, tz_57, hb29] <;> rfl) fun ac wd h => ?_
      have h := h.same [2, 3, 4, 5, 8, 20] [(1, 0), (2, 0), (3, 0)] 14 [(2, .one (.d (.int .i64 a2))), (3, .one (.d (.int .i64 a3))), (4, .one (.ptr (1, 0) 0)), (5, .one (.ptr (2, 0) 0)), (8, .one (.ptr (3, 0) 0)), (20, .one (.d (.bool (decide (a3 ≥ (a1.In.length : Int))))))]
        [((1, 0), some (.box 36 [.d (.int .i64 a0.Epoch), .d (.sl (List.map eB a0.Open)), .d (.int .i64 a0.P.Node), .d (.int .i64 a0.P.State), .d (.int .i64 a0.P.Steps), .d (.sl (List.map eI a0.P.Sent)), .d (.sl (List.map (eL eTMsg) a0.P.In)), .d (.sl (List.map (eL eI) a0.P.Out))])), ((2, 0), some (.box 45 [.d (.int .i64 a1.Node), .d (.int .i64 a1.State), .d (.int .i64 a1.Steps), .d (.sl (List.map (eL eTMsg) a1.In)), .d (.sl (List.map (eL eI) a1.Out))])), ((3, 0), some (.box 36 [.d (.int .i64 0), .nil, .d (.int .i64 0), .d (.int .i64 0), .d (.int .i64 0), .nil, .nil, .nil]))]
        (by simp only [EX, simprocAttr, Nat.blt, Nat.ble, hb29] <;> rfl)
      injection hE28 with hE28
      exact ⟨decide (a3 ≥ (a1.In.length : Int)), hE28, h⟩
  · skip
    rintro ac wd ⟨b26, rfl, h⟩
    (try dsimp only at hD)
    by_cases hb31 : b26 = true
    · rw [if_pos hb31] at hD
      refine r_condT h b26 (by simp only [EX, simprocAttr, Nat.blt, Nat.ble, hb31] <;> rfl) (by first | rfl | (simp only [EX, simprocAttr, Nat.blt, Nat.ble, hb31] <;> rfl)) ?_
      refine rs_plain 17 [] [none, none, none] [8, 9] [(3, 0)] h rfl rfl (by simp only [EX, simprocAttr, Nat.blt, Nat.ble, tz_4, tz_36, hb31] <;> rfl) fun ac wd h => ?_
      refine wp_ret ?_
      injection hD with hD
      subst hD
      exact r_retE rfl h [.cell 8 36, .tmp 9] rfl (by simp only [retD, List.mapM_cons, List.mapM_nil, Option.bind_eq_bind, Option.pure_def, EX, simprocAttr, Nat.blt, Nat.ble, tz_36, hb31] <;> rfl)
    · rw [if_neg hb31] at hD
      have hb31n := eq_false_of_ne_true hb31
      refine r_condF h b26 (by simp only [EX, simprocAttr, Nat.blt, Nat.ble, hb31n] <;> rfl) (by first | rfl | (simp only [EX, simprocAttr, Nat.blt, Nat.ble, hb31n] <;> rfl)) ?_
      refine wp_skip ?_
      change Code.wp Try.prog _ _ _ _
      refine rs_plain 19 [] [none, none, none, none, none] [2, 3, 4, 5, 8, 10] [(1, 0), (2, 0), (3, 0)] h rfl rfl (by simp only [EX, simprocAttr, Nat.blt, Nat.ble, tz_3, tz_4, tz_36, hb31n] <;> rfl) fun ac wd h => ?_
      refine wp_seq ?_
      refine rs_plain 20 [] [none] [2, 3, 4, 5, 8, 10, 26] [(1, 0), (2, 0), (3, 0)] h rfl rfl (by simp only [EX, simprocAttr, Nat.blt, Nat.ble, tz_4, hb31n] <;> rfl) fun ac wd h => ?_
      obtain ⟨e36, hE37, hD⟩ := Option.bind_eq_some_iff.1 hD
      refine r_meet (fun ac wd => ∃ (m35 : TMark), m35 = e36 ∧ SL ⟨wb, S, Φ, P0⟩ 38 24 [(3, .one (.d (.int .i64 a3))), (4, .one (.ptr (1, 0) 0)), (8, .one (.ptr (3, 0) 0)), (10, .one (.d (.bool (!(decide (a0.Epoch = a2))))))] [((1, 0), some (.box 36 [.d (.int .i64 m35.Epoch), .d (.sl (List.map eB m35.Open)), .d (.int .i64 m35.P.Node), .d (.int .i64 m35.P.State), .d (.int .i64 m35.P.Steps), .d (.sl (List.map eI m35.P.Sent)), .d (.sl (List.map (eL eTMsg) m35.P.In)), .d (.sl (List.map (eL eI) m35.P.Out))])), ((3, 0), some (.box 36 [.d (.int .i64 0), .nil, .d (.int .i64 0), .d (.int .i64 0), .d (.int .i64 0), .nil, .nil, .nil]))] ac wd) ?_ ?_
      · skip
        by_cases hb38 : a0.Epoch = a2
        · rw [if_pos hb38] at hE37
          have hb38t := eq_true hb38
          refine r_condF h (!(decide (a0.Epoch = a2))) (by simp only [EX, simprocAttr, Nat.blt, Nat.ble, hb31n, hb38t] <;> rfl) (by first | rfl | (simp only [EX, simprocAttr, Nat.blt, Nat.ble, hb31n, hb38t] <;> rfl)) ?_
          refine wp_skip ?_
          have h := h.same [3, 4, 8, 10] [(1, 0), (3, 0)] 24 [(3, .one (.d (.int .i64 a3))), (4, .one (.ptr (1, 0) 0)), (8, .one (.ptr (3, 0) 0)), (10, .one (.d (.bool (!(decide (a0.Epoch = a2))))))]
            [((1, 0), some (.box 36 [.d (.int .i64 a0.Epoch), .d (.sl (List.map eB a0.Open)), .d (.int .i64 a0.P.Node), .d (.int .i64 a0.P.State), .d (.int .i64 a0.P.Steps), .d (.sl (List.map eI a0.P.Sent)), .d (.sl (List.map (eL eTMsg) a0.P.In)), .d (.sl (List.map (eL eI) a0.P.Out))])), ((3, 0), some (.box 36 [.d (.int .i64 0), .nil, .d (.int .i64 0), .d (.int .i64 0), .d (.int .i64 0), .nil, .nil, .nil]))]
            (by simp only [EX, simprocAttr, Nat.blt, Nat.ble, hb31n, hb38t] <;> rfl)
          injection hE37 with hE37
          exact ⟨a0, hE37, h⟩
        · rw [if_neg hb38] at hE37
          refine r_condT h (!(decide (a0.Epoch = a2))) (by simp only [EX, simprocAttr, Nat.blt, Nat.ble, hb31n, hb38] <;> rfl) (by first | rfl | (simp only [EX, simprocAttr, Nat.blt, Nat.ble, hb31n, hb38] <;> rfl)) ?_
          obtain ⟨r39, hc40, hE37⟩ := Option.bind_eq_some_iff.1 hE37
          have hc40k := L_ref10_Begin_ok hc40
          refine r_plain [factE 22 hc40k] [none, none, none, none] [3, 4, 8, 10] [(1, 0), (3, 0)] h rfl (by simp only [EX, simprocAttr, Nat.blt, Nat.ble, tz_3, tz_36, tz_45, hb31n, hb38] <;> rfl) fun ac wd h => ?_
          have h := h.same [3, 4, 8, 10] [(1, 0), (3, 0)] 24 [(3, .one (.d (.int .i64 a3))), (4, .one (.ptr (1, 0) 0)), (8, .one (.ptr (3, 0) 0)), (10, .one (.d (.bool (!(decide (a0.Epoch = a2))))))]
            [((1, 0), some (.box 36 [.d (.int .i64 r39.Epoch), .d (.sl (List.map eB r39.Open)), .d (.int .i64 r39.P.Node), .d (.int .i64 r39.P.State), .d (.int .i64 r39.P.Steps), .d (.sl (List.map eI r39.P.Sent)), .d (.sl (List.map (eL eTMsg) r39.P.In)), .d (.sl (List.map (eL eI) r39.P.Out))])), ((3, 0), some (.box 36 [.d (.int .i64 0), .nil, .d (.int .i64 0), .d (.int .i64 0), .d (.int .i64 0), .nil, .nil, .nil]))]
            (by simp only [EX, simprocAttr, Nat.blt, Nat.ble, hb31n, hb38] <;> rfl)
          injection hE37 with hE37
          exact ⟨r39, hE37, h⟩
      · skip
        rintro ac wd ⟨m35, rfl, h⟩
        (try dsimp only at hD)
        obtain ⟨r43, hc44, hD⟩ := Option.bind_eq_some_iff.1 hD
        have hc44_25 : CallH Try.prog 24 [.agg [.d (.int .i64 m35.Epoch), .d (.sl (List.map eB m35.Open)), .d (.int .i64 m35.P.Node), .d (.int .i64 m35.P.State), .d (.int .i64 m35.P.Steps), .d (.sl (List.map eI m35.P.Sent)), .d (.sl (List.map (eL eTMsg) m35.P.In)), .d (.sl (List.map (eL eI) m35.P.Out))]] [] (.agg [.d (.int .i64 r43.Epoch), .own (25, 0) r43.Open.length, .d (.int .i64 r43.P.Node), .d (.int .i64 r43.P.State), .d (.int .i64 r43.P.Steps), .d (.sl (List.map eI r43.P.Sent)), .own (25, 1) r43.P.In.length, .d (.sl (List.map (eL eI) r43.P.Out))]) [((25, 0), some (.row 4 1 (dat (List.map eB r43.Open)))), ((25, 1), some (.row 57 1 (openRows cols_57 (List.map (eL eTMsg) r43.P.In))))] := ((L_ref10_own_own hc44).cls 25).as (by simp only [EX, simprocAttr, Nat.blt, Nat.ble, fren, mren, AV.ren, AObj.ren, Cell.ren, sumRen, Upd.ren, swp, csw, dat_ren, opn_ren] <;> rfl)
        refine rs_plain 28 [factO hc44_25] [none, none, none, none] [3, 8, 10, 11] [(3, 0), (25, 0), (25, 1), (26, 0)] h rfl rfl (by simp only [EX, simprocAttr, Nat.blt, Nat.ble, tz_36, hb31n] <;> rfl) fun ac wd h => ?_
        obtain ⟨x47, hx48, hD⟩ := Option.bind_eq_some_iff.1 hD
        obtain ⟨hx48a, hx48b, hx48c⟩ := at_some hx48
        have hx48d := (List.getElem?_eq_some_iff.1 hx48b).1
        refine rs_plain 33 [] [none, none, none, none, none] [8, 10, 11] [(3, 0), (25, 0), (25, 1), (26, 0)] h rfl rfl (by simp only [EX, simprocAttr, Nat.blt, Nat.ble, tz_3, tz_4, tz_28, tz_36, hb31n, hx48a, hx48b, hx48c, hx48d] <;> rfl) fun ac wd h => ?_
        refine rs_plain 37 [] [none, none, none, none] [8, 9] [(3, 0), (25, 0), (25, 1)] h rfl rfl (by simp only [EX, simprocAttr, Nat.blt, Nat.ble, tz_4, tz_36, hb31n] <;> rfl) fun ac wd h => ?_
        refine wp_ret ?_
        injection hD with hD
        subst hD
        exact r_retE rfl h [.cell 8 36, .tmp 9] rfl (by simp only [retD, List.mapM_cons, List.mapM_nil, Option.bind_eq_bind, Option.pure_def, EX, simprocAttr, Nat.blt, Nat.ble, tz_36, hb31n] <;> rfl)

set_option maxRecDepth 20000 in
set_option maxHeartbeats 4000000 in
theorem L_mark_Mark_has_ok {a0 : TMark} {a1 : Int} {r : Bool} (hD : L_mark_Mark_has a0 a1 = some r) :
    CallH Try.prog 25 [.agg [.d (.int .i64 a0.Epoch), .d (.sl (List.map eB a0.Open)), .d (.int .i64 a0.P.Node), .d (.int .i64 a0.P.State), .d (.int .i64 a0.P.Steps), .d (.sl (List.map eI a0.P.Sent)), .d (.sl (List.map (eL eTMsg) a0.P.In)), .d (.sl (List.map (eL eI) a0.P.Out))], .one (.d (.int .i64 a1))] []
      (.one (.d (.bool r))) [] := by
  unfold L_mark_Mark_has at hD
  refine r_call Try.func25 rfl Try.ntmps25 (by kernel_rfl) (by rfl) (by rfl) (by simp) fun S Φ P0 wb ac h => ?_
  refine rs_plain 3 [] [none, none] [1, 2] [(1, 0)] h rfl rfl (by simp only [EX, simprocAttr, Nat.blt, Nat.ble, tz_4, tz_33] <;> rfl) fun ac wd h => ?_
  obtain ⟨e8, hE9, hD⟩ := Option.bind_eq_some_iff.1 hD
  refine r_seqJ (fun ac wd => ∃ (b7 : Bool), b7 = e8 ∧ SL ⟨wb, S, Φ, P0⟩ 14 13 [(4, .one (.d (.bool b7)))] [] ac wd) ?_ ?_
  · skip
    by_cases hb10 : a1 ≥ 0
    · rw [if_pos hb10] at hE9
      refine r_plain [] [none, none, none, some (some 7, true), some (some 7, true), some (some 7, true), some (some 7, true), some (some 7, true), none, none] [4] [] h rfl (by simp only [EX, simprocAttr, Nat.blt, Nat.ble, tz_3, tz_4, tz_28, tz_33, hb10] <;> rfl) fun ac wd h => ?_
      have h := h.same [4] [] 13 [(4, .one (.d (.bool (decide (a1 < (a0.Open.length : Int))))))]
        []
        (by simp only [EX, simprocAttr, Nat.blt, Nat.ble, hb10] <;> rfl)
      injection hE9 with hE9
      exact ⟨decide (a1 < (a0.Open.length : Int)), hE9, h⟩
    · rw [if_neg hb10] at hE9
      refine r_plain [] [none, none, none, some (some 7, true), some (some 7, true), some (some 7, true), some (some 7, true), some (some 7, true), none, none] [4] [] h rfl (by simp only [EX, simprocAttr, Nat.blt, Nat.ble, tz_3, tz_4, tz_28, tz_33, hb10] <;> rfl) fun ac wd h => ?_
      have h := h.same [4] [] 13 [(4, .one (.d (.bool false)))]
        []
        (by simp only [EX, simprocAttr, Nat.blt, Nat.ble, hb10] <;> rfl)
      injection hE9 with hE9
      exact ⟨false, hE9, h⟩
  · skip
    rintro ac wd ⟨b7, rfl, h⟩
    (try dsimp only at hD)
    refine wp_ret ?_
    injection hD with hD
    subst hD
    exact r_retE rfl h [.tmp 4] rfl (by simp only [retD, List.mapM_cons, List.mapM_nil, Option.bind_eq_bind, Option.pure_def, EX, simprocAttr, Nat.blt, Nat.ble] <;> rfl)

set_option maxRecDepth 20000 in
set_option maxHeartbeats 4000000 in
theorem L_mark_App_ok {a0 : TMark} {a1 : Int} {a2 : TMsg} {r : TMark} (hD : L_mark_App a0 a1 a2 = some r) :
    CallH Try.prog 13 [.agg [.d (.int .i64 a0.Epoch), .d (.sl (List.map eB a0.Open)), .d (.int .i64 a0.P.Node), .d (.int .i64 a0.P.State), .d (.int .i64 a0.P.Steps), .d (.sl (List.map eI a0.P.Sent)), .d (.sl (List.map (eL eTMsg) a0.P.In)), .d (.sl (List.map (eL eI) a0.P.Out))], .one (.d (.int .i64 a1)), .agg [.d (.int .i64 a2.Seq), .d (.int .i64 a2.Letter)]] []
      (.agg [.d (.int .i64 r.Epoch), .d (.sl (List.map eB r.Open)), .d (.int .i64 r.P.Node), .d (.int .i64 r.P.State), .d (.int .i64 r.P.Steps), .d (.sl (List.map eI r.P.Sent)), .d (.sl (List.map (eL eTMsg) r.P.In)), .d (.sl (List.map (eL eI) r.P.Out))]) [] := by
  unfold L_mark_App at hD
  refine r_call Try.func13 rfl Try.ntmps13 (by kernel_rfl) (by rfl) (by rfl) (by simp) fun S Φ P0 wb ac h => ?_
  refine rs_plain 4 [] [none, none, none] [1, 3, 5, 6] [(1, 0), (2, 0), (3, 0)] h rfl rfl (by simp only [EX, simprocAttr, Nat.blt, Nat.ble, tz_33, tz_38] <;> rfl) fun ac wd h => ?_
  refine rs_plain 7 [] [none, none, none] [1, 3, 5, 6, 7] [(1, 0), (2, 0), (3, 0)] h rfl rfl (by simp only [EX, simprocAttr, Nat.blt, Nat.ble, tz_25, tz_33] <;> rfl) fun ac wd h => ?_
  refine wp_seq ?_
  obtain ⟨e32, hE33, hD⟩ := Option.bind_eq_some_iff.1 hD
  refine r_seqJ (fun ac wd => ∃ (b31 : Bool), b31 = e32 ∧ SL ⟨wb, S, Φ, P0⟩ 41 19 [(1, .one (.d (.int .i64 a1))), (3, .one (.ptr (1, 0) 0)), (5, .one (.ptr (2, 0) 0)), (6, .one (.ptr (3, 0) 0)), (22, .one (.d (.bool b31)))] [((1, 0), some (.box 33 [.d (.int .i64 a0.Epoch), .d (.sl (List.map eB a0.Open)), .d (.int .i64 a0.P.Node), .d (.int .i64 a0.P.State), .d (.int .i64 a0.P.Steps), .d (.sl (List.map eI a0.P.Sent)), .d (.sl (List.map (eL eTMsg) a0.P.In)), .d (.sl (List.map (eL eI) a0.P.Out))])), ((2, 0), some (.box 38 [.d (.int .i64 a2.Seq), .d (.int .i64 a2.Letter)])), ((3, 0), some (.box 33 [.d (.int .i64 0), .nil, .d (.int .i64 0), .d (.int .i64 0), .d (.int .i64 0), .nil, .nil, .nil]))] ac wd) ?_ ?_
  · skip
    obtain ⟨r34, hc35, hE33⟩ := Option.bind_eq_some_iff.1 hE33
    by_cases hb36 : r34 = true
    · rw [if_pos hb36] at hE33
      obtain ⟨x37, hx38, hE33⟩ := Option.bind_eq_some_iff.1 hE33
      obtain ⟨hx38a, hx38b, hx38c⟩ := at_some hx38
      have hx38d := (List.getElem?_eq_some_iff.1 hx38b).1
      have hc35k := L_mark_Mark_has_ok hc35
      refine r_plain [factE 9 hc35k] [none, none, none, none, none, some (some 15, false), some (some 15, false), some (some 15, false), some (some 15, false), some (some 15, false), some (some 15, false), none] [1, 3, 5, 6, 22] [(1, 0), (2, 0), (3, 0)] h rfl (by simp only [EX, simprocAttr, Nat.blt, Nat.ble, tz_3, tz_4, tz_28, tz_33, hb36, hx38a, hx38b, hx38c, hx38d] <;> rfl) fun ac wd h => ?_
      have h := h.same [1, 3, 5, 6, 22] [(1, 0), (2, 0), (3, 0)] 19 [(1, .one (.d (.int .i64 a1))), (3, .one (.ptr (1, 0) 0)), (5, .one (.ptr (2, 0) 0)), (6, .one (.ptr (3, 0) 0)), (22, .one (.d (.bool (!(x37)))))]
        [((1, 0), some (.box 33 [.d (.int .i64 a0.Epoch), .d (.sl (List.map eB a0.Open)), .d (.int .i64 a0.P.Node), .d (.int .i64 a0.P.State), .d (.int .i64 a0.P.Steps), .d (.sl (List.map eI a0.P.Sent)), .d (.sl (List.map (eL eTMsg) a0.P.In)), .d (.sl (List.map (eL eI) a0.P.Out))])), ((2, 0), some (.box 38 [.d (.int .i64 a2.Seq), .d (.int .i64 a2.Letter)])), ((3, 0), some (.box 33 [.d (.int .i64 0), .nil, .d (.int .i64 0), .d (.int .i64 0), .d (.int .i64 0), .nil, .nil, .nil]))]
        (by simp only [EX, simprocAttr, Nat.blt, Nat.ble, hb36, hx38a, hx38b, hx38c, hx38d] <;> rfl)
      injection hE33 with hE33
      exact ⟨!(x37), hE33, h⟩
    · rw [if_neg hb36] at hE33
      have hb36n := eq_false_of_ne_true hb36
      have hc35k := L_mark_Mark_has_ok hc35
      refine r_plain [factE 9 hc35k] [none, none, none, none, none, some (some 15, false), some (some 15, false), some (some 15, false), some (some 15, false), some (some 15, false), some (some 15, false), none] [1, 3, 5, 6, 22] [(1, 0), (2, 0), (3, 0)] h rfl (by simp only [EX, simprocAttr, Nat.blt, Nat.ble, tz_3, tz_4, tz_28, tz_33, hb36n] <;> rfl) fun ac wd h => ?_
      have h := h.same [1, 3, 5, 6, 22] [(1, 0), (2, 0), (3, 0)] 19 [(1, .one (.d (.int .i64 a1))), (3, .one (.ptr (1, 0) 0)), (5, .one (.ptr (2, 0) 0)), (6, .one (.ptr (3, 0) 0)), (22, .one (.d (.bool true)))]
        [((1, 0), some (.box 33 [.d (.int .i64 a0.Epoch), .d (.sl (List.map eB a0.Open)), .d (.int .i64 a0.P.Node), .d (.int .i64 a0.P.State), .d (.int .i64 a0.P.Steps), .d (.sl (List.map eI a0.P.Sent)), .d (.sl (List.map (eL eTMsg) a0.P.In)), .d (.sl (List.map (eL eI) a0.P.Out))])), ((2, 0), some (.box 38 [.d (.int .i64 a2.Seq), .d (.int .i64 a2.Letter)])), ((3, 0), some (.box 33 [.d (.int .i64 0), .nil, .d (.int .i64 0), .d (.int .i64 0), .d (.int .i64 0), .nil, .nil, .nil]))]
        (by simp only [EX, simprocAttr, Nat.blt, Nat.ble, hb36n] <;> rfl)
      injection hE33 with hE33
      exact ⟨true, hE33, h⟩
  · skip
    rintro ac wd ⟨b31, rfl, h⟩
    (try dsimp only at hD)
    by_cases hb40 : b31 = true
    · rw [if_pos hb40] at hD
      refine r_condT h b31 (by simp only [EX, simprocAttr, Nat.blt, Nat.ble, hb40] <;> rfl) (by first | rfl | (simp only [EX, simprocAttr, Nat.blt, Nat.ble, hb40] <;> rfl)) ?_
      refine rs_plain 21 [] [none, none] [6] [(3, 0)] h rfl rfl (by simp only [EX, simprocAttr, Nat.blt, Nat.ble, tz_33, hb40] <;> rfl) fun ac wd h => ?_
      refine wp_ret ?_
      injection hD with hD
      subst hD
      exact r_retE rfl h [.cell 6 33] rfl (by simp only [retD, List.mapM_cons, List.mapM_nil, Option.bind_eq_bind, Option.pure_def, EX, simprocAttr, Nat.blt, Nat.ble, tz_33, hb40] <;> rfl)
    · rw [if_neg hb40] at hD
      have hb40n := eq_false_of_ne_true hb40
      refine r_condF h b31 (by simp only [EX, simprocAttr, Nat.blt, Nat.ble, hb40n] <;> rfl) (by first | rfl | (simp only [EX, simprocAttr, Nat.blt, Nat.ble, hb40n] <;> rfl)) ?_
      refine wp_skip ?_
      change Code.wp Try.prog _ _ _ _
      obtain ⟨r43, hc44, hD⟩ := Option.bind_eq_some_iff.1 hD
      have hc44_20 : CallH Try.prog 23 [.agg [.d (.int .i64 a0.Epoch), .d (.sl (List.map eB a0.Open)), .d (.int .i64 a0.P.Node), .d (.int .i64 a0.P.State), .d (.int .i64 a0.P.Steps), .d (.sl (List.map eI a0.P.Sent)), .d (.sl (List.map (eL eTMsg) a0.P.In)), .d (.sl (List.map (eL eI) a0.P.Out))]] [] (.agg [.d (.int .i64 r43.Epoch), .own (20, 0) r43.Open.length, .d (.int .i64 r43.P.Node), .d (.int .i64 r43.P.State), .d (.int .i64 r43.P.Steps), .own (20, 1) r43.P.Sent.length, .own (20, 2) r43.P.In.length, .own (20, 3) r43.P.Out.length]) [((20, 0), some (.row 4 1 (dat (List.map eB r43.Open)))), ((20, 1), some (.row 3 1 (dat (List.map eI r43.P.Sent)))), ((20, 2), some (.row 57 1 (openRows cols_57 (List.map (eL eTMsg) r43.P.In)))), ((20, 3), some (.row 29 1 (openRows cols_29 (List.map (eL eI) r43.P.Out))))] := ((L_mark_Mark_own_own hc44).cls 20).as (by simp only [EX, simprocAttr, Nat.blt, Nat.ble, fren, mren, AV.ren, AObj.ren, Cell.ren, sumRen, Upd.ren, swp, csw, dat_ren, opn_ren] <;> rfl)
      refine rs_plain 23 [factO hc44_20] [none, none, none, none] [1, 5, 6, 8] [(2, 0), (3, 0), (20, 0), (20, 1), (20, 2), (20, 3), (21, 0)] h rfl rfl (by simp only [EX, simprocAttr, Nat.blt, Nat.ble, tz_33, hb40n] <;> rfl) fun ac wd h => ?_
      obtain ⟨x48, hx49, hD⟩ := Option.bind_eq_some_iff.1 hD
      obtain ⟨hx49a, hx49b, hx49c⟩ := at_some hx49
      have hx49d := (List.getElem?_eq_some_iff.1 hx49b).1
      have h := h.open_ (20, 2) a1.toNat 0 (by simp only [EX, simprocAttr, Nat.blt, Nat.ble, hb40n, hx49a, hx49b, hx49c, hx49d] <;> rfl) (by simp only [EX, simprocAttr, Nat.blt, Nat.ble, hb40n, hx49a, hx49b, hx49c, hx49d] <;> rfl) (by simp only [EX, simprocAttr, Nat.blt, Nat.ble, hb40n, hx49a, hx49b, hx49c, hx49d] <;> rfl)
      have h := h.same [1, 5, 6, 8] [(2, 0), (3, 0), (20, 0), (20, 1), (20, 2), (20, 3), (21, 0), (23, 0)] 24 [(1, .one (.d (.int .i64 a1))), (5, .one (.ptr (2, 0) 0)), (6, .one (.ptr (3, 0) 0)), (8, .one (.ptr (21, 0) 0))]
        [((2, 0), some (.box 38 [.d (.int .i64 a2.Seq), .d (.int .i64 a2.Letter)])), ((3, 0), some (.box 33 [.d (.int .i64 0), .nil, .d (.int .i64 0), .d (.int .i64 0), .d (.int .i64 0), .nil, .nil, .nil])), ((20, 0), some (.row 4 1 (dat (List.map eB r43.Open)))), ((20, 1), some (.row 3 1 (dat (List.map eI r43.P.Sent)))), ((20, 2), some (.row 57 1 ((openRows cols_57 (List.map (eL eTMsg) r43.P.In)).set a1.toNat [.own (23, 0) x48.length]))), ((20, 3), some (.row 29 1 (openRows cols_29 (List.map (eL eI) r43.P.Out)))), ((21, 0), some (.box 33 [.d (.int .i64 r43.Epoch), .own (20, 0) r43.Open.length, .d (.int .i64 r43.P.Node), .d (.int .i64 r43.P.State), .d (.int .i64 r43.P.Steps), .own (20, 1) r43.P.Sent.length, .own (20, 2) r43.P.In.length, .own (20, 3) r43.P.Out.length])), ((23, 0), some (.row 38 2 (dat (List.map eTMsg x48))))]
        (by simp only [EX, simprocAttr, Nat.blt, Nat.ble, hb40n, hx49a, hx49b, hx49c, hx49d, dat_open] <;> rfl)
      by_cases ha50 : (x48.length + 1) * 16 ≤ 140737488355328
      case neg => rw [if_neg ha50] at hD; cases hD
      rw [if_pos ha50] at hD
      refine rs_drawn 39 ty_hm [] [none, none, none, none, none, none, none, none, none, none, none, none, none, none, none] [6, 8] [(3, 0), (20, 0), (20, 1), (20, 2), (20, 3), (21, 0), (36, 0)] h rfl rfl (by simp only [EX, simprocAttr, Nat.blt, Nat.ble, tz_2, tz_3, tz_4, tz_23, tz_31, tz_33, tz_38, tz_57, hb40n, ha50, hx49a, hx49b, hx49c, hx49d] <;> rfl) (by kernel_rfl) fun ac wd h => ?_
      have h := h.foldS (cols := (fun _ => .sc)) (20, 2) (36, 0) (openRows cols_57 (List.map (eL eTMsg) r43.P.In)) a1.toNat [.own (36, 0) (x48.length + 1)] 0 (List.map eTMsg (x48 ++ [a2])) (by simp only [EX, simprocAttr, Nat.blt, Nat.ble, hb40n, hx49a, hx49b, hx49c, hx49d, ha50] <;> rfl) (by simp only [EX, simprocAttr, Nat.blt, Nat.ble]; exact hx49d) (by rfl) (by simp only [EX, simprocAttr, Nat.blt, Nat.ble, hb40n, hx49a, hx49b, hx49c, hx49d, ha50] <;> rfl) (by simp only [EX, simprocAttr, Nat.blt, Nat.ble, hb40n, hx49a, hx49b, hx49c, hx49d, ha50, dat_open] <;> rfl) (by simp only [EX, simprocAttr, Nat.blt, Nat.ble, hb40n, hx49a, hx49b, hx49c, hx49d, ha50] <;> rfl) (by decide) (sc_38 _)
      have h := h.same [6, 8] [(3, 0), (20, 0), (20, 1), (20, 2), (20, 3), (21, 0)] 39 [(6, .one (.ptr (3, 0) 0)), (8, .one (.ptr (21, 0) 0))]
        [((3, 0), some (.box 33 [.d (.int .i64 0), .nil, .d (.int .i64 0), .d (.int .i64 0), .d (.int .i64 0), .nil, .nil, .nil])), ((20, 0), some (.row 4 1 (dat (List.map eB r43.Open)))), ((20, 1), some (.row 3 1 (dat (List.map eI r43.P.Sent)))), ((20, 2), some (.row 57 1 ((openRows cols_57 (List.map (eL eTMsg) r43.P.In)).set a1.toNat [.tr (.sl 38 2 (fun _ => .sc)) (.sl (List.map eTMsg (x48 ++ [a2])))]))), ((20, 3), some (.row 29 1 (openRows cols_29 (List.map (eL eI) r43.P.Out)))), ((21, 0), some (.box 33 [.d (.int .i64 r43.Epoch), .own (20, 0) r43.Open.length, .d (.int .i64 r43.P.Node), .d (.int .i64 r43.P.State), .d (.int .i64 r43.P.Steps), .own (20, 1) r43.P.Sent.length, .own (20, 2) r43.P.In.length, .own (20, 3) r43.P.Out.length]))]
        (by simp only [EX, simprocAttr, Nat.blt, Nat.ble, hb40n, hx49a, hx49b, hx49c, hx49d, ha50, dat_open] <;> rfl)
      refine rs_plain 41 [] [none, none] [6] [(3, 0), (20, 0), (20, 1), (20, 2), (20, 3)] h rfl rfl (by simp only [EX, simprocAttr, Nat.blt, Nat.ble, tz_33, hb40n, ha50] <;> rfl) fun ac wd h => ?_
      refine wp_ret ?_
      injection hD with hD
      subst hD
      exact r_retE rfl h [.cell 6 33] rfl (by simp only [retD, List.mapM_cons, List.mapM_nil, Option.bind_eq_bind, Option.pure_def, EX, simprocAttr, Nat.blt, Nat.ble, tz_33, hb40n, ha50] <;> rfl)

set_option maxRecDepth 20000 in
set_option maxHeartbeats 4000000 in
theorem L_ref10_App_ok {a0 : TMark} {a1 : Int} {a2 : TMsg} {r : TMark} (hD : L_ref10_App a0 a1 a2 = some r) :
    CallH Try.prog 14 [.agg [.d (.int .i64 a0.Epoch), .d (.sl (List.map eB a0.Open)), .d (.int .i64 a0.P.Node), .d (.int .i64 a0.P.State), .d (.int .i64 a0.P.Steps), .d (.sl (List.map eI a0.P.Sent)), .d (.sl (List.map (eL eTMsg) a0.P.In)), .d (.sl (List.map (eL eI) a0.P.Out))], .one (.d (.int .i64 a1)), .agg [.d (.int .i64 a2.Seq), .d (.int .i64 a2.Letter)]] []
      (.agg [.d (.int .i64 r.Epoch), .d (.sl (List.map eB r.Open)), .d (.int .i64 r.P.Node), .d (.int .i64 r.P.State), .d (.int .i64 r.P.Steps), .d (.sl (List.map eI r.P.Sent)), .d (.sl (List.map (eL eTMsg) r.P.In)), .d (.sl (List.map (eL eI) r.P.Out))]) [] := by
  unfold L_ref10_App at hD
  refine r_call Try.func14 rfl Try.ntmps14 (by kernel_rfl) (by rfl) (by rfl) (by simp) fun S Φ P0 wb ac h => ?_
  refine rs_plain 4 [] [none, none, none] [1, 3, 5, 6] [(1, 0), (2, 0), (3, 0)] h rfl rfl (by simp only [EX, simprocAttr, Nat.blt, Nat.ble, tz_36, tz_38] <;> rfl) fun ac wd h => ?_
  refine wp_seq ?_
  obtain ⟨e29, hE30, hD⟩ := Option.bind_eq_some_iff.1 hD
  refine r_seqJ (fun ac wd => ∃ (b28 : Bool), b28 = e29 ∧ SL ⟨wb, S, Φ, P0⟩ 43 21 [(1, .one (.d (.int .i64 a1))), (3, .one (.ptr (1, 0) 0)), (5, .one (.ptr (2, 0) 0)), (6, .one (.ptr (3, 0) 0)), (24, .one (.d (.bool b28)))] [((1, 0), some (.box 36 [.d (.int .i64 a0.Epoch), .d (.sl (List.map eB a0.Open)), .d (.int .i64 a0.P.Node), .d (.int .i64 a0.P.State), .d (.int .i64 a0.P.Steps), .d (.sl (List.map eI a0.P.Sent)), .d (.sl (List.map (eL eTMsg) a0.P.In)), .d (.sl (List.map (eL eI) a0.P.Out))])), ((2, 0), some (.box 38 [.d (.int .i64 a2.Seq), .d (.int .i64 a2.Letter)])), ((3, 0), some (.box 36 [.d (.int .i64 0), .nil, .d (.int .i64 0), .d (.int .i64 0), .d (.int .i64 0), .nil, .nil, .nil]))] ac wd) ?_ ?_
  · skip
    by_cases hb31 : a1 < 0
    · rw [if_pos hb31] at hE30
      refine r_plain [] [none, none, none, some (some 10, false), some (some 10, false), some (some 10, false), some (some 10, false), some (some 10, false), none, none, some (some 17, false), some (some 17, false), some (some 17, false), some (some 17, false), some (some 17, false), some (some 17, false), none] [1, 3, 5, 6, 24] [(1, 0), (2, 0), (3, 0)] h rfl (by simp only [EX, simprocAttr, Nat.blt, Nat.ble, tz_3, tz_4, tz_28, tz_36, hb31] <;> rfl) fun ac wd h => ?_
      have h := h.same [1, 3, 5, 6, 24] [(1, 0), (2, 0), (3, 0)] 21 [(1, .one (.d (.int .i64 a1))), (3, .one (.ptr (1, 0) 0)), (5, .one (.ptr (2, 0) 0)), (6, .one (.ptr (3, 0) 0)), (24, .one (.d (.bool true)))]
        [((1, 0), some (.box 36 [.d (.int .i64 a0.Epoch), .d (.sl (List.map eB a0.Open)), .d (.int .i64 a0.P.Node), .d (.int .i64 a0.P.State), .d (.int .i64 a0.P.Steps), .d (.sl (List.map eI a0.P.Sent)), .d (.sl (List.map (eL eTMsg) a0.P.In)), .d (.sl (List.map (eL eI) a0.P.Out))])), ((2, 0), some (.box 38 [.d (.int .i64 a2.Seq), .d (.int .i64 a2.Letter)])), ((3, 0), some (.box 36 [.d (.int .i64 0), .nil, .d (.int .i64 0), .d (.int .i64 0), .d (.int .i64 0), .nil, .nil, .nil]))]
        (by simp only [EX, simprocAttr, Nat.blt, Nat.ble, hb31] <;> rfl)
      injection hE30 with hE30
      exact ⟨true, hE30, h⟩
    · rw [if_neg hb31] at hE30
      by_cases hb32 : a1 ≥ (a0.Open.length : Int)
      · rw [if_pos hb32] at hE30
        refine r_plain [] [none, none, none, some (some 10, false), some (some 10, false), some (some 10, false), some (some 10, false), some (some 10, false), none, none, some (some 17, false), some (some 17, false), some (some 17, false), some (some 17, false), some (some 17, false), some (some 17, false), none] [1, 3, 5, 6, 24] [(1, 0), (2, 0), (3, 0)] h rfl (by simp only [EX, simprocAttr, Nat.blt, Nat.ble, tz_3, tz_4, tz_28, tz_36, hb31, hb32] <;> rfl) fun ac wd h => ?_
        have h := h.same [1, 3, 5, 6, 24] [(1, 0), (2, 0), (3, 0)] 21 [(1, .one (.d (.int .i64 a1))), (3, .one (.ptr (1, 0) 0)), (5, .one (.ptr (2, 0) 0)), (6, .one (.ptr (3, 0) 0)), (24, .one (.d (.bool true)))]
          [((1, 0), some (.box 36 [.d (.int .i64 a0.Epoch), .d (.sl (List.map eB a0.Open)), .d (.int .i64 a0.P.Node), .d (.int .i64 a0.P.State), .d (.int .i64 a0.P.Steps), .d (.sl (List.map eI a0.P.Sent)), .d (.sl (List.map (eL eTMsg) a0.P.In)), .d (.sl (List.map (eL eI) a0.P.Out))])), ((2, 0), some (.box 38 [.d (.int .i64 a2.Seq), .d (.int .i64 a2.Letter)])), ((3, 0), some (.box 36 [.d (.int .i64 0), .nil, .d (.int .i64 0), .d (.int .i64 0), .d (.int .i64 0), .nil, .nil, .nil]))]
          (by simp only [EX, simprocAttr, Nat.blt, Nat.ble, hb31, hb32] <;> rfl)
        injection hE30 with hE30
        exact ⟨true, hE30, h⟩
      · rw [if_neg hb32] at hE30
        obtain ⟨x33, hx34, hE30⟩ := Option.bind_eq_some_iff.1 hE30
        obtain ⟨hx34a, hx34b, hx34c⟩ := at_some hx34
        have hx34d := (List.getElem?_eq_some_iff.1 hx34b).1
        refine r_plain [] [none, none, none, some (some 10, false), some (some 10, false), some (some 10, false), some (some 10, false), some (some 10, false), none, none, some (some 17, false), some (some 17, false), some (some 17, false), some (some 17, false), some (some 17, false), some (some 17, false), none] [1, 3, 5, 6, 24] [(1, 0), (2, 0), (3, 0)] h rfl (by simp only [EX, simprocAttr, Nat.blt, Nat.ble, tz_3, tz_4, tz_28, tz_36, hb31, hb32, hx34a, hx34b, hx34c, hx34d] <;> rfl) fun ac wd h => ?_
        have h := h.same [1, 3, 5, 6, 24] [(1, 0), (2, 0), (3, 0)] 21 [(1, .one (.d (.int .i64 a1))), (3, .one (.ptr (1, 0) 0)), (5, .one (.ptr (2, 0) 0)), (6, .one (.ptr (3, 0) 0)), (24, .one (.d (.bool (!(x33)))))]
          [((1, 0), some (.box 36 [.d (.int .i64 a0.Epoch), .d (.sl (List.map eB a0.Open)), .d (.int .i64 a0.P.Node), .d (.int .i64 a0.P.State), .d (.int .i64 a0.P.Steps), .d (.sl (List.map eI a0.P.Sent)), .d (.sl (List.map (eL eTMsg) a0.P.In)), .d (.sl (List.map (eL eI) a0.P.Out))])), ((2, 0), some (.box 38 [.d (.int .i64 a2.Seq), .d (.int .i64 a2.Letter)])), ((3, 0), some (.box 36 [.d (.int .i64 0), .nil, .d (.int .i64 0), .d (.int .i64 0), .d (.int .i64 0), .nil, .nil, .nil]))]
          (by simp only [EX, simprocAttr, Nat.blt, Nat.ble, hb31, hb32, hx34a, hx34b, hx34c, hx34d] <;> rfl)
        injection hE30 with hE30
        exact ⟨!(x33), hE30, h⟩
  · skip
    rintro ac wd ⟨b28, rfl, h⟩
    (try dsimp only at hD)
    by_cases hb36 : b28 = true
    · rw [if_pos hb36] at hD
      refine r_condT h b28 (by simp only [EX, simprocAttr, Nat.blt, Nat.ble, hb36] <;> rfl) (by first | rfl | (simp only [EX, simprocAttr, Nat.blt, Nat.ble, hb36] <;> rfl)) ?_
      refine rs_plain 23 [] [none, none] [6] [(3, 0)] h rfl rfl (by simp only [EX, simprocAttr, Nat.blt, Nat.ble, tz_36, hb36] <;> rfl) fun ac wd h => ?_
      refine wp_ret ?_
      injection hD with hD
      subst hD
      exact r_retE rfl h [.cell 6 36] rfl (by simp only [retD, List.mapM_cons, List.mapM_nil, Option.bind_eq_bind, Option.pure_def, EX, simprocAttr, Nat.blt, Nat.ble, tz_36, hb36] <;> rfl)
    · rw [if_neg hb36] at hD
      have hb36n := eq_false_of_ne_true hb36
      refine r_condF h b28 (by simp only [EX, simprocAttr, Nat.blt, Nat.ble, hb36n] <;> rfl) (by first | rfl | (simp only [EX, simprocAttr, Nat.blt, Nat.ble, hb36n] <;> rfl)) ?_
      refine wp_skip ?_
      change Code.wp Try.prog _ _ _ _
      obtain ⟨r39, hc40, hD⟩ := Option.bind_eq_some_iff.1 hD
      have hc40_22 : CallH Try.prog 24 [.agg [.d (.int .i64 a0.Epoch), .d (.sl (List.map eB a0.Open)), .d (.int .i64 a0.P.Node), .d (.int .i64 a0.P.State), .d (.int .i64 a0.P.Steps), .d (.sl (List.map eI a0.P.Sent)), .d (.sl (List.map (eL eTMsg) a0.P.In)), .d (.sl (List.map (eL eI) a0.P.Out))]] [] (.agg [.d (.int .i64 r39.Epoch), .own (22, 0) r39.Open.length, .d (.int .i64 r39.P.Node), .d (.int .i64 r39.P.State), .d (.int .i64 r39.P.Steps), .d (.sl (List.map eI r39.P.Sent)), .own (22, 1) r39.P.In.length, .d (.sl (List.map (eL eI) r39.P.Out))]) [((22, 0), some (.row 4 1 (dat (List.map eB r39.Open)))), ((22, 1), some (.row 57 1 (openRows cols_57 (List.map (eL eTMsg) r39.P.In))))] := ((L_ref10_own_own hc40).cls 22).as (by simp only [EX, simprocAttr, Nat.blt, Nat.ble, fren, mren, AV.ren, AObj.ren, Cell.ren, sumRen, Upd.ren, swp, csw, dat_ren, opn_ren] <;> rfl)
      refine rs_plain 25 [factO hc40_22] [none, none, none, none] [1, 5, 6, 7] [(2, 0), (3, 0), (22, 0), (22, 1), (23, 0)] h rfl rfl (by simp only [EX, simprocAttr, Nat.blt, Nat.ble, tz_36, hb36n] <;> rfl) fun ac wd h => ?_
      obtain ⟨x44, hx45, hD⟩ := Option.bind_eq_some_iff.1 hD
      obtain ⟨hx45a, hx45b, hx45c⟩ := at_some hx45
      have hx45d := (List.getElem?_eq_some_iff.1 hx45b).1
      have h := h.open_ (22, 1) a1.toNat 0 (by simp only [EX, simprocAttr, Nat.blt, Nat.ble, hb36n, hx45a, hx45b, hx45c, hx45d] <;> rfl) (by simp only [EX, simprocAttr, Nat.blt, Nat.ble, hb36n, hx45a, hx45b, hx45c, hx45d] <;> rfl) (by simp only [EX, simprocAttr, Nat.blt, Nat.ble, hb36n, hx45a, hx45b, hx45c, hx45d] <;> rfl)
      have h := h.same [1, 5, 6, 7] [(2, 0), (3, 0), (22, 0), (22, 1), (23, 0), (25, 0)] 26 [(1, .one (.d (.int .i64 a1))), (5, .one (.ptr (2, 0) 0)), (6, .one (.ptr (3, 0) 0)), (7, .one (.ptr (23, 0) 0))]
        [((2, 0), some (.box 38 [.d (.int .i64 a2.Seq), .d (.int .i64 a2.Letter)])), ((3, 0), some (.box 36 [.d (.int .i64 0), .nil, .d (.int .i64 0), .d (.int .i64 0), .d (.int .i64 0), .nil, .nil, .nil])), ((22, 0), some (.row 4 1 (dat (List.map eB r39.Open)))), ((22, 1), some (.row 57 1 ((openRows cols_57 (List.map (eL eTMsg) r39.P.In)).set a1.toNat [.own (25, 0) x44.length]))), ((23, 0), some (.box 36 [.d (.int .i64 r39.Epoch), .own (22, 0) r39.Open.length, .d (.int .i64 r39.P.Node), .d (.int .i64 r39.P.State), .d (.int .i64 r39.P.Steps), .d (.sl (List.map eI r39.P.Sent)), .own (22, 1) r39.P.In.length, .d (.sl (List.map (eL eI) r39.P.Out))])), ((25, 0), some (.row 38 2 (dat (List.map eTMsg x44))))]
        (by simp only [EX, simprocAttr, Nat.blt, Nat.ble, hb36n, hx45a, hx45b, hx45c, hx45d, dat_open] <;> rfl)
      by_cases ha46 : (x44.length + 1) * 16 ≤ 140737488355328
      case neg => rw [if_neg ha46] at hD; cases hD
      rw [if_pos ha46] at hD
      refine rs_drawn 41 ty_hm [] [none, none, none, none, none, none, none, none, none, none, none, none, none, none, none] [6, 7] [(3, 0), (22, 0), (22, 1), (23, 0), (38, 0)] h rfl rfl (by simp only [EX, simprocAttr, Nat.blt, Nat.ble, tz_2, tz_3, tz_4, tz_23, tz_34, tz_36, tz_38, tz_57, hb36n, ha46, hx45a, hx45b, hx45c, hx45d] <;> rfl) (by kernel_rfl) fun ac wd h => ?_
      have h := h.foldS (cols := (fun _ => .sc)) (22, 1) (38, 0) (openRows cols_57 (List.map (eL eTMsg) r39.P.In)) a1.toNat [.own (38, 0) (x44.length + 1)] 0 (List.map eTMsg (x44 ++ [a2])) (by simp only [EX, simprocAttr, Nat.blt, Nat.ble, hb36n, hx45a, hx45b, hx45c, hx45d, ha46] <;> rfl) (by simp only [EX, simprocAttr, Nat.blt, Nat.ble]; exact hx45d) (by rfl) (by simp only [EX, simprocAttr, Nat.blt, Nat.ble, hb36n, hx45a, hx45b, hx45c, hx45d, ha46] <;> rfl) (by simp only [EX, simprocAttr, Nat.blt, Nat.ble, hb36n, hx45a, hx45b, hx45c, hx45d, ha46, dat_open] <;> rfl) (by simp only [EX, simprocAttr, Nat.blt, Nat.ble, hb36n, hx45a, hx45b, hx45c, hx45d, ha46] <;> rfl) (by decide) (sc_38 _)
      have h := h.same [6, 7] [(3, 0), (22, 0), (22, 1), (23, 0)] 41 [(6, .one (.ptr (3, 0) 0)), (7, .one (.ptr (23, 0) 0))]
        [((3, 0), some (.box 36 [.d (.int .i64 0), .nil, .d (.int .i64 0), .d (.int .i64 0), .d (.int .i64 0), .nil, .nil, .nil])), ((22, 0), some (.row 4 1 (dat (List.map eB r39.Open)))), ((22, 1), some (.row 57 1 ((openRows cols_57 (List.map (eL eTMsg) r39.P.In)).set a1.toNat [.tr (.sl 38 2 (fun _ => .sc)) (.sl (List.map eTMsg (x44 ++ [a2])))]))), ((23, 0), some (.box 36 [.d (.int .i64 r39.Epoch), .own (22, 0) r39.Open.length, .d (.int .i64 r39.P.Node), .d (.int .i64 r39.P.State), .d (.int .i64 r39.P.Steps), .d (.sl (List.map eI r39.P.Sent)), .own (22, 1) r39.P.In.length, .d (.sl (List.map (eL eI) r39.P.Out))]))]
        (by simp only [EX, simprocAttr, Nat.blt, Nat.ble, hb36n, hx45a, hx45b, hx45c, hx45d, ha46, dat_open] <;> rfl)
      refine rs_plain 43 [] [none, none] [6] [(3, 0), (22, 0), (22, 1)] h rfl rfl (by simp only [EX, simprocAttr, Nat.blt, Nat.ble, tz_36, hb36n, ha46] <;> rfl) fun ac wd h => ?_
      refine wp_ret ?_
      injection hD with hD
      subst hD
      exact r_retE rfl h [.cell 6 36] rfl (by simp only [retD, List.mapM_cons, List.mapM_nil, Option.bind_eq_bind, Option.pure_def, EX, simprocAttr, Nat.blt, Nat.ble, tz_36, hb36n, ha46] <;> rfl)

set_option maxRecDepth 20000 in
set_option maxHeartbeats 4000000 in
theorem L_law06_Ref_ok {a0 : TPiece} {r : TPiece} (hD : L_law06_Ref a0 = some r) :
    CallH Try.prog 27 [.agg [.d (.int .i64 a0.Node), .d (.int .i64 a0.State), .d (.int .i64 a0.Steps), .d (.sl (List.map eI a0.Sent)), .d (.sl (List.map (eL eTMsg) a0.In)), .d (.sl (List.map (eL eI) a0.Out))]] []
      (.agg [.d (.int .i64 r.Node), .d (.int .i64 r.State), .d (.int .i64 r.Steps), .d (.sl (List.map eI r.Sent)), .d (.sl (List.map (eL eTMsg) r.In)), .d (.sl (List.map (eL eI) r.Out))]) [] := by
  unfold L_law06_Ref at hD
  refine r_call Try.func27 rfl Try.ntmps27 (by kernel_rfl) (by rfl) (by rfl) (by simp) fun S Φ P0 wb ac h => ?_
  refine rs_plain 3 [] [none, none] [1, 2] [(1, 0), (2, 0)] h rfl rfl (by simp only [EX, simprocAttr, Nat.blt, Nat.ble, tz_31, tz_34] <;> rfl) fun ac wd h => ?_
  refine rs_plain 17 [] [none, none, none, none, none, none, none, none, none, none, none, none, none, none] [2] [(2, 0)] h rfl rfl (by simp only [EX, simprocAttr, Nat.blt, Nat.ble, tz_2, tz_3, tz_4, tz_5, tz_23, tz_24, tz_29, tz_31, tz_34, tz_38, tz_57] <;> rfl) fun ac wd h => ?_
  refine wp_ret ?_
  injection hD with hD
  subst hD
  exact r_retE rfl h [.cell 2 34] rfl (by simp only [retD, List.mapM_cons, List.mapM_nil, Option.bind_eq_bind, Option.pure_def, EX, simprocAttr, Nat.blt, Nat.ble, tz_34] <;> rfl)

set_option maxRecDepth 20000 in
set_option maxHeartbeats 4000000 in
theorem L_law10_Ref_ok {a0 : TMark} {r : TMark} (hD : L_law10_Ref a0 = some r) :
    CallH Try.prog 16 [.agg [.d (.int .i64 a0.Epoch), .d (.sl (List.map eB a0.Open)), .d (.int .i64 a0.P.Node), .d (.int .i64 a0.P.State), .d (.int .i64 a0.P.Steps), .d (.sl (List.map eI a0.P.Sent)), .d (.sl (List.map (eL eTMsg) a0.P.In)), .d (.sl (List.map (eL eI) a0.P.Out))]] []
      (.agg [.d (.int .i64 r.Epoch), .d (.sl (List.map eB r.Open)), .d (.int .i64 r.P.Node), .d (.int .i64 r.P.State), .d (.int .i64 r.P.Steps), .d (.sl (List.map eI r.P.Sent)), .d (.sl (List.map (eL eTMsg) r.P.In)), .d (.sl (List.map (eL eI) r.P.Out))]) [] := by
  unfold L_law10_Ref at hD
  refine r_call Try.func16 rfl Try.ntmps16 (by kernel_rfl) (by rfl) (by rfl) (by simp) fun S Φ P0 wb ac h => ?_
  refine rs_plain 3 [] [none, none] [1, 2] [(1, 0), (2, 0)] h rfl rfl (by simp only [EX, simprocAttr, Nat.blt, Nat.ble, tz_33, tz_36] <;> rfl) fun ac wd h => ?_
  obtain ⟨r7, hc8, hD⟩ := Option.bind_eq_some_iff.1 hD
  have hc8k := L_law06_Ref_ok hc8
  refine rs_drawn 12 ty_hm [factE 9 hc8k] [none, none, none, none, none, none, none, none, none] [2] [(2, 0)] h rfl rfl (by simp only [EX, simprocAttr, Nat.blt, Nat.ble, tz_2, tz_3, tz_4, tz_28, tz_31, tz_33, tz_34, tz_36] <;> rfl) (by kernel_rfl) fun ac wd h => ?_
  refine wp_ret ?_
  injection hD with hD
  subst hD
  exact r_retE rfl h [.cell 2 36] rfl (by simp only [retD, List.mapM_cons, List.mapM_nil, Option.bind_eq_bind, Option.pure_def, EX, simprocAttr, Nat.blt, Nat.ble, tz_36] <;> rfl)

set_option maxRecDepth 20000 in
set_option maxHeartbeats 4000000 in
theorem L_ref01_Ints_ok {a0 : (List Int)} {a1 : (List Int)} {r : Bool} (hD : L_ref01_Ints a0 a1 = some r) :
    CallH Try.prog 33 [.one (.d (.sl (List.map eI a0))), .one (.d (.sl (List.map eI a1)))] []
      (.one (.d (.bool r))) [] := by
  unfold L_ref01_Ints at hD
  refine r_call Try.func33 rfl Try.ntmps33 (by kernel_rfl) (by rfl) (by rfl) (by simp) fun S Φ P0 wb ac h => ?_
  refine rs_plain 2 [] [none] [0, 1] [] h rfl rfl (by simp only [EX, simprocAttr, Nat.blt, Nat.ble, tz_4] <;> rfl) fun ac wd h => ?_
  refine wp_seq ?_
  refine rs_plain 7 [] [none, none, none, none, none] [0, 1, 10] [] h rfl rfl (by simp only [EX, simprocAttr, Nat.blt, Nat.ble, tz_3, tz_4, tz_29] <;> rfl) fun ac wd h => ?_
  by_cases hb131 : (a0.length : Int) = (a1.length : Int)
  · rw [if_pos hb131] at hD
    have hb131t := eq_true hb131
    refine r_condF h (!(decide ((a0.length : Int) = (a1.length : Int)))) (by simp only [EX, simprocAttr, Nat.blt, Nat.ble, hb131t] <;> rfl) (by first | rfl | (simp only [EX, simprocAttr, Nat.blt, Nat.ble, hb131t] <;> rfl)) ?_
    refine wp_skip ?_
    change Code.wp Try.prog _ _ _ _
    refine wp_seq ?_
    refine rs_plain 8 [] [none] [0, 1, 5] [] h rfl rfl (by simp only [EX, simprocAttr, Nat.blt, Nat.ble, tz_3, hb131t] <;> rfl) fun ac wd h => ?_
    refine wp_block ?_
    have h := h.same [0, 1, 5] [] 40 [(0, .one (.d (.sl (List.map eI a0)))), (1, .one (.d (.sl (List.map eI a1)))), (5, .one (.d (.int .i64 0)))]
      []
      (by simp only [EX, simprocAttr, Nat.blt, Nat.ble, hb131t] <;> rfl)
    refine r_while (fun nf ac wd => ∃ (n235 : Int), L_ref01_Ints_l1 a0 a1 nf n235 = some r ∧ SL ⟨wb, S, Φ, P0⟩ 26 40 [(0, .one (.d (.sl (List.map eI a0)))), (1, .one (.d (.sl (List.map eI a1)))), (5, .one (.d (.int .i64 n235)))] [] ac wd) (((a0.length : Int) - 0).toNat + 1) ⟨0, hD, h⟩ (fun nf ac wd hJ => ?_)
    obtain ⟨n235, hL236, h⟩ := hJ
    cases nf with
    | zero => rw [L_ref01_Ints_l1] at hL236; cases hL236
    | succ nf =>
      rw [L_ref01_Ints_l1] at hL236
      refine wp_seq ?_
      refine rs_plain 44 [] [none, none, none, none] [0, 1, 5, 14] [] h rfl rfl (by simp only [EX, simprocAttr, Nat.blt, Nat.ble, tz_3, tz_4, tz_29, hb131t] <;> rfl) fun ac wd h => ?_
      by_cases hb238 : n235 < (a0.length : Int)
      · rw [if_pos hb238] at hL236
        refine r_condT h (decide (n235 < (a0.length : Int))) (by simp only [EX, simprocAttr, Nat.blt, Nat.ble, hb131t, hb238] <;> rfl) (by first | rfl | (simp only [EX, simprocAttr, Nat.blt, Nat.ble, hb131t, hb238] <;> rfl)) ?_
        refine wp_skip ?_
        change Code.wp Try.prog _ _ _ _
        refine wp_seq ?_
        refine wp_block ?_
        obtain ⟨x252, hx253, hL236⟩ := Option.bind_eq_some_iff.1 hL236
        obtain ⟨hx253a, hx253b, hx253c⟩ := at_some hx253
        have hx253d := (List.getElem?_eq_some_iff.1 hx253b).1
        obtain ⟨x254, hx255, hL236⟩ := Option.bind_eq_some_iff.1 hL236
        obtain ⟨hx255a, hx255b, hx255c⟩ := at_some hx255
        have hx255d := (List.getElem?_eq_some_iff.1 hx255b).1
        refine rs_drawn 53 ty_hm [] [none, none, none, none, none, none, none, none, none] [0, 1, 5, 25] [] h rfl rfl (by simp only [EX, simprocAttr, Nat.blt, Nat.ble, tz_3, tz_4, tz_29, hb131t, hb238, hx253a, hx253b, hx253c, hx253d, hx255a, hx255b, hx255c, hx255d] <;> rfl) (by kernel_rfl) fun ac wd h => ?_
        by_cases hb256 : x252 = x254
        · rw [if_pos hb256] at hL236
          have hb256t := eq_true hb256
          refine r_condF h (!(decide (x252 = x254))) (by simp only [EX, simprocAttr, Nat.blt, Nat.ble, hb131t, hb238, hb256t] <;> rfl) (by first | rfl | (simp only [EX, simprocAttr, Nat.blt, Nat.ble, hb131t, hb238, hb256t] <;> rfl)) ?_
          refine wp_skip ?_
          change Code.wp Try.prog _ _ _ _
          refine r_plain [] [none, none, none] [0, 1, 5] [] h rfl (by simp only [EX, simprocAttr, Nat.blt, Nat.ble, tz_3, hb131t, hb238, hb256t] <;> rfl) fun ac wd h => ?_
          have h := h.same [0, 1, 5] [] 40 [(0, .one (.d (.sl (List.map eI a0)))), (1, .one (.d (.sl (List.map eI a1)))), (5, .one (.d (.int .i64 (IntKind.wrap .i64 (n235 + 1)))))]
            []
            (by simp only [EX, simprocAttr, Nat.blt, Nat.ble, hb131t, hb238, hx253a, hx253b, hx253c, hx253d, hx255a, hx255b, hx255c, hx255d, hb256t] <;> rfl)
          change ∃ n', _ ∧ _
          exact ⟨nf, Nat.lt_succ_self nf, (IntKind.wrap .i64 (n235 + 1)), hL236, h⟩
        · rw [if_neg hb256] at hL236
          refine r_condT h (!(decide (x252 = x254))) (by simp only [EX, simprocAttr, Nat.blt, Nat.ble, hb131t, hb238, hb256] <;> rfl) (by first | rfl | (simp only [EX, simprocAttr, Nat.blt, Nat.ble, hb131t, hb238, hb256] <;> rfl)) ?_
          refine rs_plain 54 [] [none] [4] [] h rfl rfl (by simp only [EX, simprocAttr, Nat.blt, Nat.ble, tz_4, hb131t, hb238, hb256] <;> rfl) fun ac wd h => ?_
          refine wp_ret ?_
          injection hL236 with hL236
          subst hL236
          exact r_retE rfl h [.tmp 4] rfl (by simp only [retD, List.mapM_cons, List.mapM_nil, Option.bind_eq_bind, Option.pure_def, EX, simprocAttr, Nat.blt, Nat.ble, hb131t, hb238, hb256] <;> rfl)
      · rw [if_neg hb238] at hL236
        refine r_condF h (decide (n235 < (a0.length : Int))) (by simp only [EX, simprocAttr, Nat.blt, Nat.ble, hb131t, hb238] <;> rfl) (by first | rfl | (simp only [EX, simprocAttr, Nat.blt, Nat.ble, hb131t, hb238] <;> rfl)) ?_
        refine wp_exit ?_
        change Code.wp Try.prog _ _ _ _
        refine rs_plain 45 [] [none] [4] [] h rfl rfl (by simp only [EX, simprocAttr, Nat.blt, Nat.ble, tz_4, hb131t, hb238] <;> rfl) fun ac wd h => ?_
        refine wp_ret ?_
        injection hL236 with hL236
        subst hL236
        exact r_retE rfl h [.tmp 4] rfl (by simp only [retD, List.mapM_cons, List.mapM_nil, Option.bind_eq_bind, Option.pure_def, EX, simprocAttr, Nat.blt, Nat.ble, hb131t, hb238] <;> rfl)
  · rw [if_neg hb131] at hD
    refine r_condT h (!(decide ((a0.length : Int) = (a1.length : Int)))) (by simp only [EX, simprocAttr, Nat.blt, Nat.ble, hb131] <;> rfl) (by first | rfl | (simp only [EX, simprocAttr, Nat.blt, Nat.ble, hb131] <;> rfl)) ?_
    refine rs_plain 8 [] [none] [4] [] h rfl rfl (by simp only [EX, simprocAttr, Nat.blt, Nat.ble, tz_4, hb131] <;> rfl) fun ac wd h => ?_
    refine wp_ret ?_
    injection hD with hD
    subst hD
    exact r_retE rfl h [.tmp 4] rfl (by simp only [retD, List.mapM_cons, List.mapM_nil, Option.bind_eq_bind, Option.pure_def, EX, simprocAttr, Nat.blt, Nat.ble, hb131] <;> rfl)

set_option maxRecDepth 20000 in
set_option maxHeartbeats 4000000 in
theorem L_ref05_Msgs_ok {a0 : (List TMsg)} {a1 : (List TMsg)} {r : Bool} (hD : L_ref05_Msgs a0 a1 = some r) :
    CallH Try.prog 22 [.one (.d (.sl (List.map eTMsg a0))), .one (.d (.sl (List.map eTMsg a1)))] []
      (.one (.d (.bool r))) [] := by
  unfold L_ref05_Msgs at hD
  refine r_call Try.func22 rfl Try.ntmps22 (by kernel_rfl) (by rfl) (by rfl) (by simp) fun S Φ P0 wb ac h => ?_
  refine rs_plain 2 [] [none] [0, 1] [] h rfl rfl (by simp only [EX, simprocAttr, Nat.blt, Nat.ble, tz_4] <;> rfl) fun ac wd h => ?_
  refine wp_seq ?_
  refine rs_plain 7 [] [none, none, none, none, none] [0, 1, 10] [] h rfl rfl (by simp only [EX, simprocAttr, Nat.blt, Nat.ble, tz_3, tz_4, tz_38, tz_57] <;> rfl) fun ac wd h => ?_
  by_cases hb131 : (a0.length : Int) = (a1.length : Int)
  · rw [if_pos hb131] at hD
    have hb131t := eq_true hb131
    refine r_condF h (!(decide ((a0.length : Int) = (a1.length : Int)))) (by simp only [EX, simprocAttr, Nat.blt, Nat.ble, hb131t] <;> rfl) (by first | rfl | (simp only [EX, simprocAttr, Nat.blt, Nat.ble, hb131t] <;> rfl)) ?_
    refine wp_skip ?_
    change Code.wp Try.prog _ _ _ _
    refine wp_seq ?_
    refine rs_plain 8 [] [none] [0, 1, 5] [] h rfl rfl (by simp only [EX, simprocAttr, Nat.blt, Nat.ble, tz_3, hb131t] <;> rfl) fun ac wd h => ?_
    refine wp_block ?_
    have h := h.same [0, 1, 5] [] 40 [(0, .one (.d (.sl (List.map eTMsg a0)))), (1, .one (.d (.sl (List.map eTMsg a1)))), (5, .one (.d (.int .i64 0)))]
      []
      (by simp only [EX, simprocAttr, Nat.blt, Nat.ble, hb131t] <;> rfl)
    refine r_while (fun nf ac wd => ∃ (n235 : Int), L_ref05_Msgs_l1 a0 a1 nf n235 = some r ∧ SL ⟨wb, S, Φ, P0⟩ 26 40 [(0, .one (.d (.sl (List.map eTMsg a0)))), (1, .one (.d (.sl (List.map eTMsg a1)))), (5, .one (.d (.int .i64 n235)))] [] ac wd) (((a0.length : Int) - 0).toNat + 1) ⟨0, hD, h⟩ (fun nf ac wd hJ => ?_)
    obtain ⟨n235, hL236, h⟩ := hJ
    cases nf with
    | zero => rw [L_ref05_Msgs_l1] at hL236; cases hL236
    | succ nf =>
      rw [L_ref05_Msgs_l1] at hL236
      refine wp_seq ?_
      refine rs_plain 44 [] [none, none, none, none] [0, 1, 5, 14] [] h rfl rfl (by simp only [EX, simprocAttr, Nat.blt, Nat.ble, tz_3, tz_4, tz_38, tz_57, hb131t] <;> rfl) fun ac wd h => ?_
      by_cases hb238 : n235 < (a0.length : Int)
      · rw [if_pos hb238] at hL236
        refine r_condT h (decide (n235 < (a0.length : Int))) (by simp only [EX, simprocAttr, Nat.blt, Nat.ble, hb131t, hb238] <;> rfl) (by first | rfl | (simp only [EX, simprocAttr, Nat.blt, Nat.ble, hb131t, hb238] <;> rfl)) ?_
        refine wp_skip ?_
        change Code.wp Try.prog _ _ _ _
        refine wp_seq ?_
        refine wp_block ?_
        obtain ⟨x252, hx253, hL236⟩ := Option.bind_eq_some_iff.1 hL236
        obtain ⟨hx253a, hx253b, hx253c⟩ := at_some hx253
        have hx253d := (List.getElem?_eq_some_iff.1 hx253b).1
        obtain ⟨x254, hx255, hL236⟩ := Option.bind_eq_some_iff.1 hL236
        obtain ⟨hx255a, hx255b, hx255c⟩ := at_some hx255
        have hx255d := (List.getElem?_eq_some_iff.1 hx255b).1
        refine rs_drawn 53 ty_hm [] [none, none, none, none, none, none, none, none, none] [0, 1, 5, 25] [] h rfl rfl (by simp only [EX, simprocAttr, Nat.blt, Nat.ble, tz_3, tz_4, tz_38, tz_57, hb131t, hb238, hx253a, hx253b, hx253c, hx253d, hx255a, hx255b, hx255c, hx255d, eq_TMsg_vv] <;> rfl) (by kernel_rfl) fun ac wd h => ?_
        by_cases hb256 : x252 = x254
        · rw [if_pos hb256] at hL236
          have hb256t := eq_true hb256
          refine r_condF h (!(decide (x252 = x254))) (by simp only [EX, simprocAttr, Nat.blt, Nat.ble, hb131t, hb238, hb256t] <;> rfl) (by first | rfl | (simp only [EX, simprocAttr, Nat.blt, Nat.ble, hb131t, hb238, hb256t] <;> rfl)) ?_
          refine wp_skip ?_
          change Code.wp Try.prog _ _ _ _
          refine r_plain [] [none, none, none] [0, 1, 5] [] h rfl (by simp only [EX, simprocAttr, Nat.blt, Nat.ble, tz_3, hb131t, hb238, hb256t] <;> rfl) fun ac wd h => ?_
          have h := h.same [0, 1, 5] [] 40 [(0, .one (.d (.sl (List.map eTMsg a0)))), (1, .one (.d (.sl (List.map eTMsg a1)))), (5, .one (.d (.int .i64 (IntKind.wrap .i64 (n235 + 1)))))]
            []
            (by simp only [EX, simprocAttr, Nat.blt, Nat.ble, hb131t, hb238, hx253a, hx253b, hx253c, hx253d, hx255a, hx255b, hx255c, hx255d, hb256t] <;> rfl)
          change ∃ n', _ ∧ _
          exact ⟨nf, Nat.lt_succ_self nf, (IntKind.wrap .i64 (n235 + 1)), hL236, h⟩
        · rw [if_neg hb256] at hL236
          refine r_condT h (!(decide (x252 = x254))) (by simp only [EX, simprocAttr, Nat.blt, Nat.ble, hb131t, hb238, hb256] <;> rfl) (by first | rfl | (simp only [EX, simprocAttr, Nat.blt, Nat.ble, hb131t, hb238, hb256] <;> rfl)) ?_
          refine rs_plain 54 [] [none] [4] [] h rfl rfl (by simp only [EX, simprocAttr, Nat.blt, Nat.ble, tz_4, hb131t, hb238, hb256] <;> rfl) fun ac wd h => ?_
          refine wp_ret ?_
          injection hL236 with hL236
          subst hL236
          exact r_retE rfl h [.tmp 4] rfl (by simp only [retD, List.mapM_cons, List.mapM_nil, Option.bind_eq_bind, Option.pure_def, EX, simprocAttr, Nat.blt, Nat.ble, hb131t, hb238, hb256] <;> rfl)
      · rw [if_neg hb238] at hL236
        refine r_condF h (decide (n235 < (a0.length : Int))) (by simp only [EX, simprocAttr, Nat.blt, Nat.ble, hb131t, hb238] <;> rfl) (by first | rfl | (simp only [EX, simprocAttr, Nat.blt, Nat.ble, hb131t, hb238] <;> rfl)) ?_
        refine wp_exit ?_
        change Code.wp Try.prog _ _ _ _
        refine rs_plain 45 [] [none] [4] [] h rfl rfl (by simp only [EX, simprocAttr, Nat.blt, Nat.ble, tz_4, hb131t, hb238] <;> rfl) fun ac wd h => ?_
        refine wp_ret ?_
        injection hL236 with hL236
        subst hL236
        exact r_retE rfl h [.tmp 4] rfl (by simp only [retD, List.mapM_cons, List.mapM_nil, Option.bind_eq_bind, Option.pure_def, EX, simprocAttr, Nat.blt, Nat.ble, hb131t, hb238] <;> rfl)
  · rw [if_neg hb131] at hD
    refine r_condT h (!(decide ((a0.length : Int) = (a1.length : Int)))) (by simp only [EX, simprocAttr, Nat.blt, Nat.ble, hb131] <;> rfl) (by first | rfl | (simp only [EX, simprocAttr, Nat.blt, Nat.ble, hb131] <;> rfl)) ?_
    refine rs_plain 8 [] [none] [4] [] h rfl rfl (by simp only [EX, simprocAttr, Nat.blt, Nat.ble, tz_4, hb131] <;> rfl) fun ac wd h => ?_
    refine wp_ret ?_
    injection hD with hD
    subst hD
    exact r_retE rfl h [.tmp 4] rfl (by simp only [retD, List.mapM_cons, List.mapM_nil, Option.bind_eq_bind, Option.pure_def, EX, simprocAttr, Nat.blt, Nat.ble, hb131] <;> rfl)

set_option maxRecDepth 20000 in
set_option maxHeartbeats 4000000 in
theorem L_ref06_Same_ok {a0 : TPiece} {a1 : TPiece} {r : Bool} (hD : L_ref06_Same a0 a1 = some r) :
    CallH Try.prog 26 [.agg [.d (.int .i64 a0.Node), .d (.int .i64 a0.State), .d (.int .i64 a0.Steps), .d (.sl (List.map eI a0.Sent)), .d (.sl (List.map (eL eTMsg) a0.In)), .d (.sl (List.map (eL eI) a0.Out))], .agg [.d (.int .i64 a1.Node), .d (.int .i64 a1.State), .d (.int .i64 a1.Steps), .d (.sl (List.map eI a1.Sent)), .d (.sl (List.map (eL eTMsg) a1.In)), .d (.sl (List.map (eL eI) a1.Out))]] []
      (.one (.d (.bool r))) [] := by
  unfold L_ref06_Same at hD
  refine r_call Try.func26 rfl Try.ntmps26 (by kernel_rfl) (by rfl) (by rfl) (by simp) fun S Φ P0 wb ac h => ?_
  refine rs_plain 4 [] [none, none, none] [2, 3] [(1, 0), (2, 0)] h rfl rfl (by simp only [EX, simprocAttr, Nat.blt, Nat.ble, tz_4, tz_34] <;> rfl) fun ac wd h => ?_
  refine wp_seq ?_
  obtain ⟨e378, hE379, hD⟩ := Option.bind_eq_some_iff.1 hD
  refine r_seqJ (fun ac wd => ∃ (b377 : Bool), b377 = e378 ∧ SL ⟨wb, S, Φ, P0⟩ 90 49 [(2, .one (.ptr (1, 0) 0)), (3, .one (.ptr (2, 0) 0)), (51, .one (.d (.bool b377)))] [((1, 0), some (.box 34 [.d (.int .i64 a0.Node), .d (.int .i64 a0.State), .d (.int .i64 a0.Steps), .d (.sl (List.map eI a0.Sent)), .d (.sl (List.map (eL eTMsg) a0.In)), .d (.sl (List.map (eL eI) a0.Out))])), ((2, 0), some (.box 34 [.d (.int .i64 a1.Node), .d (.int .i64 a1.State), .d (.int .i64 a1.Steps), .d (.sl (List.map eI a1.Sent)), .d (.sl (List.map (eL eTMsg) a1.In)), .d (.sl (List.map (eL eI) a1.Out))]))] ac wd) ?_ ?_
  · skip
    by_cases hb380 : a0.Node = a1.Node
    · rw [if_pos hb380] at hE379
      have hb380t := eq_true hb380
      by_cases hb381 : a0.State = a1.State
      · rw [if_pos hb381] at hE379
        have hb381t := eq_true hb381
        by_cases hb382 : a0.Steps = a1.Steps
        · rw [if_pos hb382] at hE379
          have hb382t := eq_true hb382
          obtain ⟨r383, hc384, hE379⟩ := Option.bind_eq_some_iff.1 hE379
          by_cases hb385 : r383 = true
          · rw [if_pos hb385] at hE379
            by_cases hb386 : (a0.In.length : Int) = (a1.In.length : Int)
            · rw [if_pos hb386] at hE379
              have hb386t := eq_true hb386
              have hc384k := L_ref01_Ints_ok hc384
              refine r_plain [factE 28 hc384k] [none, none, none, none, none, none, some (some 12, false), some (some 12, false), some (some 12, false), some (some 12, false), some (some 12, false), none, none, some (some 19, false), some (some 19, false), some (some 19, false), some (some 19, false), some (some 19, false), none, none, some (some 26, false), some (some 26, false), some (some 26, false), some (some 26, false), some (some 26, false), some (some 26, false), none, none, some (some 34, false), some (some 34, false), some (some 34, false), some (some 34, false), some (some 34, false), some (some 34, false), some (some 34, false), none, none, some (some 43, false), some (some 43, false), some (some 43, false), some (some 43, false), some (some 43, false), some (some 43, false), some (some 43, false), none] [2, 3, 51] [(1, 0), (2, 0)] h rfl (by simp (maxSteps := 10000000) only [EX, simprocAttr, Nat.blt, Nat.ble, tz_2, tz_3, tz_4, tz_5, tz_23, tz_24, tz_29, tz_34, tz_38, tz_57, hb380t, hb381t, hb382t, hb385, hb386t] <;> rfl) fun ac wd h => ?_
              have h := h.same [2, 3, 51] [(1, 0), (2, 0)] 49 [(2, .one (.ptr (1, 0) 0)), (3, .one (.ptr (2, 0) 0)), (51, .one (.d (.bool (!(decide ((a0.Out.length : Int) = (a1.Out.length : Int)))))))]
                [((1, 0), some (.box 34 [.d (.int .i64 a0.Node), .d (.int .i64 a0.State), .d (.int .i64 a0.Steps), .d (.sl (List.map eI a0.Sent)), .d (.sl (List.map (eL eTMsg) a0.In)), .d (.sl (List.map (eL eI) a0.Out))])), ((2, 0), some (.box 34 [.d (.int .i64 a1.Node), .d (.int .i64 a1.State), .d (.int .i64 a1.Steps), .d (.sl (List.map eI a1.Sent)), .d (.sl (List.map (eL eTMsg) a1.In)), .d (.sl (List.map (eL eI) a1.Out))]))]
                (by simp only [EX, simprocAttr, Nat.blt, Nat.ble, hb380t, hb381t, hb382t, hb385, hb386t] <;> rfl)
              injection hE379 with hE379
              exact ⟨!(decide ((a0.Out.length : Int) = (a1.Out.length : Int))), hE379, h⟩
            · rw [if_neg hb386] at hE379
              have hc384k := L_ref01_Ints_ok hc384
              refine r_plain [factE 28 hc384k] [none, none, none, none, none, none, some (some 12, false), some (some 12, false), some (some 12, false), some (some 12, false), some (some 12, false), none, none, some (some 19, false), some (some 19, false), some (some 19, false), some (some 19, false), some (some 19, false), none, none, some (some 26, false), some (some 26, false), some (some 26, false), some (some 26, false), some (some 26, false), some (some 26, false), none, none, some (some 34, false), some (some 34, false), some (some 34, false), some (some 34, false), some (some 34, false), some (some 34, false), some (some 34, false), none, none, some (some 43, false), some (some 43, false), some (some 43, false), some (some 43, false), some (some 43, false), some (some 43, false), some (some 43, false), none] [2, 3, 51] [(1, 0), (2, 0)] h rfl (by simp (maxSteps := 10000000) only [EX, simprocAttr, Nat.blt, Nat.ble, tz_2, tz_3, tz_4, tz_5, tz_23, tz_24, tz_29, tz_34, tz_38, tz_57, hb380t, hb381t, hb382t, hb385, hb386] <;> rfl) fun ac wd h => ?_
              have h := h.same [2, 3, 51] [(1, 0), (2, 0)] 49 [(2, .one (.ptr (1, 0) 0)), (3, .one (.ptr (2, 0) 0)), (51, .one (.d (.bool true)))]
                [((1, 0), some (.box 34 [.d (.int .i64 a0.Node), .d (.int .i64 a0.State), .d (.int .i64 a0.Steps), .d (.sl (List.map eI a0.Sent)), .d (.sl (List.map (eL eTMsg) a0.In)), .d (.sl (List.map (eL eI) a0.Out))])), ((2, 0), some (.box 34 [.d (.int .i64 a1.Node), .d (.int .i64 a1.State), .d (.int .i64 a1.Steps), .d (.sl (List.map eI a1.Sent)), .d (.sl (List.map (eL eTMsg) a1.In)), .d (.sl (List.map (eL eI) a1.Out))]))]
                (by simp only [EX, simprocAttr, Nat.blt, Nat.ble, hb380t, hb381t, hb382t, hb385, hb386] <;> rfl)
              injection hE379 with hE379
              exact ⟨true, hE379, h⟩
          · rw [if_neg hb385] at hE379
            have hb385n := eq_false_of_ne_true hb385
            have hc384k := L_ref01_Ints_ok hc384
            refine r_plain [factE 28 hc384k] [none, none, none, none, none, none, some (some 12, false), some (some 12, false), some (some 12, false), some (some 12, false), some (some 12, false), none, none, some (some 19, false), some (some 19, false), some (some 19, false), some (some 19, false), some (some 19, false), none, none, some (some 26, false), some (some 26, false), some (some 26, false), some (some 26, false), some (some 26, false), some (some 26, false), none, none, some (some 34, false), some (some 34, false), some (some 34, false), some (some 34, false), some (some 34, false), some (some 34, false), some (some 34, false), none, none, some (some 43, false), some (some 43, false), some (some 43, false), some (some 43, false), some (some 43, false), some (some 43, false), some (some 43, false), none] [2, 3, 51] [(1, 0), (2, 0)] h rfl (by simp (maxSteps := 10000000) only [EX, simprocAttr, Nat.blt, Nat.ble, tz_2, tz_3, tz_4, tz_5, tz_23, tz_24, tz_29, tz_34, tz_38, tz_57, hb380t, hb381t, hb382t, hb385n] <;> rfl) fun ac wd h => ?_
            have h := h.same [2, 3, 51] [(1, 0), (2, 0)] 49 [(2, .one (.ptr (1, 0) 0)), (3, .one (.ptr (2, 0) 0)), (51, .one (.d (.bool true)))]
              [((1, 0), some (.box 34 [.d (.int .i64 a0.Node), .d (.int .i64 a0.State), .d (.int .i64 a0.Steps), .d (.sl (List.map eI a0.Sent)), .d (.sl (List.map (eL eTMsg) a0.In)), .d (.sl (List.map (eL eI) a0.Out))])), ((2, 0), some (.box 34 [.d (.int .i64 a1.Node), .d (.int .i64 a1.State), .d (.int .i64 a1.Steps), .d (.sl (List.map eI a1.Sent)), .d (.sl (List.map (eL eTMsg) a1.In)), .d (.sl (List.map (eL eI) a1.Out))]))]
              (by simp only [EX, simprocAttr, Nat.blt, Nat.ble, hb380t, hb381t, hb382t, hb385n] <;> rfl)
            injection hE379 with hE379
            exact ⟨true, hE379, h⟩
        · rw [if_neg hb382] at hE379
          refine r_plain [] [none, none, none, none, none, none, some (some 12, false), some (some 12, false), some (some 12, false), some (some 12, false), some (some 12, false), none, none, some (some 19, false), some (some 19, false), some (some 19, false), some (some 19, false), some (some 19, false), none, none, some (some 26, false), some (some 26, false), some (some 26, false), some (some 26, false), some (some 26, false), some (some 26, false), none, none, some (some 34, false), some (some 34, false), some (some 34, false), some (some 34, false), some (some 34, false), some (some 34, false), some (some 34, false), none, none, some (some 43, false), some (some 43, false), some (some 43, false), some (some 43, false), some (some 43, false), some (some 43, false), some (some 43, false), none] [2, 3, 51] [(1, 0), (2, 0)] h rfl (by simp (maxSteps := 10000000) only [EX, simprocAttr, Nat.blt, Nat.ble, tz_2, tz_3, tz_4, tz_5, tz_23, tz_24, tz_29, tz_34, tz_38, tz_57, hb380t, hb381t, hb382] <;> rfl) fun ac wd h => ?_
          have h := h.same [2, 3, 51] [(1, 0), (2, 0)] 49 [(2, .one (.ptr (1, 0) 0)), (3, .one (.ptr (2, 0) 0)), (51, .one (.d (.bool true)))]
            [((1, 0), some (.box 34 [.d (.int .i64 a0.Node), .d (.int .i64 a0.State), .d (.int .i64 a0.Steps), .d (.sl (List.map eI a0.Sent)), .d (.sl (List.map (eL eTMsg) a0.In)), .d (.sl (List.map (eL eI) a0.Out))])), ((2, 0), some (.box 34 [.d (.int .i64 a1.Node), .d (.int .i64 a1.State), .d (.int .i64 a1.Steps), .d (.sl (List.map eI a1.Sent)), .d (.sl (List.map (eL eTMsg) a1.In)), .d (.sl (List.map (eL eI) a1.Out))]))]
            (by simp only [EX, simprocAttr, Nat.blt, Nat.ble, hb380t, hb381t, hb382] <;> rfl)
          injection hE379 with hE379
          exact ⟨true, hE379, h⟩
      · rw [if_neg hb381] at hE379
        refine r_plain [] [none, none, none, none, none, none, some (some 12, false), some (some 12, false), some (some 12, false), some (some 12, false), some (some 12, false), none, none, some (some 19, false), some (some 19, false), some (some 19, false), some (some 19, false), some (some 19, false), none, none, some (some 26, false), some (some 26, false), some (some 26, false), some (some 26, false), some (some 26, false), some (some 26, false), none, none, some (some 34, false), some (some 34, false), some (some 34, false), some (some 34, false), some (some 34, false), some (some 34, false), some (some 34, false), none, none, some (some 43, false), some (some 43, false), some (some 43, false), some (some 43, false), some (some 43, false), some (some 43, false), some (some 43, false), none] [2, 3, 51] [(1, 0), (2, 0)] h rfl (by simp (maxSteps := 10000000) only [EX, simprocAttr, Nat.blt, Nat.ble, tz_2, tz_3, tz_4, tz_5, tz_23, tz_24, tz_29, tz_34, tz_38, tz_57, hb380t, hb381] <;> rfl) fun ac wd h => ?_
        have h := h.same [2, 3, 51] [(1, 0), (2, 0)] 49 [(2, .one (.ptr (1, 0) 0)), (3, .one (.ptr (2, 0) 0)), (51, .one (.d (.bool true)))]
          [((1, 0), some (.box 34 [.d (.int .i64 a0.Node), .d (.int .i64 a0.State), .d (.int .i64 a0.Steps), .d (.sl (List.map eI a0.Sent)), .d (.sl (List.map (eL eTMsg) a0.In)), .d (.sl (List.map (eL eI) a0.Out))])), ((2, 0), some (.box 34 [.d (.int .i64 a1.Node), .d (.int .i64 a1.State), .d (.int .i64 a1.Steps), .d (.sl (List.map eI a1.Sent)), .d (.sl (List.map (eL eTMsg) a1.In)), .d (.sl (List.map (eL eI) a1.Out))]))]
          (by simp only [EX, simprocAttr, Nat.blt, Nat.ble, hb380t, hb381] <;> rfl)
        injection hE379 with hE379
        exact ⟨true, hE379, h⟩
    · rw [if_neg hb380] at hE379
      refine r_plain [] [none, none, none, none, none, none, some (some 12, false), some (some 12, false), some (some 12, false), some (some 12, false), some (some 12, false), none, none, some (some 19, false), some (some 19, false), some (some 19, false), some (some 19, false), some (some 19, false), none, none, some (some 26, false), some (some 26, false), some (some 26, false), some (some 26, false), some (some 26, false), some (some 26, false), none, none, some (some 34, false), some (some 34, false), some (some 34, false), some (some 34, false), some (some 34, false), some (some 34, false), some (some 34, false), none, none, some (some 43, false), some (some 43, false), some (some 43, false), some (some 43, false), some (some 43, false), some (some 43, false), some (some 43, false), none] [2, 3, 51] [(1, 0), (2, 0)] h rfl (by simp (maxSteps := 10000000) only [EX, simprocAttr, Nat.blt, Nat.ble, tz_2, tz_3, tz_4, tz_5, tz_23, tz_24, tz_29, tz_34, tz_38, tz_57, hb380] <;> rfl) fun ac wd h => ?_
      have h := h.same [2, 3, 51] [(1, 0), (2, 0)] 49 [(2, .one (.ptr (1, 0) 0)), (3, .one (.ptr (2, 0) 0)), (51, .one (.d (.bool true)))]
        [((1, 0), some (.box 34 [.d (.int .i64 a0.Node), .d (.int .i64 a0.State), .d (.int .i64 a0.Steps), .d (.sl (List.map eI a0.Sent)), .d (.sl (List.map (eL eTMsg) a0.In)), .d (.sl (List.map (eL eI) a0.Out))])), ((2, 0), some (.box 34 [.d (.int .i64 a1.Node), .d (.int .i64 a1.State), .d (.int .i64 a1.Steps), .d (.sl (List.map eI a1.Sent)), .d (.sl (List.map (eL eTMsg) a1.In)), .d (.sl (List.map (eL eI) a1.Out))]))]
        (by simp only [EX, simprocAttr, Nat.blt, Nat.ble, hb380] <;> rfl)
      injection hE379 with hE379
      exact ⟨true, hE379, h⟩
  · skip
    rintro ac wd ⟨b377, rfl, h⟩
    (try dsimp only at hD)
    by_cases hb388 : b377 = true
    · rw [if_pos hb388] at hD
      refine r_condT h b377 (by simp only [EX, simprocAttr, Nat.blt, Nat.ble, hb388] <;> rfl) (by first | rfl | (simp only [EX, simprocAttr, Nat.blt, Nat.ble, hb388] <;> rfl)) ?_
      refine rs_plain 50 [] [none] [4] [] h rfl rfl (by simp only [EX, simprocAttr, Nat.blt, Nat.ble, tz_4, hb388] <;> rfl) fun ac wd h => ?_
      refine wp_ret ?_
      injection hD with hD
      subst hD
      exact r_retE rfl h [.tmp 4] rfl (by simp only [retD, List.mapM_cons, List.mapM_nil, Option.bind_eq_bind, Option.pure_def, EX, simprocAttr, Nat.blt, Nat.ble, hb388] <;> rfl)
    · rw [if_neg hb388] at hD
      have hb388n := eq_false_of_ne_true hb388
      refine r_condF h b377 (by simp only [EX, simprocAttr, Nat.blt, Nat.ble, hb388n] <;> rfl) (by first | rfl | (simp only [EX, simprocAttr, Nat.blt, Nat.ble, hb388n] <;> rfl)) ?_
      refine wp_skip ?_
      change Code.wp Try.prog _ _ _ _
      refine wp_seq ?_
      refine rs_plain 50 [] [none] [2, 3, 5] [(1, 0), (2, 0)] h rfl rfl (by simp only [EX, simprocAttr, Nat.blt, Nat.ble, tz_3, hb388n] <;> rfl) fun ac wd h => ?_
      obtain ⟨e475, hE476, hD⟩ := Option.bind_eq_some_iff.1 hD
      refine r_meet (fun ac wd => (.inl ()) = e475 ∧ SL ⟨wb, S, Φ, P0⟩ 90 95 [(2, .one (.ptr (1, 0) 0)), (3, .one (.ptr (2, 0) 0))] [((1, 0), some (.box 34 [.d (.int .i64 a0.Node), .d (.int .i64 a0.State), .d (.int .i64 a0.Steps), .d (.sl (List.map eI a0.Sent)), .d (.sl (List.map (eL eTMsg) a0.In)), .d (.sl (List.map (eL eI) a0.Out))])), ((2, 0), some (.box 34 [.d (.int .i64 a1.Node), .d (.int .i64 a1.State), .d (.int .i64 a1.Steps), .d (.sl (List.map eI a1.Sent)), .d (.sl (List.map (eL eTMsg) a1.In)), .d (.sl (List.map (eL eI) a1.Out))]))] ac wd) ?_ ?_
      · skip
        refine wp_block ?_
        have h := h.same [2, 3, 5] [(1, 0), (2, 0)] 90 [(2, .one (.ptr (1, 0) 0)), (3, .one (.ptr (2, 0) 0)), (5, .one (.d (.int .i64 0)))]
          [((1, 0), some (.box 34 [.d (.int .i64 a0.Node), .d (.int .i64 a0.State), .d (.int .i64 a0.Steps), .d (.sl (List.map eI a0.Sent)), .d (.sl (List.map (eL eTMsg) a0.In)), .d (.sl (List.map (eL eI) a0.Out))])), ((2, 0), some (.box 34 [.d (.int .i64 a1.Node), .d (.int .i64 a1.State), .d (.int .i64 a1.Steps), .d (.sl (List.map eI a1.Sent)), .d (.sl (List.map (eL eTMsg) a1.In)), .d (.sl (List.map (eL eI) a1.Out))]))]
          (by simp only [EX, simprocAttr, Nat.blt, Nat.ble, hb388n] <;> rfl)
        refine r_while (fun nf ac wd => ∃ (n534 : Int), L_ref06_Same_l1 a0 a1 nf n534 = some e475 ∧ SL ⟨wb, S, Φ, P0⟩ 90 90 [(2, .one (.ptr (1, 0) 0)), (3, .one (.ptr (2, 0) 0)), (5, .one (.d (.int .i64 n534)))] [((1, 0), some (.box 34 [.d (.int .i64 a0.Node), .d (.int .i64 a0.State), .d (.int .i64 a0.Steps), .d (.sl (List.map eI a0.Sent)), .d (.sl (List.map (eL eTMsg) a0.In)), .d (.sl (List.map (eL eI) a0.Out))])), ((2, 0), some (.box 34 [.d (.int .i64 a1.Node), .d (.int .i64 a1.State), .d (.int .i64 a1.Steps), .d (.sl (List.map eI a1.Sent)), .d (.sl (List.map (eL eTMsg) a1.In)), .d (.sl (List.map (eL eI) a1.Out))]))] ac wd) (((a0.In.length : Int) - 0).toNat + 1) ⟨0, hE476, h⟩ (fun nf ac wd hJ => ?_)
        obtain ⟨n534, hL535, h⟩ := hJ
        cases nf with
        | zero => rw [L_ref06_Same_l1] at hL535; cases hL535
        | succ nf =>
          rw [L_ref06_Same_l1] at hL535
          refine wp_seq ?_
          refine rs_plain 95 [] [none, none, none, none, none] [2, 3, 5, 56] [(1, 0), (2, 0)] h rfl rfl (by simp only [EX, simprocAttr, Nat.blt, Nat.ble, tz_3, tz_4, tz_23, tz_34, tz_38, tz_57, hb388n] <;> rfl) fun ac wd h => ?_
          by_cases hb537 : n534 < (a0.In.length : Int)
          · rw [if_pos hb537] at hL535
            refine r_condT h (decide (n534 < (a0.In.length : Int))) (by simp only [EX, simprocAttr, Nat.blt, Nat.ble, hb388n, hb537] <;> rfl) (by first | rfl | (simp only [EX, simprocAttr, Nat.blt, Nat.ble, hb388n, hb537] <;> rfl)) ?_
            refine wp_skip ?_
            change Code.wp Try.prog _ _ _ _
            refine wp_seq ?_
            refine wp_block ?_
            obtain ⟨x557, hx558, hL535⟩ := Option.bind_eq_some_iff.1 hL535
            obtain ⟨hx558a, hx558b, hx558c⟩ := at_some hx558
            have hx558d := (List.getElem?_eq_some_iff.1 hx558b).1
            obtain ⟨x559, hx560, hL535⟩ := Option.bind_eq_some_iff.1 hL535
            obtain ⟨hx560a, hx560b, hx560c⟩ := at_some hx560
            have hx560d := (List.getElem?_eq_some_iff.1 hx560b).1
            obtain ⟨r561, hc562, hL535⟩ := Option.bind_eq_some_iff.1 hL535
            have hc562k := L_ref05_Msgs_ok hc562
            refine rs_drawn 107 ty_hm [factE 105 hc562k] [none, none, none, none, none, none, none, none, none, none, none, none] [2, 3, 5, 70] [(1, 0), (2, 0)] h rfl rfl (by simp only [EX, simprocAttr, Nat.blt, Nat.ble, tz_3, tz_4, tz_23, tz_34, tz_38, tz_57, hb388n, hb537, hx558a, hx558b, hx558c, hx558d, hx560a, hx560b, hx560c, hx560d] <;> rfl) (by kernel_rfl) fun ac wd h => ?_
            by_cases hb563 : r561 = true
            · rw [if_pos hb563] at hL535
              refine r_condF h (!(r561)) (by simp only [EX, simprocAttr, Nat.blt, Nat.ble, hb388n, hb537, hb563] <;> rfl) (by first | rfl | (simp only [EX, simprocAttr, Nat.blt, Nat.ble, hb388n, hb537, hb563] <;> rfl)) ?_
              refine wp_skip ?_
              change Code.wp Try.prog _ _ _ _
              refine r_plain [] [none, none, none] [2, 3, 5] [(1, 0), (2, 0)] h rfl (by simp only [EX, simprocAttr, Nat.blt, Nat.ble, tz_3, hb388n, hb537, hb563] <;> rfl) fun ac wd h => ?_
              have h := h.same [2, 3, 5] [(1, 0), (2, 0)] 90 [(2, .one (.ptr (1, 0) 0)), (3, .one (.ptr (2, 0) 0)), (5, .one (.d (.int .i64 (IntKind.wrap .i64 (n534 + 1)))))]
                [((1, 0), some (.box 34 [.d (.int .i64 a0.Node), .d (.int .i64 a0.State), .d (.int .i64 a0.Steps), .d (.sl (List.map eI a0.Sent)), .d (.sl (List.map (eL eTMsg) a0.In)), .d (.sl (List.map (eL eI) a0.Out))])), ((2, 0), some (.box 34 [.d (.int .i64 a1.Node), .d (.int .i64 a1.State), .d (.int .i64 a1.Steps), .d (.sl (List.map eI a1.Sent)), .d (.sl (List.map (eL eTMsg) a1.In)), .d (.sl (List.map (eL eI) a1.Out))]))]
                (by simp only [EX, simprocAttr, Nat.blt, Nat.ble, hb388n, hb537, hx558a, hx558b, hx558c, hx558d, hx560a, hx560b, hx560c, hx560d, hb563] <;> rfl)
              change ∃ n', _ ∧ _
              exact ⟨nf, Nat.lt_succ_self nf, (IntKind.wrap .i64 (n534 + 1)), hL535, h⟩
            · rw [if_neg hb563] at hL535
              have hb563n := eq_false_of_ne_true hb563
              refine r_condT h (!(r561)) (by simp only [EX, simprocAttr, Nat.blt, Nat.ble, hb388n, hb537, hb563n] <;> rfl) (by first | rfl | (simp only [EX, simprocAttr, Nat.blt, Nat.ble, hb388n, hb537, hb563n] <;> rfl)) ?_
              refine rs_plain 108 [] [none] [4] [] h rfl rfl (by simp only [EX, simprocAttr, Nat.blt, Nat.ble, tz_4, hb388n, hb537, hb563n] <;> rfl) fun ac wd h => ?_
              refine wp_ret ?_
              injection hL535 with hL535
              subst hL535
              (try dsimp only at hD)
              injection hD with hD
              subst hD
              exact r_retE rfl h [.tmp 4] rfl (by simp only [retD, List.mapM_cons, List.mapM_nil, Option.bind_eq_bind, Option.pure_def, EX, simprocAttr, Nat.blt, Nat.ble, hb388n, hb537, hb563n] <;> rfl)
          · rw [if_neg hb537] at hL535
            refine r_condF h (decide (n534 < (a0.In.length : Int))) (by simp only [EX, simprocAttr, Nat.blt, Nat.ble, hb388n, hb537] <;> rfl) (by first | rfl | (simp only [EX, simprocAttr, Nat.blt, Nat.ble, hb388n, hb537] <;> rfl)) ?_
            refine wp_exit ?_
            have h := h.same [2, 3] [(1, 0), (2, 0)] 95 [(2, .one (.ptr (1, 0) 0)), (3, .one (.ptr (2, 0) 0))]
              [((1, 0), some (.box 34 [.d (.int .i64 a0.Node), .d (.int .i64 a0.State), .d (.int .i64 a0.Steps), .d (.sl (List.map eI a0.Sent)), .d (.sl (List.map (eL eTMsg) a0.In)), .d (.sl (List.map (eL eI) a0.Out))])), ((2, 0), some (.box 34 [.d (.int .i64 a1.Node), .d (.int .i64 a1.State), .d (.int .i64 a1.Steps), .d (.sl (List.map eI a1.Sent)), .d (.sl (List.map (eL eTMsg) a1.In)), .d (.sl (List.map (eL eI) a1.Out))]))]
              (by simp only [EX, simprocAttr, Nat.blt, Nat.ble, hb388n, hb537] <;> rfl)
            injection hL535 with hL535
            exact ⟨hL535, h⟩
      · skip
        rintro ac wd ⟨rfl, h⟩
        (try dsimp only at hD)
        refine wp_seq ?_
        refine rs_plain 96 [] [none] [2, 3, 6] [(1, 0), (2, 0)] h rfl rfl (by simp only [EX, simprocAttr, Nat.blt, Nat.ble, tz_3, hb388n] <;> rfl) fun ac wd h => ?_
        refine wp_block ?_
        have h := h.same [2, 3, 6] [(1, 0), (2, 0)] 136 [(2, .one (.ptr (1, 0) 0)), (3, .one (.ptr (2, 0) 0)), (6, .one (.d (.int .i64 0)))]
          [((1, 0), some (.box 34 [.d (.int .i64 a0.Node), .d (.int .i64 a0.State), .d (.int .i64 a0.Steps), .d (.sl (List.map eI a0.Sent)), .d (.sl (List.map (eL eTMsg) a0.In)), .d (.sl (List.map (eL eI) a0.Out))])), ((2, 0), some (.box 34 [.d (.int .i64 a1.Node), .d (.int .i64 a1.State), .d (.int .i64 a1.Steps), .d (.sl (List.map eI a1.Sent)), .d (.sl (List.map (eL eTMsg) a1.In)), .d (.sl (List.map (eL eI) a1.Out))]))]
          (by simp only [EX, simprocAttr, Nat.blt, Nat.ble, hb388n] <;> rfl)
        refine r_while (fun nf ac wd => ∃ (n707 : Int), L_ref06_Same_l2 a0 a1 nf n707 = some r ∧ SL ⟨wb, S, Φ, P0⟩ 90 136 [(2, .one (.ptr (1, 0) 0)), (3, .one (.ptr (2, 0) 0)), (6, .one (.d (.int .i64 n707)))] [((1, 0), some (.box 34 [.d (.int .i64 a0.Node), .d (.int .i64 a0.State), .d (.int .i64 a0.Steps), .d (.sl (List.map eI a0.Sent)), .d (.sl (List.map (eL eTMsg) a0.In)), .d (.sl (List.map (eL eI) a0.Out))])), ((2, 0), some (.box 34 [.d (.int .i64 a1.Node), .d (.int .i64 a1.State), .d (.int .i64 a1.Steps), .d (.sl (List.map eI a1.Sent)), .d (.sl (List.map (eL eTMsg) a1.In)), .d (.sl (List.map (eL eI) a1.Out))]))] ac wd) (((a0.Out.length : Int) - 0).toNat + 1) ⟨0, hD, h⟩ (fun nf ac wd hJ => ?_)
        obtain ⟨n707, hL708, h⟩ := hJ
        cases nf with
        | zero => rw [L_ref06_Same_l2] at hL708; cases hL708
        | succ nf =>
          rw [L_ref06_Same_l2] at hL708
          refine wp_seq ?_
          refine rs_plain 141 [] [none, none, none, none, none] [2, 3, 6, 75] [(1, 0), (2, 0)] h rfl rfl (by simp only [EX, simprocAttr, Nat.blt, Nat.ble, tz_3, tz_4, tz_5, tz_24, tz_29, tz_34, hb388n] <;> rfl) fun ac wd h => ?_
          by_cases hb710 : n707 < (a0.Out.length : Int)
          · rw [if_pos hb710] at hL708
            refine r_condT h (decide (n707 < (a0.Out.length : Int))) (by simp only [EX, simprocAttr, Nat.blt, Nat.ble, hb388n, hb710] <;> rfl) (by first | rfl | (simp only [EX, simprocAttr, Nat.blt, Nat.ble, hb388n, hb710] <;> rfl)) ?_
            refine wp_skip ?_
            change Code.wp Try.prog _ _ _ _
            refine wp_seq ?_
            refine wp_block ?_
            obtain ⟨x730, hx731, hL708⟩ := Option.bind_eq_some_iff.1 hL708
            obtain ⟨hx731a, hx731b, hx731c⟩ := at_some hx731
            have hx731d := (List.getElem?_eq_some_iff.1 hx731b).1
            obtain ⟨x732, hx733, hL708⟩ := Option.bind_eq_some_iff.1 hL708
            obtain ⟨hx733a, hx733b, hx733c⟩ := at_some hx733
            have hx733d := (List.getElem?_eq_some_iff.1 hx733b).1
            obtain ⟨r734, hc735, hL708⟩ := Option.bind_eq_some_iff.1 hL708
            have hc735k := L_ref01_Ints_ok hc735
            refine rs_drawn 153 ty_hm [factE 151 hc735k] [none, none, none, none, none, none, none, none, none, none, none, none] [2, 3, 6, 89] [(1, 0), (2, 0)] h rfl rfl (by simp only [EX, simprocAttr, Nat.blt, Nat.ble, tz_3, tz_4, tz_5, tz_24, tz_29, tz_34, hb388n, hb710, hx731a, hx731b, hx731c, hx731d, hx733a, hx733b, hx733c, hx733d] <;> rfl) (by kernel_rfl) fun ac wd h => ?_
            by_cases hb736 : r734 = true
            · rw [if_pos hb736] at hL708
              refine r_condF h (!(r734)) (by simp only [EX, simprocAttr, Nat.blt, Nat.ble, hb388n, hb710, hb736] <;> rfl) (by first | rfl | (simp only [EX, simprocAttr, Nat.blt, Nat.ble, hb388n, hb710, hb736] <;> rfl)) ?_
              refine wp_skip ?_
              change Code.wp Try.prog _ _ _ _
              refine r_plain [] [none, none, none] [2, 3, 6] [(1, 0), (2, 0)] h rfl (by simp only [EX, simprocAttr, Nat.blt, Nat.ble, tz_3, hb388n, hb710, hb736] <;> rfl) fun ac wd h => ?_
              have h := h.same [2, 3, 6] [(1, 0), (2, 0)] 136 [(2, .one (.ptr (1, 0) 0)), (3, .one (.ptr (2, 0) 0)), (6, .one (.d (.int .i64 (IntKind.wrap .i64 (n707 + 1)))))]
                [((1, 0), some (.box 34 [.d (.int .i64 a0.Node), .d (.int .i64 a0.State), .d (.int .i64 a0.Steps), .d (.sl (List.map eI a0.Sent)), .d (.sl (List.map (eL eTMsg) a0.In)), .d (.sl (List.map (eL eI) a0.Out))])), ((2, 0), some (.box 34 [.d (.int .i64 a1.Node), .d (.int .i64 a1.State), .d (.int .i64 a1.Steps), .d (.sl (List.map eI a1.Sent)), .d (.sl (List.map (eL eTMsg) a1.In)), .d (.sl (List.map (eL eI) a1.Out))]))]
                (by simp only [EX, simprocAttr, Nat.blt, Nat.ble, hb388n, hb710, hx731a, hx731b, hx731c, hx731d, hx733a, hx733b, hx733c, hx733d, hb736] <;> rfl)
              change ∃ n', _ ∧ _
              exact ⟨nf, Nat.lt_succ_self nf, (IntKind.wrap .i64 (n707 + 1)), hL708, h⟩
            · rw [if_neg hb736] at hL708
              have hb736n := eq_false_of_ne_true hb736
              refine r_condT h (!(r734)) (by simp only [EX, simprocAttr, Nat.blt, Nat.ble, hb388n, hb710, hb736n] <;> rfl) (by first | rfl | (simp only [EX, simprocAttr, Nat.blt, Nat.ble, hb388n, hb710, hb736n] <;> rfl)) ?_
              refine rs_plain 154 [] [none] [4] [] h rfl rfl (by simp only [EX, simprocAttr, Nat.blt, Nat.ble, tz_4, hb388n, hb710, hb736n] <;> rfl) fun ac wd h => ?_
              refine wp_ret ?_
              injection hL708 with hL708
              subst hL708
              exact r_retE rfl h [.tmp 4] rfl (by simp only [retD, List.mapM_cons, List.mapM_nil, Option.bind_eq_bind, Option.pure_def, EX, simprocAttr, Nat.blt, Nat.ble, hb388n, hb710, hb736n] <;> rfl)
          · rw [if_neg hb710] at hL708
            refine r_condF h (decide (n707 < (a0.Out.length : Int))) (by simp only [EX, simprocAttr, Nat.blt, Nat.ble, hb388n, hb710] <;> rfl) (by first | rfl | (simp only [EX, simprocAttr, Nat.blt, Nat.ble, hb388n, hb710] <;> rfl)) ?_
            refine wp_exit ?_
            change Code.wp Try.prog _ _ _ _
            refine rs_plain 142 [] [none] [4] [] h rfl rfl (by simp only [EX, simprocAttr, Nat.blt, Nat.ble, tz_4, hb388n, hb710] <;> rfl) fun ac wd h => ?_
            refine wp_ret ?_
            injection hL708 with hL708
            subst hL708
            exact r_retE rfl h [.tmp 4] rfl (by simp only [retD, List.mapM_cons, List.mapM_nil, Option.bind_eq_bind, Option.pure_def, EX, simprocAttr, Nat.blt, Nat.ble, hb388n, hb710] <;> rfl)

set_option maxRecDepth 20000 in
set_option maxHeartbeats 4000000 in
theorem L_ref10_Same_ok {a0 : TMark} {a1 : TMark} {r : Bool} (hD : L_ref10_Same a0 a1 = some r) :
    CallH Try.prog 15 [.agg [.d (.int .i64 a0.Epoch), .d (.sl (List.map eB a0.Open)), .d (.int .i64 a0.P.Node), .d (.int .i64 a0.P.State), .d (.int .i64 a0.P.Steps), .d (.sl (List.map eI a0.P.Sent)), .d (.sl (List.map (eL eTMsg) a0.P.In)), .d (.sl (List.map (eL eI) a0.P.Out))], .agg [.d (.int .i64 a1.Epoch), .d (.sl (List.map eB a1.Open)), .d (.int .i64 a1.P.Node), .d (.int .i64 a1.P.State), .d (.int .i64 a1.P.Steps), .d (.sl (List.map eI a1.P.Sent)), .d (.sl (List.map (eL eTMsg) a1.P.In)), .d (.sl (List.map (eL eI) a1.P.Out))]] []
      (.one (.d (.bool r))) [] := by
  unfold L_ref10_Same at hD
  refine r_call Try.func15 rfl Try.ntmps15 (by kernel_rfl) (by rfl) (by rfl) (by simp) fun S Φ P0 wb ac h => ?_
  refine rs_plain 4 [] [none, none, none] [2, 3] [(1, 0), (2, 0)] h rfl rfl (by simp only [EX, simprocAttr, Nat.blt, Nat.ble, tz_4, tz_36] <;> rfl) fun ac wd h => ?_
  refine wp_seq ?_
  obtain ⟨e146, hE147, hD⟩ := Option.bind_eq_some_iff.1 hD
  refine r_seqJ (fun ac wd => ∃ (b145 : Bool), b145 = e146 ∧ SL ⟨wb, S, Φ, P0⟩ 46 26 [(2, .one (.ptr (1, 0) 0)), (3, .one (.ptr (2, 0) 0)), (27, .one (.d (.bool b145)))] [((1, 0), some (.box 36 [.d (.int .i64 a0.Epoch), .d (.sl (List.map eB a0.Open)), .d (.int .i64 a0.P.Node), .d (.int .i64 a0.P.State), .d (.int .i64 a0.P.Steps), .d (.sl (List.map eI a0.P.Sent)), .d (.sl (List.map (eL eTMsg) a0.P.In)), .d (.sl (List.map (eL eI) a0.P.Out))])), ((2, 0), some (.box 36 [.d (.int .i64 a1.Epoch), .d (.sl (List.map eB a1.Open)), .d (.int .i64 a1.P.Node), .d (.int .i64 a1.P.State), .d (.int .i64 a1.P.Steps), .d (.sl (List.map eI a1.P.Sent)), .d (.sl (List.map (eL eTMsg) a1.P.In)), .d (.sl (List.map (eL eI) a1.P.Out))]))] ac wd) ?_ ?_
  · skip
    by_cases hb148 : a0.Epoch = a1.Epoch
    · rw [if_pos hb148] at hE147
      have hb148t := eq_true hb148
      by_cases hb149 : (a0.Open.length : Int) = (a1.Open.length : Int)
      · rw [if_pos hb149] at hE147
        have hb149t := eq_true hb149
        obtain ⟨r150, hc151, hE147⟩ := Option.bind_eq_some_iff.1 hE147
        have hc151k := L_ref06_Same_ok hc151
        refine r_plain [factE 23 hc151k] [none, none, none, none, none, none, some (some 11, false), some (some 11, false), some (some 11, false), some (some 11, false), some (some 11, false), some (some 11, false), some (some 11, false), none, none, some (some 20, false), some (some 20, false), some (some 20, false), some (some 20, false), some (some 20, false), some (some 20, false), none] [2, 3, 27] [(1, 0), (2, 0)] h rfl (by simp only [EX, simprocAttr, Nat.blt, Nat.ble, tz_2, tz_3, tz_4, tz_28, tz_34, tz_36, hb148t, hb149t] <;> rfl) fun ac wd h => ?_
        have h := h.same [2, 3, 27] [(1, 0), (2, 0)] 26 [(2, .one (.ptr (1, 0) 0)), (3, .one (.ptr (2, 0) 0)), (27, .one (.d (.bool (!(r150)))))]
          [((1, 0), some (.box 36 [.d (.int .i64 a0.Epoch), .d (.sl (List.map eB a0.Open)), .d (.int .i64 a0.P.Node), .d (.int .i64 a0.P.State), .d (.int .i64 a0.P.Steps), .d (.sl (List.map eI a0.P.Sent)), .d (.sl (List.map (eL eTMsg) a0.P.In)), .d (.sl (List.map (eL eI) a0.P.Out))])), ((2, 0), some (.box 36 [.d (.int .i64 a1.Epoch), .d (.sl (List.map eB a1.Open)), .d (.int .i64 a1.P.Node), .d (.int .i64 a1.P.State), .d (.int .i64 a1.P.Steps), .d (.sl (List.map eI a1.P.Sent)), .d (.sl (List.map (eL eTMsg) a1.P.In)), .d (.sl (List.map (eL eI) a1.P.Out))]))]
          (by simp only [EX, simprocAttr, Nat.blt, Nat.ble, hb148t, hb149t] <;> rfl)
        injection hE147 with hE147
        exact ⟨!(r150), hE147, h⟩
      · rw [if_neg hb149] at hE147
        refine r_plain [] [none, none, none, none, none, none, some (some 11, false), some (some 11, false), some (some 11, false), some (some 11, false), some (some 11, false), some (some 11, false), some (some 11, false), none, none, some (some 20, false), some (some 20, false), some (some 20, false), some (some 20, false), some (some 20, false), some (some 20, false), none] [2, 3, 27] [(1, 0), (2, 0)] h rfl (by simp only [EX, simprocAttr, Nat.blt, Nat.ble, tz_2, tz_3, tz_4, tz_28, tz_34, tz_36, hb148t, hb149] <;> rfl) fun ac wd h => ?_
        have h := h.same [2, 3, 27] [(1, 0), (2, 0)] 26 [(2, .one (.ptr (1, 0) 0)), (3, .one (.ptr (2, 0) 0)), (27, .one (.d (.bool true)))]
          [((1, 0), some (.box 36 [.d (.int .i64 a0.Epoch), .d (.sl (List.map eB a0.Open)), .d (.int .i64 a0.P.Node), .d (.int .i64 a0.P.State), .d (.int .i64 a0.P.Steps), .d (.sl (List.map eI a0.P.Sent)), .d (.sl (List.map (eL eTMsg) a0.P.In)), .d (.sl (List.map (eL eI) a0.P.Out))])), ((2, 0), some (.box 36 [.d (.int .i64 a1.Epoch), .d (.sl (List.map eB a1.Open)), .d (.int .i64 a1.P.Node), .d (.int .i64 a1.P.State), .d (.int .i64 a1.P.Steps), .d (.sl (List.map eI a1.P.Sent)), .d (.sl (List.map (eL eTMsg) a1.P.In)), .d (.sl (List.map (eL eI) a1.P.Out))]))]
          (by simp only [EX, simprocAttr, Nat.blt, Nat.ble, hb148t, hb149] <;> rfl)
        injection hE147 with hE147
        exact ⟨true, hE147, h⟩
    · rw [if_neg hb148] at hE147
      refine r_plain [] [none, none, none, none, none, none, some (some 11, false), some (some 11, false), some (some 11, false), some (some 11, false), some (some 11, false), some (some 11, false), some (some 11, false), none, none, some (some 20, false), some (some 20, false), some (some 20, false), some (some 20, false), some (some 20, false), some (some 20, false), none] [2, 3, 27] [(1, 0), (2, 0)] h rfl (by simp only [EX, simprocAttr, Nat.blt, Nat.ble, tz_2, tz_3, tz_4, tz_28, tz_34, tz_36, hb148] <;> rfl) fun ac wd h => ?_
      have h := h.same [2, 3, 27] [(1, 0), (2, 0)] 26 [(2, .one (.ptr (1, 0) 0)), (3, .one (.ptr (2, 0) 0)), (27, .one (.d (.bool true)))]
        [((1, 0), some (.box 36 [.d (.int .i64 a0.Epoch), .d (.sl (List.map eB a0.Open)), .d (.int .i64 a0.P.Node), .d (.int .i64 a0.P.State), .d (.int .i64 a0.P.Steps), .d (.sl (List.map eI a0.P.Sent)), .d (.sl (List.map (eL eTMsg) a0.P.In)), .d (.sl (List.map (eL eI) a0.P.Out))])), ((2, 0), some (.box 36 [.d (.int .i64 a1.Epoch), .d (.sl (List.map eB a1.Open)), .d (.int .i64 a1.P.Node), .d (.int .i64 a1.P.State), .d (.int .i64 a1.P.Steps), .d (.sl (List.map eI a1.P.Sent)), .d (.sl (List.map (eL eTMsg) a1.P.In)), .d (.sl (List.map (eL eI) a1.P.Out))]))]
        (by simp only [EX, simprocAttr, Nat.blt, Nat.ble, hb148] <;> rfl)
      injection hE147 with hE147
      exact ⟨true, hE147, h⟩
  · skip
    rintro ac wd ⟨b145, rfl, h⟩
    (try dsimp only at hD)
    by_cases hb153 : b145 = true
    · rw [if_pos hb153] at hD
      refine r_condT h b145 (by simp only [EX, simprocAttr, Nat.blt, Nat.ble, hb153] <;> rfl) (by first | rfl | (simp only [EX, simprocAttr, Nat.blt, Nat.ble, hb153] <;> rfl)) ?_
      refine rs_plain 27 [] [none] [4] [] h rfl rfl (by simp only [EX, simprocAttr, Nat.blt, Nat.ble, tz_4, hb153] <;> rfl) fun ac wd h => ?_
      refine wp_ret ?_
      injection hD with hD
      subst hD
      exact r_retE rfl h [.tmp 4] rfl (by simp only [retD, List.mapM_cons, List.mapM_nil, Option.bind_eq_bind, Option.pure_def, EX, simprocAttr, Nat.blt, Nat.ble, hb153] <;> rfl)
    · rw [if_neg hb153] at hD
      have hb153n := eq_false_of_ne_true hb153
      refine r_condF h b145 (by simp only [EX, simprocAttr, Nat.blt, Nat.ble, hb153n] <;> rfl) (by first | rfl | (simp only [EX, simprocAttr, Nat.blt, Nat.ble, hb153n] <;> rfl)) ?_
      refine wp_skip ?_
      change Code.wp Try.prog _ _ _ _
      refine wp_seq ?_
      refine rs_plain 27 [] [none] [2, 3, 5] [(1, 0), (2, 0)] h rfl rfl (by simp only [EX, simprocAttr, Nat.blt, Nat.ble, tz_3, hb153n] <;> rfl) fun ac wd h => ?_
      refine wp_block ?_
      have h := h.same [2, 3, 5] [(1, 0), (2, 0)] 65 [(2, .one (.ptr (1, 0) 0)), (3, .one (.ptr (2, 0) 0)), (5, .one (.d (.int .i64 0)))]
        [((1, 0), some (.box 36 [.d (.int .i64 a0.Epoch), .d (.sl (List.map eB a0.Open)), .d (.int .i64 a0.P.Node), .d (.int .i64 a0.P.State), .d (.int .i64 a0.P.Steps), .d (.sl (List.map eI a0.P.Sent)), .d (.sl (List.map (eL eTMsg) a0.P.In)), .d (.sl (List.map (eL eI) a0.P.Out))])), ((2, 0), some (.box 36 [.d (.int .i64 a1.Epoch), .d (.sl (List.map eB a1.Open)), .d (.int .i64 a1.P.Node), .d (.int .i64 a1.P.State), .d (.int .i64 a1.P.Steps), .d (.sl (List.map eI a1.P.Sent)), .d (.sl (List.map (eL eTMsg) a1.P.In)), .d (.sl (List.map (eL eI) a1.P.Out))]))]
        (by simp only [EX, simprocAttr, Nat.blt, Nat.ble, hb153n] <;> rfl)
      refine r_while (fun nf ac wd => ∃ (n257 : Int), L_ref10_Same_l1 a0 a1 nf n257 = some r ∧ SL ⟨wb, S, Φ, P0⟩ 46 65 [(2, .one (.ptr (1, 0) 0)), (3, .one (.ptr (2, 0) 0)), (5, .one (.d (.int .i64 n257)))] [((1, 0), some (.box 36 [.d (.int .i64 a0.Epoch), .d (.sl (List.map eB a0.Open)), .d (.int .i64 a0.P.Node), .d (.int .i64 a0.P.State), .d (.int .i64 a0.P.Steps), .d (.sl (List.map eI a0.P.Sent)), .d (.sl (List.map (eL eTMsg) a0.P.In)), .d (.sl (List.map (eL eI) a0.P.Out))])), ((2, 0), some (.box 36 [.d (.int .i64 a1.Epoch), .d (.sl (List.map eB a1.Open)), .d (.int .i64 a1.P.Node), .d (.int .i64 a1.P.State), .d (.int .i64 a1.P.Steps), .d (.sl (List.map eI a1.P.Sent)), .d (.sl (List.map (eL eTMsg) a1.P.In)), .d (.sl (List.map (eL eI) a1.P.Out))]))] ac wd) (((a0.Open.length : Int) - 0).toNat + 1) ⟨0, hD, h⟩ (fun nf ac wd hJ => ?_)
      obtain ⟨n257, hL258, h⟩ := hJ
      cases nf with
      | zero => rw [L_ref10_Same_l1] at hL258; cases hL258
      | succ nf =>
        rw [L_ref10_Same_l1] at hL258
        refine wp_seq ?_
        refine rs_plain 70 [] [none, none, none, none, none] [2, 3, 5, 32] [(1, 0), (2, 0)] h rfl rfl (by simp only [EX, simprocAttr, Nat.blt, Nat.ble, tz_3, tz_4, tz_28, tz_36, hb153n] <;> rfl) fun ac wd h => ?_
        by_cases hb260 : n257 < (a0.Open.length : Int)
        · rw [if_pos hb260] at hL258
          refine r_condT h (decide (n257 < (a0.Open.length : Int))) (by simp only [EX, simprocAttr, Nat.blt, Nat.ble, hb153n, hb260] <;> rfl) (by first | rfl | (simp only [EX, simprocAttr, Nat.blt, Nat.ble, hb153n, hb260] <;> rfl)) ?_
          refine wp_skip ?_
          change Code.wp Try.prog _ _ _ _
          refine wp_seq ?_
          refine wp_block ?_
          obtain ⟨x274, hx275, hL258⟩ := Option.bind_eq_some_iff.1 hL258
          obtain ⟨hx275a, hx275b, hx275c⟩ := at_some hx275
          have hx275d := (List.getElem?_eq_some_iff.1 hx275b).1
          obtain ⟨x276, hx277, hL258⟩ := Option.bind_eq_some_iff.1 hL258
          obtain ⟨hx277a, hx277b, hx277c⟩ := at_some hx277
          have hx277d := (List.getElem?_eq_some_iff.1 hx277b).1
          refine rs_drawn 81 ty_hm [] [none, none, none, none, none, none, none, none, none, none, none] [2, 3, 5, 45] [(1, 0), (2, 0)] h rfl rfl (by simp only [EX, simprocAttr, Nat.blt, Nat.ble, tz_3, tz_4, tz_28, tz_36, hb153n, hb260, hx275a, hx275b, hx275c, hx275d, hx277a, hx277b, hx277c, hx277d] <;> rfl) (by kernel_rfl) fun ac wd h => ?_
          by_cases hb278 : x274 = x276
          · rw [if_pos hb278] at hL258
            have hb278t := eq_true hb278
            refine r_condF h (!(decide (x274 = x276))) (by simp only [EX, simprocAttr, Nat.blt, Nat.ble, hb153n, hb260, hb278t] <;> rfl) (by first | rfl | (simp only [EX, simprocAttr, Nat.blt, Nat.ble, hb153n, hb260, hb278t] <;> rfl)) ?_
            refine wp_skip ?_
            change Code.wp Try.prog _ _ _ _
            refine r_plain [] [none, none, none] [2, 3, 5] [(1, 0), (2, 0)] h rfl (by simp only [EX, simprocAttr, Nat.blt, Nat.ble, tz_3, hb153n, hb260, hb278t] <;> rfl) fun ac wd h => ?_
            have h := h.same [2, 3, 5] [(1, 0), (2, 0)] 65 [(2, .one (.ptr (1, 0) 0)), (3, .one (.ptr (2, 0) 0)), (5, .one (.d (.int .i64 (IntKind.wrap .i64 (n257 + 1)))))]
              [((1, 0), some (.box 36 [.d (.int .i64 a0.Epoch), .d (.sl (List.map eB a0.Open)), .d (.int .i64 a0.P.Node), .d (.int .i64 a0.P.State), .d (.int .i64 a0.P.Steps), .d (.sl (List.map eI a0.P.Sent)), .d (.sl (List.map (eL eTMsg) a0.P.In)), .d (.sl (List.map (eL eI) a0.P.Out))])), ((2, 0), some (.box 36 [.d (.int .i64 a1.Epoch), .d (.sl (List.map eB a1.Open)), .d (.int .i64 a1.P.Node), .d (.int .i64 a1.P.State), .d (.int .i64 a1.P.Steps), .d (.sl (List.map eI a1.P.Sent)), .d (.sl (List.map (eL eTMsg) a1.P.In)), .d (.sl (List.map (eL eI) a1.P.Out))]))]
              (by simp only [EX, simprocAttr, Nat.blt, Nat.ble, hb153n, hb260, hx275a, hx275b, hx275c, hx275d, hx277a, hx277b, hx277c, hx277d, hb278t] <;> rfl)
            change ∃ n', _ ∧ _
            exact ⟨nf, Nat.lt_succ_self nf, (IntKind.wrap .i64 (n257 + 1)), hL258, h⟩
          · rw [if_neg hb278] at hL258
            refine r_condT h (!(decide (x274 = x276))) (by simp only [EX, simprocAttr, Nat.blt, Nat.ble, hb153n, hb260, hb278] <;> rfl) (by first | rfl | (simp only [EX, simprocAttr, Nat.blt, Nat.ble, hb153n, hb260, hb278] <;> rfl)) ?_
            refine rs_plain 82 [] [none] [4] [] h rfl rfl (by simp only [EX, simprocAttr, Nat.blt, Nat.ble, tz_4, hb153n, hb260, hb278] <;> rfl) fun ac wd h => ?_
            refine wp_ret ?_
            injection hL258 with hL258
            subst hL258
            exact r_retE rfl h [.tmp 4] rfl (by simp only [retD, List.mapM_cons, List.mapM_nil, Option.bind_eq_bind, Option.pure_def, EX, simprocAttr, Nat.blt, Nat.ble, hb153n, hb260, hb278] <;> rfl)
        · rw [if_neg hb260] at hL258
          refine r_condF h (decide (n257 < (a0.Open.length : Int))) (by simp only [EX, simprocAttr, Nat.blt, Nat.ble, hb153n, hb260] <;> rfl) (by first | rfl | (simp only [EX, simprocAttr, Nat.blt, Nat.ble, hb153n, hb260] <;> rfl)) ?_
          refine wp_exit ?_
          change Code.wp Try.prog _ _ _ _
          refine rs_plain 71 [] [none] [4] [] h rfl rfl (by simp only [EX, simprocAttr, Nat.blt, Nat.ble, tz_4, hb153n, hb260] <;> rfl) fun ac wd h => ?_
          refine wp_ret ?_
          injection hL258 with hL258
          subst hL258
          exact r_retE rfl h [.tmp 4] rfl (by simp only [retD, List.mapM_cons, List.mapM_nil, Option.bind_eq_bind, Option.pure_def, EX, simprocAttr, Nat.blt, Nat.ble, hb153n, hb260] <;> rfl)

set_option maxRecDepth 20000 in
set_option maxHeartbeats 4000000 in
theorem L_slices_Index_bool_bool_ok {a0 : (List Bool)} {a1 : Bool} {r : Int} (hD : L_slices_Index_bool_bool a0 a1 = some r) :
    CallH Try.prog 34 [.one (.d (.sl (List.map eB a0))), .one (.d (.bool a1))] []
      (.one (.d (.int .i64 r))) [] := by
  unfold L_slices_Index_bool_bool at hD
  refine r_call Try.func34 rfl Try.ntmps34 (by kernel_rfl) (by rfl) (by rfl) (by simp) fun S Φ P0 wb ac h => ?_
  refine rs_plain 2 [] [none] [0, 1] [] h rfl rfl (by simp only [EX, simprocAttr, Nat.blt, Nat.ble, tz_3] <;> rfl) fun ac wd h => ?_
  refine wp_seq ?_
  refine rs_plain 5 [] [none, none, none] [0, 1, 7, 8] [] h rfl rfl (by simp only [EX, simprocAttr, Nat.blt, Nat.ble, tz_3, tz_4, tz_28] <;> rfl) fun ac wd h => ?_
  refine wp_block ?_
  have h := h.same [0, 1, 7, 8] [] 27 [(0, .one (.d (.sl (List.map eB a0)))), (1, .one (.d (.bool a1))), (7, .one (.d (.int .i64 (a0.length : Int)))), (8, .one (.d (.int .i64 0)))]
    []
    (by simp only [EX, simprocAttr, Nat.blt, Nat.ble] <;> rfl)
  refine r_while (fun nf ac wd => ∃ (n143 : Int), L_slices_Index_bool_bool_l1 a0 a1 nf n143 = some r ∧ SL ⟨wb, S, Φ, P0⟩ 19 27 [(0, .one (.d (.sl (List.map eB a0)))), (1, .one (.d (.bool a1))), (7, .one (.d (.int .i64 (a0.length : Int)))), (8, .one (.d (.int .i64 n143)))] [] ac wd) (((a0.length : Int) - 0).toNat + 1) ⟨0, hD, h⟩ (fun nf ac wd hJ => ?_)
  obtain ⟨n143, hL144, h⟩ := hJ
  cases nf with
  | zero => rw [L_slices_Index_bool_bool_l1] at hL144; cases hL144
  | succ nf =>
    rw [L_slices_Index_bool_bool_l1] at hL144
    refine rs_plain 28 [] [none] [0, 1, 7, 8, 9] [] h rfl rfl (by simp only [EX, simprocAttr, Nat.blt, Nat.ble, tz_3] <;> rfl) fun ac wd h => ?_
    refine wp_seq ?_
    by_cases hb146 : n143 < (a0.length : Int)
    · rw [if_pos hb146] at hL144
      refine r_condT h (decide (n143 < (a0.length : Int))) (by simp only [EX, simprocAttr, Nat.blt, Nat.ble, hb146] <;> rfl) (by first | rfl | (simp only [EX, simprocAttr, Nat.blt, Nat.ble, hb146] <;> rfl)) ?_
      refine wp_skip ?_
      change Code.wp Try.prog _ _ _ _
      refine wp_seq ?_
      refine wp_block ?_
      refine rs_plain 30 [] [none, none] [0, 1, 5, 7, 8] [] h rfl rfl (by simp only [EX, simprocAttr, Nat.blt, Nat.ble, tz_3, hb146] <;> rfl) fun ac wd h => ?_
      obtain ⟨x154, hx155, hL144⟩ := Option.bind_eq_some_iff.1 hL144
      obtain ⟨hx155a, hx155b, hx155c⟩ := at_some hx155
      have hx155d := (List.getElem?_eq_some_iff.1 hx155b).1
      refine rs_plain 36 [] [none, none, none, none, none, none] [0, 1, 5, 7, 8, 16] [] h rfl rfl (by simp only [EX, simprocAttr, Nat.blt, Nat.ble, tz_3, tz_4, tz_28, hb146, hx155a, hx155b, hx155c, hx155d] <;> rfl) fun ac wd h => ?_
      by_cases hb156 : a1 = x154
      · rw [if_pos hb156] at hL144
        have hb156t := eq_true hb156
        refine r_condT h (decide (a1 = x154)) (by simp only [EX, simprocAttr, Nat.blt, Nat.ble, hb146, hb156t] <;> rfl) (by first | rfl | (simp only [EX, simprocAttr, Nat.blt, Nat.ble, hb146, hb156t] <;> rfl)) ?_
        refine rs_plain 38 [] [none, none] [4] [] h rfl rfl (by simp only [EX, simprocAttr, Nat.blt, Nat.ble, tz_3, hb146, hb156t] <;> rfl) fun ac wd h => ?_
        refine wp_ret ?_
        injection hL144 with hL144
        subst hL144
        exact r_retE rfl h [.tmp 4] rfl (by simp only [retD, List.mapM_cons, List.mapM_nil, Option.bind_eq_bind, Option.pure_def, EX, simprocAttr, Nat.blt, Nat.ble, hb146, hb156t] <;> rfl)
      · rw [if_neg hb156] at hL144
        refine r_condF h (decide (a1 = x154)) (by simp only [EX, simprocAttr, Nat.blt, Nat.ble, hb146, hb156] <;> rfl) (by first | rfl | (simp only [EX, simprocAttr, Nat.blt, Nat.ble, hb146, hb156] <;> rfl)) ?_
        refine wp_skip ?_
        change Code.wp Try.prog _ _ _ _
        refine r_plain [] [none, none] [0, 1, 7, 8] [] h rfl (by simp only [EX, simprocAttr, Nat.blt, Nat.ble, tz_3, hb146, hb156] <;> rfl) fun ac wd h => ?_
        have h := h.same [0, 1, 7, 8] [] 27 [(0, .one (.d (.sl (List.map eB a0)))), (1, .one (.d (.bool a1))), (7, .one (.d (.int .i64 (a0.length : Int)))), (8, .one (.d (.int .i64 (IntKind.wrap .i64 (n143 + 1)))))]
          []
          (by simp only [EX, simprocAttr, Nat.blt, Nat.ble, hb146, hx155a, hx155b, hx155c, hx155d, hb156] <;> rfl)
        change ∃ n', _ ∧ _
        exact ⟨nf, Nat.lt_succ_self nf, (IntKind.wrap .i64 (n143 + 1)), hL144, h⟩
    · rw [if_neg hb146] at hL144
      refine r_condF h (decide (n143 < (a0.length : Int))) (by simp only [EX, simprocAttr, Nat.blt, Nat.ble, hb146] <;> rfl) (by first | rfl | (simp only [EX, simprocAttr, Nat.blt, Nat.ble, hb146] <;> rfl)) ?_
      refine wp_exit ?_
      change Code.wp Try.prog _ _ _ _
      refine rs_plain 29 [] [none] [4] [] h rfl rfl (by simp only [EX, simprocAttr, Nat.blt, Nat.ble, tz_3, hb146] <;> rfl) fun ac wd h => ?_
      refine wp_ret ?_
      injection hL144 with hL144
      subst hL144
      exact r_retE rfl h [.tmp 4] rfl (by simp only [retD, List.mapM_cons, List.mapM_nil, Option.bind_eq_bind, Option.pure_def, EX, simprocAttr, Nat.blt, Nat.ble, hb146] <;> rfl)

set_option maxRecDepth 20000 in
set_option maxHeartbeats 4000000 in
theorem L_slices_Contains_bool_bool_ok {a0 : (List Bool)} {a1 : Bool} {r : Bool} (hD : L_slices_Contains_bool_bool a0 a1 = some r) :
    CallH Try.prog 28 [.one (.d (.sl (List.map eB a0))), .one (.d (.bool a1))] []
      (.one (.d (.bool r))) [] := by
  unfold L_slices_Contains_bool_bool at hD
  refine r_call Try.func28 rfl Try.ntmps28 (by kernel_rfl) (by rfl) (by rfl) (by simp) fun S Φ P0 wb ac h => ?_
  refine rs_plain 2 [] [none] [0, 1] [] h rfl rfl (by simp only [EX, simprocAttr, Nat.blt, Nat.ble, tz_4] <;> rfl) fun ac wd h => ?_
  obtain ⟨r7, hc8, hD⟩ := Option.bind_eq_some_iff.1 hD
  have hc8k := L_slices_Index_bool_bool_ok hc8
  refine rs_plain 7 [factE 4 hc8k] [none, none, none, none, none] [4] [] h rfl rfl (by simp only [EX, simprocAttr, Nat.blt, Nat.ble, tz_3, tz_4, tz_28] <;> rfl) fun ac wd h => ?_
  refine wp_ret ?_
  injection hD with hD
  subst hD
  exact r_retE rfl h [.tmp 4] rfl (by simp only [retD, List.mapM_cons, List.mapM_nil, Option.bind_eq_bind, Option.pure_def, EX, simprocAttr, Nat.blt, Nat.ble] <;> rfl)

set_option maxRecDepth 20000 in
set_option maxHeartbeats 4000000 in
theorem L_mark_Done_ok {a0 : TMark} {a1 : Int} {r : Bool} (hD : L_mark_Done a0 a1 = some r) :
    CallH Try.prog 17 [.agg [.d (.int .i64 a0.Epoch), .d (.sl (List.map eB a0.Open)), .d (.int .i64 a0.P.Node), .d (.int .i64 a0.P.State), .d (.int .i64 a0.P.Steps), .d (.sl (List.map eI a0.P.Sent)), .d (.sl (List.map (eL eTMsg) a0.P.In)), .d (.sl (List.map (eL eI) a0.P.Out))], .one (.d (.int .i64 a1))] []
      (.one (.d (.bool r))) [] := by
  unfold L_mark_Done at hD
  refine r_call Try.func17 rfl Try.ntmps17 (by kernel_rfl) (by rfl) (by rfl) (by simp) fun S Φ P0 wb ac h => ?_
  refine rs_plain 3 [] [none, none] [1, 2] [(1, 0)] h rfl rfl (by simp only [EX, simprocAttr, Nat.blt, Nat.ble, tz_4, tz_33] <;> rfl) fun ac wd h => ?_
  obtain ⟨e14, hE15, hD⟩ := Option.bind_eq_some_iff.1 hD
  refine r_seqJ (fun ac wd => ∃ (b13 : Bool), b13 = e14 ∧ SL ⟨wb, S, Φ, P0⟩ 15 14 [(4, .one (.d (.bool b13)))] [] ac wd) ?_ ?_
  · skip
    by_cases hb16 : a0.Epoch = a1
    · rw [if_pos hb16] at hE15
      have hb16t := eq_true hb16
      obtain ⟨r17, hc18, hE15⟩ := Option.bind_eq_some_iff.1 hE15
      have hc18k := L_slices_Contains_bool_bool_ok hc18
      refine r_plain [factE 10 hc18k] [none, none, none, none, none, some (some 9, true), some (some 9, true), some (some 9, true), some (some 9, true), none, none] [4] [] h rfl (by simp only [EX, simprocAttr, Nat.blt, Nat.ble, tz_3, tz_4, tz_28, tz_33, hb16t] <;> rfl) fun ac wd h => ?_
      have h := h.same [4] [] 14 [(4, .one (.d (.bool (!(r17)))))]
        []
        (by simp only [EX, simprocAttr, Nat.blt, Nat.ble, hb16t] <;> rfl)
      injection hE15 with hE15
      exact ⟨!(r17), hE15, h⟩
    · rw [if_neg hb16] at hE15
      refine r_plain [] [none, none, none, none, none, some (some 9, true), some (some 9, true), some (some 9, true), some (some 9, true), none, none] [4] [] h rfl (by simp only [EX, simprocAttr, Nat.blt, Nat.ble, tz_3, tz_4, tz_28, tz_33, hb16] <;> rfl) fun ac wd h => ?_
      have h := h.same [4] [] 14 [(4, .one (.d (.bool false)))]
        []
        (by simp only [EX, simprocAttr, Nat.blt, Nat.ble, hb16] <;> rfl)
      injection hE15 with hE15
      exact ⟨false, hE15, h⟩
  · skip
    rintro ac wd ⟨b13, rfl, h⟩
    (try dsimp only at hD)
    refine wp_ret ?_
    injection hD with hD
    subst hD
    exact r_retE rfl h [.tmp 4] rfl (by simp only [retD, List.mapM_cons, List.mapM_nil, Option.bind_eq_bind, Option.pure_def, EX, simprocAttr, Nat.blt, Nat.ble] <;> rfl)

end Go.Proofs.Ytkjihlonnhfidaa
