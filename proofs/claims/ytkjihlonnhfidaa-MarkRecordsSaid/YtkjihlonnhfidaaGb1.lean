/- Functions as typed ones, and that the program's functions answer as these do. No condition. -/
import Derived.Test.YtkjihlonnhfidaaGb0
set_option linter.unusedSimpArgs false
set_option linter.unusedVariables false
namespace Go.Proofs.Ytkjihlonnhfidaa
open Go.RowKit

set_option maxRecDepth 20000 in
set_option maxHeartbeats 4000000 in
theorem L_mark_Mark_own_own {a0 : TMark} {r : TMark} (hD : L_mark_Mark_own a0 = some r) :
    CallH Try.prog 23 [.agg [.d (.int .i64 a0.Epoch), .d (.sl (List.map eB a0.Open)), .d (.int .i64 a0.P.Node), .d (.int .i64 a0.P.State), .d (.int .i64 a0.P.Steps), .d (.sl (List.map eI a0.P.Sent)), .d (.sl (List.map (eL eTMsg) a0.P.In)), .d (.sl (List.map (eL eI) a0.P.Out))]] []
      (.agg [.d (.int .i64 r.Epoch), .own (1, 0) r.Open.length, .d (.int .i64 r.P.Node), .d (.int .i64 r.P.State), .d (.int .i64 r.P.Steps), .own (1, 1) r.P.Sent.length, .own (1, 2) r.P.In.length, .own (1, 3) r.P.Out.length]) [((1, 0), some (.row 4 1 (dat (List.map eB r.Open)))), ((1, 1), some (.row 3 1 (dat (List.map eI r.P.Sent)))), ((1, 2), some (.row 57 1 (openRows cols_57 (List.map (eL eTMsg) r.P.In)))), ((1, 3), some (.row 29 1 (openRows cols_29 (List.map (eL eI) r.P.Out))))] := by
  unfold L_mark_Mark_own at hD
  refine r_call Try.func23 rfl Try.ntmps23 (by kernel_rfl) (by rfl) (by simp only [shutB, EX, simprocAttr, Nat.blt, Nat.ble] <;> rfl) (by simp) fun S Φ P0 wb ac h => ?_
  refine rs_plain 3 [] [none, none] [1, 2] [(1, 0), (2, 0)] h rfl rfl (by simp only [EX, simprocAttr, Nat.blt, Nat.ble, tz_33] <;> rfl) fun ac wd h => ?_
  by_cases ha17 : 1 * a0.Open.length ≤ 140737488355328
  case neg => rw [if_neg ha17] at hD; cases hD
  rw [if_pos ha17] at hD
  by_cases ha18 : a0.Open.length ≤ 140737488355328
  case neg => rw [if_neg ha18] at hD; cases hD
  rw [if_pos ha18] at hD
  refine rs_plain 8 [] [none, none, none, none, none] [1, 2, 3] [(1, 0), (2, 0), (6, 0)] h rfl rfl (by simp only [EX, simprocAttr, Nat.blt, Nat.ble, tz_3, tz_4, tz_28, tz_33, ha17, ha18] <;> rfl) fun ac wd h => ?_
  obtain ⟨v22, hv23, hD⟩ := Option.bind_eq_some_iff.1 hD
  injection hv23 with hv23
  have h := h.same [1, 2, 3] [(1, 0), (2, 0), (6, 0)] 8 [(1, .one (.ptr (1, 0) 0)), (2, .one (.ptr (2, 0) 0)), (3, .one (.own (6, 0) v22.length))]
    [((1, 0), some (.box 33 [.d (.int .i64 a0.Epoch), .d (.sl (List.map eB a0.Open)), .d (.int .i64 a0.P.Node), .d (.int .i64 a0.P.State), .d (.int .i64 a0.P.Steps), .d (.sl (List.map eI a0.P.Sent)), .d (.sl (List.map (eL eTMsg) a0.P.In)), .d (.sl (List.map (eL eI) a0.P.Out))])), ((2, 0), some (.box 33 [.d (.int .i64 0), .nil, .d (.int .i64 0), .d (.int .i64 0), .d (.int .i64 0), .nil, .nil, .nil])), ((6, 0), some (.row 4 1 (dat (List.map eB v22))))]
    (by simp only [EX, simprocAttr, Nat.blt, Nat.ble, ha17, ha18, dat_open, ← hv23] <;> rfl)
  have hl24 : ((a0.Open.take v22.length) ++ v22.drop (a0.Open.take v22.length).length).length = v22.length := by simp only [List.append_assoc, List.length_append, List.length_take, List.length_drop]; omega
  simp only [List.append_assoc, List.length_append, List.length_take, List.length_drop] at hl24
  refine rs_plain 12 [] [none, none, none, none] [1, 2, 3] [(1, 0), (2, 0), (6, 0)] h rfl rfl (by simp only [EX, simprocAttr, Nat.blt, Nat.ble, tz_3, tz_4, tz_28, tz_33, ha17, ha18] <;> rfl) fun ac wd h => ?_
  obtain ⟨r27, hc28, hD⟩ := Option.bind_eq_some_iff.1 hD
  have hc28_17 : CallH Try.prog 32 [.agg [.d (.int .i64 a0.P.Node), .d (.int .i64 a0.P.State), .d (.int .i64 a0.P.Steps), .d (.sl (List.map eI a0.P.Sent)), .d (.sl (List.map (eL eTMsg) a0.P.In)), .d (.sl (List.map (eL eI) a0.P.Out))]] [] (.agg [.d (.int .i64 r27.Node), .d (.int .i64 r27.State), .d (.int .i64 r27.Steps), .own (17, 0) r27.Sent.length, .own (17, 1) r27.In.length, .own (17, 2) r27.Out.length]) [((17, 0), some (.row 3 1 (dat (List.map eI r27.Sent)))), ((17, 1), some (.row 57 1 (openRows cols_57 (List.map (eL eTMsg) r27.In)))), ((17, 2), some (.row 29 1 (openRows cols_29 (List.map (eL eI) r27.Out))))] := ((L_piece_Own_own hc28).cls 17).as (by simp only [EX, simprocAttr, Nat.blt, Nat.ble, fren, mren, AV.ren, AObj.ren, Cell.ren, sumRen, Upd.ren, swp, csw, dat_ren, opn_ren] <;> rfl)
  refine rs_drawn 20 ty_hm [factO hc28_17] [none, none, none, none, none, none, none, none] [2] [(2, 0), (6, 0), (17, 0), (17, 1), (17, 2)] h rfl rfl (by simp only [EX, simprocAttr, Nat.blt, Nat.ble, tz_2, tz_3, tz_4, tz_28, tz_31, tz_33, ha17, ha18] <;> rfl) (by kernel_rfl) fun ac wd h => ?_
  refine wp_ret ?_
  have h := h.same [2] [(2, 0), (6, 0), (17, 0), (17, 1), (17, 2)] 20 [(2, .one (.ptr (2, 0) 0))]
    [((2, 0), some (.box 33 [.d (.int .i64 a0.Epoch), .own (6, 0) ((min v22.length a0.Open.length) + (v22.length - ((a0.Open.take v22.length).length))), .d (.int .i64 r27.Node), .d (.int .i64 r27.State), .d (.int .i64 r27.Steps), .own (17, 0) r27.Sent.length, .own (17, 1) r27.In.length, .own (17, 2) r27.Out.length])), ((6, 0), some (.row 4 1 (dat (List.map eB ((a0.Open.take v22.length) ++ v22.drop (a0.Open.take v22.length).length))))), ((17, 0), some (.row 3 1 (dat (List.map eI r27.Sent)))), ((17, 1), some (.row 57 1 (openRows cols_57 (List.map (eL eTMsg) r27.In)))), ((17, 2), some (.row 29 1 (openRows cols_29 (List.map (eL eI) r27.Out))))]
    (by simp only [EX, simprocAttr, Nat.blt, Nat.ble, ha17, ha18, hl24, dat_open] <;> rfl)
  have h := SL.swap h (1, 0) (6, 0) 20 (by decide) (by decide) (by simp only [EX, simprocAttr, Nat.blt, Nat.ble, ha17, ha18, hl24, fren, mren, AV.ren, AObj.ren, Cell.ren, sumRen, Upd.ren, swp, csw, dat_ren, opn_ren] <;> rfl) (by simp only [EX, simprocAttr, Nat.blt, Nat.ble, ha17, ha18, hl24, fren, mren, AV.ren, AObj.ren, Cell.ren, sumRen, Upd.ren, swp, csw, dat_ren, opn_ren] <;> rfl) (by simp only [EX, simprocAttr, Nat.blt, Nat.ble, ha17, ha18, hl24, fren, mren, AV.ren, AObj.ren, Cell.ren, sumRen, Upd.ren, swp, csw, dat_ren, opn_ren] <;> rfl)
  have h := h.same [2] [(1, 0), (2, 0), (17, 0), (17, 1), (17, 2)] 20 [(2, .one (.ptr (2, 0) 0))]
    [((1, 0), some (.row 4 1 (dat (List.map eB ((a0.Open.take v22.length) ++ v22.drop (a0.Open.take v22.length).length))))), ((2, 0), some (.box 33 [.d (.int .i64 a0.Epoch), .own (1, 0) ((min v22.length a0.Open.length) + (v22.length - ((a0.Open.take v22.length).length))), .d (.int .i64 r27.Node), .d (.int .i64 r27.State), .d (.int .i64 r27.Steps), .own (17, 0) r27.Sent.length, .own (17, 1) r27.In.length, .own (17, 2) r27.Out.length])), ((17, 0), some (.row 3 1 (dat (List.map eI r27.Sent)))), ((17, 1), some (.row 57 1 (openRows cols_57 (List.map (eL eTMsg) r27.In)))), ((17, 2), some (.row 29 1 (openRows cols_29 (List.map (eL eI) r27.Out))))]
    (by simp only [EX, simprocAttr, Nat.blt, Nat.ble, ha17, ha18, hl24, dat_open] <;> rfl)
  have h := SL.swap h (1, 1) (17, 0) 20 (by decide) (by decide) (by simp only [EX, simprocAttr, Nat.blt, Nat.ble, ha17, ha18, hl24, fren, mren, AV.ren, AObj.ren, Cell.ren, sumRen, Upd.ren, swp, csw, dat_ren, opn_ren] <;> rfl) (by simp only [EX, simprocAttr, Nat.blt, Nat.ble, ha17, ha18, hl24, fren, mren, AV.ren, AObj.ren, Cell.ren, sumRen, Upd.ren, swp, csw, dat_ren, opn_ren] <;> rfl) (by simp only [EX, simprocAttr, Nat.blt, Nat.ble, ha17, ha18, hl24, fren, mren, AV.ren, AObj.ren, Cell.ren, sumRen, Upd.ren, swp, csw, dat_ren, opn_ren] <;> rfl)
  have h := h.same [2] [(1, 0), (1, 1), (2, 0), (17, 1), (17, 2)] 20 [(2, .one (.ptr (2, 0) 0))]
    [((1, 0), some (.row 4 1 (dat (List.map eB ((a0.Open.take v22.length) ++ v22.drop (a0.Open.take v22.length).length))))), ((1, 1), some (.row 3 1 (dat (List.map eI r27.Sent)))), ((2, 0), some (.box 33 [.d (.int .i64 a0.Epoch), .own (1, 0) ((min v22.length a0.Open.length) + (v22.length - ((a0.Open.take v22.length).length))), .d (.int .i64 r27.Node), .d (.int .i64 r27.State), .d (.int .i64 r27.Steps), .own (1, 1) r27.Sent.length, .own (17, 1) r27.In.length, .own (17, 2) r27.Out.length])), ((17, 1), some (.row 57 1 (openRows cols_57 (List.map (eL eTMsg) r27.In)))), ((17, 2), some (.row 29 1 (openRows cols_29 (List.map (eL eI) r27.Out))))]
    (by simp only [EX, simprocAttr, Nat.blt, Nat.ble, ha17, ha18, hl24, dat_open] <;> rfl)
  have h := SL.swap h (1, 2) (17, 1) 20 (by decide) (by decide) (by simp only [EX, simprocAttr, Nat.blt, Nat.ble, ha17, ha18, hl24, fren, mren, AV.ren, AObj.ren, Cell.ren, sumRen, Upd.ren, swp, csw, dat_ren, opn_ren] <;> rfl) (by simp only [EX, simprocAttr, Nat.blt, Nat.ble, ha17, ha18, hl24, fren, mren, AV.ren, AObj.ren, Cell.ren, sumRen, Upd.ren, swp, csw, dat_ren, opn_ren] <;> rfl) (by simp only [EX, simprocAttr, Nat.blt, Nat.ble, ha17, ha18, hl24, fren, mren, AV.ren, AObj.ren, Cell.ren, sumRen, Upd.ren, swp, csw, dat_ren, opn_ren] <;> rfl)
  have h := h.same [2] [(1, 0), (1, 1), (1, 2), (2, 0), (17, 2)] 20 [(2, .one (.ptr (2, 0) 0))]
    [((1, 0), some (.row 4 1 (dat (List.map eB ((a0.Open.take v22.length) ++ v22.drop (a0.Open.take v22.length).length))))), ((1, 1), some (.row 3 1 (dat (List.map eI r27.Sent)))), ((1, 2), some (.row 57 1 (openRows cols_57 (List.map (eL eTMsg) r27.In)))), ((2, 0), some (.box 33 [.d (.int .i64 a0.Epoch), .own (1, 0) ((min v22.length a0.Open.length) + (v22.length - ((a0.Open.take v22.length).length))), .d (.int .i64 r27.Node), .d (.int .i64 r27.State), .d (.int .i64 r27.Steps), .own (1, 1) r27.Sent.length, .own (1, 2) r27.In.length, .own (17, 2) r27.Out.length])), ((17, 2), some (.row 29 1 (openRows cols_29 (List.map (eL eI) r27.Out))))]
    (by simp only [EX, simprocAttr, Nat.blt, Nat.ble, ha17, ha18, hl24, dat_open] <;> rfl)
  have h := SL.swap h (1, 3) (17, 2) 20 (by decide) (by decide) (by simp only [EX, simprocAttr, Nat.blt, Nat.ble, ha17, ha18, hl24, fren, mren, AV.ren, AObj.ren, Cell.ren, sumRen, Upd.ren, swp, csw, dat_ren, opn_ren] <;> rfl) (by simp only [EX, simprocAttr, Nat.blt, Nat.ble, ha17, ha18, hl24, fren, mren, AV.ren, AObj.ren, Cell.ren, sumRen, Upd.ren, swp, csw, dat_ren, opn_ren] <;> rfl) (by simp only [EX, simprocAttr, Nat.blt, Nat.ble, ha17, ha18, hl24, fren, mren, AV.ren, AObj.ren, Cell.ren, sumRen, Upd.ren, swp, csw, dat_ren, opn_ren] <;> rfl)
  have h := h.same [2] [(1, 0), (1, 1), (1, 2), (1, 3), (2, 0)] 20 [(2, .one (.ptr (2, 0) 0))]
    [((1, 0), some (.row 4 1 (dat (List.map eB ((a0.Open.take v22.length) ++ v22.drop (a0.Open.take v22.length).length))))), ((1, 1), some (.row 3 1 (dat (List.map eI r27.Sent)))), ((1, 2), some (.row 57 1 (openRows cols_57 (List.map (eL eTMsg) r27.In)))), ((1, 3), some (.row 29 1 (openRows cols_29 (List.map (eL eI) r27.Out)))), ((2, 0), some (.box 33 [.d (.int .i64 a0.Epoch), .own (1, 0) ((min v22.length a0.Open.length) + (v22.length - ((a0.Open.take v22.length).length))), .d (.int .i64 r27.Node), .d (.int .i64 r27.State), .d (.int .i64 r27.Steps), .own (1, 1) r27.Sent.length, .own (1, 2) r27.In.length, .own (1, 3) r27.Out.length]))]
    (by simp only [EX, simprocAttr, Nat.blt, Nat.ble, ha17, ha18, hl24, dat_open] <;> rfl)
  injection hD with hD
  subst hD
  exact r_retO rfl h [.cell 2 33] rfl [(1, 0), (1, 1), (1, 2), (1, 3)] (by simp only [retO, List.mapM_cons, List.mapM_nil, Option.bind_eq_bind, Option.pure_def, EX, simprocAttr, Nat.blt, Nat.ble, tz_33, ha17, ha18] <;> rfl)
theorem L_mark_Mark_own_ok {a0 : TMark} {r : TMark} (hD : L_mark_Mark_own a0 = some r) :
    CallH Try.prog 23 [.agg [.d (.int .i64 a0.Epoch), .d (.sl (List.map eB a0.Open)), .d (.int .i64 a0.P.Node), .d (.int .i64 a0.P.State), .d (.int .i64 a0.P.Steps), .d (.sl (List.map eI a0.P.Sent)), .d (.sl (List.map (eL eTMsg) a0.P.In)), .d (.sl (List.map (eL eI) a0.P.Out))]] []
      (.agg [.d (.int .i64 r.Epoch), .d (.sl (List.map eB r.Open)), .d (.int .i64 r.P.Node), .d (.int .i64 r.P.State), .d (.int .i64 r.P.Steps), .d (.sl (List.map eI r.P.Sent)), .d (.sl (List.map (eL eTMsg) r.P.In)), .d (.sl (List.map (eL eI) r.P.Out))]) [] :=
  (L_mark_Mark_own_own hD).frz (by simp only [EX, simprocAttr, Nat.blt, Nat.ble] <;> rfl) (by simp only [frzA, frzSum, EX, simprocAttr, Nat.blt, Nat.ble] <;> rfl) rfl

set_option maxRecDepth 20000 in
set_option maxHeartbeats 4000000 in
theorem L_mark_Marker_ok {a0 : TMark} {a1 : THost} {a2 : Int} {a3 : Int} {r : TMark × Bool} (hD : L_mark_Marker a0 a1 a2 a3 = some r) :
    CallH Try.prog 10 [.agg [.d (.int .i64 a0.Epoch), .d (.sl (List.map eB a0.Open)), .d (.int .i64 a0.P.Node), .d (.int .i64 a0.P.State), .d (.int .i64 a0.P.Steps), .d (.sl (List.map eI a0.P.Sent)), .d (.sl (List.map (eL eTMsg) a0.P.In)), .d (.sl (List.map (eL eI) a0.P.Out))], .agg [.d (.int .i64 a1.Node), .d (.int .i64 a1.State), .d (.int .i64 a1.Steps), .d (.sl (List.map (eL eTMsg) a1.In)), .d (.sl (List.map (eL eI) a1.Out))], .one (.d (.int .i64 a2)), .one (.d (.int .i64 a3))] []
      (.tup [.inl [.d (.int .i64 r.1.Epoch), .d (.sl (List.map eB r.1.Open)), .d (.int .i64 r.1.P.Node), .d (.int .i64 r.1.P.State), .d (.int .i64 r.1.P.Steps), .d (.sl (List.map eI r.1.P.Sent)), .d (.sl (List.map (eL eTMsg) r.1.P.In)), .d (.sl (List.map (eL eI) r.1.P.Out))], .inr (.d (.bool r.2))]) [] := by
  unfold L_mark_Marker at hD
  refine r_call Try.func10 rfl Try.ntmps10 (by kernel_rfl) (by rfl) (by rfl) (by simp) fun S Φ P0 wb ac h => ?_
  refine rs_plain 5 [] [none, none, none, none] [2, 3, 4, 5, 8] [(1, 0), (2, 0), (3, 0)] h rfl rfl (by simp only [EX, simprocAttr, Nat.blt, Nat.ble, tz_4, tz_26, tz_33] <;> rfl) fun ac wd h => ?_
  refine wp_seq ?_
  obtain ⟨e27, hE28, hD⟩ := Option.bind_eq_some_iff.1 hD
  refine r_seqJ (fun ac wd => ∃ (b26 : Bool), b26 = e27 ∧ SL ⟨wb, S, Φ, P0⟩ 38 14 [(2, .one (.d (.int .i64 a2))), (3, .one (.d (.int .i64 a3))), (4, .one (.ptr (1, 0) 0)), (5, .one (.ptr (2, 0) 0)), (8, .one (.ptr (3, 0) 0)), (20, .one (.d (.bool b26)))] [((1, 0), some (.box 33 [.d (.int .i64 a0.Epoch), .d (.sl (List.map eB a0.Open)), .d (.int .i64 a0.P.Node), .d (.int .i64 a0.P.State), .d (.int .i64 a0.P.Steps), .d (.sl (List.map eI a0.P.Sent)), .d (.sl (List.map (eL eTMsg) a0.P.In)), .d (.sl (List.map (eL eI) a0.P.Out))])), ((2, 0), some (.box 26 [.d (.int .i64 a1.Node), .d (.int .i64 a1.State), .d (.int .i64 a1.Steps), .d (.sl (List.map (eL eTMsg) a1.In)), .d (.sl (List.map (eL eI) a1.Out))])), ((3, 0), some (.box 33 [.d (.int .i64 0), .nil, .d (.int .i64 0), .d (.int .i64 0), .d (.int .i64 0), .nil, .nil, .nil]))] ac wd) ?_ ?_
  · skip
    by_cases hb29 : a3 < 0
    · rw [if_pos hb29] at hE28
      refine r_plain [] [none, none, none, some (some 14, false), some (some 14, false), some (some 14, false), some (some 14, false), some (some 14, false), none] [2, 3, 4, 5, 8, 20] [(1, 0), (2, 0), (3, 0)] h rfl (by simp only [EX, simprocAttr, Nat.blt, Nat.ble, tz_3, tz_4, tz_23, tz_26, tz_38, tz_57, hb29] <;> rfl) fun ac wd h => ?_
      have h := h.same [2, 3, 4, 5, 8, 20] [(1, 0), (2, 0), (3, 0)] 14 [(2, .one (.d (.int .i64 a2))), (3, .one (.d (.int .i64 a3))), (4, .one (.ptr (1, 0) 0)), (5, .one (.ptr (2, 0) 0)), (8, .one (.ptr (3, 0) 0)), (20, .one (.d (.bool true)))]
        [((1, 0), some (.box 33 [.d (.int .i64 a0.Epoch), .d (.sl (List.map eB a0.Open)), .d (.int .i64 a0.P.Node), .d (.int .i64 a0.P.State), .d (.int .i64 a0.P.Steps), .d (.sl (List.map eI a0.P.Sent)), .d (.sl (List.map (eL eTMsg) a0.P.In)), .d (.sl (List.map (eL eI) a0.P.Out))])), ((2, 0), some (.box 26 [.d (.int .i64 a1.Node), .d (.int .i64 a1.State), .d (.int .i64 a1.Steps), .d (.sl (List.map (eL eTMsg) a1.In)), .d (.sl (List.map (eL eI) a1.Out))])), ((3, 0), some (.box 33 [.d (.int .i64 0), .nil, .d (.int .i64 0), .d (.int .i64 0), .d (.int .i64 0), .nil, .nil, .nil]))]
        (by simp only [EX, simprocAttr, Nat.blt, Nat.ble, hb29] <;> rfl)
      injection hE28 with hE28
      exact ⟨true, hE28, h⟩
    · rw [if_neg hb29] at hE28
      refine r_plain [] [none, none, none, some (some 14, false), some (some 14, false), some (some 14, false), some (some 14, false), some (some 14, false), none] [2, 3, 4, 5, 8, 20] [(1, 0), (2, 0), (3, 0)] h rfl (by simp only [EX, simprocAttr, Nat.blt, Nat.ble, tz_3, tz_4, tz_23, tz_26, tz_38, tz_57, hb29] <;> rfl) fun ac wd h => ?_
      have h := h.same [2, 3, 4, 5, 8, 20] [(1, 0), (2, 0), (3, 0)] 14 [(2, .one (.d (.int .i64 a2))), (3, .one (.d (.int .i64 a3))), (4, .one (.ptr (1, 0) 0)), (5, .one (.ptr (2, 0) 0)), (8, .one (.ptr (3, 0) 0)), (20, .one (.d (.bool (decide (a3 ≥ (a1.In.length : Int))))))]
        [((1, 0), some (.box 33 [.d (.int .i64 a0.Epoch), .d (.sl (List.map eB a0.Open)), .d (.int .i64 a0.P.Node), .d (.int .i64 a0.P.State), .d (.int .i64 a0.P.Steps), .d (.sl (List.map eI a0.P.Sent)), .d (.sl (List.map (eL eTMsg) a0.P.In)), .d (.sl (List.map (eL eI) a0.P.Out))])), ((2, 0), some (.box 26 [.d (.int .i64 a1.Node), .d (.int .i64 a1.State), .d (.int .i64 a1.Steps), .d (.sl (List.map (eL eTMsg) a1.In)), .d (.sl (List.map (eL eI) a1.Out))])), ((3, 0), some (.box 33 [.d (.int .i64 0), .nil, .d (.int .i64 0), .d (.int .i64 0), .d (.int .i64 0), .nil, .nil, .nil]))]
        (by simp only [EX, simprocAttr, Nat.blt, Nat.ble, hb29] <;> rfl)
      injection hE28 with hE28
      exact ⟨decide (a3 ≥ (a1.In.length : Int)), hE28, h⟩
  · skip
    rintro ac wd ⟨b26, rfl, h⟩
    (try dsimp only at hD)
    by_cases hb31 : b26 = true
    · rw [if_pos hb31] at hD
      refine r_condT h b26 (by simp only [EX, simprocAttr, Nat.blt, Nat.ble, hb31] <;> rfl) (by first | rfl | (simp only [EX, simprocAttr, Nat.blt, Nat.ble, hb31] <;> rfl)) ?_
      refine rs_plain 17 [] [none, none, none] [8, 9] [(3, 0)] h rfl rfl (by simp only [EX, simprocAttr, Nat.blt, Nat.ble, tz_4, tz_33, hb31] <;> rfl) fun ac wd h => ?_
      refine wp_ret ?_
      injection hD with hD
      subst hD
      exact r_retE rfl h [.cell 8 33, .tmp 9] rfl (by simp only [retD, List.mapM_cons, List.mapM_nil, Option.bind_eq_bind, Option.pure_def, EX, simprocAttr, Nat.blt, Nat.ble, tz_33, hb31] <;> rfl)
    · rw [if_neg hb31] at hD
      have hb31n := eq_false_of_ne_true hb31
      refine r_condF h b26 (by simp only [EX, simprocAttr, Nat.blt, Nat.ble, hb31n] <;> rfl) (by first | rfl | (simp only [EX, simprocAttr, Nat.blt, Nat.ble, hb31n] <;> rfl)) ?_
      refine wp_skip ?_
      change Code.wp Try.prog _ _ _ _
      refine rs_plain 19 [] [none, none, none, none, none] [2, 3, 4, 5, 8, 10] [(1, 0), (2, 0), (3, 0)] h rfl rfl (by simp only [EX, simprocAttr, Nat.blt, Nat.ble, tz_3, tz_4, tz_33, hb31n] <;> rfl) fun ac wd h => ?_
      refine wp_seq ?_
      refine rs_plain 20 [] [none] [2, 3, 4, 5, 8, 10, 26] [(1, 0), (2, 0), (3, 0)] h rfl rfl (by simp only [EX, simprocAttr, Nat.blt, Nat.ble, tz_4, hb31n] <;> rfl) fun ac wd h => ?_
      obtain ⟨e36, hE37, hD⟩ := Option.bind_eq_some_iff.1 hD
      refine r_meet (fun ac wd => ∃ (m35 : TMark), m35 = e36 ∧ SL ⟨wb, S, Φ, P0⟩ 38 24 [(3, .one (.d (.int .i64 a3))), (4, .one (.ptr (1, 0) 0)), (8, .one (.ptr (3, 0) 0)), (10, .one (.d (.bool (!(decide (a0.Epoch = a2))))))] [((1, 0), some (.box 33 [.d (.int .i64 m35.Epoch), .d (.sl (List.map eB m35.Open)), .d (.int .i64 m35.P.Node), .d (.int .i64 m35.P.State), .d (.int .i64 m35.P.Steps), .d (.sl (List.map eI m35.P.Sent)), .d (.sl (List.map (eL eTMsg) m35.P.In)), .d (.sl (List.map (eL eI) m35.P.Out))])), ((3, 0), some (.box 33 [.d (.int .i64 0), .nil, .d (.int .i64 0), .d (.int .i64 0), .d (.int .i64 0), .nil, .nil, .nil]))] ac wd) ?_ ?_
      · skip
        by_cases hb38 : a0.Epoch = a2
        · rw [if_pos hb38] at hE37
          have hb38t := eq_true hb38
          refine r_condF h (!(decide (a0.Epoch = a2))) (by simp only [EX, simprocAttr, Nat.blt, Nat.ble, hb31n, hb38t] <;> rfl) (by first | rfl | (simp only [EX, simprocAttr, Nat.blt, Nat.ble, hb31n, hb38t] <;> rfl)) ?_
          refine wp_skip ?_
          have h := h.same [3, 4, 8, 10] [(1, 0), (3, 0)] 24 [(3, .one (.d (.int .i64 a3))), (4, .one (.ptr (1, 0) 0)), (8, .one (.ptr (3, 0) 0)), (10, .one (.d (.bool (!(decide (a0.Epoch = a2))))))]
            [((1, 0), some (.box 33 [.d (.int .i64 a0.Epoch), .d (.sl (List.map eB a0.Open)), .d (.int .i64 a0.P.Node), .d (.int .i64 a0.P.State), .d (.int .i64 a0.P.Steps), .d (.sl (List.map eI a0.P.Sent)), .d (.sl (List.map (eL eTMsg) a0.P.In)), .d (.sl (List.map (eL eI) a0.P.Out))])), ((3, 0), some (.box 33 [.d (.int .i64 0), .nil, .d (.int .i64 0), .d (.int .i64 0), .d (.int .i64 0), .nil, .nil, .nil]))]
            (by simp only [EX, simprocAttr, Nat.blt, Nat.ble, hb31n, hb38t] <;> rfl)
          injection hE37 with hE37
          exact ⟨a0, hE37, h⟩
        · rw [if_neg hb38] at hE37
          refine r_condT h (!(decide (a0.Epoch = a2))) (by simp only [EX, simprocAttr, Nat.blt, Nat.ble, hb31n, hb38] <;> rfl) (by first | rfl | (simp only [EX, simprocAttr, Nat.blt, Nat.ble, hb31n, hb38] <;> rfl)) ?_
          obtain ⟨r39, hc40, hE37⟩ := Option.bind_eq_some_iff.1 hE37
          have hc40k := L_mark_Begin_ok hc40
          refine r_plain [factE 22 hc40k] [none, none, none, none] [3, 4, 8, 10] [(1, 0), (3, 0)] h rfl (by simp only [EX, simprocAttr, Nat.blt, Nat.ble, tz_3, tz_26, tz_33, hb31n, hb38] <;> rfl) fun ac wd h => ?_
          have h := h.same [3, 4, 8, 10] [(1, 0), (3, 0)] 24 [(3, .one (.d (.int .i64 a3))), (4, .one (.ptr (1, 0) 0)), (8, .one (.ptr (3, 0) 0)), (10, .one (.d (.bool (!(decide (a0.Epoch = a2))))))]
            [((1, 0), some (.box 33 [.d (.int .i64 r39.Epoch), .d (.sl (List.map eB r39.Open)), .d (.int .i64 r39.P.Node), .d (.int .i64 r39.P.State), .d (.int .i64 r39.P.Steps), .d (.sl (List.map eI r39.P.Sent)), .d (.sl (List.map (eL eTMsg) r39.P.In)), .d (.sl (List.map (eL eI) r39.P.Out))])), ((3, 0), some (.box 33 [.d (.int .i64 0), .nil, .d (.int .i64 0), .d (.int .i64 0), .d (.int .i64 0), .nil, .nil, .nil]))]
            (by simp only [EX, simprocAttr, Nat.blt, Nat.ble, hb31n, hb38] <;> rfl)
          injection hE37 with hE37
          exact ⟨r39, hE37, h⟩
      · skip
        rintro ac wd ⟨m35, rfl, h⟩
        (try dsimp only at hD)
        obtain ⟨r43, hc44, hD⟩ := Option.bind_eq_some_iff.1 hD
        have hc44_25 : CallH Try.prog 23 [.agg [.d (.int .i64 m35.Epoch), .d (.sl (List.map eB m35.Open)), .d (.int .i64 m35.P.Node), .d (.int .i64 m35.P.State), .d (.int .i64 m35.P.Steps), .d (.sl (List.map eI m35.P.Sent)), .d (.sl (List.map (eL eTMsg) m35.P.In)), .d (.sl (List.map (eL eI) m35.P.Out))]] [] (.agg [.d (.int .i64 r43.Epoch), .own (25, 0) r43.Open.length, .d (.int .i64 r43.P.Node), .d (.int .i64 r43.P.State), .d (.int .i64 r43.P.Steps), .own (25, 1) r43.P.Sent.length, .own (25, 2) r43.P.In.length, .own (25, 3) r43.P.Out.length]) [((25, 0), some (.row 4 1 (dat (List.map eB r43.Open)))), ((25, 1), some (.row 3 1 (dat (List.map eI r43.P.Sent)))), ((25, 2), some (.row 57 1 (openRows cols_57 (List.map (eL eTMsg) r43.P.In)))), ((25, 3), some (.row 29 1 (openRows cols_29 (List.map (eL eI) r43.P.Out))))] := ((L_mark_Mark_own_own hc44).cls 25).as (by simp only [EX, simprocAttr, Nat.blt, Nat.ble, fren, mren, AV.ren, AObj.ren, Cell.ren, sumRen, Upd.ren, swp, csw, dat_ren, opn_ren] <;> rfl)
        refine rs_plain 28 [factO hc44_25] [none, none, none, none] [3, 8, 10, 11] [(3, 0), (25, 0), (25, 1), (25, 2), (25, 3), (26, 0)] h rfl rfl (by simp only [EX, simprocAttr, Nat.blt, Nat.ble, tz_33, hb31n] <;> rfl) fun ac wd h => ?_
        obtain ⟨x47, hx48, hD⟩ := Option.bind_eq_some_iff.1 hD
        obtain ⟨hx48a, hx48b, hx48c⟩ := at_some hx48
        have hx48d := (List.getElem?_eq_some_iff.1 hx48b).1
        refine rs_plain 33 [] [none, none, none, none, none] [8, 10, 11] [(3, 0), (25, 0), (25, 1), (25, 2), (25, 3), (26, 0)] h rfl rfl (by simp only [EX, simprocAttr, Nat.blt, Nat.ble, tz_3, tz_4, tz_28, tz_33, hb31n, hx48a, hx48b, hx48c, hx48d] <;> rfl) fun ac wd h => ?_
        refine rs_plain 37 [] [none, none, none, none] [8, 9] [(3, 0), (25, 0), (25, 1), (25, 2), (25, 3)] h rfl rfl (by simp only [EX, simprocAttr, Nat.blt, Nat.ble, tz_4, tz_33, hb31n] <;> rfl) fun ac wd h => ?_
        refine wp_ret ?_
        injection hD with hD
        subst hD
        exact r_retE rfl h [.cell 8 33, .tmp 9] rfl (by simp only [retD, List.mapM_cons, List.mapM_nil, Option.bind_eq_bind, Option.pure_def, EX, simprocAttr, Nat.blt, Nat.ble, tz_33, hb31n] <;> rfl)

set_option maxRecDepth 20000 in
set_option maxHeartbeats 4000000 in
theorem L_law09_Ref_ok {a0 : THost} {r : THost} (hD : L_law09_Ref a0 = some r) :
    CallH Try.prog 12 [.agg [.d (.int .i64 a0.Node), .d (.int .i64 a0.State), .d (.int .i64 a0.Steps), .d (.sl (List.map (eL eTMsg) a0.In)), .d (.sl (List.map (eL eI) a0.Out))]] []
      (.agg [.d (.int .i64 r.Node), .d (.int .i64 r.State), .d (.int .i64 r.Steps), .d (.sl (List.map (eL eTMsg) r.In)), .d (.sl (List.map (eL eI) r.Out))]) [] := by
  unfold L_law09_Ref at hD
  refine r_call Try.func12 rfl Try.ntmps12 (by kernel_rfl) (by rfl) (by rfl) (by simp) fun S Φ P0 wb ac h => ?_
  refine rs_plain 3 [] [none, none] [1, 2] [(1, 0), (2, 0)] h rfl rfl (by simp only [EX, simprocAttr, Nat.blt, Nat.ble, tz_26, tz_45] <;> rfl) fun ac wd h => ?_
  refine rs_plain 15 [] [none, none, none, none, none, none, none, none, none, none, none, none] [2] [(2, 0)] h rfl rfl (by simp only [EX, simprocAttr, Nat.blt, Nat.ble, tz_2, tz_3, tz_4, tz_23, tz_24, tz_26, tz_29, tz_38, tz_45, tz_57] <;> rfl) fun ac wd h => ?_
  refine wp_ret ?_
  injection hD with hD
  subst hD
  exact r_retE rfl h [.cell 2 45] rfl (by simp only [retD, List.mapM_cons, List.mapM_nil, Option.bind_eq_bind, Option.pure_def, EX, simprocAttr, Nat.blt, Nat.ble, tz_45] <;> rfl)

set_option maxRecDepth 20000 in
set_option maxHeartbeats 4000000 in
theorem L_ref09_own_own {a0 : THost} {r : THost} (hD : L_ref09_own a0 = some r) :
    CallH Try.prog 37 [.agg [.d (.int .i64 a0.Node), .d (.int .i64 a0.State), .d (.int .i64 a0.Steps), .d (.sl (List.map (eL eTMsg) a0.In)), .d (.sl (List.map (eL eI) a0.Out))]] []
      (.agg [.d (.int .i64 r.Node), .d (.int .i64 r.State), .d (.int .i64 r.Steps), .own (1, 0) r.In.length, .own (1, 1) r.Out.length]) [((1, 0), some (.row 57 1 (openRows cols_57 (List.map (eL eTMsg) r.In)))), ((1, 1), some (.row 29 1 (openRows cols_29 (List.map (eL eI) r.Out))))] := by
  unfold L_ref09_own at hD
  refine r_call Try.func37 rfl Try.ntmps37 (by kernel_rfl) (by rfl) (by simp only [shutB, EX, simprocAttr, Nat.blt, Nat.ble] <;> rfl) (by simp) fun S Φ P0 wb ac h => ?_
  refine rs_plain 3 [] [none, none] [1, 2] [(1, 0), (2, 0)] h rfl rfl (by simp only [EX, simprocAttr, Nat.blt, Nat.ble, tz_45] <;> rfl) fun ac wd h => ?_
  refine rs_plain 12 [] [none, none, none, none, none, none, none, none, none] [1, 2, 3] [(1, 0), (2, 0), (10, 0)] h rfl rfl (by simp only [EX, simprocAttr, Nat.blt, Nat.ble, tz_2, tz_3, tz_45] <;> rfl) fun ac wd h => ?_
  refine wp_seq ?_
  refine rs_plain 13 [] [none] [1, 2, 3, 4] [(1, 0), (2, 0), (10, 0)] h rfl rfl (by simp only [EX, simprocAttr, Nat.blt, Nat.ble, tz_3] <;> rfl) fun ac wd h => ?_
  obtain ⟨e178, hE179, hD⟩ := Option.bind_eq_some_iff.1 hD
  refine r_meet (fun ac wd => ∃ (l177 : List (List TMsg)), l177 = e178 ∧ SL ⟨wb, S, Φ, P0⟩ 52 60 [(1, .one (.ptr (1, 0) 0)), (2, .one (.ptr (2, 0) 0)), (3, .one (.ptr (10, 0) 0))] [((1, 0), some (.box 45 [.d (.int .i64 a0.Node), .d (.int .i64 a0.State), .d (.int .i64 a0.Steps), .d (.sl (List.map (eL eTMsg) a0.In)), .d (.sl (List.map (eL eI) a0.Out))])), ((2, 0), some (.box 45 [.d (.int .i64 0), .d (.int .i64 0), .d (.int .i64 0), .nil, .nil])), ((10, 0), some (.box 45 [.d (.int .i64 a0.Node), .d (.int .i64 a0.State), .d (.int .i64 a0.Steps), .own (13, 0) l177.length, .nil])), ((13, 0), some (.row 57 1 (openRows cols_57 (List.map (eL eTMsg) l177))))] ac wd) ?_ ?_
  · skip
    refine wp_block ?_
    have h := SL.bornB h (10, 0) 3 57 1 (by simp only [EX, simprocAttr, Nat.blt, Nat.ble] <;> rfl) (by simp only [EX, simprocAttr, Nat.blt, Nat.ble] <;> rfl)
    have h := h.same [1, 2, 3, 4] [(1, 0), (2, 0), (10, 0), (13, 0)] 55 [(1, .one (.ptr (1, 0) 0)), (2, .one (.ptr (2, 0) 0)), (3, .one (.ptr (10, 0) 0)), (4, .one (.d (.int .i64 0)))]
      [((1, 0), some (.box 45 [.d (.int .i64 a0.Node), .d (.int .i64 a0.State), .d (.int .i64 a0.Steps), .d (.sl (List.map (eL eTMsg) a0.In)), .d (.sl (List.map (eL eI) a0.Out))])), ((2, 0), some (.box 45 [.d (.int .i64 0), .d (.int .i64 0), .d (.int .i64 0), .nil, .nil])), ((10, 0), some (.box 45 [.d (.int .i64 a0.Node), .d (.int .i64 a0.State), .d (.int .i64 a0.Steps), .own (13, 0) ([] : List (List TMsg)).length, .nil])), ((13, 0), some (.row 57 1 (openRows cols_57 (List.map (eL eTMsg) ([] : List (List TMsg))))))]
      (by simp only [EX, simprocAttr, Nat.blt, Nat.ble] <;> rfl)
    refine r_while (fun nf ac wd => ∃ (n202 : Int) (l203 : List (List TMsg)), L_ref09_own_l1 a0 nf n202 l203 = some e178 ∧ SL ⟨wb, S, Φ, P0⟩ 52 55 [(1, .one (.ptr (1, 0) 0)), (2, .one (.ptr (2, 0) 0)), (3, .one (.ptr (10, 0) 0)), (4, .one (.d (.int .i64 n202)))] [((1, 0), some (.box 45 [.d (.int .i64 a0.Node), .d (.int .i64 a0.State), .d (.int .i64 a0.Steps), .d (.sl (List.map (eL eTMsg) a0.In)), .d (.sl (List.map (eL eI) a0.Out))])), ((2, 0), some (.box 45 [.d (.int .i64 0), .d (.int .i64 0), .d (.int .i64 0), .nil, .nil])), ((10, 0), some (.box 45 [.d (.int .i64 a0.Node), .d (.int .i64 a0.State), .d (.int .i64 a0.Steps), .own (13, 0) l203.length, .nil])), ((13, 0), some (.row 57 1 (openRows cols_57 (List.map (eL eTMsg) l203))))] ac wd) (((a0.In.length : Int) - 0).toNat + 1) ⟨0, ([] : List (List TMsg)), hE179, h⟩ (fun nf ac wd hJ => ?_)
    obtain ⟨n202, l203, hL204, h⟩ := hJ
    cases nf with
    | zero => rw [L_ref09_own_l1] at hL204; cases hL204
    | succ nf =>
      rw [L_ref09_own_l1] at hL204
      refine wp_seq ?_
      refine rs_plain 60 [] [none, none, none, none, none] [1, 2, 3, 4, 17] [(1, 0), (2, 0), (10, 0), (13, 0)] h rfl rfl (by simp only [EX, simprocAttr, Nat.blt, Nat.ble, tz_3, tz_4, tz_23, tz_38, tz_45, tz_57] <;> rfl) fun ac wd h => ?_
      by_cases hb206 : n202 < (a0.In.length : Int)
      · rw [if_pos hb206] at hL204
        refine r_condT h (decide (n202 < (a0.In.length : Int))) (by simp only [EX, simprocAttr, Nat.blt, Nat.ble, hb206] <;> rfl) (by first | rfl | (simp only [EX, simprocAttr, Nat.blt, Nat.ble, hb206] <;> rfl)) ?_
        refine wp_skip ?_
        change Code.wp Try.prog _ _ _ _
        refine wp_seq ?_
        refine wp_block ?_
        obtain ⟨x211, hx212, hL204⟩ := Option.bind_eq_some_iff.1 hL204
        obtain ⟨hx212a, hx212b, hx212c⟩ := at_some hx212
        have hx212d := (List.getElem?_eq_some_iff.1 hx212b).1
        by_cases ha213 : x211.length * 16 ≤ 140737488355328
        case neg => rw [if_neg ha213] at hL204; cases hL204
        rw [if_pos ha213] at hL204
        by_cases ha214 : (l203.length + 1) * 24 ≤ 140737488355328
        case neg => rw [if_neg ha214] at hL204; cases hL204
        rw [if_pos ha214] at hL204
        refine r_drawn ty_hm [] [none, none, none, none, none, none, none, none, none, none, none, none, none] [1, 2, 3, 4] [(1, 0), (2, 0), (10, 0), (68, 0), (70, 0)] h rfl (by simp only [EX, simprocAttr, Nat.blt, Nat.ble, tz_3, tz_23, tz_38, tz_45, tz_57, hb206, ha213, ha214, hx212a, hx212b, hx212c, hx212d] <;> rfl) (by kernel_rfl) fun ac wd h => ?_
        have h := h.foldL (cols := (fun _ => .sc)) (70, 0) (68, 0) (openRows cols_57 (List.map (eL eTMsg) l203)) [.own (68, 0) x211.length] 0 (List.map eTMsg x211) (by simp only [EX, simprocAttr, Nat.blt, Nat.ble, hb206, hx212a, hx212b, hx212c, hx212d, ha213, ha214] <;> rfl)  (by rfl) (by simp only [EX, simprocAttr, Nat.blt, Nat.ble, hb206, hx212a, hx212b, hx212c, hx212d, ha213, ha214] <;> rfl) (by simp only [EX, simprocAttr, Nat.blt, Nat.ble, hb206, hx212a, hx212b, hx212c, hx212d, ha213, ha214, dat_open] <;> rfl) (by simp only [EX, simprocAttr, Nat.blt, Nat.ble, hb206, hx212a, hx212b, hx212c, hx212d, ha213, ha214] <;> rfl) (by decide) (sc_38 _)
        have h := h.same [1, 2, 3, 4] [(1, 0), (2, 0), (10, 0), (70, 0)] 73 [(1, .one (.ptr (1, 0) 0)), (2, .one (.ptr (2, 0) 0)), (3, .one (.ptr (10, 0) 0)), (4, .one (.d (.int .i64 n202)))]
          [((1, 0), some (.box 45 [.d (.int .i64 a0.Node), .d (.int .i64 a0.State), .d (.int .i64 a0.Steps), .d (.sl (List.map (eL eTMsg) a0.In)), .d (.sl (List.map (eL eI) a0.Out))])), ((2, 0), some (.box 45 [.d (.int .i64 0), .d (.int .i64 0), .d (.int .i64 0), .nil, .nil])), ((10, 0), some (.box 45 [.d (.int .i64 a0.Node), .d (.int .i64 a0.State), .d (.int .i64 a0.Steps), .own (70, 0) (l203.length + 1), .nil])), ((70, 0), some (.row 57 1 ((openRows cols_57 (List.map (eL eTMsg) l203) ++ [[.tr (.sl 38 2 (fun _ => .sc)) (.sl (List.map eTMsg x211))]]))))]
          (by simp only [EX, simprocAttr, Nat.blt, Nat.ble, hb206, hx212a, hx212b, hx212c, hx212d, ha213, ha214, dat_open] <;> rfl)
        change Code.wp Try.prog _ _ _ _
        refine r_plain [] [none, none, none] [1, 2, 3, 4] [(1, 0), (2, 0), (10, 0), (70, 0)] h rfl (by simp only [EX, simprocAttr, Nat.blt, Nat.ble, tz_3, hb206, ha213, ha214] <;> rfl) fun ac wd h => ?_
        have h := SL.swap h (13, 0) (70, 0) 76 (by decide) (by decide) (by simp only [EX, simprocAttr, Nat.blt, Nat.ble, hb206, hx212a, hx212b, hx212c, hx212d, ha213, ha214, fren, mren, AV.ren, AObj.ren, Cell.ren, sumRen, Upd.ren, swp, csw, dat_ren, opn_ren] <;> rfl) (by simp only [EX, simprocAttr, Nat.blt, Nat.ble, hb206, hx212a, hx212b, hx212c, hx212d, ha213, ha214, fren, mren, AV.ren, AObj.ren, Cell.ren, sumRen, Upd.ren, swp, csw, dat_ren, opn_ren] <;> rfl) (by simp only [EX, simprocAttr, Nat.blt, Nat.ble, hb206, hx212a, hx212b, hx212c, hx212d, ha213, ha214, fren, mren, AV.ren, AObj.ren, Cell.ren, sumRen, Upd.ren, swp, csw, dat_ren, opn_ren] <;> rfl)
        have h := h.same [1, 2, 3, 4] [(1, 0), (2, 0), (10, 0), (13, 0)] 55 [(1, .one (.ptr (1, 0) 0)), (2, .one (.ptr (2, 0) 0)), (3, .one (.ptr (10, 0) 0)), (4, .one (.d (.int .i64 (IntKind.wrap .i64 (n202 + 1)))))]
          [((1, 0), some (.box 45 [.d (.int .i64 a0.Node), .d (.int .i64 a0.State), .d (.int .i64 a0.Steps), .d (.sl (List.map (eL eTMsg) a0.In)), .d (.sl (List.map (eL eI) a0.Out))])), ((2, 0), some (.box 45 [.d (.int .i64 0), .d (.int .i64 0), .d (.int .i64 0), .nil, .nil])), ((10, 0), some (.box 45 [.d (.int .i64 a0.Node), .d (.int .i64 a0.State), .d (.int .i64 a0.Steps), .own (13, 0) (l203 ++ [x211]).length, .nil])), ((13, 0), some (.row 57 1 (openRows cols_57 (List.map (eL eTMsg) (l203 ++ [x211])))))]
          (by simp only [EX, simprocAttr, Nat.blt, Nat.ble, hb206, hx212a, hx212b, hx212c, hx212d, ha213, ha214] <;> rfl)
        change ∃ n', _ ∧ _
        exact ⟨nf, Nat.lt_succ_self nf, (IntKind.wrap .i64 (n202 + 1)), (l203 ++ [x211]), hL204, h⟩
      · rw [if_neg hb206] at hL204
        refine r_condF h (decide (n202 < (a0.In.length : Int))) (by simp only [EX, simprocAttr, Nat.blt, Nat.ble, hb206] <;> rfl) (by first | rfl | (simp only [EX, simprocAttr, Nat.blt, Nat.ble, hb206] <;> rfl)) ?_
        refine wp_exit ?_
        have h := h.same [1, 2, 3] [(1, 0), (2, 0), (10, 0), (13, 0)] 60 [(1, .one (.ptr (1, 0) 0)), (2, .one (.ptr (2, 0) 0)), (3, .one (.ptr (10, 0) 0))]
          [((1, 0), some (.box 45 [.d (.int .i64 a0.Node), .d (.int .i64 a0.State), .d (.int .i64 a0.Steps), .d (.sl (List.map (eL eTMsg) a0.In)), .d (.sl (List.map (eL eI) a0.Out))])), ((2, 0), some (.box 45 [.d (.int .i64 0), .d (.int .i64 0), .d (.int .i64 0), .nil, .nil])), ((10, 0), some (.box 45 [.d (.int .i64 a0.Node), .d (.int .i64 a0.State), .d (.int .i64 a0.Steps), .own (13, 0) l203.length, .nil])), ((13, 0), some (.row 57 1 (openRows cols_57 (List.map (eL eTMsg) l203))))]
          (by simp only [EX, simprocAttr, Nat.blt, Nat.ble, hb206] <;> rfl)
        injection hL204 with hL204
        exact ⟨l203, hL204, h⟩
  · skip
    rintro ac wd ⟨l177, rfl, h⟩
    (try dsimp only at hD)
    refine wp_seq ?_
    refine rs_plain 61 [] [none] [1, 2, 3, 5] [(1, 0), (2, 0), (10, 0), (13, 0)] h rfl rfl (by simp only [EX, simprocAttr, Nat.blt, Nat.ble, tz_3] <;> rfl) fun ac wd h => ?_
    refine wp_block ?_
    have h := SL.bornB h (10, 0) 4 29 1 (by simp only [EX, simprocAttr, Nat.blt, Nat.ble] <;> rfl) (by simp only [EX, simprocAttr, Nat.blt, Nat.ble] <;> rfl)
    have h := h.same [1, 2, 3, 5] [(1, 0), (2, 0), (10, 0), (13, 0), (61, 0)] 103 [(1, .one (.ptr (1, 0) 0)), (2, .one (.ptr (2, 0) 0)), (3, .one (.ptr (10, 0) 0)), (5, .one (.d (.int .i64 0)))]
      [((1, 0), some (.box 45 [.d (.int .i64 a0.Node), .d (.int .i64 a0.State), .d (.int .i64 a0.Steps), .d (.sl (List.map (eL eTMsg) a0.In)), .d (.sl (List.map (eL eI) a0.Out))])), ((2, 0), some (.box 45 [.d (.int .i64 0), .d (.int .i64 0), .d (.int .i64 0), .nil, .nil])), ((10, 0), some (.box 45 [.d (.int .i64 a0.Node), .d (.int .i64 a0.State), .d (.int .i64 a0.Steps), .own (13, 0) l177.length, .own (61, 0) ([] : List (List Int)).length])), ((13, 0), some (.row 57 1 (openRows cols_57 (List.map (eL eTMsg) l177)))), ((61, 0), some (.row 29 1 (openRows cols_29 (List.map (eL eI) ([] : List (List Int))))))]
      (by simp only [EX, simprocAttr, Nat.blt, Nat.ble] <;> rfl)
    refine r_while (fun nf ac wd => ∃ (n271 : Int) (l272 : List (List Int)), L_ref09_own_l2 a0 l177 nf n271 l272 = some r ∧ SL ⟨wb, S, Φ, P0⟩ 52 103 [(1, .one (.ptr (1, 0) 0)), (2, .one (.ptr (2, 0) 0)), (3, .one (.ptr (10, 0) 0)), (5, .one (.d (.int .i64 n271)))] [((1, 0), some (.box 45 [.d (.int .i64 a0.Node), .d (.int .i64 a0.State), .d (.int .i64 a0.Steps), .d (.sl (List.map (eL eTMsg) a0.In)), .d (.sl (List.map (eL eI) a0.Out))])), ((2, 0), some (.box 45 [.d (.int .i64 0), .d (.int .i64 0), .d (.int .i64 0), .nil, .nil])), ((10, 0), some (.box 45 [.d (.int .i64 a0.Node), .d (.int .i64 a0.State), .d (.int .i64 a0.Steps), .own (13, 0) l177.length, .own (61, 0) l272.length])), ((13, 0), some (.row 57 1 (openRows cols_57 (List.map (eL eTMsg) l177)))), ((61, 0), some (.row 29 1 (openRows cols_29 (List.map (eL eI) l272))))] ac wd) (((a0.Out.length : Int) - 0).toNat + 1) ⟨0, ([] : List (List Int)), hD, h⟩ (fun nf ac wd hJ => ?_)
    obtain ⟨n271, l272, hL273, h⟩ := hJ
    cases nf with
    | zero => rw [L_ref09_own_l2] at hL273; cases hL273
    | succ nf =>
      rw [L_ref09_own_l2] at hL273
      refine wp_seq ?_
      refine rs_plain 108 [] [none, none, none, none, none] [1, 2, 3, 5, 36] [(1, 0), (2, 0), (10, 0), (13, 0), (61, 0)] h rfl rfl (by simp only [EX, simprocAttr, Nat.blt, Nat.ble, tz_3, tz_4, tz_24, tz_29, tz_45] <;> rfl) fun ac wd h => ?_
      by_cases hb275 : n271 < (a0.Out.length : Int)
      · rw [if_pos hb275] at hL273
        refine r_condT h (decide (n271 < (a0.Out.length : Int))) (by simp only [EX, simprocAttr, Nat.blt, Nat.ble, hb275] <;> rfl) (by first | rfl | (simp only [EX, simprocAttr, Nat.blt, Nat.ble, hb275] <;> rfl)) ?_
        refine wp_skip ?_
        change Code.wp Try.prog _ _ _ _
        refine wp_seq ?_
        refine wp_block ?_
        obtain ⟨x280, hx281, hL273⟩ := Option.bind_eq_some_iff.1 hL273
        obtain ⟨hx281a, hx281b, hx281c⟩ := at_some hx281
        have hx281d := (List.getElem?_eq_some_iff.1 hx281b).1
        by_cases ha282 : x280.length * 8 ≤ 140737488355328
        case neg => rw [if_neg ha282] at hL273; cases hL273
        rw [if_pos ha282] at hL273
        by_cases ha283 : (l272.length + 1) * 24 ≤ 140737488355328
        case neg => rw [if_neg ha283] at hL273; cases hL273
        rw [if_pos ha283] at hL273
        refine r_drawn ty_hm [] [none, none, none, none, none, none, none, none, none, none, none, none, none] [1, 2, 3, 5] [(1, 0), (2, 0), (10, 0), (13, 0), (116, 0), (118, 0)] h rfl (by simp only [EX, simprocAttr, Nat.blt, Nat.ble, tz_3, tz_4, tz_24, tz_29, tz_45, hb275, ha282, ha283, hx281a, hx281b, hx281c, hx281d] <;> rfl) (by kernel_rfl) fun ac wd h => ?_
        have h := h.foldL (cols := (fun _ => .sc)) (118, 0) (116, 0) (openRows cols_29 (List.map (eL eI) l272)) [.own (116, 0) x280.length] 0 (List.map eI x280) (by simp only [EX, simprocAttr, Nat.blt, Nat.ble, hb275, hx281a, hx281b, hx281c, hx281d, ha282, ha283] <;> rfl)  (by rfl) (by simp only [EX, simprocAttr, Nat.blt, Nat.ble, hb275, hx281a, hx281b, hx281c, hx281d, ha282, ha283] <;> rfl) (by simp only [EX, simprocAttr, Nat.blt, Nat.ble, hb275, hx281a, hx281b, hx281c, hx281d, ha282, ha283, dat_open] <;> rfl) (by simp only [EX, simprocAttr, Nat.blt, Nat.ble, hb275, hx281a, hx281b, hx281c, hx281d, ha282, ha283] <;> rfl) (by decide) (sc_3 _)
        have h := h.same [1, 2, 3, 5] [(1, 0), (2, 0), (10, 0), (13, 0), (118, 0)] 121 [(1, .one (.ptr (1, 0) 0)), (2, .one (.ptr (2, 0) 0)), (3, .one (.ptr (10, 0) 0)), (5, .one (.d (.int .i64 n271)))]
          [((1, 0), some (.box 45 [.d (.int .i64 a0.Node), .d (.int .i64 a0.State), .d (.int .i64 a0.Steps), .d (.sl (List.map (eL eTMsg) a0.In)), .d (.sl (List.map (eL eI) a0.Out))])), ((2, 0), some (.box 45 [.d (.int .i64 0), .d (.int .i64 0), .d (.int .i64 0), .nil, .nil])), ((10, 0), some (.box 45 [.d (.int .i64 a0.Node), .d (.int .i64 a0.State), .d (.int .i64 a0.Steps), .own (13, 0) l177.length, .own (118, 0) (l272.length + 1)])), ((13, 0), some (.row 57 1 (openRows cols_57 (List.map (eL eTMsg) l177)))), ((118, 0), some (.row 29 1 ((openRows cols_29 (List.map (eL eI) l272) ++ [[.tr (.sl 3 1 (fun _ => .sc)) (.sl (List.map eI x280))]]))))]
          (by simp only [EX, simprocAttr, Nat.blt, Nat.ble, hb275, hx281a, hx281b, hx281c, hx281d, ha282, ha283, dat_open] <;> rfl)
        change Code.wp Try.prog _ _ _ _
        refine r_plain [] [none, none, none] [1, 2, 3, 5] [(1, 0), (2, 0), (10, 0), (13, 0), (118, 0)] h rfl (by simp only [EX, simprocAttr, Nat.blt, Nat.ble, tz_3, hb275, ha282, ha283] <;> rfl) fun ac wd h => ?_
        have h := SL.swap h (61, 0) (118, 0) 124 (by decide) (by decide) (by simp only [EX, simprocAttr, Nat.blt, Nat.ble, hb275, hx281a, hx281b, hx281c, hx281d, ha282, ha283, fren, mren, AV.ren, AObj.ren, Cell.ren, sumRen, Upd.ren, swp, csw, dat_ren, opn_ren] <;> rfl) (by simp only [EX, simprocAttr, Nat.blt, Nat.ble, hb275, hx281a, hx281b, hx281c, hx281d, ha282, ha283, fren, mren, AV.ren, AObj.ren, Cell.ren, sumRen, Upd.ren, swp, csw, dat_ren, opn_ren] <;> rfl) (by simp only [EX, simprocAttr, Nat.blt, Nat.ble, hb275, hx281a, hx281b, hx281c, hx281d, ha282, ha283, fren, mren, AV.ren, AObj.ren, Cell.ren, sumRen, Upd.ren, swp, csw, dat_ren, opn_ren] <;> rfl)
        have h := h.same [1, 2, 3, 5] [(1, 0), (2, 0), (10, 0), (13, 0), (61, 0)] 103 [(1, .one (.ptr (1, 0) 0)), (2, .one (.ptr (2, 0) 0)), (3, .one (.ptr (10, 0) 0)), (5, .one (.d (.int .i64 (IntKind.wrap .i64 (n271 + 1)))))]
          [((1, 0), some (.box 45 [.d (.int .i64 a0.Node), .d (.int .i64 a0.State), .d (.int .i64 a0.Steps), .d (.sl (List.map (eL eTMsg) a0.In)), .d (.sl (List.map (eL eI) a0.Out))])), ((2, 0), some (.box 45 [.d (.int .i64 0), .d (.int .i64 0), .d (.int .i64 0), .nil, .nil])), ((10, 0), some (.box 45 [.d (.int .i64 a0.Node), .d (.int .i64 a0.State), .d (.int .i64 a0.Steps), .own (13, 0) l177.length, .own (61, 0) (l272 ++ [x280]).length])), ((13, 0), some (.row 57 1 (openRows cols_57 (List.map (eL eTMsg) l177)))), ((61, 0), some (.row 29 1 (openRows cols_29 (List.map (eL eI) (l272 ++ [x280])))))]
          (by simp only [EX, simprocAttr, Nat.blt, Nat.ble, hb275, hx281a, hx281b, hx281c, hx281d, ha282, ha283] <;> rfl)
        change ∃ n', _ ∧ _
        exact ⟨nf, Nat.lt_succ_self nf, (IntKind.wrap .i64 (n271 + 1)), (l272 ++ [x280]), hL273, h⟩
      · rw [if_neg hb275] at hL273
        refine r_condF h (decide (n271 < (a0.Out.length : Int))) (by simp only [EX, simprocAttr, Nat.blt, Nat.ble, hb275] <;> rfl) (by first | rfl | (simp only [EX, simprocAttr, Nat.blt, Nat.ble, hb275] <;> rfl)) ?_
        refine wp_exit ?_
        change Code.wp Try.prog _ _ _ _
        refine rs_plain 110 [] [none, none] [2] [(2, 0), (13, 0), (61, 0)] h rfl rfl (by simp only [EX, simprocAttr, Nat.blt, Nat.ble, tz_45, hb275] <;> rfl) fun ac wd h => ?_
        refine wp_ret ?_
        have h := h.same [2] [(2, 0), (13, 0), (61, 0)] 110 [(2, .one (.ptr (2, 0) 0))]
          [((2, 0), some (.box 45 [.d (.int .i64 a0.Node), .d (.int .i64 a0.State), .d (.int .i64 a0.Steps), .own (13, 0) l177.length, .own (61, 0) l272.length])), ((13, 0), some (.row 57 1 (openRows cols_57 (List.map (eL eTMsg) l177)))), ((61, 0), some (.row 29 1 (openRows cols_29 (List.map (eL eI) l272))))]
          (by simp only [EX, simprocAttr, Nat.blt, Nat.ble, hb275, dat_open] <;> rfl)
        have h := SL.swap h (1, 0) (13, 0) 110 (by decide) (by decide) (by simp only [EX, simprocAttr, Nat.blt, Nat.ble, hb275, fren, mren, AV.ren, AObj.ren, Cell.ren, sumRen, Upd.ren, swp, csw, dat_ren, opn_ren] <;> rfl) (by simp only [EX, simprocAttr, Nat.blt, Nat.ble, hb275, fren, mren, AV.ren, AObj.ren, Cell.ren, sumRen, Upd.ren, swp, csw, dat_ren, opn_ren] <;> rfl) (by simp only [EX, simprocAttr, Nat.blt, Nat.ble, hb275, fren, mren, AV.ren, AObj.ren, Cell.ren, sumRen, Upd.ren, swp, csw, dat_ren, opn_ren] <;> rfl)
        have h := h.same [2] [(1, 0), (2, 0), (61, 0)] 110 [(2, .one (.ptr (2, 0) 0))]
          [((1, 0), some (.row 57 1 (openRows cols_57 (List.map (eL eTMsg) l177)))), ((2, 0), some (.box 45 [.d (.int .i64 a0.Node), .d (.int .i64 a0.State), .d (.int .i64 a0.Steps), .own (1, 0) l177.length, .own (61, 0) l272.length])), ((61, 0), some (.row 29 1 (openRows cols_29 (List.map (eL eI) l272))))]
          (by simp only [EX, simprocAttr, Nat.blt, Nat.ble, hb275, dat_open] <;> rfl)
        have h := SL.swap h (1, 1) (61, 0) 110 (by decide) (by decide) (by simp only [EX, simprocAttr, Nat.blt, Nat.ble, hb275, fren, mren, AV.ren, AObj.ren, Cell.ren, sumRen, Upd.ren, swp, csw, dat_ren, opn_ren] <;> rfl) (by simp only [EX, simprocAttr, Nat.blt, Nat.ble, hb275, fren, mren, AV.ren, AObj.ren, Cell.ren, sumRen, Upd.ren, swp, csw, dat_ren, opn_ren] <;> rfl) (by simp only [EX, simprocAttr, Nat.blt, Nat.ble, hb275, fren, mren, AV.ren, AObj.ren, Cell.ren, sumRen, Upd.ren, swp, csw, dat_ren, opn_ren] <;> rfl)
        have h := h.same [2] [(1, 0), (1, 1), (2, 0)] 110 [(2, .one (.ptr (2, 0) 0))]
          [((1, 0), some (.row 57 1 (openRows cols_57 (List.map (eL eTMsg) l177)))), ((1, 1), some (.row 29 1 (openRows cols_29 (List.map (eL eI) l272)))), ((2, 0), some (.box 45 [.d (.int .i64 a0.Node), .d (.int .i64 a0.State), .d (.int .i64 a0.Steps), .own (1, 0) l177.length, .own (1, 1) l272.length]))]
          (by simp only [EX, simprocAttr, Nat.blt, Nat.ble, hb275, dat_open] <;> rfl)
        injection hL273 with hL273
        subst hL273
        exact r_retO rfl h [.cell 2 45] rfl [(1, 0), (1, 1)] (by simp only [retO, List.mapM_cons, List.mapM_nil, Option.bind_eq_bind, Option.pure_def, EX, simprocAttr, Nat.blt, Nat.ble, tz_45, hb275] <;> rfl)
theorem L_ref09_own_ok {a0 : THost} {r : THost} (hD : L_ref09_own a0 = some r) :
    CallH Try.prog 37 [.agg [.d (.int .i64 a0.Node), .d (.int .i64 a0.State), .d (.int .i64 a0.Steps), .d (.sl (List.map (eL eTMsg) a0.In)), .d (.sl (List.map (eL eI) a0.Out))]] []
      (.agg [.d (.int .i64 r.Node), .d (.int .i64 r.State), .d (.int .i64 r.Steps), .d (.sl (List.map (eL eTMsg) r.In)), .d (.sl (List.map (eL eI) r.Out))]) [] :=
  (L_ref09_own_own hD).frz (by simp only [EX, simprocAttr, Nat.blt, Nat.ble] <;> rfl) (by simp only [frzA, frzSum, EX, simprocAttr, Nat.blt, Nat.ble] <;> rfl) rfl

set_option maxRecDepth 20000 in
set_option maxHeartbeats 4000000 in
theorem L_ref09_Piece_own {a0 : THost} {a1 : Bool} {r : TPiece} (hD : L_ref09_Piece a0 a1 = some r) :
    CallH Try.prog 31 [.agg [.d (.int .i64 a0.Node), .d (.int .i64 a0.State), .d (.int .i64 a0.Steps), .d (.sl (List.map (eL eTMsg) a0.In)), .d (.sl (List.map (eL eI) a0.Out))], .one (.d (.bool a1))] []
      (.agg [.d (.int .i64 r.Node), .d (.int .i64 r.State), .d (.int .i64 r.Steps), .own (1, 0) r.Sent.length, .own (1, 1) r.In.length, .own (1, 2) r.Out.length]) [((1, 0), some (.row 3 1 (dat (List.map eI r.Sent)))), ((1, 1), some (.row 57 1 (openRows cols_57 (List.map (eL eTMsg) r.In)))), ((1, 2), some (.row 29 1 (openRows cols_29 (List.map (eL eI) r.Out))))] := by
  unfold L_ref09_Piece at hD
  refine r_call Try.func31 rfl Try.ntmps31 (by kernel_rfl) (by rfl) (by simp only [shutB, EX, simprocAttr, Nat.blt, Nat.ble] <;> rfl) (by simp) fun S Φ P0 wb ac h => ?_
  refine rs_plain 3 [] [none, none] [1, 2, 4] [(1, 0), (2, 0)] h rfl rfl (by simp only [EX, simprocAttr, Nat.blt, Nat.ble, tz_34, tz_45] <;> rfl) fun ac wd h => ?_
  obtain ⟨r104, hc105, hD⟩ := Option.bind_eq_some_iff.1 hD
  have hc105_4 : CallH Try.prog 37 [.agg [.d (.int .i64 a0.Node), .d (.int .i64 a0.State), .d (.int .i64 a0.Steps), .d (.sl (List.map (eL eTMsg) a0.In)), .d (.sl (List.map (eL eI) a0.Out))]] [] (.agg [.d (.int .i64 r104.Node), .d (.int .i64 r104.State), .d (.int .i64 r104.Steps), .own (4, 0) r104.In.length, .own (4, 1) r104.Out.length]) [((4, 0), some (.row 57 1 (openRows cols_57 (List.map (eL eTMsg) r104.In)))), ((4, 1), some (.row 29 1 (openRows cols_29 (List.map (eL eI) r104.Out))))] := ((L_ref09_own_own hc105).cls 4).as (by simp only [EX, simprocAttr, Nat.blt, Nat.ble, fren, mren, AV.ren, AObj.ren, Cell.ren, sumRen, Upd.ren, swp, csw, dat_ren, opn_ren] <;> rfl)
  refine rs_plain 7 [factO hc105_4] [none, none, none, none] [1, 2, 4, 5] [(1, 0), (2, 0), (4, 0), (4, 1), (5, 0)] h rfl rfl (by simp only [EX, simprocAttr, Nat.blt, Nat.ble, tz_45] <;> rfl) fun ac wd h => ?_
  refine rs_plain 20 [] [none, none, none, none, none, none, none, none, none, none, none, none, none] [1, 2, 4, 6] [(1, 0), (2, 0), (4, 0), (4, 1), (18, 0)] h rfl rfl (by simp only [EX, simprocAttr, Nat.blt, Nat.ble, tz_2, tz_3, tz_4, tz_5, tz_23, tz_24, tz_29, tz_34, tz_38, tz_45, tz_57] <;> rfl) fun ac wd h => ?_
  refine wp_seq ?_
  refine rs_plain 21 [] [none] [1, 2, 4, 6, 7] [(1, 0), (2, 0), (4, 0), (4, 1), (18, 0)] h rfl rfl (by simp only [EX, simprocAttr, Nat.blt, Nat.ble, tz_3] <;> rfl) fun ac wd h => ?_
  obtain ⟨e135, hE136, hD⟩ := Option.bind_eq_some_iff.1 hD
  refine r_meet (fun ac wd => ∃ (l134 : List Int), l134 = e135 ∧ SL ⟨wb, S, Φ, P0⟩ 57 66 [(1, .one (.d (.bool a1))), (2, .one (.ptr (1, 0) 0)), (4, .one (.ptr (2, 0) 0)), (6, .one (.ptr (18, 0) 0))] [((1, 0), some (.box 45 [.d (.int .i64 a0.Node), .d (.int .i64 a0.State), .d (.int .i64 a0.Steps), .d (.sl (List.map (eL eTMsg) a0.In)), .d (.sl (List.map (eL eI) a0.Out))])), ((2, 0), some (.box 34 [.d (.int .i64 0), .d (.int .i64 0), .d (.int .i64 0), .nil, .nil, .nil])), ((4, 0), some (.row 57 1 (openRows cols_57 (List.map (eL eTMsg) r104.In)))), ((4, 1), some (.row 29 1 (openRows cols_29 (List.map (eL eI) r104.Out)))), ((18, 0), some (.box 34 [.d (.int .i64 a0.Node), .d (.int .i64 a0.State), .d (.int .i64 a0.Steps), .own (21, 0) l134.length, .own (4, 0) r104.In.length, .own (4, 1) r104.Out.length])), ((21, 0), some (.row 3 1 (dat (List.map eI l134))))] ac wd) ?_ ?_
  · skip
    refine wp_block ?_
    have h := SL.bornB h (18, 0) 3 3 1 (by simp only [EX, simprocAttr, Nat.blt, Nat.ble] <;> rfl) (by simp only [EX, simprocAttr, Nat.blt, Nat.ble] <;> rfl)
    have h := h.same [1, 2, 4, 6, 7] [(1, 0), (2, 0), (4, 0), (4, 1), (18, 0), (21, 0)] 61 [(1, .one (.d (.bool a1))), (2, .one (.ptr (1, 0) 0)), (4, .one (.ptr (2, 0) 0)), (6, .one (.ptr (18, 0) 0)), (7, .one (.d (.int .i64 0)))]
      [((1, 0), some (.box 45 [.d (.int .i64 a0.Node), .d (.int .i64 a0.State), .d (.int .i64 a0.Steps), .d (.sl (List.map (eL eTMsg) a0.In)), .d (.sl (List.map (eL eI) a0.Out))])), ((2, 0), some (.box 34 [.d (.int .i64 0), .d (.int .i64 0), .d (.int .i64 0), .nil, .nil, .nil])), ((4, 0), some (.row 57 1 (openRows cols_57 (List.map (eL eTMsg) r104.In)))), ((4, 1), some (.row 29 1 (openRows cols_29 (List.map (eL eI) r104.Out)))), ((18, 0), some (.box 34 [.d (.int .i64 a0.Node), .d (.int .i64 a0.State), .d (.int .i64 a0.Steps), .own (21, 0) ([] : List Int).length, .own (4, 0) r104.In.length, .own (4, 1) r104.Out.length])), ((21, 0), some (.row 3 1 (dat (List.map eI ([] : List Int)))))]
      (by simp only [EX, simprocAttr, Nat.blt, Nat.ble] <;> rfl)
    refine r_while (fun nf ac wd => ∃ (n155 : Int) (l156 : List Int), L_ref09_Piece_l1 a0 nf n155 l156 = some e135 ∧ SL ⟨wb, S, Φ, P0⟩ 57 61 [(1, .one (.d (.bool a1))), (2, .one (.ptr (1, 0) 0)), (4, .one (.ptr (2, 0) 0)), (6, .one (.ptr (18, 0) 0)), (7, .one (.d (.int .i64 n155)))] [((1, 0), some (.box 45 [.d (.int .i64 a0.Node), .d (.int .i64 a0.State), .d (.int .i64 a0.Steps), .d (.sl (List.map (eL eTMsg) a0.In)), .d (.sl (List.map (eL eI) a0.Out))])), ((2, 0), some (.box 34 [.d (.int .i64 0), .d (.int .i64 0), .d (.int .i64 0), .nil, .nil, .nil])), ((4, 0), some (.row 57 1 (openRows cols_57 (List.map (eL eTMsg) r104.In)))), ((4, 1), some (.row 29 1 (openRows cols_29 (List.map (eL eI) r104.Out)))), ((18, 0), some (.box 34 [.d (.int .i64 a0.Node), .d (.int .i64 a0.State), .d (.int .i64 a0.Steps), .own (21, 0) l156.length, .own (4, 0) r104.In.length, .own (4, 1) r104.Out.length])), ((21, 0), some (.row 3 1 (dat (List.map eI l156))))] ac wd) (((a0.Out.length : Int) - 0).toNat + 1) ⟨0, ([] : List Int), hE136, h⟩ (fun nf ac wd hJ => ?_)
    obtain ⟨n155, l156, hL157, h⟩ := hJ
    cases nf with
    | zero => rw [L_ref09_Piece_l1] at hL157; cases hL157
    | succ nf =>
      rw [L_ref09_Piece_l1] at hL157
      refine wp_seq ?_
      refine rs_plain 66 [] [none, none, none, none, none] [1, 2, 4, 6, 7, 26] [(1, 0), (2, 0), (4, 0), (4, 1), (18, 0), (21, 0)] h rfl rfl (by simp only [EX, simprocAttr, Nat.blt, Nat.ble, tz_3, tz_4, tz_24, tz_29, tz_45] <;> rfl) fun ac wd h => ?_
      by_cases hb159 : n155 < (a0.Out.length : Int)
      · rw [if_pos hb159] at hL157
        refine r_condT h (decide (n155 < (a0.Out.length : Int))) (by simp only [EX, simprocAttr, Nat.blt, Nat.ble, hb159] <;> rfl) (by first | rfl | (simp only [EX, simprocAttr, Nat.blt, Nat.ble, hb159] <;> rfl)) ?_
        refine wp_skip ?_
        change Code.wp Try.prog _ _ _ _
        refine wp_seq ?_
        refine wp_block ?_
        obtain ⟨x163, hx164, hL157⟩ := Option.bind_eq_some_iff.1 hL157
        obtain ⟨hx164a, hx164b, hx164c⟩ := at_some hx164
        have hx164d := (List.getElem?_eq_some_iff.1 hx164b).1
        by_cases ha165 : (l156.length + 1) * 8 ≤ 140737488355328
        case neg => rw [if_neg ha165] at hL157; cases hL157
        rw [if_pos ha165] at hL157
        refine r_drawn ty_hm [] [none, none, none, none, none, none, none, none, none, none, none, none] [1, 2, 4, 6, 7] [(1, 0), (2, 0), (4, 0), (4, 1), (18, 0), (75, 0)] h rfl (by simp only [EX, simprocAttr, Nat.blt, Nat.ble, tz_3, tz_4, tz_24, tz_29, tz_34, tz_45, hb159, ha165, hx164a, hx164b, hx164c, hx164d] <;> rfl) (by kernel_rfl) fun ac wd h => ?_
        change Code.wp Try.prog _ _ _ _
        refine r_plain [] [none, none, none] [1, 2, 4, 6, 7] [(1, 0), (2, 0), (4, 0), (4, 1), (18, 0), (75, 0)] h rfl (by simp only [EX, simprocAttr, Nat.blt, Nat.ble, tz_3, hb159, ha165] <;> rfl) fun ac wd h => ?_
        have h := SL.swap h (21, 0) (75, 0) 81 (by decide) (by decide) (by simp only [EX, simprocAttr, Nat.blt, Nat.ble, hb159, hx164a, hx164b, hx164c, hx164d, ha165, fren, mren, AV.ren, AObj.ren, Cell.ren, sumRen, Upd.ren, swp, csw, dat_ren, opn_ren] <;> rfl) (by simp only [EX, simprocAttr, Nat.blt, Nat.ble, hb159, hx164a, hx164b, hx164c, hx164d, ha165, fren, mren, AV.ren, AObj.ren, Cell.ren, sumRen, Upd.ren, swp, csw, dat_ren, opn_ren] <;> rfl) (by simp only [EX, simprocAttr, Nat.blt, Nat.ble, hb159, hx164a, hx164b, hx164c, hx164d, ha165, fren, mren, AV.ren, AObj.ren, Cell.ren, sumRen, Upd.ren, swp, csw, dat_ren, opn_ren] <;> rfl)
        have h := h.same [1, 2, 4, 6, 7] [(1, 0), (2, 0), (4, 0), (4, 1), (18, 0), (21, 0)] 61 [(1, .one (.d (.bool a1))), (2, .one (.ptr (1, 0) 0)), (4, .one (.ptr (2, 0) 0)), (6, .one (.ptr (18, 0) 0)), (7, .one (.d (.int .i64 (IntKind.wrap .i64 (n155 + 1)))))]
          [((1, 0), some (.box 45 [.d (.int .i64 a0.Node), .d (.int .i64 a0.State), .d (.int .i64 a0.Steps), .d (.sl (List.map (eL eTMsg) a0.In)), .d (.sl (List.map (eL eI) a0.Out))])), ((2, 0), some (.box 34 [.d (.int .i64 0), .d (.int .i64 0), .d (.int .i64 0), .nil, .nil, .nil])), ((4, 0), some (.row 57 1 (openRows cols_57 (List.map (eL eTMsg) r104.In)))), ((4, 1), some (.row 29 1 (openRows cols_29 (List.map (eL eI) r104.Out)))), ((18, 0), some (.box 34 [.d (.int .i64 a0.Node), .d (.int .i64 a0.State), .d (.int .i64 a0.Steps), .own (21, 0) (l156 ++ [(x163.length : Int)]).length, .own (4, 0) r104.In.length, .own (4, 1) r104.Out.length])), ((21, 0), some (.row 3 1 (dat (List.map eI (l156 ++ [(x163.length : Int)])))))]
          (by simp only [EX, simprocAttr, Nat.blt, Nat.ble, hb159, hx164a, hx164b, hx164c, hx164d, ha165] <;> rfl)
        change ∃ n', _ ∧ _
        exact ⟨nf, Nat.lt_succ_self nf, (IntKind.wrap .i64 (n155 + 1)), (l156 ++ [(x163.length : Int)]), hL157, h⟩
      · rw [if_neg hb159] at hL157
        refine r_condF h (decide (n155 < (a0.Out.length : Int))) (by simp only [EX, simprocAttr, Nat.blt, Nat.ble, hb159] <;> rfl) (by first | rfl | (simp only [EX, simprocAttr, Nat.blt, Nat.ble, hb159] <;> rfl)) ?_
        refine wp_exit ?_
        have h := h.same [1, 2, 4, 6] [(1, 0), (2, 0), (4, 0), (4, 1), (18, 0), (21, 0)] 66 [(1, .one (.d (.bool a1))), (2, .one (.ptr (1, 0) 0)), (4, .one (.ptr (2, 0) 0)), (6, .one (.ptr (18, 0) 0))]
          [((1, 0), some (.box 45 [.d (.int .i64 a0.Node), .d (.int .i64 a0.State), .d (.int .i64 a0.Steps), .d (.sl (List.map (eL eTMsg) a0.In)), .d (.sl (List.map (eL eI) a0.Out))])), ((2, 0), some (.box 34 [.d (.int .i64 0), .d (.int .i64 0), .d (.int .i64 0), .nil, .nil, .nil])), ((4, 0), some (.row 57 1 (openRows cols_57 (List.map (eL eTMsg) r104.In)))), ((4, 1), some (.row 29 1 (openRows cols_29 (List.map (eL eI) r104.Out)))), ((18, 0), some (.box 34 [.d (.int .i64 a0.Node), .d (.int .i64 a0.State), .d (.int .i64 a0.Steps), .own (21, 0) l156.length, .own (4, 0) r104.In.length, .own (4, 1) r104.Out.length])), ((21, 0), some (.row 3 1 (dat (List.map eI l156))))]
          (by simp only [EX, simprocAttr, Nat.blt, Nat.ble, hb159] <;> rfl)
        injection hL157 with hL157
        exact ⟨l156, hL157, h⟩
  · skip
    rintro ac wd ⟨l134, rfl, h⟩
    (try dsimp only at hD)
    refine wp_seq ?_
    refine rs_plain 68 [] [none, none] [2, 4, 6, 41] [(1, 0), (2, 0), (4, 0), (4, 1), (18, 0), (21, 0)] h rfl rfl (by simp only [EX, simprocAttr, Nat.blt, Nat.ble, tz_4] <;> rfl) fun ac wd h => ?_
    obtain ⟨e185, hE186, hD⟩ := Option.bind_eq_some_iff.1 hD
    refine r_meet (fun ac wd => ∃ (l183 : List (List TMsg)) (l184 : List (List Int)), (l183, l184) = e185 ∧ SL ⟨wb, S, Φ, P0⟩ 57 107 [(4, .one (.ptr (2, 0) 0)), (6, .one (.ptr (18, 0) 0))] [((2, 0), some (.box 34 [.d (.int .i64 0), .d (.int .i64 0), .d (.int .i64 0), .nil, .nil, .nil])), ((4, 0), some (.row 57 1 (openRows cols_57 (List.map (eL eTMsg) l183)))), ((4, 1), some (.row 29 1 (openRows cols_29 (List.map (eL eI) l184)))), ((18, 0), some (.box 34 [.d (.int .i64 a0.Node), .d (.int .i64 a0.State), .d (.int .i64 a0.Steps), .own (21, 0) l134.length, .own (4, 0) l183.length, .own (4, 1) l184.length])), ((21, 0), some (.row 3 1 (dat (List.map eI l134))))] ac wd) ?_ ?_
    · skip
      by_cases hb187 : a1 = true
      · rw [if_pos hb187] at hE186
        refine r_condF h (!(a1)) (by simp only [EX, simprocAttr, Nat.blt, Nat.ble, hb187] <;> rfl) (by first | rfl | (simp only [EX, simprocAttr, Nat.blt, Nat.ble, hb187] <;> rfl)) ?_
        refine wp_skip ?_
        have h := h.same [4, 6] [(2, 0), (4, 0), (4, 1), (18, 0), (21, 0)] 107 [(4, .one (.ptr (2, 0) 0)), (6, .one (.ptr (18, 0) 0))]
          [((2, 0), some (.box 34 [.d (.int .i64 0), .d (.int .i64 0), .d (.int .i64 0), .nil, .nil, .nil])), ((4, 0), some (.row 57 1 (openRows cols_57 (List.map (eL eTMsg) r104.In)))), ((4, 1), some (.row 29 1 (openRows cols_29 (List.map (eL eI) r104.Out)))), ((18, 0), some (.box 34 [.d (.int .i64 a0.Node), .d (.int .i64 a0.State), .d (.int .i64 a0.Steps), .own (21, 0) l134.length, .own (4, 0) r104.In.length, .own (4, 1) r104.Out.length])), ((21, 0), some (.row 3 1 (dat (List.map eI l134))))]
          (by simp only [EX, simprocAttr, Nat.blt, Nat.ble, hb187] <;> rfl)
        injection hE186 with hE186
        exact ⟨r104.In, r104.Out, hE186, h⟩
      · rw [if_neg hb187] at hE186
        have hb187n := eq_false_of_ne_true hb187
        refine r_condT h (!(a1)) (by simp only [EX, simprocAttr, Nat.blt, Nat.ble, hb187n] <;> rfl) (by first | rfl | (simp only [EX, simprocAttr, Nat.blt, Nat.ble, hb187n] <;> rfl)) ?_
        refine rs_plain 70 [] [none, none] [2, 4, 6] [(1, 0), (2, 0), (4, 0), (18, 0), (21, 0)] h rfl rfl (by simp only [EX, simprocAttr, Nat.blt, Nat.ble, tz_3, tz_5, tz_24, tz_29, tz_34, hb187n] <;> rfl) fun ac wd h => ?_
        refine rs_plain 72 [] [none, none] [2, 4, 6] [(1, 0), (2, 0), (18, 0), (21, 0)] h rfl rfl (by simp only [EX, simprocAttr, Nat.blt, Nat.ble, tz_4, tz_23, tz_34, tz_38, tz_57, hb187n] <;> rfl) fun ac wd h => ?_
        refine rs_plain 73 [] [none] [2, 4, 6, 8] [(1, 0), (2, 0), (18, 0), (21, 0)] h rfl rfl (by simp only [EX, simprocAttr, Nat.blt, Nat.ble, tz_3, hb187n] <;> rfl) fun ac wd h => ?_
        refine wp_block ?_
        have h := SL.bornB h (18, 0) 4 57 1 (by simp only [EX, simprocAttr, Nat.blt, Nat.ble, hb187n] <;> rfl) (by simp only [EX, simprocAttr, Nat.blt, Nat.ble, hb187n] <;> rfl)
        have h := h.same [2, 4, 6, 8] [(1, 0), (2, 0), (18, 0), (21, 0), (73, 0)] 101 [(2, .one (.ptr (1, 0) 0)), (4, .one (.ptr (2, 0) 0)), (6, .one (.ptr (18, 0) 0)), (8, .one (.d (.int .i64 0)))]
          [((1, 0), some (.box 45 [.d (.int .i64 a0.Node), .d (.int .i64 a0.State), .d (.int .i64 a0.Steps), .d (.sl (List.map (eL eTMsg) a0.In)), .d (.sl (List.map (eL eI) a0.Out))])), ((2, 0), some (.box 34 [.d (.int .i64 0), .d (.int .i64 0), .d (.int .i64 0), .nil, .nil, .nil])), ((18, 0), some (.box 34 [.d (.int .i64 a0.Node), .d (.int .i64 a0.State), .d (.int .i64 a0.Steps), .own (21, 0) l134.length, .own (73, 0) ([] : List (List TMsg)).length, .nil])), ((21, 0), some (.row 3 1 (dat (List.map eI l134)))), ((73, 0), some (.row 57 1 (openRows cols_57 (List.map (eL eTMsg) ([] : List (List TMsg))))))]
          (by simp only [EX, simprocAttr, Nat.blt, Nat.ble, hb187n] <;> rfl)
        refine r_while (fun nf ac wd => ∃ (n198 : Int) (l199 : List (List TMsg)), L_ref09_Piece_l2 a0 nf n198 l199 = some e185 ∧ SL ⟨wb, S, Φ, P0⟩ 57 101 [(2, .one (.ptr (1, 0) 0)), (4, .one (.ptr (2, 0) 0)), (6, .one (.ptr (18, 0) 0)), (8, .one (.d (.int .i64 n198)))] [((1, 0), some (.box 45 [.d (.int .i64 a0.Node), .d (.int .i64 a0.State), .d (.int .i64 a0.Steps), .d (.sl (List.map (eL eTMsg) a0.In)), .d (.sl (List.map (eL eI) a0.Out))])), ((2, 0), some (.box 34 [.d (.int .i64 0), .d (.int .i64 0), .d (.int .i64 0), .nil, .nil, .nil])), ((18, 0), some (.box 34 [.d (.int .i64 a0.Node), .d (.int .i64 a0.State), .d (.int .i64 a0.Steps), .own (21, 0) l134.length, .own (73, 0) l199.length, .nil])), ((21, 0), some (.row 3 1 (dat (List.map eI l134)))), ((73, 0), some (.row 57 1 (openRows cols_57 (List.map (eL eTMsg) l199))))] ac wd) (((a0.In.length : Int) - 0).toNat + 1) ⟨0, ([] : List (List TMsg)), hE186, h⟩ (fun nf ac wd hJ => ?_)
        obtain ⟨n198, l199, hL200, h⟩ := hJ
        cases nf with
        | zero => rw [L_ref09_Piece_l2] at hL200; cases hL200
        | succ nf =>
          rw [L_ref09_Piece_l2] at hL200
          refine wp_seq ?_
          refine rs_plain 106 [] [none, none, none, none, none] [2, 4, 6, 8, 48] [(1, 0), (2, 0), (18, 0), (21, 0), (73, 0)] h rfl rfl (by simp only [EX, simprocAttr, Nat.blt, Nat.ble, tz_3, tz_4, tz_23, tz_38, tz_45, tz_57, hb187n] <;> rfl) fun ac wd h => ?_
          by_cases hb202 : n198 < (a0.In.length : Int)
          · rw [if_pos hb202] at hL200
            refine r_condT h (decide (n198 < (a0.In.length : Int))) (by simp only [EX, simprocAttr, Nat.blt, Nat.ble, hb187n, hb202] <;> rfl) (by first | rfl | (simp only [EX, simprocAttr, Nat.blt, Nat.ble, hb187n, hb202] <;> rfl)) ?_
            refine wp_skip ?_
            change Code.wp Try.prog _ _ _ _
            refine wp_seq ?_
            refine wp_block ?_
            by_cases ha204 : (l199.length + 1) * 24 ≤ 140737488355328
            case neg => rw [if_neg ha204] at hL200; cases hL200
            rw [if_pos ha204] at hL200
            refine r_plain [] [none, none, none, none, none, none] [2, 4, 6, 8] [(1, 0), (2, 0), (18, 0), (21, 0), (109, 0)] h rfl (by simp only [EX, simprocAttr, Nat.blt, Nat.ble, tz_4, tz_23, tz_34, tz_38, tz_57, hb187n, hb202, ha204] <;> rfl) fun ac wd h => ?_
            have h := h.nilTr (109, 0) (l := (openRows cols_57 (List.map (eL eTMsg) l199) ++ [[.nil]])) (l' := (openRows cols_57 (List.map (eL eTMsg) l199) ++ [[.tr (.sl 38 2 (fun _ => .sc)) (.sl (List.map eTMsg []))]])) (by simp only [EX, simprocAttr, Nat.blt, Nat.ble, hb187n, hb202, ha204] <;> rfl) (RowsTo.append (RowsTo.refl _) (RowsTo.cons (RowTo.cons (.inr (.inr ⟨rfl, _, _, _, rfl⟩)) RowTo.nil) (RowsTo.refl [])))
            have h := h.same [2, 4, 6, 8] [(1, 0), (2, 0), (18, 0), (21, 0), (109, 0)] 112 [(2, .one (.ptr (1, 0) 0)), (4, .one (.ptr (2, 0) 0)), (6, .one (.ptr (18, 0) 0)), (8, .one (.d (.int .i64 n198)))]
              [((1, 0), some (.box 45 [.d (.int .i64 a0.Node), .d (.int .i64 a0.State), .d (.int .i64 a0.Steps), .d (.sl (List.map (eL eTMsg) a0.In)), .d (.sl (List.map (eL eI) a0.Out))])), ((2, 0), some (.box 34 [.d (.int .i64 0), .d (.int .i64 0), .d (.int .i64 0), .nil, .nil, .nil])), ((18, 0), some (.box 34 [.d (.int .i64 a0.Node), .d (.int .i64 a0.State), .d (.int .i64 a0.Steps), .own (21, 0) l134.length, .own (109, 0) (l199.length + 1), .nil])), ((21, 0), some (.row 3 1 (dat (List.map eI l134)))), ((109, 0), some (.row 57 1 ((openRows cols_57 (List.map (eL eTMsg) l199) ++ [[.tr (.sl 38 2 (fun _ => .sc)) (.sl (List.map eTMsg []))]]))))]
              (by simp only [EX, simprocAttr, Nat.blt, Nat.ble, hb187n, hb202, ha204, dat_open] <;> rfl)
            change Code.wp Try.prog _ _ _ _
            refine r_plain [] [none, none, none] [2, 4, 6, 8] [(1, 0), (2, 0), (18, 0), (21, 0), (109, 0)] h rfl (by simp only [EX, simprocAttr, Nat.blt, Nat.ble, tz_3, hb187n, hb202, ha204] <;> rfl) fun ac wd h => ?_
            have h := SL.swap h (73, 0) (109, 0) 115 (by decide) (by decide) (by simp only [EX, simprocAttr, Nat.blt, Nat.ble, hb187n, hb202, ha204, fren, mren, AV.ren, AObj.ren, Cell.ren, sumRen, Upd.ren, swp, csw, dat_ren, opn_ren] <;> rfl) (by simp only [EX, simprocAttr, Nat.blt, Nat.ble, hb187n, hb202, ha204, fren, mren, AV.ren, AObj.ren, Cell.ren, sumRen, Upd.ren, swp, csw, dat_ren, opn_ren] <;> rfl) (by simp only [EX, simprocAttr, Nat.blt, Nat.ble, hb187n, hb202, ha204, fren, mren, AV.ren, AObj.ren, Cell.ren, sumRen, Upd.ren, swp, csw, dat_ren, opn_ren] <;> rfl)
            have h := h.same [2, 4, 6, 8] [(1, 0), (2, 0), (18, 0), (21, 0), (73, 0)] 101 [(2, .one (.ptr (1, 0) 0)), (4, .one (.ptr (2, 0) 0)), (6, .one (.ptr (18, 0) 0)), (8, .one (.d (.int .i64 (IntKind.wrap .i64 (n198 + 1)))))]
              [((1, 0), some (.box 45 [.d (.int .i64 a0.Node), .d (.int .i64 a0.State), .d (.int .i64 a0.Steps), .d (.sl (List.map (eL eTMsg) a0.In)), .d (.sl (List.map (eL eI) a0.Out))])), ((2, 0), some (.box 34 [.d (.int .i64 0), .d (.int .i64 0), .d (.int .i64 0), .nil, .nil, .nil])), ((18, 0), some (.box 34 [.d (.int .i64 a0.Node), .d (.int .i64 a0.State), .d (.int .i64 a0.Steps), .own (21, 0) l134.length, .own (73, 0) ((l199 ++ [[]]) : List (List TMsg)).length, .nil])), ((21, 0), some (.row 3 1 (dat (List.map eI l134)))), ((73, 0), some (.row 57 1 (openRows cols_57 (List.map (eL eTMsg) ((l199 ++ [[]]) : List (List TMsg))))))]
              (by simp only [EX, simprocAttr, Nat.blt, Nat.ble, hb187n, hb202, ha204] <;> rfl)
            change ∃ n', _ ∧ _
            exact ⟨nf, Nat.lt_succ_self nf, (IntKind.wrap .i64 (n198 + 1)), ((l199 ++ [[]]) : List (List TMsg)), hL200, h⟩
          · rw [if_neg hb202] at hL200
            refine r_condF h (decide (n198 < (a0.In.length : Int))) (by simp only [EX, simprocAttr, Nat.blt, Nat.ble, hb187n, hb202] <;> rfl) (by first | rfl | (simp only [EX, simprocAttr, Nat.blt, Nat.ble, hb187n, hb202] <;> rfl)) ?_
            refine wp_exit ?_
            have h := SL.bornB h (18, 0) 5 29 1 (by simp only [EX, simprocAttr, Nat.blt, Nat.ble, hb187n, hb202] <;> rfl) (by simp only [EX, simprocAttr, Nat.blt, Nat.ble, hb187n, hb202] <;> rfl)
            have h := SL.swap h (4, 0) (73, 0) 107 (by decide) (by decide) (by simp only [EX, simprocAttr, Nat.blt, Nat.ble, hb187n, hb202, fren, mren, AV.ren, AObj.ren, Cell.ren, sumRen, Upd.ren, swp, csw, dat_ren, opn_ren] <;> rfl) (by simp only [EX, simprocAttr, Nat.blt, Nat.ble, hb187n, hb202, fren, mren, AV.ren, AObj.ren, Cell.ren, sumRen, Upd.ren, swp, csw, dat_ren, opn_ren] <;> rfl) (by simp only [EX, simprocAttr, Nat.blt, Nat.ble, hb187n, hb202, fren, mren, AV.ren, AObj.ren, Cell.ren, sumRen, Upd.ren, swp, csw, dat_ren, opn_ren] <;> rfl)
            have h := SL.swap h (4, 1) (106, 0) 107 (by decide) (by decide) (by simp only [EX, simprocAttr, Nat.blt, Nat.ble, hb187n, hb202, fren, mren, AV.ren, AObj.ren, Cell.ren, sumRen, Upd.ren, swp, csw, dat_ren, opn_ren] <;> rfl) (by simp only [EX, simprocAttr, Nat.blt, Nat.ble, hb187n, hb202, fren, mren, AV.ren, AObj.ren, Cell.ren, sumRen, Upd.ren, swp, csw, dat_ren, opn_ren] <;> rfl) (by simp only [EX, simprocAttr, Nat.blt, Nat.ble, hb187n, hb202, fren, mren, AV.ren, AObj.ren, Cell.ren, sumRen, Upd.ren, swp, csw, dat_ren, opn_ren] <;> rfl)
            have h := h.same [4, 6] [(2, 0), (4, 0), (4, 1), (18, 0), (21, 0)] 107 [(4, .one (.ptr (2, 0) 0)), (6, .one (.ptr (18, 0) 0))]
              [((2, 0), some (.box 34 [.d (.int .i64 0), .d (.int .i64 0), .d (.int .i64 0), .nil, .nil, .nil])), ((4, 0), some (.row 57 1 (openRows cols_57 (List.map (eL eTMsg) l199)))), ((4, 1), some (.row 29 1 (openRows cols_29 (List.map (eL eI) ([] : List (List Int)))))), ((18, 0), some (.box 34 [.d (.int .i64 a0.Node), .d (.int .i64 a0.State), .d (.int .i64 a0.Steps), .own (21, 0) l134.length, .own (4, 0) l199.length, .own (4, 1) ([] : List (List Int)).length])), ((21, 0), some (.row 3 1 (dat (List.map eI l134))))]
              (by simp only [EX, simprocAttr, Nat.blt, Nat.ble, hb187n, hb202] <;> rfl)
            injection hL200 with hL200
            exact ⟨l199, ([] : List (List Int)), hL200, h⟩
    · skip
      rintro ac wd ⟨l183, l184, rfl, h⟩
      (try dsimp only at hD)
      refine rs_plain 109 [] [none, none] [4] [(2, 0), (4, 0), (4, 1), (21, 0)] h rfl rfl (by simp only [EX, simprocAttr, Nat.blt, Nat.ble, tz_34] <;> rfl) fun ac wd h => ?_
      refine wp_ret ?_
      have h := h.same [4] [(2, 0), (4, 0), (4, 1), (21, 0)] 109 [(4, .one (.ptr (2, 0) 0))]
        [((2, 0), some (.box 34 [.d (.int .i64 a0.Node), .d (.int .i64 a0.State), .d (.int .i64 a0.Steps), .own (21, 0) l134.length, .own (4, 0) l183.length, .own (4, 1) l184.length])), ((4, 0), some (.row 57 1 (openRows cols_57 (List.map (eL eTMsg) l183)))), ((4, 1), some (.row 29 1 (openRows cols_29 (List.map (eL eI) l184)))), ((21, 0), some (.row 3 1 (dat (List.map eI l134))))]
        (by simp only [EX, simprocAttr, Nat.blt, Nat.ble, dat_open] <;> rfl)
      have h := SL.swap h (1, 0) (21, 0) 109 (by decide) (by decide) (by simp only [EX, simprocAttr, Nat.blt, Nat.ble, fren, mren, AV.ren, AObj.ren, Cell.ren, sumRen, Upd.ren, swp, csw, dat_ren, opn_ren] <;> rfl) (by simp only [EX, simprocAttr, Nat.blt, Nat.ble, fren, mren, AV.ren, AObj.ren, Cell.ren, sumRen, Upd.ren, swp, csw, dat_ren, opn_ren] <;> rfl) (by simp only [EX, simprocAttr, Nat.blt, Nat.ble, fren, mren, AV.ren, AObj.ren, Cell.ren, sumRen, Upd.ren, swp, csw, dat_ren, opn_ren] <;> rfl)
      have h := h.same [4] [(1, 0), (2, 0), (4, 0), (4, 1)] 109 [(4, .one (.ptr (2, 0) 0))]
        [((1, 0), some (.row 3 1 (dat (List.map eI l134)))), ((2, 0), some (.box 34 [.d (.int .i64 a0.Node), .d (.int .i64 a0.State), .d (.int .i64 a0.Steps), .own (1, 0) l134.length, .own (4, 0) l183.length, .own (4, 1) l184.length])), ((4, 0), some (.row 57 1 (openRows cols_57 (List.map (eL eTMsg) l183)))), ((4, 1), some (.row 29 1 (openRows cols_29 (List.map (eL eI) l184))))]
        (by simp only [EX, simprocAttr, Nat.blt, Nat.ble, dat_open] <;> rfl)
      have h := SL.swap h (1, 1) (4, 0) 109 (by decide) (by decide) (by simp only [EX, simprocAttr, Nat.blt, Nat.ble, fren, mren, AV.ren, AObj.ren, Cell.ren, sumRen, Upd.ren, swp, csw, dat_ren, opn_ren] <;> rfl) (by simp only [EX, simprocAttr, Nat.blt, Nat.ble, fren, mren, AV.ren, AObj.ren, Cell.ren, sumRen, Upd.ren, swp, csw, dat_ren, opn_ren] <;> rfl) (by simp only [EX, simprocAttr, Nat.blt, Nat.ble, fren, mren, AV.ren, AObj.ren, Cell.ren, sumRen, Upd.ren, swp, csw, dat_ren, opn_ren] <;> rfl)
      have h := h.same [4] [(1, 0), (1, 1), (2, 0), (4, 1)] 109 [(4, .one (.ptr (2, 0) 0))]
        [((1, 0), some (.row 3 1 (dat (List.map eI l134)))), ((1, 1), some (.row 57 1 (openRows cols_57 (List.map (eL eTMsg) l183)))), ((2, 0), some (.box 34 [.d (.int .i64 a0.Node), .d (.int .i64 a0.State), .d (.int .i64 a0.Steps), .own (1, 0) l134.length, .own (1, 1) l183.length, .own (4, 1) l184.length])), ((4, 1), some (.row 29 1 (openRows cols_29 (List.map (eL eI) l184))))]
        (by simp only [EX, simprocAttr, Nat.blt, Nat.ble, dat_open] <;> rfl)
      have h := SL.swap h (1, 2) (4, 1) 109 (by decide) (by decide) (by simp only [EX, simprocAttr, Nat.blt, Nat.ble, fren, mren, AV.ren, AObj.ren, Cell.ren, sumRen, Upd.ren, swp, csw, dat_ren, opn_ren] <;> rfl) (by simp only [EX, simprocAttr, Nat.blt, Nat.ble, fren, mren, AV.ren, AObj.ren, Cell.ren, sumRen, Upd.ren, swp, csw, dat_ren, opn_ren] <;> rfl) (by simp only [EX, simprocAttr, Nat.blt, Nat.ble, fren, mren, AV.ren, AObj.ren, Cell.ren, sumRen, Upd.ren, swp, csw, dat_ren, opn_ren] <;> rfl)
      have h := h.same [4] [(1, 0), (1, 1), (1, 2), (2, 0)] 109 [(4, .one (.ptr (2, 0) 0))]
        [((1, 0), some (.row 3 1 (dat (List.map eI l134)))), ((1, 1), some (.row 57 1 (openRows cols_57 (List.map (eL eTMsg) l183)))), ((1, 2), some (.row 29 1 (openRows cols_29 (List.map (eL eI) l184)))), ((2, 0), some (.box 34 [.d (.int .i64 a0.Node), .d (.int .i64 a0.State), .d (.int .i64 a0.Steps), .own (1, 0) l134.length, .own (1, 1) l183.length, .own (1, 2) l184.length]))]
        (by simp only [EX, simprocAttr, Nat.blt, Nat.ble, dat_open] <;> rfl)
      injection hD with hD
      subst hD
      exact r_retO rfl h [.cell 4 34] rfl [(1, 0), (1, 1), (1, 2)] (by simp only [retO, List.mapM_cons, List.mapM_nil, Option.bind_eq_bind, Option.pure_def, EX, simprocAttr, Nat.blt, Nat.ble, tz_34] <;> rfl)
theorem L_ref09_Piece_ok {a0 : THost} {a1 : Bool} {r : TPiece} (hD : L_ref09_Piece a0 a1 = some r) :
    CallH Try.prog 31 [.agg [.d (.int .i64 a0.Node), .d (.int .i64 a0.State), .d (.int .i64 a0.Steps), .d (.sl (List.map (eL eTMsg) a0.In)), .d (.sl (List.map (eL eI) a0.Out))], .one (.d (.bool a1))] []
      (.agg [.d (.int .i64 r.Node), .d (.int .i64 r.State), .d (.int .i64 r.Steps), .d (.sl (List.map eI r.Sent)), .d (.sl (List.map (eL eTMsg) r.In)), .d (.sl (List.map (eL eI) r.Out))]) [] :=
  (L_ref09_Piece_own hD).frz (by simp only [EX, simprocAttr, Nat.blt, Nat.ble] <;> rfl) (by simp only [frzA, frzSum, EX, simprocAttr, Nat.blt, Nat.ble] <;> rfl) rfl

set_option maxRecDepth 20000 in
set_option maxHeartbeats 4000000 in
theorem L_ref10_Begin_own {a0 : THost} {a1 : Int} {r : TMark} (hD : L_ref10_Begin a0 a1 = some r) :
    CallH Try.prog 20 [.agg [.d (.int .i64 a0.Node), .d (.int .i64 a0.State), .d (.int .i64 a0.Steps), .d (.sl (List.map (eL eTMsg) a0.In)), .d (.sl (List.map (eL eI) a0.Out))], .one (.d (.int .i64 a1))] []
      (.agg [.d (.int .i64 r.Epoch), .own (1, 0) r.Open.length, .d (.int .i64 r.P.Node), .d (.int .i64 r.P.State), .d (.int .i64 r.P.Steps), .own (1, 1) r.P.Sent.length, .own (1, 2) r.P.In.length, .own (1, 3) r.P.Out.length]) [((1, 0), some (.row 4 1 (dat (List.map eB r.Open)))), ((1, 1), some (.row 3 1 (dat (List.map eI r.P.Sent)))), ((1, 2), some (.row 57 1 (openRows cols_57 (List.map (eL eTMsg) r.P.In)))), ((1, 3), some (.row 29 1 (openRows cols_29 (List.map (eL eI) r.P.Out))))] := by
  unfold L_ref10_Begin at hD
  refine r_call Try.func20 rfl Try.ntmps20 (by kernel_rfl) (by rfl) (by simp only [shutB, EX, simprocAttr, Nat.blt, Nat.ble] <;> rfl) (by simp) fun S Φ P0 wb ac h => ?_
  refine rs_plain 3 [] [none, none] [1, 2, 4] [(1, 0), (2, 0)] h rfl rfl (by simp only [EX, simprocAttr, Nat.blt, Nat.ble, tz_36, tz_45] <;> rfl) fun ac wd h => ?_
  obtain ⟨r42, hc43, hD⟩ := Option.bind_eq_some_iff.1 hD
  have hc43_5 : CallH Try.prog 31 [.agg [.d (.int .i64 a0.Node), .d (.int .i64 a0.State), .d (.int .i64 a0.Steps), .d (.sl (List.map (eL eTMsg) a0.In)), .d (.sl (List.map (eL eI) a0.Out))], .one (.d (.bool false))] [] (.agg [.d (.int .i64 r42.Node), .d (.int .i64 r42.State), .d (.int .i64 r42.Steps), .own (5, 0) r42.Sent.length, .own (5, 1) r42.In.length, .own (5, 2) r42.Out.length]) [((5, 0), some (.row 3 1 (dat (List.map eI r42.Sent)))), ((5, 1), some (.row 57 1 (openRows cols_57 (List.map (eL eTMsg) r42.In)))), ((5, 2), some (.row 29 1 (openRows cols_29 (List.map (eL eI) r42.Out))))] := ((L_ref09_Piece_own hc43).cls 5).as (by simp only [EX, simprocAttr, Nat.blt, Nat.ble, fren, mren, AV.ren, AObj.ren, Cell.ren, sumRen, Upd.ren, swp, csw, dat_ren, opn_ren] <;> rfl)
  refine rs_plain 9 [factO hc43_5] [none, none, none, none, none, none] [2, 4, 5] [(1, 0), (2, 0), (5, 0), (5, 1), (5, 2), (7, 0)] h rfl rfl (by simp only [EX, simprocAttr, Nat.blt, Nat.ble, tz_2, tz_3, tz_4, tz_34, tz_36, tz_45] <;> rfl) fun ac wd h => ?_
  refine wp_seq ?_
  refine rs_plain 10 [] [none] [2, 4, 5, 6] [(1, 0), (2, 0), (5, 0), (5, 1), (5, 2), (7, 0)] h rfl rfl (by simp only [EX, simprocAttr, Nat.blt, Nat.ble, tz_3] <;> rfl) fun ac wd h => ?_
  refine wp_block ?_
  have h := SL.bornB h (7, 0) 1 4 1 (by simp only [EX, simprocAttr, Nat.blt, Nat.ble] <;> rfl) (by simp only [EX, simprocAttr, Nat.blt, Nat.ble] <;> rfl)
  have h := h.same [2, 4, 5, 6] [(1, 0), (2, 0), (5, 0), (5, 1), (5, 2), (7, 0), (10, 0)] 38 [(2, .one (.ptr (1, 0) 0)), (4, .one (.ptr (2, 0) 0)), (5, .one (.ptr (7, 0) 0)), (6, .one (.d (.int .i64 0)))]
    [((1, 0), some (.box 45 [.d (.int .i64 a0.Node), .d (.int .i64 a0.State), .d (.int .i64 a0.Steps), .d (.sl (List.map (eL eTMsg) a0.In)), .d (.sl (List.map (eL eI) a0.Out))])), ((2, 0), some (.box 36 [.d (.int .i64 0), .nil, .d (.int .i64 0), .d (.int .i64 0), .d (.int .i64 0), .nil, .nil, .nil])), ((5, 0), some (.row 3 1 (dat (List.map eI r42.Sent)))), ((5, 1), some (.row 57 1 (openRows cols_57 (List.map (eL eTMsg) r42.In)))), ((5, 2), some (.row 29 1 (openRows cols_29 (List.map (eL eI) r42.Out)))), ((7, 0), some (.box 36 [.d (.int .i64 a1), .own (10, 0) ([] : List Bool).length, .d (.int .i64 r42.Node), .d (.int .i64 r42.State), .d (.int .i64 r42.Steps), .own (5, 0) r42.Sent.length, .own (5, 1) r42.In.length, .own (5, 2) r42.Out.length])), ((10, 0), some (.row 4 1 (dat (List.map eB ([] : List Bool)))))]
    (by simp only [EX, simprocAttr, Nat.blt, Nat.ble] <;> rfl)
  refine r_while (fun nf ac wd => ∃ (n70 : Int) (l71 : List Bool), L_ref10_Begin_l1 a0 a1 r42 nf n70 l71 = some r ∧ SL ⟨wb, S, Φ, P0⟩ 24 38 [(2, .one (.ptr (1, 0) 0)), (4, .one (.ptr (2, 0) 0)), (5, .one (.ptr (7, 0) 0)), (6, .one (.d (.int .i64 n70)))] [((1, 0), some (.box 45 [.d (.int .i64 a0.Node), .d (.int .i64 a0.State), .d (.int .i64 a0.Steps), .d (.sl (List.map (eL eTMsg) a0.In)), .d (.sl (List.map (eL eI) a0.Out))])), ((2, 0), some (.box 36 [.d (.int .i64 0), .nil, .d (.int .i64 0), .d (.int .i64 0), .d (.int .i64 0), .nil, .nil, .nil])), ((5, 0), some (.row 3 1 (dat (List.map eI r42.Sent)))), ((5, 1), some (.row 57 1 (openRows cols_57 (List.map (eL eTMsg) r42.In)))), ((5, 2), some (.row 29 1 (openRows cols_29 (List.map (eL eI) r42.Out)))), ((7, 0), some (.box 36 [.d (.int .i64 a1), .own (10, 0) l71.length, .d (.int .i64 r42.Node), .d (.int .i64 r42.State), .d (.int .i64 r42.Steps), .own (5, 0) r42.Sent.length, .own (5, 1) r42.In.length, .own (5, 2) r42.Out.length])), ((10, 0), some (.row 4 1 (dat (List.map eB l71))))] ac wd) (((a0.In.length : Int) - 0).toNat + 1) ⟨0, ([] : List Bool), hD, h⟩ (fun nf ac wd hJ => ?_)
  obtain ⟨n70, l71, hL72, h⟩ := hJ
  cases nf with
  | zero => rw [L_ref10_Begin_l1] at hL72; cases hL72
  | succ nf =>
    rw [L_ref10_Begin_l1] at hL72
    refine wp_seq ?_
    refine rs_plain 43 [] [none, none, none, none, none] [2, 4, 5, 6, 15] [(1, 0), (2, 0), (5, 0), (5, 1), (5, 2), (7, 0), (10, 0)] h rfl rfl (by simp only [EX, simprocAttr, Nat.blt, Nat.ble, tz_3, tz_4, tz_23, tz_38, tz_45, tz_57] <;> rfl) fun ac wd h => ?_
    by_cases hb74 : n70 < (a0.In.length : Int)
    · rw [if_pos hb74] at hL72
      refine r_condT h (decide (n70 < (a0.In.length : Int))) (by simp only [EX, simprocAttr, Nat.blt, Nat.ble, hb74] <;> rfl) (by first | rfl | (simp only [EX, simprocAttr, Nat.blt, Nat.ble, hb74] <;> rfl)) ?_
      refine wp_skip ?_
      change Code.wp Try.prog _ _ _ _
      refine wp_seq ?_
      refine wp_block ?_
      by_cases ha76 : (l71.length + 1) * 1 ≤ 140737488355328
      case neg => rw [if_neg ha76] at hL72; cases hL72
      rw [if_pos ha76] at hL72
      refine r_plain [] [none, none, none, none, none, none] [2, 4, 5, 6] [(1, 0), (2, 0), (5, 0), (5, 1), (5, 2), (7, 0), (46, 0)] h rfl (by simp only [EX, simprocAttr, Nat.blt, Nat.ble, tz_4, tz_28, tz_36, hb74, ha76] <;> rfl) fun ac wd h => ?_
      change Code.wp Try.prog _ _ _ _
      refine r_plain [] [none, none, none] [2, 4, 5, 6] [(1, 0), (2, 0), (5, 0), (5, 1), (5, 2), (7, 0), (46, 0)] h rfl (by simp only [EX, simprocAttr, Nat.blt, Nat.ble, tz_3, hb74, ha76] <;> rfl) fun ac wd h => ?_
      have h := SL.swap h (10, 0) (46, 0) 52 (by decide) (by decide) (by simp only [EX, simprocAttr, Nat.blt, Nat.ble, hb74, ha76, fren, mren, AV.ren, AObj.ren, Cell.ren, sumRen, Upd.ren, swp, csw, dat_ren, opn_ren] <;> rfl) (by simp only [EX, simprocAttr, Nat.blt, Nat.ble, hb74, ha76, fren, mren, AV.ren, AObj.ren, Cell.ren, sumRen, Upd.ren, swp, csw, dat_ren, opn_ren] <;> rfl) (by simp only [EX, simprocAttr, Nat.blt, Nat.ble, hb74, ha76, fren, mren, AV.ren, AObj.ren, Cell.ren, sumRen, Upd.ren, swp, csw, dat_ren, opn_ren] <;> rfl)
      have h := h.same [2, 4, 5, 6] [(1, 0), (2, 0), (5, 0), (5, 1), (5, 2), (7, 0), (10, 0)] 38 [(2, .one (.ptr (1, 0) 0)), (4, .one (.ptr (2, 0) 0)), (5, .one (.ptr (7, 0) 0)), (6, .one (.d (.int .i64 (IntKind.wrap .i64 (n70 + 1)))))]
        [((1, 0), some (.box 45 [.d (.int .i64 a0.Node), .d (.int .i64 a0.State), .d (.int .i64 a0.Steps), .d (.sl (List.map (eL eTMsg) a0.In)), .d (.sl (List.map (eL eI) a0.Out))])), ((2, 0), some (.box 36 [.d (.int .i64 0), .nil, .d (.int .i64 0), .d (.int .i64 0), .d (.int .i64 0), .nil, .nil, .nil])), ((5, 0), some (.row 3 1 (dat (List.map eI r42.Sent)))), ((5, 1), some (.row 57 1 (openRows cols_57 (List.map (eL eTMsg) r42.In)))), ((5, 2), some (.row 29 1 (openRows cols_29 (List.map (eL eI) r42.Out)))), ((7, 0), some (.box 36 [.d (.int .i64 a1), .own (10, 0) (l71 ++ [true]).length, .d (.int .i64 r42.Node), .d (.int .i64 r42.State), .d (.int .i64 r42.Steps), .own (5, 0) r42.Sent.length, .own (5, 1) r42.In.length, .own (5, 2) r42.Out.length])), ((10, 0), some (.row 4 1 (dat (List.map eB (l71 ++ [true])))))]
        (by simp only [EX, simprocAttr, Nat.blt, Nat.ble, hb74, ha76] <;> rfl)
      change ∃ n', _ ∧ _
      exact ⟨nf, Nat.lt_succ_self nf, (IntKind.wrap .i64 (n70 + 1)), (l71 ++ [true]), hL72, h⟩
    · rw [if_neg hb74] at hL72
      refine r_condF h (decide (n70 < (a0.In.length : Int))) (by simp only [EX, simprocAttr, Nat.blt, Nat.ble, hb74] <;> rfl) (by first | rfl | (simp only [EX, simprocAttr, Nat.blt, Nat.ble, hb74] <;> rfl)) ?_
      refine wp_exit ?_
      change Code.wp Try.prog _ _ _ _
      refine rs_plain 45 [] [none, none] [4] [(2, 0), (5, 0), (5, 1), (5, 2), (10, 0)] h rfl rfl (by simp only [EX, simprocAttr, Nat.blt, Nat.ble, tz_36, hb74] <;> rfl) fun ac wd h => ?_
      refine wp_ret ?_
      have h := h.same [4] [(2, 0), (5, 0), (5, 1), (5, 2), (10, 0)] 45 [(4, .one (.ptr (2, 0) 0))]
        [((2, 0), some (.box 36 [.d (.int .i64 a1), .own (10, 0) l71.length, .d (.int .i64 r42.Node), .d (.int .i64 r42.State), .d (.int .i64 r42.Steps), .own (5, 0) r42.Sent.length, .own (5, 1) r42.In.length, .own (5, 2) r42.Out.length])), ((5, 0), some (.row 3 1 (dat (List.map eI r42.Sent)))), ((5, 1), some (.row 57 1 (openRows cols_57 (List.map (eL eTMsg) r42.In)))), ((5, 2), some (.row 29 1 (openRows cols_29 (List.map (eL eI) r42.Out)))), ((10, 0), some (.row 4 1 (dat (List.map eB l71))))]
        (by simp only [EX, simprocAttr, Nat.blt, Nat.ble, hb74, dat_open] <;> rfl)
      have h := SL.swap h (1, 0) (10, 0) 45 (by decide) (by decide) (by simp only [EX, simprocAttr, Nat.blt, Nat.ble, hb74, fren, mren, AV.ren, AObj.ren, Cell.ren, sumRen, Upd.ren, swp, csw, dat_ren, opn_ren] <;> rfl) (by simp only [EX, simprocAttr, Nat.blt, Nat.ble, hb74, fren, mren, AV.ren, AObj.ren, Cell.ren, sumRen, Upd.ren, swp, csw, dat_ren, opn_ren] <;> rfl) (by simp only [EX, simprocAttr, Nat.blt, Nat.ble, hb74, fren, mren, AV.ren, AObj.ren, Cell.ren, sumRen, Upd.ren, swp, csw, dat_ren, opn_ren] <;> rfl)
      have h := h.same [4] [(1, 0), (2, 0), (5, 0), (5, 1), (5, 2)] 45 [(4, .one (.ptr (2, 0) 0))]
        [((1, 0), some (.row 4 1 (dat (List.map eB l71)))), ((2, 0), some (.box 36 [.d (.int .i64 a1), .own (1, 0) l71.length, .d (.int .i64 r42.Node), .d (.int .i64 r42.State), .d (.int .i64 r42.Steps), .own (5, 0) r42.Sent.length, .own (5, 1) r42.In.length, .own (5, 2) r42.Out.length])), ((5, 0), some (.row 3 1 (dat (List.map eI r42.Sent)))), ((5, 1), some (.row 57 1 (openRows cols_57 (List.map (eL eTMsg) r42.In)))), ((5, 2), some (.row 29 1 (openRows cols_29 (List.map (eL eI) r42.Out))))]
        (by simp only [EX, simprocAttr, Nat.blt, Nat.ble, hb74, dat_open] <;> rfl)
      have h := SL.swap h (1, 1) (5, 0) 45 (by decide) (by decide) (by simp only [EX, simprocAttr, Nat.blt, Nat.ble, hb74, fren, mren, AV.ren, AObj.ren, Cell.ren, sumRen, Upd.ren, swp, csw, dat_ren, opn_ren] <;> rfl) (by simp only [EX, simprocAttr, Nat.blt, Nat.ble, hb74, fren, mren, AV.ren, AObj.ren, Cell.ren, sumRen, Upd.ren, swp, csw, dat_ren, opn_ren] <;> rfl) (by simp only [EX, simprocAttr, Nat.blt, Nat.ble, hb74, fren, mren, AV.ren, AObj.ren, Cell.ren, sumRen, Upd.ren, swp, csw, dat_ren, opn_ren] <;> rfl)
      have h := h.same [4] [(1, 0), (1, 1), (2, 0), (5, 1), (5, 2)] 45 [(4, .one (.ptr (2, 0) 0))]
        [((1, 0), some (.row 4 1 (dat (List.map eB l71)))), ((1, 1), some (.row 3 1 (dat (List.map eI r42.Sent)))), ((2, 0), some (.box 36 [.d (.int .i64 a1), .own (1, 0) l71.length, .d (.int .i64 r42.Node), .d (.int .i64 r42.State), .d (.int .i64 r42.Steps), .own (1, 1) r42.Sent.length, .own (5, 1) r42.In.length, .own (5, 2) r42.Out.length])), ((5, 1), some (.row 57 1 (openRows cols_57 (List.map (eL eTMsg) r42.In)))), ((5, 2), some (.row 29 1 (openRows cols_29 (List.map (eL eI) r42.Out))))]
        (by simp only [EX, simprocAttr, Nat.blt, Nat.ble, hb74, dat_open] <;> rfl)
      have h := SL.swap h (1, 2) (5, 1) 45 (by decide) (by decide) (by simp only [EX, simprocAttr, Nat.blt, Nat.ble, hb74, fren, mren, AV.ren, AObj.ren, Cell.ren, sumRen, Upd.ren, swp, csw, dat_ren, opn_ren] <;> rfl) (by simp only [EX, simprocAttr, Nat.blt, Nat.ble, hb74, fren, mren, AV.ren, AObj.ren, Cell.ren, sumRen, Upd.ren, swp, csw, dat_ren, opn_ren] <;> rfl) (by simp only [EX, simprocAttr, Nat.blt, Nat.ble, hb74, fren, mren, AV.ren, AObj.ren, Cell.ren, sumRen, Upd.ren, swp, csw, dat_ren, opn_ren] <;> rfl)
      have h := h.same [4] [(1, 0), (1, 1), (1, 2), (2, 0), (5, 2)] 45 [(4, .one (.ptr (2, 0) 0))]
        [((1, 0), some (.row 4 1 (dat (List.map eB l71)))), ((1, 1), some (.row 3 1 (dat (List.map eI r42.Sent)))), ((1, 2), some (.row 57 1 (openRows cols_57 (List.map (eL eTMsg) r42.In)))), ((2, 0), some (.box 36 [.d (.int .i64 a1), .own (1, 0) l71.length, .d (.int .i64 r42.Node), .d (.int .i64 r42.State), .d (.int .i64 r42.Steps), .own (1, 1) r42.Sent.length, .own (1, 2) r42.In.length, .own (5, 2) r42.Out.length])), ((5, 2), some (.row 29 1 (openRows cols_29 (List.map (eL eI) r42.Out))))]
        (by simp only [EX, simprocAttr, Nat.blt, Nat.ble, hb74, dat_open] <;> rfl)
      have h := SL.swap h (1, 3) (5, 2) 45 (by decide) (by decide) (by simp only [EX, simprocAttr, Nat.blt, Nat.ble, hb74, fren, mren, AV.ren, AObj.ren, Cell.ren, sumRen, Upd.ren, swp, csw, dat_ren, opn_ren] <;> rfl) (by simp only [EX, simprocAttr, Nat.blt, Nat.ble, hb74, fren, mren, AV.ren, AObj.ren, Cell.ren, sumRen, Upd.ren, swp, csw, dat_ren, opn_ren] <;> rfl) (by simp only [EX, simprocAttr, Nat.blt, Nat.ble, hb74, fren, mren, AV.ren, AObj.ren, Cell.ren, sumRen, Upd.ren, swp, csw, dat_ren, opn_ren] <;> rfl)
      have h := h.same [4] [(1, 0), (1, 1), (1, 2), (1, 3), (2, 0)] 45 [(4, .one (.ptr (2, 0) 0))]
        [((1, 0), some (.row 4 1 (dat (List.map eB l71)))), ((1, 1), some (.row 3 1 (dat (List.map eI r42.Sent)))), ((1, 2), some (.row 57 1 (openRows cols_57 (List.map (eL eTMsg) r42.In)))), ((1, 3), some (.row 29 1 (openRows cols_29 (List.map (eL eI) r42.Out)))), ((2, 0), some (.box 36 [.d (.int .i64 a1), .own (1, 0) l71.length, .d (.int .i64 r42.Node), .d (.int .i64 r42.State), .d (.int .i64 r42.Steps), .own (1, 1) r42.Sent.length, .own (1, 2) r42.In.length, .own (1, 3) r42.Out.length]))]
        (by simp only [EX, simprocAttr, Nat.blt, Nat.ble, hb74, dat_open] <;> rfl)
      injection hL72 with hL72
      subst hL72
      exact r_retO rfl h [.cell 4 36] rfl [(1, 0), (1, 1), (1, 2), (1, 3)] (by simp only [retO, List.mapM_cons, List.mapM_nil, Option.bind_eq_bind, Option.pure_def, EX, simprocAttr, Nat.blt, Nat.ble, tz_36, hb74] <;> rfl)
theorem L_ref10_Begin_ok {a0 : THost} {a1 : Int} {r : TMark} (hD : L_ref10_Begin a0 a1 = some r) :
    CallH Try.prog 20 [.agg [.d (.int .i64 a0.Node), .d (.int .i64 a0.State), .d (.int .i64 a0.Steps), .d (.sl (List.map (eL eTMsg) a0.In)), .d (.sl (List.map (eL eI) a0.Out))], .one (.d (.int .i64 a1))] []
      (.agg [.d (.int .i64 r.Epoch), .d (.sl (List.map eB r.Open)), .d (.int .i64 r.P.Node), .d (.int .i64 r.P.State), .d (.int .i64 r.P.Steps), .d (.sl (List.map eI r.P.Sent)), .d (.sl (List.map (eL eTMsg) r.P.In)), .d (.sl (List.map (eL eI) r.P.Out))]) [] :=
  (L_ref10_Begin_own hD).frz (by simp only [EX, simprocAttr, Nat.blt, Nat.ble] <;> rfl) (by simp only [frzA, frzSum, EX, simprocAttr, Nat.blt, Nat.ble] <;> rfl) rfl

set_option maxRecDepth 20000 in
set_option maxHeartbeats 4000000 in
theorem L_ref10_own_own {a0 : TMark} {r : TMark} (hD : L_ref10_own a0 = some r) :
    CallH Try.prog 24 [.agg [.d (.int .i64 a0.Epoch), .d (.sl (List.map eB a0.Open)), .d (.int .i64 a0.P.Node), .d (.int .i64 a0.P.State), .d (.int .i64 a0.P.Steps), .d (.sl (List.map eI a0.P.Sent)), .d (.sl (List.map (eL eTMsg) a0.P.In)), .d (.sl (List.map (eL eI) a0.P.Out))]] []
      (.agg [.d (.int .i64 r.Epoch), .own (1, 0) r.Open.length, .d (.int .i64 r.P.Node), .d (.int .i64 r.P.State), .d (.int .i64 r.P.Steps), .d (.sl (List.map eI r.P.Sent)), .own (1, 1) r.P.In.length, .d (.sl (List.map (eL eI) r.P.Out))]) [((1, 0), some (.row 4 1 (dat (List.map eB r.Open)))), ((1, 1), some (.row 57 1 (openRows cols_57 (List.map (eL eTMsg) r.P.In))))] := by
  unfold L_ref10_own at hD
  refine r_call Try.func24 rfl Try.ntmps24 (by kernel_rfl) (by rfl) (by simp only [shutB, EX, simprocAttr, Nat.blt, Nat.ble] <;> rfl) (by simp) fun S Φ P0 wb ac h => ?_
  refine rs_plain 3 [] [none, none] [1, 2] [(1, 0), (2, 0)] h rfl rfl (by simp only [EX, simprocAttr, Nat.blt, Nat.ble, tz_36] <;> rfl) fun ac wd h => ?_
  by_cases ha75 : a0.Open.length * 1 ≤ 140737488355328
  case neg => rw [if_neg ha75] at hD; cases hD
  rw [if_pos ha75] at hD
  refine rs_drawn 14 ty_hm [] [none, none, none, none, none, none, none, none, none, none, none] [1, 2, 3] [(1, 0), (2, 0), (8, 0), (12, 0)] h rfl rfl (by simp only [EX, simprocAttr, Nat.blt, Nat.ble, tz_2, tz_3, tz_4, tz_28, tz_34, tz_36, ha75] <;> rfl) (by kernel_rfl) fun ac wd h => ?_
  refine rs_plain 17 [] [none, none, none] [1, 2, 3] [(1, 0), (2, 0), (8, 0), (12, 0)] h rfl rfl (by simp only [EX, simprocAttr, Nat.blt, Nat.ble, tz_2, tz_4, tz_23, tz_34, tz_36, tz_38, tz_57, ha75] <;> rfl) fun ac wd h => ?_
  refine wp_seq ?_
  refine rs_plain 18 [] [none] [1, 2, 3, 4] [(1, 0), (2, 0), (8, 0), (12, 0)] h rfl rfl (by simp only [EX, simprocAttr, Nat.blt, Nat.ble, tz_3, ha75] <;> rfl) fun ac wd h => ?_
  refine wp_block ?_
  have h := SL.bornB h (12, 0) 6 57 1 (by simp only [EX, simprocAttr, Nat.blt, Nat.ble, ha75] <;> rfl) (by simp only [EX, simprocAttr, Nat.blt, Nat.ble, ha75] <;> rfl)
  have h := h.same [1, 2, 3, 4] [(1, 0), (2, 0), (8, 0), (12, 0), (18, 0)] 68 [(1, .one (.ptr (1, 0) 0)), (2, .one (.ptr (2, 0) 0)), (3, .one (.ptr (12, 0) 0)), (4, .one (.d (.int .i64 0)))]
    [((1, 0), some (.box 36 [.d (.int .i64 a0.Epoch), .d (.sl (List.map eB a0.Open)), .d (.int .i64 a0.P.Node), .d (.int .i64 a0.P.State), .d (.int .i64 a0.P.Steps), .d (.sl (List.map eI a0.P.Sent)), .d (.sl (List.map (eL eTMsg) a0.P.In)), .d (.sl (List.map (eL eI) a0.P.Out))])), ((2, 0), some (.box 36 [.d (.int .i64 0), .nil, .d (.int .i64 0), .d (.int .i64 0), .d (.int .i64 0), .nil, .nil, .nil])), ((8, 0), some (.row 4 1 (dat (List.map eB a0.Open)))), ((12, 0), some (.box 36 [.d (.int .i64 a0.Epoch), .own (8, 0) a0.Open.length, .d (.int .i64 a0.P.Node), .d (.int .i64 a0.P.State), .d (.int .i64 a0.P.Steps), .d (.sl (List.map eI a0.P.Sent)), .own (18, 0) ([] : List (List TMsg)).length, .d (.sl (List.map (eL eI) a0.P.Out))])), ((18, 0), some (.row 57 1 (openRows cols_57 (List.map (eL eTMsg) ([] : List (List TMsg))))))]
    (by simp only [EX, simprocAttr, Nat.blt, Nat.ble, ha75] <;> rfl)
  refine r_while (fun nf ac wd => ∃ (n132 : Int) (l133 : List (List TMsg)), L_ref10_own_l1 a0 nf n132 l133 = some r ∧ SL ⟨wb, S, Φ, P0⟩ 40 68 [(1, .one (.ptr (1, 0) 0)), (2, .one (.ptr (2, 0) 0)), (3, .one (.ptr (12, 0) 0)), (4, .one (.d (.int .i64 n132)))] [((1, 0), some (.box 36 [.d (.int .i64 a0.Epoch), .d (.sl (List.map eB a0.Open)), .d (.int .i64 a0.P.Node), .d (.int .i64 a0.P.State), .d (.int .i64 a0.P.Steps), .d (.sl (List.map eI a0.P.Sent)), .d (.sl (List.map (eL eTMsg) a0.P.In)), .d (.sl (List.map (eL eI) a0.P.Out))])), ((2, 0), some (.box 36 [.d (.int .i64 0), .nil, .d (.int .i64 0), .d (.int .i64 0), .d (.int .i64 0), .nil, .nil, .nil])), ((8, 0), some (.row 4 1 (dat (List.map eB a0.Open)))), ((12, 0), some (.box 36 [.d (.int .i64 a0.Epoch), .own (8, 0) a0.Open.length, .d (.int .i64 a0.P.Node), .d (.int .i64 a0.P.State), .d (.int .i64 a0.P.Steps), .d (.sl (List.map eI a0.P.Sent)), .own (18, 0) l133.length, .d (.sl (List.map (eL eI) a0.P.Out))])), ((18, 0), some (.row 57 1 (openRows cols_57 (List.map (eL eTMsg) l133))))] ac wd) (((a0.P.In.length : Int) - 0).toNat + 1) ⟨0, ([] : List (List TMsg)), hD, h⟩ (fun nf ac wd hJ => ?_)
  obtain ⟨n132, l133, hL134, h⟩ := hJ
  cases nf with
  | zero => rw [L_ref10_own_l1] at hL134; cases hL134
  | succ nf =>
    rw [L_ref10_own_l1] at hL134
    refine wp_seq ?_
    refine rs_plain 74 [] [none, none, none, none, none, none] [1, 2, 3, 4, 21] [(1, 0), (2, 0), (8, 0), (12, 0), (18, 0)] h rfl rfl (by simp only [EX, simprocAttr, Nat.blt, Nat.ble, tz_2, tz_3, tz_4, tz_23, tz_34, tz_36, tz_38, tz_57, ha75] <;> rfl) fun ac wd h => ?_
    by_cases hb136 : n132 < (a0.P.In.length : Int)
    · rw [if_pos hb136] at hL134
      refine r_condT h (decide (n132 < (a0.P.In.length : Int))) (by simp only [EX, simprocAttr, Nat.blt, Nat.ble, ha75, hb136] <;> rfl) (by first | rfl | (simp only [EX, simprocAttr, Nat.blt, Nat.ble, ha75, hb136] <;> rfl)) ?_
      refine wp_skip ?_
      change Code.wp Try.prog _ _ _ _
      refine wp_seq ?_
      refine wp_block ?_
      obtain ⟨x141, hx142, hL134⟩ := Option.bind_eq_some_iff.1 hL134
      obtain ⟨hx142a, hx142b, hx142c⟩ := at_some hx142
      have hx142d := (List.getElem?_eq_some_iff.1 hx142b).1
      by_cases ha143 : x141.length * 16 ≤ 140737488355328
      case neg => rw [if_neg ha143] at hL134; cases hL134
      rw [if_pos ha143] at hL134
      by_cases ha144 : (l133.length + 1) * 24 ≤ 140737488355328
      case neg => rw [if_neg ha144] at hL134; cases hL134
      rw [if_pos ha144] at hL134
      refine r_drawn ty_hm [] [none, none, none, none, none, none, none, none, none, none, none, none, none, none, none, none] [1, 2, 3, 4] [(1, 0), (2, 0), (8, 0), (12, 0), (84, 0), (86, 0)] h rfl (by simp only [EX, simprocAttr, Nat.blt, Nat.ble, tz_2, tz_3, tz_4, tz_23, tz_34, tz_36, tz_38, tz_57, ha75, hb136, ha143, ha144, hx142a, hx142b, hx142c, hx142d] <;> rfl) (by kernel_rfl) fun ac wd h => ?_
      have h := h.foldL (cols := (fun _ => .sc)) (86, 0) (84, 0) (openRows cols_57 (List.map (eL eTMsg) l133)) [.own (84, 0) x141.length] 0 (List.map eTMsg x141) (by simp only [EX, simprocAttr, Nat.blt, Nat.ble, ha75, hb136, hx142a, hx142b, hx142c, hx142d, ha143, ha144] <;> rfl)  (by rfl) (by simp only [EX, simprocAttr, Nat.blt, Nat.ble, ha75, hb136, hx142a, hx142b, hx142c, hx142d, ha143, ha144] <;> rfl) (by simp only [EX, simprocAttr, Nat.blt, Nat.ble, ha75, hb136, hx142a, hx142b, hx142c, hx142d, ha143, ha144, dat_open] <;> rfl) (by simp only [EX, simprocAttr, Nat.blt, Nat.ble, ha75, hb136, hx142a, hx142b, hx142c, hx142d, ha143, ha144] <;> rfl) (by decide) (sc_38 _)
      have h := h.same [1, 2, 3, 4] [(1, 0), (2, 0), (8, 0), (12, 0), (86, 0)] 90 [(1, .one (.ptr (1, 0) 0)), (2, .one (.ptr (2, 0) 0)), (3, .one (.ptr (12, 0) 0)), (4, .one (.d (.int .i64 n132)))]
        [((1, 0), some (.box 36 [.d (.int .i64 a0.Epoch), .d (.sl (List.map eB a0.Open)), .d (.int .i64 a0.P.Node), .d (.int .i64 a0.P.State), .d (.int .i64 a0.P.Steps), .d (.sl (List.map eI a0.P.Sent)), .d (.sl (List.map (eL eTMsg) a0.P.In)), .d (.sl (List.map (eL eI) a0.P.Out))])), ((2, 0), some (.box 36 [.d (.int .i64 0), .nil, .d (.int .i64 0), .d (.int .i64 0), .d (.int .i64 0), .nil, .nil, .nil])), ((8, 0), some (.row 4 1 (dat (List.map eB a0.Open)))), ((12, 0), some (.box 36 [.d (.int .i64 a0.Epoch), .own (8, 0) a0.Open.length, .d (.int .i64 a0.P.Node), .d (.int .i64 a0.P.State), .d (.int .i64 a0.P.Steps), .d (.sl (List.map eI a0.P.Sent)), .own (86, 0) (l133.length + 1), .d (.sl (List.map (eL eI) a0.P.Out))])), ((86, 0), some (.row 57 1 ((openRows cols_57 (List.map (eL eTMsg) l133) ++ [[.tr (.sl 38 2 (fun _ => .sc)) (.sl (List.map eTMsg x141))]]))))]
        (by simp only [EX, simprocAttr, Nat.blt, Nat.ble, ha75, hb136, hx142a, hx142b, hx142c, hx142d, ha143, ha144, dat_open] <;> rfl)
      change Code.wp Try.prog _ _ _ _
      refine r_plain [] [none, none, none] [1, 2, 3, 4] [(1, 0), (2, 0), (8, 0), (12, 0), (86, 0)] h rfl (by simp only [EX, simprocAttr, Nat.blt, Nat.ble, tz_3, ha75, hb136, ha143, ha144] <;> rfl) fun ac wd h => ?_
      have h := SL.swap h (18, 0) (86, 0) 93 (by decide) (by decide) (by simp only [EX, simprocAttr, Nat.blt, Nat.ble, ha75, hb136, hx142a, hx142b, hx142c, hx142d, ha143, ha144, fren, mren, AV.ren, AObj.ren, Cell.ren, sumRen, Upd.ren, swp, csw, dat_ren, opn_ren] <;> rfl) (by simp only [EX, simprocAttr, Nat.blt, Nat.ble, ha75, hb136, hx142a, hx142b, hx142c, hx142d, ha143, ha144, fren, mren, AV.ren, AObj.ren, Cell.ren, sumRen, Upd.ren, swp, csw, dat_ren, opn_ren] <;> rfl) (by simp only [EX, simprocAttr, Nat.blt, Nat.ble, ha75, hb136, hx142a, hx142b, hx142c, hx142d, ha143, ha144, fren, mren, AV.ren, AObj.ren, Cell.ren, sumRen, Upd.ren, swp, csw, dat_ren, opn_ren] <;> rfl)
      have h := h.same [1, 2, 3, 4] [(1, 0), (2, 0), (8, 0), (12, 0), (18, 0)] 68 [(1, .one (.ptr (1, 0) 0)), (2, .one (.ptr (2, 0) 0)), (3, .one (.ptr (12, 0) 0)), (4, .one (.d (.int .i64 (IntKind.wrap .i64 (n132 + 1)))))]
        [((1, 0), some (.box 36 [.d (.int .i64 a0.Epoch), .d (.sl (List.map eB a0.Open)), .d (.int .i64 a0.P.Node), .d (.int .i64 a0.P.State), .d (.int .i64 a0.P.Steps), .d (.sl (List.map eI a0.P.Sent)), .d (.sl (List.map (eL eTMsg) a0.P.In)), .d (.sl (List.map (eL eI) a0.P.Out))])), ((2, 0), some (.box 36 [.d (.int .i64 0), .nil, .d (.int .i64 0), .d (.int .i64 0), .d (.int .i64 0), .nil, .nil, .nil])), ((8, 0), some (.row 4 1 (dat (List.map eB a0.Open)))), ((12, 0), some (.box 36 [.d (.int .i64 a0.Epoch), .own (8, 0) a0.Open.length, .d (.int .i64 a0.P.Node), .d (.int .i64 a0.P.State), .d (.int .i64 a0.P.Steps), .d (.sl (List.map eI a0.P.Sent)), .own (18, 0) (l133 ++ [x141]).length, .d (.sl (List.map (eL eI) a0.P.Out))])), ((18, 0), some (.row 57 1 (openRows cols_57 (List.map (eL eTMsg) (l133 ++ [x141])))))]
        (by simp only [EX, simprocAttr, Nat.blt, Nat.ble, ha75, hb136, hx142a, hx142b, hx142c, hx142d, ha143, ha144] <;> rfl)
      change ∃ n', _ ∧ _
      exact ⟨nf, Nat.lt_succ_self nf, (IntKind.wrap .i64 (n132 + 1)), (l133 ++ [x141]), hL134, h⟩
    · rw [if_neg hb136] at hL134
      refine r_condF h (decide (n132 < (a0.P.In.length : Int))) (by simp only [EX, simprocAttr, Nat.blt, Nat.ble, ha75, hb136] <;> rfl) (by first | rfl | (simp only [EX, simprocAttr, Nat.blt, Nat.ble, ha75, hb136] <;> rfl)) ?_
      refine wp_exit ?_
      change Code.wp Try.prog _ _ _ _
      refine rs_plain 76 [] [none, none] [2] [(2, 0), (8, 0), (18, 0)] h rfl rfl (by simp only [EX, simprocAttr, Nat.blt, Nat.ble, tz_36, ha75, hb136] <;> rfl) fun ac wd h => ?_
      refine wp_ret ?_
      have h := h.same [2] [(2, 0), (8, 0), (18, 0)] 76 [(2, .one (.ptr (2, 0) 0))]
        [((2, 0), some (.box 36 [.d (.int .i64 a0.Epoch), .own (8, 0) a0.Open.length, .d (.int .i64 a0.P.Node), .d (.int .i64 a0.P.State), .d (.int .i64 a0.P.Steps), .d (.sl (List.map eI a0.P.Sent)), .own (18, 0) l133.length, .d (.sl (List.map (eL eI) a0.P.Out))])), ((8, 0), some (.row 4 1 (dat (List.map eB a0.Open)))), ((18, 0), some (.row 57 1 (openRows cols_57 (List.map (eL eTMsg) l133))))]
        (by simp only [EX, simprocAttr, Nat.blt, Nat.ble, ha75, hb136, dat_open] <;> rfl)
      have h := SL.swap h (1, 0) (8, 0) 76 (by decide) (by decide) (by simp only [EX, simprocAttr, Nat.blt, Nat.ble, ha75, hb136, fren, mren, AV.ren, AObj.ren, Cell.ren, sumRen, Upd.ren, swp, csw, dat_ren, opn_ren] <;> rfl) (by simp only [EX, simprocAttr, Nat.blt, Nat.ble, ha75, hb136, fren, mren, AV.ren, AObj.ren, Cell.ren, sumRen, Upd.ren, swp, csw, dat_ren, opn_ren] <;> rfl) (by simp only [EX, simprocAttr, Nat.blt, Nat.ble, ha75, hb136, fren, mren, AV.ren, AObj.ren, Cell.ren, sumRen, Upd.ren, swp, csw, dat_ren, opn_ren] <;> rfl)
      have h := h.same [2] [(1, 0), (2, 0), (18, 0)] 76 [(2, .one (.ptr (2, 0) 0))]
        [((1, 0), some (.row 4 1 (dat (List.map eB a0.Open)))), ((2, 0), some (.box 36 [.d (.int .i64 a0.Epoch), .own (1, 0) a0.Open.length, .d (.int .i64 a0.P.Node), .d (.int .i64 a0.P.State), .d (.int .i64 a0.P.Steps), .d (.sl (List.map eI a0.P.Sent)), .own (18, 0) l133.length, .d (.sl (List.map (eL eI) a0.P.Out))])), ((18, 0), some (.row 57 1 (openRows cols_57 (List.map (eL eTMsg) l133))))]
        (by simp only [EX, simprocAttr, Nat.blt, Nat.ble, ha75, hb136, dat_open] <;> rfl)
      have h := SL.swap h (1, 1) (18, 0) 76 (by decide) (by decide) (by simp only [EX, simprocAttr, Nat.blt, Nat.ble, ha75, hb136, fren, mren, AV.ren, AObj.ren, Cell.ren, sumRen, Upd.ren, swp, csw, dat_ren, opn_ren] <;> rfl) (by simp only [EX, simprocAttr, Nat.blt, Nat.ble, ha75, hb136, fren, mren, AV.ren, AObj.ren, Cell.ren, sumRen, Upd.ren, swp, csw, dat_ren, opn_ren] <;> rfl) (by simp only [EX, simprocAttr, Nat.blt, Nat.ble, ha75, hb136, fren, mren, AV.ren, AObj.ren, Cell.ren, sumRen, Upd.ren, swp, csw, dat_ren, opn_ren] <;> rfl)
      have h := h.same [2] [(1, 0), (1, 1), (2, 0)] 76 [(2, .one (.ptr (2, 0) 0))]
        [((1, 0), some (.row 4 1 (dat (List.map eB a0.Open)))), ((1, 1), some (.row 57 1 (openRows cols_57 (List.map (eL eTMsg) l133)))), ((2, 0), some (.box 36 [.d (.int .i64 a0.Epoch), .own (1, 0) a0.Open.length, .d (.int .i64 a0.P.Node), .d (.int .i64 a0.P.State), .d (.int .i64 a0.P.Steps), .d (.sl (List.map eI a0.P.Sent)), .own (1, 1) l133.length, .d (.sl (List.map (eL eI) a0.P.Out))]))]
        (by simp only [EX, simprocAttr, Nat.blt, Nat.ble, ha75, hb136, dat_open] <;> rfl)
      injection hL134 with hL134
      subst hL134
      exact r_retO rfl h [.cell 2 36] rfl [(1, 0), (1, 1)] (by simp only [retO, List.mapM_cons, List.mapM_nil, Option.bind_eq_bind, Option.pure_def, EX, simprocAttr, Nat.blt, Nat.ble, tz_36, ha75, hb136] <;> rfl)
theorem L_ref10_own_ok {a0 : TMark} {r : TMark} (hD : L_ref10_own a0 = some r) :
    CallH Try.prog 24 [.agg [.d (.int .i64 a0.Epoch), .d (.sl (List.map eB a0.Open)), .d (.int .i64 a0.P.Node), .d (.int .i64 a0.P.State), .d (.int .i64 a0.P.Steps), .d (.sl (List.map eI a0.P.Sent)), .d (.sl (List.map (eL eTMsg) a0.P.In)), .d (.sl (List.map (eL eI) a0.P.Out))]] []
      (.agg [.d (.int .i64 r.Epoch), .d (.sl (List.map eB r.Open)), .d (.int .i64 r.P.Node), .d (.int .i64 r.P.State), .d (.int .i64 r.P.Steps), .d (.sl (List.map eI r.P.Sent)), .d (.sl (List.map (eL eTMsg) r.P.In)), .d (.sl (List.map (eL eI) r.P.Out))]) [] :=
  (L_ref10_own_own hD).frz (by simp only [EX, simprocAttr, Nat.blt, Nat.ble] <;> rfl) (by simp only [frzA, frzSum, EX, simprocAttr, Nat.blt, Nat.ble] <;> rfl) rfl

end Go.Proofs.Ytkjihlonnhfidaa
