/- Functions as typed ones, and that the program's functions answer as these do. No condition. -/
import Derived.Test.YteohodhcegbmmaaGd
set_option linter.unusedSimpArgs false
set_option linter.unusedVariables false
namespace Go.Proofs.Yteohodhcegbmmaa
open Go.RowKit

set_option maxRecDepth 20000 in
set_option maxHeartbeats 4000000 in
theorem L_law03_Cut_ok {a0 : TGraph} {r : TGraph} (hD : L_law03_Cut a0 = some r) :
    CallH Try.prog 10 [.agg [.d (.int .i64 a0.N), .d (.sl (List.map eA2I a0.Links))]] []
      (.agg [.d (.int .i64 r.N), .d (.sl (List.map eA2I r.Links))]) [] := by
  unfold L_law03_Cut at hD
  refine r_call Try.func10 rfl Try.ntmps10 (by kernel_rfl) (by rfl) (by rfl) (by simp) fun S Φ P0 wb ac h => ?_
  refine rs_plain 3 [] [none, none] [1, 2] [(1, 0), (2, 0)] h rfl rfl (by simp only [EX, simprocAttr, Nat.blt, Nat.ble, tz_24] <;> rfl) fun ac wd h => ?_
  by_cases ha13 : 0 ≤ (min (a0.Links.length : Int) 40)
  case neg => rw [if_neg ha13] at hD; cases hD
  rw [if_pos ha13] at hD
  by_cases ha14 : (min (a0.Links.length : Int) 40) ≤ (a0.Links.length : Int)
  case neg => rw [if_neg ha14] at hD; cases hD
  rw [if_pos ha14] at hD
  obtain ⟨v15, hv16, hD⟩ := Option.bind_eq_some_iff.1 hD
  injection hv16 with hv16
  refine rs_plain 12 [] [none, none, none, none, none, none, none, none, none] [1, 2] [(1, 0), (2, 0)] h rfl rfl (by simp only [EX, simprocAttr, Nat.blt, Nat.ble, tz_3, tz_22, tz_24, tz_43, ha13, ha14, hv16] <;> rfl) fun ac wd h => ?_
  refine rs_plain 14 [] [none, none] [2] [(2, 0)] h rfl rfl (by simp only [EX, simprocAttr, Nat.blt, Nat.ble, tz_24, ha13, ha14] <;> rfl) fun ac wd h => ?_
  refine wp_ret ?_
  injection hD with hD
  subst hD
  exact r_retE rfl h [.cell 2 24] rfl (by simp only [retD, List.mapM_cons, List.mapM_nil, Option.bind_eq_bind, Option.pure_def, EX, simprocAttr, Nat.blt, Nat.ble, tz_24, ha13, ha14] <;> rfl)

set_option maxRecDepth 20000 in
set_option maxHeartbeats 4000000 in
theorem L_graph_Graph_node_ok {a0 : TGraph} {a1 : Int} {r : Bool} (hD : L_graph_Graph_node a0 a1 = some r) :
    CallH Try.prog 29 [.agg [.d (.int .i64 a0.N), .d (.sl (List.map eA2I a0.Links))], .one (.d (.int .i64 a1))] []
      (.one (.d (.bool r))) [] := by
  unfold L_graph_Graph_node at hD
  refine r_call Try.func29 rfl Try.ntmps29 (by kernel_rfl) (by rfl) (by rfl) (by simp) fun S Φ P0 wb ac h => ?_
  refine rs_plain 3 [] [none, none] [1, 2] [(1, 0)] h rfl rfl (by simp only [EX, simprocAttr, Nat.blt, Nat.ble, tz_4, tz_24] <;> rfl) fun ac wd h => ?_
  obtain ⟨e8, hE9, hD⟩ := Option.bind_eq_some_iff.1 hD
  refine r_seqJ (fun ac wd => ∃ (b7 : Bool), b7 = e8 ∧ SL ⟨wb, S, Φ, P0⟩ 13 12 [(4, .one (.d (.bool b7)))] [] ac wd) ?_ ?_
  · skip
    by_cases hb10 : a1 ≥ 0
    · rw [if_pos hb10] at hE9
      refine r_plain [] [none, none, none, some (some 7, true), some (some 7, true), some (some 7, true), some (some 7, true), none, none] [4] [] h rfl (by simp only [EX, simprocAttr, Nat.blt, Nat.ble, tz_3, tz_4, tz_24, hb10] <;> rfl) fun ac wd h => ?_
      have h := h.same [4] [] 12 [(4, .one (.d (.bool (decide (a1 < a0.N)))))]
        []
        (by simp only [EX, simprocAttr, Nat.blt, Nat.ble, hb10] <;> rfl)
      injection hE9 with hE9
      exact ⟨decide (a1 < a0.N), hE9, h⟩
    · rw [if_neg hb10] at hE9
      refine r_plain [] [none, none, none, some (some 7, true), some (some 7, true), some (some 7, true), some (some 7, true), none, none] [4] [] h rfl (by simp only [EX, simprocAttr, Nat.blt, Nat.ble, tz_3, tz_4, tz_24, hb10] <;> rfl) fun ac wd h => ?_
      have h := h.same [4] [] 12 [(4, .one (.d (.bool false)))]
        []
        (by simp only [EX, simprocAttr, Nat.blt, Nat.ble, hb10] <;> rfl)
      injection hE9 with hE9
      exact ⟨false, hE9, h⟩
  · skip
    rintro ac wd ⟨b7, rfl, h⟩
    (try dsimp only at hD)
    refine wp_ret ?_
    injection hD with hD
    subst hD
    exact r_retE rfl h [.tmp 4] rfl (by simp only [retD, List.mapM_cons, List.mapM_nil, Option.bind_eq_bind, Option.pure_def, EX, simprocAttr, Nat.blt, Nat.ble] <;> rfl)

set_option maxRecDepth 20000 in
set_option maxHeartbeats 4000000 in
theorem L_graph_turned_ok {a0 : A2I} {r : A2I} (hD : L_graph_turned a0 = some r) :
    CallH Try.prog 30 [.agg [.d (.int .i64 a0.a0), .d (.int .i64 a0.a1)]] []
      (.agg [.d (.int .i64 r.a0), .d (.int .i64 r.a1)]) [] := by
  unfold L_graph_turned at hD
  refine r_call Try.func30 rfl Try.ntmps30 (by kernel_rfl) (by rfl) (by rfl) (by simp) fun S Φ P0 wb ac h => ?_
  refine rs_plain 3 [] [none, none] [1, 2] [(1, 0), (2, 0)] h rfl rfl (by simp only [EX, simprocAttr, Nat.blt, Nat.ble, tz_43] <;> rfl) fun ac wd h => ?_
  refine rs_plain 9 [] [none, none, none, none, none, none] [2] [(2, 0)] h rfl rfl (by simp only [EX, simprocAttr, Nat.blt, Nat.ble, tz_3, tz_43] <;> rfl) fun ac wd h => ?_
  refine wp_ret ?_
  injection hD with hD
  subst hD
  exact r_retE rfl h [.cell 2 43] rfl (by simp only [retD, List.mapM_cons, List.mapM_nil, Option.bind_eq_bind, Option.pure_def, EX, simprocAttr, Nat.blt, Nat.ble, tz_43] <;> rfl)

set_option maxRecDepth 20000 in
set_option maxHeartbeats 4000000 in
theorem L_math_bits_Mul64_ok {a0 : Int} {a1 : Int} {r : Int × Int} (hD : L_math_bits_Mul64 a0 a1 = some r) :
    CallH Try.prog 37 [.one (.d (.int .u64 a0)), .one (.d (.int .u64 a1))] []
      (.tup [.inr (.d (.int .u64 r.1)), .inr (.d (.int .u64 r.2))]) [] := by
  unfold L_math_bits_Mul64 at hD
  refine r_call Try.func37 rfl Try.ntmps37 (by kernel_rfl) (by rfl) (by rfl) (by simp) fun S Φ P0 wb ac h => ?_
  refine rs_plain 3 [] [none, none] [0, 1] [] h rfl rfl (by simp only [EX, simprocAttr, Nat.blt, Nat.ble, tz_61] <;> rfl) fun ac wd h => ?_
  refine rs_plain 6 [] [none, none, none] [0, 1, 6] [] h rfl rfl (by simp only [EX, simprocAttr, Nat.blt, Nat.ble, tz_61] <;> rfl) fun ac wd h => ?_
  refine rs_plain 9 [] [none, none, none] [0, 1, 6, 7] [] h rfl rfl (by simp only [EX, simprocAttr, Nat.blt, Nat.ble, tz_55, tz_61] <;> rfl) fun ac wd h => ?_
  refine rs_plain 12 [] [none, none, none] [0, 1, 6, 7, 8] [] h rfl rfl (by simp only [EX, simprocAttr, Nat.blt, Nat.ble, tz_61] <;> rfl) fun ac wd h => ?_
  refine rs_plain 15 [] [none, none, none] [0, 1, 6, 7, 8, 9] [] h rfl rfl (by simp only [EX, simprocAttr, Nat.blt, Nat.ble, tz_55, tz_61] <;> rfl) fun ac wd h => ?_
  refine rs_plain 19 [] [none, none, none, none] [0, 1, 6, 7, 8, 9, 10] [] h rfl rfl (by simp only [EX, simprocAttr, Nat.blt, Nat.ble, tz_61] <;> rfl) fun ac wd h => ?_
  refine rs_plain 26 [] [none, none, none, none, none, none, none] [0, 1, 6, 7, 9, 11] [] h rfl rfl (by simp only [EX, simprocAttr, Nat.blt, Nat.ble, tz_55, tz_61] <;> rfl) fun ac wd h => ?_
  refine rs_plain 29 [] [none, none, none] [0, 1, 6, 7, 9, 11, 12] [] h rfl rfl (by simp only [EX, simprocAttr, Nat.blt, Nat.ble, tz_61] <;> rfl) fun ac wd h => ?_
  refine rs_plain 32 [] [none, none, none] [0, 1, 6, 7, 9, 12, 13] [] h rfl rfl (by simp only [EX, simprocAttr, Nat.blt, Nat.ble, tz_55, tz_61] <;> rfl) fun ac wd h => ?_
  refine rs_plain 38 [] [none, none, none, none, none, none] [0, 1, 7, 9, 12, 13] [] h rfl rfl (by simp only [EX, simprocAttr, Nat.blt, Nat.ble, tz_61] <;> rfl) fun ac wd h => ?_
  refine rs_plain 47 [] [none, none, none, none, none, none, none, none, none] [0, 1, 4] [] h rfl rfl (by simp only [EX, simprocAttr, Nat.blt, Nat.ble, tz_55, tz_61] <;> rfl) fun ac wd h => ?_
  refine rs_plain 51 [] [none, none, none, none] [4, 5] [] h rfl rfl (by simp only [EX, simprocAttr, Nat.blt, Nat.ble, tz_61] <;> rfl) fun ac wd h => ?_
  refine wp_ret ?_
  injection hD with hD
  subst hD
  exact r_retE rfl h [.tmp 4, .tmp 5] rfl (by simp only [retD, List.mapM_cons, List.mapM_nil, Option.bind_eq_bind, Option.pure_def, EX, simprocAttr, Nat.blt, Nat.ble] <;> rfl)

set_option maxRecDepth 20000 in
set_option maxHeartbeats 4000000 in
theorem L_math_bits_Mul_ok {a0 : Int} {a1 : Int} {r : Int × Int} (hD : L_math_bits_Mul a0 a1 = some r) :
    CallH Try.prog 35 [.one (.d (.int .u64 a0)), .one (.d (.int .u64 a1))] []
      (.tup [.inr (.d (.int .u64 r.1)), .inr (.d (.int .u64 r.2))]) [] := by
  unfold L_math_bits_Mul at hD
  refine r_call Try.func35 rfl Try.ntmps35 (by kernel_rfl) (by rfl) (by rfl) (by simp) fun S Φ P0 wb ac h => ?_
  refine rs_plain 3 [] [none, none] [0, 1] [] h rfl rfl (by simp only [EX, simprocAttr, Nat.blt, Nat.ble, tz_55] <;> rfl) fun ac wd h => ?_
  refine wp_seq ?_
  refine r_condF h false (by simp only [EX, simprocAttr, Nat.blt, Nat.ble] <;> rfl) (by first | rfl | (simp only [EX, simprocAttr, Nat.blt, Nat.ble] <;> rfl)) ?_
  refine wp_skip ?_
  change Code.wp Try.prog _ _ _ _
  obtain ⟨r7, hc8, hD⟩ := Option.bind_eq_some_iff.1 hD
  have hc8k := L_math_bits_Mul64_ok hc8
  refine rs_plain 11 [factE 5 hc8k] [none, none, none, none, none, none, none, none] [8, 9] [] h rfl rfl (by simp only [EX, simprocAttr, Nat.blt, Nat.ble, tz_55, tz_61] <;> rfl) fun ac wd h => ?_
  refine rs_plain 15 [] [none, none, none, none] [4, 5] [] h rfl rfl (by simp only [EX, simprocAttr, Nat.blt, Nat.ble, tz_55, tz_61] <;> rfl) fun ac wd h => ?_
  refine wp_ret ?_
  injection hD with hD
  subst hD
  exact r_retE rfl h [.tmp 4, .tmp 5] rfl (by simp only [retD, List.mapM_cons, List.mapM_nil, Option.bind_eq_bind, Option.pure_def, EX, simprocAttr, Nat.blt, Nat.ble] <;> rfl)

set_option maxRecDepth 20000 in
set_option maxHeartbeats 4000000 in
theorem L_slices_Repeat_int_int_own {a0 : (List Int)} {a1 : Int} {r : (List Int)} (hD : L_slices_Repeat_int_int a0 a1 = some r) :
    CallH Try.prog 33 [.one (.d (.sl (List.map eI a0))), .one (.d (.int .i64 a1))] []
      (.one (.own (1, 0) r.length)) [((1, 0), some (.row 3 1 (dat (List.map eI r))))] := by
  unfold L_slices_Repeat_int_int at hD
  refine r_call Try.func33 rfl Try.ntmps33 (by kernel_rfl) (by rfl) (by simp only [shutB, EX, simprocAttr, Nat.blt, Nat.ble] <;> rfl) (by simp) fun S Φ P0 wb ac h => ?_
  refine rs_plain 2 [] [none] [0, 1] [] h rfl rfl (by simp only [EX, simprocAttr, Nat.blt, Nat.ble, tz_3, tz_35] <;> rfl) fun ac wd h => ?_
  refine wp_seq ?_
  refine rs_plain 4 [] [none, none] [0, 1, 10] [] h rfl rfl (by simp only [EX, simprocAttr, Nat.blt, Nat.ble, tz_3, tz_4] <;> rfl) fun ac wd h => ?_
  by_cases hb94 : a1 < 0
  · rw [if_pos hb94] at hD
    refine r_condT h (decide (a1 < 0)) (by simp only [EX, simprocAttr, Nat.blt, Nat.ble, hb94] <;> rfl) (by first | rfl | (simp only [EX, simprocAttr, Nat.blt, Nat.ble, hb94] <;> rfl)) ?_
    cases hD
  · rw [if_neg hb94] at hD
    refine r_condF h (decide (a1 < 0)) (by simp only [EX, simprocAttr, Nat.blt, Nat.ble, hb94] <;> rfl) (by first | rfl | (simp only [EX, simprocAttr, Nat.blt, Nat.ble, hb94] <;> rfl)) ?_
    refine wp_skip ?_
    change Code.wp Try.prog _ _ _ _
    obtain ⟨r97, hc98, hD⟩ := Option.bind_eq_some_iff.1 hD
    have hc98k := L_math_bits_Mul_ok hc98
    refine rs_plain 15 [factE 9 hc98k] [none, none, none, none, none, none, none, none, none, none, none] [0, 5, 6] [] h rfl rfl (by simp only [EX, simprocAttr, Nat.blt, Nat.ble, tz_3, tz_35, tz_55, hb94] <;> rfl) fun ac wd h => ?_
    refine wp_seq ?_
    obtain ⟨e101, hE102, hD⟩ := Option.bind_eq_some_iff.1 hD
    refine r_seqJ (fun ac wd => ∃ (b100 : Bool), b100 = e101 ∧ SL ⟨wb, S, Φ, P0⟩ 48 21 [(0, .one (.d (.sl (List.map eI a0)))), (6, .one (.d (.int .u64 r97.2))), (26, .one (.d (.bool b100)))] [] ac wd) ?_ ?_
    · skip
      by_cases hb103 : r97.1 > 0
      · rw [if_pos hb103] at hE102
        refine r_plain [] [none, none, none, some (some 23, false), some (some 23, false), none] [0, 6, 26] [] h rfl (by simp only [EX, simprocAttr, Nat.blt, Nat.ble, tz_4, tz_55, hb94, hb103] <;> rfl) fun ac wd h => ?_
        have h := h.same [0, 6, 26] [] 21 [(0, .one (.d (.sl (List.map eI a0)))), (6, .one (.d (.int .u64 r97.2))), (26, .one (.d (.bool true)))]
          []
          (by simp only [EX, simprocAttr, Nat.blt, Nat.ble, hb94, hb103] <;> rfl)
        injection hE102 with hE102
        exact ⟨true, hE102, h⟩
      · rw [if_neg hb103] at hE102
        refine r_plain [] [none, none, none, some (some 23, false), some (some 23, false), none] [0, 6, 26] [] h rfl (by simp only [EX, simprocAttr, Nat.blt, Nat.ble, tz_4, tz_55, hb94, hb103] <;> rfl) fun ac wd h => ?_
        have h := h.same [0, 6, 26] [] 21 [(0, .one (.d (.sl (List.map eI a0)))), (6, .one (.d (.int .u64 r97.2))), (26, .one (.d (.bool (decide (r97.2 > 9223372036854775807)))))]
          []
          (by simp only [EX, simprocAttr, Nat.blt, Nat.ble, hb94, hb103] <;> rfl)
        injection hE102 with hE102
        exact ⟨decide (r97.2 > 9223372036854775807), hE102, h⟩
    · skip
      rintro ac wd ⟨b100, rfl, h⟩
      (try dsimp only at hD)
      by_cases hb105 : b100 = true
      · rw [if_pos hb105] at hD
        refine r_condT h b100 (by simp only [EX, simprocAttr, Nat.blt, Nat.ble, hb94, hb105] <;> rfl) (by first | rfl | (simp only [EX, simprocAttr, Nat.blt, Nat.ble, hb94, hb105] <;> rfl)) ?_
        cases hD
      · rw [if_neg hb105] at hD
        have hb105n := eq_false_of_ne_true hb105
        refine r_condF h b100 (by simp only [EX, simprocAttr, Nat.blt, Nat.ble, hb94, hb105n] <;> rfl) (by first | rfl | (simp only [EX, simprocAttr, Nat.blt, Nat.ble, hb94, hb105n] <;> rfl)) ?_
        refine wp_skip ?_
        change Code.wp Try.prog _ _ _ _
        by_cases ha109 : 0 ≤ (IntKind.wrap .i64 r97.2)
        case neg => rw [if_neg ha109] at hD; cases hD
        rw [if_pos ha109] at hD
        by_cases ha110 : 8 * ((IntKind.wrap .i64 r97.2).toNat) ≤ 140737488355328
        case neg => rw [if_neg ha110] at hD; cases hD
        rw [if_pos ha110] at hD
        by_cases ha111 : ((IntKind.wrap .i64 r97.2).toNat) ≤ 140737488355328
        case neg => rw [if_neg ha111] at hD; cases hD
        rw [if_pos ha111] at hD
        refine rs_plain 25 [] [none, none, none, none] [0, 7] [(23, 0)] h rfl rfl (by simp only [EX, simprocAttr, Nat.blt, Nat.ble, tz_3, tz_35, tz_55, hb94, hb105n, ha109, ha110, ha111] <;> rfl) fun ac wd h => ?_
        obtain ⟨v115, hv116, hD⟩ := Option.bind_eq_some_iff.1 hD
        injection hv116 with hv116
        have h := h.same [0, 7] [(23, 0)] 25 [(0, .one (.d (.sl (List.map eI a0)))), (7, .one (.own (23, 0) v115.length))]
          [((23, 0), some (.row 3 1 (dat (List.map eI v115))))]
          (by simp only [EX, simprocAttr, Nat.blt, Nat.ble, hb94, hb105n, ha109, ha110, ha111, dat_open, ← hv116] <;> rfl)
        have hl117 : ((a0.take v115.length) ++ v115.drop (a0.take v115.length).length).length = v115.length := by simp only [List.append_assoc, List.length_append, List.length_take, List.length_drop]; omega
        simp only [List.append_assoc, List.length_append, List.length_take, List.length_drop] at hl117
        refine rs_plain 29 [] [none, none, none, none] [7, 8] [(23, 0)] h rfl rfl (by simp only [EX, simprocAttr, Nat.blt, Nat.ble, tz_3, tz_35, hb94, hb105n, ha109, ha110, ha111] <;> rfl) fun ac wd h => ?_
        refine wp_seq ?_
        refine wp_block ?_
        have h := h.same [7, 8] [(23, 0)] 57 [(7, .one (.own (23, 0) ((a0.take v115.length) ++ v115.drop (a0.take v115.length).length).length)), (8, .one (.d (.int .i64 ((Nat.min a0.length v115.length : Nat) : Int))))]
          [((23, 0), some (.row 3 1 (dat (List.map eI ((a0.take v115.length) ++ v115.drop (a0.take v115.length).length)))))]
          (by simp only [EX, simprocAttr, Nat.blt, Nat.ble, hb94, hb105n, ha109, ha110, ha111, hl117] <;> rfl)
        refine r_while (fun nf ac wd => ∃ (n172 : Int) (l173 : List Int), L_slices_Repeat_int_int_l1 nf n172 l173 = some r ∧ SL ⟨wb, S, Φ, P0⟩ 48 57 [(7, .one (.own (23, 0) l173.length)), (8, .one (.d (.int .i64 n172)))] [((23, 0), some (.row 3 1 (dat (List.map eI l173))))] ac wd) (((((a0.take v115.length) ++ v115.drop (a0.take v115.length).length).length : Int) - ((Nat.min a0.length v115.length : Nat) : Int)).toNat + 1) ⟨((Nat.min a0.length v115.length : Nat) : Int), ((a0.take v115.length) ++ v115.drop (a0.take v115.length).length), hD, h⟩ (fun nf ac wd hJ => ?_)
        obtain ⟨n172, l173, hL174, h⟩ := hJ
        cases nf with
        | zero => rw [L_slices_Repeat_int_int_l1] at hL174; cases hL174
        | succ nf =>
          rw [L_slices_Repeat_int_int_l1] at hL174
          refine wp_seq ?_
          refine rs_plain 61 [] [none, none, none, none] [7, 8, 37] [(23, 0)] h rfl rfl (by simp only [EX, simprocAttr, Nat.blt, Nat.ble, tz_3, tz_4, tz_35, hb94, hb105n, ha109, ha110, ha111] <;> rfl) fun ac wd h => ?_
          by_cases hb176 : n172 < (l173.length : Int)
          · rw [if_pos hb176] at hL174
            refine r_condT h (decide (n172 < (l173.length : Int))) (by simp only [EX, simprocAttr, Nat.blt, Nat.ble, hb94, hb105n, ha109, ha110, ha111, hb176] <;> rfl) (by first | rfl | (simp only [EX, simprocAttr, Nat.blt, Nat.ble, hb94, hb105n, ha109, ha110, ha111, hb176] <;> rfl)) ?_
            refine wp_skip ?_
            change Code.wp Try.prog _ _ _ _
            refine wp_block ?_
            by_cases ha177 : 0 ≤ n172
            case neg => rw [if_neg ha177] at hL174; cases hL174
            rw [if_pos ha177] at hL174
            by_cases ha178 : n172 ≤ (l173.length : Int)
            case neg => rw [if_neg ha178] at hL174; cases hL174
            rw [if_pos ha178] at hL174
            have hq179 : n172.toNat + (l173.length - n172.toNat) ≤ l173.length := by omega
            have hq180 : ¬ l173.length = n172.toNat := by omega
            have hq181 : n172.toNat ≤ l173.length := by omega
            have hl182 : (l173.take n172.toNat ++ ((l173.take n172.toNat).take (((l173.drop n172.toNat).take (l173.length - n172.toNat)).length)) ++ l173.drop (n172.toNat + ((l173.take n172.toNat).take (((l173.drop n172.toNat).take (l173.length - n172.toNat)).length)).length)).length = l173.length := by simp only [List.append_assoc, List.length_append, List.length_take, List.length_drop]; omega
            simp only [List.append_assoc, List.length_append, List.length_take, List.length_drop] at hl182
            refine r_drawn ty_hm [] [none, none, none, none, none, none, none, none, none, none] [7, 8] [(23, 0)] h rfl (by simp only [EX, simprocAttr, Nat.blt, Nat.ble, tz_3, tz_35, hb94, hb105n, ha109, ha110, ha111, hb176, ha177, ha178, hq179, hq180, hq181] <;> rfl) (by kernel_rfl) fun ac wd h => ?_
            have h := h.same [7, 8] [(23, 0)] 57 [(7, .one (.own (23, 0) (l173.take n172.toNat ++ ((l173.take n172.toNat).take (((l173.drop n172.toNat).take (l173.length - n172.toNat)).length)) ++ l173.drop (n172.toNat + ((l173.take n172.toNat).take (((l173.drop n172.toNat).take (l173.length - n172.toNat)).length)).length)).length)), (8, .one (.d (.int .i64 (IntKind.wrap .i64 (n172 + ((Nat.min (l173.take n172.toNat).length (((l173.drop n172.toNat).take (l173.length - n172.toNat)).length) : Nat) : Int))))))]
              [((23, 0), some (.row 3 1 (dat (List.map eI (l173.take n172.toNat ++ ((l173.take n172.toNat).take (((l173.drop n172.toNat).take (l173.length - n172.toNat)).length)) ++ l173.drop (n172.toNat + ((l173.take n172.toNat).take (((l173.drop n172.toNat).take (l173.length - n172.toNat)).length)).length))))))]
              (by simp only [EX, simprocAttr, Nat.blt, Nat.ble, hb94, hb105n, ha109, ha110, ha111, hl117, hb176, ha177, ha178, hq179, hq180, hq181, hl182] <;> rfl)
            change ∃ n', _ ∧ _
            exact ⟨nf, Nat.lt_succ_self nf, (IntKind.wrap .i64 (n172 + ((Nat.min (l173.take n172.toNat).length (((l173.drop n172.toNat).take (l173.length - n172.toNat)).length) : Nat) : Int))), (l173.take n172.toNat ++ ((l173.take n172.toNat).take (((l173.drop n172.toNat).take (l173.length - n172.toNat)).length)) ++ l173.drop (n172.toNat + ((l173.take n172.toNat).take (((l173.drop n172.toNat).take (l173.length - n172.toNat)).length)).length)), hL174, h⟩
          · rw [if_neg hb176] at hL174
            refine r_condF h (decide (n172 < (l173.length : Int))) (by simp only [EX, simprocAttr, Nat.blt, Nat.ble, hb94, hb105n, ha109, ha110, ha111, hb176] <;> rfl) (by first | rfl | (simp only [EX, simprocAttr, Nat.blt, Nat.ble, hb94, hb105n, ha109, ha110, ha111, hb176] <;> rfl)) ?_
            refine wp_exit ?_
            change Code.wp Try.prog _ _ _ _
            refine rs_plain 63 [] [none, none] [4] [(23, 0)] h rfl rfl (by simp only [EX, simprocAttr, Nat.blt, Nat.ble, tz_3, tz_35, hb94, hb105n, ha109, ha110, ha111, hb176] <;> rfl) fun ac wd h => ?_
            refine wp_ret ?_
            have h := h.same [4] [(23, 0)] 63 [(4, .one (.own (23, 0) l173.length))]
              [((23, 0), some (.row 3 1 (dat (List.map eI l173))))]
              (by simp only [EX, simprocAttr, Nat.blt, Nat.ble, hb94, hb105n, ha109, ha110, ha111, hl117, hb176, dat_open] <;> rfl)
            have h := SL.swap h (1, 0) (23, 0) 63 (by decide) (by decide) (by simp only [EX, simprocAttr, Nat.blt, Nat.ble, hb94, hb105n, ha109, ha110, ha111, hl117, hb176, e_ren3, fren, mren, AV.ren, AObj.ren, Cell.ren, sumRen, Upd.ren, swp, csw, dat_ren, opn_ren] <;> rfl) (by simp only [EX, simprocAttr, Nat.blt, Nat.ble, hb94, hb105n, ha109, ha110, ha111, hl117, hb176, e_ren3, fren, mren, AV.ren, AObj.ren, Cell.ren, sumRen, Upd.ren, swp, csw, dat_ren, opn_ren] <;> rfl) (by simp only [EX, simprocAttr, Nat.blt, Nat.ble, hb94, hb105n, ha109, ha110, ha111, hl117, hb176, e_ren3, fren, mren, AV.ren, AObj.ren, Cell.ren, sumRen, Upd.ren, swp, csw, dat_ren, opn_ren] <;> rfl)
            have h := h.same [4] [(1, 0)] 63 [(4, .one (.own (1, 0) l173.length))]
              [((1, 0), some (.row 3 1 (dat (List.map eI l173))))]
              (by simp only [EX, simprocAttr, Nat.blt, Nat.ble, hb94, hb105n, ha109, ha110, ha111, hl117, hb176, dat_open] <;> rfl)
            injection hL174 with hL174
            subst hL174
            exact r_retO rfl h [.tmp 4] rfl [(1, 0)] (by simp only [retO, List.mapM_cons, List.mapM_nil, Option.bind_eq_bind, Option.pure_def, EX, simprocAttr, Nat.blt, Nat.ble, hb94, hb105n, ha109, ha110, ha111, hb176] <;> rfl)
theorem L_slices_Repeat_int_int_ok {a0 : (List Int)} {a1 : Int} {r : (List Int)} (hD : L_slices_Repeat_int_int a0 a1 = some r) :
    CallH Try.prog 33 [.one (.d (.sl (List.map eI a0))), .one (.d (.int .i64 a1))] []
      (.one (.d (.sl (List.map eI r)))) [] :=
  (L_slices_Repeat_int_int_own hD).frz (by simp only [EX, simprocAttr, Nat.blt, Nat.ble] <;> rfl) (by simp only [frzA, frzSum, EX, simprocAttr, Nat.blt, Nat.ble] <;> rfl) rfl

set_option maxRecDepth 20000 in
set_option maxHeartbeats 4000000 in
theorem L_graph_of_v1_own {a0 : TGraph} {a1 : Int} {r : (List Int)} (hD : L_graph_of_v1 a0 a1 = some r) :
    CallH Try.prog 32 [.agg [.d (.int .i64 a0.N), .d (.sl (List.map eA2I a0.Links))], .one (.d (.int .i64 a1)), .one (.d (.int .i64 0))] []
      (.one (.own (1, 0) r.length)) [((1, 0), some (.row 3 1 (dat (List.map eI r))))] := by
  unfold L_graph_of_v1 at hD
  refine r_call Try.func32 rfl Try.ntmps32 (by kernel_rfl) (by rfl) (by simp only [shutB, EX, simprocAttr, Nat.blt, Nat.ble] <;> rfl) (by simp) fun S Φ P0 wb ac h => ?_
  refine rs_plain 3 [] [none, none] [1, 2, 3] [(1, 0)] h rfl rfl (by simp only [EX, simprocAttr, Nat.blt, Nat.ble, tz_3, tz_24, tz_35] <;> rfl) fun ac wd h => ?_
  refine rs_plain 4 [] [none] [1, 2, 3, 7] [(1, 0)] h rfl rfl (by simp only [EX, simprocAttr, Nat.blt, Nat.ble, tz_3, tz_35] <;> rfl) fun ac wd h => ?_
  refine wp_seq ?_
  refine rs_plain 8 [] [none, none, none, none] [1, 2, 7, 11, 12, 13] [] h rfl rfl (by simp only [EX, simprocAttr, Nat.blt, Nat.ble, tz_3, tz_22, tz_24, tz_43] <;> rfl) fun ac wd h => ?_
  refine wp_block ?_
  have h := SL.bornS h 7 3 1 (by simp only [EX, simprocAttr, Nat.blt, Nat.ble] <;> rfl)
  have h := h.same [1, 2, 7, 11, 12, 13] [(8, 0)] 46 [(1, .one (.d (.int .i64 a1))), (2, .one (.d (.int .i64 0))), (7, .one (.own (8, 0) ([] : List Int).length)), (11, .one (.d (.sl (List.map eA2I a0.Links)))), (12, .one (.d (.int .i64 (a0.Links.length : Int)))), (13, .one (.d (.int .i64 0)))]
    [((8, 0), some (.row 3 1 (dat (List.map eI ([] : List Int)))))]
    (by simp only [EX, simprocAttr, Nat.blt, Nat.ble] <;> rfl)
  refine r_while (fun nf ac wd => ∃ (n197 : Int) (l198 : List Int), L_graph_of_v1_l1 a0 a1 nf n197 l198 = some r ∧ SL ⟨wb, S, Φ, P0⟩ 29 46 [(1, .one (.d (.int .i64 a1))), (2, .one (.d (.int .i64 0))), (7, .one (.own (8, 0) l198.length)), (11, .one (.d (.sl (List.map eA2I a0.Links)))), (12, .one (.d (.int .i64 (a0.Links.length : Int)))), (13, .one (.d (.int .i64 n197)))] [((8, 0), some (.row 3 1 (dat (List.map eI l198))))] ac wd) (((a0.Links.length : Int) - 0).toNat + 1) ⟨0, ([] : List Int), hD, h⟩ (fun nf ac wd hJ => ?_)
  obtain ⟨n197, l198, hL199, h⟩ := hJ
  cases nf with
  | zero => rw [L_graph_of_v1_l1] at hL199; cases hL199
  | succ nf =>
    rw [L_graph_of_v1_l1] at hL199
    refine rs_plain 47 [] [none] [1, 2, 7, 11, 12, 13, 14] [(8, 0)] h rfl rfl (by simp only [EX, simprocAttr, Nat.blt, Nat.ble, tz_3] <;> rfl) fun ac wd h => ?_
    refine wp_seq ?_
    by_cases hb201 : n197 < (a0.Links.length : Int)
    · rw [if_pos hb201] at hL199
      refine r_condT h (decide (n197 < (a0.Links.length : Int))) (by simp only [EX, simprocAttr, Nat.blt, Nat.ble, hb201] <;> rfl) (by first | rfl | (simp only [EX, simprocAttr, Nat.blt, Nat.ble, hb201] <;> rfl)) ?_
      refine wp_skip ?_
      change Code.wp Try.prog _ _ _ _
      obtain ⟨e209, hE210, hL199⟩ := Option.bind_eq_some_iff.1 hL199
      refine r_seqJ (fun ac wd => ∃ (l208 : List Int), l208 = e209 ∧ SL ⟨wb, S, Φ, P0⟩ 29 63 [(1, .one (.d (.int .i64 a1))), (2, .one (.d (.int .i64 0))), (7, .one (.own (61, 0) l208.length)), (11, .one (.d (.sl (List.map eA2I a0.Links)))), (12, .one (.d (.int .i64 (a0.Links.length : Int)))), (13, .one (.d (.int .i64 n197)))] [((61, 0), some (.row 3 1 (dat (List.map eI l208))))] ac wd) ?_ ?_
      · skip
        refine wp_block ?_
        obtain ⟨x213, hx214, hE210⟩ := Option.bind_eq_some_iff.1 hE210
        obtain ⟨hx214a, hx214b, hx214c⟩ := at_some hx214
        have hx214d := (List.getElem?_eq_some_iff.1 hx214b).1
        refine rs_plain 53 [] [none, none, none, none, none, none] [1, 2, 7, 8, 9, 11, 12, 13] [(8, 0), (50, 0)] h rfl rfl (by simp only [EX, simprocAttr, Nat.blt, Nat.ble, tz_3, tz_22, tz_43, hb201, hx214a, hx214b, hx214c, hx214d] <;> rfl) fun ac wd h => ?_
        refine rs_plain 58 [] [none, none, none, none, none] [1, 2, 7, 8, 11, 12, 13, 22] [(8, 0)] h rfl rfl (by simp only [EX, simprocAttr, Nat.blt, Nat.ble, tz_3, tz_4, tz_43, hb201] <;> rfl) fun ac wd h => ?_
        by_cases hb215 : x213.a0 = a1
        · rw [if_pos hb215] at hE210
          have hb215t := eq_true hb215
          refine r_condT h (decide (x213.a0 = a1)) (by simp only [EX, simprocAttr, Nat.blt, Nat.ble, hb201, hb215t] <;> rfl) (by first | rfl | (simp only [EX, simprocAttr, Nat.blt, Nat.ble, hb201, hb215t] <;> rfl)) ?_
          by_cases ha216 : (l198.length + 1) * 8 ≤ 140737488355328
          case neg => rw [if_neg ha216] at hE210; cases hE210
          rw [if_pos ha216] at hE210
          refine r_plain [] [none, none, none, none, none] [1, 2, 7, 11, 12, 13] [(61, 0)] h rfl (by simp only [EX, simprocAttr, Nat.blt, Nat.ble, tz_3, tz_35, hb201, hb215t, ha216] <;> rfl) fun ac wd h => ?_
          have h := h.same [1, 2, 7, 11, 12, 13] [(61, 0)] 63 [(1, .one (.d (.int .i64 a1))), (2, .one (.d (.int .i64 0))), (7, .one (.own (61, 0) (l198 ++ [n197]).length)), (11, .one (.d (.sl (List.map eA2I a0.Links)))), (12, .one (.d (.int .i64 (a0.Links.length : Int)))), (13, .one (.d (.int .i64 n197)))]
            [((61, 0), some (.row 3 1 (dat (List.map eI (l198 ++ [n197])))))]
            (by simp only [EX, simprocAttr, Nat.blt, Nat.ble, hb201, hx214a, hx214b, hx214c, hx214d, hb215t, ha216] <;> rfl)
          injection hE210 with hE210
          exact ⟨(l198 ++ [n197]), hE210, h⟩
        · rw [if_neg hb215] at hE210
          refine r_condF h (decide (x213.a0 = a1)) (by simp only [EX, simprocAttr, Nat.blt, Nat.ble, hb201, hb215] <;> rfl) (by first | rfl | (simp only [EX, simprocAttr, Nat.blt, Nat.ble, hb201, hb215] <;> rfl)) ?_
          refine wp_skip ?_
          have h := SL.swap h (61, 0) (8, 0) 63 (by decide) (by decide) (by simp only [EX, simprocAttr, Nat.blt, Nat.ble, hb201, hx214a, hx214b, hx214c, hx214d, hb215, e_ren3, fren, mren, AV.ren, AObj.ren, Cell.ren, sumRen, Upd.ren, swp, csw, dat_ren, opn_ren] <;> rfl) (by simp only [EX, simprocAttr, Nat.blt, Nat.ble, hb201, hx214a, hx214b, hx214c, hx214d, hb215, e_ren3, fren, mren, AV.ren, AObj.ren, Cell.ren, sumRen, Upd.ren, swp, csw, dat_ren, opn_ren] <;> rfl) (by simp only [EX, simprocAttr, Nat.blt, Nat.ble, hb201, hx214a, hx214b, hx214c, hx214d, hb215, e_ren3, fren, mren, AV.ren, AObj.ren, Cell.ren, sumRen, Upd.ren, swp, csw, dat_ren, opn_ren] <;> rfl)
          have h := h.same [1, 2, 7, 11, 12, 13] [(61, 0)] 63 [(1, .one (.d (.int .i64 a1))), (2, .one (.d (.int .i64 0))), (7, .one (.own (61, 0) l198.length)), (11, .one (.d (.sl (List.map eA2I a0.Links)))), (12, .one (.d (.int .i64 (a0.Links.length : Int)))), (13, .one (.d (.int .i64 n197)))]
            [((61, 0), some (.row 3 1 (dat (List.map eI l198))))]
            (by simp only [EX, simprocAttr, Nat.blt, Nat.ble, hb201, hx214a, hx214b, hx214c, hx214d, hb215] <;> rfl)
          injection hE210 with hE210
          exact ⟨l198, hE210, h⟩
      · skip
        rintro ac wd ⟨l208, rfl, h⟩
        (try dsimp only at hL199)
        refine r_plain [] [none, none] [1, 2, 7, 11, 12, 13] [(61, 0)] h rfl (by simp only [EX, simprocAttr, Nat.blt, Nat.ble, tz_3, hb201] <;> rfl) fun ac wd h => ?_
        have h := SL.swap h (8, 0) (61, 0) 65 (by decide) (by decide) (by simp only [EX, simprocAttr, Nat.blt, Nat.ble, hb201, e_ren3, fren, mren, AV.ren, AObj.ren, Cell.ren, sumRen, Upd.ren, swp, csw, dat_ren, opn_ren] <;> rfl) (by simp only [EX, simprocAttr, Nat.blt, Nat.ble, hb201, e_ren3, fren, mren, AV.ren, AObj.ren, Cell.ren, sumRen, Upd.ren, swp, csw, dat_ren, opn_ren] <;> rfl) (by simp only [EX, simprocAttr, Nat.blt, Nat.ble, hb201, e_ren3, fren, mren, AV.ren, AObj.ren, Cell.ren, sumRen, Upd.ren, swp, csw, dat_ren, opn_ren] <;> rfl)
        have h := h.same [1, 2, 7, 11, 12, 13] [(8, 0)] 46 [(1, .one (.d (.int .i64 a1))), (2, .one (.d (.int .i64 0))), (7, .one (.own (8, 0) l208.length)), (11, .one (.d (.sl (List.map eA2I a0.Links)))), (12, .one (.d (.int .i64 (a0.Links.length : Int)))), (13, .one (.d (.int .i64 (IntKind.wrap .i64 (n197 + 1)))))]
          [((8, 0), some (.row 3 1 (dat (List.map eI l208))))]
          (by simp only [EX, simprocAttr, Nat.blt, Nat.ble, hb201] <;> rfl)
        change ∃ n', _ ∧ _
        exact ⟨nf, Nat.lt_succ_self nf, (IntKind.wrap .i64 (n197 + 1)), l208, hL199, h⟩
    · rw [if_neg hb201] at hL199
      refine r_condF h (decide (n197 < (a0.Links.length : Int))) (by simp only [EX, simprocAttr, Nat.blt, Nat.ble, hb201] <;> rfl) (by first | rfl | (simp only [EX, simprocAttr, Nat.blt, Nat.ble, hb201] <;> rfl)) ?_
      refine wp_exit ?_
      change Code.wp Try.prog _ _ _ _
      refine rs_plain 49 [] [none, none] [6] [(8, 0)] h rfl rfl (by simp only [EX, simprocAttr, Nat.blt, Nat.ble, tz_3, tz_35, hb201] <;> rfl) fun ac wd h => ?_
      refine wp_ret ?_
      have h := h.same [6] [(8, 0)] 49 [(6, .one (.own (8, 0) l198.length))]
        [((8, 0), some (.row 3 1 (dat (List.map eI l198))))]
        (by simp only [EX, simprocAttr, Nat.blt, Nat.ble, hb201, dat_open] <;> rfl)
      have h := SL.swap h (1, 0) (8, 0) 49 (by decide) (by decide) (by simp only [EX, simprocAttr, Nat.blt, Nat.ble, hb201, e_ren3, fren, mren, AV.ren, AObj.ren, Cell.ren, sumRen, Upd.ren, swp, csw, dat_ren, opn_ren] <;> rfl) (by simp only [EX, simprocAttr, Nat.blt, Nat.ble, hb201, e_ren3, fren, mren, AV.ren, AObj.ren, Cell.ren, sumRen, Upd.ren, swp, csw, dat_ren, opn_ren] <;> rfl) (by simp only [EX, simprocAttr, Nat.blt, Nat.ble, hb201, e_ren3, fren, mren, AV.ren, AObj.ren, Cell.ren, sumRen, Upd.ren, swp, csw, dat_ren, opn_ren] <;> rfl)
      have h := h.same [6] [(1, 0)] 49 [(6, .one (.own (1, 0) l198.length))]
        [((1, 0), some (.row 3 1 (dat (List.map eI l198))))]
        (by simp only [EX, simprocAttr, Nat.blt, Nat.ble, hb201, dat_open] <;> rfl)
      injection hL199 with hL199
      subst hL199
      exact r_retO rfl h [.tmp 6] rfl [(1, 0)] (by simp only [retO, List.mapM_cons, List.mapM_nil, Option.bind_eq_bind, Option.pure_def, EX, simprocAttr, Nat.blt, Nat.ble, hb201] <;> rfl)
theorem L_graph_of_v1_ok {a0 : TGraph} {a1 : Int} {r : (List Int)} (hD : L_graph_of_v1 a0 a1 = some r) :
    CallH Try.prog 32 [.agg [.d (.int .i64 a0.N), .d (.sl (List.map eA2I a0.Links))], .one (.d (.int .i64 a1)), .one (.d (.int .i64 0))] []
      (.one (.d (.sl (List.map eI r)))) [] :=
  (L_graph_of_v1_own hD).frz (by simp only [EX, simprocAttr, Nat.blt, Nat.ble] <;> rfl) (by simp only [frzA, frzSum, EX, simprocAttr, Nat.blt, Nat.ble] <;> rfl) rfl

set_option maxRecDepth 20000 in
set_option maxHeartbeats 4000000 in
theorem L_graph_Out_own {a0 : TGraph} {a1 : Int} {r : (List Int)} (hD : L_graph_Out a0 a1 = some r) :
    CallH Try.prog 19 [.agg [.d (.int .i64 a0.N), .d (.sl (List.map eA2I a0.Links))], .one (.d (.int .i64 a1))] []
      (.one (.own (1, 0) r.length)) [((1, 0), some (.row 3 1 (dat (List.map eI r))))] := by
  unfold L_graph_Out at hD
  refine r_call Try.func19 rfl Try.ntmps19 (by kernel_rfl) (by rfl) (by simp only [shutB, EX, simprocAttr, Nat.blt, Nat.ble] <;> rfl) (by simp) fun S Φ P0 wb ac h => ?_
  refine rs_plain 3 [] [none, none] [1, 2] [(1, 0)] h rfl rfl (by simp only [EX, simprocAttr, Nat.blt, Nat.ble, tz_3, tz_24, tz_35] <;> rfl) fun ac wd h => ?_
  obtain ⟨r7, hc8, hD⟩ := Option.bind_eq_some_iff.1 hD
  have hc8_5 : CallH Try.prog 32 [.agg [.d (.int .i64 a0.N), .d (.sl (List.map eA2I a0.Links))], .one (.d (.int .i64 a1)), .one (.d (.int .i64 0))] [] (.one (.own (5, 0) r7.length)) [((5, 0), some (.row 3 1 (dat (List.map eI r7))))] := ((L_graph_of_v1_own hc8).cls 5).as (by simp only [EX, simprocAttr, Nat.blt, Nat.ble, e_ren3, fren, mren, AV.ren, AObj.ren, Cell.ren, sumRen, Upd.ren, swp, csw, dat_ren, opn_ren] <;> rfl)
  refine rs_plain 7 [factO hc8_5] [none, none, none, none] [4] [(5, 0)] h rfl rfl (by simp only [EX, simprocAttr, Nat.blt, Nat.ble, tz_3, tz_24, tz_35] <;> rfl) fun ac wd h => ?_
  refine wp_ret ?_
  have h := h.same [4] [(5, 0)] 7 [(4, .one (.own (5, 0) r7.length))]
    [((5, 0), some (.row 3 1 (dat (List.map eI r7))))]
    (by simp only [EX, simprocAttr, Nat.blt, Nat.ble, dat_open] <;> rfl)
  have h := SL.swap h (1, 0) (5, 0) 7 (by decide) (by decide) (by simp only [EX, simprocAttr, Nat.blt, Nat.ble, e_ren3, fren, mren, AV.ren, AObj.ren, Cell.ren, sumRen, Upd.ren, swp, csw, dat_ren, opn_ren] <;> rfl) (by simp only [EX, simprocAttr, Nat.blt, Nat.ble, e_ren3, fren, mren, AV.ren, AObj.ren, Cell.ren, sumRen, Upd.ren, swp, csw, dat_ren, opn_ren] <;> rfl) (by simp only [EX, simprocAttr, Nat.blt, Nat.ble, e_ren3, fren, mren, AV.ren, AObj.ren, Cell.ren, sumRen, Upd.ren, swp, csw, dat_ren, opn_ren] <;> rfl)
  have h := h.same [4] [(1, 0)] 7 [(4, .one (.own (1, 0) r7.length))]
    [((1, 0), some (.row 3 1 (dat (List.map eI r7))))]
    (by simp only [EX, simprocAttr, Nat.blt, Nat.ble, dat_open] <;> rfl)
  injection hD with hD
  subst hD
  exact r_retO rfl h [.tmp 4] rfl [(1, 0)] (by simp only [retO, List.mapM_cons, List.mapM_nil, Option.bind_eq_bind, Option.pure_def, EX, simprocAttr, Nat.blt, Nat.ble] <;> rfl)
theorem L_graph_Out_ok {a0 : TGraph} {a1 : Int} {r : (List Int)} (hD : L_graph_Out a0 a1 = some r) :
    CallH Try.prog 19 [.agg [.d (.int .i64 a0.N), .d (.sl (List.map eA2I a0.Links))], .one (.d (.int .i64 a1))] []
      (.one (.d (.sl (List.map eI r)))) [] :=
  (L_graph_Out_own hD).frz (by simp only [EX, simprocAttr, Nat.blt, Nat.ble] <;> rfl) (by simp only [frzA, frzSum, EX, simprocAttr, Nat.blt, Nat.ble] <;> rfl) rfl

set_option maxRecDepth 20000 in
set_option maxHeartbeats 4000000 in
theorem L_graph_Dist_own {a0 : TGraph} {a1 : Int} {r : (List Int)} (hD : L_graph_Dist a0 a1 = some r) :
    CallH Try.prog 27 [.agg [.d (.int .i64 a0.N), .d (.sl (List.map eA2I a0.Links))], .one (.d (.int .i64 a1))] []
      (.one (.own (1, 0) r.length)) [((1, 0), some (.row 3 1 (dat (List.map eI r))))] := by
  unfold L_graph_Dist at hD
  refine r_call Try.func27 rfl Try.ntmps27 (by kernel_rfl) (by rfl) (by simp only [shutB, EX, simprocAttr, Nat.blt, Nat.ble] <;> rfl) (by simp) fun S Φ P0 wb ac h => ?_
  refine rs_plain 3 [] [none, none] [1, 2] [(1, 0)] h rfl rfl (by simp only [EX, simprocAttr, Nat.blt, Nat.ble, tz_3, tz_24, tz_35] <;> rfl) fun ac wd h => ?_
  refine wp_scope_straight ?_
  refine wp_seq ?_
  obtain ⟨r920, hc921, hD⟩ := Option.bind_eq_some_iff.1 hD
  have hc921k := L_graph_Graph_node_ok hc921
  refine rs_plain 7 [factE 5 hc921k] [none, none, none, none] [1, 2, 14] [(1, 0)] h rfl rfl (by simp only [EX, simprocAttr, Nat.blt, Nat.ble, tz_3, tz_4, tz_24] <;> rfl) fun ac wd h => ?_
  by_cases hb923 : r920 = true
  · rw [if_pos hb923] at hD
    refine r_condF h (!(r920)) (by simp only [EX, simprocAttr, Nat.blt, Nat.ble, hb923] <;> rfl) (by first | rfl | (simp only [EX, simprocAttr, Nat.blt, Nat.ble, hb923] <;> rfl)) ?_
    refine wp_skip ?_
    change Code.wp Try.prog _ _ _ _
    obtain ⟨r926, hc927, hD⟩ := Option.bind_eq_some_iff.1 hD
    have hc927_10 : CallH Try.prog 33 [.one (.d (.sl (List.map eI [(-1)]))), .one (.d (.int .i64 a0.N))] [] (.one (.own (10, 0) r926.length)) [((10, 0), some (.row 3 1 (dat (List.map eI r926))))] := ((L_slices_Repeat_int_int_own hc927).cls 10).as (by simp only [EX, simprocAttr, Nat.blt, Nat.ble, e_ren3, fren, mren, AV.ren, AObj.ren, Cell.ren, sumRen, Upd.ren, swp, csw, dat_ren, opn_ren] <;> rfl)
    refine rs_plain 12 [factO hc927_10] [none, none, none, none, none] [1, 2, 5] [(1, 0), (10, 0)] h rfl rfl (by simp only [EX, simprocAttr, Nat.blt, Nat.ble, tz_3, tz_24, tz_35, hb923] <;> rfl) fun ac wd h => ?_
    obtain ⟨x930, hx931, hD⟩ := Option.bind_eq_some_iff.1 hD
    obtain ⟨hx931a, hx931b, hx931c⟩ := at_some hx931
    have hx931d := (List.getElem?_eq_some_iff.1 hx931b).1
    refine rs_plain 16 [] [none, none, none, none] [1, 2, 5] [(1, 0), (10, 0)] h rfl rfl (by simp only [EX, simprocAttr, Nat.blt, Nat.ble, tz_3, tz_35, hb923, hx931a, hx931b, hx931c, hx931d] <;> rfl) fun ac wd h => ?_
    refine rs_plain 19 [] [none, none, none] [2, 5, 6] [(1, 0), (10, 0), (17, 0)] h rfl rfl (by simp only [EX, simprocAttr, Nat.blt, Nat.ble, tz_3, tz_35, hb923] <;> rfl) fun ac wd h => ?_
    refine wp_seq ?_
    refine wp_label ?_
    change Code.wp Try.prog _ _ _ _
    refine wp_seq ?_
    refine wp_block ?_
    have h := h.same [2, 5, 6] [(1, 0), (10, 0), (17, 0)] 179 [(2, .one (.ptr (1, 0) 0)), (5, .one (.own (10, 0) (r926.set a1.toNat 0).length)), (6, .one (.own (17, 0) [a1].length))]
      [((1, 0), some (.box 24 [.d (.int .i64 a0.N), .d (.sl (List.map eA2I a0.Links))])), ((10, 0), some (.row 3 1 (dat (List.map eI (r926.set a1.toNat 0))))), ((17, 0), some (.row 3 1 (dat (List.map eI [a1]))))]
      (by simp only [EX, simprocAttr, Nat.blt, Nat.ble, hb923, hx931a, hx931b, hx931c, hx931d] <;> rfl)
    refine r_while (fun nf ac wd => ∃ (l1684 : List Int) (l1685 : List Int), L_graph_Dist_l1 a0 nf l1684 l1685 = some r ∧ SL ⟨wb, S, Φ, P0⟩ 65 179 [(2, .one (.ptr (1, 0) 0)), (5, .one (.own (10, 0) l1684.length)), (6, .one (.own (17, 0) l1685.length))] [((1, 0), some (.box 24 [.d (.int .i64 a0.N), .d (.sl (List.map eA2I a0.Links))])), ((10, 0), some (.row 3 1 (dat (List.map eI l1684)))), ((17, 0), some (.row 3 1 (dat (List.map eI l1685))))] ac wd) (a0.N.toNat + 2) ⟨(r926.set a1.toNat 0), [a1], hD, h⟩ (fun nf ac wd hJ => ?_)
    obtain ⟨l1684, l1685, hL1686, h⟩ := hJ
    cases nf with
    | zero => rw [L_graph_Dist_l1] at hL1686; cases hL1686
    | succ nf =>
      rw [L_graph_Dist_l1] at hL1686
      refine wp_block ?_
      refine wp_seq ?_
      refine rs_plain 182 [] [none, none, none] [2, 5, 6, 26] [(1, 0), (10, 0), (17, 0)] h rfl rfl (by simp only [EX, simprocAttr, Nat.blt, Nat.ble, tz_3, tz_4, tz_35, hb923] <;> rfl) fun ac wd h => ?_
      by_cases hb1688 : (l1685.length : Int) = 0
      · rw [if_pos hb1688] at hL1686
        have hb1688t := eq_true hb1688
        refine r_condT h (decide ((l1685.length : Int) = 0)) (by simp only [EX, simprocAttr, Nat.blt, Nat.ble, hb923, hb1688t] <;> rfl) (by first | rfl | (simp only [EX, simprocAttr, Nat.blt, Nat.ble, hb923, hb1688t] <;> rfl)) ?_
        refine wp_exit ?_
        change Code.wp Try.prog _ _ _ _
        refine rs_plain 184 [] [none, none] [4] [(10, 0)] h rfl rfl (by simp only [EX, simprocAttr, Nat.blt, Nat.ble, tz_3, tz_35, hb923, hb1688t] <;> rfl) fun ac wd h => ?_
        refine wp_ret ?_
        have h := h.same [4] [(10, 0)] 184 [(4, .one (.own (10, 0) l1684.length))]
          [((10, 0), some (.row 3 1 (dat (List.map eI l1684))))]
          (by simp only [EX, simprocAttr, Nat.blt, Nat.ble, hb923, hx931a, hx931b, hx931c, hx931d, hb1688t, dat_open] <;> rfl)
        have h := SL.swap h (1, 0) (10, 0) 184 (by decide) (by decide) (by simp only [EX, simprocAttr, Nat.blt, Nat.ble, hb923, hx931a, hx931b, hx931c, hx931d, hb1688t, e_ren3, fren, mren, AV.ren, AObj.ren, Cell.ren, sumRen, Upd.ren, swp, csw, dat_ren, opn_ren] <;> rfl) (by simp only [EX, simprocAttr, Nat.blt, Nat.ble, hb923, hx931a, hx931b, hx931c, hx931d, hb1688t, e_ren3, fren, mren, AV.ren, AObj.ren, Cell.ren, sumRen, Upd.ren, swp, csw, dat_ren, opn_ren] <;> rfl) (by simp only [EX, simprocAttr, Nat.blt, Nat.ble, hb923, hx931a, hx931b, hx931c, hx931d, hb1688t, e_ren3, fren, mren, AV.ren, AObj.ren, Cell.ren, sumRen, Upd.ren, swp, csw, dat_ren, opn_ren] <;> rfl)
        have h := h.same [4] [(1, 0)] 184 [(4, .one (.own (1, 0) l1684.length))]
          [((1, 0), some (.row 3 1 (dat (List.map eI l1684))))]
          (by simp only [EX, simprocAttr, Nat.blt, Nat.ble, hb923, hx931a, hx931b, hx931c, hx931d, hb1688t, dat_open] <;> rfl)
        injection hL1686 with hL1686
        subst hL1686
        exact r_retO rfl h [.tmp 4] rfl [(1, 0)] (by simp only [retO, List.mapM_cons, List.mapM_nil, Option.bind_eq_bind, Option.pure_def, EX, simprocAttr, Nat.blt, Nat.ble, hb923, hb1688t] <;> rfl)
      · rw [if_neg hb1688] at hL1686
        refine r_condF h (decide ((l1685.length : Int) = 0)) (by simp only [EX, simprocAttr, Nat.blt, Nat.ble, hb923, hb1688] <;> rfl) (by first | rfl | (simp only [EX, simprocAttr, Nat.blt, Nat.ble, hb923, hb1688] <;> rfl)) ?_
        refine wp_skip ?_
        change Code.wp Try.prog _ _ _ _
        obtain ⟨x1691, hx1692, hL1686⟩ := Option.bind_eq_some_iff.1 hL1686
        obtain ⟨hx1692a, hx1692b, hx1692c⟩ := at_some hx1692
        replace hx1692b : l1685[0]? = some x1691 := hx1692b
        have hx1692d := (List.getElem?_eq_some_iff.1 hx1692b).1
        refine rs_plain 186 [] [none, none, none, none] [2, 5, 6, 7] [(1, 0), (10, 0), (17, 0)] h rfl rfl (by simp only [EX, simprocAttr, Nat.blt, Nat.ble, tz_3, tz_35, hb923, hb1688, hx1692a, hx1692b, hx1692c, hx1692d] <;> rfl) fun ac wd h => ?_
        by_cases ha1695 : 1 ≤ (l1685.length : Int)
        case neg => rw [if_neg ha1695] at hL1686; cases hL1686
        rw [if_pos ha1695] at hL1686
        have hq1696 : 1 + (l1685.length - 1) ≤ l1685.length := by omega
        refine rs_plain 189 [] [none, none, none] [2, 5, 6, 7] [(1, 0), (10, 0), (17, 0)] h rfl rfl (by simp only [EX, simprocAttr, Nat.blt, Nat.ble, tz_3, tz_35, hb923, hb1688, ha1695, hq1696] <;> rfl) fun ac wd h => ?_
        obtain ⟨r1699, hc1700, hL1686⟩ := Option.bind_eq_some_iff.1 hL1686
        have hc1700k := L_graph_Out_ok hc1700
        refine rs_plain 194 [factE 191 hc1700k] [none, none, none, none, none] [2, 5, 6, 7, 34, 35, 36] [(1, 0), (10, 0), (17, 0)] h rfl rfl (by simp only [EX, simprocAttr, Nat.blt, Nat.ble, tz_3, tz_24, tz_35, hb923, hb1688, ha1695, hq1696] <;> rfl) fun ac wd h => ?_
        obtain ⟨e1835, hE1836, hL1686⟩ := Option.bind_eq_some_iff.1 hL1686
        refine r_meetQ (fun ac wd => ∃ (l1833 : List Int) (l1834 : List Int), (l1833, l1834) = e1835 ∧ SL ⟨wb, S, Φ, P0⟩ 65 259 [(2, .one (.ptr (1, 0) 0)), (5, .one (.own (10, 0) l1833.length)), (6, .one (.own (17, 0) l1834.length))] [((1, 0), some (.box 24 [.d (.int .i64 a0.N), .d (.sl (List.map eA2I a0.Links))])), ((10, 0), some (.row 3 1 (dat (List.map eI l1833)))), ((17, 0), some (.row 3 1 (dat (List.map eI l1834))))] ac wd) ?_ ?_
        · skip
          refine wp_block ?_
          have h := h.same [2, 5, 6, 7, 34, 35, 36] [(1, 0), (10, 0), (17, 0)] 194 [(2, .one (.ptr (1, 0) 0)), (5, .one (.own (10, 0) l1684.length)), (6, .one (.sub (17, 0) 1 1 (l1685.length - 1))), (7, .one (.d (.int .i64 x1691))), (34, .one (.d (.sl (List.map eI r1699)))), (35, .one (.d (.int .i64 (r1699.length : Int)))), (36, .one (.d (.int .i64 0)))]
            [((1, 0), some (.box 24 [.d (.int .i64 a0.N), .d (.sl (List.map eA2I a0.Links))])), ((10, 0), some (.row 3 1 (dat (List.map eI l1684)))), ((17, 0), some (.row 3 1 (dat (List.map eI l1685))))]
            (by simp only [EX, simprocAttr, Nat.blt, Nat.ble, hb923, hx931a, hx931b, hx931c, hx931d, hb1688, hx1692a, hx1692b, hx1692c, hx1692d, ha1695, hq1696, dat_open] <;> rfl)
          have h := SL.tail h 6 (17, 0) (by simp only [EX, simprocAttr, Nat.blt, Nat.ble, hb923, hx931a, hx931b, hx931c, hx931d, hb1688, hx1692a, hx1692b, hx1692c, hx1692d, ha1695, hq1696] <;> rfl) (by simp only [EX, simprocAttr, Nat.blt, Nat.ble, hb923, hx931a, hx931b, hx931c, hx931d, hb1688, hx1692a, hx1692b, hx1692c, hx1692d, ha1695, hq1696] <;> rfl) (by simp only [EX, simprocAttr, Nat.blt, Nat.ble, hb923, hx931a, hx931b, hx931c, hx931d, hb1688, hx1692a, hx1692b, hx1692c, hx1692d, ha1695, hq1696] <;> omega) rfl (by simp only [noIdF, EX, simprocAttr, Nat.blt, Nat.ble, hb923, hx931a, hx931b, hx931c, hx931d, hb1688, hx1692a, hx1692b, hx1692c, hx1692d, ha1695, hq1696] <;> rfl) (by simp only [noIdM, EX, simprocAttr, Nat.blt, Nat.ble, hb923, hx931a, hx931b, hx931c, hx931d, hb1688, hx1692a, hx1692b, hx1692c, hx1692d, ha1695, hq1696] <;> rfl)
          have h := h.same [2, 5, 6, 7, 34, 35, 36] [(1, 0), (10, 0), (17, 0)] 258 [(2, .one (.ptr (1, 0) 0)), (5, .one (.own (10, 0) l1684.length)), (6, .one (.own (17, 0) (l1685.drop 1).length)), (7, .one (.d (.int .i64 x1691))), (34, .one (.d (.sl (List.map eI r1699)))), (35, .one (.d (.int .i64 (r1699.length : Int)))), (36, .one (.d (.int .i64 0)))]
            [((1, 0), some (.box 24 [.d (.int .i64 a0.N), .d (.sl (List.map eA2I a0.Links))])), ((10, 0), some (.row 3 1 (dat (List.map eI l1684)))), ((17, 0), some (.row 3 1 (dat (List.map eI (l1685.drop 1)))))]
            (by simp only [EX, simprocAttr, Nat.blt, Nat.ble, hb923, hx931a, hx931b, hx931c, hx931d, hb1688, hx1692a, hx1692b, hx1692c, hx1692d, ha1695, hq1696] <;> rfl)
          refine r_while (fun nf ac wd => ∃ (n1924 : Int) (l1925 : List Int) (l1926 : List Int), L_graph_Dist_l2 a0 r1699 x1691 nf n1924 l1925 l1926 = some e1835 ∧ SL ⟨wb, S, Φ, P0⟩ 65 258 [(2, .one (.ptr (1, 0) 0)), (5, .one (.own (10, 0) l1925.length)), (6, .one (.own (17, 0) l1926.length)), (7, .one (.d (.int .i64 x1691))), (34, .one (.d (.sl (List.map eI r1699)))), (35, .one (.d (.int .i64 (r1699.length : Int)))), (36, .one (.d (.int .i64 n1924)))] [((1, 0), some (.box 24 [.d (.int .i64 a0.N), .d (.sl (List.map eA2I a0.Links))])), ((10, 0), some (.row 3 1 (dat (List.map eI l1925)))), ((17, 0), some (.row 3 1 (dat (List.map eI l1926))))] ac wd) (((r1699.length : Int) - 0).toNat + 1) ⟨0, l1684, (l1685.drop 1), hE1836, h⟩ (fun nf ac wd hJ => ?_)
          obtain ⟨n1924, l1925, l1926, hL1927, h⟩ := hJ
          cases nf with
          | zero => rw [L_graph_Dist_l2] at hL1927; cases hL1927
          | succ nf =>
            rw [L_graph_Dist_l2] at hL1927
            refine rs_plain 259 [] [none] [2, 5, 6, 7, 34, 35, 36, 37] [(1, 0), (10, 0), (17, 0)] h rfl rfl (by simp only [EX, simprocAttr, Nat.blt, Nat.ble, tz_3, hb923, hb1688, ha1695, hq1696] <;> rfl) fun ac wd h => ?_
            refine wp_seq ?_
            by_cases hb1929 : n1924 < (r1699.length : Int)
            · rw [if_pos hb1929] at hL1927
              refine r_condT h (decide (n1924 < (r1699.length : Int))) (by simp only [EX, simprocAttr, Nat.blt, Nat.ble, hb923, hb1688, ha1695, hq1696, hb1929] <;> rfl) (by first | rfl | (simp only [EX, simprocAttr, Nat.blt, Nat.ble, hb923, hb1688, ha1695, hq1696, hb1929] <;> rfl)) ?_
              refine wp_skip ?_
              change Code.wp Try.prog _ _ _ _
              obtain ⟨e1950, hE1951, hL1927⟩ := Option.bind_eq_some_iff.1 hL1927
              refine r_seqJ (fun ac wd => ∃ (l1948 : List Int) (l1949 : List Int), (l1948, l1949) = e1950 ∧ SL ⟨wb, S, Φ, P0⟩ 65 288 [(2, .one (.ptr (1, 0) 0)), (5, .one (.own (10, 0) l1948.length)), (6, .one (.own (286, 0) l1949.length)), (7, .one (.d (.int .i64 x1691))), (34, .one (.d (.sl (List.map eI r1699)))), (35, .one (.d (.int .i64 (r1699.length : Int)))), (36, .one (.d (.int .i64 n1924)))] [((1, 0), some (.box 24 [.d (.int .i64 a0.N), .d (.sl (List.map eA2I a0.Links))])), ((10, 0), some (.row 3 1 (dat (List.map eI l1948)))), ((286, 0), some (.row 3 1 (dat (List.map eI l1949))))] ac wd) ?_ ?_
              · skip
                refine wp_block ?_
                obtain ⟨x1954, hx1955, hE1951⟩ := Option.bind_eq_some_iff.1 hE1951
                obtain ⟨hx1955a, hx1955b, hx1955c⟩ := at_some hx1955
                have hx1955d := (List.getElem?_eq_some_iff.1 hx1955b).1
                refine rs_plain 262 [] [none, none, none] [2, 5, 6, 7, 9, 34, 35, 36] [(1, 0), (10, 0), (17, 0)] h rfl rfl (by simp only [EX, simprocAttr, Nat.blt, Nat.ble, tz_3, tz_35, hb923, hb1688, ha1695, hq1696, hb1929, hx1955a, hx1955b, hx1955c, hx1955d] <;> rfl) fun ac wd h => ?_
                obtain ⟨x1958, hx1959, hE1951⟩ := Option.bind_eq_some_iff.1 hE1951
                obtain ⟨hx1959a, hx1959b, hx1959c⟩ := at_some hx1959
                have hx1959d := (List.getElem?_eq_some_iff.1 hx1959b).1
                refine rs_plain 269 [] [none, none, none, none, none, none, none] [2, 5, 6, 7, 10, 34, 35, 36] [(1, 0), (10, 0), (17, 0)] h rfl rfl (by simp only [EX, simprocAttr, Nat.blt, Nat.ble, tz_3, tz_22, tz_24, tz_43, hb923, hb1688, ha1695, hq1696, hb1929, hx1959a, hx1959b, hx1959c, hx1959d] <;> rfl) fun ac wd h => ?_
                obtain ⟨x1962, hx1963, hE1951⟩ := Option.bind_eq_some_iff.1 hE1951
                obtain ⟨hx1963a, hx1963b, hx1963c⟩ := at_some hx1963
                have hx1963d := (List.getElem?_eq_some_iff.1 hx1963b).1
                refine rs_plain 274 [] [none, none, none, none, none] [2, 5, 6, 7, 10, 34, 35, 36, 50] [(1, 0), (10, 0), (17, 0)] h rfl rfl (by simp only [EX, simprocAttr, Nat.blt, Nat.ble, tz_3, tz_4, tz_35, hb923, hb1688, ha1695, hq1696, hb1929, hx1963a, hx1963b, hx1963c, hx1963d] <;> rfl) fun ac wd h => ?_
                by_cases hb1964 : x1962 < 0
                · rw [if_pos hb1964] at hE1951
                  refine r_condT h (decide (x1962 < 0)) (by simp only [EX, simprocAttr, Nat.blt, Nat.ble, hb923, hb1688, ha1695, hq1696, hb1929, hb1964] <;> rfl) (by first | rfl | (simp only [EX, simprocAttr, Nat.blt, Nat.ble, hb923, hb1688, ha1695, hq1696, hb1929, hb1964] <;> rfl)) ?_
                  obtain ⟨x1967, hx1968, hE1951⟩ := Option.bind_eq_some_iff.1 hE1951
                  obtain ⟨hx1968a, hx1968b, hx1968c⟩ := at_some hx1968
                  have hx1968d := (List.getElem?_eq_some_iff.1 hx1968b).1
                  refine rs_plain 283 [] [none, none, none, none, none, none, none, none, none] [2, 5, 6, 7, 10, 34, 35, 36] [(1, 0), (10, 0), (17, 0)] h rfl rfl (by simp only [EX, simprocAttr, Nat.blt, Nat.ble, tz_3, tz_35, hb923, hb1688, ha1695, hq1696, hb1929, hb1964, hx1968a, hx1968b, hx1968c, hx1968d, hx1963a, hx1963b, hx1963c, hx1963d] <;> rfl) fun ac wd h => ?_
                  by_cases ha1969 : (l1926.length + 1) * 8 ≤ 140737488355328
                  case neg => rw [if_neg ha1969] at hE1951; cases hE1951
                  rw [if_pos ha1969] at hE1951
                  refine r_plain [] [none, none, none, none, none] [2, 5, 6, 7, 34, 35, 36] [(1, 0), (10, 0), (286, 0)] h rfl (by simp only [EX, simprocAttr, Nat.blt, Nat.ble, tz_3, tz_35, hb923, hb1688, ha1695, hq1696, hb1929, hb1964, ha1969] <;> rfl) fun ac wd h => ?_
                  have h := h.same [2, 5, 6, 7, 34, 35, 36] [(1, 0), (10, 0), (286, 0)] 288 [(2, .one (.ptr (1, 0) 0)), (5, .one (.own (10, 0) (l1925.set x1958.a1.toNat (IntKind.wrap .i64 (x1967 + 1))).length)), (6, .one (.own (286, 0) (l1926 ++ [x1958.a1]).length)), (7, .one (.d (.int .i64 x1691))), (34, .one (.d (.sl (List.map eI r1699)))), (35, .one (.d (.int .i64 (r1699.length : Int)))), (36, .one (.d (.int .i64 n1924)))]
                    [((1, 0), some (.box 24 [.d (.int .i64 a0.N), .d (.sl (List.map eA2I a0.Links))])), ((10, 0), some (.row 3 1 (dat (List.map eI (l1925.set x1958.a1.toNat (IntKind.wrap .i64 (x1967 + 1))))))), ((286, 0), some (.row 3 1 (dat (List.map eI (l1926 ++ [x1958.a1])))))]
                    (by simp only [EX, simprocAttr, Nat.blt, Nat.ble, hb923, hx931a, hx931b, hx931c, hx931d, hb1688, hx1692a, hx1692b, hx1692c, hx1692d, ha1695, hq1696, hb1929, hx1955a, hx1955b, hx1955c, hx1955d, hx1959a, hx1959b, hx1959c, hx1959d, hx1963a, hx1963b, hx1963c, hx1963d, hb1964, hx1968a, hx1968b, hx1968c, hx1968d, ha1969] <;> rfl)
                  injection hE1951 with hE1951
                  exact ⟨(l1925.set x1958.a1.toNat (IntKind.wrap .i64 (x1967 + 1))), (l1926 ++ [x1958.a1]), hE1951, h⟩
                · rw [if_neg hb1964] at hE1951
                  refine r_condF h (decide (x1962 < 0)) (by simp only [EX, simprocAttr, Nat.blt, Nat.ble, hb923, hb1688, ha1695, hq1696, hb1929, hb1964] <;> rfl) (by first | rfl | (simp only [EX, simprocAttr, Nat.blt, Nat.ble, hb923, hb1688, ha1695, hq1696, hb1929, hb1964] <;> rfl)) ?_
                  refine wp_skip ?_
                  have h := SL.swap h (286, 0) (17, 0) 288 (by decide) (by decide) (by simp only [EX, simprocAttr, Nat.blt, Nat.ble, hb923, hx931a, hx931b, hx931c, hx931d, hb1688, hx1692a, hx1692b, hx1692c, hx1692d, ha1695, hq1696, hb1929, hx1955a, hx1955b, hx1955c, hx1955d, hx1959a, hx1959b, hx1959c, hx1959d, hx1963a, hx1963b, hx1963c, hx1963d, hb1964, e_ren3, fren, mren, AV.ren, AObj.ren, Cell.ren, sumRen, Upd.ren, swp, csw, dat_ren, opn_ren] <;> rfl) (by simp only [EX, simprocAttr, Nat.blt, Nat.ble, hb923, hx931a, hx931b, hx931c, hx931d, hb1688, hx1692a, hx1692b, hx1692c, hx1692d, ha1695, hq1696, hb1929, hx1955a, hx1955b, hx1955c, hx1955d, hx1959a, hx1959b, hx1959c, hx1959d, hx1963a, hx1963b, hx1963c, hx1963d, hb1964, e_ren3, fren, mren, AV.ren, AObj.ren, Cell.ren, sumRen, Upd.ren, swp, csw, dat_ren, opn_ren] <;> rfl) (by simp only [EX, simprocAttr, Nat.blt, Nat.ble, hb923, hx931a, hx931b, hx931c, hx931d, hb1688, hx1692a, hx1692b, hx1692c, hx1692d, ha1695, hq1696, hb1929, hx1955a, hx1955b, hx1955c, hx1955d, hx1959a, hx1959b, hx1959c, hx1959d, hx1963a, hx1963b, hx1963c, hx1963d, hb1964, e_ren3, fren, mren, AV.ren, AObj.ren, Cell.ren, sumRen, Upd.ren, swp, csw, dat_ren, opn_ren] <;> rfl)
                  have h := h.same [2, 5, 6, 7, 34, 35, 36] [(1, 0), (10, 0), (286, 0)] 288 [(2, .one (.ptr (1, 0) 0)), (5, .one (.own (10, 0) l1925.length)), (6, .one (.own (286, 0) l1926.length)), (7, .one (.d (.int .i64 x1691))), (34, .one (.d (.sl (List.map eI r1699)))), (35, .one (.d (.int .i64 (r1699.length : Int)))), (36, .one (.d (.int .i64 n1924)))]
                    [((1, 0), some (.box 24 [.d (.int .i64 a0.N), .d (.sl (List.map eA2I a0.Links))])), ((10, 0), some (.row 3 1 (dat (List.map eI l1925)))), ((286, 0), some (.row 3 1 (dat (List.map eI l1926))))]
                    (by simp only [EX, simprocAttr, Nat.blt, Nat.ble, hb923, hx931a, hx931b, hx931c, hx931d, hb1688, hx1692a, hx1692b, hx1692c, hx1692d, ha1695, hq1696, hb1929, hx1955a, hx1955b, hx1955c, hx1955d, hx1959a, hx1959b, hx1959c, hx1959d, hx1963a, hx1963b, hx1963c, hx1963d, hb1964] <;> rfl)
                  injection hE1951 with hE1951
                  exact ⟨l1925, l1926, hE1951, h⟩
              · skip
                rintro ac wd ⟨l1948, l1949, rfl, h⟩
                (try dsimp only at hL1927)
                refine r_plain [] [none, none] [2, 5, 6, 7, 34, 35, 36] [(1, 0), (10, 0), (286, 0)] h rfl (by simp only [EX, simprocAttr, Nat.blt, Nat.ble, tz_3, hb923, hb1688, ha1695, hq1696, hb1929] <;> rfl) fun ac wd h => ?_
                have h := SL.swap h (17, 0) (286, 0) 290 (by decide) (by decide) (by simp only [EX, simprocAttr, Nat.blt, Nat.ble, hb923, hx931a, hx931b, hx931c, hx931d, hb1688, hx1692a, hx1692b, hx1692c, hx1692d, ha1695, hq1696, hb1929, e_ren3, fren, mren, AV.ren, AObj.ren, Cell.ren, sumRen, Upd.ren, swp, csw, dat_ren, opn_ren] <;> rfl) (by simp only [EX, simprocAttr, Nat.blt, Nat.ble, hb923, hx931a, hx931b, hx931c, hx931d, hb1688, hx1692a, hx1692b, hx1692c, hx1692d, ha1695, hq1696, hb1929, e_ren3, fren, mren, AV.ren, AObj.ren, Cell.ren, sumRen, Upd.ren, swp, csw, dat_ren, opn_ren] <;> rfl) (by simp only [EX, simprocAttr, Nat.blt, Nat.ble, hb923, hx931a, hx931b, hx931c, hx931d, hb1688, hx1692a, hx1692b, hx1692c, hx1692d, ha1695, hq1696, hb1929, e_ren3, fren, mren, AV.ren, AObj.ren, Cell.ren, sumRen, Upd.ren, swp, csw, dat_ren, opn_ren] <;> rfl)
                have h := h.same [2, 5, 6, 7, 34, 35, 36] [(1, 0), (10, 0), (17, 0)] 258 [(2, .one (.ptr (1, 0) 0)), (5, .one (.own (10, 0) l1948.length)), (6, .one (.own (17, 0) l1949.length)), (7, .one (.d (.int .i64 x1691))), (34, .one (.d (.sl (List.map eI r1699)))), (35, .one (.d (.int .i64 (r1699.length : Int)))), (36, .one (.d (.int .i64 (IntKind.wrap .i64 (n1924 + 1)))))]
                  [((1, 0), some (.box 24 [.d (.int .i64 a0.N), .d (.sl (List.map eA2I a0.Links))])), ((10, 0), some (.row 3 1 (dat (List.map eI l1948)))), ((17, 0), some (.row 3 1 (dat (List.map eI l1949))))]
                  (by simp only [EX, simprocAttr, Nat.blt, Nat.ble, hb923, hx931a, hx931b, hx931c, hx931d, hb1688, hx1692a, hx1692b, hx1692c, hx1692d, ha1695, hq1696, hb1929] <;> rfl)
                change ∃ n', _ ∧ _
                exact ⟨nf, Nat.lt_succ_self nf, (IntKind.wrap .i64 (n1924 + 1)), l1948, l1949, hL1927, h⟩
            · rw [if_neg hb1929] at hL1927
              refine r_condF h (decide (n1924 < (r1699.length : Int))) (by simp only [EX, simprocAttr, Nat.blt, Nat.ble, hb923, hb1688, ha1695, hq1696, hb1929] <;> rfl) (by first | rfl | (simp only [EX, simprocAttr, Nat.blt, Nat.ble, hb923, hb1688, ha1695, hq1696, hb1929] <;> rfl)) ?_
              refine wp_exit ?_
              have h := h.same [2, 5, 6] [(1, 0), (10, 0), (17, 0)] 259 [(2, .one (.ptr (1, 0) 0)), (5, .one (.own (10, 0) l1925.length)), (6, .one (.own (17, 0) l1926.length))]
                [((1, 0), some (.box 24 [.d (.int .i64 a0.N), .d (.sl (List.map eA2I a0.Links))])), ((10, 0), some (.row 3 1 (dat (List.map eI l1925)))), ((17, 0), some (.row 3 1 (dat (List.map eI l1926))))]
                (by simp only [EX, simprocAttr, Nat.blt, Nat.ble, hb923, hx931a, hx931b, hx931c, hx931d, hb1688, hx1692a, hx1692b, hx1692c, hx1692d, ha1695, hq1696, hb1929] <;> rfl)
              injection hL1927 with hL1927
              exact ⟨l1925, l1926, hL1927, h⟩
        · skip
          rintro ac wd ⟨l1833, l1834, rfl, h⟩
          (try dsimp only at hL1686)
          have h := h.same [2, 5, 6] [(1, 0), (10, 0), (17, 0)] 179 [(2, .one (.ptr (1, 0) 0)), (5, .one (.own (10, 0) l1833.length)), (6, .one (.own (17, 0) l1834.length))]
            [((1, 0), some (.box 24 [.d (.int .i64 a0.N), .d (.sl (List.map eA2I a0.Links))])), ((10, 0), some (.row 3 1 (dat (List.map eI l1833)))), ((17, 0), some (.row 3 1 (dat (List.map eI l1834))))]
            (by simp only [EX, simprocAttr, Nat.blt, Nat.ble, hb923, hx931a, hx931b, hx931c, hx931d, hb1688, hx1692a, hx1692b, hx1692c, hx1692d, ha1695, hq1696] <;> rfl)
          change ∃ n', _ ∧ _
          exact ⟨nf, Nat.lt_succ_self nf, l1833, l1834, hL1686, h⟩
  · rw [if_neg hb923] at hD
    have hb923n := eq_false_of_ne_true hb923
    refine r_condT h (!(r920)) (by simp only [EX, simprocAttr, Nat.blt, Nat.ble, hb923n] <;> rfl) (by first | rfl | (simp only [EX, simprocAttr, Nat.blt, Nat.ble, hb923n] <;> rfl)) ?_
    refine rs_plain 8 [] [none] [4] [] h rfl rfl (by simp only [EX, simprocAttr, Nat.blt, Nat.ble, tz_3, tz_35, hb923n] <;> rfl) fun ac wd h => ?_
    refine wp_ret ?_
    have h := SL.bornS h 4 3 1 (by simp only [EX, simprocAttr, Nat.blt, Nat.ble, hb923n] <;> rfl)
    have h := h.same [4] [(8, 0)] 9 [(4, .one (.own (8, 0) 0))]
      [((8, 0), some (.row 3 1 ([])))]
      (by simp only [EX, simprocAttr, Nat.blt, Nat.ble, hb923n, dat_open] <;> rfl)
    have h := SL.swap h (1, 0) (8, 0) 9 (by decide) (by decide) (by simp only [EX, simprocAttr, Nat.blt, Nat.ble, hb923n, e_ren3, fren, mren, AV.ren, AObj.ren, Cell.ren, sumRen, Upd.ren, swp, csw, dat_ren, opn_ren] <;> rfl) (by simp only [EX, simprocAttr, Nat.blt, Nat.ble, hb923n, e_ren3, fren, mren, AV.ren, AObj.ren, Cell.ren, sumRen, Upd.ren, swp, csw, dat_ren, opn_ren] <;> rfl) (by simp only [EX, simprocAttr, Nat.blt, Nat.ble, hb923n, e_ren3, fren, mren, AV.ren, AObj.ren, Cell.ren, sumRen, Upd.ren, swp, csw, dat_ren, opn_ren] <;> rfl)
    have h := h.same [4] [(1, 0)] 9 [(4, .one (.own (1, 0) 0))]
      [((1, 0), some (.row 3 1 ([])))]
      (by simp only [EX, simprocAttr, Nat.blt, Nat.ble, hb923n, dat_open] <;> rfl)
    injection hD with hD
    subst hD
    exact r_retO rfl h [.tmp 4] rfl [(1, 0)] (by simp only [retO, List.mapM_cons, List.mapM_nil, Option.bind_eq_bind, Option.pure_def, EX, simprocAttr, Nat.blt, Nat.ble, hb923n] <;> rfl)
theorem L_graph_Dist_ok {a0 : TGraph} {a1 : Int} {r : (List Int)} (hD : L_graph_Dist a0 a1 = some r) :
    CallH Try.prog 27 [.agg [.d (.int .i64 a0.N), .d (.sl (List.map eA2I a0.Links))], .one (.d (.int .i64 a1))] []
      (.one (.d (.sl (List.map eI r)))) [] :=
  (L_graph_Dist_own hD).frz (by simp only [EX, simprocAttr, Nat.blt, Nat.ble] <;> rfl) (by simp only [frzA, frzSum, EX, simprocAttr, Nat.blt, Nat.ble] <;> rfl) rfl

set_option maxRecDepth 20000 in
set_option maxHeartbeats 4000000 in
theorem L_slices_Index_int_int_ok {a0 : (List Int)} {a1 : Int} {r : Int} (hD : L_slices_Index_int_int a0 a1 = some r) :
    CallH Try.prog 34 [.one (.d (.sl (List.map eI a0))), .one (.d (.int .i64 a1))] []
      (.one (.d (.int .i64 r))) [] := by
  unfold L_slices_Index_int_int at hD
  refine r_call Try.func34 rfl Try.ntmps34 (by kernel_rfl) (by rfl) (by rfl) (by simp) fun S Φ P0 wb ac h => ?_
  refine rs_plain 2 [] [none] [0, 1] [] h rfl rfl (by simp only [EX, simprocAttr, Nat.blt, Nat.ble, tz_3] <;> rfl) fun ac wd h => ?_
  refine wp_seq ?_
  refine rs_plain 5 [] [none, none, none] [0, 1, 7, 8] [] h rfl rfl (by simp only [EX, simprocAttr, Nat.blt, Nat.ble, tz_3, tz_35] <;> rfl) fun ac wd h => ?_
  refine wp_block ?_
  have h := h.same [0, 1, 7, 8] [] 27 [(0, .one (.d (.sl (List.map eI a0)))), (1, .one (.d (.int .i64 a1))), (7, .one (.d (.int .i64 (a0.length : Int)))), (8, .one (.d (.int .i64 0)))]
    []
    (by simp only [EX, simprocAttr, Nat.blt, Nat.ble] <;> rfl)
  refine r_while (fun nf ac wd => ∃ (n143 : Int), L_slices_Index_int_int_l1 a0 a1 nf n143 = some r ∧ SL ⟨wb, S, Φ, P0⟩ 19 27 [(0, .one (.d (.sl (List.map eI a0)))), (1, .one (.d (.int .i64 a1))), (7, .one (.d (.int .i64 (a0.length : Int)))), (8, .one (.d (.int .i64 n143)))] [] ac wd) (((a0.length : Int) - 0).toNat + 1) ⟨0, hD, h⟩ (fun nf ac wd hJ => ?_)
  obtain ⟨n143, hL144, h⟩ := hJ
  cases nf with
  | zero => rw [L_slices_Index_int_int_l1] at hL144; cases hL144
  | succ nf =>
    rw [L_slices_Index_int_int_l1] at hL144
    refine rs_plain 28 [] [none] [0, 1, 7, 8, 9] [] h rfl rfl (by simp only [EX, simprocAttr, Nat.blt, Nat.ble, tz_3] <;> rfl) fun ac wd h => ?_
    refine wp_seq ?_
    by_cases hb146 : n143 < (a0.length : Int)
    · rw [if_pos hb146] at hL144
      refine r_condT h (decide (n143 < (a0.length : Int))) (by simp only [EX, simprocAttr, Nat.blt, Nat.ble, hb146] <;> rfl) (by first | rfl | (simp only [EX, simprocAttr, Nat.blt, Nat.ble, hb146] <;> rfl)) ?_
      refine wp_skip ?_
      change Code.wp Try.prog _ _ _ _
      refine wp_seq ?_
      refine wp_block ?_
      refine rs_plain 30 [] [none, none] [0, 1, 5, 7, 8] [] h rfl rfl (by simp only [EX, simprocAttr, Nat.blt, Nat.ble, tz_3, hb146] <;> rfl) fun ac wd h => ?_
      obtain ⟨x154, hx155, hL144⟩ := Option.bind_eq_some_iff.1 hL144
      obtain ⟨hx155a, hx155b, hx155c⟩ := at_some hx155
      have hx155d := (List.getElem?_eq_some_iff.1 hx155b).1
      refine rs_plain 36 [] [none, none, none, none, none, none] [0, 1, 5, 7, 8, 16] [] h rfl rfl (by simp only [EX, simprocAttr, Nat.blt, Nat.ble, tz_3, tz_4, tz_35, hb146, hx155a, hx155b, hx155c, hx155d] <;> rfl) fun ac wd h => ?_
      by_cases hb156 : a1 = x154
      · rw [if_pos hb156] at hL144
        have hb156t := eq_true hb156
        refine r_condT h (decide (a1 = x154)) (by simp only [EX, simprocAttr, Nat.blt, Nat.ble, hb146, hb156t] <;> rfl) (by first | rfl | (simp only [EX, simprocAttr, Nat.blt, Nat.ble, hb146, hb156t] <;> rfl)) ?_
        refine rs_plain 38 [] [none, none] [4] [] h rfl rfl (by simp only [EX, simprocAttr, Nat.blt, Nat.ble, tz_3, hb146, hb156t] <;> rfl) fun ac wd h => ?_
        refine wp_ret ?_
        injection hL144 with hL144
        subst hL144
        exact r_retE rfl h [.tmp 4] rfl (by simp only [retD, List.mapM_cons, List.mapM_nil, Option.bind_eq_bind, Option.pure_def, EX, simprocAttr, Nat.blt, Nat.ble, hb146, hb156t] <;> rfl)
      · rw [if_neg hb156] at hL144
        refine r_condF h (decide (a1 = x154)) (by simp only [EX, simprocAttr, Nat.blt, Nat.ble, hb146, hb156] <;> rfl) (by first | rfl | (simp only [EX, simprocAttr, Nat.blt, Nat.ble, hb146, hb156] <;> rfl)) ?_
        refine wp_skip ?_
        change Code.wp Try.prog _ _ _ _
        refine r_plain [] [none, none] [0, 1, 7, 8] [] h rfl (by simp only [EX, simprocAttr, Nat.blt, Nat.ble, tz_3, hb146, hb156] <;> rfl) fun ac wd h => ?_
        have h := h.same [0, 1, 7, 8] [] 27 [(0, .one (.d (.sl (List.map eI a0)))), (1, .one (.d (.int .i64 a1))), (7, .one (.d (.int .i64 (a0.length : Int)))), (8, .one (.d (.int .i64 (IntKind.wrap .i64 (n143 + 1)))))]
          []
          (by simp only [EX, simprocAttr, Nat.blt, Nat.ble, hb146, hx155a, hx155b, hx155c, hx155d, hb156] <;> rfl)
        change ∃ n', _ ∧ _
        exact ⟨nf, Nat.lt_succ_self nf, (IntKind.wrap .i64 (n143 + 1)), hL144, h⟩
    · rw [if_neg hb146] at hL144
      refine r_condF h (decide (n143 < (a0.length : Int))) (by simp only [EX, simprocAttr, Nat.blt, Nat.ble, hb146] <;> rfl) (by first | rfl | (simp only [EX, simprocAttr, Nat.blt, Nat.ble, hb146] <;> rfl)) ?_
      refine wp_exit ?_
      change Code.wp Try.prog _ _ _ _
      refine rs_plain 29 [] [none] [4] [] h rfl rfl (by simp only [EX, simprocAttr, Nat.blt, Nat.ble, tz_3, hb146] <;> rfl) fun ac wd h => ?_
      refine wp_ret ?_
      injection hL144 with hL144
      subst hL144
      exact r_retE rfl h [.tmp 4] rfl (by simp only [retD, List.mapM_cons, List.mapM_nil, Option.bind_eq_bind, Option.pure_def, EX, simprocAttr, Nat.blt, Nat.ble, hb146] <;> rfl)

set_option maxRecDepth 20000 in
set_option maxHeartbeats 4000000 in
theorem L_slices_Contains_int_int_ok {a0 : (List Int)} {a1 : Int} {r : Bool} (hD : L_slices_Contains_int_int a0 a1 = some r) :
    CallH Try.prog 31 [.one (.d (.sl (List.map eI a0))), .one (.d (.int .i64 a1))] []
      (.one (.d (.bool r))) [] := by
  unfold L_slices_Contains_int_int at hD
  refine r_call Try.func31 rfl Try.ntmps31 (by kernel_rfl) (by rfl) (by rfl) (by simp) fun S Φ P0 wb ac h => ?_
  refine rs_plain 2 [] [none] [0, 1] [] h rfl rfl (by simp only [EX, simprocAttr, Nat.blt, Nat.ble, tz_4] <;> rfl) fun ac wd h => ?_
  obtain ⟨r7, hc8, hD⟩ := Option.bind_eq_some_iff.1 hD
  have hc8k := L_slices_Index_int_int_ok hc8
  refine rs_plain 7 [factE 4 hc8k] [none, none, none, none, none] [4] [] h rfl rfl (by simp only [EX, simprocAttr, Nat.blt, Nat.ble, tz_3, tz_4, tz_35] <;> rfl) fun ac wd h => ?_
  refine wp_ret ?_
  injection hD with hD
  subst hD
  exact r_retE rfl h [.tmp 4] rfl (by simp only [retD, List.mapM_cons, List.mapM_nil, Option.bind_eq_bind, Option.pure_def, EX, simprocAttr, Nat.blt, Nat.ble] <;> rfl)

set_option maxRecDepth 20000 in
set_option maxHeartbeats 4000000 in
theorem L_graph_Right_ok {a0 : TGraph} {r : Bool} (hD : L_graph_Right a0 = some r) :
    CallH Try.prog 11 [.agg [.d (.int .i64 a0.N), .d (.sl (List.map eA2I a0.Links))]] []
      (.one (.d (.bool r))) [] := by
  unfold L_graph_Right at hD
  refine r_call Try.func11 rfl Try.ntmps11 (by kernel_rfl) (by rfl) (by rfl) (by simp) fun S Φ P0 wb ac h => ?_
  refine rs_plain 3 [] [none, none] [1] [(1, 0)] h rfl rfl (by simp only [EX, simprocAttr, Nat.blt, Nat.ble, tz_4, tz_24] <;> rfl) fun ac wd h => ?_
  refine wp_seq ?_
  obtain ⟨e448, hE449, hD⟩ := Option.bind_eq_some_iff.1 hD
  refine r_seqJ (fun ac wd => ∃ (b447 : Bool), b447 = e448 ∧ SL ⟨wb, S, Φ, P0⟩ 79 17 [(1, .one (.ptr (1, 0) 0)), (21, .one (.d (.bool b447)))] [((1, 0), some (.box 24 [.d (.int .i64 a0.N), .d (.sl (List.map eA2I a0.Links))]))] ac wd) ?_ ?_
  · skip
    by_cases hb450 : a0.N < 1
    · rw [if_pos hb450] at hE449
      refine r_plain [] [none, none, none, none, some (some 11, false), some (some 11, false), some (some 11, false), none, none, some (some 16, false), some (some 16, false), some (some 16, false), some (some 16, false), none] [1, 21] [(1, 0)] h rfl (by simp only [EX, simprocAttr, Nat.blt, Nat.ble, tz_3, tz_4, tz_22, tz_24, tz_43, hb450] <;> rfl) fun ac wd h => ?_
      have h := h.same [1, 21] [(1, 0)] 17 [(1, .one (.ptr (1, 0) 0)), (21, .one (.d (.bool true)))]
        [((1, 0), some (.box 24 [.d (.int .i64 a0.N), .d (.sl (List.map eA2I a0.Links))]))]
        (by simp only [EX, simprocAttr, Nat.blt, Nat.ble, hb450] <;> rfl)
      injection hE449 with hE449
      exact ⟨true, hE449, h⟩
    · rw [if_neg hb450] at hE449
      by_cases hb451 : a0.N > 6
      · rw [if_pos hb451] at hE449
        refine r_plain [] [none, none, none, none, some (some 11, false), some (some 11, false), some (some 11, false), none, none, some (some 16, false), some (some 16, false), some (some 16, false), some (some 16, false), none] [1, 21] [(1, 0)] h rfl (by simp only [EX, simprocAttr, Nat.blt, Nat.ble, tz_3, tz_4, tz_22, tz_24, tz_43, hb450, hb451] <;> rfl) fun ac wd h => ?_
        have h := h.same [1, 21] [(1, 0)] 17 [(1, .one (.ptr (1, 0) 0)), (21, .one (.d (.bool true)))]
          [((1, 0), some (.box 24 [.d (.int .i64 a0.N), .d (.sl (List.map eA2I a0.Links))]))]
          (by simp only [EX, simprocAttr, Nat.blt, Nat.ble, hb450, hb451] <;> rfl)
        injection hE449 with hE449
        exact ⟨true, hE449, h⟩
      · rw [if_neg hb451] at hE449
        refine r_plain [] [none, none, none, none, some (some 11, false), some (some 11, false), some (some 11, false), none, none, some (some 16, false), some (some 16, false), some (some 16, false), some (some 16, false), none] [1, 21] [(1, 0)] h rfl (by simp only [EX, simprocAttr, Nat.blt, Nat.ble, tz_3, tz_4, tz_22, tz_24, tz_43, hb450, hb451] <;> rfl) fun ac wd h => ?_
        have h := h.same [1, 21] [(1, 0)] 17 [(1, .one (.ptr (1, 0) 0)), (21, .one (.d (.bool (decide ((a0.Links.length : Int) > 30)))))]
          [((1, 0), some (.box 24 [.d (.int .i64 a0.N), .d (.sl (List.map eA2I a0.Links))]))]
          (by simp only [EX, simprocAttr, Nat.blt, Nat.ble, hb450, hb451] <;> rfl)
        injection hE449 with hE449
        exact ⟨decide ((a0.Links.length : Int) > 30), hE449, h⟩
  · skip
    rintro ac wd ⟨b447, rfl, h⟩
    (try dsimp only at hD)
    by_cases hb453 : b447 = true
    · rw [if_pos hb453] at hD
      refine r_condT h b447 (by simp only [EX, simprocAttr, Nat.blt, Nat.ble, hb453] <;> rfl) (by first | rfl | (simp only [EX, simprocAttr, Nat.blt, Nat.ble, hb453] <;> rfl)) ?_
      refine rs_plain 18 [] [none] [2] [] h rfl rfl (by simp only [EX, simprocAttr, Nat.blt, Nat.ble, tz_4, hb453] <;> rfl) fun ac wd h => ?_
      refine wp_ret ?_
      injection hD with hD
      subst hD
      exact r_retE rfl h [.tmp 2] rfl (by simp only [retD, List.mapM_cons, List.mapM_nil, Option.bind_eq_bind, Option.pure_def, EX, simprocAttr, Nat.blt, Nat.ble, hb453] <;> rfl)
    · rw [if_neg hb453] at hD
      have hb453n := eq_false_of_ne_true hb453
      refine r_condF h b447 (by simp only [EX, simprocAttr, Nat.blt, Nat.ble, hb453n] <;> rfl) (by first | rfl | (simp only [EX, simprocAttr, Nat.blt, Nat.ble, hb453n] <;> rfl)) ?_
      refine wp_skip ?_
      change Code.wp Try.prog _ _ _ _
      refine rs_plain 19 [] [none, none] [1, 3] [(1, 0), (17, 0)] h rfl rfl (by simp only [EX, simprocAttr, Nat.blt, Nat.ble, tz_3, tz_43, tz_48, hb453n] <;> rfl) fun ac wd h => ?_
      refine wp_seq ?_
      refine rs_plain 23 [] [none, none, none, none] [1, 3, 24, 25, 26] [(1, 0), (17, 0)] h rfl rfl (by simp only [EX, simprocAttr, Nat.blt, Nat.ble, tz_3, tz_22, tz_24, tz_43, hb453n] <;> rfl) fun ac wd h => ?_
      obtain ⟨e603, hE604, hD⟩ := Option.bind_eq_some_iff.1 hD
      refine r_meet (fun ac wd => ∃ (l602 : NMap), (.inl l602) = e603 ∧ SL ⟨wb, S, Φ, P0⟩ 79 102 [(1, .one (.ptr (1, 0) 0)), (3, .one (.mp (17, 0)))] [((1, 0), some (.box 24 [.d (.int .i64 a0.N), .d (.sl (List.map eA2I a0.Links))])), ((17, 0), some (.map 43 3 true 2 (mE l602)))] ac wd) ?_ ?_
      · skip
        refine wp_block ?_
        have h := h.same [1, 3, 24, 25, 26] [(1, 0), (17, 0)] 101 [(1, .one (.ptr (1, 0) 0)), (3, .one (.mp (17, 0))), (24, .one (.d (.sl (List.map eA2I a0.Links)))), (25, .one (.d (.int .i64 (a0.Links.length : Int)))), (26, .one (.d (.int .i64 0)))]
          [((1, 0), some (.box 24 [.d (.int .i64 a0.N), .d (.sl (List.map eA2I a0.Links))])), ((17, 0), some (.map 43 3 true 2 (mE ([] : NMap))))]
          (by simp only [EX, simprocAttr, Nat.blt, Nat.ble, hb453n] <;> rfl)
        refine r_while (fun nf ac wd => ∃ (n703 : Int) (l704 : NMap), L_graph_Right_l1 a0 nf n703 l704 = some e603 ∧ SL ⟨wb, S, Φ, P0⟩ 79 101 [(1, .one (.ptr (1, 0) 0)), (3, .one (.mp (17, 0))), (24, .one (.d (.sl (List.map eA2I a0.Links)))), (25, .one (.d (.int .i64 (a0.Links.length : Int)))), (26, .one (.d (.int .i64 n703)))] [((1, 0), some (.box 24 [.d (.int .i64 a0.N), .d (.sl (List.map eA2I a0.Links))])), ((17, 0), some (.map 43 3 true 2 (mE l704)))] ac wd) (((a0.Links.length : Int) - 0).toNat + 1) ⟨0, ([] : NMap), hE604, h⟩ (fun nf ac wd hJ => ?_)
        obtain ⟨n703, l704, hL705, h⟩ := hJ
        cases nf with
        | zero => rw [L_graph_Right_l1] at hL705; cases hL705
        | succ nf =>
          rw [L_graph_Right_l1] at hL705
          refine rs_plain 102 [] [none] [1, 3, 24, 25, 26, 27] [(1, 0), (17, 0)] h rfl rfl (by simp only [EX, simprocAttr, Nat.blt, Nat.ble, tz_3, hb453n] <;> rfl) fun ac wd h => ?_
          refine wp_seq ?_
          by_cases hb707 : n703 < (a0.Links.length : Int)
          · rw [if_pos hb707] at hL705
            refine r_condT h (decide (n703 < (a0.Links.length : Int))) (by simp only [EX, simprocAttr, Nat.blt, Nat.ble, hb453n, hb707] <;> rfl) (by first | rfl | (simp only [EX, simprocAttr, Nat.blt, Nat.ble, hb453n, hb707] <;> rfl)) ?_
            refine wp_skip ?_
            change Code.wp Try.prog _ _ _ _
            refine wp_seq ?_
            refine wp_block ?_
            obtain ⟨x733, hx734, hL705⟩ := Option.bind_eq_some_iff.1 hL705
            obtain ⟨hx734a, hx734b, hx734c⟩ := at_some hx734
            have hx734d := (List.getElem?_eq_some_iff.1 hx734b).1
            refine rs_plain 106 [] [none, none, none, none] [1, 3, 5, 24, 25, 26] [(1, 0), (17, 0), (104, 0)] h rfl rfl (by simp only [EX, simprocAttr, Nat.blt, Nat.ble, tz_22, tz_43, hb453n, hb707, hx734a, hx734b, hx734c, hx734d] <;> rfl) fun ac wd h => ?_
            refine wp_seq ?_
            obtain ⟨e743, hE744, hL705⟩ := Option.bind_eq_some_iff.1 hL705
            refine r_seqJ (fun ac wd => ∃ (b742 : Bool), b742 = e743 ∧ SL ⟨wb, S, Φ, P0⟩ 79 131 [(1, .one (.ptr (1, 0) 0)), (3, .one (.mp (17, 0))), (5, .one (.ptr (104, 0) 0)), (24, .one (.d (.sl (List.map eA2I a0.Links)))), (25, .one (.d (.int .i64 (a0.Links.length : Int)))), (26, .one (.d (.int .i64 n703))), (54, .one (.d (.bool b742)))] [((1, 0), some (.box 24 [.d (.int .i64 a0.N), .d (.sl (List.map eA2I a0.Links))])), ((17, 0), some (.map 43 3 true 2 (mE l704))), ((104, 0), some (.box 43 [.d (.int .i64 x733.a0), .d (.int .i64 x733.a1)]))] ac wd) ?_ ?_
            · skip
              obtain ⟨r745, hc746, hE744⟩ := Option.bind_eq_some_iff.1 hE744
              by_cases hb747 : r745 = true
              · rw [if_pos hb747] at hE744
                obtain ⟨r748, hc749, hE744⟩ := Option.bind_eq_some_iff.1 hE744
                by_cases hb750 : r748 = true
                · rw [if_pos hb750] at hE744
                  by_cases hb751 : x733.a0 = x733.a1
                  · rw [if_pos hb751] at hE744
                    have hb751t := eq_true hb751
                    have hc746k := L_graph_Graph_node_ok hc746
                    have hc749k := L_graph_Graph_node_ok hc749
                    refine r_plain [factE 109 hc746k, factE 115 hc749k] [none, none, none, none, none, none, some (some 35, false), some (some 35, false), some (some 35, false), some (some 35, false), some (some 35, false), none, none, some (some 42, false), some (some 42, false), some (some 42, false), some (some 42, false), some (some 42, false), none, none, some (some 49, false), some (some 49, false), some (some 49, false), some (some 49, false), none] [1, 3, 5, 24, 25, 26, 54] [(1, 0), (17, 0), (104, 0)] h rfl (by simp only [EX, simprocAttr, Nat.blt, Nat.ble, tz_3, tz_4, tz_24, tz_43, tz_48, hb453n, hb707, hb747, hb750, hb751t] <;> rfl) fun ac wd h => ?_
                    have h := h.same [1, 3, 5, 24, 25, 26, 54] [(1, 0), (17, 0), (104, 0)] 131 [(1, .one (.ptr (1, 0) 0)), (3, .one (.mp (17, 0))), (5, .one (.ptr (104, 0) 0)), (24, .one (.d (.sl (List.map eA2I a0.Links)))), (25, .one (.d (.int .i64 (a0.Links.length : Int)))), (26, .one (.d (.int .i64 n703))), (54, .one (.d (.bool true)))]
                      [((1, 0), some (.box 24 [.d (.int .i64 a0.N), .d (.sl (List.map eA2I a0.Links))])), ((17, 0), some (.map 43 3 true 2 (mE l704))), ((104, 0), some (.box 43 [.d (.int .i64 x733.a0), .d (.int .i64 x733.a1)]))]
                      (by simp only [EX, simprocAttr, Nat.blt, Nat.ble, hb453n, hb707, hx734a, hx734b, hx734c, hx734d, hb747, hb750, hb751t] <;> rfl)
                    injection hE744 with hE744
                    exact ⟨true, hE744, h⟩
                  · rw [if_neg hb751] at hE744
                    have hc746k := L_graph_Graph_node_ok hc746
                    have hc749k := L_graph_Graph_node_ok hc749
                    refine r_plain [factE 109 hc746k, factE 115 hc749k] [none, none, none, none, none, none, some (some 35, false), some (some 35, false), some (some 35, false), some (some 35, false), some (some 35, false), none, none, some (some 42, false), some (some 42, false), some (some 42, false), some (some 42, false), some (some 42, false), none, none, some (some 49, false), some (some 49, false), some (some 49, false), some (some 49, false), none] [1, 3, 5, 24, 25, 26, 54] [(1, 0), (17, 0), (104, 0)] h rfl (by simp only [EX, simprocAttr, Nat.blt, Nat.ble, tz_3, tz_4, tz_24, tz_43, tz_48, hb453n, hb707, hb747, hb750, hb751] <;> rfl) fun ac wd h => ?_
                    have h := h.same [1, 3, 5, 24, 25, 26, 54] [(1, 0), (17, 0), (104, 0)] 131 [(1, .one (.ptr (1, 0) 0)), (3, .one (.mp (17, 0))), (5, .one (.ptr (104, 0) 0)), (24, .one (.d (.sl (List.map eA2I a0.Links)))), (25, .one (.d (.int .i64 (a0.Links.length : Int)))), (26, .one (.d (.int .i64 n703))), (54, .one (.d (.bool (decide ((mGetI l704 [x733.a0, x733.a1]) > 0)))))]
                      [((1, 0), some (.box 24 [.d (.int .i64 a0.N), .d (.sl (List.map eA2I a0.Links))])), ((17, 0), some (.map 43 3 true 2 (mE l704))), ((104, 0), some (.box 43 [.d (.int .i64 x733.a0), .d (.int .i64 x733.a1)]))]
                      (by simp only [EX, simprocAttr, Nat.blt, Nat.ble, hb453n, hb707, hx734a, hx734b, hx734c, hx734d, hb747, hb750, hb751] <;> rfl)
                    injection hE744 with hE744
                    exact ⟨decide ((mGetI l704 [x733.a0, x733.a1]) > 0), hE744, h⟩
                · rw [if_neg hb750] at hE744
                  have hb750n := eq_false_of_ne_true hb750
                  have hc746k := L_graph_Graph_node_ok hc746
                  have hc749k := L_graph_Graph_node_ok hc749
                  refine r_plain [factE 109 hc746k, factE 115 hc749k] [none, none, none, none, none, none, some (some 35, false), some (some 35, false), some (some 35, false), some (some 35, false), some (some 35, false), none, none, some (some 42, false), some (some 42, false), some (some 42, false), some (some 42, false), some (some 42, false), none, none, some (some 49, false), some (some 49, false), some (some 49, false), some (some 49, false), none] [1, 3, 5, 24, 25, 26, 54] [(1, 0), (17, 0), (104, 0)] h rfl (by simp only [EX, simprocAttr, Nat.blt, Nat.ble, tz_3, tz_4, tz_24, tz_43, tz_48, hb453n, hb707, hb747, hb750n] <;> rfl) fun ac wd h => ?_
                  have h := h.same [1, 3, 5, 24, 25, 26, 54] [(1, 0), (17, 0), (104, 0)] 131 [(1, .one (.ptr (1, 0) 0)), (3, .one (.mp (17, 0))), (5, .one (.ptr (104, 0) 0)), (24, .one (.d (.sl (List.map eA2I a0.Links)))), (25, .one (.d (.int .i64 (a0.Links.length : Int)))), (26, .one (.d (.int .i64 n703))), (54, .one (.d (.bool true)))]
                    [((1, 0), some (.box 24 [.d (.int .i64 a0.N), .d (.sl (List.map eA2I a0.Links))])), ((17, 0), some (.map 43 3 true 2 (mE l704))), ((104, 0), some (.box 43 [.d (.int .i64 x733.a0), .d (.int .i64 x733.a1)]))]
                    (by simp only [EX, simprocAttr, Nat.blt, Nat.ble, hb453n, hb707, hx734a, hx734b, hx734c, hx734d, hb747, hb750n] <;> rfl)
                  injection hE744 with hE744
                  exact ⟨true, hE744, h⟩
              · rw [if_neg hb747] at hE744
                have hb747n := eq_false_of_ne_true hb747
                have hc746k := L_graph_Graph_node_ok hc746
                refine r_plain [factE 109 hc746k] [none, none, none, none, none, none, some (some 35, false), some (some 35, false), some (some 35, false), some (some 35, false), some (some 35, false), none, none, some (some 42, false), some (some 42, false), some (some 42, false), some (some 42, false), some (some 42, false), none, none, some (some 49, false), some (some 49, false), some (some 49, false), some (some 49, false), none] [1, 3, 5, 24, 25, 26, 54] [(1, 0), (17, 0), (104, 0)] h rfl (by simp only [EX, simprocAttr, Nat.blt, Nat.ble, tz_3, tz_4, tz_24, tz_43, tz_48, hb453n, hb707, hb747n] <;> rfl) fun ac wd h => ?_
                have h := h.same [1, 3, 5, 24, 25, 26, 54] [(1, 0), (17, 0), (104, 0)] 131 [(1, .one (.ptr (1, 0) 0)), (3, .one (.mp (17, 0))), (5, .one (.ptr (104, 0) 0)), (24, .one (.d (.sl (List.map eA2I a0.Links)))), (25, .one (.d (.int .i64 (a0.Links.length : Int)))), (26, .one (.d (.int .i64 n703))), (54, .one (.d (.bool true)))]
                  [((1, 0), some (.box 24 [.d (.int .i64 a0.N), .d (.sl (List.map eA2I a0.Links))])), ((17, 0), some (.map 43 3 true 2 (mE l704))), ((104, 0), some (.box 43 [.d (.int .i64 x733.a0), .d (.int .i64 x733.a1)]))]
                  (by simp only [EX, simprocAttr, Nat.blt, Nat.ble, hb453n, hb707, hx734a, hx734b, hx734c, hx734d, hb747n] <;> rfl)
                injection hE744 with hE744
                exact ⟨true, hE744, h⟩
            · skip
              rintro ac wd ⟨b742, rfl, h⟩
              (try dsimp only at hL705)
              by_cases hb753 : b742 = true
              · rw [if_pos hb753] at hL705
                refine r_condT h b742 (by simp only [EX, simprocAttr, Nat.blt, Nat.ble, hb453n, hb707, hb753] <;> rfl) (by first | rfl | (simp only [EX, simprocAttr, Nat.blt, Nat.ble, hb453n, hb707, hb753] <;> rfl)) ?_
                refine rs_plain 132 [] [none] [2] [] h rfl rfl (by simp only [EX, simprocAttr, Nat.blt, Nat.ble, tz_4, hb453n, hb707, hb753] <;> rfl) fun ac wd h => ?_
                refine wp_ret ?_
                injection hL705 with hL705
                subst hL705
                (try dsimp only at hD)
                injection hD with hD
                subst hD
                exact r_retE rfl h [.tmp 2] rfl (by simp only [retD, List.mapM_cons, List.mapM_nil, Option.bind_eq_bind, Option.pure_def, EX, simprocAttr, Nat.blt, Nat.ble, hb453n, hb707, hb753] <;> rfl)
              · rw [if_neg hb753] at hL705
                have hb753n := eq_false_of_ne_true hb753
                refine r_condF h b742 (by simp only [EX, simprocAttr, Nat.blt, Nat.ble, hb453n, hb707, hb753n] <;> rfl) (by first | rfl | (simp only [EX, simprocAttr, Nat.blt, Nat.ble, hb453n, hb707, hb753n] <;> rfl)) ?_
                refine wp_skip ?_
                change Code.wp Try.prog _ _ _ _
                refine r_drawn ty_hm [] [none, none, none, none, none, none, none] [1, 3, 24, 25, 26] [(1, 0), (17, 0)] h rfl (by simp only [EX, simprocAttr, Nat.blt, Nat.ble, tz_3, tz_43, tz_48, hb453n, hb707, hb753n] <;> rfl) (by kernel_rfl) fun ac wd h => ?_
                change Code.wp Try.prog _ _ _ _
                refine r_plain [] [none, none] [1, 3, 24, 25, 26] [(1, 0), (17, 0)] h rfl (by simp only [EX, simprocAttr, Nat.blt, Nat.ble, tz_3, hb453n, hb707, hb753n] <;> rfl) fun ac wd h => ?_
                have h := h.same [1, 3, 24, 25, 26] [(1, 0), (17, 0)] 101 [(1, .one (.ptr (1, 0) 0)), (3, .one (.mp (17, 0))), (24, .one (.d (.sl (List.map eA2I a0.Links)))), (25, .one (.d (.int .i64 (a0.Links.length : Int)))), (26, .one (.d (.int .i64 (IntKind.wrap .i64 (n703 + 1)))))]
                  [((1, 0), some (.box 24 [.d (.int .i64 a0.N), .d (.sl (List.map eA2I a0.Links))])), ((17, 0), some (.map 43 3 true 2 (mE (mPutI l704 [x733.a0, x733.a1] (IntKind.wrap .i64 ((mGetI l704 [x733.a0, x733.a1]) + 1))))))]
                  (by simp only [EX, simprocAttr, Nat.blt, Nat.ble, hb453n, hb707, hx734a, hx734b, hx734c, hx734d, hb753n] <;> rfl)
                change ∃ n', _ ∧ _
                exact ⟨nf, Nat.lt_succ_self nf, (IntKind.wrap .i64 (n703 + 1)), (mPutI l704 [x733.a0, x733.a1] (IntKind.wrap .i64 ((mGetI l704 [x733.a0, x733.a1]) + 1))), hL705, h⟩
          · rw [if_neg hb707] at hL705
            refine r_condF h (decide (n703 < (a0.Links.length : Int))) (by simp only [EX, simprocAttr, Nat.blt, Nat.ble, hb453n, hb707] <;> rfl) (by first | rfl | (simp only [EX, simprocAttr, Nat.blt, Nat.ble, hb453n, hb707] <;> rfl)) ?_
            refine wp_exit ?_
            have h := h.same [1, 3] [(1, 0), (17, 0)] 102 [(1, .one (.ptr (1, 0) 0)), (3, .one (.mp (17, 0)))]
              [((1, 0), some (.box 24 [.d (.int .i64 a0.N), .d (.sl (List.map eA2I a0.Links))])), ((17, 0), some (.map 43 3 true 2 (mE l704)))]
              (by simp only [EX, simprocAttr, Nat.blt, Nat.ble, hb453n, hb707] <;> rfl)
            injection hL705 with hL705
            exact ⟨l704, hL705, h⟩
      · skip
        rintro ac wd ⟨l602, rfl, h⟩
        (try dsimp only at hD)
        refine wp_seq ?_
        refine rs_plain 106 [] [none, none, none, none] [1, 3, 63, 64, 65] [(1, 0), (17, 0)] h rfl rfl (by simp only [EX, simprocAttr, Nat.blt, Nat.ble, tz_3, tz_22, tz_24, tz_43, hb453n] <;> rfl) fun ac wd h => ?_
        obtain ⟨e816, hE817, hD⟩ := Option.bind_eq_some_iff.1 hD
        refine r_meet (fun ac wd => (.inl ()) = e816 ∧ SL ⟨wb, S, Φ, P0⟩ 79 131 [(1, .one (.ptr (1, 0) 0))] [((1, 0), some (.box 24 [.d (.int .i64 a0.N), .d (.sl (List.map eA2I a0.Links))]))] ac wd) ?_ ?_
        · skip
          refine wp_block ?_
          have h := h.same [1, 3, 63, 64, 65] [(1, 0), (17, 0)] 130 [(1, .one (.ptr (1, 0) 0)), (3, .one (.mp (17, 0))), (63, .one (.d (.sl (List.map eA2I a0.Links)))), (64, .one (.d (.int .i64 (a0.Links.length : Int)))), (65, .one (.d (.int .i64 0)))]
            [((1, 0), some (.box 24 [.d (.int .i64 a0.N), .d (.sl (List.map eA2I a0.Links))])), ((17, 0), some (.map 43 3 true 2 (mE l602)))]
            (by simp only [EX, simprocAttr, Nat.blt, Nat.ble, hb453n] <;> rfl)
          refine r_while (fun nf ac wd => ∃ (n859 : Int), L_graph_Right_l2 a0 l602 nf n859 = some e816 ∧ SL ⟨wb, S, Φ, P0⟩ 79 130 [(1, .one (.ptr (1, 0) 0)), (3, .one (.mp (17, 0))), (63, .one (.d (.sl (List.map eA2I a0.Links)))), (64, .one (.d (.int .i64 (a0.Links.length : Int)))), (65, .one (.d (.int .i64 n859)))] [((1, 0), some (.box 24 [.d (.int .i64 a0.N), .d (.sl (List.map eA2I a0.Links))])), ((17, 0), some (.map 43 3 true 2 (mE l602)))] ac wd) (((a0.Links.length : Int) - 0).toNat + 1) ⟨0, hE817, h⟩ (fun nf ac wd hJ => ?_)
          obtain ⟨n859, hL860, h⟩ := hJ
          cases nf with
          | zero => rw [L_graph_Right_l2] at hL860; cases hL860
          | succ nf =>
            rw [L_graph_Right_l2] at hL860
            refine rs_plain 131 [] [none] [1, 3, 63, 64, 65, 66] [(1, 0), (17, 0)] h rfl rfl (by simp only [EX, simprocAttr, Nat.blt, Nat.ble, tz_3, hb453n] <;> rfl) fun ac wd h => ?_
            refine wp_seq ?_
            by_cases hb862 : n859 < (a0.Links.length : Int)
            · rw [if_pos hb862] at hL860
              refine r_condT h (decide (n859 < (a0.Links.length : Int))) (by simp only [EX, simprocAttr, Nat.blt, Nat.ble, hb453n, hb862] <;> rfl) (by first | rfl | (simp only [EX, simprocAttr, Nat.blt, Nat.ble, hb453n, hb862] <;> rfl)) ?_
              refine wp_skip ?_
              change Code.wp Try.prog _ _ _ _
              refine wp_seq ?_
              refine wp_block ?_
              obtain ⟨x874, hx875, hL860⟩ := Option.bind_eq_some_iff.1 hL860
              obtain ⟨hx875a, hx875b, hx875c⟩ := at_some hx875
              have hx875d := (List.getElem?_eq_some_iff.1 hx875b).1
              refine rs_plain 135 [] [none, none, none, none] [1, 3, 7, 63, 64, 65] [(1, 0), (17, 0), (133, 0)] h rfl rfl (by simp only [EX, simprocAttr, Nat.blt, Nat.ble, tz_22, tz_43, hb453n, hb862, hx875a, hx875b, hx875c, hx875d] <;> rfl) fun ac wd h => ?_
              obtain ⟨r878, hc879, hL860⟩ := Option.bind_eq_some_iff.1 hL860
              have hc879k := L_graph_turned_ok hc879
              refine rs_plain 140 [factE 137 hc879k] [none, none, none, none, none] [1, 3, 63, 64, 65, 73] [(1, 0), (17, 0)] h rfl rfl (by simp only [EX, simprocAttr, Nat.blt, Nat.ble, tz_3, tz_4, tz_43, tz_48, hb453n, hb862] <;> rfl) fun ac wd h => ?_
              by_cases hb880 : (mGetI l602 [r878.a0, r878.a1]) = 0
              · rw [if_pos hb880] at hL860
                have hb880t := eq_true hb880
                refine r_condT h (decide ((mGetI l602 [r878.a0, r878.a1]) = 0)) (by simp only [EX, simprocAttr, Nat.blt, Nat.ble, hb453n, hb862, hb880t] <;> rfl) (by first | rfl | (simp only [EX, simprocAttr, Nat.blt, Nat.ble, hb453n, hb862, hb880t] <;> rfl)) ?_
                refine rs_plain 141 [] [none] [2] [] h rfl rfl (by simp only [EX, simprocAttr, Nat.blt, Nat.ble, tz_4, hb453n, hb862, hb880t] <;> rfl) fun ac wd h => ?_
                refine wp_ret ?_
                injection hL860 with hL860
                subst hL860
                (try dsimp only at hD)
                injection hD with hD
                subst hD
                exact r_retE rfl h [.tmp 2] rfl (by simp only [retD, List.mapM_cons, List.mapM_nil, Option.bind_eq_bind, Option.pure_def, EX, simprocAttr, Nat.blt, Nat.ble, hb453n, hb862, hb880t] <;> rfl)
              · rw [if_neg hb880] at hL860
                refine r_condF h (decide ((mGetI l602 [r878.a0, r878.a1]) = 0)) (by simp only [EX, simprocAttr, Nat.blt, Nat.ble, hb453n, hb862, hb880] <;> rfl) (by first | rfl | (simp only [EX, simprocAttr, Nat.blt, Nat.ble, hb453n, hb862, hb880] <;> rfl)) ?_
                refine wp_skip ?_
                change Code.wp Try.prog _ _ _ _
                refine r_plain [] [none, none] [1, 3, 63, 64, 65] [(1, 0), (17, 0)] h rfl (by simp only [EX, simprocAttr, Nat.blt, Nat.ble, tz_3, hb453n, hb862, hb880] <;> rfl) fun ac wd h => ?_
                have h := h.same [1, 3, 63, 64, 65] [(1, 0), (17, 0)] 130 [(1, .one (.ptr (1, 0) 0)), (3, .one (.mp (17, 0))), (63, .one (.d (.sl (List.map eA2I a0.Links)))), (64, .one (.d (.int .i64 (a0.Links.length : Int)))), (65, .one (.d (.int .i64 (IntKind.wrap .i64 (n859 + 1)))))]
                  [((1, 0), some (.box 24 [.d (.int .i64 a0.N), .d (.sl (List.map eA2I a0.Links))])), ((17, 0), some (.map 43 3 true 2 (mE l602)))]
                  (by simp only [EX, simprocAttr, Nat.blt, Nat.ble, hb453n, hb862, hx875a, hx875b, hx875c, hx875d, hb880] <;> rfl)
                change ∃ n', _ ∧ _
                exact ⟨nf, Nat.lt_succ_self nf, (IntKind.wrap .i64 (n859 + 1)), hL860, h⟩
            · rw [if_neg hb862] at hL860
              refine r_condF h (decide (n859 < (a0.Links.length : Int))) (by simp only [EX, simprocAttr, Nat.blt, Nat.ble, hb453n, hb862] <;> rfl) (by first | rfl | (simp only [EX, simprocAttr, Nat.blt, Nat.ble, hb453n, hb862] <;> rfl)) ?_
              refine wp_exit ?_
              have h := h.same [1] [(1, 0)] 131 [(1, .one (.ptr (1, 0) 0))]
                [((1, 0), some (.box 24 [.d (.int .i64 a0.N), .d (.sl (List.map eA2I a0.Links))]))]
                (by simp only [EX, simprocAttr, Nat.blt, Nat.ble, hb453n, hb862] <;> rfl)
              injection hL860 with hL860
              exact ⟨hL860, h⟩
        · skip
          rintro ac wd ⟨rfl, h⟩
          (try dsimp only at hD)
          obtain ⟨r885, hc886, hD⟩ := Option.bind_eq_some_iff.1 hD
          obtain ⟨r887, hc888, hD⟩ := Option.bind_eq_some_iff.1 hD
          have hc886k := L_graph_Dist_ok hc886
          have hc888k := L_slices_Contains_int_int_ok hc888
          refine rs_plain 136 [factE 132 hc886k, factE 133 hc888k] [none, none, none, none, none] [2] [] h rfl rfl (by simp only [EX, simprocAttr, Nat.blt, Nat.ble, tz_3, tz_4, tz_24, tz_35, hb453n] <;> rfl) fun ac wd h => ?_
          refine wp_ret ?_
          injection hD with hD
          subst hD
          exact r_retE rfl h [.tmp 2] rfl (by simp only [retD, List.mapM_cons, List.mapM_nil, Option.bind_eq_bind, Option.pure_def, EX, simprocAttr, Nat.blt, Nat.ble, hb453n] <;> rfl)

set_option maxRecDepth 20000 in
set_option maxHeartbeats 4000000 in
theorem L_law03_Ref_ok {a0 : TGraph} {r : TGraph} (hD : L_law03_Ref a0 = some r) :
    CallH Try.prog 13 [.agg [.d (.int .i64 a0.N), .d (.sl (List.map eA2I a0.Links))]] []
      (.agg [.d (.int .i64 r.N), .d (.sl (List.map eA2I r.Links))]) [] := by
  unfold L_law03_Ref at hD
  refine r_call Try.func13 rfl Try.ntmps13 (by kernel_rfl) (by rfl) (by rfl) (by simp) fun S Φ P0 wb ac h => ?_
  refine rs_plain 3 [] [none, none] [1, 2] [(1, 0), (2, 0)] h rfl rfl (by simp only [EX, simprocAttr, Nat.blt, Nat.ble, tz_24, tz_28] <;> rfl) fun ac wd h => ?_
  refine rs_plain 9 [] [none, none, none, none, none, none] [2] [(2, 0)] h rfl rfl (by simp only [EX, simprocAttr, Nat.blt, Nat.ble, tz_3, tz_22, tz_24, tz_28, tz_43] <;> rfl) fun ac wd h => ?_
  refine wp_ret ?_
  injection hD with hD
  subst hD
  exact r_retE rfl h [.cell 2 28] rfl (by simp only [retD, List.mapM_cons, List.mapM_nil, Option.bind_eq_bind, Option.pure_def, EX, simprocAttr, Nat.blt, Nat.ble, tz_28] <;> rfl)

set_option maxRecDepth 20000 in
set_option maxHeartbeats 4000000 in
theorem L_ref03_Find_ok {a0 : TGraph} {a1 : Int} {a2 : Int} {r : Int} (hD : L_ref03_Find a0 a1 a2 = some r) :
    CallH Try.prog 24 [.agg [.d (.int .i64 a0.N), .d (.sl (List.map eA2I a0.Links))], .one (.d (.int .i64 a1)), .one (.d (.int .i64 a2))] []
      (.one (.d (.int .i64 r))) [] := by
  unfold L_ref03_Find at hD
  refine r_call Try.func24 rfl Try.ntmps24 (by kernel_rfl) (by rfl) (by rfl) (by simp) fun S Φ P0 wb ac h => ?_
  refine rs_plain 3 [] [none, none] [1, 2, 3] [(1, 0)] h rfl rfl (by simp only [EX, simprocAttr, Nat.blt, Nat.ble, tz_3, tz_28] <;> rfl) fun ac wd h => ?_
  refine wp_seq ?_
  refine rs_plain 4 [] [none] [1, 2, 3, 7] [(1, 0)] h rfl rfl (by simp only [EX, simprocAttr, Nat.blt, Nat.ble, tz_3] <;> rfl) fun ac wd h => ?_
  refine wp_block ?_
  have h := h.same [1, 2, 3, 7] [(1, 0)] 56 [(1, .one (.d (.int .i64 a1))), (2, .one (.d (.int .i64 a2))), (3, .one (.ptr (1, 0) 0)), (7, .one (.d (.int .i64 0)))]
    [((1, 0), some (.box 28 [.d (.int .i64 a0.N), .d (.sl (List.map eA2I a0.Links))]))]
    (by simp only [EX, simprocAttr, Nat.blt, Nat.ble] <;> rfl)
  refine r_while (fun nf ac wd => ∃ (n253 : Int), L_ref03_Find_l1 a0 a1 a2 nf n253 = some r ∧ SL ⟨wb, S, Φ, P0⟩ 34 56 [(1, .one (.d (.int .i64 a1))), (2, .one (.d (.int .i64 a2))), (3, .one (.ptr (1, 0) 0)), (7, .one (.d (.int .i64 n253)))] [((1, 0), some (.box 28 [.d (.int .i64 a0.N), .d (.sl (List.map eA2I a0.Links))]))] ac wd) (((a0.Links.length : Int) - 0).toNat + 1) ⟨0, hD, h⟩ (fun nf ac wd hJ => ?_)
  obtain ⟨n253, hL254, h⟩ := hJ
  cases nf with
  | zero => rw [L_ref03_Find_l1] at hL254; cases hL254
  | succ nf =>
    rw [L_ref03_Find_l1] at hL254
    refine wp_seq ?_
    refine rs_plain 61 [] [none, none, none, none, none] [1, 2, 3, 7, 12] [(1, 0)] h rfl rfl (by simp only [EX, simprocAttr, Nat.blt, Nat.ble, tz_3, tz_4, tz_22, tz_28, tz_43] <;> rfl) fun ac wd h => ?_
    by_cases hb256 : n253 < (a0.Links.length : Int)
    · rw [if_pos hb256] at hL254
      refine r_condT h (decide (n253 < (a0.Links.length : Int))) (by simp only [EX, simprocAttr, Nat.blt, Nat.ble, hb256] <;> rfl) (by first | rfl | (simp only [EX, simprocAttr, Nat.blt, Nat.ble, hb256] <;> rfl)) ?_
      refine wp_skip ?_
      change Code.wp Try.prog _ _ _ _
      refine wp_seq ?_
      refine wp_block ?_
      obtain ⟨e271, hE272, hL254⟩ := Option.bind_eq_some_iff.1 hL254
      refine r_seqJ (fun ac wd => ∃ (b270 : Bool), b270 = e271 ∧ SL ⟨wb, S, Φ, P0⟩ 34 79 [(1, .one (.d (.int .i64 a1))), (2, .one (.d (.int .i64 a2))), (3, .one (.ptr (1, 0) 0)), (7, .one (.d (.int .i64 n253))), (32, .one (.d (.bool b270)))] [((1, 0), some (.box 28 [.d (.int .i64 a0.N), .d (.sl (List.map eA2I a0.Links))]))] ac wd) ?_ ?_
      · skip
        obtain ⟨x273, hx274, hE272⟩ := Option.bind_eq_some_iff.1 hE272
        obtain ⟨hx274a, hx274b, hx274c⟩ := at_some hx274
        have hx274d := (List.getElem?_eq_some_iff.1 hx274b).1
        by_cases hb275 : x273.a0 = a1
        · rw [if_pos hb275] at hE272
          have hb275t := eq_true hb275
          refine r_plain [] [none, none, none, none, none, none, none, none, none, some (some 23, true), some (some 23, true), some (some 23, true), some (some 23, true), some (some 23, true), some (some 23, true), some (some 23, true), some (some 23, true), none] [1, 2, 3, 7, 32] [(1, 0)] h rfl (by simp only [EX, simprocAttr, Nat.blt, Nat.ble, tz_3, tz_4, tz_22, tz_28, tz_43, hb256, hb275t, hx274a, hx274b, hx274c, hx274d] <;> rfl) fun ac wd h => ?_
          have h := h.same [1, 2, 3, 7, 32] [(1, 0)] 79 [(1, .one (.d (.int .i64 a1))), (2, .one (.d (.int .i64 a2))), (3, .one (.ptr (1, 0) 0)), (7, .one (.d (.int .i64 n253))), (32, .one (.d (.bool (decide (x273.a1 = a2)))))]
            [((1, 0), some (.box 28 [.d (.int .i64 a0.N), .d (.sl (List.map eA2I a0.Links))]))]
            (by simp only [EX, simprocAttr, Nat.blt, Nat.ble, hb256, hx274a, hx274b, hx274c, hx274d, hb275t] <;> rfl)
          injection hE272 with hE272
          exact ⟨decide (x273.a1 = a2), hE272, h⟩
        · rw [if_neg hb275] at hE272
          refine r_plain [] [none, none, none, none, none, none, none, none, none, some (some 23, true), some (some 23, true), some (some 23, true), some (some 23, true), some (some 23, true), some (some 23, true), some (some 23, true), some (some 23, true), none] [1, 2, 3, 7, 32] [(1, 0)] h rfl (by simp only [EX, simprocAttr, Nat.blt, Nat.ble, tz_3, tz_4, tz_22, tz_28, tz_43, hb256, hb275, hx274a, hx274b, hx274c, hx274d] <;> rfl) fun ac wd h => ?_
          have h := h.same [1, 2, 3, 7, 32] [(1, 0)] 79 [(1, .one (.d (.int .i64 a1))), (2, .one (.d (.int .i64 a2))), (3, .one (.ptr (1, 0) 0)), (7, .one (.d (.int .i64 n253))), (32, .one (.d (.bool false)))]
            [((1, 0), some (.box 28 [.d (.int .i64 a0.N), .d (.sl (List.map eA2I a0.Links))]))]
            (by simp only [EX, simprocAttr, Nat.blt, Nat.ble, hb256, hx274a, hx274b, hx274c, hx274d, hb275] <;> rfl)
          injection hE272 with hE272
          exact ⟨false, hE272, h⟩
      · skip
        rintro ac wd ⟨b270, rfl, h⟩
        (try dsimp only at hL254)
        by_cases hb276 : b270 = true
        · rw [if_pos hb276] at hL254
          refine r_condT h b270 (by simp only [EX, simprocAttr, Nat.blt, Nat.ble, hb256, hb276] <;> rfl) (by first | rfl | (simp only [EX, simprocAttr, Nat.blt, Nat.ble, hb256, hb276] <;> rfl)) ?_
          refine rs_plain 81 [] [none, none] [6] [] h rfl rfl (by simp only [EX, simprocAttr, Nat.blt, Nat.ble, tz_3, hb256, hb276] <;> rfl) fun ac wd h => ?_
          refine wp_ret ?_
          injection hL254 with hL254
          subst hL254
          exact r_retE rfl h [.tmp 6] rfl (by simp only [retD, List.mapM_cons, List.mapM_nil, Option.bind_eq_bind, Option.pure_def, EX, simprocAttr, Nat.blt, Nat.ble, hb256, hb276] <;> rfl)
        · rw [if_neg hb276] at hL254
          have hb276n := eq_false_of_ne_true hb276
          refine r_condF h b270 (by simp only [EX, simprocAttr, Nat.blt, Nat.ble, hb256, hb276n] <;> rfl) (by first | rfl | (simp only [EX, simprocAttr, Nat.blt, Nat.ble, hb256, hb276n] <;> rfl)) ?_
          refine wp_skip ?_
          change Code.wp Try.prog _ _ _ _
          refine r_plain [] [none, none, none] [1, 2, 3, 7] [(1, 0)] h rfl (by simp only [EX, simprocAttr, Nat.blt, Nat.ble, tz_3, hb256, hb276n] <;> rfl) fun ac wd h => ?_
          have h := h.same [1, 2, 3, 7] [(1, 0)] 56 [(1, .one (.d (.int .i64 a1))), (2, .one (.d (.int .i64 a2))), (3, .one (.ptr (1, 0) 0)), (7, .one (.d (.int .i64 (IntKind.wrap .i64 (n253 + 1)))))]
            [((1, 0), some (.box 28 [.d (.int .i64 a0.N), .d (.sl (List.map eA2I a0.Links))]))]
            (by simp only [EX, simprocAttr, Nat.blt, Nat.ble, hb256, hb276n] <;> rfl)
          change ∃ n', _ ∧ _
          exact ⟨nf, Nat.lt_succ_self nf, (IntKind.wrap .i64 (n253 + 1)), hL254, h⟩
    · rw [if_neg hb256] at hL254
      refine r_condF h (decide (n253 < (a0.Links.length : Int))) (by simp only [EX, simprocAttr, Nat.blt, Nat.ble, hb256] <;> rfl) (by first | rfl | (simp only [EX, simprocAttr, Nat.blt, Nat.ble, hb256] <;> rfl)) ?_
      refine wp_exit ?_
      change Code.wp Try.prog _ _ _ _
      refine rs_plain 62 [] [none] [6] [] h rfl rfl (by simp only [EX, simprocAttr, Nat.blt, Nat.ble, tz_3, hb256] <;> rfl) fun ac wd h => ?_
      refine wp_ret ?_
      injection hL254 with hL254
      subst hL254
      exact r_retE rfl h [.tmp 6] rfl (by simp only [retD, List.mapM_cons, List.mapM_nil, Option.bind_eq_bind, Option.pure_def, EX, simprocAttr, Nat.blt, Nat.ble, hb256] <;> rfl)

end Go.Proofs.Yteohodhcegbmmaa
