/- Functions as typed ones, and that the program's functions answer as these do. No condition. -/
import Derived.Test.YtkjihlonnhfidaaGd
set_option linter.unusedSimpArgs false
set_option linter.unusedVariables false
namespace Go.Proofs.Ytkjihlonnhfidaa
open Go.RowKit

set_option maxRecDepth 20000 in
set_option maxHeartbeats 4000000 in
theorem L_law10_ends_own {a0 : Int} {a1 : Int} {r : THost} (hD : L_law10_ends a0 a1 = some r) :
    CallH Try.prog 9 [.one (.d (.int .u8 a0)), .one (.d (.int .u8 a1))] []
      (.agg [.d (.int .i64 r.Node), .d (.int .i64 r.State), .d (.int .i64 r.Steps), .own (1, 0) r.In.length, .own (1, 1) r.Out.length]) [((1, 0), some (.row 57 1 (openRows cols_57 (List.map (eL eTMsg) r.In)))), ((1, 1), some (.row 29 1 (openRows cols_29 (List.map (eL eI) r.Out))))] := by
  unfold L_law10_ends at hD
  refine r_call Try.func9 rfl Try.ntmps9 (by kernel_rfl) (by rfl) (by simp only [shutB, EX, simprocAttr, Nat.blt, Nat.ble] <;> rfl) (by simp) fun S Φ P0 wb ac h => ?_
  refine rs_plain 2 [] [none] [0, 1, 4] [(1, 0)] h rfl rfl (by simp only [EX, simprocAttr, Nat.blt, Nat.ble, tz_26] <;> rfl) fun ac wd h => ?_
  refine rs_plain 6 [] [none, none, none, none] [1, 4, 5] [(1, 0)] h rfl rfl (by simp only [EX, simprocAttr, Nat.blt, Nat.ble, tz_3, tz_5] <;> rfl) fun ac wd h => ?_
  by_cases ha10 : 0 ≤ ((IntKind.wrap .i64 a0).tmod 6)
  case neg => rw [if_neg ha10] at hD; cases hD
  rw [if_pos ha10] at hD
  by_cases ha11 : 24 * (((IntKind.wrap .i64 a0).tmod 6).toNat) ≤ 140737488355328
  case neg => rw [if_neg ha11] at hD; cases hD
  rw [if_pos ha11] at hD
  by_cases ha12 : (((IntKind.wrap .i64 a0).tmod 6).toNat) ≤ 140737488355328
  case neg => rw [if_neg ha12] at hD; cases hD
  rw [if_pos ha12] at hD
  refine rs_drawn 14 ty_hm [] [none, none, none, none, none, none, none, none] [4] [(1, 0), (9, 0), (11, 0)] h rfl rfl (by simp only [EX, simprocAttr, Nat.blt, Nat.ble, tz_2, tz_3, tz_4, tz_5, tz_23, tz_24, tz_26, tz_29, tz_38, tz_57, ha10, ha11, ha12] <;> rfl) (by kernel_rfl) fun ac wd h => ?_
  have h := h.nilTr (9, 0) (l := List.replicate (((IntKind.wrap .i64 a0).tmod 6).toNat) [.nil]) (l' := List.replicate (((IntKind.wrap .i64 a0).tmod 6).toNat) [.tr (.sl 38 2 (fun _ => .sc)) (.sl (List.map eTMsg []))]) (by simp only [EX, simprocAttr, Nat.blt, Nat.ble, ha10, ha11, ha12] <;> rfl) (RowsTo.rep (RowTo.cons (.inr (.inr ⟨rfl, _, _, _, rfl⟩)) RowTo.nil) _)
  have h := h.same [4] [(1, 0), (9, 0), (11, 0)] 14 [(4, .one (.ptr (1, 0) 0))]
    [((1, 0), some (.box 26 [.d (.int .i64 1), .d (.int .i64 2), .d (.int .i64 (IntKind.wrap .i64 a1)), .own (9, 0) (((IntKind.wrap .i64 a0).tmod 6).toNat), .own (11, 0) (((IntKind.wrap .i64 a0).tmod 6).toNat)])), ((9, 0), some (.row 57 1 (List.replicate (((IntKind.wrap .i64 a0).tmod 6).toNat) [.tr (.sl 38 2 (fun _ => .sc)) (.sl (List.map eTMsg []))]))), ((11, 0), some (.row 29 1 (List.replicate (((IntKind.wrap .i64 a0).tmod 6).toNat) [.nil])))]
    (by simp only [EX, simprocAttr, Nat.blt, Nat.ble, ha10, ha11, ha12, dat_open] <;> rfl)
  have h := h.nilTr (11, 0) (l := List.replicate (((IntKind.wrap .i64 a0).tmod 6).toNat) [.nil]) (l' := List.replicate (((IntKind.wrap .i64 a0).tmod 6).toNat) [.tr (.sl 3 1 (fun _ => .sc)) (.sl (List.map eI []))]) (by simp only [EX, simprocAttr, Nat.blt, Nat.ble, ha10, ha11, ha12] <;> rfl) (RowsTo.rep (RowTo.cons (.inr (.inr ⟨rfl, _, _, _, rfl⟩)) RowTo.nil) _)
  have h := h.same [4] [(1, 0), (9, 0), (11, 0)] 14 [(4, .one (.ptr (1, 0) 0))]
    [((1, 0), some (.box 26 [.d (.int .i64 1), .d (.int .i64 2), .d (.int .i64 (IntKind.wrap .i64 a1)), .own (9, 0) (((IntKind.wrap .i64 a0).tmod 6).toNat), .own (11, 0) (((IntKind.wrap .i64 a0).tmod 6).toNat)])), ((9, 0), some (.row 57 1 (openRows cols_57 (List.map (eL eTMsg) (List.replicate (((IntKind.wrap .i64 a0).tmod 6).toNat) []))))), ((11, 0), some (.row 29 1 (List.replicate (((IntKind.wrap .i64 a0).tmod 6).toNat) [.tr (.sl 3 1 (fun _ => .sc)) (.sl (List.map eI []))])))]
    (by simp only [EX, simprocAttr, Nat.blt, Nat.ble, ha10, ha11, ha12, dat_open] <;> rfl)
  refine wp_ret ?_
  have h := h.same [4] [(1, 0), (9, 0), (11, 0)] 14 [(4, .one (.ptr (1, 0) 0))]
    [((1, 0), some (.box 26 [.d (.int .i64 1), .d (.int .i64 2), .d (.int .i64 (IntKind.wrap .i64 a1)), .own (9, 0) (((IntKind.wrap .i64 a0).tmod 6).toNat), .own (11, 0) (((IntKind.wrap .i64 a0).tmod 6).toNat)])), ((9, 0), some (.row 57 1 (openRows cols_57 (List.map (eL eTMsg) (List.replicate (((IntKind.wrap .i64 a0).tmod 6).toNat) []))))), ((11, 0), some (.row 29 1 (openRows cols_29 (List.map (eL eI) (List.replicate (((IntKind.wrap .i64 a0).tmod 6).toNat) [])))))]
    (by simp only [EX, simprocAttr, Nat.blt, Nat.ble, ha10, ha11, ha12, dat_open] <;> rfl)
  have h := SL.swap h (1, 0) (9, 0) 14 (by decide) (by decide) (by simp only [EX, simprocAttr, Nat.blt, Nat.ble, ha10, ha11, ha12, fren, mren, AV.ren, AObj.ren, Cell.ren, sumRen, Upd.ren, swp, csw, dat_ren, opn_ren] <;> rfl) (by simp only [EX, simprocAttr, Nat.blt, Nat.ble, ha10, ha11, ha12, fren, mren, AV.ren, AObj.ren, Cell.ren, sumRen, Upd.ren, swp, csw, dat_ren, opn_ren] <;> rfl) (by simp only [EX, simprocAttr, Nat.blt, Nat.ble, ha10, ha11, ha12, fren, mren, AV.ren, AObj.ren, Cell.ren, sumRen, Upd.ren, swp, csw, dat_ren, opn_ren] <;> rfl)
  have h := h.same [4] [(1, 0), (9, 0), (11, 0)] 14 [(4, .one (.ptr (9, 0) 0))]
    [((1, 0), some (.row 57 1 (openRows cols_57 (List.map (eL eTMsg) (List.replicate (((IntKind.wrap .i64 a0).tmod 6).toNat) []))))), ((9, 0), some (.box 26 [.d (.int .i64 1), .d (.int .i64 2), .d (.int .i64 (IntKind.wrap .i64 a1)), .own (1, 0) (((IntKind.wrap .i64 a0).tmod 6).toNat), .own (11, 0) (((IntKind.wrap .i64 a0).tmod 6).toNat)])), ((11, 0), some (.row 29 1 (openRows cols_29 (List.map (eL eI) (List.replicate (((IntKind.wrap .i64 a0).tmod 6).toNat) [])))))]
    (by simp only [EX, simprocAttr, Nat.blt, Nat.ble, ha10, ha11, ha12, dat_open] <;> rfl)
  have h := SL.swap h (1, 1) (11, 0) 14 (by decide) (by decide) (by simp only [EX, simprocAttr, Nat.blt, Nat.ble, ha10, ha11, ha12, fren, mren, AV.ren, AObj.ren, Cell.ren, sumRen, Upd.ren, swp, csw, dat_ren, opn_ren] <;> rfl) (by simp only [EX, simprocAttr, Nat.blt, Nat.ble, ha10, ha11, ha12, fren, mren, AV.ren, AObj.ren, Cell.ren, sumRen, Upd.ren, swp, csw, dat_ren, opn_ren] <;> rfl) (by simp only [EX, simprocAttr, Nat.blt, Nat.ble, ha10, ha11, ha12, fren, mren, AV.ren, AObj.ren, Cell.ren, sumRen, Upd.ren, swp, csw, dat_ren, opn_ren] <;> rfl)
  have h := h.same [4] [(1, 0), (1, 1), (9, 0)] 14 [(4, .one (.ptr (9, 0) 0))]
    [((1, 0), some (.row 57 1 (openRows cols_57 (List.map (eL eTMsg) (List.replicate (((IntKind.wrap .i64 a0).tmod 6).toNat) []))))), ((1, 1), some (.row 29 1 (openRows cols_29 (List.map (eL eI) (List.replicate (((IntKind.wrap .i64 a0).tmod 6).toNat) []))))), ((9, 0), some (.box 26 [.d (.int .i64 1), .d (.int .i64 2), .d (.int .i64 (IntKind.wrap .i64 a1)), .own (1, 0) (((IntKind.wrap .i64 a0).tmod 6).toNat), .own (1, 1) (((IntKind.wrap .i64 a0).tmod 6).toNat)]))]
    (by simp only [EX, simprocAttr, Nat.blt, Nat.ble, ha10, ha11, ha12, dat_open] <;> rfl)
  injection hD with hD
  subst hD
  exact r_retO rfl h [.cell 4 26] rfl [(1, 0), (1, 1)] (by simp only [retO, List.mapM_cons, List.mapM_nil, Option.bind_eq_bind, Option.pure_def, EX, simprocAttr, Nat.blt, Nat.ble, tz_26, ha10, ha11, ha12] <;> rfl)
theorem L_law10_ends_ok {a0 : Int} {a1 : Int} {r : THost} (hD : L_law10_ends a0 a1 = some r) :
    CallH Try.prog 9 [.one (.d (.int .u8 a0)), .one (.d (.int .u8 a1))] []
      (.agg [.d (.int .i64 r.Node), .d (.int .i64 r.State), .d (.int .i64 r.Steps), .d (.sl (List.map (eL eTMsg) r.In)), .d (.sl (List.map (eL eI) r.Out))]) [] :=
  (L_law10_ends_own hD).frz (by simp only [EX, simprocAttr, Nat.blt, Nat.ble] <;> rfl) (by simp only [frzA, frzSum, EX, simprocAttr, Nat.blt, Nat.ble] <;> rfl) rfl

set_option maxRecDepth 20000 in
set_option maxHeartbeats 4000000 in
theorem L_math_bits_Mul64_ok {a0 : Int} {a1 : Int} {r : Int × Int} (hD : L_math_bits_Mul64 a0 a1 = some r) :
    CallH Try.prog 42 [.one (.d (.int .u64 a0)), .one (.d (.int .u64 a1))] []
      (.tup [.inr (.d (.int .u64 r.1)), .inr (.d (.int .u64 r.2))]) [] := by
  unfold L_math_bits_Mul64 at hD
  refine r_call Try.func42 rfl Try.ntmps42 (by kernel_rfl) (by rfl) (by rfl) (by simp) fun S Φ P0 wb ac h => ?_
  refine rs_plain 3 [] [none, none] [0, 1] [] h rfl rfl (by simp only [EX, simprocAttr, Nat.blt, Nat.ble, tz_86] <;> rfl) fun ac wd h => ?_
  refine rs_plain 6 [] [none, none, none] [0, 1, 6] [] h rfl rfl (by simp only [EX, simprocAttr, Nat.blt, Nat.ble, tz_86] <;> rfl) fun ac wd h => ?_
  refine rs_plain 9 [] [none, none, none] [0, 1, 6, 7] [] h rfl rfl (by simp only [EX, simprocAttr, Nat.blt, Nat.ble, tz_75, tz_86] <;> rfl) fun ac wd h => ?_
  refine rs_plain 12 [] [none, none, none] [0, 1, 6, 7, 8] [] h rfl rfl (by simp only [EX, simprocAttr, Nat.blt, Nat.ble, tz_86] <;> rfl) fun ac wd h => ?_
  refine rs_plain 15 [] [none, none, none] [0, 1, 6, 7, 8, 9] [] h rfl rfl (by simp only [EX, simprocAttr, Nat.blt, Nat.ble, tz_75, tz_86] <;> rfl) fun ac wd h => ?_
  refine rs_plain 19 [] [none, none, none, none] [0, 1, 6, 7, 8, 9, 10] [] h rfl rfl (by simp only [EX, simprocAttr, Nat.blt, Nat.ble, tz_86] <;> rfl) fun ac wd h => ?_
  refine rs_plain 26 [] [none, none, none, none, none, none, none] [0, 1, 6, 7, 9, 11] [] h rfl rfl (by simp only [EX, simprocAttr, Nat.blt, Nat.ble, tz_75, tz_86] <;> rfl) fun ac wd h => ?_
  refine rs_plain 29 [] [none, none, none] [0, 1, 6, 7, 9, 11, 12] [] h rfl rfl (by simp only [EX, simprocAttr, Nat.blt, Nat.ble, tz_86] <;> rfl) fun ac wd h => ?_
  refine rs_plain 32 [] [none, none, none] [0, 1, 6, 7, 9, 12, 13] [] h rfl rfl (by simp only [EX, simprocAttr, Nat.blt, Nat.ble, tz_75, tz_86] <;> rfl) fun ac wd h => ?_
  refine rs_plain 38 [] [none, none, none, none, none, none] [0, 1, 7, 9, 12, 13] [] h rfl rfl (by simp only [EX, simprocAttr, Nat.blt, Nat.ble, tz_86] <;> rfl) fun ac wd h => ?_
  refine rs_plain 47 [] [none, none, none, none, none, none, none, none, none] [0, 1, 4] [] h rfl rfl (by simp only [EX, simprocAttr, Nat.blt, Nat.ble, tz_75, tz_86] <;> rfl) fun ac wd h => ?_
  refine rs_plain 51 [] [none, none, none, none] [4, 5] [] h rfl rfl (by simp only [EX, simprocAttr, Nat.blt, Nat.ble, tz_86] <;> rfl) fun ac wd h => ?_
  refine wp_ret ?_
  injection hD with hD
  subst hD
  exact r_retE rfl h [.tmp 4, .tmp 5] rfl (by simp only [retD, List.mapM_cons, List.mapM_nil, Option.bind_eq_bind, Option.pure_def, EX, simprocAttr, Nat.blt, Nat.ble] <;> rfl)

set_option maxRecDepth 20000 in
set_option maxHeartbeats 4000000 in
theorem L_math_bits_Mul_ok {a0 : Int} {a1 : Int} {r : Int × Int} (hD : L_math_bits_Mul a0 a1 = some r) :
    CallH Try.prog 35 [.one (.d (.int .u64 a0)), .one (.d (.int .u64 a1))] []
      (.tup [.inr (.d (.int .u64 r.1)), .inr (.d (.int .u64 r.2))]) [] := by
  unfold L_math_bits_Mul at hD
  refine r_call Try.func35 rfl Try.ntmps35 (by kernel_rfl) (by rfl) (by rfl) (by simp) fun S Φ P0 wb ac h => ?_
  refine rs_plain 3 [] [none, none] [0, 1] [] h rfl rfl (by simp only [EX, simprocAttr, Nat.blt, Nat.ble, tz_75] <;> rfl) fun ac wd h => ?_
  refine wp_seq ?_
  refine r_condF h false (by simp only [EX, simprocAttr, Nat.blt, Nat.ble] <;> rfl) (by first | rfl | (simp only [EX, simprocAttr, Nat.blt, Nat.ble] <;> rfl)) ?_
  refine wp_skip ?_
  change Code.wp Try.prog _ _ _ _
  obtain ⟨r7, hc8, hD⟩ := Option.bind_eq_some_iff.1 hD
  have hc8k := L_math_bits_Mul64_ok hc8
  refine rs_plain 11 [factE 5 hc8k] [none, none, none, none, none, none, none, none] [8, 9] [] h rfl rfl (by simp only [EX, simprocAttr, Nat.blt, Nat.ble, tz_75, tz_86] <;> rfl) fun ac wd h => ?_
  refine rs_plain 15 [] [none, none, none, none] [4, 5] [] h rfl rfl (by simp only [EX, simprocAttr, Nat.blt, Nat.ble, tz_75, tz_86] <;> rfl) fun ac wd h => ?_
  refine wp_ret ?_
  injection hD with hD
  subst hD
  exact r_retE rfl h [.tmp 4, .tmp 5] rfl (by simp only [retD, List.mapM_cons, List.mapM_nil, Option.bind_eq_bind, Option.pure_def, EX, simprocAttr, Nat.blt, Nat.ble] <;> rfl)

set_option maxRecDepth 20000 in
set_option maxHeartbeats 4000000 in
theorem L_slices_Repeat_bool_bool_own {a0 : (List Bool)} {a1 : Int} {r : (List Bool)} (hD : L_slices_Repeat_bool_bool a0 a1 = some r) :
    CallH Try.prog 29 [.one (.d (.sl (List.map eB a0))), .one (.d (.int .i64 a1))] []
      (.one (.own (1, 0) r.length)) [((1, 0), some (.row 4 1 (dat (List.map eB r))))] := by
  unfold L_slices_Repeat_bool_bool at hD
  refine r_call Try.func29 rfl Try.ntmps29 (by kernel_rfl) (by rfl) (by simp only [shutB, EX, simprocAttr, Nat.blt, Nat.ble] <;> rfl) (by simp) fun S Φ P0 wb ac h => ?_
  refine rs_plain 2 [] [none] [0, 1] [] h rfl rfl (by simp only [EX, simprocAttr, Nat.blt, Nat.ble, tz_4, tz_28] <;> rfl) fun ac wd h => ?_
  refine wp_seq ?_
  refine rs_plain 4 [] [none, none] [0, 1, 10] [] h rfl rfl (by simp only [EX, simprocAttr, Nat.blt, Nat.ble, tz_3, tz_4] <;> rfl) fun ac wd h => ?_
  by_cases hb94 : a1 < 0
  · rw [if_pos hb94] at hD
    refine r_condT h (decide (a1 < 0)) (by simp only [EX, simprocAttr, Nat.blt, Nat.ble, hb94] <;> rfl) (by first | rfl | (simp only [EX, simprocAttr, Nat.blt, Nat.ble, hb94] <;> rfl)) ?_
    cases hD
  · rw [if_neg hb94] at hD
    refine r_condF h (decide (a1 < 0)) (by simp only [EX, simprocAttr, Nat.blt, Nat.ble, hb94] <;> rfl) (by first | rfl | (simp only [EX, simprocAttr, Nat.blt, Nat.ble, hb94] <;> rfl)) ?_
    refine wp_skip ?_
    change Code.wp Try.prog _ _ _ _
    obtain ⟨r97, hc98, hD⟩ := Option.bind_eq_some_iff.1 hD
    have hc98k := L_math_bits_Mul_ok hc98
    refine rs_plain 15 [factE 9 hc98k] [none, none, none, none, none, none, none, none, none, none, none] [0, 5, 6] [] h rfl rfl (by simp only [EX, simprocAttr, Nat.blt, Nat.ble, tz_3, tz_4, tz_28, tz_75, hb94] <;> rfl) fun ac wd h => ?_
    refine wp_seq ?_
    obtain ⟨e101, hE102, hD⟩ := Option.bind_eq_some_iff.1 hD
    refine r_seqJ (fun ac wd => ∃ (b100 : Bool), b100 = e101 ∧ SL ⟨wb, S, Φ, P0⟩ 48 21 [(0, .one (.d (.sl (List.map eB a0)))), (6, .one (.d (.int .u64 r97.2))), (26, .one (.d (.bool b100)))] [] ac wd) ?_ ?_
    · skip
      by_cases hb103 : r97.1 > 0
      · rw [if_pos hb103] at hE102
        refine r_plain [] [none, none, none, some (some 23, false), some (some 23, false), none] [0, 6, 26] [] h rfl (by simp only [EX, simprocAttr, Nat.blt, Nat.ble, tz_4, tz_75, hb94, hb103] <;> rfl) fun ac wd h => ?_
        have h := h.same [0, 6, 26] [] 21 [(0, .one (.d (.sl (List.map eB a0)))), (6, .one (.d (.int .u64 r97.2))), (26, .one (.d (.bool true)))]
          []
          (by simp only [EX, simprocAttr, Nat.blt, Nat.ble, hb94, hb103] <;> rfl)
        injection hE102 with hE102
        exact ⟨true, hE102, h⟩
      · rw [if_neg hb103] at hE102
        refine r_plain [] [none, none, none, some (some 23, false), some (some 23, false), none] [0, 6, 26] [] h rfl (by simp only [EX, simprocAttr, Nat.blt, Nat.ble, tz_4, tz_75, hb94, hb103] <;> rfl) fun ac wd h => ?_
        have h := h.same [0, 6, 26] [] 21 [(0, .one (.d (.sl (List.map eB a0)))), (6, .one (.d (.int .u64 r97.2))), (26, .one (.d (.bool (decide (r97.2 > 9223372036854775807)))))]
          []
          (by simp only [EX, simprocAttr, Nat.blt, Nat.ble, hb94, hb103] <;> rfl)
        injection hE102 with hE102
        exact ⟨decide (r97.2 > 9223372036854775807), hE102, h⟩
    · skip
      rintro ac wd ⟨b100, rfl, h⟩
      (try dsimp only at hD)
      by_cases hb105 : b100 = true
      · rw [if_pos hb105] at hD
        refine r_condT h b100 (by simp only [EX, simprocAttr, Nat.blt, Nat.ble, hb94, hb105] <;> rfl) (by first | rfl | (simp only [EX, simprocAttr, Nat.blt, Nat.ble, hb94, hb105] <;> rfl)) ?_
        cases hD
      · rw [if_neg hb105] at hD
        have hb105n := eq_false_of_ne_true hb105
        refine r_condF h b100 (by simp only [EX, simprocAttr, Nat.blt, Nat.ble, hb94, hb105n] <;> rfl) (by first | rfl | (simp only [EX, simprocAttr, Nat.blt, Nat.ble, hb94, hb105n] <;> rfl)) ?_
        refine wp_skip ?_
        change Code.wp Try.prog _ _ _ _
        by_cases ha109 : 0 ≤ (IntKind.wrap .i64 r97.2)
        case neg => rw [if_neg ha109] at hD; cases hD
        rw [if_pos ha109] at hD
        by_cases ha110 : 1 * ((IntKind.wrap .i64 r97.2).toNat) ≤ 140737488355328
        case neg => rw [if_neg ha110] at hD; cases hD
        rw [if_pos ha110] at hD
        by_cases ha111 : ((IntKind.wrap .i64 r97.2).toNat) ≤ 140737488355328
        case neg => rw [if_neg ha111] at hD; cases hD
        rw [if_pos ha111] at hD
        refine rs_plain 25 [] [none, none, none, none] [0, 7] [(23, 0)] h rfl rfl (by simp only [EX, simprocAttr, Nat.blt, Nat.ble, tz_3, tz_4, tz_28, tz_75, hb94, hb105n, ha109, ha110, ha111] <;> rfl) fun ac wd h => ?_
        obtain ⟨v115, hv116, hD⟩ := Option.bind_eq_some_iff.1 hD
        injection hv116 with hv116
        have h := h.same [0, 7] [(23, 0)] 25 [(0, .one (.d (.sl (List.map eB a0)))), (7, .one (.own (23, 0) v115.length))]
          [((23, 0), some (.row 4 1 (dat (List.map eB v115))))]
          (by simp only [EX, simprocAttr, Nat.blt, Nat.ble, hb94, hb105n, ha109, ha110, ha111, dat_open, ← hv116] <;> rfl)
        have hl117 : ((a0.take v115.length) ++ v115.drop (a0.take v115.length).length).length = v115.length := by simp only [List.append_assoc, List.length_append, List.length_take, List.length_drop]; omega
        simp only [List.append_assoc, List.length_append, List.length_take, List.length_drop] at hl117
        refine rs_plain 29 [] [none, none, none, none] [7, 8] [(23, 0)] h rfl rfl (by simp only [EX, simprocAttr, Nat.blt, Nat.ble, tz_3, tz_4, tz_28, hb94, hb105n, ha109, ha110, ha111] <;> rfl) fun ac wd h => ?_
        refine wp_seq ?_
        refine wp_block ?_
        have h := h.same [7, 8] [(23, 0)] 57 [(7, .one (.own (23, 0) ((a0.take v115.length) ++ v115.drop (a0.take v115.length).length).length)), (8, .one (.d (.int .i64 ((Nat.min a0.length v115.length : Nat) : Int))))]
          [((23, 0), some (.row 4 1 (dat (List.map eB ((a0.take v115.length) ++ v115.drop (a0.take v115.length).length)))))]
          (by simp only [EX, simprocAttr, Nat.blt, Nat.ble, hb94, hb105n, ha109, ha110, ha111, hl117] <;> rfl)
        refine r_while (fun nf ac wd => ∃ (n172 : Int) (l173 : List Bool), L_slices_Repeat_bool_bool_l1 nf n172 l173 = some r ∧ SL ⟨wb, S, Φ, P0⟩ 48 57 [(7, .one (.own (23, 0) l173.length)), (8, .one (.d (.int .i64 n172)))] [((23, 0), some (.row 4 1 (dat (List.map eB l173))))] ac wd) (((((a0.take v115.length) ++ v115.drop (a0.take v115.length).length).length : Int) - ((Nat.min a0.length v115.length : Nat) : Int)).toNat + 1) ⟨((Nat.min a0.length v115.length : Nat) : Int), ((a0.take v115.length) ++ v115.drop (a0.take v115.length).length), hD, h⟩ (fun nf ac wd hJ => ?_)
        obtain ⟨n172, l173, hL174, h⟩ := hJ
        cases nf with
        | zero => rw [L_slices_Repeat_bool_bool_l1] at hL174; cases hL174
        | succ nf =>
          rw [L_slices_Repeat_bool_bool_l1] at hL174
          refine wp_seq ?_
          refine rs_plain 61 [] [none, none, none, none] [7, 8, 37] [(23, 0)] h rfl rfl (by simp only [EX, simprocAttr, Nat.blt, Nat.ble, tz_3, tz_4, tz_28, hb94, hb105n, ha109, ha110, ha111] <;> rfl) fun ac wd h => ?_
          by_cases hb176 : n172 < (l173.length : Int)
          · rw [if_pos hb176] at hL174
            refine r_condT h (decide (n172 < (l173.length : Int))) (by simp only [EX, simprocAttr, Nat.blt, Nat.ble, hb94, hb105n, ha109, ha110, ha111, hb176] <;> rfl) (by first | rfl | (simp only [EX, simprocAttr, Nat.blt, Nat.ble, hb94, hb105n, ha109, ha110, ha111, hb176] <;> rfl)) ?_
            refine wp_skip ?_
            change Code.wp Try.prog _ _ _ _
            refine wp_block ?_
            by_cases ha177 : 0 ≤ n172
            case neg => rw [if_neg ha177] at hL174; cases hL174
            rw [if_pos ha177] at hL174
            by_cases ha178 : n172 ≤ (l173.length : Int)
            case neg => rw [if_neg ha178] at hL174; cases hL174
            rw [if_pos ha178] at hL174
            have hq179 : n172.toNat + (l173.length - n172.toNat) ≤ l173.length := by omega
            have hq180 : ¬ l173.length = n172.toNat := by omega
            have hq181 : n172.toNat ≤ l173.length := by omega
            have hl182 : (l173.take n172.toNat ++ ((l173.take n172.toNat).take (((l173.drop n172.toNat).take (l173.length - n172.toNat)).length)) ++ l173.drop (n172.toNat + ((l173.take n172.toNat).take (((l173.drop n172.toNat).take (l173.length - n172.toNat)).length)).length)).length = l173.length := by simp only [List.append_assoc, List.length_append, List.length_take, List.length_drop]; omega
            simp only [List.append_assoc, List.length_append, List.length_take, List.length_drop] at hl182
            refine r_drawn ty_hm [] [none, none, none, none, none, none, none, none, none, none] [7, 8] [(23, 0)] h rfl (by simp only [EX, simprocAttr, Nat.blt, Nat.ble, tz_3, tz_4, tz_28, hb94, hb105n, ha109, ha110, ha111, hb176, ha177, ha178, hq179, hq180, hq181] <;> rfl) (by kernel_rfl) fun ac wd h => ?_
            have h := h.same [7, 8] [(23, 0)] 57 [(7, .one (.own (23, 0) (l173.take n172.toNat ++ ((l173.take n172.toNat).take (((l173.drop n172.toNat).take (l173.length - n172.toNat)).length)) ++ l173.drop (n172.toNat + ((l173.take n172.toNat).take (((l173.drop n172.toNat).take (l173.length - n172.toNat)).length)).length)).length)), (8, .one (.d (.int .i64 (IntKind.wrap .i64 (n172 + ((Nat.min (l173.take n172.toNat).length (((l173.drop n172.toNat).take (l173.length - n172.toNat)).length) : Nat) : Int))))))]
              [((23, 0), some (.row 4 1 (dat (List.map eB (l173.take n172.toNat ++ ((l173.take n172.toNat).take (((l173.drop n172.toNat).take (l173.length - n172.toNat)).length)) ++ l173.drop (n172.toNat + ((l173.take n172.toNat).take (((l173.drop n172.toNat).take (l173.length - n172.toNat)).length)).length))))))]
              (by simp only [EX, simprocAttr, Nat.blt, Nat.ble, hb94, hb105n, ha109, ha110, ha111, hl117, hb176, ha177, ha178, hq179, hq180, hq181, hl182] <;> rfl)
            change ∃ n', _ ∧ _
            exact ⟨nf, Nat.lt_succ_self nf, (IntKind.wrap .i64 (n172 + ((Nat.min (l173.take n172.toNat).length (((l173.drop n172.toNat).take (l173.length - n172.toNat)).length) : Nat) : Int))), (l173.take n172.toNat ++ ((l173.take n172.toNat).take (((l173.drop n172.toNat).take (l173.length - n172.toNat)).length)) ++ l173.drop (n172.toNat + ((l173.take n172.toNat).take (((l173.drop n172.toNat).take (l173.length - n172.toNat)).length)).length)), hL174, h⟩
          · rw [if_neg hb176] at hL174
            refine r_condF h (decide (n172 < (l173.length : Int))) (by simp only [EX, simprocAttr, Nat.blt, Nat.ble, hb94, hb105n, ha109, ha110, ha111, hb176] <;> rfl) (by first | rfl | (simp only [EX, simprocAttr, Nat.blt, Nat.ble, hb94, hb105n, ha109, ha110, ha111, hb176] <;> rfl)) ?_
            refine wp_exit ?_
            change Code.wp Try.prog _ _ _ _
            refine rs_plain 63 [] [none, none] [4] [(23, 0)] h rfl rfl (by simp only [EX, simprocAttr, Nat.blt, Nat.ble, tz_4, tz_28, hb94, hb105n, ha109, ha110, ha111, hb176] <;> rfl) fun ac wd h => ?_
            refine wp_ret ?_
            have h := h.same [4] [(23, 0)] 63 [(4, .one (.own (23, 0) l173.length))]
              [((23, 0), some (.row 4 1 (dat (List.map eB l173))))]
              (by simp only [EX, simprocAttr, Nat.blt, Nat.ble, hb94, hb105n, ha109, ha110, ha111, hl117, hb176, dat_open] <;> rfl)
            have h := SL.swap h (1, 0) (23, 0) 63 (by decide) (by decide) (by simp only [EX, simprocAttr, Nat.blt, Nat.ble, hb94, hb105n, ha109, ha110, ha111, hl117, hb176, fren, mren, AV.ren, AObj.ren, Cell.ren, sumRen, Upd.ren, swp, csw, dat_ren, opn_ren] <;> rfl) (by simp only [EX, simprocAttr, Nat.blt, Nat.ble, hb94, hb105n, ha109, ha110, ha111, hl117, hb176, fren, mren, AV.ren, AObj.ren, Cell.ren, sumRen, Upd.ren, swp, csw, dat_ren, opn_ren] <;> rfl) (by simp only [EX, simprocAttr, Nat.blt, Nat.ble, hb94, hb105n, ha109, ha110, ha111, hl117, hb176, fren, mren, AV.ren, AObj.ren, Cell.ren, sumRen, Upd.ren, swp, csw, dat_ren, opn_ren] <;> rfl)
            have h := h.same [4] [(1, 0)] 63 [(4, .one (.own (1, 0) l173.length))]
              [((1, 0), some (.row 4 1 (dat (List.map eB l173))))]
              (by simp only [EX, simprocAttr, Nat.blt, Nat.ble, hb94, hb105n, ha109, ha110, ha111, hl117, hb176, dat_open] <;> rfl)
            injection hL174 with hL174
            subst hL174
            exact r_retO rfl h [.tmp 4] rfl [(1, 0)] (by simp only [retO, List.mapM_cons, List.mapM_nil, Option.bind_eq_bind, Option.pure_def, EX, simprocAttr, Nat.blt, Nat.ble, hb94, hb105n, ha109, ha110, ha111, hb176] <;> rfl)
theorem L_slices_Repeat_bool_bool_ok {a0 : (List Bool)} {a1 : Int} {r : (List Bool)} (hD : L_slices_Repeat_bool_bool a0 a1 = some r) :
    CallH Try.prog 29 [.one (.d (.sl (List.map eB a0))), .one (.d (.int .i64 a1))] []
      (.one (.d (.sl (List.map eB r)))) [] :=
  (L_slices_Repeat_bool_bool_own hD).frz (by simp only [EX, simprocAttr, Nat.blt, Nat.ble] <;> rfl) (by simp only [frzA, frzSum, EX, simprocAttr, Nat.blt, Nat.ble] <;> rfl) rfl

set_option maxRecDepth 20000 in
set_option maxHeartbeats 4000000 in
theorem L_host_Host_told_ok {a0 : THost} {r : TPiece} (hD : L_host_Host_told a0 = some r) :
    CallH Try.prog 36 [.agg [.d (.int .i64 a0.Node), .d (.int .i64 a0.State), .d (.int .i64 a0.Steps), .d (.sl (List.map (eL eTMsg) a0.In)), .d (.sl (List.map (eL eI) a0.Out))]] []
      (.agg [.d (.int .i64 r.Node), .d (.int .i64 r.State), .d (.int .i64 r.Steps), .d (.sl (List.map eI r.Sent)), .d (.sl (List.map (eL eTMsg) r.In)), .d (.sl (List.map (eL eI) r.Out))]) [] := by
  unfold L_host_Host_told at hD
  refine r_call Try.func36 rfl Try.ntmps36 (by kernel_rfl) (by rfl) (by rfl) (by simp) fun S Φ P0 wb ac h => ?_
  refine rs_plain 3 [] [none, none] [1, 2] [(1, 0), (2, 0)] h rfl rfl (by simp only [EX, simprocAttr, Nat.blt, Nat.ble, tz_26, tz_31] <;> rfl) fun ac wd h => ?_
  refine rs_plain 15 [] [none, none, none, none, none, none, none, none, none, none, none, none] [2] [(2, 0)] h rfl rfl (by simp only [EX, simprocAttr, Nat.blt, Nat.ble, tz_2, tz_3, tz_4, tz_5, tz_23, tz_24, tz_26, tz_29, tz_31, tz_38, tz_57] <;> rfl) fun ac wd h => ?_
  refine wp_ret ?_
  injection hD with hD
  subst hD
  exact r_retE rfl h [.cell 2 31] rfl (by simp only [retD, List.mapM_cons, List.mapM_nil, Option.bind_eq_bind, Option.pure_def, EX, simprocAttr, Nat.blt, Nat.ble, tz_31] <;> rfl)

set_option maxRecDepth 20000 in
set_option maxHeartbeats 4000000 in
theorem L_slices_Clone_int_int_own {a0 : (List Int)} {r : (List Int)} (hD : L_slices_Clone_int_int a0 = some r) :
    CallH Try.prog 38 [.one (.d (.sl (List.map eI a0)))] []
      (.one (.own (1, 0) r.length)) [((1, 0), some (.row 3 1 (dat (List.map eI r))))] := by
  unfold L_slices_Clone_int_int at hD
  refine r_call Try.func38 rfl Try.ntmps38 (by kernel_rfl) (by rfl) (by simp only [shutB, EX, simprocAttr, Nat.blt, Nat.ble] <;> rfl) (by simp) fun S Φ P0 wb ac h => ?_
  refine rs_plain 2 [] [none] [0] [] h rfl rfl (by simp only [EX, simprocAttr, Nat.blt, Nat.ble, tz_3, tz_29] <;> rfl) fun ac wd h => ?_
  refine wp_seq ?_
  refine rs_plain 4 [] [none, none] [0, 4] [] h rfl rfl (by simp only [EX, simprocAttr, Nat.blt, Nat.ble, tz_3, tz_4, tz_29] <;> rfl) fun ac wd h => ?_
  refine r_condB h (by simp only [EX, simprocAttr, Nat.blt, Nat.ble] <;> rfl) (fun hn6 => ?_) (fun hn6 => ?_)
  · skip
    have hn6 := hn6 rfl
    obtain rfl : a0 = [] := List.eq_nil_of_length_eq_zero (by simpa using hn6)
    have hD : (some []) = some r := by simpa using hD
    refine rs_plain 5 [] [none] [2] [] h rfl rfl (by simp only [EX, simprocAttr, Nat.blt, Nat.ble, tz_3, tz_29] <;> rfl) fun ac wd h => ?_
    refine wp_ret ?_
    have h := SL.bornS h 2 3 1 (by simp only [EX, simprocAttr, Nat.blt, Nat.ble] <;> rfl)
    have h := h.same [2] [(5, 0)] 6 [(2, .one (.own (5, 0) 0))]
      [((5, 0), some (.row 3 1 ([])))]
      (by simp only [EX, simprocAttr, Nat.blt, Nat.ble, dat_open] <;> rfl)
    have h := SL.swap h (1, 0) (5, 0) 6 (by decide) (by decide) (by simp only [EX, simprocAttr, Nat.blt, Nat.ble, fren, mren, AV.ren, AObj.ren, Cell.ren, sumRen, Upd.ren, swp, csw, dat_ren, opn_ren] <;> rfl) (by simp only [EX, simprocAttr, Nat.blt, Nat.ble, fren, mren, AV.ren, AObj.ren, Cell.ren, sumRen, Upd.ren, swp, csw, dat_ren, opn_ren] <;> rfl) (by simp only [EX, simprocAttr, Nat.blt, Nat.ble, fren, mren, AV.ren, AObj.ren, Cell.ren, sumRen, Upd.ren, swp, csw, dat_ren, opn_ren] <;> rfl)
    have h := h.same [2] [(1, 0)] 6 [(2, .one (.own (1, 0) 0))]
      [((1, 0), some (.row 3 1 ([])))]
      (by simp only [EX, simprocAttr, Nat.blt, Nat.ble, dat_open] <;> rfl)
    injection hD with hD
    subst hD
    exact r_retO rfl h [.tmp 2] rfl [(1, 0)] (by simp only [retO, List.mapM_cons, List.mapM_nil, Option.bind_eq_bind, Option.pure_def, EX, simprocAttr, Nat.blt, Nat.ble] <;> rfl)
  · skip
    refine wp_skip ?_
    change Code.wp Try.prog _ _ _ _
    by_cases ha8 : a0.length * 8 ≤ 140737488355328
    case neg => rw [if_neg ha8] at hD; cases hD
    rw [if_pos ha8] at hD
    refine rs_plain 8 [] [none, none, none, none] [2] [(6, 0)] h rfl rfl (by simp only [EX, simprocAttr, Nat.blt, Nat.ble, tz_3, tz_29, ha8] <;> rfl) fun ac wd h => ?_
    refine wp_ret ?_
    have h := h.same [2] [(6, 0)] 8 [(2, .one (.own (6, 0) a0.length))]
      [((6, 0), some (.row 3 1 (dat (List.map eI a0))))]
      (by simp only [EX, simprocAttr, Nat.blt, Nat.ble, ha8, dat_open] <;> rfl)
    have h := SL.swap h (1, 0) (6, 0) 8 (by decide) (by decide) (by simp only [EX, simprocAttr, Nat.blt, Nat.ble, ha8, fren, mren, AV.ren, AObj.ren, Cell.ren, sumRen, Upd.ren, swp, csw, dat_ren, opn_ren] <;> rfl) (by simp only [EX, simprocAttr, Nat.blt, Nat.ble, ha8, fren, mren, AV.ren, AObj.ren, Cell.ren, sumRen, Upd.ren, swp, csw, dat_ren, opn_ren] <;> rfl) (by simp only [EX, simprocAttr, Nat.blt, Nat.ble, ha8, fren, mren, AV.ren, AObj.ren, Cell.ren, sumRen, Upd.ren, swp, csw, dat_ren, opn_ren] <;> rfl)
    have h := h.same [2] [(1, 0)] 8 [(2, .one (.own (1, 0) a0.length))]
      [((1, 0), some (.row 3 1 (dat (List.map eI a0))))]
      (by simp only [EX, simprocAttr, Nat.blt, Nat.ble, ha8, dat_open] <;> rfl)
    injection hD with hD
    subst hD
    exact r_retO rfl h [.tmp 2] rfl [(1, 0)] (by simp only [retO, List.mapM_cons, List.mapM_nil, Option.bind_eq_bind, Option.pure_def, EX, simprocAttr, Nat.blt, Nat.ble, ha8] <;> rfl)
theorem L_slices_Clone_int_int_ok {a0 : (List Int)} {r : (List Int)} (hD : L_slices_Clone_int_int a0 = some r) :
    CallH Try.prog 38 [.one (.d (.sl (List.map eI a0)))] []
      (.one (.d (.sl (List.map eI r)))) [] :=
  (L_slices_Clone_int_int_own hD).frz (by simp only [EX, simprocAttr, Nat.blt, Nat.ble] <;> rfl) (by simp only [frzA, frzSum, EX, simprocAttr, Nat.blt, Nat.ble] <;> rfl) rfl

set_option maxRecDepth 20000 in
set_option maxHeartbeats 4000000 in
theorem L_slices_Clone_api_Msg_api_Msg_own {a0 : (List TMsg)} {r : (List TMsg)} (hD : L_slices_Clone_api_Msg_api_Msg a0 = some r) :
    CallH Try.prog 45 [.one (.d (.sl (List.map eTMsg a0)))] []
      (.one (.own (1, 0) r.length)) [((1, 0), some (.row 38 2 (dat (List.map eTMsg r))))] := by
  unfold L_slices_Clone_api_Msg_api_Msg at hD
  refine r_call Try.func45 rfl Try.ntmps45 (by kernel_rfl) (by rfl) (by simp only [shutB, EX, simprocAttr, Nat.blt, Nat.ble] <;> rfl) (by simp) fun S Φ P0 wb ac h => ?_
  refine rs_plain 2 [] [none] [0] [] h rfl rfl (by simp only [EX, simprocAttr, Nat.blt, Nat.ble, tz_38, tz_57] <;> rfl) fun ac wd h => ?_
  refine wp_seq ?_
  refine rs_plain 4 [] [none, none] [0, 4] [] h rfl rfl (by simp only [EX, simprocAttr, Nat.blt, Nat.ble, tz_4, tz_38, tz_57] <;> rfl) fun ac wd h => ?_
  refine r_condB h (by simp only [EX, simprocAttr, Nat.blt, Nat.ble] <;> rfl) (fun hn6 => ?_) (fun hn6 => ?_)
  · skip
    have hn6 := hn6 rfl
    obtain rfl : a0 = [] := List.eq_nil_of_length_eq_zero (by simpa using hn6)
    have hD : (some []) = some r := by simpa using hD
    refine rs_plain 5 [] [none] [2] [] h rfl rfl (by simp only [EX, simprocAttr, Nat.blt, Nat.ble, tz_38, tz_57] <;> rfl) fun ac wd h => ?_
    refine wp_ret ?_
    have h := SL.bornS h 2 38 2 (by simp only [EX, simprocAttr, Nat.blt, Nat.ble] <;> rfl)
    have h := h.same [2] [(5, 0)] 6 [(2, .one (.own (5, 0) 0))]
      [((5, 0), some (.row 38 2 ([])))]
      (by simp only [EX, simprocAttr, Nat.blt, Nat.ble, dat_open] <;> rfl)
    have h := SL.swap h (1, 0) (5, 0) 6 (by decide) (by decide) (by simp only [EX, simprocAttr, Nat.blt, Nat.ble, fren, mren, AV.ren, AObj.ren, Cell.ren, sumRen, Upd.ren, swp, csw, dat_ren, opn_ren] <;> rfl) (by simp only [EX, simprocAttr, Nat.blt, Nat.ble, fren, mren, AV.ren, AObj.ren, Cell.ren, sumRen, Upd.ren, swp, csw, dat_ren, opn_ren] <;> rfl) (by simp only [EX, simprocAttr, Nat.blt, Nat.ble, fren, mren, AV.ren, AObj.ren, Cell.ren, sumRen, Upd.ren, swp, csw, dat_ren, opn_ren] <;> rfl)
    have h := h.same [2] [(1, 0)] 6 [(2, .one (.own (1, 0) 0))]
      [((1, 0), some (.row 38 2 ([])))]
      (by simp only [EX, simprocAttr, Nat.blt, Nat.ble, dat_open] <;> rfl)
    injection hD with hD
    subst hD
    exact r_retO rfl h [.tmp 2] rfl [(1, 0)] (by simp only [retO, List.mapM_cons, List.mapM_nil, Option.bind_eq_bind, Option.pure_def, EX, simprocAttr, Nat.blt, Nat.ble] <;> rfl)
  · skip
    refine wp_skip ?_
    change Code.wp Try.prog _ _ _ _
    by_cases ha8 : a0.length * 16 ≤ 140737488355328
    case neg => rw [if_neg ha8] at hD; cases hD
    rw [if_pos ha8] at hD
    refine rs_plain 8 [] [none, none, none, none] [2] [(6, 0)] h rfl rfl (by simp only [EX, simprocAttr, Nat.blt, Nat.ble, tz_38, tz_57, ha8] <;> rfl) fun ac wd h => ?_
    refine wp_ret ?_
    have h := h.same [2] [(6, 0)] 8 [(2, .one (.own (6, 0) a0.length))]
      [((6, 0), some (.row 38 2 (dat (List.map eTMsg a0))))]
      (by simp only [EX, simprocAttr, Nat.blt, Nat.ble, ha8, dat_open] <;> rfl)
    have h := SL.swap h (1, 0) (6, 0) 8 (by decide) (by decide) (by simp only [EX, simprocAttr, Nat.blt, Nat.ble, ha8, fren, mren, AV.ren, AObj.ren, Cell.ren, sumRen, Upd.ren, swp, csw, dat_ren, opn_ren] <;> rfl) (by simp only [EX, simprocAttr, Nat.blt, Nat.ble, ha8, fren, mren, AV.ren, AObj.ren, Cell.ren, sumRen, Upd.ren, swp, csw, dat_ren, opn_ren] <;> rfl) (by simp only [EX, simprocAttr, Nat.blt, Nat.ble, ha8, fren, mren, AV.ren, AObj.ren, Cell.ren, sumRen, Upd.ren, swp, csw, dat_ren, opn_ren] <;> rfl)
    have h := h.same [2] [(1, 0)] 8 [(2, .one (.own (1, 0) a0.length))]
      [((1, 0), some (.row 38 2 (dat (List.map eTMsg a0))))]
      (by simp only [EX, simprocAttr, Nat.blt, Nat.ble, ha8, dat_open] <;> rfl)
    injection hD with hD
    subst hD
    exact r_retO rfl h [.tmp 2] rfl [(1, 0)] (by simp only [retO, List.mapM_cons, List.mapM_nil, Option.bind_eq_bind, Option.pure_def, EX, simprocAttr, Nat.blt, Nat.ble, ha8] <;> rfl)
theorem L_slices_Clone_api_Msg_api_Msg_ok {a0 : (List TMsg)} {r : (List TMsg)} (hD : L_slices_Clone_api_Msg_api_Msg a0 = some r) :
    CallH Try.prog 45 [.one (.d (.sl (List.map eTMsg a0)))] []
      (.one (.d (.sl (List.map eTMsg r)))) [] :=
  (L_slices_Clone_api_Msg_api_Msg_own hD).frz (by simp only [EX, simprocAttr, Nat.blt, Nat.ble] <;> rfl) (by simp only [frzA, frzSum, EX, simprocAttr, Nat.blt, Nat.ble] <;> rfl) rfl

set_option maxRecDepth 20000 in
set_option maxHeartbeats 4000000 in
theorem L_piece_own_api_Msg_1_own {a0 : (List (List TMsg))} {r : (List TMsg) × (List (List TMsg))} (hD : L_piece_own_api_Msg_1 a0 = some r) :
    CallH Try.prog 44 [.one (.ptr (0, 0) 0)] [((0, 0), some (.box 23 [.d (.sl (List.map (eL eTMsg) a0))]))]
      (.one (.own (1, 0) r.1.length)) [((0, 0), some (.box 23 [.d (.sl (List.map (eL eTMsg) r.2))])), ((1, 0), some (.row 38 2 (dat (List.map eTMsg r.1))))] := by
  unfold L_piece_own_api_Msg_1 at hD
  refine r_call Try.func44 rfl Try.ntmps44 (by kernel_rfl) (by rfl) (by simp only [shutB, EX, simprocAttr, Nat.blt, Nat.ble] <;> rfl) (by simp) fun S Φ P0 wb ac h => ?_
  refine rs_plain 2 [] [none] [0] [(0, 0)] h rfl rfl (by simp only [EX, simprocAttr, Nat.blt, Nat.ble, tz_38, tz_57] <;> rfl) fun ac wd h => ?_
  obtain ⟨x19, hx20, hD⟩ := Option.bind_eq_some_iff.1 hD
  obtain ⟨hx20a, hx20b, hx20c⟩ := at_some hx20
  replace hx20b : a0[0]? = some x19 := hx20b
  have hx20d := (List.getElem?_eq_some_iff.1 hx20b).1
  obtain ⟨r21, hc22, hD⟩ := Option.bind_eq_some_iff.1 hD
  have hc22_5 : CallH Try.prog 45 [.one (.d (.sl (List.map eTMsg x19)))] [] (.one (.own (5, 0) r21.length)) [((5, 0), some (.row 38 2 (dat (List.map eTMsg r21))))] := ((L_slices_Clone_api_Msg_api_Msg_own hc22).cls 5).as (by simp only [EX, simprocAttr, Nat.blt, Nat.ble, fren, mren, AV.ren, AObj.ren, Cell.ren, sumRen, Upd.ren, swp, csw, dat_ren, opn_ren] <;> rfl)
  refine rs_plain 7 [factO hc22_5] [none, none, none, none, none] [0, 2] [(0, 0), (5, 0)] h rfl rfl (by simp only [EX, simprocAttr, Nat.blt, Nat.ble, tz_23, tz_38, tz_57, hx20a, hx20b, hx20c, hx20d] <;> rfl) fun ac wd h => ?_
  by_cases ha26 : 1 ≤ (a0.length : Int)
  case neg => rw [if_neg ha26] at hD; cases hD
  rw [if_pos ha26] at hD
  obtain ⟨v27, hv28, hD⟩ := Option.bind_eq_some_iff.1 hD
  injection hv28 with hv28
  refine rs_plain 10 [] [none, none, none] [2] [(0, 0), (5, 0)] h rfl rfl (by simp only [EX, simprocAttr, Nat.blt, Nat.ble, tz_23, tz_38, tz_57, ha26, hv28] <;> rfl) fun ac wd h => ?_
  refine rs_plain 12 [] [none, none] [1] [(0, 0), (5, 0)] h rfl rfl (by simp only [EX, simprocAttr, Nat.blt, Nat.ble, tz_38, tz_57, ha26] <;> rfl) fun ac wd h => ?_
  refine wp_ret ?_
  have h := h.same [1] [(0, 0), (5, 0)] 12 [(1, .one (.own (5, 0) r21.length))]
    [((0, 0), some (.box 23 [.d (.sl (List.map (eL eTMsg) v27))])), ((5, 0), some (.row 38 2 (dat (List.map eTMsg r21))))]
    (by simp only [EX, simprocAttr, Nat.blt, Nat.ble, hx20a, hx20b, hx20c, hx20d, ha26, hv28, dat_open] <;> rfl)
  have h := SL.swap h (1, 0) (5, 0) 12 (by decide) (by decide) (by simp only [EX, simprocAttr, Nat.blt, Nat.ble, hx20a, hx20b, hx20c, hx20d, ha26, hv28, fren, mren, AV.ren, AObj.ren, Cell.ren, sumRen, Upd.ren, swp, csw, dat_ren, opn_ren] <;> rfl) (by simp only [EX, simprocAttr, Nat.blt, Nat.ble, hx20a, hx20b, hx20c, hx20d, ha26, hv28, fren, mren, AV.ren, AObj.ren, Cell.ren, sumRen, Upd.ren, swp, csw, dat_ren, opn_ren] <;> rfl) (by simp only [EX, simprocAttr, Nat.blt, Nat.ble, hx20a, hx20b, hx20c, hx20d, ha26, hv28, fren, mren, AV.ren, AObj.ren, Cell.ren, sumRen, Upd.ren, swp, csw, dat_ren, opn_ren] <;> rfl)
  have h := h.same [1] [(0, 0), (1, 0)] 12 [(1, .one (.own (1, 0) r21.length))]
    [((0, 0), some (.box 23 [.d (.sl (List.map (eL eTMsg) v27))])), ((1, 0), some (.row 38 2 (dat (List.map eTMsg r21))))]
    (by simp only [EX, simprocAttr, Nat.blt, Nat.ble, hx20a, hx20b, hx20c, hx20d, ha26, hv28, dat_open] <;> rfl)
  injection hD with hD
  subst hD
  exact r_retO rfl h [.tmp 1] rfl [(0, 0), (1, 0)] (by simp only [retO, List.mapM_cons, List.mapM_nil, Option.bind_eq_bind, Option.pure_def, EX, simprocAttr, Nat.blt, Nat.ble, ha26] <;> rfl)

set_option maxRecDepth 20000 in
set_option maxHeartbeats 4000000 in
theorem L_piece_lists_api_Msg_own {a0 : Int} {a1 : (List (List TMsg))} {r : (List (List TMsg)) × (List (List TMsg))} (hD : L_piece_lists_api_Msg a0 a1 = some r) :
    CallH Try.prog 43 [.one (.d (.int .i64 a0)), .one (.fnp 44 [((0, 0), 0)])] [((0, 0), some (.box 23 [.d (.sl (List.map (eL eTMsg) a1))]))]
      (.one (.own (1, 0) r.1.length)) [((0, 0), some (.box 23 [.d (.sl (List.map (eL eTMsg) r.2))])), ((1, 0), some (.row 57 1 (openRows cols_57 (List.map (eL eTMsg) r.1))))] := by
  unfold L_piece_lists_api_Msg at hD
  refine r_call Try.func43 rfl Try.ntmps43 (by kernel_rfl) (by rfl) (by simp only [shutB, EX, simprocAttr, Nat.blt, Nat.ble] <;> rfl) (by simp) fun S Φ P0 wb ac h => ?_
  refine rs_plain 2 [] [none] [0, 1] [(0, 0)] h rfl rfl (by simp only [EX, simprocAttr, Nat.blt, Nat.ble, tz_23, tz_38, tz_57] <;> rfl) fun ac wd h => ?_
  refine rs_plain 3 [] [none] [0, 1, 5] [(0, 0)] h rfl rfl (by simp only [EX, simprocAttr, Nat.blt, Nat.ble, tz_23, tz_38, tz_57] <;> rfl) fun ac wd h => ?_
  refine wp_seq ?_
  refine rs_plain 5 [] [none, none] [1, 5, 6, 7] [(0, 0)] h rfl rfl (by simp only [EX, simprocAttr, Nat.blt, Nat.ble, tz_3] <;> rfl) fun ac wd h => ?_
  refine wp_block ?_
  have h := SL.bornS h 5 57 1 (by simp only [EX, simprocAttr, Nat.blt, Nat.ble] <;> rfl)
  have h := h.same [1, 5, 6, 7] [(0, 0), (5, 0)] 23 [(1, .one (.fnp 44 [((0, 0), 0)])), (5, .one (.own (5, 0) ([] : List (List TMsg)).length)), (6, .one (.d (.int .i64 a0))), (7, .one (.d (.int .i64 0)))]
    [((0, 0), some (.box 23 [.d (.sl (List.map (eL eTMsg) a1))])), ((5, 0), some (.row 57 1 (openRows cols_57 (List.map (eL eTMsg) ([] : List (List TMsg))))))]
    (by simp only [EX, simprocAttr, Nat.blt, Nat.ble] <;> rfl)
  refine r_while (fun nf ac wd => ∃ (n106 : Int) (l107 : List (List TMsg)) (l108 : List (List TMsg)), L_piece_lists_api_Msg_l1 a0 nf n106 l107 l108 = some r ∧ SL ⟨wb, S, Φ, P0⟩ 16 23 [(1, .one (.fnp 44 [((0, 0), 0)])), (5, .one (.own (5, 0) l108.length)), (6, .one (.d (.int .i64 a0))), (7, .one (.d (.int .i64 n106)))] [((0, 0), some (.box 23 [.d (.sl (List.map (eL eTMsg) l107))])), ((5, 0), some (.row 57 1 (openRows cols_57 (List.map (eL eTMsg) l108))))] ac wd) ((a0 - 0).toNat + 1) ⟨0, a1, ([] : List (List TMsg)), hD, h⟩ (fun nf ac wd hJ => ?_)
  obtain ⟨n106, l107, l108, hL109, h⟩ := hJ
  cases nf with
  | zero => rw [L_piece_lists_api_Msg_l1] at hL109; cases hL109
  | succ nf =>
    rw [L_piece_lists_api_Msg_l1] at hL109
    refine rs_plain 24 [] [none] [1, 5, 6, 7, 8] [(0, 0), (5, 0)] h rfl rfl (by simp only [EX, simprocAttr, Nat.blt, Nat.ble, tz_3, tz_4] <;> rfl) fun ac wd h => ?_
    refine wp_seq ?_
    by_cases hb111 : n106 < a0
    · rw [if_pos hb111] at hL109
      refine r_condT h (decide (n106 < a0)) (by simp only [EX, simprocAttr, Nat.blt, Nat.ble, hb111] <;> rfl) (by first | rfl | (simp only [EX, simprocAttr, Nat.blt, Nat.ble, hb111] <;> rfl)) ?_
      refine wp_skip ?_
      change Code.wp Try.prog _ _ _ _
      refine wp_seq ?_
      refine wp_block ?_
      obtain ⟨r115, hc116, hL109⟩ := Option.bind_eq_some_iff.1 hL109
      by_cases ha117 : (l108.length + 1) * 24 ≤ 140737488355328
      case neg => rw [if_neg ha117] at hL109; cases hL109
      rw [if_pos ha117] at hL109
      have hc116_26 : CallH Try.prog 44 [.one (.ptr (0, 0) 0)] [((0, 0), some (.box 23 [.d (.sl (List.map (eL eTMsg) l107))]))] (.one (.own (26, 0) r115.1.length)) [((0, 0), some (.box 23 [.d (.sl (List.map (eL eTMsg) r115.2))])), ((26, 0), some (.row 38 2 (dat (List.map eTMsg r115.1))))] := ((L_piece_own_api_Msg_1_own hc116).cls 26).as (by simp only [EX, simprocAttr, Nat.blt, Nat.ble, fren, mren, AV.ren, AObj.ren, Cell.ren, sumRen, Upd.ren, swp, csw, dat_ren, opn_ren] <;> rfl)
      refine r_plain [factR hc116_26] [none, none, none, none, none, none] [1, 5, 6, 7] [(0, 0), (26, 0), (28, 0)] h rfl (by simp only [EX, simprocAttr, Nat.blt, Nat.ble, tz_23, tz_38, tz_57, hb111, ha117] <;> rfl) fun ac wd h => ?_
      have h := h.foldL (cols := (fun _ => .sc)) (28, 0) (26, 0) (openRows cols_57 (List.map (eL eTMsg) l108)) [.own (26, 0) r115.1.length] 0 (List.map eTMsg r115.1) (by simp only [EX, simprocAttr, Nat.blt, Nat.ble, hb111, ha117] <;> rfl)  (by rfl) (by simp only [EX, simprocAttr, Nat.blt, Nat.ble, hb111, ha117] <;> rfl) (by simp only [EX, simprocAttr, Nat.blt, Nat.ble, hb111, ha117, dat_open] <;> rfl) (by simp only [EX, simprocAttr, Nat.blt, Nat.ble, hb111, ha117] <;> rfl) (by decide) (sc_38 _)
      have h := h.same [1, 5, 6, 7] [(0, 0), (28, 0)] 30 [(1, .one (.fnp 44 [((0, 0), 0)])), (5, .one (.own (28, 0) (l108.length + 1))), (6, .one (.d (.int .i64 a0))), (7, .one (.d (.int .i64 n106)))]
        [((0, 0), some (.box 23 [.d (.sl (List.map (eL eTMsg) r115.2))])), ((28, 0), some (.row 57 1 ((openRows cols_57 (List.map (eL eTMsg) l108) ++ [[.tr (.sl 38 2 (fun _ => .sc)) (.sl (List.map eTMsg r115.1))]]))))]
        (by simp only [EX, simprocAttr, Nat.blt, Nat.ble, hb111, ha117, dat_open] <;> rfl)
      change Code.wp Try.prog _ _ _ _
      refine r_plain [] [none, none] [1, 5, 6, 7] [(0, 0), (28, 0)] h rfl (by simp only [EX, simprocAttr, Nat.blt, Nat.ble, tz_3, hb111, ha117] <;> rfl) fun ac wd h => ?_
      have h := SL.swap h (5, 0) (28, 0) 32 (by decide) (by decide) (by simp only [EX, simprocAttr, Nat.blt, Nat.ble, hb111, ha117, fren, mren, AV.ren, AObj.ren, Cell.ren, sumRen, Upd.ren, swp, csw, dat_ren, opn_ren] <;> rfl) (by simp only [EX, simprocAttr, Nat.blt, Nat.ble, hb111, ha117, fren, mren, AV.ren, AObj.ren, Cell.ren, sumRen, Upd.ren, swp, csw, dat_ren, opn_ren] <;> rfl) (by simp only [EX, simprocAttr, Nat.blt, Nat.ble, hb111, ha117, fren, mren, AV.ren, AObj.ren, Cell.ren, sumRen, Upd.ren, swp, csw, dat_ren, opn_ren] <;> rfl)
      have h := h.same [1, 5, 6, 7] [(0, 0), (5, 0)] 23 [(1, .one (.fnp 44 [((0, 0), 0)])), (5, .one (.own (5, 0) (l108 ++ [r115.1]).length)), (6, .one (.d (.int .i64 a0))), (7, .one (.d (.int .i64 (IntKind.wrap .i64 (n106 + 1)))))]
        [((0, 0), some (.box 23 [.d (.sl (List.map (eL eTMsg) r115.2))])), ((5, 0), some (.row 57 1 (openRows cols_57 (List.map (eL eTMsg) (l108 ++ [r115.1])))))]
        (by simp only [EX, simprocAttr, Nat.blt, Nat.ble, hb111, ha117] <;> rfl)
      change ∃ n', _ ∧ _
      exact ⟨nf, Nat.lt_succ_self nf, (IntKind.wrap .i64 (n106 + 1)), r115.2, (l108 ++ [r115.1]), hL109, h⟩
    · rw [if_neg hb111] at hL109
      refine r_condF h (decide (n106 < a0)) (by simp only [EX, simprocAttr, Nat.blt, Nat.ble, hb111] <;> rfl) (by first | rfl | (simp only [EX, simprocAttr, Nat.blt, Nat.ble, hb111] <;> rfl)) ?_
      refine wp_exit ?_
      change Code.wp Try.prog _ _ _ _
      refine rs_plain 26 [] [none, none] [4] [(0, 0), (5, 0)] h rfl rfl (by simp only [EX, simprocAttr, Nat.blt, Nat.ble, tz_23, tz_38, tz_57, hb111] <;> rfl) fun ac wd h => ?_
      refine wp_ret ?_
      have h := h.same [4] [(0, 0), (5, 0)] 26 [(4, .one (.own (5, 0) l108.length))]
        [((0, 0), some (.box 23 [.d (.sl (List.map (eL eTMsg) l107))])), ((5, 0), some (.row 57 1 (openRows cols_57 (List.map (eL eTMsg) l108))))]
        (by simp only [EX, simprocAttr, Nat.blt, Nat.ble, hb111, dat_open] <;> rfl)
      have h := SL.swap h (1, 0) (5, 0) 26 (by decide) (by decide) (by simp only [EX, simprocAttr, Nat.blt, Nat.ble, hb111, fren, mren, AV.ren, AObj.ren, Cell.ren, sumRen, Upd.ren, swp, csw, dat_ren, opn_ren] <;> rfl) (by simp only [EX, simprocAttr, Nat.blt, Nat.ble, hb111, fren, mren, AV.ren, AObj.ren, Cell.ren, sumRen, Upd.ren, swp, csw, dat_ren, opn_ren] <;> rfl) (by simp only [EX, simprocAttr, Nat.blt, Nat.ble, hb111, fren, mren, AV.ren, AObj.ren, Cell.ren, sumRen, Upd.ren, swp, csw, dat_ren, opn_ren] <;> rfl)
      have h := h.same [4] [(0, 0), (1, 0)] 26 [(4, .one (.own (1, 0) l108.length))]
        [((0, 0), some (.box 23 [.d (.sl (List.map (eL eTMsg) l107))])), ((1, 0), some (.row 57 1 (openRows cols_57 (List.map (eL eTMsg) l108))))]
        (by simp only [EX, simprocAttr, Nat.blt, Nat.ble, hb111, dat_open] <;> rfl)
      injection hL109 with hL109
      subst hL109
      exact r_retO rfl h [.tmp 4] rfl [(0, 0), (1, 0)] (by simp only [retO, List.mapM_cons, List.mapM_nil, Option.bind_eq_bind, Option.pure_def, EX, simprocAttr, Nat.blt, Nat.ble, hb111] <;> rfl)

set_option maxRecDepth 20000 in
set_option maxHeartbeats 4000000 in
theorem L_piece_own_api_Msg_own {a0 : (List (List TMsg))} {r : (List (List TMsg))} (hD : L_piece_own_api_Msg a0 = some r) :
    CallH Try.prog 39 [.one (.d (.sl (List.map (eL eTMsg) a0)))] []
      (.one (.own (1, 0) r.length)) [((1, 0), some (.row 57 1 (openRows cols_57 (List.map (eL eTMsg) r))))] := by
  unfold L_piece_own_api_Msg at hD
  refine r_call Try.func39 rfl Try.ntmps39 (by kernel_rfl) (by rfl) (by simp only [shutB, EX, simprocAttr, Nat.blt, Nat.ble] <;> rfl) (by simp) fun S Φ P0 wb ac h => ?_
  refine rs_plain 3 [] [none, none] [1] [(1, 0)] h rfl rfl (by simp only [EX, simprocAttr, Nat.blt, Nat.ble, tz_23, tz_38, tz_57] <;> rfl) fun ac wd h => ?_
  obtain ⟨r7, hc8, hD⟩ := Option.bind_eq_some_iff.1 hD
  have hc8_6 : CallH Try.prog 43 [.one (.d (.int .i64 (a0.length : Int))), .one (.fnp 44 [((1, 0), 0)])] [((1, 0), some (.box 23 [.d (.sl (List.map (eL eTMsg) a0))]))] (.one (.own (6, 0) r7.1.length)) [((1, 0), some (.box 23 [.d (.sl (List.map (eL eTMsg) r7.2))])), ((6, 0), some (.row 57 1 (openRows cols_57 (List.map (eL eTMsg) r7.1))))] := (((L_piece_lists_api_Msg_own hc8).cls 6).nm (0, 0) (1, 0)).as (by simp only [EX, simprocAttr, Nat.blt, Nat.ble, fren, mren, AV.ren, AObj.ren, Cell.ren, sumRen, Upd.ren, swp, csw, dat_ren, opn_ren] <;> rfl)
  refine rs_plain 8 [factR hc8_6] [none, none, none, none, none] [2] [(6, 0)] h rfl rfl (by simp only [EX, simprocAttr, Nat.blt, Nat.ble, tz_3, tz_23, tz_38, tz_57] <;> rfl) fun ac wd h => ?_
  refine wp_ret ?_
  have h := h.same [2] [(6, 0)] 8 [(2, .one (.own (6, 0) r7.1.length))]
    [((6, 0), some (.row 57 1 (openRows cols_57 (List.map (eL eTMsg) r7.1))))]
    (by simp only [EX, simprocAttr, Nat.blt, Nat.ble, dat_open] <;> rfl)
  have h := SL.swap h (1, 0) (6, 0) 8 (by decide) (by decide) (by simp only [EX, simprocAttr, Nat.blt, Nat.ble, fren, mren, AV.ren, AObj.ren, Cell.ren, sumRen, Upd.ren, swp, csw, dat_ren, opn_ren] <;> rfl) (by simp only [EX, simprocAttr, Nat.blt, Nat.ble, fren, mren, AV.ren, AObj.ren, Cell.ren, sumRen, Upd.ren, swp, csw, dat_ren, opn_ren] <;> rfl) (by simp only [EX, simprocAttr, Nat.blt, Nat.ble, fren, mren, AV.ren, AObj.ren, Cell.ren, sumRen, Upd.ren, swp, csw, dat_ren, opn_ren] <;> rfl)
  have h := h.same [2] [(1, 0)] 8 [(2, .one (.own (1, 0) r7.1.length))]
    [((1, 0), some (.row 57 1 (openRows cols_57 (List.map (eL eTMsg) r7.1))))]
    (by simp only [EX, simprocAttr, Nat.blt, Nat.ble, dat_open] <;> rfl)
  injection hD with hD
  subst hD
  exact r_retO rfl h [.tmp 2] rfl [(1, 0)] (by simp only [retO, List.mapM_cons, List.mapM_nil, Option.bind_eq_bind, Option.pure_def, EX, simprocAttr, Nat.blt, Nat.ble] <;> rfl)
theorem L_piece_own_api_Msg_ok {a0 : (List (List TMsg))} {r : (List (List TMsg))} (hD : L_piece_own_api_Msg a0 = some r) :
    CallH Try.prog 39 [.one (.d (.sl (List.map (eL eTMsg) a0)))] []
      (.one (.d (.sl (List.map (eL eTMsg) r)))) [] :=
  (L_piece_own_api_Msg_own hD).frz (by simp only [EX, simprocAttr, Nat.blt, Nat.ble] <;> rfl) (by simp only [frzA, frzSum, EX, simprocAttr, Nat.blt, Nat.ble] <;> rfl) rfl

set_option maxRecDepth 20000 in
set_option maxHeartbeats 4000000 in
theorem L_piece_own_int_1_own {a0 : (List (List Int))} {r : (List Int) × (List (List Int))} (hD : L_piece_own_int_1 a0 = some r) :
    CallH Try.prog 47 [.one (.ptr (0, 0) 0)] [((0, 0), some (.box 24 [.d (.sl (List.map (eL eI) a0))]))]
      (.one (.own (1, 0) r.1.length)) [((0, 0), some (.box 24 [.d (.sl (List.map (eL eI) r.2))])), ((1, 0), some (.row 3 1 (dat (List.map eI r.1))))] := by
  unfold L_piece_own_int_1 at hD
  refine r_call Try.func47 rfl Try.ntmps47 (by kernel_rfl) (by rfl) (by simp only [shutB, EX, simprocAttr, Nat.blt, Nat.ble] <;> rfl) (by simp) fun S Φ P0 wb ac h => ?_
  refine rs_plain 2 [] [none] [0] [(0, 0)] h rfl rfl (by simp only [EX, simprocAttr, Nat.blt, Nat.ble, tz_3, tz_29] <;> rfl) fun ac wd h => ?_
  obtain ⟨x19, hx20, hD⟩ := Option.bind_eq_some_iff.1 hD
  obtain ⟨hx20a, hx20b, hx20c⟩ := at_some hx20
  replace hx20b : a0[0]? = some x19 := hx20b
  have hx20d := (List.getElem?_eq_some_iff.1 hx20b).1
  obtain ⟨r21, hc22, hD⟩ := Option.bind_eq_some_iff.1 hD
  have hc22_5 : CallH Try.prog 38 [.one (.d (.sl (List.map eI x19)))] [] (.one (.own (5, 0) r21.length)) [((5, 0), some (.row 3 1 (dat (List.map eI r21))))] := ((L_slices_Clone_int_int_own hc22).cls 5).as (by simp only [EX, simprocAttr, Nat.blt, Nat.ble, fren, mren, AV.ren, AObj.ren, Cell.ren, sumRen, Upd.ren, swp, csw, dat_ren, opn_ren] <;> rfl)
  refine rs_plain 7 [factO hc22_5] [none, none, none, none, none] [0, 2] [(0, 0), (5, 0)] h rfl rfl (by simp only [EX, simprocAttr, Nat.blt, Nat.ble, tz_3, tz_24, tz_29, hx20a, hx20b, hx20c, hx20d] <;> rfl) fun ac wd h => ?_
  by_cases ha26 : 1 ≤ (a0.length : Int)
  case neg => rw [if_neg ha26] at hD; cases hD
  rw [if_pos ha26] at hD
  obtain ⟨v27, hv28, hD⟩ := Option.bind_eq_some_iff.1 hD
  injection hv28 with hv28
  refine rs_plain 10 [] [none, none, none] [2] [(0, 0), (5, 0)] h rfl rfl (by simp only [EX, simprocAttr, Nat.blt, Nat.ble, tz_3, tz_24, tz_29, ha26, hv28] <;> rfl) fun ac wd h => ?_
  refine rs_plain 12 [] [none, none] [1] [(0, 0), (5, 0)] h rfl rfl (by simp only [EX, simprocAttr, Nat.blt, Nat.ble, tz_3, tz_29, ha26] <;> rfl) fun ac wd h => ?_
  refine wp_ret ?_
  have h := h.same [1] [(0, 0), (5, 0)] 12 [(1, .one (.own (5, 0) r21.length))]
    [((0, 0), some (.box 24 [.d (.sl (List.map (eL eI) v27))])), ((5, 0), some (.row 3 1 (dat (List.map eI r21))))]
    (by simp only [EX, simprocAttr, Nat.blt, Nat.ble, hx20a, hx20b, hx20c, hx20d, ha26, hv28, dat_open] <;> rfl)
  have h := SL.swap h (1, 0) (5, 0) 12 (by decide) (by decide) (by simp only [EX, simprocAttr, Nat.blt, Nat.ble, hx20a, hx20b, hx20c, hx20d, ha26, hv28, fren, mren, AV.ren, AObj.ren, Cell.ren, sumRen, Upd.ren, swp, csw, dat_ren, opn_ren] <;> rfl) (by simp only [EX, simprocAttr, Nat.blt, Nat.ble, hx20a, hx20b, hx20c, hx20d, ha26, hv28, fren, mren, AV.ren, AObj.ren, Cell.ren, sumRen, Upd.ren, swp, csw, dat_ren, opn_ren] <;> rfl) (by simp only [EX, simprocAttr, Nat.blt, Nat.ble, hx20a, hx20b, hx20c, hx20d, ha26, hv28, fren, mren, AV.ren, AObj.ren, Cell.ren, sumRen, Upd.ren, swp, csw, dat_ren, opn_ren] <;> rfl)
  have h := h.same [1] [(0, 0), (1, 0)] 12 [(1, .one (.own (1, 0) r21.length))]
    [((0, 0), some (.box 24 [.d (.sl (List.map (eL eI) v27))])), ((1, 0), some (.row 3 1 (dat (List.map eI r21))))]
    (by simp only [EX, simprocAttr, Nat.blt, Nat.ble, hx20a, hx20b, hx20c, hx20d, ha26, hv28, dat_open] <;> rfl)
  injection hD with hD
  subst hD
  exact r_retO rfl h [.tmp 1] rfl [(0, 0), (1, 0)] (by simp only [retO, List.mapM_cons, List.mapM_nil, Option.bind_eq_bind, Option.pure_def, EX, simprocAttr, Nat.blt, Nat.ble, ha26] <;> rfl)

set_option maxRecDepth 20000 in
set_option maxHeartbeats 4000000 in
theorem L_piece_lists_int_own {a0 : Int} {a1 : (List (List Int))} {r : (List (List Int)) × (List (List Int))} (hD : L_piece_lists_int a0 a1 = some r) :
    CallH Try.prog 46 [.one (.d (.int .i64 a0)), .one (.fnp 47 [((0, 0), 0)])] [((0, 0), some (.box 24 [.d (.sl (List.map (eL eI) a1))]))]
      (.one (.own (1, 0) r.1.length)) [((0, 0), some (.box 24 [.d (.sl (List.map (eL eI) r.2))])), ((1, 0), some (.row 29 1 (openRows cols_29 (List.map (eL eI) r.1))))] := by
  unfold L_piece_lists_int at hD
  refine r_call Try.func46 rfl Try.ntmps46 (by kernel_rfl) (by rfl) (by simp only [shutB, EX, simprocAttr, Nat.blt, Nat.ble] <;> rfl) (by simp) fun S Φ P0 wb ac h => ?_
  refine rs_plain 2 [] [none] [0, 1] [(0, 0)] h rfl rfl (by simp only [EX, simprocAttr, Nat.blt, Nat.ble, tz_3, tz_24, tz_29] <;> rfl) fun ac wd h => ?_
  refine rs_plain 3 [] [none] [0, 1, 5] [(0, 0)] h rfl rfl (by simp only [EX, simprocAttr, Nat.blt, Nat.ble, tz_3, tz_24, tz_29] <;> rfl) fun ac wd h => ?_
  refine wp_seq ?_
  refine rs_plain 5 [] [none, none] [1, 5, 6, 7] [(0, 0)] h rfl rfl (by simp only [EX, simprocAttr, Nat.blt, Nat.ble, tz_3] <;> rfl) fun ac wd h => ?_
  refine wp_block ?_
  have h := SL.bornS h 5 29 1 (by simp only [EX, simprocAttr, Nat.blt, Nat.ble] <;> rfl)
  have h := h.same [1, 5, 6, 7] [(0, 0), (5, 0)] 23 [(1, .one (.fnp 47 [((0, 0), 0)])), (5, .one (.own (5, 0) ([] : List (List Int)).length)), (6, .one (.d (.int .i64 a0))), (7, .one (.d (.int .i64 0)))]
    [((0, 0), some (.box 24 [.d (.sl (List.map (eL eI) a1))])), ((5, 0), some (.row 29 1 (openRows cols_29 (List.map (eL eI) ([] : List (List Int))))))]
    (by simp only [EX, simprocAttr, Nat.blt, Nat.ble] <;> rfl)
  refine r_while (fun nf ac wd => ∃ (n106 : Int) (l107 : List (List Int)) (l108 : List (List Int)), L_piece_lists_int_l1 a0 nf n106 l107 l108 = some r ∧ SL ⟨wb, S, Φ, P0⟩ 16 23 [(1, .one (.fnp 47 [((0, 0), 0)])), (5, .one (.own (5, 0) l108.length)), (6, .one (.d (.int .i64 a0))), (7, .one (.d (.int .i64 n106)))] [((0, 0), some (.box 24 [.d (.sl (List.map (eL eI) l107))])), ((5, 0), some (.row 29 1 (openRows cols_29 (List.map (eL eI) l108))))] ac wd) ((a0 - 0).toNat + 1) ⟨0, a1, ([] : List (List Int)), hD, h⟩ (fun nf ac wd hJ => ?_)
  obtain ⟨n106, l107, l108, hL109, h⟩ := hJ
  cases nf with
  | zero => rw [L_piece_lists_int_l1] at hL109; cases hL109
  | succ nf =>
    rw [L_piece_lists_int_l1] at hL109
    refine rs_plain 24 [] [none] [1, 5, 6, 7, 8] [(0, 0), (5, 0)] h rfl rfl (by simp only [EX, simprocAttr, Nat.blt, Nat.ble, tz_3, tz_4] <;> rfl) fun ac wd h => ?_
    refine wp_seq ?_
    by_cases hb111 : n106 < a0
    · rw [if_pos hb111] at hL109
      refine r_condT h (decide (n106 < a0)) (by simp only [EX, simprocAttr, Nat.blt, Nat.ble, hb111] <;> rfl) (by first | rfl | (simp only [EX, simprocAttr, Nat.blt, Nat.ble, hb111] <;> rfl)) ?_
      refine wp_skip ?_
      change Code.wp Try.prog _ _ _ _
      refine wp_seq ?_
      refine wp_block ?_
      obtain ⟨r115, hc116, hL109⟩ := Option.bind_eq_some_iff.1 hL109
      by_cases ha117 : (l108.length + 1) * 24 ≤ 140737488355328
      case neg => rw [if_neg ha117] at hL109; cases hL109
      rw [if_pos ha117] at hL109
      have hc116_26 : CallH Try.prog 47 [.one (.ptr (0, 0) 0)] [((0, 0), some (.box 24 [.d (.sl (List.map (eL eI) l107))]))] (.one (.own (26, 0) r115.1.length)) [((0, 0), some (.box 24 [.d (.sl (List.map (eL eI) r115.2))])), ((26, 0), some (.row 3 1 (dat (List.map eI r115.1))))] := ((L_piece_own_int_1_own hc116).cls 26).as (by simp only [EX, simprocAttr, Nat.blt, Nat.ble, fren, mren, AV.ren, AObj.ren, Cell.ren, sumRen, Upd.ren, swp, csw, dat_ren, opn_ren] <;> rfl)
      refine r_plain [factR hc116_26] [none, none, none, none, none, none] [1, 5, 6, 7] [(0, 0), (26, 0), (28, 0)] h rfl (by simp only [EX, simprocAttr, Nat.blt, Nat.ble, tz_3, tz_24, tz_29, hb111, ha117] <;> rfl) fun ac wd h => ?_
      have h := h.foldL (cols := (fun _ => .sc)) (28, 0) (26, 0) (openRows cols_29 (List.map (eL eI) l108)) [.own (26, 0) r115.1.length] 0 (List.map eI r115.1) (by simp only [EX, simprocAttr, Nat.blt, Nat.ble, hb111, ha117] <;> rfl)  (by rfl) (by simp only [EX, simprocAttr, Nat.blt, Nat.ble, hb111, ha117] <;> rfl) (by simp only [EX, simprocAttr, Nat.blt, Nat.ble, hb111, ha117, dat_open] <;> rfl) (by simp only [EX, simprocAttr, Nat.blt, Nat.ble, hb111, ha117] <;> rfl) (by decide) (sc_3 _)
      have h := h.same [1, 5, 6, 7] [(0, 0), (28, 0)] 30 [(1, .one (.fnp 47 [((0, 0), 0)])), (5, .one (.own (28, 0) (l108.length + 1))), (6, .one (.d (.int .i64 a0))), (7, .one (.d (.int .i64 n106)))]
        [((0, 0), some (.box 24 [.d (.sl (List.map (eL eI) r115.2))])), ((28, 0), some (.row 29 1 ((openRows cols_29 (List.map (eL eI) l108) ++ [[.tr (.sl 3 1 (fun _ => .sc)) (.sl (List.map eI r115.1))]]))))]
        (by simp only [EX, simprocAttr, Nat.blt, Nat.ble, hb111, ha117, dat_open] <;> rfl)
      change Code.wp Try.prog _ _ _ _
      refine r_plain [] [none, none] [1, 5, 6, 7] [(0, 0), (28, 0)] h rfl (by simp only [EX, simprocAttr, Nat.blt, Nat.ble, tz_3, hb111, ha117] <;> rfl) fun ac wd h => ?_
      have h := SL.swap h (5, 0) (28, 0) 32 (by decide) (by decide) (by simp only [EX, simprocAttr, Nat.blt, Nat.ble, hb111, ha117, fren, mren, AV.ren, AObj.ren, Cell.ren, sumRen, Upd.ren, swp, csw, dat_ren, opn_ren] <;> rfl) (by simp only [EX, simprocAttr, Nat.blt, Nat.ble, hb111, ha117, fren, mren, AV.ren, AObj.ren, Cell.ren, sumRen, Upd.ren, swp, csw, dat_ren, opn_ren] <;> rfl) (by simp only [EX, simprocAttr, Nat.blt, Nat.ble, hb111, ha117, fren, mren, AV.ren, AObj.ren, Cell.ren, sumRen, Upd.ren, swp, csw, dat_ren, opn_ren] <;> rfl)
      have h := h.same [1, 5, 6, 7] [(0, 0), (5, 0)] 23 [(1, .one (.fnp 47 [((0, 0), 0)])), (5, .one (.own (5, 0) (l108 ++ [r115.1]).length)), (6, .one (.d (.int .i64 a0))), (7, .one (.d (.int .i64 (IntKind.wrap .i64 (n106 + 1)))))]
        [((0, 0), some (.box 24 [.d (.sl (List.map (eL eI) r115.2))])), ((5, 0), some (.row 29 1 (openRows cols_29 (List.map (eL eI) (l108 ++ [r115.1])))))]
        (by simp only [EX, simprocAttr, Nat.blt, Nat.ble, hb111, ha117] <;> rfl)
      change ∃ n', _ ∧ _
      exact ⟨nf, Nat.lt_succ_self nf, (IntKind.wrap .i64 (n106 + 1)), r115.2, (l108 ++ [r115.1]), hL109, h⟩
    · rw [if_neg hb111] at hL109
      refine r_condF h (decide (n106 < a0)) (by simp only [EX, simprocAttr, Nat.blt, Nat.ble, hb111] <;> rfl) (by first | rfl | (simp only [EX, simprocAttr, Nat.blt, Nat.ble, hb111] <;> rfl)) ?_
      refine wp_exit ?_
      change Code.wp Try.prog _ _ _ _
      refine rs_plain 26 [] [none, none] [4] [(0, 0), (5, 0)] h rfl rfl (by simp only [EX, simprocAttr, Nat.blt, Nat.ble, tz_3, tz_24, tz_29, hb111] <;> rfl) fun ac wd h => ?_
      refine wp_ret ?_
      have h := h.same [4] [(0, 0), (5, 0)] 26 [(4, .one (.own (5, 0) l108.length))]
        [((0, 0), some (.box 24 [.d (.sl (List.map (eL eI) l107))])), ((5, 0), some (.row 29 1 (openRows cols_29 (List.map (eL eI) l108))))]
        (by simp only [EX, simprocAttr, Nat.blt, Nat.ble, hb111, dat_open] <;> rfl)
      have h := SL.swap h (1, 0) (5, 0) 26 (by decide) (by decide) (by simp only [EX, simprocAttr, Nat.blt, Nat.ble, hb111, fren, mren, AV.ren, AObj.ren, Cell.ren, sumRen, Upd.ren, swp, csw, dat_ren, opn_ren] <;> rfl) (by simp only [EX, simprocAttr, Nat.blt, Nat.ble, hb111, fren, mren, AV.ren, AObj.ren, Cell.ren, sumRen, Upd.ren, swp, csw, dat_ren, opn_ren] <;> rfl) (by simp only [EX, simprocAttr, Nat.blt, Nat.ble, hb111, fren, mren, AV.ren, AObj.ren, Cell.ren, sumRen, Upd.ren, swp, csw, dat_ren, opn_ren] <;> rfl)
      have h := h.same [4] [(0, 0), (1, 0)] 26 [(4, .one (.own (1, 0) l108.length))]
        [((0, 0), some (.box 24 [.d (.sl (List.map (eL eI) l107))])), ((1, 0), some (.row 29 1 (openRows cols_29 (List.map (eL eI) l108))))]
        (by simp only [EX, simprocAttr, Nat.blt, Nat.ble, hb111, dat_open] <;> rfl)
      injection hL109 with hL109
      subst hL109
      exact r_retO rfl h [.tmp 4] rfl [(0, 0), (1, 0)] (by simp only [retO, List.mapM_cons, List.mapM_nil, Option.bind_eq_bind, Option.pure_def, EX, simprocAttr, Nat.blt, Nat.ble, hb111] <;> rfl)

set_option maxRecDepth 20000 in
set_option maxHeartbeats 4000000 in
theorem L_piece_own_int_own {a0 : (List (List Int))} {r : (List (List Int))} (hD : L_piece_own_int a0 = some r) :
    CallH Try.prog 40 [.one (.d (.sl (List.map (eL eI) a0)))] []
      (.one (.own (1, 0) r.length)) [((1, 0), some (.row 29 1 (openRows cols_29 (List.map (eL eI) r))))] := by
  unfold L_piece_own_int at hD
  refine r_call Try.func40 rfl Try.ntmps40 (by kernel_rfl) (by rfl) (by simp only [shutB, EX, simprocAttr, Nat.blt, Nat.ble] <;> rfl) (by simp) fun S Φ P0 wb ac h => ?_
  refine rs_plain 3 [] [none, none] [1] [(1, 0)] h rfl rfl (by simp only [EX, simprocAttr, Nat.blt, Nat.ble, tz_3, tz_24, tz_29] <;> rfl) fun ac wd h => ?_
  obtain ⟨r7, hc8, hD⟩ := Option.bind_eq_some_iff.1 hD
  have hc8_6 : CallH Try.prog 46 [.one (.d (.int .i64 (a0.length : Int))), .one (.fnp 47 [((1, 0), 0)])] [((1, 0), some (.box 24 [.d (.sl (List.map (eL eI) a0))]))] (.one (.own (6, 0) r7.1.length)) [((1, 0), some (.box 24 [.d (.sl (List.map (eL eI) r7.2))])), ((6, 0), some (.row 29 1 (openRows cols_29 (List.map (eL eI) r7.1))))] := (((L_piece_lists_int_own hc8).cls 6).nm (0, 0) (1, 0)).as (by simp only [EX, simprocAttr, Nat.blt, Nat.ble, fren, mren, AV.ren, AObj.ren, Cell.ren, sumRen, Upd.ren, swp, csw, dat_ren, opn_ren] <;> rfl)
  refine rs_plain 8 [factR hc8_6] [none, none, none, none, none] [2] [(6, 0)] h rfl rfl (by simp only [EX, simprocAttr, Nat.blt, Nat.ble, tz_3, tz_24, tz_29] <;> rfl) fun ac wd h => ?_
  refine wp_ret ?_
  have h := h.same [2] [(6, 0)] 8 [(2, .one (.own (6, 0) r7.1.length))]
    [((6, 0), some (.row 29 1 (openRows cols_29 (List.map (eL eI) r7.1))))]
    (by simp only [EX, simprocAttr, Nat.blt, Nat.ble, dat_open] <;> rfl)
  have h := SL.swap h (1, 0) (6, 0) 8 (by decide) (by decide) (by simp only [EX, simprocAttr, Nat.blt, Nat.ble, fren, mren, AV.ren, AObj.ren, Cell.ren, sumRen, Upd.ren, swp, csw, dat_ren, opn_ren] <;> rfl) (by simp only [EX, simprocAttr, Nat.blt, Nat.ble, fren, mren, AV.ren, AObj.ren, Cell.ren, sumRen, Upd.ren, swp, csw, dat_ren, opn_ren] <;> rfl) (by simp only [EX, simprocAttr, Nat.blt, Nat.ble, fren, mren, AV.ren, AObj.ren, Cell.ren, sumRen, Upd.ren, swp, csw, dat_ren, opn_ren] <;> rfl)
  have h := h.same [2] [(1, 0)] 8 [(2, .one (.own (1, 0) r7.1.length))]
    [((1, 0), some (.row 29 1 (openRows cols_29 (List.map (eL eI) r7.1))))]
    (by simp only [EX, simprocAttr, Nat.blt, Nat.ble, dat_open] <;> rfl)
  injection hD with hD
  subst hD
  exact r_retO rfl h [.tmp 2] rfl [(1, 0)] (by simp only [retO, List.mapM_cons, List.mapM_nil, Option.bind_eq_bind, Option.pure_def, EX, simprocAttr, Nat.blt, Nat.ble] <;> rfl)
theorem L_piece_own_int_ok {a0 : (List (List Int))} {r : (List (List Int))} (hD : L_piece_own_int a0 = some r) :
    CallH Try.prog 40 [.one (.d (.sl (List.map (eL eI) a0)))] []
      (.one (.d (.sl (List.map (eL eI) r)))) [] :=
  (L_piece_own_int_own hD).frz (by simp only [EX, simprocAttr, Nat.blt, Nat.ble] <;> rfl) (by simp only [frzA, frzSum, EX, simprocAttr, Nat.blt, Nat.ble] <;> rfl) rfl

set_option maxRecDepth 20000 in
set_option maxHeartbeats 4000000 in
theorem L_piece_Own_own {a0 : TPiece} {r : TPiece} (hD : L_piece_Own a0 = some r) :
    CallH Try.prog 32 [.agg [.d (.int .i64 a0.Node), .d (.int .i64 a0.State), .d (.int .i64 a0.Steps), .d (.sl (List.map eI a0.Sent)), .d (.sl (List.map (eL eTMsg) a0.In)), .d (.sl (List.map (eL eI) a0.Out))]] []
      (.agg [.d (.int .i64 r.Node), .d (.int .i64 r.State), .d (.int .i64 r.Steps), .own (1, 0) r.Sent.length, .own (1, 1) r.In.length, .own (1, 2) r.Out.length]) [((1, 0), some (.row 3 1 (dat (List.map eI r.Sent)))), ((1, 1), some (.row 57 1 (openRows cols_57 (List.map (eL eTMsg) r.In)))), ((1, 2), some (.row 29 1 (openRows cols_29 (List.map (eL eI) r.Out))))] := by
  unfold L_piece_Own at hD
  refine r_call Try.func32 rfl Try.ntmps32 (by kernel_rfl) (by rfl) (by simp only [shutB, EX, simprocAttr, Nat.blt, Nat.ble] <;> rfl) (by simp) fun S Φ P0 wb ac h => ?_
  refine rs_plain 3 [] [none, none] [1, 2] [(1, 0), (2, 0)] h rfl rfl (by simp only [EX, simprocAttr, Nat.blt, Nat.ble, tz_31] <;> rfl) fun ac wd h => ?_
  obtain ⟨r19, hc20, hD⟩ := Option.bind_eq_some_iff.1 hD
  obtain ⟨r21, hc22, hD⟩ := Option.bind_eq_some_iff.1 hD
  obtain ⟨r23, hc24, hD⟩ := Option.bind_eq_some_iff.1 hD
  have hc20_11 : CallH Try.prog 38 [.one (.d (.sl (List.map eI a0.Sent)))] [] (.one (.own (11, 0) r19.length)) [((11, 0), some (.row 3 1 (dat (List.map eI r19))))] := ((L_slices_Clone_int_int_own hc20).cls 11).as (by simp only [EX, simprocAttr, Nat.blt, Nat.ble, fren, mren, AV.ren, AObj.ren, Cell.ren, sumRen, Upd.ren, swp, csw, dat_ren, opn_ren] <;> rfl)
  have hc22_14 : CallH Try.prog 39 [.one (.d (.sl (List.map (eL eTMsg) a0.In)))] [] (.one (.own (14, 0) r21.length)) [((14, 0), some (.row 57 1 (openRows cols_57 (List.map (eL eTMsg) r21))))] := ((L_piece_own_api_Msg_own hc22).cls 14).as (by simp only [EX, simprocAttr, Nat.blt, Nat.ble, fren, mren, AV.ren, AObj.ren, Cell.ren, sumRen, Upd.ren, swp, csw, dat_ren, opn_ren] <;> rfl)
  have hc24_17 : CallH Try.prog 40 [.one (.d (.sl (List.map (eL eI) a0.Out)))] [] (.one (.own (17, 0) r23.length)) [((17, 0), some (.row 29 1 (openRows cols_29 (List.map (eL eI) r23))))] := ((L_piece_own_int_own hc24).cls 17).as (by simp only [EX, simprocAttr, Nat.blt, Nat.ble, fren, mren, AV.ren, AObj.ren, Cell.ren, sumRen, Upd.ren, swp, csw, dat_ren, opn_ren] <;> rfl)
  refine rs_drawn 20 ty_hm [factO hc20_11, factO hc22_14, factO hc24_17] [none, none, none, none, none, none, none, none, none, none, none, none, none, none, none, none, none] [2] [(2, 0), (11, 0), (14, 0), (17, 0)] h rfl rfl (by simp only [EX, simprocAttr, Nat.blt, Nat.ble, tz_2, tz_3, tz_4, tz_5, tz_23, tz_24, tz_29, tz_31, tz_38, tz_57] <;> rfl) (by kernel_rfl) fun ac wd h => ?_
  refine wp_ret ?_
  have h := h.same [2] [(2, 0), (11, 0), (14, 0), (17, 0)] 20 [(2, .one (.ptr (2, 0) 0))]
    [((2, 0), some (.box 31 [.d (.int .i64 a0.Node), .d (.int .i64 a0.State), .d (.int .i64 a0.Steps), .own (11, 0) r19.length, .own (14, 0) r21.length, .own (17, 0) r23.length])), ((11, 0), some (.row 3 1 (dat (List.map eI r19)))), ((14, 0), some (.row 57 1 (openRows cols_57 (List.map (eL eTMsg) r21)))), ((17, 0), some (.row 29 1 (openRows cols_29 (List.map (eL eI) r23))))]
    (by simp only [EX, simprocAttr, Nat.blt, Nat.ble, dat_open] <;> rfl)
  have h := SL.swap h (1, 0) (11, 0) 20 (by decide) (by decide) (by simp only [EX, simprocAttr, Nat.blt, Nat.ble, fren, mren, AV.ren, AObj.ren, Cell.ren, sumRen, Upd.ren, swp, csw, dat_ren, opn_ren] <;> rfl) (by simp only [EX, simprocAttr, Nat.blt, Nat.ble, fren, mren, AV.ren, AObj.ren, Cell.ren, sumRen, Upd.ren, swp, csw, dat_ren, opn_ren] <;> rfl) (by simp only [EX, simprocAttr, Nat.blt, Nat.ble, fren, mren, AV.ren, AObj.ren, Cell.ren, sumRen, Upd.ren, swp, csw, dat_ren, opn_ren] <;> rfl)
  have h := h.same [2] [(1, 0), (2, 0), (14, 0), (17, 0)] 20 [(2, .one (.ptr (2, 0) 0))]
    [((1, 0), some (.row 3 1 (dat (List.map eI r19)))), ((2, 0), some (.box 31 [.d (.int .i64 a0.Node), .d (.int .i64 a0.State), .d (.int .i64 a0.Steps), .own (1, 0) r19.length, .own (14, 0) r21.length, .own (17, 0) r23.length])), ((14, 0), some (.row 57 1 (openRows cols_57 (List.map (eL eTMsg) r21)))), ((17, 0), some (.row 29 1 (openRows cols_29 (List.map (eL eI) r23))))]
    (by simp only [EX, simprocAttr, Nat.blt, Nat.ble, dat_open] <;> rfl)
  have h := SL.swap h (1, 1) (14, 0) 20 (by decide) (by decide) (by simp only [EX, simprocAttr, Nat.blt, Nat.ble, fren, mren, AV.ren, AObj.ren, Cell.ren, sumRen, Upd.ren, swp, csw, dat_ren, opn_ren] <;> rfl) (by simp only [EX, simprocAttr, Nat.blt, Nat.ble, fren, mren, AV.ren, AObj.ren, Cell.ren, sumRen, Upd.ren, swp, csw, dat_ren, opn_ren] <;> rfl) (by simp only [EX, simprocAttr, Nat.blt, Nat.ble, fren, mren, AV.ren, AObj.ren, Cell.ren, sumRen, Upd.ren, swp, csw, dat_ren, opn_ren] <;> rfl)
  have h := h.same [2] [(1, 0), (1, 1), (2, 0), (17, 0)] 20 [(2, .one (.ptr (2, 0) 0))]
    [((1, 0), some (.row 3 1 (dat (List.map eI r19)))), ((1, 1), some (.row 57 1 (openRows cols_57 (List.map (eL eTMsg) r21)))), ((2, 0), some (.box 31 [.d (.int .i64 a0.Node), .d (.int .i64 a0.State), .d (.int .i64 a0.Steps), .own (1, 0) r19.length, .own (1, 1) r21.length, .own (17, 0) r23.length])), ((17, 0), some (.row 29 1 (openRows cols_29 (List.map (eL eI) r23))))]
    (by simp only [EX, simprocAttr, Nat.blt, Nat.ble, dat_open] <;> rfl)
  have h := SL.swap h (1, 2) (17, 0) 20 (by decide) (by decide) (by simp only [EX, simprocAttr, Nat.blt, Nat.ble, fren, mren, AV.ren, AObj.ren, Cell.ren, sumRen, Upd.ren, swp, csw, dat_ren, opn_ren] <;> rfl) (by simp only [EX, simprocAttr, Nat.blt, Nat.ble, fren, mren, AV.ren, AObj.ren, Cell.ren, sumRen, Upd.ren, swp, csw, dat_ren, opn_ren] <;> rfl) (by simp only [EX, simprocAttr, Nat.blt, Nat.ble, fren, mren, AV.ren, AObj.ren, Cell.ren, sumRen, Upd.ren, swp, csw, dat_ren, opn_ren] <;> rfl)
  have h := h.same [2] [(1, 0), (1, 1), (1, 2), (2, 0)] 20 [(2, .one (.ptr (2, 0) 0))]
    [((1, 0), some (.row 3 1 (dat (List.map eI r19)))), ((1, 1), some (.row 57 1 (openRows cols_57 (List.map (eL eTMsg) r21)))), ((1, 2), some (.row 29 1 (openRows cols_29 (List.map (eL eI) r23)))), ((2, 0), some (.box 31 [.d (.int .i64 a0.Node), .d (.int .i64 a0.State), .d (.int .i64 a0.Steps), .own (1, 0) r19.length, .own (1, 1) r21.length, .own (1, 2) r23.length]))]
    (by simp only [EX, simprocAttr, Nat.blt, Nat.ble, dat_open] <;> rfl)
  injection hD with hD
  subst hD
  exact r_retO rfl h [.cell 2 31] rfl [(1, 0), (1, 1), (1, 2)] (by simp only [retO, List.mapM_cons, List.mapM_nil, Option.bind_eq_bind, Option.pure_def, EX, simprocAttr, Nat.blt, Nat.ble, tz_31] <;> rfl)
theorem L_piece_Own_ok {a0 : TPiece} {r : TPiece} (hD : L_piece_Own a0 = some r) :
    CallH Try.prog 32 [.agg [.d (.int .i64 a0.Node), .d (.int .i64 a0.State), .d (.int .i64 a0.Steps), .d (.sl (List.map eI a0.Sent)), .d (.sl (List.map (eL eTMsg) a0.In)), .d (.sl (List.map (eL eI) a0.Out))]] []
      (.agg [.d (.int .i64 r.Node), .d (.int .i64 r.State), .d (.int .i64 r.Steps), .d (.sl (List.map eI r.Sent)), .d (.sl (List.map (eL eTMsg) r.In)), .d (.sl (List.map (eL eI) r.Out))]) [] :=
  (L_piece_Own_own hD).frz (by simp only [EX, simprocAttr, Nat.blt, Nat.ble] <;> rfl) (by simp only [frzA, frzSum, EX, simprocAttr, Nat.blt, Nat.ble] <;> rfl) rfl

set_option maxRecDepth 20000 in
set_option maxHeartbeats 4000000 in
theorem L_host_Piece_own {a0 : THost} {a1 : Bool} {r : TPiece} (hD : L_host_Piece a0 a1 = some r) :
    CallH Try.prog 30 [.agg [.d (.int .i64 a0.Node), .d (.int .i64 a0.State), .d (.int .i64 a0.Steps), .d (.sl (List.map (eL eTMsg) a0.In)), .d (.sl (List.map (eL eI) a0.Out))], .one (.d (.bool a1))] []
      (.agg [.d (.int .i64 r.Node), .d (.int .i64 r.State), .d (.int .i64 r.Steps), .own (1, 0) r.Sent.length, .own (1, 1) r.In.length, .own (1, 2) r.Out.length]) [((1, 0), some (.row 3 1 (dat (List.map eI r.Sent)))), ((1, 1), some (.row 57 1 (openRows cols_57 (List.map (eL eTMsg) r.In)))), ((1, 2), some (.row 29 1 (openRows cols_29 (List.map (eL eI) r.Out))))] := by
  unfold L_host_Piece at hD
  refine r_call Try.func30 rfl Try.ntmps30 (by kernel_rfl) (by rfl) (by simp only [shutB, EX, simprocAttr, Nat.blt, Nat.ble] <;> rfl) (by simp) fun S Φ P0 wb ac h => ?_
  refine rs_plain 3 [] [none, none] [1, 2, 4] [(1, 0), (2, 0)] h rfl rfl (by simp only [EX, simprocAttr, Nat.blt, Nat.ble, tz_26, tz_31] <;> rfl) fun ac wd h => ?_
  obtain ⟨r106, hc107, hD⟩ := Option.bind_eq_some_iff.1 hD
  obtain ⟨r108, hc109, hD⟩ := Option.bind_eq_some_iff.1 hD
  have hc107k := L_host_Host_told_ok hc107
  have hc109_5 : CallH Try.prog 32 [.agg [.d (.int .i64 r106.Node), .d (.int .i64 r106.State), .d (.int .i64 r106.Steps), .d (.sl (List.map eI r106.Sent)), .d (.sl (List.map (eL eTMsg) r106.In)), .d (.sl (List.map (eL eI) r106.Out))]] [] (.agg [.d (.int .i64 r108.Node), .d (.int .i64 r108.State), .d (.int .i64 r108.Steps), .own (5, 0) r108.Sent.length, .own (5, 1) r108.In.length, .own (5, 2) r108.Out.length]) [((5, 0), some (.row 3 1 (dat (List.map eI r108.Sent)))), ((5, 1), some (.row 57 1 (openRows cols_57 (List.map (eL eTMsg) r108.In)))), ((5, 2), some (.row 29 1 (openRows cols_29 (List.map (eL eI) r108.Out))))] := ((L_piece_Own_own hc109).cls 5).as (by simp only [EX, simprocAttr, Nat.blt, Nat.ble, fren, mren, AV.ren, AObj.ren, Cell.ren, sumRen, Upd.ren, swp, csw, dat_ren, opn_ren] <;> rfl)
  refine rs_plain 8 [factE 4 hc107k, factO hc109_5] [none, none, none, none, none] [1, 2, 4, 5] [(1, 0), (2, 0), (5, 0), (5, 1), (5, 2), (6, 0)] h rfl rfl (by simp only [EX, simprocAttr, Nat.blt, Nat.ble, tz_26, tz_31] <;> rfl) fun ac wd h => ?_
  refine wp_seq ?_
  refine rs_plain 10 [] [none, none] [2, 4, 5, 12] [(1, 0), (2, 0), (5, 0), (5, 1), (5, 2), (6, 0)] h rfl rfl (by simp only [EX, simprocAttr, Nat.blt, Nat.ble, tz_4] <;> rfl) fun ac wd h => ?_
  obtain ⟨e115, hE116, hD⟩ := Option.bind_eq_some_iff.1 hD
  refine r_meet (fun ac wd => ∃ (l113 : List (List TMsg)) (l114 : List (List Int)), (l113, l114) = e115 ∧ SL ⟨wb, S, Φ, P0⟩ 35 19 [(2, .one (.ptr (1, 0) 0)), (4, .one (.ptr (2, 0) 0)), (5, .one (.ptr (6, 0) 0))] [((1, 0), some (.box 26 [.d (.int .i64 a0.Node), .d (.int .i64 a0.State), .d (.int .i64 a0.Steps), .d (.sl (List.map (eL eTMsg) a0.In)), .d (.sl (List.map (eL eI) a0.Out))])), ((2, 0), some (.box 31 [.d (.int .i64 0), .d (.int .i64 0), .d (.int .i64 0), .nil, .nil, .nil])), ((5, 0), some (.row 3 1 (dat (List.map eI r108.Sent)))), ((5, 1), some (.row 57 1 (openRows cols_57 (List.map (eL eTMsg) l113)))), ((5, 2), some (.row 29 1 (openRows cols_29 (List.map (eL eI) l114)))), ((6, 0), some (.box 31 [.d (.int .i64 r108.Node), .d (.int .i64 r108.State), .d (.int .i64 r108.Steps), .own (5, 0) r108.Sent.length, .own (5, 1) l113.length, .own (5, 2) l114.length]))] ac wd) ?_ ?_
  · skip
    by_cases hb117 : a1 = true
    · rw [if_pos hb117] at hE116
      refine r_condF h (!(a1)) (by simp only [EX, simprocAttr, Nat.blt, Nat.ble, hb117] <;> rfl) (by first | rfl | (simp only [EX, simprocAttr, Nat.blt, Nat.ble, hb117] <;> rfl)) ?_
      refine wp_skip ?_
      have h := h.same [2, 4, 5] [(1, 0), (2, 0), (5, 0), (5, 1), (5, 2), (6, 0)] 19 [(2, .one (.ptr (1, 0) 0)), (4, .one (.ptr (2, 0) 0)), (5, .one (.ptr (6, 0) 0))]
        [((1, 0), some (.box 26 [.d (.int .i64 a0.Node), .d (.int .i64 a0.State), .d (.int .i64 a0.Steps), .d (.sl (List.map (eL eTMsg) a0.In)), .d (.sl (List.map (eL eI) a0.Out))])), ((2, 0), some (.box 31 [.d (.int .i64 0), .d (.int .i64 0), .d (.int .i64 0), .nil, .nil, .nil])), ((5, 0), some (.row 3 1 (dat (List.map eI r108.Sent)))), ((5, 1), some (.row 57 1 (openRows cols_57 (List.map (eL eTMsg) r108.In)))), ((5, 2), some (.row 29 1 (openRows cols_29 (List.map (eL eI) r108.Out)))), ((6, 0), some (.box 31 [.d (.int .i64 r108.Node), .d (.int .i64 r108.State), .d (.int .i64 r108.Steps), .own (5, 0) r108.Sent.length, .own (5, 1) r108.In.length, .own (5, 2) r108.Out.length]))]
        (by simp only [EX, simprocAttr, Nat.blt, Nat.ble, hb117] <;> rfl)
      injection hE116 with hE116
      exact ⟨r108.In, r108.Out, hE116, h⟩
    · rw [if_neg hb117] at hE116
      have hb117n := eq_false_of_ne_true hb117
      refine r_condT h (!(a1)) (by simp only [EX, simprocAttr, Nat.blt, Nat.ble, hb117n] <;> rfl) (by first | rfl | (simp only [EX, simprocAttr, Nat.blt, Nat.ble, hb117n] <;> rfl)) ?_
      by_cases ha118 : 24 * a0.In.length ≤ 140737488355328
      case neg => rw [if_neg ha118] at hE116; cases hE116
      rw [if_pos ha118] at hE116
      by_cases ha119 : a0.In.length ≤ 140737488355328
      case neg => rw [if_neg ha119] at hE116; cases hE116
      rw [if_pos ha119] at hE116
      refine r_plain [] [none, none, none, none, none, none, none, none] [2, 4, 5] [(1, 0), (2, 0), (5, 0), (6, 0), (13, 0)] h rfl (by simp only [EX, simprocAttr, Nat.blt, Nat.ble, tz_3, tz_4, tz_5, tz_23, tz_24, tz_26, tz_29, tz_31, tz_38, tz_57, hb117n, ha118, ha119] <;> rfl) fun ac wd h => ?_
      have h := h.nilTr (13, 0) (l := List.replicate a0.In.length [.nil]) (l' := List.replicate a0.In.length [.tr (.sl 38 2 (fun _ => .sc)) (.sl (List.map eTMsg []))]) (by simp only [EX, simprocAttr, Nat.blt, Nat.ble, hb117n, ha118, ha119] <;> rfl) (RowsTo.rep (RowTo.cons (.inr (.inr ⟨rfl, _, _, _, rfl⟩)) RowTo.nil) _)
      have h := h.same [2, 4, 5] [(1, 0), (2, 0), (5, 0), (6, 0), (13, 0)] 18 [(2, .one (.ptr (1, 0) 0)), (4, .one (.ptr (2, 0) 0)), (5, .one (.ptr (6, 0) 0))]
        [((1, 0), some (.box 26 [.d (.int .i64 a0.Node), .d (.int .i64 a0.State), .d (.int .i64 a0.Steps), .d (.sl (List.map (eL eTMsg) a0.In)), .d (.sl (List.map (eL eI) a0.Out))])), ((2, 0), some (.box 31 [.d (.int .i64 0), .d (.int .i64 0), .d (.int .i64 0), .nil, .nil, .nil])), ((5, 0), some (.row 3 1 (dat (List.map eI r108.Sent)))), ((6, 0), some (.box 31 [.d (.int .i64 r108.Node), .d (.int .i64 r108.State), .d (.int .i64 r108.Steps), .own (5, 0) r108.Sent.length, .own (13, 0) a0.In.length, .nil])), ((13, 0), some (.row 57 1 (List.replicate a0.In.length [.tr (.sl 38 2 (fun _ => .sc)) (.sl (List.map eTMsg []))])))]
        (by simp only [EX, simprocAttr, Nat.blt, Nat.ble, hb117n, ha118, ha119, dat_open] <;> rfl)
      have h := SL.bornB h (6, 0) 5 29 1 (by simp only [EX, simprocAttr, Nat.blt, Nat.ble, hb117n, ha118, ha119] <;> rfl) (by simp only [EX, simprocAttr, Nat.blt, Nat.ble, hb117n, ha118, ha119] <;> rfl)
      have h := SL.swap h (5, 1) (13, 0) 19 (by decide) (by decide) (by simp only [EX, simprocAttr, Nat.blt, Nat.ble, hb117n, ha118, ha119, fren, mren, AV.ren, AObj.ren, Cell.ren, sumRen, Upd.ren, swp, csw, dat_ren, opn_ren] <;> rfl) (by simp only [EX, simprocAttr, Nat.blt, Nat.ble, hb117n, ha118, ha119, fren, mren, AV.ren, AObj.ren, Cell.ren, sumRen, Upd.ren, swp, csw, dat_ren, opn_ren] <;> rfl) (by simp only [EX, simprocAttr, Nat.blt, Nat.ble, hb117n, ha118, ha119, fren, mren, AV.ren, AObj.ren, Cell.ren, sumRen, Upd.ren, swp, csw, dat_ren, opn_ren] <;> rfl)
      have h := SL.swap h (5, 2) (18, 0) 19 (by decide) (by decide) (by simp only [EX, simprocAttr, Nat.blt, Nat.ble, hb117n, ha118, ha119, fren, mren, AV.ren, AObj.ren, Cell.ren, sumRen, Upd.ren, swp, csw, dat_ren, opn_ren] <;> rfl) (by simp only [EX, simprocAttr, Nat.blt, Nat.ble, hb117n, ha118, ha119, fren, mren, AV.ren, AObj.ren, Cell.ren, sumRen, Upd.ren, swp, csw, dat_ren, opn_ren] <;> rfl) (by simp only [EX, simprocAttr, Nat.blt, Nat.ble, hb117n, ha118, ha119, fren, mren, AV.ren, AObj.ren, Cell.ren, sumRen, Upd.ren, swp, csw, dat_ren, opn_ren] <;> rfl)
      have h := h.same [2, 4, 5] [(1, 0), (2, 0), (5, 0), (5, 1), (5, 2), (6, 0)] 19 [(2, .one (.ptr (1, 0) 0)), (4, .one (.ptr (2, 0) 0)), (5, .one (.ptr (6, 0) 0))]
        [((1, 0), some (.box 26 [.d (.int .i64 a0.Node), .d (.int .i64 a0.State), .d (.int .i64 a0.Steps), .d (.sl (List.map (eL eTMsg) a0.In)), .d (.sl (List.map (eL eI) a0.Out))])), ((2, 0), some (.box 31 [.d (.int .i64 0), .d (.int .i64 0), .d (.int .i64 0), .nil, .nil, .nil])), ((5, 0), some (.row 3 1 (dat (List.map eI r108.Sent)))), ((5, 1), some (.row 57 1 (openRows cols_57 (List.map (eL eTMsg) ((List.replicate a0.In.length []) : List (List TMsg)))))), ((5, 2), some (.row 29 1 (openRows cols_29 (List.map (eL eI) ([] : List (List Int)))))), ((6, 0), some (.box 31 [.d (.int .i64 r108.Node), .d (.int .i64 r108.State), .d (.int .i64 r108.Steps), .own (5, 0) r108.Sent.length, .own (5, 1) ((List.replicate a0.In.length []) : List (List TMsg)).length, .own (5, 2) ([] : List (List Int)).length]))]
        (by simp only [EX, simprocAttr, Nat.blt, Nat.ble, hb117n, ha118, ha119] <;> rfl)
      injection hE116 with hE116
      exact ⟨((List.replicate a0.In.length []) : List (List TMsg)), ([] : List (List Int)), hE116, h⟩
  · skip
    rintro ac wd ⟨l113, l114, rfl, h⟩
    (try dsimp only at hD)
    refine wp_seq ?_
    refine rs_plain 23 [] [none, none, none, none] [4, 5, 20, 21, 22] [(2, 0), (5, 0), (5, 1), (5, 2), (6, 0)] h rfl rfl (by simp only [EX, simprocAttr, Nat.blt, Nat.ble, tz_3, tz_4, tz_24, tz_26, tz_29] <;> rfl) fun ac wd h => ?_
    refine wp_block ?_
    have h := h.same [4, 5, 20, 21, 22] [(2, 0), (5, 0), (5, 1), (5, 2), (6, 0)] 51 [(4, .one (.ptr (2, 0) 0)), (5, .one (.ptr (6, 0) 0)), (20, .one (.d (.sl (List.map (eL eI) a0.Out)))), (21, .one (.d (.int .i64 (a0.Out.length : Int)))), (22, .one (.d (.int .i64 0)))]
      [((2, 0), some (.box 31 [.d (.int .i64 0), .d (.int .i64 0), .d (.int .i64 0), .nil, .nil, .nil])), ((5, 0), some (.row 3 1 (dat (List.map eI r108.Sent)))), ((5, 1), some (.row 57 1 (openRows cols_57 (List.map (eL eTMsg) l113)))), ((5, 2), some (.row 29 1 (openRows cols_29 (List.map (eL eI) l114)))), ((6, 0), some (.box 31 [.d (.int .i64 r108.Node), .d (.int .i64 r108.State), .d (.int .i64 r108.Steps), .own (5, 0) r108.Sent.length, .own (5, 1) l113.length, .own (5, 2) l114.length]))]
      (by simp only [EX, simprocAttr, Nat.blt, Nat.ble] <;> rfl)
    refine r_while (fun nf ac wd => ∃ (n186 : Int) (l187 : List Int), L_host_Piece_l1 a0 l113 l114 r108 nf n186 l187 = some r ∧ SL ⟨wb, S, Φ, P0⟩ 35 51 [(4, .one (.ptr (2, 0) 0)), (5, .one (.ptr (6, 0) 0)), (20, .one (.d (.sl (List.map (eL eI) a0.Out)))), (21, .one (.d (.int .i64 (a0.Out.length : Int)))), (22, .one (.d (.int .i64 n186)))] [((2, 0), some (.box 31 [.d (.int .i64 0), .d (.int .i64 0), .d (.int .i64 0), .nil, .nil, .nil])), ((5, 0), some (.row 3 1 (dat (List.map eI l187)))), ((5, 1), some (.row 57 1 (openRows cols_57 (List.map (eL eTMsg) l113)))), ((5, 2), some (.row 29 1 (openRows cols_29 (List.map (eL eI) l114)))), ((6, 0), some (.box 31 [.d (.int .i64 r108.Node), .d (.int .i64 r108.State), .d (.int .i64 r108.Steps), .own (5, 0) l187.length, .own (5, 1) l113.length, .own (5, 2) l114.length]))] ac wd) (((a0.Out.length : Int) - 0).toNat + 1) ⟨0, r108.Sent, hD, h⟩ (fun nf ac wd hJ => ?_)
    obtain ⟨n186, l187, hL188, h⟩ := hJ
    cases nf with
    | zero => rw [L_host_Piece_l1] at hL188; cases hL188
    | succ nf =>
      rw [L_host_Piece_l1] at hL188
      refine rs_plain 52 [] [none] [4, 5, 20, 21, 22, 23] [(2, 0), (5, 0), (5, 1), (5, 2), (6, 0)] h rfl rfl (by simp only [EX, simprocAttr, Nat.blt, Nat.ble, tz_3] <;> rfl) fun ac wd h => ?_
      refine wp_seq ?_
      by_cases hb190 : n186 < (a0.Out.length : Int)
      · rw [if_pos hb190] at hL188
        refine r_condT h (decide (n186 < (a0.Out.length : Int))) (by simp only [EX, simprocAttr, Nat.blt, Nat.ble, hb190] <;> rfl) (by first | rfl | (simp only [EX, simprocAttr, Nat.blt, Nat.ble, hb190] <;> rfl)) ?_
        refine wp_skip ?_
        change Code.wp Try.prog _ _ _ _
        refine wp_seq ?_
        refine wp_block ?_
        obtain ⟨x198, hx199, hL188⟩ := Option.bind_eq_some_iff.1 hL188
        obtain ⟨hx199a, hx199b, hx199c⟩ := at_some hx199
        have hx199d := (List.getElem?_eq_some_iff.1 hx199b).1
        refine rs_plain 55 [] [none, none, none] [4, 5, 7, 20, 21, 22] [(2, 0), (5, 0), (5, 1), (5, 2), (6, 0)] h rfl rfl (by simp only [EX, simprocAttr, Nat.blt, Nat.ble, tz_3, tz_24, tz_29, hb190, hx199a, hx199b, hx199c, hx199d] <;> rfl) fun ac wd h => ?_
        by_cases ha200 : (l187.length + 1) * 8 ≤ 140737488355328
        case neg => rw [if_neg ha200] at hL188; cases hL188
        rw [if_pos ha200] at hL188
        refine r_plain [] [none, none, none, none, none, none, none, none] [4, 5, 20, 21, 22] [(2, 0), (5, 1), (5, 2), (6, 0), (60, 0)] h rfl (by simp only [EX, simprocAttr, Nat.blt, Nat.ble, tz_3, tz_29, tz_31, hb190, ha200] <;> rfl) fun ac wd h => ?_
        change Code.wp Try.prog _ _ _ _
        refine r_plain [] [none, none] [4, 5, 20, 21, 22] [(2, 0), (5, 1), (5, 2), (6, 0), (60, 0)] h rfl (by simp only [EX, simprocAttr, Nat.blt, Nat.ble, tz_3, hb190, ha200] <;> rfl) fun ac wd h => ?_
        have h := SL.swap h (5, 0) (60, 0) 65 (by decide) (by decide) (by simp only [EX, simprocAttr, Nat.blt, Nat.ble, hb190, hx199a, hx199b, hx199c, hx199d, ha200, fren, mren, AV.ren, AObj.ren, Cell.ren, sumRen, Upd.ren, swp, csw, dat_ren, opn_ren] <;> rfl) (by simp only [EX, simprocAttr, Nat.blt, Nat.ble, hb190, hx199a, hx199b, hx199c, hx199d, ha200, fren, mren, AV.ren, AObj.ren, Cell.ren, sumRen, Upd.ren, swp, csw, dat_ren, opn_ren] <;> rfl) (by simp only [EX, simprocAttr, Nat.blt, Nat.ble, hb190, hx199a, hx199b, hx199c, hx199d, ha200, fren, mren, AV.ren, AObj.ren, Cell.ren, sumRen, Upd.ren, swp, csw, dat_ren, opn_ren] <;> rfl)
        have h := h.same [4, 5, 20, 21, 22] [(2, 0), (5, 0), (5, 1), (5, 2), (6, 0)] 51 [(4, .one (.ptr (2, 0) 0)), (5, .one (.ptr (6, 0) 0)), (20, .one (.d (.sl (List.map (eL eI) a0.Out)))), (21, .one (.d (.int .i64 (a0.Out.length : Int)))), (22, .one (.d (.int .i64 (IntKind.wrap .i64 (n186 + 1)))))]
          [((2, 0), some (.box 31 [.d (.int .i64 0), .d (.int .i64 0), .d (.int .i64 0), .nil, .nil, .nil])), ((5, 0), some (.row 3 1 (dat (List.map eI (l187 ++ [(x198.length : Int)]))))), ((5, 1), some (.row 57 1 (openRows cols_57 (List.map (eL eTMsg) l113)))), ((5, 2), some (.row 29 1 (openRows cols_29 (List.map (eL eI) l114)))), ((6, 0), some (.box 31 [.d (.int .i64 r108.Node), .d (.int .i64 r108.State), .d (.int .i64 r108.Steps), .own (5, 0) (l187 ++ [(x198.length : Int)]).length, .own (5, 1) l113.length, .own (5, 2) l114.length]))]
          (by simp only [EX, simprocAttr, Nat.blt, Nat.ble, hb190, hx199a, hx199b, hx199c, hx199d, ha200] <;> rfl)
        change ∃ n', _ ∧ _
        exact ⟨nf, Nat.lt_succ_self nf, (IntKind.wrap .i64 (n186 + 1)), (l187 ++ [(x198.length : Int)]), hL188, h⟩
      · rw [if_neg hb190] at hL188
        refine r_condF h (decide (n186 < (a0.Out.length : Int))) (by simp only [EX, simprocAttr, Nat.blt, Nat.ble, hb190] <;> rfl) (by first | rfl | (simp only [EX, simprocAttr, Nat.blt, Nat.ble, hb190] <;> rfl)) ?_
        refine wp_exit ?_
        change Code.wp Try.prog _ _ _ _
        refine rs_plain 54 [] [none, none] [4] [(2, 0), (5, 0), (5, 1), (5, 2)] h rfl rfl (by simp only [EX, simprocAttr, Nat.blt, Nat.ble, tz_31, hb190] <;> rfl) fun ac wd h => ?_
        refine wp_ret ?_
        have h := h.same [4] [(2, 0), (5, 0), (5, 1), (5, 2)] 54 [(4, .one (.ptr (2, 0) 0))]
          [((2, 0), some (.box 31 [.d (.int .i64 r108.Node), .d (.int .i64 r108.State), .d (.int .i64 r108.Steps), .own (5, 0) l187.length, .own (5, 1) l113.length, .own (5, 2) l114.length])), ((5, 0), some (.row 3 1 (dat (List.map eI l187)))), ((5, 1), some (.row 57 1 (openRows cols_57 (List.map (eL eTMsg) l113)))), ((5, 2), some (.row 29 1 (openRows cols_29 (List.map (eL eI) l114))))]
          (by simp only [EX, simprocAttr, Nat.blt, Nat.ble, hb190, dat_open] <;> rfl)
        have h := SL.swap h (1, 0) (5, 0) 54 (by decide) (by decide) (by simp only [EX, simprocAttr, Nat.blt, Nat.ble, hb190, fren, mren, AV.ren, AObj.ren, Cell.ren, sumRen, Upd.ren, swp, csw, dat_ren, opn_ren] <;> rfl) (by simp only [EX, simprocAttr, Nat.blt, Nat.ble, hb190, fren, mren, AV.ren, AObj.ren, Cell.ren, sumRen, Upd.ren, swp, csw, dat_ren, opn_ren] <;> rfl) (by simp only [EX, simprocAttr, Nat.blt, Nat.ble, hb190, fren, mren, AV.ren, AObj.ren, Cell.ren, sumRen, Upd.ren, swp, csw, dat_ren, opn_ren] <;> rfl)
        have h := h.same [4] [(1, 0), (2, 0), (5, 1), (5, 2)] 54 [(4, .one (.ptr (2, 0) 0))]
          [((1, 0), some (.row 3 1 (dat (List.map eI l187)))), ((2, 0), some (.box 31 [.d (.int .i64 r108.Node), .d (.int .i64 r108.State), .d (.int .i64 r108.Steps), .own (1, 0) l187.length, .own (5, 1) l113.length, .own (5, 2) l114.length])), ((5, 1), some (.row 57 1 (openRows cols_57 (List.map (eL eTMsg) l113)))), ((5, 2), some (.row 29 1 (openRows cols_29 (List.map (eL eI) l114))))]
          (by simp only [EX, simprocAttr, Nat.blt, Nat.ble, hb190, dat_open] <;> rfl)
        have h := SL.swap h (1, 1) (5, 1) 54 (by decide) (by decide) (by simp only [EX, simprocAttr, Nat.blt, Nat.ble, hb190, fren, mren, AV.ren, AObj.ren, Cell.ren, sumRen, Upd.ren, swp, csw, dat_ren, opn_ren] <;> rfl) (by simp only [EX, simprocAttr, Nat.blt, Nat.ble, hb190, fren, mren, AV.ren, AObj.ren, Cell.ren, sumRen, Upd.ren, swp, csw, dat_ren, opn_ren] <;> rfl) (by simp only [EX, simprocAttr, Nat.blt, Nat.ble, hb190, fren, mren, AV.ren, AObj.ren, Cell.ren, sumRen, Upd.ren, swp, csw, dat_ren, opn_ren] <;> rfl)
        have h := h.same [4] [(1, 0), (1, 1), (2, 0), (5, 2)] 54 [(4, .one (.ptr (2, 0) 0))]
          [((1, 0), some (.row 3 1 (dat (List.map eI l187)))), ((1, 1), some (.row 57 1 (openRows cols_57 (List.map (eL eTMsg) l113)))), ((2, 0), some (.box 31 [.d (.int .i64 r108.Node), .d (.int .i64 r108.State), .d (.int .i64 r108.Steps), .own (1, 0) l187.length, .own (1, 1) l113.length, .own (5, 2) l114.length])), ((5, 2), some (.row 29 1 (openRows cols_29 (List.map (eL eI) l114))))]
          (by simp only [EX, simprocAttr, Nat.blt, Nat.ble, hb190, dat_open] <;> rfl)
        have h := SL.swap h (1, 2) (5, 2) 54 (by decide) (by decide) (by simp only [EX, simprocAttr, Nat.blt, Nat.ble, hb190, fren, mren, AV.ren, AObj.ren, Cell.ren, sumRen, Upd.ren, swp, csw, dat_ren, opn_ren] <;> rfl) (by simp only [EX, simprocAttr, Nat.blt, Nat.ble, hb190, fren, mren, AV.ren, AObj.ren, Cell.ren, sumRen, Upd.ren, swp, csw, dat_ren, opn_ren] <;> rfl) (by simp only [EX, simprocAttr, Nat.blt, Nat.ble, hb190, fren, mren, AV.ren, AObj.ren, Cell.ren, sumRen, Upd.ren, swp, csw, dat_ren, opn_ren] <;> rfl)
        have h := h.same [4] [(1, 0), (1, 1), (1, 2), (2, 0)] 54 [(4, .one (.ptr (2, 0) 0))]
          [((1, 0), some (.row 3 1 (dat (List.map eI l187)))), ((1, 1), some (.row 57 1 (openRows cols_57 (List.map (eL eTMsg) l113)))), ((1, 2), some (.row 29 1 (openRows cols_29 (List.map (eL eI) l114)))), ((2, 0), some (.box 31 [.d (.int .i64 r108.Node), .d (.int .i64 r108.State), .d (.int .i64 r108.Steps), .own (1, 0) l187.length, .own (1, 1) l113.length, .own (1, 2) l114.length]))]
          (by simp only [EX, simprocAttr, Nat.blt, Nat.ble, hb190, dat_open] <;> rfl)
        injection hL188 with hL188
        subst hL188
        exact r_retO rfl h [.cell 4 31] rfl [(1, 0), (1, 1), (1, 2)] (by simp only [retO, List.mapM_cons, List.mapM_nil, Option.bind_eq_bind, Option.pure_def, EX, simprocAttr, Nat.blt, Nat.ble, tz_31, hb190] <;> rfl)
theorem L_host_Piece_ok {a0 : THost} {a1 : Bool} {r : TPiece} (hD : L_host_Piece a0 a1 = some r) :
    CallH Try.prog 30 [.agg [.d (.int .i64 a0.Node), .d (.int .i64 a0.State), .d (.int .i64 a0.Steps), .d (.sl (List.map (eL eTMsg) a0.In)), .d (.sl (List.map (eL eI) a0.Out))], .one (.d (.bool a1))] []
      (.agg [.d (.int .i64 r.Node), .d (.int .i64 r.State), .d (.int .i64 r.Steps), .d (.sl (List.map eI r.Sent)), .d (.sl (List.map (eL eTMsg) r.In)), .d (.sl (List.map (eL eI) r.Out))]) [] :=
  (L_host_Piece_own hD).frz (by simp only [EX, simprocAttr, Nat.blt, Nat.ble] <;> rfl) (by simp only [frzA, frzSum, EX, simprocAttr, Nat.blt, Nat.ble] <;> rfl) rfl

set_option maxRecDepth 20000 in
set_option maxHeartbeats 4000000 in
theorem L_mark_Begin_own {a0 : THost} {a1 : Int} {r : TMark} (hD : L_mark_Begin a0 a1 = some r) :
    CallH Try.prog 19 [.agg [.d (.int .i64 a0.Node), .d (.int .i64 a0.State), .d (.int .i64 a0.Steps), .d (.sl (List.map (eL eTMsg) a0.In)), .d (.sl (List.map (eL eI) a0.Out))], .one (.d (.int .i64 a1))] []
      (.agg [.d (.int .i64 r.Epoch), .own (1, 0) r.Open.length, .d (.int .i64 r.P.Node), .d (.int .i64 r.P.State), .d (.int .i64 r.P.Steps), .own (1, 1) r.P.Sent.length, .own (1, 2) r.P.In.length, .own (1, 3) r.P.Out.length]) [((1, 0), some (.row 4 1 (dat (List.map eB r.Open)))), ((1, 1), some (.row 3 1 (dat (List.map eI r.P.Sent)))), ((1, 2), some (.row 57 1 (openRows cols_57 (List.map (eL eTMsg) r.P.In)))), ((1, 3), some (.row 29 1 (openRows cols_29 (List.map (eL eI) r.P.Out))))] := by
  unfold L_mark_Begin at hD
  refine r_call Try.func19 rfl Try.ntmps19 (by kernel_rfl) (by rfl) (by simp only [shutB, EX, simprocAttr, Nat.blt, Nat.ble] <;> rfl) (by simp) fun S Φ P0 wb ac h => ?_
  refine rs_plain 3 [] [none, none] [1, 2, 4] [(1, 0), (2, 0)] h rfl rfl (by simp only [EX, simprocAttr, Nat.blt, Nat.ble, tz_26, tz_33] <;> rfl) fun ac wd h => ?_
  obtain ⟨r13, hc14, hD⟩ := Option.bind_eq_some_iff.1 hD
  obtain ⟨r15, hc16, hD⟩ := Option.bind_eq_some_iff.1 hD
  have hc14_8 : CallH Try.prog 29 [.one (.d (.sl (List.map eB [true]))), .one (.d (.int .i64 (a0.In.length : Int)))] [] (.one (.own (8, 0) r13.length)) [((8, 0), some (.row 4 1 (dat (List.map eB r13))))] := ((L_slices_Repeat_bool_bool_own hc14).cls 8).as (by simp only [EX, simprocAttr, Nat.blt, Nat.ble, fren, mren, AV.ren, AObj.ren, Cell.ren, sumRen, Upd.ren, swp, csw, dat_ren, opn_ren] <;> rfl)
  have hc16_10 : CallH Try.prog 30 [.agg [.d (.int .i64 a0.Node), .d (.int .i64 a0.State), .d (.int .i64 a0.Steps), .d (.sl (List.map (eL eTMsg) a0.In)), .d (.sl (List.map (eL eI) a0.Out))], .one (.d (.bool false))] [] (.agg [.d (.int .i64 r15.Node), .d (.int .i64 r15.State), .d (.int .i64 r15.Steps), .own (10, 0) r15.Sent.length, .own (10, 1) r15.In.length, .own (10, 2) r15.Out.length]) [((10, 0), some (.row 3 1 (dat (List.map eI r15.Sent)))), ((10, 1), some (.row 57 1 (openRows cols_57 (List.map (eL eTMsg) r15.In)))), ((10, 2), some (.row 29 1 (openRows cols_29 (List.map (eL eI) r15.Out))))] := ((L_host_Piece_own hc16).cls 10).as (by simp only [EX, simprocAttr, Nat.blt, Nat.ble, fren, mren, AV.ren, AObj.ren, Cell.ren, sumRen, Upd.ren, swp, csw, dat_ren, opn_ren] <;> rfl)
  refine rs_drawn 13 ty_hm [factO hc14_8, factO hc16_10] [none, none, none, none, none, none, none, none, none, none] [4] [(2, 0), (8, 0), (10, 0), (10, 1), (10, 2)] h rfl rfl (by simp only [EX, simprocAttr, Nat.blt, Nat.ble, tz_2, tz_3, tz_4, tz_23, tz_26, tz_28, tz_31, tz_33, tz_38, tz_57] <;> rfl) (by kernel_rfl) fun ac wd h => ?_
  refine wp_ret ?_
  have h := h.same [4] [(2, 0), (8, 0), (10, 0), (10, 1), (10, 2)] 13 [(4, .one (.ptr (2, 0) 0))]
    [((2, 0), some (.box 33 [.d (.int .i64 a1), .own (8, 0) r13.length, .d (.int .i64 r15.Node), .d (.int .i64 r15.State), .d (.int .i64 r15.Steps), .own (10, 0) r15.Sent.length, .own (10, 1) r15.In.length, .own (10, 2) r15.Out.length])), ((8, 0), some (.row 4 1 (dat (List.map eB r13)))), ((10, 0), some (.row 3 1 (dat (List.map eI r15.Sent)))), ((10, 1), some (.row 57 1 (openRows cols_57 (List.map (eL eTMsg) r15.In)))), ((10, 2), some (.row 29 1 (openRows cols_29 (List.map (eL eI) r15.Out))))]
    (by simp only [EX, simprocAttr, Nat.blt, Nat.ble, dat_open] <;> rfl)
  have h := SL.swap h (1, 0) (8, 0) 13 (by decide) (by decide) (by simp only [EX, simprocAttr, Nat.blt, Nat.ble, fren, mren, AV.ren, AObj.ren, Cell.ren, sumRen, Upd.ren, swp, csw, dat_ren, opn_ren] <;> rfl) (by simp only [EX, simprocAttr, Nat.blt, Nat.ble, fren, mren, AV.ren, AObj.ren, Cell.ren, sumRen, Upd.ren, swp, csw, dat_ren, opn_ren] <;> rfl) (by simp only [EX, simprocAttr, Nat.blt, Nat.ble, fren, mren, AV.ren, AObj.ren, Cell.ren, sumRen, Upd.ren, swp, csw, dat_ren, opn_ren] <;> rfl)
  have h := h.same [4] [(1, 0), (2, 0), (10, 0), (10, 1), (10, 2)] 13 [(4, .one (.ptr (2, 0) 0))]
    [((1, 0), some (.row 4 1 (dat (List.map eB r13)))), ((2, 0), some (.box 33 [.d (.int .i64 a1), .own (1, 0) r13.length, .d (.int .i64 r15.Node), .d (.int .i64 r15.State), .d (.int .i64 r15.Steps), .own (10, 0) r15.Sent.length, .own (10, 1) r15.In.length, .own (10, 2) r15.Out.length])), ((10, 0), some (.row 3 1 (dat (List.map eI r15.Sent)))), ((10, 1), some (.row 57 1 (openRows cols_57 (List.map (eL eTMsg) r15.In)))), ((10, 2), some (.row 29 1 (openRows cols_29 (List.map (eL eI) r15.Out))))]
    (by simp only [EX, simprocAttr, Nat.blt, Nat.ble, dat_open] <;> rfl)
  have h := SL.swap h (1, 1) (10, 0) 13 (by decide) (by decide) (by simp only [EX, simprocAttr, Nat.blt, Nat.ble, fren, mren, AV.ren, AObj.ren, Cell.ren, sumRen, Upd.ren, swp, csw, dat_ren, opn_ren] <;> rfl) (by simp only [EX, simprocAttr, Nat.blt, Nat.ble, fren, mren, AV.ren, AObj.ren, Cell.ren, sumRen, Upd.ren, swp, csw, dat_ren, opn_ren] <;> rfl) (by simp only [EX, simprocAttr, Nat.blt, Nat.ble, fren, mren, AV.ren, AObj.ren, Cell.ren, sumRen, Upd.ren, swp, csw, dat_ren, opn_ren] <;> rfl)
  have h := h.same [4] [(1, 0), (1, 1), (2, 0), (10, 1), (10, 2)] 13 [(4, .one (.ptr (2, 0) 0))]
    [((1, 0), some (.row 4 1 (dat (List.map eB r13)))), ((1, 1), some (.row 3 1 (dat (List.map eI r15.Sent)))), ((2, 0), some (.box 33 [.d (.int .i64 a1), .own (1, 0) r13.length, .d (.int .i64 r15.Node), .d (.int .i64 r15.State), .d (.int .i64 r15.Steps), .own (1, 1) r15.Sent.length, .own (10, 1) r15.In.length, .own (10, 2) r15.Out.length])), ((10, 1), some (.row 57 1 (openRows cols_57 (List.map (eL eTMsg) r15.In)))), ((10, 2), some (.row 29 1 (openRows cols_29 (List.map (eL eI) r15.Out))))]
    (by simp only [EX, simprocAttr, Nat.blt, Nat.ble, dat_open] <;> rfl)
  have h := SL.swap h (1, 2) (10, 1) 13 (by decide) (by decide) (by simp only [EX, simprocAttr, Nat.blt, Nat.ble, fren, mren, AV.ren, AObj.ren, Cell.ren, sumRen, Upd.ren, swp, csw, dat_ren, opn_ren] <;> rfl) (by simp only [EX, simprocAttr, Nat.blt, Nat.ble, fren, mren, AV.ren, AObj.ren, Cell.ren, sumRen, Upd.ren, swp, csw, dat_ren, opn_ren] <;> rfl) (by simp only [EX, simprocAttr, Nat.blt, Nat.ble, fren, mren, AV.ren, AObj.ren, Cell.ren, sumRen, Upd.ren, swp, csw, dat_ren, opn_ren] <;> rfl)
  have h := h.same [4] [(1, 0), (1, 1), (1, 2), (2, 0), (10, 2)] 13 [(4, .one (.ptr (2, 0) 0))]
    [((1, 0), some (.row 4 1 (dat (List.map eB r13)))), ((1, 1), some (.row 3 1 (dat (List.map eI r15.Sent)))), ((1, 2), some (.row 57 1 (openRows cols_57 (List.map (eL eTMsg) r15.In)))), ((2, 0), some (.box 33 [.d (.int .i64 a1), .own (1, 0) r13.length, .d (.int .i64 r15.Node), .d (.int .i64 r15.State), .d (.int .i64 r15.Steps), .own (1, 1) r15.Sent.length, .own (1, 2) r15.In.length, .own (10, 2) r15.Out.length])), ((10, 2), some (.row 29 1 (openRows cols_29 (List.map (eL eI) r15.Out))))]
    (by simp only [EX, simprocAttr, Nat.blt, Nat.ble, dat_open] <;> rfl)
  have h := SL.swap h (1, 3) (10, 2) 13 (by decide) (by decide) (by simp only [EX, simprocAttr, Nat.blt, Nat.ble, fren, mren, AV.ren, AObj.ren, Cell.ren, sumRen, Upd.ren, swp, csw, dat_ren, opn_ren] <;> rfl) (by simp only [EX, simprocAttr, Nat.blt, Nat.ble, fren, mren, AV.ren, AObj.ren, Cell.ren, sumRen, Upd.ren, swp, csw, dat_ren, opn_ren] <;> rfl) (by simp only [EX, simprocAttr, Nat.blt, Nat.ble, fren, mren, AV.ren, AObj.ren, Cell.ren, sumRen, Upd.ren, swp, csw, dat_ren, opn_ren] <;> rfl)
  have h := h.same [4] [(1, 0), (1, 1), (1, 2), (1, 3), (2, 0)] 13 [(4, .one (.ptr (2, 0) 0))]
    [((1, 0), some (.row 4 1 (dat (List.map eB r13)))), ((1, 1), some (.row 3 1 (dat (List.map eI r15.Sent)))), ((1, 2), some (.row 57 1 (openRows cols_57 (List.map (eL eTMsg) r15.In)))), ((1, 3), some (.row 29 1 (openRows cols_29 (List.map (eL eI) r15.Out)))), ((2, 0), some (.box 33 [.d (.int .i64 a1), .own (1, 0) r13.length, .d (.int .i64 r15.Node), .d (.int .i64 r15.State), .d (.int .i64 r15.Steps), .own (1, 1) r15.Sent.length, .own (1, 2) r15.In.length, .own (1, 3) r15.Out.length]))]
    (by simp only [EX, simprocAttr, Nat.blt, Nat.ble, dat_open] <;> rfl)
  injection hD with hD
  subst hD
  exact r_retO rfl h [.cell 4 33] rfl [(1, 0), (1, 1), (1, 2), (1, 3)] (by simp only [retO, List.mapM_cons, List.mapM_nil, Option.bind_eq_bind, Option.pure_def, EX, simprocAttr, Nat.blt, Nat.ble, tz_33] <;> rfl)
theorem L_mark_Begin_ok {a0 : THost} {a1 : Int} {r : TMark} (hD : L_mark_Begin a0 a1 = some r) :
    CallH Try.prog 19 [.agg [.d (.int .i64 a0.Node), .d (.int .i64 a0.State), .d (.int .i64 a0.Steps), .d (.sl (List.map (eL eTMsg) a0.In)), .d (.sl (List.map (eL eI) a0.Out))], .one (.d (.int .i64 a1))] []
      (.agg [.d (.int .i64 r.Epoch), .d (.sl (List.map eB r.Open)), .d (.int .i64 r.P.Node), .d (.int .i64 r.P.State), .d (.int .i64 r.P.Steps), .d (.sl (List.map eI r.P.Sent)), .d (.sl (List.map (eL eTMsg) r.P.In)), .d (.sl (List.map (eL eI) r.P.Out))]) [] :=
  (L_mark_Begin_own hD).frz (by simp only [EX, simprocAttr, Nat.blt, Nat.ble] <;> rfl) (by simp only [frzA, frzSum, EX, simprocAttr, Nat.blt, Nat.ble] <;> rfl) rfl

end Go.Proofs.Ytkjihlonnhfidaa
