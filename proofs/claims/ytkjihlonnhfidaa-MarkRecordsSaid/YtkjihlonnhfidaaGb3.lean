/- Functions as typed ones, and that the program's functions answer as these do. No condition. -/
import Derived.Test.YtkjihlonnhfidaaGb2
set_option linter.unusedSimpArgs false
set_option linter.unusedVariables false
namespace Go.Proofs.Ytkjihlonnhfidaa
open Go.RowKit

set_option maxRecDepth 20000 in
set_option maxHeartbeats 4000000 in
theorem L_ref10_Done_ok {a0 : TMark} {a1 : Int} {r : Bool} (hD : L_ref10_Done a0 a1 = some r) :
    CallH Try.prog 18 [.agg [.d (.int .i64 a0.Epoch), .d (.sl (List.map eB a0.Open)), .d (.int .i64 a0.P.Node), .d (.int .i64 a0.P.State), .d (.int .i64 a0.P.Steps), .d (.sl (List.map eI a0.P.Sent)), .d (.sl (List.map (eL eTMsg) a0.P.In)), .d (.sl (List.map (eL eI) a0.P.Out))], .one (.d (.int .i64 a1))] []
      (.one (.d (.bool r))) [] := by
  unfold L_ref10_Done at hD
  refine r_call Try.func18 rfl Try.ntmps18 (by kernel_rfl) (by rfl) (by rfl) (by simp) fun S Φ P0 wb ac h => ?_
  refine rs_plain 3 [] [none, none] [1, 2] [(1, 0)] h rfl rfl (by simp only [EX, simprocAttr, Nat.blt, Nat.ble, tz_4, tz_36] <;> rfl) fun ac wd h => ?_
  refine wp_seq ?_
  refine rs_plain 4 [] [none] [1, 2, 5] [(1, 0)] h rfl rfl (by simp only [EX, simprocAttr, Nat.blt, Nat.ble, tz_3] <;> rfl) fun ac wd h => ?_
  refine wp_block ?_
  have h := h.same [1, 2, 5] [(1, 0)] 30 [(1, .one (.d (.int .i64 a1))), (2, .one (.ptr (1, 0) 0)), (5, .one (.d (.int .i64 0)))]
    [((1, 0), some (.box 36 [.d (.int .i64 a0.Epoch), .d (.sl (List.map eB a0.Open)), .d (.int .i64 a0.P.Node), .d (.int .i64 a0.P.State), .d (.int .i64 a0.P.Steps), .d (.sl (List.map eI a0.P.Sent)), .d (.sl (List.map (eL eTMsg) a0.P.In)), .d (.sl (List.map (eL eI) a0.P.Out))]))]
    (by simp only [EX, simprocAttr, Nat.blt, Nat.ble] <;> rfl)
  refine r_while (fun nf ac wd => ∃ (n143 : Int), L_ref10_Done_l1 a0 a1 nf n143 = some r ∧ SL ⟨wb, S, Φ, P0⟩ 22 30 [(1, .one (.d (.int .i64 a1))), (2, .one (.ptr (1, 0) 0)), (5, .one (.d (.int .i64 n143)))] [((1, 0), some (.box 36 [.d (.int .i64 a0.Epoch), .d (.sl (List.map eB a0.Open)), .d (.int .i64 a0.P.Node), .d (.int .i64 a0.P.State), .d (.int .i64 a0.P.Steps), .d (.sl (List.map eI a0.P.Sent)), .d (.sl (List.map (eL eTMsg) a0.P.In)), .d (.sl (List.map (eL eI) a0.P.Out))]))] ac wd) (((a0.Open.length : Int) - 0).toNat + 1) ⟨0, hD, h⟩ (fun nf ac wd hJ => ?_)
  obtain ⟨n143, hL144, h⟩ := hJ
  cases nf with
  | zero => rw [L_ref10_Done_l1] at hL144; cases hL144
  | succ nf =>
    rw [L_ref10_Done_l1] at hL144
    refine wp_seq ?_
    refine rs_plain 35 [] [none, none, none, none, none] [1, 2, 5, 10] [(1, 0)] h rfl rfl (by simp only [EX, simprocAttr, Nat.blt, Nat.ble, tz_3, tz_4, tz_28, tz_36] <;> rfl) fun ac wd h => ?_
    by_cases hb146 : n143 < (a0.Open.length : Int)
    · rw [if_pos hb146] at hL144
      refine r_condT h (decide (n143 < (a0.Open.length : Int))) (by simp only [EX, simprocAttr, Nat.blt, Nat.ble, hb146] <;> rfl) (by first | rfl | (simp only [EX, simprocAttr, Nat.blt, Nat.ble, hb146] <;> rfl)) ?_
      refine wp_skip ?_
      change Code.wp Try.prog _ _ _ _
      refine wp_seq ?_
      refine wp_block ?_
      obtain ⟨x154, hx155, hL144⟩ := Option.bind_eq_some_iff.1 hL144
      obtain ⟨hx155a, hx155b, hx155c⟩ := at_some hx155
      have hx155d := (List.getElem?_eq_some_iff.1 hx155b).1
      refine rs_plain 40 [] [none, none, none, none, none] [1, 2, 5, 17] [(1, 0)] h rfl rfl (by simp only [EX, simprocAttr, Nat.blt, Nat.ble, tz_3, tz_4, tz_28, tz_36, hb146, hx155a, hx155b, hx155c, hx155d] <;> rfl) fun ac wd h => ?_
      by_cases hb156 : x154 = true
      · rw [if_pos hb156] at hL144
        refine r_condT h x154 (by simp only [EX, simprocAttr, Nat.blt, Nat.ble, hb146, hb156] <;> rfl) (by first | rfl | (simp only [EX, simprocAttr, Nat.blt, Nat.ble, hb146, hb156] <;> rfl)) ?_
        refine rs_plain 41 [] [none] [4] [] h rfl rfl (by simp only [EX, simprocAttr, Nat.blt, Nat.ble, tz_4, hb146, hb156] <;> rfl) fun ac wd h => ?_
        refine wp_ret ?_
        injection hL144 with hL144
        subst hL144
        exact r_retE rfl h [.tmp 4] rfl (by simp only [retD, List.mapM_cons, List.mapM_nil, Option.bind_eq_bind, Option.pure_def, EX, simprocAttr, Nat.blt, Nat.ble, hb146, hb156] <;> rfl)
      · rw [if_neg hb156] at hL144
        have hb156n := eq_false_of_ne_true hb156
        refine r_condF h x154 (by simp only [EX, simprocAttr, Nat.blt, Nat.ble, hb146, hb156n] <;> rfl) (by first | rfl | (simp only [EX, simprocAttr, Nat.blt, Nat.ble, hb146, hb156n] <;> rfl)) ?_
        refine wp_skip ?_
        change Code.wp Try.prog _ _ _ _
        refine r_plain [] [none, none, none] [1, 2, 5] [(1, 0)] h rfl (by simp only [EX, simprocAttr, Nat.blt, Nat.ble, tz_3, hb146, hb156n] <;> rfl) fun ac wd h => ?_
        have h := h.same [1, 2, 5] [(1, 0)] 30 [(1, .one (.d (.int .i64 a1))), (2, .one (.ptr (1, 0) 0)), (5, .one (.d (.int .i64 (IntKind.wrap .i64 (n143 + 1)))))]
          [((1, 0), some (.box 36 [.d (.int .i64 a0.Epoch), .d (.sl (List.map eB a0.Open)), .d (.int .i64 a0.P.Node), .d (.int .i64 a0.P.State), .d (.int .i64 a0.P.Steps), .d (.sl (List.map eI a0.P.Sent)), .d (.sl (List.map (eL eTMsg) a0.P.In)), .d (.sl (List.map (eL eI) a0.P.Out))]))]
          (by simp only [EX, simprocAttr, Nat.blt, Nat.ble, hb146, hx155a, hx155b, hx155c, hx155d, hb156n] <;> rfl)
        change ∃ n', _ ∧ _
        exact ⟨nf, Nat.lt_succ_self nf, (IntKind.wrap .i64 (n143 + 1)), hL144, h⟩
    · rw [if_neg hb146] at hL144
      refine r_condF h (decide (n143 < (a0.Open.length : Int))) (by simp only [EX, simprocAttr, Nat.blt, Nat.ble, hb146] <;> rfl) (by first | rfl | (simp only [EX, simprocAttr, Nat.blt, Nat.ble, hb146] <;> rfl)) ?_
      refine wp_exit ?_
      change Code.wp Try.prog _ _ _ _
      refine rs_plain 40 [] [none, none, none, none, none] [4] [] h rfl rfl (by simp only [EX, simprocAttr, Nat.blt, Nat.ble, tz_3, tz_4, tz_36, hb146] <;> rfl) fun ac wd h => ?_
      refine wp_ret ?_
      injection hL144 with hL144
      subst hL144
      exact r_retE rfl h [.tmp 4] rfl (by simp only [retD, List.mapM_cons, List.mapM_nil, Option.bind_eq_bind, Option.pure_def, EX, simprocAttr, Nat.blt, Nat.ble, hb146] <;> rfl)

set_option maxRecDepth 20000 in
set_option maxHeartbeats 4000000 in
theorem L_law10_fixed_ok {r : Bool} (hD : L_law10_fixed = some r) :
    CallH Try.prog 21 [] []
      (.one (.d (.bool r))) [] := by
  unfold L_law10_fixed at hD
  refine r_call Try.func21 rfl Try.ntmps21 (by kernel_rfl) (by rfl) (by rfl) (by simp) fun S Φ P0 wb ac h => ?_
  refine rs_plain 2 [] [none] [] [] h rfl rfl (by simp only [EX, simprocAttr, Nat.blt, Nat.ble, tz_4] <;> rfl) fun ac wd h => ?_
  obtain ⟨r150, hc151, hD⟩ := Option.bind_eq_some_iff.1 hD
  have hc151k := L_law10_ends_ok hc151
  refine rs_plain 5 [factE 2 hc151k] [none, none, none] [1] [(3, 0)] h rfl rfl (by simp only [EX, simprocAttr, Nat.blt, Nat.ble, tz_5, tz_26] <;> rfl) fun ac wd h => ?_
  obtain ⟨r154, hc155, hD⟩ := Option.bind_eq_some_iff.1 hD
  have hc155k := L_mark_Begin_ok hc155
  refine rs_plain 9 [factE 6 hc155k] [none, none, none, none] [1, 2] [(3, 0), (7, 0)] h rfl rfl (by simp only [EX, simprocAttr, Nat.blt, Nat.ble, tz_3, tz_26, tz_33] <;> rfl) fun ac wd h => ?_
  refine wp_seq ?_
  by_cases hb221 : (r154.Open.length : Int) = 2
  · rw [if_pos hb221] at hD
    have hb221t := eq_true hb221
    refine rs_plain 20 [] [none, none, none, none, none, some (some 21, false), some (some 21, false), some (some 21, false), some (some 21, false), some (some 21, false), none] [1, 2, 27] [(3, 0), (7, 0)] h rfl rfl (by simp only [EX, simprocAttr, Nat.blt, Nat.ble, tz_2, tz_3, tz_4, tz_23, tz_28, tz_31, tz_33, tz_38, tz_57, hb221t] <;> rfl) fun ac wd h => ?_
    by_cases hb223 : (r154.P.In.length : Int) = 2
    · rw [if_pos hb223] at hD
      have hb223t := eq_true hb223
      refine r_condF h (!(decide ((r154.P.In.length : Int) = 2))) (by simp only [EX, simprocAttr, Nat.blt, Nat.ble, hb221t, hb223t] <;> rfl) (by first | rfl | (simp only [EX, simprocAttr, Nat.blt, Nat.ble, hb221t, hb223t] <;> rfl)) ?_
      refine wp_skip ?_
      change Code.wp Try.prog _ _ _ _
      refine rs_plain 23 [] [none, none, none] [1, 2, 3] [(3, 0), (7, 0), (21, 0)] h rfl rfl (by simp only [EX, simprocAttr, Nat.blt, Nat.ble, tz_38, hb221t, hb223t] <;> rfl) fun ac wd h => ?_
      obtain ⟨r226, hc227, hD⟩ := Option.bind_eq_some_iff.1 hD
      have hc227k := L_mark_App_ok hc227
      refine rs_plain 28 [factE 25 hc227k] [none, none, none, none, none] [1, 2, 3, 4] [(3, 0), (7, 0), (21, 0), (26, 0)] h rfl rfl (by simp only [EX, simprocAttr, Nat.blt, Nat.ble, tz_3, tz_33, tz_38, hb221t, hb223t] <;> rfl) fun ac wd h => ?_
      obtain ⟨r230, hc231, hD⟩ := Option.bind_eq_some_iff.1 hD
      have hc231k := L_mark_Marker_ok hc231
      refine rs_plain 37 [factE 30 hc231k] [none, none, none, none, none, none, none, none, none] [1, 2, 3, 5, 6] [(3, 0), (7, 0), (21, 0), (34, 0)] h rfl rfl (by simp only [EX, simprocAttr, Nat.blt, Nat.ble, tz_3, tz_4, tz_26, tz_33, hb221t, hb223t] <;> rfl) fun ac wd h => ?_
      obtain ⟨r234, hc235, hD⟩ := Option.bind_eq_some_iff.1 hD
      have hc235k := L_mark_App_ok hc235
      refine rs_plain 42 [factE 39 hc235k] [none, none, none, none, none] [1, 2, 3, 6, 7] [(3, 0), (7, 0), (21, 0), (40, 0)] h rfl rfl (by simp only [EX, simprocAttr, Nat.blt, Nat.ble, tz_3, tz_33, tz_38, hb221t, hb223t] <;> rfl) fun ac wd h => ?_
      obtain ⟨r238, hc239, hD⟩ := Option.bind_eq_some_iff.1 hD
      have hc239k := L_mark_Marker_ok hc239
      refine rs_plain 51 [factE 44 hc239k] [none, none, none, none, none, none, none, none, none] [1, 2, 3, 6, 8, 9] [(3, 0), (7, 0), (21, 0), (48, 0)] h rfl rfl (by simp only [EX, simprocAttr, Nat.blt, Nat.ble, tz_3, tz_4, tz_26, tz_33, hb221t, hb223t] <;> rfl) fun ac wd h => ?_
      obtain ⟨r242, hc243, hD⟩ := Option.bind_eq_some_iff.1 hD
      have hc243k := L_mark_Marker_ok hc243
      refine rs_plain 60 [factE 53 hc243k] [none, none, none, none, none, none, none, none, none] [1, 2, 3, 6, 8, 9, 10, 11] [(3, 0), (7, 0), (21, 0), (48, 0), (57, 0)] h rfl rfl (by simp only [EX, simprocAttr, Nat.blt, Nat.ble, tz_3, tz_4, tz_26, tz_33, hb221t, hb223t] <;> rfl) fun ac wd h => ?_
      obtain ⟨r246, hc247, hD⟩ := Option.bind_eq_some_iff.1 hD
      have hc247k := L_mark_Marker_ok hc247
      refine rs_plain 69 [factE 62 hc247k] [none, none, none, none, none, none, none, none, none] [2, 3, 6, 8, 9, 10, 11, 12, 13] [(7, 0), (21, 0), (48, 0), (57, 0), (66, 0)] h rfl rfl (by simp only [EX, simprocAttr, Nat.blt, Nat.ble, tz_3, tz_4, tz_26, tz_33, hb221t, hb223t] <;> rfl) fun ac wd h => ?_
      refine wp_seq ?_
      by_cases hb299 : (r238.1.P.In.length : Int) = 2
      · rw [if_pos hb299] at hD
        have hb299t := eq_true hb299
        refine rs_plain 80 [] [none, none, none, none, none, none, some (some 64, false), some (some 64, false), some (some 64, false), some (some 64, false), none] [2, 3, 6, 8, 9, 10, 11, 12, 13, 69] [(7, 0), (21, 0), (48, 0), (57, 0), (66, 0)] h rfl rfl (by simp only [EX, simprocAttr, Nat.blt, Nat.ble, tz_2, tz_3, tz_4, tz_23, tz_28, tz_31, tz_33, tz_38, tz_57, hb221t, hb223t, hb299t] <;> rfl) fun ac wd h => ?_
        by_cases hb301 : (r242.1.Open.length : Int) = 2
        · rw [if_pos hb301] at hD
          have hb301t := eq_true hb301
          refine r_condF h (!(decide ((r242.1.Open.length : Int) = 2))) (by simp only [EX, simprocAttr, Nat.blt, Nat.ble, hb221t, hb223t, hb299t, hb301t] <;> rfl) (by first | rfl | (simp only [EX, simprocAttr, Nat.blt, Nat.ble, hb221t, hb223t, hb299t, hb301t] <;> rfl)) ?_
          refine wp_skip ?_
          change Code.wp Try.prog _ _ _ _
          by_cases hb351 : r154.Epoch = 3
          · rw [if_pos hb351] at hD
            have hb351t := eq_true hb351
            obtain ⟨x352, hx353, hD⟩ := Option.bind_eq_some_iff.1 hD
            obtain ⟨hx353a, hx353b, hx353c⟩ := at_some hx353
            replace hx353b : r154.Open[0]? = some x352 := hx353b
            have hx353d := (List.getElem?_eq_some_iff.1 hx353b).1
            by_cases hb354 : x352 = true
            · rw [if_pos hb354] at hD
              obtain ⟨x355, hx356, hD⟩ := Option.bind_eq_some_iff.1 hD
              obtain ⟨hx356a, hx356b, hx356c⟩ := at_some hx356
              replace hx356b : r154.Open[1]? = some x355 := hx356b
              have hx356d := (List.getElem?_eq_some_iff.1 hx356b).1
              by_cases hb357 : x355 = true
              · rw [if_pos hb357] at hD
                by_cases hb358 : r154.P.Steps = 5
                · rw [if_pos hb358] at hD
                  have hb358t := eq_true hb358
                  obtain ⟨r359, hc360, hD⟩ := Option.bind_eq_some_iff.1 hD
                  by_cases hb361 : r359 = true
                  · rw [if_pos hb361] at hD; cases hD
                  · rw [if_neg hb361] at hD
                    have hb361n := eq_false_of_ne_true hb361
                    by_cases hb400 : r230.2 = true
                    · rw [if_pos hb400] at hD; cases hD
                    · rw [if_neg hb400] at hD
                      have hb400n := eq_false_of_ne_true hb400
                      by_cases hb438 : r238.2 = true
                      · rw [if_pos hb438] at hD; cases hD
                      · rw [if_neg hb438] at hD
                        have hb438n := eq_false_of_ne_true hb438
                        obtain ⟨r475, hc476, hD⟩ := Option.bind_eq_some_iff.1 hD
                        by_cases hb477 : r475 = true
                        · rw [if_pos hb477] at hD
                          obtain ⟨r478, hc479, hD⟩ := Option.bind_eq_some_iff.1 hD
                          by_cases hb480 : r478 = true
                          · rw [if_pos hb480] at hD; cases hD
                          · rw [if_neg hb480] at hD
                            have hb480n := eq_false_of_ne_true hb480
                            obtain ⟨x511, hx512, hD⟩ := Option.bind_eq_some_iff.1 hD
                            obtain ⟨hx512a, hx512b, hx512c⟩ := at_some hx512
                            replace hx512b : r238.1.P.In[0]? = some x511 := hx512b
                            have hx512d := (List.getElem?_eq_some_iff.1 hx512b).1
                            obtain ⟨r513, hc514, hD⟩ := Option.bind_eq_some_iff.1 hD
                            by_cases hb515 : r513 = true
                            · rw [if_pos hb515] at hD
                              obtain ⟨x516, hx517, hD⟩ := Option.bind_eq_some_iff.1 hD
                              obtain ⟨hx517a, hx517b, hx517c⟩ := at_some hx517
                              replace hx517b : r238.1.P.In[1]? = some x516 := hx517b
                              have hx517d := (List.getElem?_eq_some_iff.1 hx517b).1
                              by_cases hb518 : (x516.length : Int) = 0
                              · rw [if_pos hb518] at hD
                                have hb518t := eq_true hb518
                                by_cases hb519 : r242.2 = true
                                · rw [if_pos hb519] at hD
                                  by_cases hb520 : r242.1.Epoch = 4
                                  · rw [if_pos hb520] at hD
                                    have hb520t := eq_true hb520
                                    obtain ⟨x521, hx522, hD⟩ := Option.bind_eq_some_iff.1 hD
                                    obtain ⟨hx522a, hx522b, hx522c⟩ := at_some hx522
                                    replace hx522b : r242.1.Open[0]? = some x521 := hx522b
                                    have hx522d := (List.getElem?_eq_some_iff.1 hx522b).1
                                    by_cases hb523 : x521 = true
                                    · rw [if_pos hb523] at hD
                                      obtain ⟨x524, hx525, hD⟩ := Option.bind_eq_some_iff.1 hD
                                      obtain ⟨hx525a, hx525b, hx525c⟩ := at_some hx525
                                      replace hx525b : r242.1.Open[1]? = some x524 := hx525b
                                      have hx525d := (List.getElem?_eq_some_iff.1 hx525b).1
                                      by_cases hb526 : x524 = true
                                      · rw [if_pos hb526] at hD; cases hD
                                      · rw [if_neg hb526] at hD
                                        have hb526n := eq_false_of_ne_true hb526
                                        obtain ⟨r541, hc542, hD⟩ := Option.bind_eq_some_iff.1 hD
                                        obtain ⟨r543, hc544, hD⟩ := Option.bind_eq_some_iff.1 hD
                                        obtain ⟨r545, hc546, hD⟩ := Option.bind_eq_some_iff.1 hD
                                        by_cases hb547 : r545 = true
                                        · rw [if_pos hb547] at hD
                                          by_cases hb548 : r246.2 = true
                                          · rw [if_pos hb548] at hD; cases hD
                                          · rw [if_neg hb548] at hD
                                            have hb548n := eq_false_of_ne_true hb548
                                            obtain ⟨r555, hc556, hD⟩ := Option.bind_eq_some_iff.1 hD
                                            obtain ⟨r557, hc558, hD⟩ := Option.bind_eq_some_iff.1 hD
                                            obtain ⟨r559, hc560, hD⟩ := Option.bind_eq_some_iff.1 hD
                                            have hc360k := L_mark_Done_ok hc360
                                            have hc476k := L_mark_Done_ok hc476
                                            have hc479k := L_mark_Done_ok hc479
                                            have hc514k := L_ref05_Msgs_ok hc514
                                            have hc542k := L_law10_Ref_ok hc542
                                            have hc544k := L_law10_Ref_ok hc544
                                            have hc546k := L_ref10_Same_ok hc546
                                            have hc556k := L_mark_App_ok hc556
                                            have hc558k := L_law10_Ref_ok hc558
                                            have hc560k := L_ref10_Same_ok hc560
                                            refine rs_drawn 183 ty_hm [factE 103 hc360k, factE 116 hc476k, factE 120 hc479k, factE 131 hc514k, factE 165 hc542k, factE 167 hc544k, factE 168 hc546k, factE 177 hc556k, factE 178 hc558k, factE 180 hc560k] [none, none, none, none, some (some 73, true), some (some 73, true), some (some 73, true), some (some 73, true), none, none, some (some 79, true), some (some 79, true), some (some 79, true), some (some 79, true), none, none, some (some 85, true), some (some 85, true), some (some 85, true), some (some 85, true), none, none, some (some 91, true), some (some 91, true), some (some 91, true), none, none, some (some 96, true), some (some 96, true), none, none, some (some 100, true), some (some 100, true), none, none, some (some 104, true), some (some 104, true), none, none, some (some 108, true), some (some 108, true), some (some 108, true), none, none, some (some 113, true), some (some 113, true), some (some 113, true), some (some 113, true), some (some 113, true), some (some 113, true), some (some 113, true), some (some 113, true), none, none, some (some 123, true), some (some 123, true), some (some 123, true), some (some 123, true), some (some 123, true), some (some 123, true), some (some 123, true), none, none, some (some 132, true), none, none, some (some 135, true), some (some 135, true), some (some 135, true), none, none, some (some 140, true), some (some 140, true), some (some 140, true), some (some 140, true), none, none, some (some 146, true), some (some 146, true), some (some 146, true), some (some 146, true), some (some 146, true), none, none, some (some 153, true), some (some 153, true), some (some 153, true), some (some 153, true), some (some 153, true), none, none, some (some 160, true), some (some 160, true), none, none, some (some 164, true), some (some 164, true), some (some 164, true), some (some 164, true), some (some 164, true), some (some 164, true), none, none] [0] [] h rfl rfl (by simp (maxSteps := 10000000) only [EX, simprocAttr, Nat.blt, Nat.ble, tz_2, tz_3, tz_4, tz_23, tz_28, tz_31, tz_33, tz_36, tz_38, tz_57, hb221t, hb223t, hb299t, hb301t, hb351t, hb354, hb357, hb358t, hb361n, hb400n, hb438n, hb477, hb480n, hb515, hb518t, hb519, hb520t, hb523, hb526n, hb547, hb548n, hx353a, hx353b, hx353c, hx353d, hx356a, hx356b, hx356c, hx356d, hx512a, hx512b, hx512c, hx512d, hx517a, hx517b, hx517c, hx517d, hx522a, hx522b, hx522c, hx522d, hx525a, hx525b, hx525c, hx525d] <;> rfl) (by kernel_rfl) fun ac wd h => ?_
                                            refine wp_ret ?_
                                            injection hD with hD
                                            subst hD
                                            exact r_retE rfl h [.tmp 0] rfl (by simp only [retD, List.mapM_cons, List.mapM_nil, Option.bind_eq_bind, Option.pure_def, EX, simprocAttr, Nat.blt, Nat.ble, hb221t, hb223t, hb299t, hb301t, hb351t, hb354, hb357, hb358t, hb361n, hb400n, hb438n, hb477, hb480n, hb515, hb518t, hb519, hb520t, hb523, hb526n, hb547, hb548n] <;> rfl)
                                        · rw [if_neg hb547] at hD; cases hD
                                    · rw [if_neg hb523] at hD; cases hD
                                  · rw [if_neg hb520] at hD; cases hD
                                · rw [if_neg hb519] at hD; cases hD
                              · rw [if_neg hb518] at hD; cases hD
                            · rw [if_neg hb515] at hD; cases hD
                        · rw [if_neg hb477] at hD; cases hD
                · rw [if_neg hb358] at hD; cases hD
              · rw [if_neg hb357] at hD; cases hD
            · rw [if_neg hb354] at hD; cases hD
          · rw [if_neg hb351] at hD; cases hD
        · rw [if_neg hb301] at hD; cases hD
      · rw [if_neg hb299] at hD; cases hD
    · rw [if_neg hb223] at hD; cases hD
  · rw [if_neg hb221] at hD; cases hD

set_option maxRecDepth 20000 in
set_option maxHeartbeats 4000000 in
theorem L_law10_MarkDoes_ok {a0 : Int} {a1 : Int} {a2 : (List TOp)} {r : Bool} (hD : L_law10_MarkDoes a0 a1 a2 = some r) :
    CallH Try.prog 3 [.one (.d (.int .u8 a0)), .one (.d (.int .u8 a1)), .one (.d (.sl (List.map eTOp a2)))] []
      (.one (.d (.bool r))) [] := by
  unfold L_law10_MarkDoes at hD
  refine r_call Try.func3 rfl Try.ntmps3 (by kernel_rfl) (by rfl) (by rfl) (by simp) fun S Φ P0 wb ac h => ?_
  refine rs_plain 2 [] [none] [0, 1, 2] [] h rfl rfl (by simp only [EX, simprocAttr, Nat.blt, Nat.ble, tz_4] <;> rfl) fun ac wd h => ?_
  obtain ⟨r1279, hc1280, hD⟩ := Option.bind_eq_some_iff.1 hD
  have hc1280k := L_law10_ends_ok hc1280
  refine rs_plain 7 [factE 4 hc1280k] [none, none, none, none, none] [2, 7] [(5, 0)] h rfl rfl (by simp only [EX, simprocAttr, Nat.blt, Nat.ble, tz_5, tz_26] <;> rfl) fun ac wd h => ?_
  refine rs_plain 13 [] [none, none, none, none, none, none] [2, 7, 8, 9] [(5, 0), (9, 0), (10, 0)] h rfl rfl (by simp only [EX, simprocAttr, Nat.blt, Nat.ble, tz_33, tz_36] <;> rfl) fun ac wd h => ?_
  refine wp_seq ?_
  refine rs_plain 14 [] [none] [2, 7, 8, 9, 10] [(5, 0), (9, 0), (10, 0)] h rfl rfl (by simp only [EX, simprocAttr, Nat.blt, Nat.ble, tz_3] <;> rfl) fun ac wd h => ?_
  obtain ⟨e1918, hE1919, hD⟩ := Option.bind_eq_some_iff.1 hD
  refine r_meet (fun ac wd => () = e1918 ∧ SL ⟨wb, S, Φ, P0⟩ 128 208 [] [] ac wd) ?_ ?_
  · skip
    refine wp_block ?_
    have h := SL.nilB h (9, 0) 1 (by simp only [EX, simprocAttr, Nat.blt, Nat.ble] <;> rfl) (by simp only [EX, simprocAttr, Nat.blt, Nat.ble] <;> rfl)
    have h := SL.nilB h (9, 0) 5 (by simp only [EX, simprocAttr, Nat.blt, Nat.ble] <;> rfl) (by simp only [EX, simprocAttr, Nat.blt, Nat.ble] <;> rfl)
    have h := SL.nilB h (9, 0) 6 (by simp only [EX, simprocAttr, Nat.blt, Nat.ble] <;> rfl) (by simp only [EX, simprocAttr, Nat.blt, Nat.ble] <;> rfl)
    have h := SL.nilB h (9, 0) 7 (by simp only [EX, simprocAttr, Nat.blt, Nat.ble] <;> rfl) (by simp only [EX, simprocAttr, Nat.blt, Nat.ble] <;> rfl)
    have h := SL.nilB h (10, 0) 1 (by simp only [EX, simprocAttr, Nat.blt, Nat.ble] <;> rfl) (by simp only [EX, simprocAttr, Nat.blt, Nat.ble] <;> rfl)
    have h := SL.nilB h (10, 0) 5 (by simp only [EX, simprocAttr, Nat.blt, Nat.ble] <;> rfl) (by simp only [EX, simprocAttr, Nat.blt, Nat.ble] <;> rfl)
    have h := SL.nilB h (10, 0) 6 (by simp only [EX, simprocAttr, Nat.blt, Nat.ble] <;> rfl) (by simp only [EX, simprocAttr, Nat.blt, Nat.ble] <;> rfl)
    have h := SL.nilB h (10, 0) 7 (by simp only [EX, simprocAttr, Nat.blt, Nat.ble] <;> rfl) (by simp only [EX, simprocAttr, Nat.blt, Nat.ble] <;> rfl)
    have h := h.same [2, 7, 8, 9, 10] [(5, 0), (9, 0), (10, 0)] 200 [(2, .one (.d (.sl (List.map eTOp a2)))), (7, .one (.ptr (5, 0) 0)), (8, .one (.ptr (9, 0) 0)), (9, .one (.ptr (10, 0) 0)), (10, .one (.d (.int .i64 0)))]
      [((5, 0), some (.box 26 [.d (.int .i64 r1279.Node), .d (.int .i64 r1279.State), .d (.int .i64 r1279.Steps), .d (.sl (List.map (eL eTMsg) r1279.In)), .d (.sl (List.map (eL eI) r1279.Out))])), ((9, 0), some (.box 33 [.d (.int .i64 ((TMark.mk 0 [] (TPiece.mk 0 0 0 [] [] [])) : TMark).Epoch), .d (.sl (List.map eB ((TMark.mk 0 [] (TPiece.mk 0 0 0 [] [] [])) : TMark).Open)), .d (.int .i64 ((TMark.mk 0 [] (TPiece.mk 0 0 0 [] [] [])) : TMark).P.Node), .d (.int .i64 ((TMark.mk 0 [] (TPiece.mk 0 0 0 [] [] [])) : TMark).P.State), .d (.int .i64 ((TMark.mk 0 [] (TPiece.mk 0 0 0 [] [] [])) : TMark).P.Steps), .d (.sl (List.map eI ((TMark.mk 0 [] (TPiece.mk 0 0 0 [] [] [])) : TMark).P.Sent)), .d (.sl (List.map (eL eTMsg) ((TMark.mk 0 [] (TPiece.mk 0 0 0 [] [] [])) : TMark).P.In)), .d (.sl (List.map (eL eI) ((TMark.mk 0 [] (TPiece.mk 0 0 0 [] [] [])) : TMark).P.Out))])), ((10, 0), some (.box 36 [.d (.int .i64 ((TMark.mk 0 [] (TPiece.mk 0 0 0 [] [] [])) : TMark).Epoch), .d (.sl (List.map eB ((TMark.mk 0 [] (TPiece.mk 0 0 0 [] [] [])) : TMark).Open)), .d (.int .i64 ((TMark.mk 0 [] (TPiece.mk 0 0 0 [] [] [])) : TMark).P.Node), .d (.int .i64 ((TMark.mk 0 [] (TPiece.mk 0 0 0 [] [] [])) : TMark).P.State), .d (.int .i64 ((TMark.mk 0 [] (TPiece.mk 0 0 0 [] [] [])) : TMark).P.Steps), .d (.sl (List.map eI ((TMark.mk 0 [] (TPiece.mk 0 0 0 [] [] [])) : TMark).P.Sent)), .d (.sl (List.map (eL eTMsg) ((TMark.mk 0 [] (TPiece.mk 0 0 0 [] [] [])) : TMark).P.In)), .d (.sl (List.map (eL eI) ((TMark.mk 0 [] (TPiece.mk 0 0 0 [] [] [])) : TMark).P.Out))]))]
      (by simp only [EX, simprocAttr, Nat.blt, Nat.ble] <;> rfl)
    refine r_while (fun nf ac wd => ∃ (n2354 : Int) (n2355 : Int) (m2356 : TMark) (m2357 : TMark), L_law10_MarkDoes_l1 a2 r1279 nf n2354 n2355 m2356 m2357 = some e1918 ∧ SL ⟨wb, S, Φ, P0⟩ 128 200 [(2, .one (.d (.sl (List.map eTOp a2)))), (7, .one (.ptr (5, 0) 0)), (8, .one (.ptr (9, 0) 0)), (9, .one (.ptr (10, 0) 0)), (10, .one (.d (.int .i64 n2354)))] [((5, 0), some (.box 26 [.d (.int .i64 r1279.Node), .d (.int .i64 r1279.State), .d (.int .i64 n2355), .d (.sl (List.map (eL eTMsg) r1279.In)), .d (.sl (List.map (eL eI) r1279.Out))])), ((9, 0), some (.box 33 [.d (.int .i64 m2356.Epoch), .d (.sl (List.map eB m2356.Open)), .d (.int .i64 m2356.P.Node), .d (.int .i64 m2356.P.State), .d (.int .i64 m2356.P.Steps), .d (.sl (List.map eI m2356.P.Sent)), .d (.sl (List.map (eL eTMsg) m2356.P.In)), .d (.sl (List.map (eL eI) m2356.P.Out))])), ((10, 0), some (.box 36 [.d (.int .i64 m2357.Epoch), .d (.sl (List.map eB m2357.Open)), .d (.int .i64 m2357.P.Node), .d (.int .i64 m2357.P.State), .d (.int .i64 m2357.P.Steps), .d (.sl (List.map eI m2357.P.Sent)), .d (.sl (List.map (eL eTMsg) m2357.P.In)), .d (.sl (List.map (eL eI) m2357.P.Out))]))] ac wd) (((a2.length : Int) - 0).toNat + 1) ⟨0, r1279.Steps, ((TMark.mk 0 [] (TPiece.mk 0 0 0 [] [] [])) : TMark), ((TMark.mk 0 [] (TPiece.mk 0 0 0 [] [] [])) : TMark), hE1919, h⟩ (fun nf ac wd hJ => ?_)
    obtain ⟨n2354, n2355, m2356, m2357, hL2358, h⟩ := hJ
    cases nf with
    | zero => rw [L_law10_MarkDoes_l1] at hL2358; cases hL2358
    | succ nf =>
      rw [L_law10_MarkDoes_l1] at hL2358
      refine wp_seq ?_
      obtain ⟨e2393, hE2394, hL2358⟩ := Option.bind_eq_some_iff.1 hL2358
      refine r_seqJ (fun ac wd => ∃ (b2392 : Bool), b2392 = e2393 ∧ SL ⟨wb, S, Φ, P0⟩ 128 208 [(2, .one (.d (.sl (List.map eTOp a2)))), (7, .one (.ptr (5, 0) 0)), (8, .one (.ptr (9, 0) 0)), (9, .one (.ptr (10, 0) 0)), (10, .one (.d (.int .i64 n2354))), (28, .one (.d (.bool b2392)))] [((5, 0), some (.box 26 [.d (.int .i64 r1279.Node), .d (.int .i64 r1279.State), .d (.int .i64 n2355), .d (.sl (List.map (eL eTMsg) r1279.In)), .d (.sl (List.map (eL eI) r1279.Out))])), ((9, 0), some (.box 33 [.d (.int .i64 m2356.Epoch), .d (.sl (List.map eB m2356.Open)), .d (.int .i64 m2356.P.Node), .d (.int .i64 m2356.P.State), .d (.int .i64 m2356.P.Steps), .d (.sl (List.map eI m2356.P.Sent)), .d (.sl (List.map (eL eTMsg) m2356.P.In)), .d (.sl (List.map (eL eI) m2356.P.Out))])), ((10, 0), some (.box 36 [.d (.int .i64 m2357.Epoch), .d (.sl (List.map eB m2357.Open)), .d (.int .i64 m2357.P.Node), .d (.int .i64 m2357.P.State), .d (.int .i64 m2357.P.Steps), .d (.sl (List.map eI m2357.P.Sent)), .d (.sl (List.map (eL eTMsg) m2357.P.In)), .d (.sl (List.map (eL eI) m2357.P.Out))]))] ac wd) ?_ ?_
      · skip
        by_cases hb2395 : n2354 < (a2.length : Int)
        · rw [if_pos hb2395] at hE2394
          refine r_plain [] [none, none, none, none, none, some (some 25, true), some (some 25, true), none] [2, 7, 8, 9, 10, 28] [(5, 0), (9, 0), (10, 0)] h rfl (by simp only [EX, simprocAttr, Nat.blt, Nat.ble, tz_3, tz_4, tz_22, tz_40, hb2395] <;> rfl) fun ac wd h => ?_
          have h := h.same [2, 7, 8, 9, 10, 28] [(5, 0), (9, 0), (10, 0)] 208 [(2, .one (.d (.sl (List.map eTOp a2)))), (7, .one (.ptr (5, 0) 0)), (8, .one (.ptr (9, 0) 0)), (9, .one (.ptr (10, 0) 0)), (10, .one (.d (.int .i64 n2354))), (28, .one (.d (.bool (decide (n2354 < 60)))))]
            [((5, 0), some (.box 26 [.d (.int .i64 r1279.Node), .d (.int .i64 r1279.State), .d (.int .i64 n2355), .d (.sl (List.map (eL eTMsg) r1279.In)), .d (.sl (List.map (eL eI) r1279.Out))])), ((9, 0), some (.box 33 [.d (.int .i64 m2356.Epoch), .d (.sl (List.map eB m2356.Open)), .d (.int .i64 m2356.P.Node), .d (.int .i64 m2356.P.State), .d (.int .i64 m2356.P.Steps), .d (.sl (List.map eI m2356.P.Sent)), .d (.sl (List.map (eL eTMsg) m2356.P.In)), .d (.sl (List.map (eL eI) m2356.P.Out))])), ((10, 0), some (.box 36 [.d (.int .i64 m2357.Epoch), .d (.sl (List.map eB m2357.Open)), .d (.int .i64 m2357.P.Node), .d (.int .i64 m2357.P.State), .d (.int .i64 m2357.P.Steps), .d (.sl (List.map eI m2357.P.Sent)), .d (.sl (List.map (eL eTMsg) m2357.P.In)), .d (.sl (List.map (eL eI) m2357.P.Out))]))]
            (by simp only [EX, simprocAttr, Nat.blt, Nat.ble, hb2395] <;> rfl)
          injection hE2394 with hE2394
          exact ⟨decide (n2354 < 60), hE2394, h⟩
        · rw [if_neg hb2395] at hE2394
          refine r_plain [] [none, none, none, none, none, some (some 25, true), some (some 25, true), none] [2, 7, 8, 9, 10, 28] [(5, 0), (9, 0), (10, 0)] h rfl (by simp only [EX, simprocAttr, Nat.blt, Nat.ble, tz_3, tz_4, tz_22, tz_40, hb2395] <;> rfl) fun ac wd h => ?_
          have h := h.same [2, 7, 8, 9, 10, 28] [(5, 0), (9, 0), (10, 0)] 208 [(2, .one (.d (.sl (List.map eTOp a2)))), (7, .one (.ptr (5, 0) 0)), (8, .one (.ptr (9, 0) 0)), (9, .one (.ptr (10, 0) 0)), (10, .one (.d (.int .i64 n2354))), (28, .one (.d (.bool false)))]
            [((5, 0), some (.box 26 [.d (.int .i64 r1279.Node), .d (.int .i64 r1279.State), .d (.int .i64 n2355), .d (.sl (List.map (eL eTMsg) r1279.In)), .d (.sl (List.map (eL eI) r1279.Out))])), ((9, 0), some (.box 33 [.d (.int .i64 m2356.Epoch), .d (.sl (List.map eB m2356.Open)), .d (.int .i64 m2356.P.Node), .d (.int .i64 m2356.P.State), .d (.int .i64 m2356.P.Steps), .d (.sl (List.map eI m2356.P.Sent)), .d (.sl (List.map (eL eTMsg) m2356.P.In)), .d (.sl (List.map (eL eI) m2356.P.Out))])), ((10, 0), some (.box 36 [.d (.int .i64 m2357.Epoch), .d (.sl (List.map eB m2357.Open)), .d (.int .i64 m2357.P.Node), .d (.int .i64 m2357.P.State), .d (.int .i64 m2357.P.Steps), .d (.sl (List.map eI m2357.P.Sent)), .d (.sl (List.map (eL eTMsg) m2357.P.In)), .d (.sl (List.map (eL eI) m2357.P.Out))]))]
            (by simp only [EX, simprocAttr, Nat.blt, Nat.ble, hb2395] <;> rfl)
          injection hE2394 with hE2394
          exact ⟨false, hE2394, h⟩
      · skip
        rintro ac wd ⟨b2392, rfl, h⟩
        (try dsimp only at hL2358)
        by_cases hb2397 : b2392 = true
        · rw [if_pos hb2397] at hL2358
          refine r_condT h b2392 (by simp only [EX, simprocAttr, Nat.blt, Nat.ble, hb2397] <;> rfl) (by first | rfl | (simp only [EX, simprocAttr, Nat.blt, Nat.ble, hb2397] <;> rfl)) ?_
          refine wp_skip ?_
          change Code.wp Try.prog _ _ _ _
          refine wp_seq ?_
          refine wp_block ?_
          obtain ⟨x2525, hx2526, hL2358⟩ := Option.bind_eq_some_iff.1 hL2358
          obtain ⟨hx2526a, hx2526b, hx2526c⟩ := at_some hx2526
          have hx2526d := (List.getElem?_eq_some_iff.1 hx2526b).1
          refine rs_plain 216 [] [none, none, none, none, none, none, none, none] [2, 7, 8, 9, 10, 11] [(5, 0), (9, 0), (10, 0)] h rfl rfl (by simp only [EX, simprocAttr, Nat.blt, Nat.ble, tz_3, tz_22, tz_40, hb2397, hx2526a, hx2526b, hx2526c, hx2526d] <;> rfl) fun ac wd h => ?_
          refine wp_seq ?_
          refine rs_plain 221 [] [none, none, none, none, none] [2, 7, 8, 9, 10, 11, 42] [(5, 0), (9, 0), (10, 0)] h rfl rfl (by simp only [EX, simprocAttr, Nat.blt, Nat.ble, tz_3, tz_4, tz_22, tz_40, hb2397, hx2526a, hx2526b, hx2526c, hx2526d] <;> rfl) fun ac wd h => ?_
          obtain ⟨e2592, hE2593, hL2358⟩ := Option.bind_eq_some_iff.1 hL2358
          refine r_meet (fun ac wd => ∃ (m2590 : TMark) (m2591 : TMark), (m2590, m2591) = e2592 ∧ SL ⟨wb, S, Φ, P0⟩ 128 259 [(2, .one (.d (.sl (List.map eTOp a2)))), (7, .one (.ptr (5, 0) 0)), (8, .one (.ptr (9, 0) 0)), (9, .one (.ptr (10, 0) 0)), (10, .one (.d (.int .i64 n2354))), (11, .one (.d (.int .i64 (IntKind.wrap .i64 (1 + (landK .i64 x2525.Epoch 255))))))] [((5, 0), some (.box 26 [.d (.int .i64 r1279.Node), .d (.int .i64 r1279.State), .d (.int .i64 n2355), .d (.sl (List.map (eL eTMsg) r1279.In)), .d (.sl (List.map (eL eI) r1279.Out))])), ((9, 0), some (.box 33 [.d (.int .i64 m2590.Epoch), .d (.sl (List.map eB m2590.Open)), .d (.int .i64 m2590.P.Node), .d (.int .i64 m2590.P.State), .d (.int .i64 m2590.P.Steps), .d (.sl (List.map eI m2590.P.Sent)), .d (.sl (List.map (eL eTMsg) m2590.P.In)), .d (.sl (List.map (eL eI) m2590.P.Out))])), ((10, 0), some (.box 36 [.d (.int .i64 m2591.Epoch), .d (.sl (List.map eB m2591.Open)), .d (.int .i64 m2591.P.Node), .d (.int .i64 m2591.P.State), .d (.int .i64 m2591.P.Steps), .d (.sl (List.map eI m2591.P.Sent)), .d (.sl (List.map (eL eTMsg) m2591.P.In)), .d (.sl (List.map (eL eI) m2591.P.Out))]))] ac wd) ?_ ?_
          · skip
            by_cases hb2594 : x2525.Marker = true
            · rw [if_pos hb2594] at hE2593
              refine r_condT h x2525.Marker (by simp only [EX, simprocAttr, Nat.blt, Nat.ble, hb2397, hb2594] <;> rfl) (by first | rfl | (simp only [EX, simprocAttr, Nat.blt, Nat.ble, hb2397, hb2594] <;> rfl)) ?_
              obtain ⟨r2608, hc2609, hE2593⟩ := Option.bind_eq_some_iff.1 hE2593
              have hc2609k := L_mark_Marker_ok hc2609
              refine rs_drawn 236 ty_hm [factE 229 hc2609k] [none, none, none, none, none, none, none, none, none, none, none, none, none, none, none] [2, 7, 8, 9, 10, 11, 12, 13] [(5, 0), (9, 0), (10, 0), (233, 0)] h rfl rfl (by simp only [EX, simprocAttr, Nat.blt, Nat.ble, tz_2, tz_3, tz_4, tz_22, tz_26, tz_33, tz_40, hb2397, hb2594, hx2526a, hx2526b, hx2526c, hx2526d] <;> rfl) (by kernel_rfl) fun ac wd h => ?_
              obtain ⟨r2614, hc2615, hE2593⟩ := Option.bind_eq_some_iff.1 hE2593
              obtain ⟨r2616, hc2617, hE2593⟩ := Option.bind_eq_some_iff.1 hE2593
              have hc2615k := L_law09_Ref_ok hc2615
              have hc2617k := L_ref10_Marker_ok hc2617
              refine rs_drawn 252 ty_hm [factE 238 hc2615k, factE 245 hc2617k] [none, none, none, none, none, none, none, none, none, none, none, none, none, none, none, none] [2, 7, 8, 9, 10, 11, 12, 13, 14, 15] [(5, 0), (9, 0), (10, 0), (233, 0), (249, 0)] h rfl rfl (by simp only [EX, simprocAttr, Nat.blt, Nat.ble, tz_2, tz_3, tz_4, tz_22, tz_26, tz_36, tz_40, tz_45, hb2397, hb2594, hx2526a, hx2526b, hx2526c, hx2526d] <;> rfl) (by kernel_rfl) fun ac wd h => ?_
              refine wp_seq ?_
              refine rs_plain 255 [] [none, none, none] [2, 7, 8, 9, 10, 11, 12, 14, 70] [(5, 0), (9, 0), (10, 0), (233, 0), (249, 0)] h rfl rfl (by simp only [EX, simprocAttr, Nat.blt, Nat.ble, tz_4, hb2397, hb2594] <;> rfl) fun ac wd h => ?_
              by_cases hb2619 : r2608.2 = r2616.2
              · rw [if_pos hb2619] at hE2593
                have hb2619t := eq_true hb2619
                refine r_condF h (!(decide (r2608.2 = r2616.2))) (by simp only [EX, simprocAttr, Nat.blt, Nat.ble, hb2397, hb2594, hb2619t] <;> rfl) (by first | rfl | (simp only [EX, simprocAttr, Nat.blt, Nat.ble, hb2397, hb2594, hb2619t] <;> rfl)) ?_
                refine wp_skip ?_
                change Code.wp Try.prog _ _ _ _
                refine rs_plain 257 [] [none, none] [2, 7, 8, 9, 10, 11, 14] [(5, 0), (9, 0), (10, 0), (249, 0)] h rfl rfl (by simp only [EX, simprocAttr, Nat.blt, Nat.ble, tz_33, hb2397, hb2594, hb2619t] <;> rfl) fun ac wd h => ?_
                refine r_plain [] [none, none] [2, 7, 8, 9, 10, 11] [(5, 0), (9, 0), (10, 0)] h rfl (by simp only [EX, simprocAttr, Nat.blt, Nat.ble, tz_36, hb2397, hb2594, hb2619t] <;> rfl) fun ac wd h => ?_
                have h := h.same [2, 7, 8, 9, 10, 11] [(5, 0), (9, 0), (10, 0)] 259 [(2, .one (.d (.sl (List.map eTOp a2)))), (7, .one (.ptr (5, 0) 0)), (8, .one (.ptr (9, 0) 0)), (9, .one (.ptr (10, 0) 0)), (10, .one (.d (.int .i64 n2354))), (11, .one (.d (.int .i64 (IntKind.wrap .i64 (1 + (landK .i64 x2525.Epoch 255))))))]
                  [((5, 0), some (.box 26 [.d (.int .i64 r1279.Node), .d (.int .i64 r1279.State), .d (.int .i64 n2355), .d (.sl (List.map (eL eTMsg) r1279.In)), .d (.sl (List.map (eL eI) r1279.Out))])), ((9, 0), some (.box 33 [.d (.int .i64 r2608.1.Epoch), .d (.sl (List.map eB r2608.1.Open)), .d (.int .i64 r2608.1.P.Node), .d (.int .i64 r2608.1.P.State), .d (.int .i64 r2608.1.P.Steps), .d (.sl (List.map eI r2608.1.P.Sent)), .d (.sl (List.map (eL eTMsg) r2608.1.P.In)), .d (.sl (List.map (eL eI) r2608.1.P.Out))])), ((10, 0), some (.box 36 [.d (.int .i64 r2616.1.Epoch), .d (.sl (List.map eB r2616.1.Open)), .d (.int .i64 r2616.1.P.Node), .d (.int .i64 r2616.1.P.State), .d (.int .i64 r2616.1.P.Steps), .d (.sl (List.map eI r2616.1.P.Sent)), .d (.sl (List.map (eL eTMsg) r2616.1.P.In)), .d (.sl (List.map (eL eI) r2616.1.P.Out))]))]
                  (by simp only [EX, simprocAttr, Nat.blt, Nat.ble, hb2397, hx2526a, hx2526b, hx2526c, hx2526d, hb2594, hb2619t] <;> rfl)
                injection hE2593 with hE2593
                exact ⟨r2608.1, r2616.1, hE2593, h⟩
              · rw [if_neg hb2619] at hE2593; cases hE2593
            · rw [if_neg hb2594] at hE2593
              have hb2594n := eq_false_of_ne_true hb2594
              refine r_condF h x2525.Marker (by simp only [EX, simprocAttr, Nat.blt, Nat.ble, hb2397, hb2594n] <;> rfl) (by first | rfl | (simp only [EX, simprocAttr, Nat.blt, Nat.ble, hb2397, hb2594n] <;> rfl)) ?_
              obtain ⟨r2622, hc2623, hE2593⟩ := Option.bind_eq_some_iff.1 hE2593
              have hc2623k := L_mark_App_ok hc2623
              refine rs_drawn 234 ty_hm [factE 232 hc2623k] [none, none, none, none, none, none, none, none, none, none, none, none, none] [2, 7, 8, 9, 10, 11] [(5, 0), (9, 0), (10, 0)] h rfl rfl (by simp only [EX, simprocAttr, Nat.blt, Nat.ble, tz_2, tz_3, tz_22, tz_33, tz_38, tz_40, hb2397, hb2594n, hx2526a, hx2526b, hx2526c, hx2526d] <;> rfl) (by kernel_rfl) fun ac wd h => ?_
              obtain ⟨r2624, hc2625, hE2593⟩ := Option.bind_eq_some_iff.1 hE2593
              have hc2625k := L_ref10_App_ok hc2625
              refine r_drawn ty_hm [factE 245 hc2625k] [none, none, none, none, none, none, none, none, none, none, none, none, none] [2, 7, 8, 9, 10, 11] [(5, 0), (9, 0), (10, 0)] h rfl (by simp only [EX, simprocAttr, Nat.blt, Nat.ble, tz_2, tz_3, tz_22, tz_36, tz_38, tz_40, hb2397, hb2594n, hx2526a, hx2526b, hx2526c, hx2526d] <;> rfl) (by kernel_rfl) fun ac wd h => ?_
              have h := h.same [2, 7, 8, 9, 10, 11] [(5, 0), (9, 0), (10, 0)] 259 [(2, .one (.d (.sl (List.map eTOp a2)))), (7, .one (.ptr (5, 0) 0)), (8, .one (.ptr (9, 0) 0)), (9, .one (.ptr (10, 0) 0)), (10, .one (.d (.int .i64 n2354))), (11, .one (.d (.int .i64 (IntKind.wrap .i64 (1 + (landK .i64 x2525.Epoch 255))))))]
                [((5, 0), some (.box 26 [.d (.int .i64 r1279.Node), .d (.int .i64 r1279.State), .d (.int .i64 n2355), .d (.sl (List.map (eL eTMsg) r1279.In)), .d (.sl (List.map (eL eI) r1279.Out))])), ((9, 0), some (.box 33 [.d (.int .i64 r2622.Epoch), .d (.sl (List.map eB r2622.Open)), .d (.int .i64 r2622.P.Node), .d (.int .i64 r2622.P.State), .d (.int .i64 r2622.P.Steps), .d (.sl (List.map eI r2622.P.Sent)), .d (.sl (List.map (eL eTMsg) r2622.P.In)), .d (.sl (List.map (eL eI) r2622.P.Out))])), ((10, 0), some (.box 36 [.d (.int .i64 r2624.Epoch), .d (.sl (List.map eB r2624.Open)), .d (.int .i64 r2624.P.Node), .d (.int .i64 r2624.P.State), .d (.int .i64 r2624.P.Steps), .d (.sl (List.map eI r2624.P.Sent)), .d (.sl (List.map (eL eTMsg) r2624.P.In)), .d (.sl (List.map (eL eI) r2624.P.Out))]))]
                (by simp only [EX, simprocAttr, Nat.blt, Nat.ble, hb2397, hx2526a, hx2526b, hx2526c, hx2526d, hb2594n] <;> rfl)
              injection hE2593 with hE2593
              exact ⟨r2622, r2624, hE2593, h⟩
          · skip
            rintro ac wd ⟨m2590, m2591, rfl, h⟩
            (try dsimp only at hL2358)
            refine rs_plain 264 [] [none, none, none, none, none] [2, 7, 8, 9, 10, 11] [(5, 0), (9, 0), (10, 0)] h rfl rfl (by simp only [EX, simprocAttr, Nat.blt, Nat.ble, tz_2, tz_3, tz_26, hb2397] <;> rfl) fun ac wd h => ?_
            obtain ⟨r2647, hc2648, hL2358⟩ := Option.bind_eq_some_iff.1 hL2358
            obtain ⟨r2649, hc2650, hL2358⟩ := Option.bind_eq_some_iff.1 hL2358
            by_cases hb2651 : r2649 = true
            · rw [if_pos hb2651] at hL2358
              obtain ⟨r2652, hc2653, hL2358⟩ := Option.bind_eq_some_iff.1 hL2358
              obtain ⟨r2654, hc2655, hL2358⟩ := Option.bind_eq_some_iff.1 hL2358
              by_cases hb2656 : r2652 = r2654
              · rw [if_pos hb2656] at hL2358
                have hb2656t := eq_true hb2656
                obtain ⟨r2657, hc2658, hL2358⟩ := Option.bind_eq_some_iff.1 hL2358
                obtain ⟨r2659, hc2660, hL2358⟩ := Option.bind_eq_some_iff.1 hL2358
                obtain ⟨r2661, hc2662, hL2358⟩ := Option.bind_eq_some_iff.1 hL2358
                obtain ⟨r2663, hc2664, hL2358⟩ := Option.bind_eq_some_iff.1 hL2358
                obtain ⟨r2665, hc2666, hL2358⟩ := Option.bind_eq_some_iff.1 hL2358
                have hc2648k := L_law10_Ref_ok hc2648
                have hc2650k := L_ref10_Same_ok hc2650
                have hc2653k := L_mark_Done_ok hc2653
                have hc2655k := L_ref10_Done_ok hc2655
                have hc2658k := L_mark_Begin_ok hc2658
                have hc2660k := L_law10_Ref_ok hc2660
                have hc2662k := L_law09_Ref_ok hc2662
                have hc2664k := L_ref10_Begin_ok hc2664
                have hc2666k := L_ref10_Same_ok hc2666
                refine rs_drawn 290 ty_hm [factE 265 hc2648k, factE 267 hc2650k, factE 272 hc2653k, factE 275 hc2655k, factE 281 hc2658k, factE 282 hc2660k, factE 284 hc2662k, factE 286 hc2664k, factE 287 hc2666k] [none, none, none, none, none, none, some (some 106, false), some (some 106, false), some (some 106, false), some (some 106, false), some (some 106, false), some (some 106, false), some (some 106, false), none, none, some (some 115, false), some (some 115, false), some (some 115, false), some (some 115, false), some (some 115, false), some (some 115, false), some (some 115, false), some (some 115, false), some (some 115, false), some (some 115, false), none] [2, 7, 8, 9, 10, 126] [(5, 0), (9, 0), (10, 0)] h rfl rfl (by simp only [EX, simprocAttr, Nat.blt, Nat.ble, tz_3, tz_4, tz_26, tz_33, tz_36, tz_45, hb2397, hb2651, hb2656t] <;> rfl) (by kernel_rfl) fun ac wd h => ?_
                by_cases hb2667 : r2665 = true
                · rw [if_pos hb2667] at hL2358
                  refine r_condF h (!(r2665)) (by simp only [EX, simprocAttr, Nat.blt, Nat.ble, hb2397, hb2651, hb2656t, hb2667] <;> rfl) (by first | rfl | (simp only [EX, simprocAttr, Nat.blt, Nat.ble, hb2397, hb2651, hb2656t, hb2667] <;> rfl)) ?_
                  refine wp_skip ?_
                  change Code.wp Try.prog _ _ _ _
                  refine r_plain [] [none, none, none] [2, 7, 8, 9, 10] [(5, 0), (9, 0), (10, 0)] h rfl (by simp only [EX, simprocAttr, Nat.blt, Nat.ble, tz_3, hb2397, hb2651, hb2656t, hb2667] <;> rfl) fun ac wd h => ?_
                  have h := h.same [2, 7, 8, 9, 10] [(5, 0), (9, 0), (10, 0)] 200 [(2, .one (.d (.sl (List.map eTOp a2)))), (7, .one (.ptr (5, 0) 0)), (8, .one (.ptr (9, 0) 0)), (9, .one (.ptr (10, 0) 0)), (10, .one (.d (.int .i64 (IntKind.wrap .i64 (n2354 + 1)))))]
                    [((5, 0), some (.box 26 [.d (.int .i64 r1279.Node), .d (.int .i64 r1279.State), .d (.int .i64 (IntKind.wrap .i64 (n2355 + 1))), .d (.sl (List.map (eL eTMsg) r1279.In)), .d (.sl (List.map (eL eI) r1279.Out))])), ((9, 0), some (.box 33 [.d (.int .i64 m2590.Epoch), .d (.sl (List.map eB m2590.Open)), .d (.int .i64 m2590.P.Node), .d (.int .i64 m2590.P.State), .d (.int .i64 m2590.P.Steps), .d (.sl (List.map eI m2590.P.Sent)), .d (.sl (List.map (eL eTMsg) m2590.P.In)), .d (.sl (List.map (eL eI) m2590.P.Out))])), ((10, 0), some (.box 36 [.d (.int .i64 m2591.Epoch), .d (.sl (List.map eB m2591.Open)), .d (.int .i64 m2591.P.Node), .d (.int .i64 m2591.P.State), .d (.int .i64 m2591.P.Steps), .d (.sl (List.map eI m2591.P.Sent)), .d (.sl (List.map (eL eTMsg) m2591.P.In)), .d (.sl (List.map (eL eI) m2591.P.Out))]))]
                    (by simp only [EX, simprocAttr, Nat.blt, Nat.ble, hb2397, hx2526a, hx2526b, hx2526c, hx2526d, hb2651, hb2656t, hb2667] <;> rfl)
                  change ∃ n', _ ∧ _
                  exact ⟨nf, Nat.lt_succ_self nf, (IntKind.wrap .i64 (n2354 + 1)), (IntKind.wrap .i64 (n2355 + 1)), m2590, m2591, hL2358, h⟩
                · rw [if_neg hb2667] at hL2358; cases hL2358
              · rw [if_neg hb2656] at hL2358; cases hL2358
            · rw [if_neg hb2651] at hL2358; cases hL2358
        · rw [if_neg hb2397] at hL2358
          have hb2397n := eq_false_of_ne_true hb2397
          refine r_condF h b2392 (by simp only [EX, simprocAttr, Nat.blt, Nat.ble, hb2397n] <;> rfl) (by first | rfl | (simp only [EX, simprocAttr, Nat.blt, Nat.ble, hb2397n] <;> rfl)) ?_
          refine wp_exit ?_
          have h := h.same [] [] 208 []
            []
            (by simp only [EX, simprocAttr, Nat.blt, Nat.ble, hb2397n] <;> rfl)
          injection hL2358 with hL2358
          exact ⟨hL2358, h⟩
  · skip
    rintro ac wd ⟨rfl, h⟩
    (try dsimp only at hD)
    obtain ⟨r2670, hc2671, hD⟩ := Option.bind_eq_some_iff.1 hD
    have hc2671k := L_law10_fixed_ok hc2671
    refine rs_plain 210 [factE 208 hc2671k] [none, none] [6] [] h rfl rfl (by simp only [EX, simprocAttr, Nat.blt, Nat.ble, tz_4] <;> rfl) fun ac wd h => ?_
    refine wp_ret ?_
    injection hD with hD
    subst hD
    exact r_retE rfl h [.tmp 6] rfl (by simp only [retD, List.mapM_cons, List.mapM_nil, Option.bind_eq_bind, Option.pure_def, EX, simprocAttr, Nat.blt, Nat.ble] <;> rfl)

end Go.Proofs.Ytkjihlonnhfidaa
