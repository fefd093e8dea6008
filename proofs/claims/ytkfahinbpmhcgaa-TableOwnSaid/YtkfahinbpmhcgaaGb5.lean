/- Functions as typed ones, and that the program's functions answer as these do. No condition. -/
import Derived.Test.YtkfahinbpmhcgaaGb4
import Derived.Test.YtkfahinbpmhcgaaGd
set_option linter.unusedSimpArgs false
set_option linter.unusedVariables false
set_option maxRecDepth 20000
set_option maxHeartbeats 4000000
namespace Go.Proofs.Ytkfahinbpmhcgaa
open Go.RowKit

theorem L_table_Picked_own {a0 : (List TNode)} {a1 : Int} {a2 : Int} {a3 : Int} {r : TPick × Bool} (hD : L_table_Picked a0 a1 a2 a3 = some r) :
    CallH Try.prog 37 [.one (.d (.sl (List.map eTNode a0))), .one (.d (.int .i64 a1)), .one (.d (.int .i64 a2)), .one (.d (.int .i64 a3))] []
      (.tup [.inl [.d (.int .i64 r.1.Next), .own (1, 0) r.1.Sends.length], .inr (.d (.bool r.2))]) [((1, 0), some (.row 81 2 (dat (List.map eTSend r.1.Sends))))] := by
  unfold L_table_Picked at hD
  refine rc Try.func37 rfl Try.ntmps37 fun S Φ P0 wb ac h => ?_
  refine qs 3 [] [0, 1, 2, 3, 8] [(1, 0)] h fun ac wd h => ?_
  obtain ⟨r22, hc23, hD⟩ := oB hD
  have hc23k := L_table_at_ok hc23
  refine qs 13 [factE 6 hc23k] [3, 8, 10] [(1, 0), (10, 0)] h fun ac wd h => ?_
  refine wp_seq ?_
  obtain ⟨e26, hE27, hD⟩ := Option.bind_eq_some_iff.1 hD
  refine r_seqJ (fun ac wd => ∃ (b25 : Bool), b25 = e26 ∧ SL ⟨wb, S, Φ, P0⟩ 43 22 [(3, .one (.d (.int .i64 a3))), (8, .one (.ptr (1, 0) 0)), (10, .one (.ptr (10, 0) 0)), (27, .one (.d (.bool b25)))] [((1, 0), some (.box 74 [.d (.int .i64 0), .nil])), ((10, 0), some (.box 86 [.d (.int .i64 r22.1.Mode), .d (.sl (List.map eI r22.1.Waits)), .d (.sl (List.map eTPick r22.1.Picks)), .d (.sl (List.map eTTake r22.1.Takes))]))] ac wd) ?_ ?_
  · skip
    rcases i2 hE27 with ⟨hb28, hE27⟩ | ⟨hb28, hE27⟩
    ·
      refine qeg [] [none, none, none, some (some 21, false), some (some 21, false), some (some 21, false), some (some 21, false), some (some 21, false), none] [3, 8, 10, 27] [(1, 0), (10, 0)] h fun ac wd h => ?_
      injection hE27 with hE27; subst hE27
      exact ⟨true, rfl, h.z⟩
    ·
      refine qeg [] [none, none, none, some (some 21, false), some (some 21, false), some (some 21, false), some (some 21, false), some (some 21, false), none] [3, 8, 10, 27] [(1, 0), (10, 0)] h fun ac wd h => ?_
      injection hE27 with hE27; subst hE27
      exact ⟨decide (a3 ≥ (r22.1.Picks.length : Int)), rfl, h.z⟩
  · skip
    rintro ac wd ⟨b25, rfl, h⟩
    (try dsimp only at hD)
    rcases i2b hD with ⟨hb30, hD⟩ | ⟨hb30, hD⟩
    ·
      refine kT h ?_
      refine qs 25 [] [8, 9] [(1, 0)] h fun ac wd h => ?_
      refine wp_ret ?_
      have h := SL.bornB h (1, 0) 1 81 2 (by simp only [EZ, simprocAttr, *] <;> rfl) (by simp only [EZ, simprocAttr, *] <;> rfl)
      have h := h.sm 26 [(8, .one (.ptr (1, 0) 0)), (9, .one (.d (.bool false)))]
        [((1, 0), some (.box 74 [.d (.int .i64 0), .own (25, 0) 0])), ((25, 0), some (.row 81 2 ([])))]
      have h := h.sw (1, 0) (25, 0) 26
      have h := h.sm 26 [(8, .one (.ptr (25, 0) 0)), (9, .one (.d (.bool false)))]
        [((1, 0), some (.row 81 2 ([]))), ((25, 0), some (.box 74 [.d (.int .i64 0), .own (1, 0) 0]))]
      injection hD with hD
      subst hD
      exact rO h [.cell 8 74, .tmp 9] [(1, 0)]
    ·
      refine kF h ?_
      refine wp_skip ?_
      change Code.wp Try.prog _ _ _ _
      obtain ⟨x35, hx36a, hx36b, hx36c, hx36d, hD⟩ := aB hD
      obtain ⟨r37, hc38, hD⟩ := oB hD
      have hc38_34 := ((L_slices_Clone_table_Send_table_Send_own hc38).cls 34).z
      refine ds 38 [factO hc38_34] [8, 9] [(1, 0), (34, 0)] h fun ac wd h => ?_
      refine wp_ret ?_
      have h := h.sm 38 [(8, .one (.ptr (1, 0) 0)), (9, .one (.d (.bool true)))]
        [((1, 0), some (.box 74 [.d (.int .i64 x35.Next), .own (34, 0) r37.length])), ((34, 0), some (.row 81 2 (dat (List.map eTSend r37))))]
      have h := h.sw (1, 0) (34, 0) 38
      have h := h.sm 38 [(8, .one (.ptr (34, 0) 0)), (9, .one (.d (.bool true)))]
        [((1, 0), some (.row 81 2 (dat (List.map eTSend r37)))), ((34, 0), some (.box 74 [.d (.int .i64 x35.Next), .own (1, 0) r37.length]))]
      injection hD with hD
      subst hD
      exact rO h [.cell 8 74, .tmp 9] [(1, 0)]
theorem L_table_Picked_ok {a0 : (List TNode)} {a1 : Int} {a2 : Int} {a3 : Int} {r : TPick × Bool} (hD : L_table_Picked a0 a1 a2 a3 = some r) :
    CallH Try.prog 37 [.one (.d (.sl (List.map eTNode a0))), .one (.d (.int .i64 a1)), .one (.d (.int .i64 a2)), .one (.d (.int .i64 a3))] []
      (.tup [.inl [.d (.int .i64 r.1.Next), .d (.sl (List.map eTSend r.1.Sends))], .inr (.d (.bool r.2))]) [] :=
  (L_table_Picked_own hD).fr

theorem L_table_Mode_ok {a0 : (List TNode)} {a1 : Int} {a2 : Int} {r : Int} (hD : L_table_Mode a0 a1 a2 = some r) :
    CallH Try.prog 35 [.one (.d (.sl (List.map eTNode a0))), .one (.d (.int .i64 a1)), .one (.d (.int .i64 a2))] []
      (.one (.d (.int .i64 r))) [] := by
  unfold L_table_Mode at hD
  refine rc Try.func35 rfl Try.ntmps35 fun S Φ P0 wb ac h => ?_
  refine qs 2 [] [0, 1, 2] [] h fun ac wd h => ?_
  obtain ⟨r7, hc8, hD⟩ := oB hD
  have hc8k := L_table_at_ok hc8
  refine qs 12 [factE 5 hc8k] [7] [(9, 0)] h fun ac wd h => ?_
  refine qs 15 [] [6] [] h fun ac wd h => ?_
  refine wp_ret ?_
  injection hD with hD
  subst hD
  exact rE h [.tmp 6]

theorem L_slices_Clone_int_int_own {a0 : (List Int)} {r : (List Int)} (hD : L_slices_Clone_int_int a0 = some r) :
    CallH Try.prog 63 [.one (.d (.sl (List.map eI a0)))] []
      (.one (.own (1, 0) r.length)) [((1, 0), some (.row 3 1 (dat (List.map eI r))))] := by
  unfold L_slices_Clone_int_int at hD
  refine rc Try.func63 rfl Try.ntmps63 fun S Φ P0 wb ac h => ?_
  refine qs 2 [] [0] [] h fun ac wd h => ?_
  refine wp_seq ?_
  refine qs 4 [] [0, 4] [] h fun ac wd h => ?_
  refine r_condB h (by simp only [EZ, simprocAttr, *] <;> rfl) (fun hn6 => ?_) (fun hn6 => ?_)
  · skip
    have hn6 := hn6 rfl
    obtain rfl : a0 = [] := List.eq_nil_of_length_eq_zero (by simpa using hn6)
    have hD : (some []) = some r := by simpa using hD
    refine qs 5 [] [2] [] h fun ac wd h => ?_
    refine wp_ret ?_
    have h := SL.bornS h 2 3 1 (by simp only [EZ, simprocAttr, *] <;> rfl)
    have h := h.sm 6 [(2, .one (.own (5, 0) 0))]
      [((5, 0), some (.row 3 1 ([])))]
    have h := h.sw (1, 0) (5, 0) 6
    have h := h.sm 6 [(2, .one (.own (1, 0) 0))]
      [((1, 0), some (.row 3 1 ([])))]
    injection hD with hD
    subst hD
    exact rO h [.tmp 2] [(1, 0)]
  · skip
    refine wp_skip ?_
    change Code.wp Try.prog _ _ _ _
    obtain ⟨ha8, hD⟩ := iT hD
    refine qs 8 [] [2] [(6, 0)] h fun ac wd h => ?_
    refine wp_ret ?_
    have h := h.sm 8 [(2, .one (.own (6, 0) a0.length))]
      [((6, 0), some (.row 3 1 (dat (List.map eI a0))))]
    have h := h.sw (1, 0) (6, 0) 8
    have h := h.sm 8 [(2, .one (.own (1, 0) a0.length))]
      [((1, 0), some (.row 3 1 (dat (List.map eI a0))))]
    injection hD with hD
    subst hD
    exact rO h [.tmp 2] [(1, 0)]
theorem L_slices_Clone_int_int_ok {a0 : (List Int)} {r : (List Int)} (hD : L_slices_Clone_int_int a0 = some r) :
    CallH Try.prog 63 [.one (.d (.sl (List.map eI a0)))] []
      (.one (.d (.sl (List.map eI r)))) [] :=
  (L_slices_Clone_int_int_own hD).fr

theorem L_table_Waits_own {a0 : (List TNode)} {a1 : Int} {a2 : Int} {r : (List Int)} (hD : L_table_Waits a0 a1 a2 = some r) :
    CallH Try.prog 34 [.one (.d (.sl (List.map eTNode a0))), .one (.d (.int .i64 a1)), .one (.d (.int .i64 a2))] []
      (.one (.own (1, 0) r.length)) [((1, 0), some (.row 3 1 (dat (List.map eI r))))] := by
  unfold L_table_Waits at hD
  refine rc Try.func34 rfl Try.ntmps34 fun S Φ P0 wb ac h => ?_
  refine qs 2 [] [0, 1, 2] [] h fun ac wd h => ?_
  obtain ⟨r11, hc12, hD⟩ := oB hD
  have hc12k := L_table_at_ok hc12
  refine qs 12 [factE 5 hc12k] [7] [(9, 0)] h fun ac wd h => ?_
  obtain ⟨r15, hc16, hD⟩ := oB hD
  have hc16_14 := ((L_slices_Clone_int_int_own hc16).cls 14).z
  refine qs 16 [factO hc16_14] [6] [(14, 0)] h fun ac wd h => ?_
  refine wp_ret ?_
  have h := h.sm 16 [(6, .one (.own (14, 0) r15.length))]
    [((14, 0), some (.row 3 1 (dat (List.map eI r15))))]
  have h := h.sw (1, 0) (14, 0) 16
  have h := h.sm 16 [(6, .one (.own (1, 0) r15.length))]
    [((1, 0), some (.row 3 1 (dat (List.map eI r15))))]
  injection hD with hD
  subst hD
  exact rO h [.tmp 6] [(1, 0)]
theorem L_table_Waits_ok {a0 : (List TNode)} {a1 : Int} {a2 : Int} {r : (List Int)} (hD : L_table_Waits a0 a1 a2 = some r) :
    CallH Try.prog 34 [.one (.d (.sl (List.map eTNode a0))), .one (.d (.int .i64 a1)), .one (.d (.int .i64 a2))] []
      (.one (.d (.sl (List.map eI r)))) [] :=
  (L_table_Waits_own hD).fr

theorem L_ref01_Ints_ok {a0 : (List Int)} {a1 : (List Int)} {r : Bool} (hD : L_ref01_Ints a0 a1 = some r) :
    CallH Try.prog 40 [.one (.d (.sl (List.map eI a0))), .one (.d (.sl (List.map eI a1)))] []
      (.one (.d (.bool r))) [] := by
  unfold L_ref01_Ints at hD
  refine rc Try.func40 rfl Try.ntmps40 fun S Φ P0 wb ac h => ?_
  refine qs 2 [] [0, 1] [] h fun ac wd h => ?_
  refine wp_seq ?_
  refine qs 7 [] [0, 1, 10] [] h fun ac wd h => ?_
  rcases i2e hD with ⟨hb131, hD⟩ | ⟨hb131, hD⟩
  ·
    refine kF h ?_
    refine wp_skip ?_
    change Code.wp Try.prog _ _ _ _
    refine wp_seq ?_
    refine qs 8 [] [0, 1, 5] [] h fun ac wd h => ?_
    refine wp_block ?_
    refine r_while (fun nf ac wd => ∃ (n235 : Int), L_ref01_Ints_l1 a0 a1 nf n235 = some r ∧ SL ⟨wb, S, Φ, P0⟩ 26 40 [(0, .one (.d (.sl (List.map eI a0)))), (1, .one (.d (.sl (List.map eI a1)))), (5, .one (.d (.int .i64 n235)))] [] ac wd) (((a0.length : Int) - 0).toNat + 1) ⟨0, hD, h.z⟩ (fun nf ac wd hJ => ?_)
    obtain ⟨n235, hL236, h⟩ := hJ
    cases nf with
    | zero => rw [L_ref01_Ints_l1] at hL236; cases hL236
    | succ nf =>
      rw [L_ref01_Ints_l1] at hL236
      refine wp_seq ?_
      refine qs 44 [] [0, 1, 5, 14] [] h fun ac wd h => ?_
      rcases i2 hL236 with ⟨hb238, hL236⟩ | ⟨hb238, hL236⟩
      ·
        refine kT h ?_
        refine wp_skip ?_
        change Code.wp Try.prog _ _ _ _
        refine wp_seq ?_
        refine wp_block ?_
        obtain ⟨x252, hx253a, hx253b, hx253c, hx253d, hL236⟩ := aB hL236
        obtain ⟨x254, hx255a, hx255b, hx255c, hx255d, hL236⟩ := aB hL236
        refine ds 53 [] [0, 1, 5, 25] [] h fun ac wd h => ?_
        rcases i2e hL236 with ⟨hb256, hL236⟩ | ⟨hb256, hL236⟩
        ·
          refine kF h ?_
          refine wp_skip ?_
          change Code.wp Try.prog _ _ _ _
          refine qe [] [0, 1, 5] [] h fun ac wd h => ?_
          exact ⟨nf, Nat.lt_succ_self nf, (IntKind.wrap .i64 (n235 + 1)), hL236, h.z⟩
        ·
          refine kT h ?_
          refine qs 54 [] [4] [] h fun ac wd h => ?_
          refine wp_ret ?_
          injection hL236 with hL236
          subst hL236
          exact rE h [.tmp 4]
      ·
        refine kF h ?_
        refine wp_exit ?_
        change Code.wp Try.prog _ _ _ _
        refine qs 45 [] [4] [] h fun ac wd h => ?_
        refine wp_ret ?_
        injection hL236 with hL236
        subst hL236
        exact rE h [.tmp 4]
  ·
    refine kT h ?_
    refine qs 8 [] [4] [] h fun ac wd h => ?_
    refine wp_ret ?_
    injection hD with hD
    subst hD
    exact rE h [.tmp 4]

theorem L_table_Taken_ok {a0 : (List TNode)} {a1 : Int} {a2 : Int} {a3 : Int} {a4 : Int} {r : Int} (hD : L_table_Taken a0 a1 a2 a3 a4 = some r) :
    CallH Try.prog 36 [.one (.d (.sl (List.map eTNode a0))), .one (.d (.int .i64 a1)), .one (.d (.int .i64 a2)), .one (.d (.int .i64 a3)), .one (.d (.int .i64 a4))] []
      (.one (.d (.int .i64 r))) [] := by
  unfold L_table_Taken at hD
  refine rc Try.func36 rfl Try.ntmps36 fun S Φ P0 wb ac h => ?_
  refine qs 2 [] [0, 1, 2, 3, 4] [] h fun ac wd h => ?_
  obtain ⟨r146, hc147, hD⟩ := oB hD
  have hc147k := L_table_at_ok hc147
  refine qs 12 [factE 5 hc147k] [2, 3, 4, 11] [(9, 0)] h fun ac wd h => ?_
  refine wp_seq ?_
  refine qs 16 [] [2, 3, 4, 23, 24, 25] [] h fun ac wd h => ?_
  refine wp_block ?_
  refine r_while (fun nf ac wd => ∃ (n261 : Int), L_table_Taken_l1 a2 a3 a4 r146 nf n261 = some r ∧ SL ⟨wb, S, Φ, P0⟩ 43 50 [(2, .one (.d (.int .i64 a2))), (3, .one (.d (.int .i64 a3))), (4, .one (.d (.int .i64 a4))), (23, .one (.d (.sl (List.map eTTake r146.1.Takes)))), (24, .one (.d (.int .i64 (r146.1.Takes.length : Int)))), (25, .one (.d (.int .i64 n261)))] [] ac wd) (((r146.1.Takes.length : Int) - 0).toNat + 1) ⟨0, hD, h.z⟩ (fun nf ac wd hJ => ?_)
  obtain ⟨n261, hL262, h⟩ := hJ
  cases nf with
  | zero => rw [L_table_Taken_l1] at hL262; cases hL262
  | succ nf =>
    rw [L_table_Taken_l1] at hL262
    refine qs 51 [] [2, 3, 4, 23, 24, 25, 26] [] h fun ac wd h => ?_
    refine wp_seq ?_
    rcases i2 hL262 with ⟨hb264, hL262⟩ | ⟨hb264, hL262⟩
    ·
      refine kT h ?_
      refine wp_skip ?_
      change Code.wp Try.prog _ _ _ _
      refine wp_seq ?_
      refine wp_block ?_
      obtain ⟨x277, hx278a, hx278b, hx278c, hx278d, hL262⟩ := aB hL262
      refine qs 55 [] [2, 3, 4, 14, 23, 24, 25] [(53, 0)] h fun ac wd h => ?_
      obtain ⟨e281, hE282, hL262⟩ := Option.bind_eq_some_iff.1 hL262
      refine r_seqJ (fun ac wd => ∃ (b280 : Bool), b280 = e281 ∧ SL ⟨wb, S, Φ, P0⟩ 43 65 [(2, .one (.d (.int .i64 a2))), (3, .one (.d (.int .i64 a3))), (4, .one (.d (.int .i64 a4))), (14, .one (.ptr (53, 0) 0)), (23, .one (.d (.sl (List.map eTTake r146.1.Takes)))), (24, .one (.d (.int .i64 (r146.1.Takes.length : Int)))), (25, .one (.d (.int .i64 n261))), (38, .one (.d (.bool b280)))] [((53, 0), some (.box 88 (cTTake x277)))] ac wd) ?_ ?_
      · skip
        rcases i2e hE282 with ⟨hb283, hE282⟩ | ⟨hb283, hE282⟩
        ·
          refine qeg [] [none, none, none, none, none, some (some 33, true), some (some 33, true), some (some 33, true), some (some 33, true), none] [2, 3, 4, 14, 23, 24, 25, 38] [(53, 0)] h fun ac wd h => ?_
          injection hE282 with hE282; subst hE282
          exact ⟨decide (x277.Letter = a4), rfl, h.z⟩
        ·
          refine qeg [] [none, none, none, none, none, some (some 33, true), some (some 33, true), some (some 33, true), some (some 33, true), none] [2, 3, 4, 14, 23, 24, 25, 38] [(53, 0)] h fun ac wd h => ?_
          injection hE282 with hE282; subst hE282
          exact ⟨false, rfl, h.z⟩
      · skip
        rintro ac wd ⟨b280, rfl, h⟩
        (try dsimp only at hL262)
        rcases i2b hL262 with ⟨hb284, hL262⟩ | ⟨hb284, hL262⟩
        ·
          refine kT h ?_
          refine qs 68 [] [10] [] h fun ac wd h => ?_
          refine wp_ret ?_
          injection hL262 with hL262
          subst hL262
          exact rE h [.tmp 10]
        ·
          refine kF h ?_
          refine wp_skip ?_
          change Code.wp Try.prog _ _ _ _
          refine qe [] [2, 3, 4, 23, 24, 25] [] h fun ac wd h => ?_
          exact ⟨nf, Nat.lt_succ_self nf, (IntKind.wrap .i64 (n261 + 1)), hL262, h.z⟩
    ·
      refine kF h ?_
      refine wp_exit ?_
      change Code.wp Try.prog _ _ _ _
      refine qs 53 [] [10] [] h fun ac wd h => ?_
      refine wp_ret ?_
      injection hL262 with hL262
      subst hL262
      exact rE h [.tmp 10]

theorem L_law04_fixed_ok {r : Bool} (hD : L_law04_fixed = some r) :
    CallH Try.prog 33 [] []
      (.one (.d (.bool r))) [] := by
  unfold L_law04_fixed at hD
  refine rc Try.func33 rfl Try.ntmps33 fun S Φ P0 wb ac h => ?_
  refine qs 2 [] [] [] h fun ac wd h => ?_
  obtain ⟨r134, hc135, hD⟩ := oB hD
  obtain ⟨r136, hc137, hD⟩ := oB hD
  have hc135_2 := ((L_law04_two_own hc135).cls 2).z
  have hc137k := L_graph_Full_ok hc137
  refine qs 7 [factO hc135_2, factE 3 hc137k] [1, 2] [(2, 0), (4, 0)] h fun ac wd h => ?_
  obtain ⟨r140, hc141, hD⟩ := oB hD
  have h := h.fz [(2, 0)]
  have hc141k := L_table_Picked_ok hc141
  refine qs 15 [factE 8 hc141k] [1, 2, 3, 4] [(4, 0), (12, 0)] h fun ac wd h => ?_
  obtain ⟨r144, hc145, hD⟩ := oB hD
  have hc145k := L_table_Picked_ok hc145
  refine qs 23 [factE 16 hc145k] [1, 2, 3, 4, 6] [(4, 0), (12, 0)] h fun ac wd h => ?_
  have hc135_23 := ((L_law04_two_own hc135).cls 23).z
  have hc135_24 := ((L_law04_two_own hc135).cls 24).z
  refine qs 27 [factO hc135_23, factO hc135_24] [1, 2, 3, 4, 6, 7, 8] [(4, 0), (12, 0), (23, 0), (24, 0)] h fun ac wd h => ?_
  obtain ⟨x150, hx151a, hx151b, hx151c, hx151d, hD⟩ := aN 1 hD
  have h := h.op (23, 0) 1 1
  have h := h.sm 28 [(1, .one (.d (.sl (List.map eTNode r134)))), (2, .one (.ptr (4, 0) 0)), (3, .one (.ptr (12, 0) 0)), (4, .one (.d (.bool r140.2))), (6, .one (.d (.bool r144.2))), (7, .one (.own (23, 0) r134.length)), (8, .one (.own (24, 0) r134.length))]
    [((4, 0), some (.box 24 [.d (.int .i64 r136.N), .d (.sl (List.map eA2I r136.Links))])), ((12, 0), some (.box 74 [.d (.int .i64 r140.1.Next), .d (.sl (List.map eTSend r140.1.Sends))])), ((23, 0), some (.row 68 2 ((openRows cols_68 (List.map eTNode r134)).set 1 [.d (.int .i64 x150.Start), .own (27, 0) x150.States.length]))), ((24, 0), some (.row 68 2 (openRows cols_68 (List.map eTNode r134)))), ((27, 0), some (.row 86 4 (openRows cols_86 (List.map eTState x150.States))))]
  obtain ⟨x152, hx153a, hx153b, hx153c, hx153d, hD⟩ := aN 0 hD
  refine qs 36 [] [1, 2, 3, 4, 6, 7, 8] [(4, 0), (12, 0), (23, 0), (24, 0), (27, 0), (32, 0)] h fun ac wd h => ?_
  have h := h.fS (cols := (fun _ => .sc)) (27, 0) (32, 0) (openRows cols_86 (List.map eTState x150.States)) 0 [.d (.int .i64 x152.Mode), .own (32, 0) 1, .tr (.sl 74 2 cols_74) (.sl (List.map eTPick x152.Picks)), .tr (.sl 88 3 (fun _ => .sc)) (.sl (List.map eTTake x152.Takes))] 1 (List.map eI [1]) (sc_3 _)
  have h := h.sm 36 [(1, .one (.d (.sl (List.map eTNode r134)))), (2, .one (.ptr (4, 0) 0)), (3, .one (.ptr (12, 0) 0)), (4, .one (.d (.bool r140.2))), (6, .one (.d (.bool r144.2))), (7, .one (.own (23, 0) r134.length)), (8, .one (.own (24, 0) r134.length))]
    [((4, 0), some (.box 24 [.d (.int .i64 r136.N), .d (.sl (List.map eA2I r136.Links))])), ((12, 0), some (.box 74 [.d (.int .i64 r140.1.Next), .d (.sl (List.map eTSend r140.1.Sends))])), ((23, 0), some (.row 68 2 ((openRows cols_68 (List.map eTNode r134)).set 1 [.d (.int .i64 x150.Start), .own (27, 0) x150.States.length]))), ((24, 0), some (.row 68 2 (openRows cols_68 (List.map eTNode r134)))), ((27, 0), some (.row 86 4 ((openRows cols_86 (List.map eTState x150.States)).set 0 [.d (.int .i64 x152.Mode), .tr (.sl 3 1 (fun _ => .sc)) (.sl (List.map eI [1])), .tr (.sl 74 2 cols_74) (.sl (List.map eTPick x152.Picks)), .tr (.sl 88 3 (fun _ => .sc)) (.sl (List.map eTTake x152.Takes))])))]
  have h := h.fS (cols := cols_86) (23, 0) (27, 0) (openRows cols_68 (List.map eTNode r134)) 1 [.d (.int .i64 x150.Start), .own (27, 0) x150.States.length] 1 (List.map eTState (x150.States.set 0 (TState.mk x152.Mode [1] x152.Picks x152.Takes))) (sc_86 _)
  have h := h.sm 36 [(1, .one (.d (.sl (List.map eTNode r134)))), (2, .one (.ptr (4, 0) 0)), (3, .one (.ptr (12, 0) 0)), (4, .one (.d (.bool r140.2))), (6, .one (.d (.bool r144.2))), (7, .one (.own (23, 0) r134.length)), (8, .one (.own (24, 0) r134.length))]
    [((4, 0), some (.box 24 [.d (.int .i64 r136.N), .d (.sl (List.map eA2I r136.Links))])), ((12, 0), some (.box 74 [.d (.int .i64 r140.1.Next), .d (.sl (List.map eTSend r140.1.Sends))])), ((23, 0), some (.row 68 2 ((openRows cols_68 (List.map eTNode r134)).set 1 [.d (.int .i64 x150.Start), .tr (.sl 86 4 cols_86) (.sl (List.map eTState (x150.States.set 0 (TState.mk x152.Mode [1] x152.Picks x152.Takes))))]))), ((24, 0), some (.row 68 2 (openRows cols_68 (List.map eTNode r134))))]
  obtain ⟨x158, hx159a, hx159b, hx159c, hx159d, hD⟩ := aN 0 hD
  have h := h.op (24, 0) 0 1
  have h := h.sm 37 [(1, .one (.d (.sl (List.map eTNode r134)))), (2, .one (.ptr (4, 0) 0)), (3, .one (.ptr (12, 0) 0)), (4, .one (.d (.bool r140.2))), (6, .one (.d (.bool r144.2))), (7, .one (.own (23, 0) r134.length)), (8, .one (.own (24, 0) r134.length))]
    [((4, 0), some (.box 24 [.d (.int .i64 r136.N), .d (.sl (List.map eA2I r136.Links))])), ((12, 0), some (.box 74 [.d (.int .i64 r140.1.Next), .d (.sl (List.map eTSend r140.1.Sends))])), ((23, 0), some (.row 68 2 (openRows cols_68 (List.map eTNode (r134.set 1 (TNode.mk x150.Start (x150.States.set 0 (TState.mk x152.Mode [1] x152.Picks x152.Takes)))))))), ((24, 0), some (.row 68 2 ((openRows cols_68 (List.map eTNode r134)).set 0 [.d (.int .i64 x158.Start), .own (36, 0) x158.States.length]))), ((36, 0), some (.row 86 4 (openRows cols_86 (List.map eTState x158.States))))]
  obtain ⟨x160, hx161a, hx161b, hx161c, hx161d, hD⟩ := aN 0 hD
  refine qs 44 [] [1, 2, 3, 4, 6, 7, 8] [(4, 0), (12, 0), (23, 0), (24, 0), (36, 0)] h fun ac wd h => ?_
  have h := h.fS (cols := cols_86) (24, 0) (36, 0) (openRows cols_68 (List.map eTNode r134)) 0 [.d (.int .i64 x158.Start), .own (36, 0) x158.States.length] 1 (List.map eTState (x158.States.set 0 (TState.mk 0 x160.Waits x160.Picks x160.Takes))) (sc_86 _)
  have h := h.sm 44 [(1, .one (.d (.sl (List.map eTNode r134)))), (2, .one (.ptr (4, 0) 0)), (3, .one (.ptr (12, 0) 0)), (4, .one (.d (.bool r140.2))), (6, .one (.d (.bool r144.2))), (7, .one (.own (23, 0) r134.length)), (8, .one (.own (24, 0) r134.length))]
    [((4, 0), some (.box 24 [.d (.int .i64 r136.N), .d (.sl (List.map eA2I r136.Links))])), ((12, 0), some (.box 74 [.d (.int .i64 r140.1.Next), .d (.sl (List.map eTSend r140.1.Sends))])), ((23, 0), some (.row 68 2 (openRows cols_68 (List.map eTNode (r134.set 1 (TNode.mk x150.Start (x150.States.set 0 (TState.mk x152.Mode [1] x152.Picks x152.Takes)))))))), ((24, 0), some (.row 68 2 ((openRows cols_68 (List.map eTNode r134)).set 0 [.d (.int .i64 x158.Start), .tr (.sl 86 4 cols_86) (.sl (List.map eTState (x158.States.set 0 (TState.mk 0 x160.Waits x160.Picks x160.Takes))))])))]
  obtain ⟨r209, hc210, hD⟩ := oB hD
  obtain ⟨hb211, hD⟩ := iT hD
  obtain ⟨r212, hc213, hD⟩ := oB hD
  obtain ⟨r214, hc215, hD⟩ := oB hD
  obtain ⟨hb216, hD⟩ := iFb hD
  obtain ⟨r256, hc257, hD⟩ := oB hD
  obtain ⟨hb258, hD⟩ := iFb hD
  obtain ⟨r295, hc296, hD⟩ := oB hD
  obtain ⟨hb297, hD⟩ := iFb hD
  obtain ⟨r331, hc332, hD⟩ := oB hD
  obtain ⟨hb333, hD⟩ := iFb hD
  obtain ⟨r364, hc365, hD⟩ := oB hD
  obtain ⟨hb366, hD⟩ := iTe hD
  obtain ⟨r367, hc368, hD⟩ := oB hD
  obtain ⟨hb369, hD⟩ := iTe hD
  obtain ⟨r370, hc371, hD⟩ := oB hD
  obtain ⟨hb372, hD⟩ := iTe hD
  obtain ⟨r373, hc374, hD⟩ := oB hD
  obtain ⟨r375, hc376, hD⟩ := oB hD
  obtain ⟨hb377, hD⟩ := iT hD
  obtain ⟨r378, hc379, hD⟩ := oB hD
  obtain ⟨hb380, hD⟩ := iTe hD
  obtain ⟨hb381, hD⟩ := iT hD
  obtain ⟨hb382, hD⟩ := iTe hD
  obtain ⟨hb383, hD⟩ := iTe hD
  obtain ⟨hb384, hD⟩ := iFb hD
  obtain ⟨r394, hc395, hD⟩ := oB hD
  obtain ⟨hb396, hD⟩ := iTe hD
  obtain ⟨r397, hc398, hD⟩ := oB hD
  obtain ⟨hb399, hD⟩ := iTe hD
  obtain ⟨r400, hc401, hD⟩ := oB hD
  obtain ⟨hb402, hD⟩ := iTe hD
  have hc210k := L_table_Right_ok hc210
  have hc213k := L_graph_Full_ok hc213
  have hc215k := L_table_Right_ok hc215
  have hc257k := L_table_Right_ok hc257
  have hc296k := L_table_Right_ok hc296
  have hc332k := L_table_Right_ok hc332
  have hc365k := L_table_Mode_ok hc365
  have hc368k := L_table_Mode_ok hc368
  have hc371k := L_table_Mode_ok hc371
  have hc374k := L_table_Waits_ok hc374
  have hc376k := L_ref01_Ints_ok hc376
  have hc379k := L_table_Waits_ok hc379
  have hc395k := L_table_Taken_ok hc395
  have hc398k := L_table_Taken_ok hc398
  have hc401k := L_table_Taken_ok hc401
  refine qsg 133 [factE 46 hc210k, factE 49 hc213k, factE 50 hc215k, factE 55 hc257k, factE 61 hc296k, factE 67 hc332k, factE 72 hc365k, factE 77 hc368k, factE 82 hc371k, factE 87 hc374k, factE 89 hc376k, factE 93 hc379k, factE 117 hc395k, factE 122 hc398k, factE 127 hc401k] [none, none, none, none, some (some 39, true), some (some 39, true), some (some 39, true), some (some 39, true), none, none, some (some 45, true), some (some 45, true), some (some 45, true), none, none, some (some 50, true), some (some 50, true), some (some 50, true), some (some 50, true), none, none, some (some 56, true), some (some 56, true), some (some 56, true), some (some 56, true), none, none, some (some 62, true), some (some 62, true), some (some 62, true), none, none, some (some 67, true), some (some 67, true), some (some 67, true), none, none, some (some 72, true), some (some 72, true), some (some 72, true), none, none, some (some 77, true), some (some 77, true), some (some 77, true), some (some 77, true), none, none, some (some 83, true), some (some 83, true), some (some 83, true), some (some 83, true), none, none, some (some 89, true), none, none, some (some 92, true), some (some 92, true), some (some 92, true), none, none, some (some 97, true), some (some 97, true), some (some 97, true), some (some 97, true), none, none, some (some 103, true), some (some 103, true), none, none, some (some 107, true), some (some 107, true), some (some 107, true), none, none, some (some 112, true), some (some 112, true), some (some 112, true), none, none, some (some 117, true), some (some 117, true), some (some 117, true), none, none, none, none] [0] [] h fun ac wd h => ?_
  refine wp_ret ?_
  injection hD with hD
  subst hD
  exact rE h [.tmp 0]

end Go.Proofs.Ytkfahinbpmhcgaa
