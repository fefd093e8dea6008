/- Functions as typed ones, and that the program's functions answer as these do. No condition. -/
import Derived.Test.YteohodhcegbmmaaGb1
set_option linter.unusedSimpArgs false
set_option linter.unusedVariables false
namespace Go.Proofs.Yteohodhcegbmmaa
open Go.RowKit

set_option maxRecDepth 20000 in
set_option maxHeartbeats 4000000 in
theorem L_ref01_Ints_ok {a0 : (List Int)} {a1 : (List Int)} {r : Bool} (hD : L_ref01_Ints a0 a1 = some r) :
    CallH Try.prog 18 [.one (.d (.sl (List.map eI a0))), .one (.d (.sl (List.map eI a1)))] []
      (.one (.d (.bool r))) [] := by
  unfold L_ref01_Ints at hD
  refine r_call Try.func18 rfl Try.ntmps18 (by kernel_rfl) (by rfl) (by rfl) (by simp) fun S Φ P0 wb ac h => ?_
  refine rs_plain 2 [] [none] [0, 1] [] h rfl rfl (by simp only [EX, simprocAttr, Nat.blt, Nat.ble, tz_4] <;> rfl) fun ac wd h => ?_
  refine wp_seq ?_
  refine rs_plain 7 [] [none, none, none, none, none] [0, 1, 10] [] h rfl rfl (by simp only [EX, simprocAttr, Nat.blt, Nat.ble, tz_3, tz_4, tz_35] <;> rfl) fun ac wd h => ?_
  by_cases hb131 : (a0.length : Int) = (a1.length : Int)
  · rw [if_pos hb131] at hD
    have hb131t := eq_true hb131
    refine r_condF h (!(decide ((a0.length : Int) = (a1.length : Int)))) (by simp only [EX, simprocAttr, Nat.blt, Nat.ble, hb131t] <;> rfl) (by first | rfl | (simp only [EX, simprocAttr, Nat.blt, Nat.ble, hb131t] <;> rfl)) ?_
    refine wp_skip ?_
    change Code.wp Try.prog _ _ _ _
    refine wp_seq ?_
    refine rs_plain 8 [] [none] [0, 1, 5] [] h rfl rfl (by simp only [EX, simprocAttr, Nat.blt, Nat.ble, tz_3, hb131t] <;> rfl) fun ac wd h => ?_
    refine wp_block ?_
    have h := h.same [0, 1, 5] [] 40 [(0, .one (.d (.sl (List.map eI a0)))), (1, .one (.d (.sl (List.map eI a1)))), (5, .one (.d (.int .i64 0)))]
      []
      (by simp only [EX, simprocAttr, Nat.blt, Nat.ble, hb131t] <;> rfl)
    refine r_while (fun nf ac wd => ∃ (n235 : Int), L_ref01_Ints_l1 a0 a1 nf n235 = some r ∧ SL ⟨wb, S, Φ, P0⟩ 26 40 [(0, .one (.d (.sl (List.map eI a0)))), (1, .one (.d (.sl (List.map eI a1)))), (5, .one (.d (.int .i64 n235)))] [] ac wd) (((a0.length : Int) - 0).toNat + 1) ⟨0, hD, h⟩ (fun nf ac wd hJ => ?_)
    obtain ⟨n235, hL236, h⟩ := hJ
    cases nf with
    | zero => rw [L_ref01_Ints_l1] at hL236; cases hL236
    | succ nf =>
      rw [L_ref01_Ints_l1] at hL236
      refine wp_seq ?_
      refine rs_plain 44 [] [none, none, none, none] [0, 1, 5, 14] [] h rfl rfl (by simp only [EX, simprocAttr, Nat.blt, Nat.ble, tz_3, tz_4, tz_35, hb131t] <;> rfl) fun ac wd h => ?_
      by_cases hb238 : n235 < (a0.length : Int)
      · rw [if_pos hb238] at hL236
        refine r_condT h (decide (n235 < (a0.length : Int))) (by simp only [EX, simprocAttr, Nat.blt, Nat.ble, hb131t, hb238] <;> rfl) (by first | rfl | (simp only [EX, simprocAttr, Nat.blt, Nat.ble, hb131t, hb238] <;> rfl)) ?_
        refine wp_skip ?_
        change Code.wp Try.prog _ _ _ _
        refine wp_seq ?_
        refine wp_block ?_
        obtain ⟨x252, hx253, hL236⟩ := Option.bind_eq_some_iff.1 hL236
        obtain ⟨hx253a, hx253b, hx253c⟩ := at_some hx253
        have hx253d := (List.getElem?_eq_some_iff.1 hx253b).1
        obtain ⟨x254, hx255, hL236⟩ := Option.bind_eq_some_iff.1 hL236
        obtain ⟨hx255a, hx255b, hx255c⟩ := at_some hx255
        have hx255d := (List.getElem?_eq_some_iff.1 hx255b).1
        refine rs_drawn 53 ty_hm [] [none, none, none, none, none, none, none, none, none] [0, 1, 5, 25] [] h rfl rfl (by simp only [EX, simprocAttr, Nat.blt, Nat.ble, tz_3, tz_4, tz_35, hb131t, hb238, hx253a, hx253b, hx253c, hx253d, hx255a, hx255b, hx255c, hx255d] <;> rfl) (by kernel_rfl) fun ac wd h => ?_
        by_cases hb256 : x252 = x254
        · rw [if_pos hb256] at hL236
          have hb256t := eq_true hb256
          refine r_condF h (!(decide (x252 = x254))) (by simp only [EX, simprocAttr, Nat.blt, Nat.ble, hb131t, hb238, hb256t] <;> rfl) (by first | rfl | (simp only [EX, simprocAttr, Nat.blt, Nat.ble, hb131t, hb238, hb256t] <;> rfl)) ?_
          refine wp_skip ?_
          change Code.wp Try.prog _ _ _ _
          refine r_plain [] [none, none, none] [0, 1, 5] [] h rfl (by simp only [EX, simprocAttr, Nat.blt, Nat.ble, tz_3, hb131t, hb238, hb256t] <;> rfl) fun ac wd h => ?_
          have h := h.same [0, 1, 5] [] 40 [(0, .one (.d (.sl (List.map eI a0)))), (1, .one (.d (.sl (List.map eI a1)))), (5, .one (.d (.int .i64 (IntKind.wrap .i64 (n235 + 1)))))]
            []
            (by simp only [EX, simprocAttr, Nat.blt, Nat.ble, hb131t, hb238, hx253a, hx253b, hx253c, hx253d, hx255a, hx255b, hx255c, hx255d, hb256t] <;> rfl)
          change ∃ n', _ ∧ _
          exact ⟨nf, Nat.lt_succ_self nf, (IntKind.wrap .i64 (n235 + 1)), hL236, h⟩
        · rw [if_neg hb256] at hL236
          refine r_condT h (!(decide (x252 = x254))) (by simp only [EX, simprocAttr, Nat.blt, Nat.ble, hb131t, hb238, hb256] <;> rfl) (by first | rfl | (simp only [EX, simprocAttr, Nat.blt, Nat.ble, hb131t, hb238, hb256] <;> rfl)) ?_
          refine rs_plain 54 [] [none] [4] [] h rfl rfl (by simp only [EX, simprocAttr, Nat.blt, Nat.ble, tz_4, hb131t, hb238, hb256] <;> rfl) fun ac wd h => ?_
          refine wp_ret ?_
          injection hL236 with hL236
          subst hL236
          exact r_retE rfl h [.tmp 4] rfl (by simp only [retD, List.mapM_cons, List.mapM_nil, Option.bind_eq_bind, Option.pure_def, EX, simprocAttr, Nat.blt, Nat.ble, hb131t, hb238, hb256] <;> rfl)
      · rw [if_neg hb238] at hL236
        refine r_condF h (decide (n235 < (a0.length : Int))) (by simp only [EX, simprocAttr, Nat.blt, Nat.ble, hb131t, hb238] <;> rfl) (by first | rfl | (simp only [EX, simprocAttr, Nat.blt, Nat.ble, hb131t, hb238] <;> rfl)) ?_
        refine wp_exit ?_
        change Code.wp Try.prog _ _ _ _
        refine rs_plain 45 [] [none] [4] [] h rfl rfl (by simp only [EX, simprocAttr, Nat.blt, Nat.ble, tz_4, hb131t, hb238] <;> rfl) fun ac wd h => ?_
        refine wp_ret ?_
        injection hL236 with hL236
        subst hL236
        exact r_retE rfl h [.tmp 4] rfl (by simp only [retD, List.mapM_cons, List.mapM_nil, Option.bind_eq_bind, Option.pure_def, EX, simprocAttr, Nat.blt, Nat.ble, hb131t, hb238] <;> rfl)
  · rw [if_neg hb131] at hD
    refine r_condT h (!(decide ((a0.length : Int) = (a1.length : Int)))) (by simp only [EX, simprocAttr, Nat.blt, Nat.ble, hb131] <;> rfl) (by first | rfl | (simp only [EX, simprocAttr, Nat.blt, Nat.ble, hb131] <;> rfl)) ?_
    refine rs_plain 8 [] [none] [4] [] h rfl rfl (by simp only [EX, simprocAttr, Nat.blt, Nat.ble, tz_4, hb131] <;> rfl) fun ac wd h => ?_
    refine wp_ret ?_
    injection hD with hD
    subst hD
    exact r_retE rfl h [.tmp 4] rfl (by simp only [retD, List.mapM_cons, List.mapM_nil, Option.bind_eq_bind, Option.pure_def, EX, simprocAttr, Nat.blt, Nat.ble, hb131] <;> rfl)

set_option maxRecDepth 20000 in
set_option maxHeartbeats 4000000 in
theorem L_graph_of_v2_own {a0 : TGraph} {a1 : Int} {r : (List Int)} (hD : L_graph_of_v2 a0 a1 = some r) :
    CallH Try.prog 32 [.agg [.d (.int .i64 a0.N), .d (.sl (List.map eA2I a0.Links))], .one (.d (.int .i64 a1)), .one (.d (.int .i64 1))] []
      (.one (.own (1, 0) r.length)) [((1, 0), some (.row 3 1 (dat (List.map eI r))))] := by
  unfold L_graph_of_v2 at hD
  refine r_call Try.func32 rfl Try.ntmps32 (by kernel_rfl) (by rfl) (by simp only [shutB, EX, simprocAttr, Nat.blt, Nat.ble] <;> rfl) (by simp) fun S Φ P0 wb ac h => ?_
  refine rs_plain 3 [] [none, none] [1, 2, 3] [(1, 0)] h rfl rfl (by simp only [EX, simprocAttr, Nat.blt, Nat.ble, tz_3, tz_24, tz_35] <;> rfl) fun ac wd h => ?_
  refine rs_plain 4 [] [none] [1, 2, 3, 7] [(1, 0)] h rfl rfl (by simp only [EX, simprocAttr, Nat.blt, Nat.ble, tz_3, tz_35] <;> rfl) fun ac wd h => ?_
  refine wp_seq ?_
  refine rs_plain 8 [] [none, none, none, none] [1, 2, 7, 11, 12, 13] [] h rfl rfl (by simp only [EX, simprocAttr, Nat.blt, Nat.ble, tz_3, tz_22, tz_24, tz_43] <;> rfl) fun ac wd h => ?_
  refine wp_block ?_
  have h := SL.bornS h 7 3 1 (by simp only [EX, simprocAttr, Nat.blt, Nat.ble] <;> rfl)
  have h := h.same [1, 2, 7, 11, 12, 13] [(8, 0)] 46 [(1, .one (.d (.int .i64 a1))), (2, .one (.d (.int .i64 1))), (7, .one (.own (8, 0) ([] : List Int).length)), (11, .one (.d (.sl (List.map eA2I a0.Links)))), (12, .one (.d (.int .i64 (a0.Links.length : Int)))), (13, .one (.d (.int .i64 0)))]
    [((8, 0), some (.row 3 1 (dat (List.map eI ([] : List Int)))))]
    (by simp only [EX, simprocAttr, Nat.blt, Nat.ble] <;> rfl)
  refine r_while (fun nf ac wd => ∃ (n197 : Int) (l198 : List Int), L_graph_of_v2_l1 a0 a1 nf n197 l198 = some r ∧ SL ⟨wb, S, Φ, P0⟩ 29 46 [(1, .one (.d (.int .i64 a1))), (2, .one (.d (.int .i64 1))), (7, .one (.own (8, 0) l198.length)), (11, .one (.d (.sl (List.map eA2I a0.Links)))), (12, .one (.d (.int .i64 (a0.Links.length : Int)))), (13, .one (.d (.int .i64 n197)))] [((8, 0), some (.row 3 1 (dat (List.map eI l198))))] ac wd) (((a0.Links.length : Int) - 0).toNat + 1) ⟨0, ([] : List Int), hD, h⟩ (fun nf ac wd hJ => ?_)
  obtain ⟨n197, l198, hL199, h⟩ := hJ
  cases nf with
  | zero => rw [L_graph_of_v2_l1] at hL199; cases hL199
  | succ nf =>
    rw [L_graph_of_v2_l1] at hL199
    refine rs_plain 47 [] [none] [1, 2, 7, 11, 12, 13, 14] [(8, 0)] h rfl rfl (by simp only [EX, simprocAttr, Nat.blt, Nat.ble, tz_3] <;> rfl) fun ac wd h => ?_
    refine wp_seq ?_
    by_cases hb201 : n197 < (a0.Links.length : Int)
    · rw [if_pos hb201] at hL199
      refine r_condT h (decide (n197 < (a0.Links.length : Int))) (by simp only [EX, simprocAttr, Nat.blt, Nat.ble, hb201] <;> rfl) (by first | rfl | (simp only [EX, simprocAttr, Nat.blt, Nat.ble, hb201] <;> rfl)) ?_
      refine wp_skip ?_
      change Code.wp Try.prog _ _ _ _
      obtain ⟨e209, hE210, hL199⟩ := Option.bind_eq_some_iff.1 hL199
      refine r_seqJ (fun ac wd => ∃ (l208 : List Int), l208 = e209 ∧ SL ⟨wb, S, Φ, P0⟩ 29 63 [(1, .one (.d (.int .i64 a1))), (2, .one (.d (.int .i64 1))), (7, .one (.own (61, 0) l208.length)), (11, .one (.d (.sl (List.map eA2I a0.Links)))), (12, .one (.d (.int .i64 (a0.Links.length : Int)))), (13, .one (.d (.int .i64 n197)))] [((61, 0), some (.row 3 1 (dat (List.map eI l208))))] ac wd) ?_ ?_
      · skip
        refine wp_block ?_
        obtain ⟨x213, hx214, hE210⟩ := Option.bind_eq_some_iff.1 hE210
        obtain ⟨hx214a, hx214b, hx214c⟩ := at_some hx214
        have hx214d := (List.getElem?_eq_some_iff.1 hx214b).1
        refine rs_plain 53 [] [none, none, none, none, none, none] [1, 2, 7, 8, 9, 11, 12, 13] [(8, 0), (50, 0)] h rfl rfl (by simp only [EX, simprocAttr, Nat.blt, Nat.ble, tz_3, tz_22, tz_43, hb201, hx214a, hx214b, hx214c, hx214d] <;> rfl) fun ac wd h => ?_
        refine rs_plain 58 [] [none, none, none, none, none] [1, 2, 7, 8, 11, 12, 13, 22] [(8, 0)] h rfl rfl (by simp only [EX, simprocAttr, Nat.blt, Nat.ble, tz_3, tz_4, tz_43, hb201] <;> rfl) fun ac wd h => ?_
        by_cases hb215 : x213.a1 = a1
        · rw [if_pos hb215] at hE210
          have hb215t := eq_true hb215
          refine r_condT h (decide (x213.a1 = a1)) (by simp only [EX, simprocAttr, Nat.blt, Nat.ble, hb201, hb215t] <;> rfl) (by first | rfl | (simp only [EX, simprocAttr, Nat.blt, Nat.ble, hb201, hb215t] <;> rfl)) ?_
          by_cases ha216 : (l198.length + 1) * 8 ≤ 140737488355328
          case neg => rw [if_neg ha216] at hE210; cases hE210
          rw [if_pos ha216] at hE210
          refine r_plain [] [none, none, none, none, none] [1, 2, 7, 11, 12, 13] [(61, 0)] h rfl (by simp only [EX, simprocAttr, Nat.blt, Nat.ble, tz_3, tz_35, hb201, hb215t, ha216] <;> rfl) fun ac wd h => ?_
          have h := h.same [1, 2, 7, 11, 12, 13] [(61, 0)] 63 [(1, .one (.d (.int .i64 a1))), (2, .one (.d (.int .i64 1))), (7, .one (.own (61, 0) (l198 ++ [n197]).length)), (11, .one (.d (.sl (List.map eA2I a0.Links)))), (12, .one (.d (.int .i64 (a0.Links.length : Int)))), (13, .one (.d (.int .i64 n197)))]
            [((61, 0), some (.row 3 1 (dat (List.map eI (l198 ++ [n197])))))]
            (by simp only [EX, simprocAttr, Nat.blt, Nat.ble, hb201, hx214a, hx214b, hx214c, hx214d, hb215t, ha216] <;> rfl)
          injection hE210 with hE210
          exact ⟨(l198 ++ [n197]), hE210, h⟩
        · rw [if_neg hb215] at hE210
          refine r_condF h (decide (x213.a1 = a1)) (by simp only [EX, simprocAttr, Nat.blt, Nat.ble, hb201, hb215] <;> rfl) (by first | rfl | (simp only [EX, simprocAttr, Nat.blt, Nat.ble, hb201, hb215] <;> rfl)) ?_
          refine wp_skip ?_
          have h := SL.swap h (61, 0) (8, 0) 63 (by decide) (by decide) (by simp only [EX, simprocAttr, Nat.blt, Nat.ble, hb201, hx214a, hx214b, hx214c, hx214d, hb215, e_ren3, fren, mren, AV.ren, AObj.ren, Cell.ren, sumRen, Upd.ren, swp, csw, dat_ren, opn_ren] <;> rfl) (by simp only [EX, simprocAttr, Nat.blt, Nat.ble, hb201, hx214a, hx214b, hx214c, hx214d, hb215, e_ren3, fren, mren, AV.ren, AObj.ren, Cell.ren, sumRen, Upd.ren, swp, csw, dat_ren, opn_ren] <;> rfl) (by simp only [EX, simprocAttr, Nat.blt, Nat.ble, hb201, hx214a, hx214b, hx214c, hx214d, hb215, e_ren3, fren, mren, AV.ren, AObj.ren, Cell.ren, sumRen, Upd.ren, swp, csw, dat_ren, opn_ren] <;> rfl)
          have h := h.same [1, 2, 7, 11, 12, 13] [(61, 0)] 63 [(1, .one (.d (.int .i64 a1))), (2, .one (.d (.int .i64 1))), (7, .one (.own (61, 0) l198.length)), (11, .one (.d (.sl (List.map eA2I a0.Links)))), (12, .one (.d (.int .i64 (a0.Links.length : Int)))), (13, .one (.d (.int .i64 n197)))]
            [((61, 0), some (.row 3 1 (dat (List.map eI l198))))]
            (by simp only [EX, simprocAttr, Nat.blt, Nat.ble, hb201, hx214a, hx214b, hx214c, hx214d, hb215] <;> rfl)
          injection hE210 with hE210
          exact ⟨l198, hE210, h⟩
      · skip
        rintro ac wd ⟨l208, rfl, h⟩
        (try dsimp only at hL199)
        refine r_plain [] [none, none] [1, 2, 7, 11, 12, 13] [(61, 0)] h rfl (by simp only [EX, simprocAttr, Nat.blt, Nat.ble, tz_3, hb201] <;> rfl) fun ac wd h => ?_
        have h := SL.swap h (8, 0) (61, 0) 65 (by decide) (by decide) (by simp only [EX, simprocAttr, Nat.blt, Nat.ble, hb201, e_ren3, fren, mren, AV.ren, AObj.ren, Cell.ren, sumRen, Upd.ren, swp, csw, dat_ren, opn_ren] <;> rfl) (by simp only [EX, simprocAttr, Nat.blt, Nat.ble, hb201, e_ren3, fren, mren, AV.ren, AObj.ren, Cell.ren, sumRen, Upd.ren, swp, csw, dat_ren, opn_ren] <;> rfl) (by simp only [EX, simprocAttr, Nat.blt, Nat.ble, hb201, e_ren3, fren, mren, AV.ren, AObj.ren, Cell.ren, sumRen, Upd.ren, swp, csw, dat_ren, opn_ren] <;> rfl)
        have h := h.same [1, 2, 7, 11, 12, 13] [(8, 0)] 46 [(1, .one (.d (.int .i64 a1))), (2, .one (.d (.int .i64 1))), (7, .one (.own (8, 0) l208.length)), (11, .one (.d (.sl (List.map eA2I a0.Links)))), (12, .one (.d (.int .i64 (a0.Links.length : Int)))), (13, .one (.d (.int .i64 (IntKind.wrap .i64 (n197 + 1)))))]
          [((8, 0), some (.row 3 1 (dat (List.map eI l208))))]
          (by simp only [EX, simprocAttr, Nat.blt, Nat.ble, hb201] <;> rfl)
        change ∃ n', _ ∧ _
        exact ⟨nf, Nat.lt_succ_self nf, (IntKind.wrap .i64 (n197 + 1)), l208, hL199, h⟩
    · rw [if_neg hb201] at hL199
      refine r_condF h (decide (n197 < (a0.Links.length : Int))) (by simp only [EX, simprocAttr, Nat.blt, Nat.ble, hb201] <;> rfl) (by first | rfl | (simp only [EX, simprocAttr, Nat.blt, Nat.ble, hb201] <;> rfl)) ?_
      refine wp_exit ?_
      change Code.wp Try.prog _ _ _ _
      refine rs_plain 49 [] [none, none] [6] [(8, 0)] h rfl rfl (by simp only [EX, simprocAttr, Nat.blt, Nat.ble, tz_3, tz_35, hb201] <;> rfl) fun ac wd h => ?_
      refine wp_ret ?_
      have h := h.same [6] [(8, 0)] 49 [(6, .one (.own (8, 0) l198.length))]
        [((8, 0), some (.row 3 1 (dat (List.map eI l198))))]
        (by simp only [EX, simprocAttr, Nat.blt, Nat.ble, hb201, dat_open] <;> rfl)
      have h := SL.swap h (1, 0) (8, 0) 49 (by decide) (by decide) (by simp only [EX, simprocAttr, Nat.blt, Nat.ble, hb201, e_ren3, fren, mren, AV.ren, AObj.ren, Cell.ren, sumRen, Upd.ren, swp, csw, dat_ren, opn_ren] <;> rfl) (by simp only [EX, simprocAttr, Nat.blt, Nat.ble, hb201, e_ren3, fren, mren, AV.ren, AObj.ren, Cell.ren, sumRen, Upd.ren, swp, csw, dat_ren, opn_ren] <;> rfl) (by simp only [EX, simprocAttr, Nat.blt, Nat.ble, hb201, e_ren3, fren, mren, AV.ren, AObj.ren, Cell.ren, sumRen, Upd.ren, swp, csw, dat_ren, opn_ren] <;> rfl)
      have h := h.same [6] [(1, 0)] 49 [(6, .one (.own (1, 0) l198.length))]
        [((1, 0), some (.row 3 1 (dat (List.map eI l198))))]
        (by simp only [EX, simprocAttr, Nat.blt, Nat.ble, hb201, dat_open] <;> rfl)
      injection hL199 with hL199
      subst hL199
      exact r_retO rfl h [.tmp 6] rfl [(1, 0)] (by simp only [retO, List.mapM_cons, List.mapM_nil, Option.bind_eq_bind, Option.pure_def, EX, simprocAttr, Nat.blt, Nat.ble, hb201] <;> rfl)
theorem L_graph_of_v2_ok {a0 : TGraph} {a1 : Int} {r : (List Int)} (hD : L_graph_of_v2 a0 a1 = some r) :
    CallH Try.prog 32 [.agg [.d (.int .i64 a0.N), .d (.sl (List.map eA2I a0.Links))], .one (.d (.int .i64 a1)), .one (.d (.int .i64 1))] []
      (.one (.d (.sl (List.map eI r)))) [] :=
  (L_graph_of_v2_own hD).frz (by simp only [EX, simprocAttr, Nat.blt, Nat.ble] <;> rfl) (by simp only [frzA, frzSum, EX, simprocAttr, Nat.blt, Nat.ble] <;> rfl) rfl

set_option maxRecDepth 20000 in
set_option maxHeartbeats 4000000 in
theorem L_graph_In_own {a0 : TGraph} {a1 : Int} {r : (List Int)} (hD : L_graph_In a0 a1 = some r) :
    CallH Try.prog 21 [.agg [.d (.int .i64 a0.N), .d (.sl (List.map eA2I a0.Links))], .one (.d (.int .i64 a1))] []
      (.one (.own (1, 0) r.length)) [((1, 0), some (.row 3 1 (dat (List.map eI r))))] := by
  unfold L_graph_In at hD
  refine r_call Try.func21 rfl Try.ntmps21 (by kernel_rfl) (by rfl) (by simp only [shutB, EX, simprocAttr, Nat.blt, Nat.ble] <;> rfl) (by simp) fun S Φ P0 wb ac h => ?_
  refine rs_plain 3 [] [none, none] [1, 2] [(1, 0)] h rfl rfl (by simp only [EX, simprocAttr, Nat.blt, Nat.ble, tz_3, tz_24, tz_35] <;> rfl) fun ac wd h => ?_
  obtain ⟨r7, hc8, hD⟩ := Option.bind_eq_some_iff.1 hD
  have hc8_5 : CallH Try.prog 32 [.agg [.d (.int .i64 a0.N), .d (.sl (List.map eA2I a0.Links))], .one (.d (.int .i64 a1)), .one (.d (.int .i64 1))] [] (.one (.own (5, 0) r7.length)) [((5, 0), some (.row 3 1 (dat (List.map eI r7))))] := ((L_graph_of_v2_own hc8).cls 5).as (by simp only [EX, simprocAttr, Nat.blt, Nat.ble, e_ren3, fren, mren, AV.ren, AObj.ren, Cell.ren, sumRen, Upd.ren, swp, csw, dat_ren, opn_ren] <;> rfl)
  refine rs_plain 7 [factO hc8_5] [none, none, none, none] [4] [(5, 0)] h rfl rfl (by simp only [EX, simprocAttr, Nat.blt, Nat.ble, tz_3, tz_24, tz_35] <;> rfl) fun ac wd h => ?_
  refine wp_ret ?_
  have h := h.same [4] [(5, 0)] 7 [(4, .one (.own (5, 0) r7.length))]
    [((5, 0), some (.row 3 1 (dat (List.map eI r7))))]
    (by simp only [EX, simprocAttr, Nat.blt, Nat.ble, dat_open] <;> rfl)
  have h := SL.swap h (1, 0) (5, 0) 7 (by decide) (by decide) (by simp only [EX, simprocAttr, Nat.blt, Nat.ble, e_ren3, fren, mren, AV.ren, AObj.ren, Cell.ren, sumRen, Upd.ren, swp, csw, dat_ren, opn_ren] <;> rfl) (by simp only [EX, simprocAttr, Nat.blt, Nat.ble, e_ren3, fren, mren, AV.ren, AObj.ren, Cell.ren, sumRen, Upd.ren, swp, csw, dat_ren, opn_ren] <;> rfl) (by simp only [EX, simprocAttr, Nat.blt, Nat.ble, e_ren3, fren, mren, AV.ren, AObj.ren, Cell.ren, sumRen, Upd.ren, swp, csw, dat_ren, opn_ren] <;> rfl)
  have h := h.same [4] [(1, 0)] 7 [(4, .one (.own (1, 0) r7.length))]
    [((1, 0), some (.row 3 1 (dat (List.map eI r7))))]
    (by simp only [EX, simprocAttr, Nat.blt, Nat.ble, dat_open] <;> rfl)
  injection hD with hD
  subst hD
  exact r_retO rfl h [.tmp 4] rfl [(1, 0)] (by simp only [retO, List.mapM_cons, List.mapM_nil, Option.bind_eq_bind, Option.pure_def, EX, simprocAttr, Nat.blt, Nat.ble] <;> rfl)
theorem L_graph_In_ok {a0 : TGraph} {a1 : Int} {r : (List Int)} (hD : L_graph_In a0 a1 = some r) :
    CallH Try.prog 21 [.agg [.d (.int .i64 a0.N), .d (.sl (List.map eA2I a0.Links))], .one (.d (.int .i64 a1))] []
      (.one (.d (.sl (List.map eI r)))) [] :=
  (L_graph_In_own hD).frz (by simp only [EX, simprocAttr, Nat.blt, Nat.ble] <;> rfl) (by simp only [frzA, frzSum, EX, simprocAttr, Nat.blt, Nat.ble] <;> rfl) rfl

set_option maxRecDepth 20000 in
set_option maxHeartbeats 4000000 in
theorem L_graph_Find_ok {a0 : TGraph} {a1 : Int} {a2 : Int} {r : Int} (hD : L_graph_Find a0 a1 a2 = some r) :
    CallH Try.prog 23 [.agg [.d (.int .i64 a0.N), .d (.sl (List.map eA2I a0.Links))], .one (.d (.int .i64 a1)), .one (.d (.int .i64 a2))] []
      (.one (.d (.int .i64 r))) [] := by
  unfold L_graph_Find at hD
  refine r_call Try.func23 rfl Try.ntmps23 (by kernel_rfl) (by rfl) (by rfl) (by simp) fun S Φ P0 wb ac h => ?_
  refine rs_plain 3 [] [none, none] [1, 2, 3] [(1, 0)] h rfl rfl (by simp only [EX, simprocAttr, Nat.blt, Nat.ble, tz_3, tz_24] <;> rfl) fun ac wd h => ?_
  refine rs_plain 8 [] [none, none, none, none, none] [3, 7] [(1, 0), (6, 0)] h rfl rfl (by simp only [EX, simprocAttr, Nat.blt, Nat.ble, tz_3, tz_43] <;> rfl) fun ac wd h => ?_
  refine wp_seq ?_
  refine rs_plain 12 [] [none, none, none, none] [7, 14, 15, 16] [(6, 0)] h rfl rfl (by simp only [EX, simprocAttr, Nat.blt, Nat.ble, tz_3, tz_22, tz_24, tz_43] <;> rfl) fun ac wd h => ?_
  refine wp_block ?_
  have h := h.same [7, 14, 15, 16] [(6, 0)] 36 [(7, .one (.ptr (6, 0) 0)), (14, .one (.d (.sl (List.map eA2I a0.Links)))), (15, .one (.d (.int .i64 (a0.Links.length : Int)))), (16, .one (.d (.int .i64 0)))]
    [((6, 0), some (.box 43 [.d (.int .i64 a1), .d (.int .i64 a2)]))]
    (by simp only [EX, simprocAttr, Nat.blt, Nat.ble] <;> rfl)
  refine r_while (fun nf ac wd => ∃ (n143 : Int), L_graph_Find_l1 a0 a1 a2 nf n143 = some r ∧ SL ⟨wb, S, Φ, P0⟩ 26 36 [(7, .one (.ptr (6, 0) 0)), (14, .one (.d (.sl (List.map eA2I a0.Links)))), (15, .one (.d (.int .i64 (a0.Links.length : Int)))), (16, .one (.d (.int .i64 n143)))] [((6, 0), some (.box 43 [.d (.int .i64 a1), .d (.int .i64 a2)]))] ac wd) (((a0.Links.length : Int) - 0).toNat + 1) ⟨0, hD, h⟩ (fun nf ac wd hJ => ?_)
  obtain ⟨n143, hL144, h⟩ := hJ
  cases nf with
  | zero => rw [L_graph_Find_l1] at hL144; cases hL144
  | succ nf =>
    rw [L_graph_Find_l1] at hL144
    refine rs_plain 37 [] [none] [7, 14, 15, 16, 17] [(6, 0)] h rfl rfl (by simp only [EX, simprocAttr, Nat.blt, Nat.ble, tz_3] <;> rfl) fun ac wd h => ?_
    refine wp_seq ?_
    by_cases hb146 : n143 < (a0.Links.length : Int)
    · rw [if_pos hb146] at hL144
      refine r_condT h (decide (n143 < (a0.Links.length : Int))) (by simp only [EX, simprocAttr, Nat.blt, Nat.ble, hb146] <;> rfl) (by first | rfl | (simp only [EX, simprocAttr, Nat.blt, Nat.ble, hb146] <;> rfl)) ?_
      refine wp_skip ?_
      change Code.wp Try.prog _ _ _ _
      refine wp_seq ?_
      refine wp_block ?_
      obtain ⟨x154, hx155, hL144⟩ := Option.bind_eq_some_iff.1 hL144
      obtain ⟨hx155a, hx155b, hx155c⟩ := at_some hx155
      have hx155d := (List.getElem?_eq_some_iff.1 hx155b).1
      refine rs_plain 43 [] [none, none, none, none, none, none] [7, 8, 9, 14, 15, 16] [(6, 0), (40, 0)] h rfl rfl (by simp only [EX, simprocAttr, Nat.blt, Nat.ble, tz_3, tz_22, tz_43, hb146, hx155a, hx155b, hx155c, hx155d] <;> rfl) fun ac wd h => ?_
      refine rs_plain 46 [] [none, none, none] [7, 8, 14, 15, 16, 23] [(6, 0)] h rfl rfl (by simp only [EX, simprocAttr, Nat.blt, Nat.ble, tz_4, tz_43, hb146, eq_A2I_vm] <;> rfl) fun ac wd h => ?_
      by_cases hb156 : x154 = (A2I.mk a1 a2)
      · rw [if_pos hb156] at hL144
        have hb156t := eq_true hb156
        refine r_condT h (decide (x154 = (A2I.mk a1 a2))) (by simp only [EX, simprocAttr, Nat.blt, Nat.ble, hb146, hb156t] <;> rfl) (by first | rfl | (simp only [EX, simprocAttr, Nat.blt, Nat.ble, hb146, hb156t] <;> rfl)) ?_
        refine rs_plain 48 [] [none, none] [6] [] h rfl rfl (by simp only [EX, simprocAttr, Nat.blt, Nat.ble, tz_3, hb146, hb156t] <;> rfl) fun ac wd h => ?_
        refine wp_ret ?_
        injection hL144 with hL144
        subst hL144
        exact r_retE rfl h [.tmp 6] rfl (by simp only [retD, List.mapM_cons, List.mapM_nil, Option.bind_eq_bind, Option.pure_def, EX, simprocAttr, Nat.blt, Nat.ble, hb146, hb156t] <;> rfl)
      · rw [if_neg hb156] at hL144
        refine r_condF h (decide (x154 = (A2I.mk a1 a2))) (by simp only [EX, simprocAttr, Nat.blt, Nat.ble, hb146, hb156] <;> rfl) (by first | rfl | (simp only [EX, simprocAttr, Nat.blt, Nat.ble, hb146, hb156] <;> rfl)) ?_
        refine wp_skip ?_
        change Code.wp Try.prog _ _ _ _
        refine r_plain [] [none, none] [7, 14, 15, 16] [(6, 0)] h rfl (by simp only [EX, simprocAttr, Nat.blt, Nat.ble, tz_3, hb146, hb156] <;> rfl) fun ac wd h => ?_
        have h := h.same [7, 14, 15, 16] [(6, 0)] 36 [(7, .one (.ptr (6, 0) 0)), (14, .one (.d (.sl (List.map eA2I a0.Links)))), (15, .one (.d (.int .i64 (a0.Links.length : Int)))), (16, .one (.d (.int .i64 (IntKind.wrap .i64 (n143 + 1)))))]
          [((6, 0), some (.box 43 [.d (.int .i64 a1), .d (.int .i64 a2)]))]
          (by simp only [EX, simprocAttr, Nat.blt, Nat.ble, hb146, hx155a, hx155b, hx155c, hx155d, hb156] <;> rfl)
        change ∃ n', _ ∧ _
        exact ⟨nf, Nat.lt_succ_self nf, (IntKind.wrap .i64 (n143 + 1)), hL144, h⟩
    · rw [if_neg hb146] at hL144
      refine r_condF h (decide (n143 < (a0.Links.length : Int))) (by simp only [EX, simprocAttr, Nat.blt, Nat.ble, hb146] <;> rfl) (by first | rfl | (simp only [EX, simprocAttr, Nat.blt, Nat.ble, hb146] <;> rfl)) ?_
      refine wp_exit ?_
      change Code.wp Try.prog _ _ _ _
      refine rs_plain 38 [] [none] [6] [] h rfl rfl (by simp only [EX, simprocAttr, Nat.blt, Nat.ble, tz_3, hb146] <;> rfl) fun ac wd h => ?_
      refine wp_ret ?_
      injection hL144 with hL144
      subst hL144
      exact r_retE rfl h [.tmp 6] rfl (by simp only [retD, List.mapM_cons, List.mapM_nil, Option.bind_eq_bind, Option.pure_def, EX, simprocAttr, Nat.blt, Nat.ble, hb146] <;> rfl)

set_option maxRecDepth 20000 in
set_option maxHeartbeats 4000000 in
theorem L_graph_Back_ok {a0 : TGraph} {a1 : Int} {r : Int} (hD : L_graph_Back a0 a1 = some r) :
    CallH Try.prog 25 [.agg [.d (.int .i64 a0.N), .d (.sl (List.map eA2I a0.Links))], .one (.d (.int .i64 a1))] []
      (.one (.d (.int .i64 r))) [] := by
  unfold L_graph_Back at hD
  refine r_call Try.func25 rfl Try.ntmps25 (by kernel_rfl) (by rfl) (by rfl) (by simp) fun S Φ P0 wb ac h => ?_
  refine rs_plain 3 [] [none, none] [1, 2] [(1, 0)] h rfl rfl (by simp only [EX, simprocAttr, Nat.blt, Nat.ble, tz_3, tz_24] <;> rfl) fun ac wd h => ?_
  refine wp_seq ?_
  obtain ⟨e18, hE19, hD⟩ := Option.bind_eq_some_iff.1 hD
  refine r_seqJ (fun ac wd => ∃ (b17 : Bool), b17 = e18 ∧ SL ⟨wb, S, Φ, P0⟩ 28 12 [(1, .one (.d (.int .i64 a1))), (2, .one (.ptr (1, 0) 0)), (13, .one (.d (.bool b17)))] [((1, 0), some (.box 24 [.d (.int .i64 a0.N), .d (.sl (List.map eA2I a0.Links))]))] ac wd) ?_ ?_
  · skip
    by_cases hb20 : a1 < 0
    · rw [if_pos hb20] at hE19
      refine r_plain [] [none, none, none, some (some 7, false), some (some 7, false), some (some 7, false), some (some 7, false), some (some 7, false), none] [1, 2, 13] [(1, 0)] h rfl (by simp only [EX, simprocAttr, Nat.blt, Nat.ble, tz_3, tz_4, tz_22, tz_24, tz_43, hb20] <;> rfl) fun ac wd h => ?_
      have h := h.same [1, 2, 13] [(1, 0)] 12 [(1, .one (.d (.int .i64 a1))), (2, .one (.ptr (1, 0) 0)), (13, .one (.d (.bool true)))]
        [((1, 0), some (.box 24 [.d (.int .i64 a0.N), .d (.sl (List.map eA2I a0.Links))]))]
        (by simp only [EX, simprocAttr, Nat.blt, Nat.ble, hb20] <;> rfl)
      injection hE19 with hE19
      exact ⟨true, hE19, h⟩
    · rw [if_neg hb20] at hE19
      refine r_plain [] [none, none, none, some (some 7, false), some (some 7, false), some (some 7, false), some (some 7, false), some (some 7, false), none] [1, 2, 13] [(1, 0)] h rfl (by simp only [EX, simprocAttr, Nat.blt, Nat.ble, tz_3, tz_4, tz_22, tz_24, tz_43, hb20] <;> rfl) fun ac wd h => ?_
      have h := h.same [1, 2, 13] [(1, 0)] 12 [(1, .one (.d (.int .i64 a1))), (2, .one (.ptr (1, 0) 0)), (13, .one (.d (.bool (decide (a1 ≥ (a0.Links.length : Int))))))]
        [((1, 0), some (.box 24 [.d (.int .i64 a0.N), .d (.sl (List.map eA2I a0.Links))]))]
        (by simp only [EX, simprocAttr, Nat.blt, Nat.ble, hb20] <;> rfl)
      injection hE19 with hE19
      exact ⟨decide (a1 ≥ (a0.Links.length : Int)), hE19, h⟩
  · skip
    rintro ac wd ⟨b17, rfl, h⟩
    (try dsimp only at hD)
    by_cases hb22 : b17 = true
    · rw [if_pos hb22] at hD
      refine r_condT h b17 (by simp only [EX, simprocAttr, Nat.blt, Nat.ble, hb22] <;> rfl) (by first | rfl | (simp only [EX, simprocAttr, Nat.blt, Nat.ble, hb22] <;> rfl)) ?_
      refine rs_plain 13 [] [none] [4] [] h rfl rfl (by simp only [EX, simprocAttr, Nat.blt, Nat.ble, tz_3, hb22] <;> rfl) fun ac wd h => ?_
      refine wp_ret ?_
      injection hD with hD
      subst hD
      exact r_retE rfl h [.tmp 4] rfl (by simp only [retD, List.mapM_cons, List.mapM_nil, Option.bind_eq_bind, Option.pure_def, EX, simprocAttr, Nat.blt, Nat.ble, hb22] <;> rfl)
    · rw [if_neg hb22] at hD
      have hb22n := eq_false_of_ne_true hb22
      refine r_condF h b17 (by simp only [EX, simprocAttr, Nat.blt, Nat.ble, hb22n] <;> rfl) (by first | rfl | (simp only [EX, simprocAttr, Nat.blt, Nat.ble, hb22n] <;> rfl)) ?_
      refine wp_skip ?_
      change Code.wp Try.prog _ _ _ _
      obtain ⟨x27, hx28, hD⟩ := Option.bind_eq_some_iff.1 hD
      obtain ⟨hx28a, hx28b, hx28c⟩ := at_some hx28
      have hx28d := (List.getElem?_eq_some_iff.1 hx28b).1
      obtain ⟨r29, hc30, hD⟩ := Option.bind_eq_some_iff.1 hD
      have hc30k := L_graph_Find_ok hc30
      refine rs_drawn 27 ty_hm [factE 25 hc30k] [none, none, none, none, none, none, none, none, none, none, none, none, none, none, none] [4] [] h rfl rfl (by simp only [EX, simprocAttr, Nat.blt, Nat.ble, tz_3, tz_22, tz_24, tz_43, hb22n, hx28a, hx28b, hx28c, hx28d] <;> rfl) (by kernel_rfl) fun ac wd h => ?_
      refine wp_ret ?_
      injection hD with hD
      subst hD
      exact r_retE rfl h [.tmp 4] rfl (by simp only [retD, List.mapM_cons, List.mapM_nil, Option.bind_eq_bind, Option.pure_def, EX, simprocAttr, Nat.blt, Nat.ble, hb22n] <;> rfl)

set_option maxRecDepth 20000 in
set_option maxHeartbeats 4000000 in
theorem L_law03_fixed_ok {r : Bool} (hD : L_law03_fixed = some r) :
    CallH Try.prog 17 [] []
      (.one (.d (.bool r))) [] := by
  unfold L_law03_fixed at hD
  refine r_call Try.func17 rfl Try.ntmps17 (by kernel_rfl) (by rfl) (by rfl) (by simp) fun S Φ P0 wb ac h => ?_
  refine rs_plain 2 [] [none] [] [] h rfl rfl (by simp only [EX, simprocAttr, Nat.blt, Nat.ble, tz_4] <;> rfl) fun ac wd h => ?_
  obtain ⟨r124, hc125, hD⟩ := Option.bind_eq_some_iff.1 hD
  have hc125k := L_graph_Full_ok hc125
  refine rs_plain 5 [factE 2 hc125k] [none, none, none] [1] [(3, 0)] h rfl rfl (by simp only [EX, simprocAttr, Nat.blt, Nat.ble, tz_3, tz_24] <;> rfl) fun ac wd h => ?_
  refine rs_plain 13 [] [none, none, none, none, none, none, none, none] [1, 2] [(3, 0), (9, 0), (11, 0)] h rfl rfl (by simp only [EX, simprocAttr, Nat.blt, Nat.ble, tz_2, tz_3, tz_4, tz_22, tz_24, tz_43] <;> rfl) fun ac wd h => ?_
  refine rs_plain 18 [] [none, none, none, none, none] [1, 2, 3] [(3, 0), (9, 0), (11, 0), (14, 0), (16, 0)] h rfl rfl (by simp only [EX, simprocAttr, Nat.blt, Nat.ble, tz_22, tz_24, tz_43] <;> rfl) fun ac wd h => ?_
  obtain ⟨r183, hc184, hD⟩ := Option.bind_eq_some_iff.1 hD
  obtain ⟨r185, hc186, hD⟩ := Option.bind_eq_some_iff.1 hD
  obtain ⟨r187, hc188, hD⟩ := Option.bind_eq_some_iff.1 hD
  by_cases hb189 : r187 = true
  · rw [if_pos hb189] at hD
    obtain ⟨r190, hc191, hD⟩ := Option.bind_eq_some_iff.1 hD
    obtain ⟨r192, hc193, hD⟩ := Option.bind_eq_some_iff.1 hD
    by_cases hb194 : r192 = true
    · rw [if_pos hb194] at hD
      obtain ⟨r195, hc196, hD⟩ := Option.bind_eq_some_iff.1 hD
      obtain ⟨r197, hc198, hD⟩ := Option.bind_eq_some_iff.1 hD
      by_cases hb199 : r197 = true
      · rw [if_pos hb199] at hD
        obtain ⟨r200, hc201, hD⟩ := Option.bind_eq_some_iff.1 hD
        by_cases hb202 : r200 = 4
        · rw [if_pos hb202] at hD
          have hb202t := eq_true hb202
          obtain ⟨r203, hc204, hD⟩ := Option.bind_eq_some_iff.1 hD
          by_cases hb205 : r203 = (-1)
          · rw [if_pos hb205] at hD
            have hb205t := eq_true hb205
            obtain ⟨r206, hc207, hD⟩ := Option.bind_eq_some_iff.1 hD
            by_cases hb208 : r206 = 2
            · rw [if_pos hb208] at hD
              have hb208t := eq_true hb208
              obtain ⟨r209, hc210, hD⟩ := Option.bind_eq_some_iff.1 hD
              by_cases hb211 : r209 = (-1)
              · rw [if_pos hb211] at hD
                have hb211t := eq_true hb211
                obtain ⟨r212, hc213, hD⟩ := Option.bind_eq_some_iff.1 hD
                by_cases hb214 : r212 = true
                · rw [if_pos hb214] at hD
                  obtain ⟨r215, hc216, hD⟩ := Option.bind_eq_some_iff.1 hD
                  by_cases hb217 : r215 = true
                  · rw [if_pos hb217] at hD
                    obtain ⟨r218, hc219, hD⟩ := Option.bind_eq_some_iff.1 hD
                    by_cases hb220 : r218 = true
                    · rw [if_pos hb220] at hD; cases hD
                    · rw [if_neg hb220] at hD
                      have hb220n := eq_false_of_ne_true hb220
                      obtain ⟨r240, hc241, hD⟩ := Option.bind_eq_some_iff.1 hD
                      by_cases hb242 : r240 = true
                      · rw [if_pos hb242] at hD; cases hD
                      · rw [if_neg hb242] at hD
                        have hb242n := eq_false_of_ne_true hb242
                        obtain ⟨r259, hc260, hD⟩ := Option.bind_eq_some_iff.1 hD
                        by_cases hb261 : r259 = true
                        · rw [if_pos hb261] at hD; cases hD
                        · rw [if_neg hb261] at hD
                          have hb261n := eq_false_of_ne_true hb261
                          obtain ⟨r275, hc276, hD⟩ := Option.bind_eq_some_iff.1 hD
                          by_cases hb277 : r275 = true
                          · rw [if_pos hb277] at hD
                            obtain ⟨r278, hc279, hD⟩ := Option.bind_eq_some_iff.1 hD
                            have h := SL.freeze h [(9, 0)] (by simp only [EX, simprocAttr, Nat.blt, Nat.ble, hb189, hb194, hb199, hb202t, hb205t, hb208t, hb211t, hb214, hb217, hb220n, hb242n, hb261n, hb277, ffrz, mfrz, gcell, AV.mapC, boxMap, sumMap, List.any_cons, List.any_nil, Bool.or_false, Bool.or_true, Bool.true_or, Bool.false_or] <;> rfl) (by simp only [EX, simprocAttr, Nat.blt, Nat.ble, hb189, hb194, hb199, hb202t, hb205t, hb208t, hb211t, hb214, hb217, hb220n, hb242n, hb261n, hb277, ffrz, mfrz, gcell, AV.mapC, boxMap, sumMap, List.any_cons, List.any_nil, Bool.or_false, Bool.or_true, Bool.true_or, Bool.false_or] <;> rfl) (by simp only [EX, simprocAttr, Nat.blt, Nat.ble, hb189, hb194, hb199, hb202t, hb205t, hb208t, hb211t, hb214, hb217, hb220n, hb242n, hb261n, hb277, ffrz, mfrz, gcell, AV.mapC, boxMap, sumMap, List.any_cons, List.any_nil, Bool.or_false, Bool.or_true, Bool.true_or, Bool.false_or] <;> rfl)
                            obtain ⟨r280, hc281, hD⟩ := Option.bind_eq_some_iff.1 hD
                            by_cases hb282 : r280 = true
                            · rw [if_pos hb282] at hD
                              obtain ⟨r283, hc284, hD⟩ := Option.bind_eq_some_iff.1 hD
                              by_cases hb285 : (r283.length : Int) = 0
                              · rw [if_pos hb285] at hD
                                have hb285t := eq_true hb285
                                obtain ⟨r286, hc287, hD⟩ := Option.bind_eq_some_iff.1 hD
                                have hc184k := L_graph_Full_ok hc184
                                have hc186k := L_law03_Ref_ok hc186
                                have hc188k := L_ref03_Same_ok hc188
                                have hc191k := L_graph_Out_ok hc191
                                have hc193k := L_ref01_Ints_ok hc193
                                have hc196k := L_graph_In_ok hc196
                                have hc198k := L_ref01_Ints_ok hc198
                                have hc201k := L_graph_Find_ok hc201
                                have hc204k := L_graph_Find_ok hc204
                                have hc207k := L_graph_Back_ok hc207
                                have hc210k := L_graph_Back_ok hc210
                                have hc213k := L_graph_Right_ok hc213
                                have hc216k := L_graph_Right_ok hc216
                                have hc219k := L_graph_Right_ok hc219
                                have hc241k := L_graph_Right_ok hc241
                                have hc260k := L_graph_Right_ok hc260
                                have hc276k := L_graph_Right_ok hc276
                                have hc279k := L_graph_Dist_ok hc279
                                have hc281k := L_ref01_Ints_ok hc281
                                have hc284k := L_graph_Dist_ok hc284
                                have hc287k := L_graph_Full_ok hc287
                                refine rs_plain 103 [factE 18 hc184k, factE 19 hc186k, factE 24 hc188k, factE 27 hc191k, factE 29 hc193k, factE 33 hc196k, factE 35 hc198k, factE 39 hc201k, factE 44 hc204k, factE 49 hc207k, factE 54 hc210k, factE 59 hc213k, factE 63 hc216k, factE 67 hc219k, factE 72 hc241k, factE 77 hc260k, factE 82 hc276k, factE 86 hc279k, factE 88 hc281k, factE 92 hc284k, factE 97 hc287k] [none, none, none, none, none, none, none, none, some (some 21, true), some (some 21, true), some (some 21, true), some (some 21, true), none, none, some (some 27, true), some (some 27, true), some (some 27, true), some (some 27, true), none, none, some (some 33, true), some (some 33, true), some (some 33, true), none, none, some (some 38, true), some (some 38, true), some (some 38, true), none, none, some (some 43, true), some (some 43, true), some (some 43, true), none, none, some (some 48, true), some (some 48, true), some (some 48, true), none, none, some (some 53, true), some (some 53, true), none, none, some (some 57, true), some (some 57, true), none, none, some (some 61, true), some (some 61, true), some (some 61, true), none, none, some (some 66, true), some (some 66, true), some (some 66, true), none, none, some (some 71, true), some (some 71, true), some (some 71, true), none, none, some (some 76, true), some (some 76, true), none, none, some (some 80, true), some (some 80, true), some (some 80, true), some (some 80, true), none, none, some (some 86, true), some (some 86, true), some (some 86, true), some (some 86, true), none, none, some (some 92, true), some (some 92, true), some (some 92, true), some (some 92, true), none, none] [0] [] h rfl rfl (by simp (maxSteps := 10000000) only [EX, simprocAttr, Nat.blt, Nat.ble, tz_2, tz_3, tz_4, tz_22, tz_24, tz_28, tz_35, tz_43, hb189, hb194, hb199, hb202t, hb205t, hb208t, hb211t, hb214, hb217, hb220n, hb242n, hb261n, hb277, hb282, hb285t] <;> rfl) fun ac wd h => ?_
                                refine wp_ret ?_
                                injection hD with hD
                                subst hD
                                exact r_retE rfl h [.tmp 0] rfl (by simp only [retD, List.mapM_cons, List.mapM_nil, Option.bind_eq_bind, Option.pure_def, EX, simprocAttr, Nat.blt, Nat.ble, hb189, hb194, hb199, hb202t, hb205t, hb208t, hb211t, hb214, hb217, hb220n, hb242n, hb261n, hb277, hb282, hb285t] <;> rfl)
                              · rw [if_neg hb285] at hD; cases hD
                            · rw [if_neg hb282] at hD; cases hD
                          · rw [if_neg hb277] at hD; cases hD
                  · rw [if_neg hb217] at hD; cases hD
                · rw [if_neg hb214] at hD; cases hD
              · rw [if_neg hb211] at hD; cases hD
            · rw [if_neg hb208] at hD; cases hD
          · rw [if_neg hb205] at hD; cases hD
        · rw [if_neg hb202] at hD; cases hD
      · rw [if_neg hb199] at hD; cases hD
    · rw [if_neg hb194] at hD; cases hD
  · rw [if_neg hb189] at hD; cases hD

set_option maxRecDepth 20000 in
set_option maxHeartbeats 4000000 in
theorem L_ref03_Out_own {a0 : TGraph} {a1 : Int} {r : (List Int)} (hD : L_ref03_Out a0 a1 = some r) :
    CallH Try.prog 20 [.agg [.d (.int .i64 a0.N), .d (.sl (List.map eA2I a0.Links))], .one (.d (.int .i64 a1))] []
      (.one (.own (1, 0) r.length)) [((1, 0), some (.row 3 1 (dat (List.map eI r))))] := by
  unfold L_ref03_Out at hD
  refine r_call Try.func20 rfl Try.ntmps20 (by kernel_rfl) (by rfl) (by simp only [shutB, EX, simprocAttr, Nat.blt, Nat.ble] <;> rfl) (by simp) fun S Φ P0 wb ac h => ?_
  refine rs_plain 3 [] [none, none] [1, 2] [(1, 0)] h rfl rfl (by simp only [EX, simprocAttr, Nat.blt, Nat.ble, tz_3, tz_28, tz_35] <;> rfl) fun ac wd h => ?_
  refine rs_plain 5 [] [none, none] [1, 2, 5] [(1, 0), (3, 0)] h rfl rfl (by simp only [EX, simprocAttr, Nat.blt, Nat.ble, tz_3, tz_35] <;> rfl) fun ac wd h => ?_
  refine wp_seq ?_
  refine rs_plain 6 [] [none] [1, 2, 5, 6] [(1, 0), (3, 0)] h rfl rfl (by simp only [EX, simprocAttr, Nat.blt, Nat.ble, tz_3] <;> rfl) fun ac wd h => ?_
  refine wp_block ?_
  have h := h.same [1, 2, 5, 6] [(1, 0), (3, 0)] 48 [(1, .one (.d (.int .i64 a1))), (2, .one (.ptr (1, 0) 0)), (5, .one (.own (3, 0) ([] : List Int).length)), (6, .one (.d (.int .i64 0)))]
    [((1, 0), some (.box 28 [.d (.int .i64 a0.N), .d (.sl (List.map eA2I a0.Links))])), ((3, 0), some (.row 3 1 (dat (List.map eI ([] : List Int)))))]
    (by simp only [EX, simprocAttr, Nat.blt, Nat.ble] <;> rfl)
  refine r_while (fun nf ac wd => ∃ (n197 : Int) (l198 : List Int), L_ref03_Out_l1 a0 a1 nf n197 l198 = some r ∧ SL ⟨wb, S, Φ, P0⟩ 28 48 [(1, .one (.d (.int .i64 a1))), (2, .one (.ptr (1, 0) 0)), (5, .one (.own (3, 0) l198.length)), (6, .one (.d (.int .i64 n197)))] [((1, 0), some (.box 28 [.d (.int .i64 a0.N), .d (.sl (List.map eA2I a0.Links))])), ((3, 0), some (.row 3 1 (dat (List.map eI l198))))] ac wd) (((a0.Links.length : Int) - 0).toNat + 1) ⟨0, ([] : List Int), hD, h⟩ (fun nf ac wd hJ => ?_)
  obtain ⟨n197, l198, hL199, h⟩ := hJ
  cases nf with
  | zero => rw [L_ref03_Out_l1] at hL199; cases hL199
  | succ nf =>
    rw [L_ref03_Out_l1] at hL199
    refine wp_seq ?_
    refine rs_plain 53 [] [none, none, none, none, none] [1, 2, 5, 6, 12] [(1, 0), (3, 0)] h rfl rfl (by simp only [EX, simprocAttr, Nat.blt, Nat.ble, tz_3, tz_4, tz_22, tz_28, tz_43] <;> rfl) fun ac wd h => ?_
    by_cases hb201 : n197 < (a0.Links.length : Int)
    · rw [if_pos hb201] at hL199
      refine r_condT h (decide (n197 < (a0.Links.length : Int))) (by simp only [EX, simprocAttr, Nat.blt, Nat.ble, hb201] <;> rfl) (by first | rfl | (simp only [EX, simprocAttr, Nat.blt, Nat.ble, hb201] <;> rfl)) ?_
      refine wp_skip ?_
      change Code.wp Try.prog _ _ _ _
      obtain ⟨e209, hE210, hL199⟩ := Option.bind_eq_some_iff.1 hL199
      refine r_seqJ (fun ac wd => ∃ (l208 : List Int), l208 = e209 ∧ SL ⟨wb, S, Φ, P0⟩ 28 66 [(1, .one (.d (.int .i64 a1))), (2, .one (.ptr (1, 0) 0)), (5, .one (.own (64, 0) l208.length)), (6, .one (.d (.int .i64 n197)))] [((1, 0), some (.box 28 [.d (.int .i64 a0.N), .d (.sl (List.map eA2I a0.Links))])), ((64, 0), some (.row 3 1 (dat (List.map eI l208))))] ac wd) ?_ ?_
      · skip
        refine wp_block ?_
        obtain ⟨x213, hx214, hE210⟩ := Option.bind_eq_some_iff.1 hE210
        obtain ⟨hx214a, hx214b, hx214c⟩ := at_some hx214
        have hx214d := (List.getElem?_eq_some_iff.1 hx214b).1
        refine rs_plain 61 [] [none, none, none, none, none, none, none, none] [1, 2, 5, 6, 22] [(1, 0), (3, 0)] h rfl rfl (by simp only [EX, simprocAttr, Nat.blt, Nat.ble, tz_3, tz_4, tz_22, tz_28, tz_43, hb201, hx214a, hx214b, hx214c, hx214d] <;> rfl) fun ac wd h => ?_
        by_cases hb215 : x213.a0 = a1
        · rw [if_pos hb215] at hE210
          have hb215t := eq_true hb215
          refine r_condT h (decide (x213.a0 = a1)) (by simp only [EX, simprocAttr, Nat.blt, Nat.ble, hb201, hb215t] <;> rfl) (by first | rfl | (simp only [EX, simprocAttr, Nat.blt, Nat.ble, hb201, hb215t] <;> rfl)) ?_
          by_cases ha216 : (l198.length + 1) * 8 ≤ 140737488355328
          case neg => rw [if_neg ha216] at hE210; cases hE210
          rw [if_pos ha216] at hE210
          refine r_plain [] [none, none, none, none, none] [1, 2, 5, 6] [(1, 0), (64, 0)] h rfl (by simp only [EX, simprocAttr, Nat.blt, Nat.ble, tz_3, tz_35, hb201, hb215t, ha216] <;> rfl) fun ac wd h => ?_
          have h := h.same [1, 2, 5, 6] [(1, 0), (64, 0)] 66 [(1, .one (.d (.int .i64 a1))), (2, .one (.ptr (1, 0) 0)), (5, .one (.own (64, 0) (l198 ++ [n197]).length)), (6, .one (.d (.int .i64 n197)))]
            [((1, 0), some (.box 28 [.d (.int .i64 a0.N), .d (.sl (List.map eA2I a0.Links))])), ((64, 0), some (.row 3 1 (dat (List.map eI (l198 ++ [n197])))))]
            (by simp only [EX, simprocAttr, Nat.blt, Nat.ble, hb201, hx214a, hx214b, hx214c, hx214d, hb215t, ha216] <;> rfl)
          injection hE210 with hE210
          exact ⟨(l198 ++ [n197]), hE210, h⟩
        · rw [if_neg hb215] at hE210
          refine r_condF h (decide (x213.a0 = a1)) (by simp only [EX, simprocAttr, Nat.blt, Nat.ble, hb201, hb215] <;> rfl) (by first | rfl | (simp only [EX, simprocAttr, Nat.blt, Nat.ble, hb201, hb215] <;> rfl)) ?_
          refine wp_skip ?_
          have h := SL.swap h (64, 0) (3, 0) 66 (by decide) (by decide) (by simp only [EX, simprocAttr, Nat.blt, Nat.ble, hb201, hx214a, hx214b, hx214c, hx214d, hb215, e_ren3, fren, mren, AV.ren, AObj.ren, Cell.ren, sumRen, Upd.ren, swp, csw, dat_ren, opn_ren] <;> rfl) (by simp only [EX, simprocAttr, Nat.blt, Nat.ble, hb201, hx214a, hx214b, hx214c, hx214d, hb215, e_ren3, fren, mren, AV.ren, AObj.ren, Cell.ren, sumRen, Upd.ren, swp, csw, dat_ren, opn_ren] <;> rfl) (by simp only [EX, simprocAttr, Nat.blt, Nat.ble, hb201, hx214a, hx214b, hx214c, hx214d, hb215, e_ren3, fren, mren, AV.ren, AObj.ren, Cell.ren, sumRen, Upd.ren, swp, csw, dat_ren, opn_ren] <;> rfl)
          have h := h.same [1, 2, 5, 6] [(1, 0), (64, 0)] 66 [(1, .one (.d (.int .i64 a1))), (2, .one (.ptr (1, 0) 0)), (5, .one (.own (64, 0) l198.length)), (6, .one (.d (.int .i64 n197)))]
            [((1, 0), some (.box 28 [.d (.int .i64 a0.N), .d (.sl (List.map eA2I a0.Links))])), ((64, 0), some (.row 3 1 (dat (List.map eI l198))))]
            (by simp only [EX, simprocAttr, Nat.blt, Nat.ble, hb201, hx214a, hx214b, hx214c, hx214d, hb215] <;> rfl)
          injection hE210 with hE210
          exact ⟨l198, hE210, h⟩
      · skip
        rintro ac wd ⟨l208, rfl, h⟩
        (try dsimp only at hL199)
        refine r_plain [] [none, none, none] [1, 2, 5, 6] [(1, 0), (64, 0)] h rfl (by simp only [EX, simprocAttr, Nat.blt, Nat.ble, tz_3, hb201] <;> rfl) fun ac wd h => ?_
        have h := SL.swap h (3, 0) (64, 0) 69 (by decide) (by decide) (by simp only [EX, simprocAttr, Nat.blt, Nat.ble, hb201, e_ren3, fren, mren, AV.ren, AObj.ren, Cell.ren, sumRen, Upd.ren, swp, csw, dat_ren, opn_ren] <;> rfl) (by simp only [EX, simprocAttr, Nat.blt, Nat.ble, hb201, e_ren3, fren, mren, AV.ren, AObj.ren, Cell.ren, sumRen, Upd.ren, swp, csw, dat_ren, opn_ren] <;> rfl) (by simp only [EX, simprocAttr, Nat.blt, Nat.ble, hb201, e_ren3, fren, mren, AV.ren, AObj.ren, Cell.ren, sumRen, Upd.ren, swp, csw, dat_ren, opn_ren] <;> rfl)
        have h := h.same [1, 2, 5, 6] [(1, 0), (3, 0)] 48 [(1, .one (.d (.int .i64 a1))), (2, .one (.ptr (1, 0) 0)), (5, .one (.own (3, 0) l208.length)), (6, .one (.d (.int .i64 (IntKind.wrap .i64 (n197 + 1)))))]
          [((1, 0), some (.box 28 [.d (.int .i64 a0.N), .d (.sl (List.map eA2I a0.Links))])), ((3, 0), some (.row 3 1 (dat (List.map eI l208))))]
          (by simp only [EX, simprocAttr, Nat.blt, Nat.ble, hb201] <;> rfl)
        change ∃ n', _ ∧ _
        exact ⟨nf, Nat.lt_succ_self nf, (IntKind.wrap .i64 (n197 + 1)), l208, hL199, h⟩
    · rw [if_neg hb201] at hL199
      refine r_condF h (decide (n197 < (a0.Links.length : Int))) (by simp only [EX, simprocAttr, Nat.blt, Nat.ble, hb201] <;> rfl) (by first | rfl | (simp only [EX, simprocAttr, Nat.blt, Nat.ble, hb201] <;> rfl)) ?_
      refine wp_exit ?_
      change Code.wp Try.prog _ _ _ _
      refine rs_plain 55 [] [none, none] [4] [(3, 0)] h rfl rfl (by simp only [EX, simprocAttr, Nat.blt, Nat.ble, tz_3, tz_35, hb201] <;> rfl) fun ac wd h => ?_
      refine wp_ret ?_
      have h := h.same [4] [(3, 0)] 55 [(4, .one (.own (3, 0) l198.length))]
        [((3, 0), some (.row 3 1 (dat (List.map eI l198))))]
        (by simp only [EX, simprocAttr, Nat.blt, Nat.ble, hb201, dat_open] <;> rfl)
      have h := SL.swap h (1, 0) (3, 0) 55 (by decide) (by decide) (by simp only [EX, simprocAttr, Nat.blt, Nat.ble, hb201, e_ren3, fren, mren, AV.ren, AObj.ren, Cell.ren, sumRen, Upd.ren, swp, csw, dat_ren, opn_ren] <;> rfl) (by simp only [EX, simprocAttr, Nat.blt, Nat.ble, hb201, e_ren3, fren, mren, AV.ren, AObj.ren, Cell.ren, sumRen, Upd.ren, swp, csw, dat_ren, opn_ren] <;> rfl) (by simp only [EX, simprocAttr, Nat.blt, Nat.ble, hb201, e_ren3, fren, mren, AV.ren, AObj.ren, Cell.ren, sumRen, Upd.ren, swp, csw, dat_ren, opn_ren] <;> rfl)
      have h := h.same [4] [(1, 0)] 55 [(4, .one (.own (1, 0) l198.length))]
        [((1, 0), some (.row 3 1 (dat (List.map eI l198))))]
        (by simp only [EX, simprocAttr, Nat.blt, Nat.ble, hb201, dat_open] <;> rfl)
      injection hL199 with hL199
      subst hL199
      exact r_retO rfl h [.tmp 4] rfl [(1, 0)] (by simp only [retO, List.mapM_cons, List.mapM_nil, Option.bind_eq_bind, Option.pure_def, EX, simprocAttr, Nat.blt, Nat.ble, hb201] <;> rfl)
theorem L_ref03_Out_ok {a0 : TGraph} {a1 : Int} {r : (List Int)} (hD : L_ref03_Out a0 a1 = some r) :
    CallH Try.prog 20 [.agg [.d (.int .i64 a0.N), .d (.sl (List.map eA2I a0.Links))], .one (.d (.int .i64 a1))] []
      (.one (.d (.sl (List.map eI r)))) [] :=
  (L_ref03_Out_own hD).frz (by simp only [EX, simprocAttr, Nat.blt, Nat.ble] <;> rfl) (by simp only [frzA, frzSum, EX, simprocAttr, Nat.blt, Nat.ble] <;> rfl) rfl

set_option maxRecDepth 20000 in
set_option maxHeartbeats 4000000 in
theorem L_ref03_In_own {a0 : TGraph} {a1 : Int} {r : (List Int)} (hD : L_ref03_In a0 a1 = some r) :
    CallH Try.prog 22 [.agg [.d (.int .i64 a0.N), .d (.sl (List.map eA2I a0.Links))], .one (.d (.int .i64 a1))] []
      (.one (.own (1, 0) r.length)) [((1, 0), some (.row 3 1 (dat (List.map eI r))))] := by
  unfold L_ref03_In at hD
  refine r_call Try.func22 rfl Try.ntmps22 (by kernel_rfl) (by rfl) (by simp only [shutB, EX, simprocAttr, Nat.blt, Nat.ble] <;> rfl) (by simp) fun S Φ P0 wb ac h => ?_
  refine rs_plain 3 [] [none, none] [1, 2] [(1, 0)] h rfl rfl (by simp only [EX, simprocAttr, Nat.blt, Nat.ble, tz_3, tz_28, tz_35] <;> rfl) fun ac wd h => ?_
  refine rs_plain 5 [] [none, none] [1, 2, 5] [(1, 0), (3, 0)] h rfl rfl (by simp only [EX, simprocAttr, Nat.blt, Nat.ble, tz_3, tz_35] <;> rfl) fun ac wd h => ?_
  refine wp_seq ?_
  refine rs_plain 6 [] [none] [1, 2, 5, 6] [(1, 0), (3, 0)] h rfl rfl (by simp only [EX, simprocAttr, Nat.blt, Nat.ble, tz_3] <;> rfl) fun ac wd h => ?_
  refine wp_block ?_
  have h := h.same [1, 2, 5, 6] [(1, 0), (3, 0)] 48 [(1, .one (.d (.int .i64 a1))), (2, .one (.ptr (1, 0) 0)), (5, .one (.own (3, 0) ([] : List Int).length)), (6, .one (.d (.int .i64 0)))]
    [((1, 0), some (.box 28 [.d (.int .i64 a0.N), .d (.sl (List.map eA2I a0.Links))])), ((3, 0), some (.row 3 1 (dat (List.map eI ([] : List Int)))))]
    (by simp only [EX, simprocAttr, Nat.blt, Nat.ble] <;> rfl)
  refine r_while (fun nf ac wd => ∃ (n197 : Int) (l198 : List Int), L_ref03_In_l1 a0 a1 nf n197 l198 = some r ∧ SL ⟨wb, S, Φ, P0⟩ 28 48 [(1, .one (.d (.int .i64 a1))), (2, .one (.ptr (1, 0) 0)), (5, .one (.own (3, 0) l198.length)), (6, .one (.d (.int .i64 n197)))] [((1, 0), some (.box 28 [.d (.int .i64 a0.N), .d (.sl (List.map eA2I a0.Links))])), ((3, 0), some (.row 3 1 (dat (List.map eI l198))))] ac wd) (((a0.Links.length : Int) - 0).toNat + 1) ⟨0, ([] : List Int), hD, h⟩ (fun nf ac wd hJ => ?_)
  obtain ⟨n197, l198, hL199, h⟩ := hJ
  cases nf with
  | zero => rw [L_ref03_In_l1] at hL199; cases hL199
  | succ nf =>
    rw [L_ref03_In_l1] at hL199
    refine wp_seq ?_
    refine rs_plain 53 [] [none, none, none, none, none] [1, 2, 5, 6, 12] [(1, 0), (3, 0)] h rfl rfl (by simp only [EX, simprocAttr, Nat.blt, Nat.ble, tz_3, tz_4, tz_22, tz_28, tz_43] <;> rfl) fun ac wd h => ?_
    by_cases hb201 : n197 < (a0.Links.length : Int)
    · rw [if_pos hb201] at hL199
      refine r_condT h (decide (n197 < (a0.Links.length : Int))) (by simp only [EX, simprocAttr, Nat.blt, Nat.ble, hb201] <;> rfl) (by first | rfl | (simp only [EX, simprocAttr, Nat.blt, Nat.ble, hb201] <;> rfl)) ?_
      refine wp_skip ?_
      change Code.wp Try.prog _ _ _ _
      obtain ⟨e209, hE210, hL199⟩ := Option.bind_eq_some_iff.1 hL199
      refine r_seqJ (fun ac wd => ∃ (l208 : List Int), l208 = e209 ∧ SL ⟨wb, S, Φ, P0⟩ 28 66 [(1, .one (.d (.int .i64 a1))), (2, .one (.ptr (1, 0) 0)), (5, .one (.own (64, 0) l208.length)), (6, .one (.d (.int .i64 n197)))] [((1, 0), some (.box 28 [.d (.int .i64 a0.N), .d (.sl (List.map eA2I a0.Links))])), ((64, 0), some (.row 3 1 (dat (List.map eI l208))))] ac wd) ?_ ?_
      · skip
        refine wp_block ?_
        obtain ⟨x213, hx214, hE210⟩ := Option.bind_eq_some_iff.1 hE210
        obtain ⟨hx214a, hx214b, hx214c⟩ := at_some hx214
        have hx214d := (List.getElem?_eq_some_iff.1 hx214b).1
        refine rs_plain 61 [] [none, none, none, none, none, none, none, none] [1, 2, 5, 6, 22] [(1, 0), (3, 0)] h rfl rfl (by simp only [EX, simprocAttr, Nat.blt, Nat.ble, tz_3, tz_4, tz_22, tz_28, tz_43, hb201, hx214a, hx214b, hx214c, hx214d] <;> rfl) fun ac wd h => ?_
        by_cases hb215 : x213.a1 = a1
        · rw [if_pos hb215] at hE210
          have hb215t := eq_true hb215
          refine r_condT h (decide (x213.a1 = a1)) (by simp only [EX, simprocAttr, Nat.blt, Nat.ble, hb201, hb215t] <;> rfl) (by first | rfl | (simp only [EX, simprocAttr, Nat.blt, Nat.ble, hb201, hb215t] <;> rfl)) ?_
          by_cases ha216 : (l198.length + 1) * 8 ≤ 140737488355328
          case neg => rw [if_neg ha216] at hE210; cases hE210
          rw [if_pos ha216] at hE210
          refine r_plain [] [none, none, none, none, none] [1, 2, 5, 6] [(1, 0), (64, 0)] h rfl (by simp only [EX, simprocAttr, Nat.blt, Nat.ble, tz_3, tz_35, hb201, hb215t, ha216] <;> rfl) fun ac wd h => ?_
          have h := h.same [1, 2, 5, 6] [(1, 0), (64, 0)] 66 [(1, .one (.d (.int .i64 a1))), (2, .one (.ptr (1, 0) 0)), (5, .one (.own (64, 0) (l198 ++ [n197]).length)), (6, .one (.d (.int .i64 n197)))]
            [((1, 0), some (.box 28 [.d (.int .i64 a0.N), .d (.sl (List.map eA2I a0.Links))])), ((64, 0), some (.row 3 1 (dat (List.map eI (l198 ++ [n197])))))]
            (by simp only [EX, simprocAttr, Nat.blt, Nat.ble, hb201, hx214a, hx214b, hx214c, hx214d, hb215t, ha216] <;> rfl)
          injection hE210 with hE210
          exact ⟨(l198 ++ [n197]), hE210, h⟩
        · rw [if_neg hb215] at hE210
          refine r_condF h (decide (x213.a1 = a1)) (by simp only [EX, simprocAttr, Nat.blt, Nat.ble, hb201, hb215] <;> rfl) (by first | rfl | (simp only [EX, simprocAttr, Nat.blt, Nat.ble, hb201, hb215] <;> rfl)) ?_
          refine wp_skip ?_
          have h := SL.swap h (64, 0) (3, 0) 66 (by decide) (by decide) (by simp only [EX, simprocAttr, Nat.blt, Nat.ble, hb201, hx214a, hx214b, hx214c, hx214d, hb215, e_ren3, fren, mren, AV.ren, AObj.ren, Cell.ren, sumRen, Upd.ren, swp, csw, dat_ren, opn_ren] <;> rfl) (by simp only [EX, simprocAttr, Nat.blt, Nat.ble, hb201, hx214a, hx214b, hx214c, hx214d, hb215, e_ren3, fren, mren, AV.ren, AObj.ren, Cell.ren, sumRen, Upd.ren, swp, csw, dat_ren, opn_ren] <;> rfl) (by simp only [EX, simprocAttr, Nat.blt, Nat.ble, hb201, hx214a, hx214b, hx214c, hx214d, hb215, e_ren3, fren, mren, AV.ren, AObj.ren, Cell.ren, sumRen, Upd.ren, swp, csw, dat_ren, opn_ren] <;> rfl)
          have h := h.same [1, 2, 5, 6] [(1, 0), (64, 0)] 66 [(1, .one (.d (.int .i64 a1))), (2, .one (.ptr (1, 0) 0)), (5, .one (.own (64, 0) l198.length)), (6, .one (.d (.int .i64 n197)))]
            [((1, 0), some (.box 28 [.d (.int .i64 a0.N), .d (.sl (List.map eA2I a0.Links))])), ((64, 0), some (.row 3 1 (dat (List.map eI l198))))]
            (by simp only [EX, simprocAttr, Nat.blt, Nat.ble, hb201, hx214a, hx214b, hx214c, hx214d, hb215] <;> rfl)
          injection hE210 with hE210
          exact ⟨l198, hE210, h⟩
      · skip
        rintro ac wd ⟨l208, rfl, h⟩
        (try dsimp only at hL199)
        refine r_plain [] [none, none, none] [1, 2, 5, 6] [(1, 0), (64, 0)] h rfl (by simp only [EX, simprocAttr, Nat.blt, Nat.ble, tz_3, hb201] <;> rfl) fun ac wd h => ?_
        have h := SL.swap h (3, 0) (64, 0) 69 (by decide) (by decide) (by simp only [EX, simprocAttr, Nat.blt, Nat.ble, hb201, e_ren3, fren, mren, AV.ren, AObj.ren, Cell.ren, sumRen, Upd.ren, swp, csw, dat_ren, opn_ren] <;> rfl) (by simp only [EX, simprocAttr, Nat.blt, Nat.ble, hb201, e_ren3, fren, mren, AV.ren, AObj.ren, Cell.ren, sumRen, Upd.ren, swp, csw, dat_ren, opn_ren] <;> rfl) (by simp only [EX, simprocAttr, Nat.blt, Nat.ble, hb201, e_ren3, fren, mren, AV.ren, AObj.ren, Cell.ren, sumRen, Upd.ren, swp, csw, dat_ren, opn_ren] <;> rfl)
        have h := h.same [1, 2, 5, 6] [(1, 0), (3, 0)] 48 [(1, .one (.d (.int .i64 a1))), (2, .one (.ptr (1, 0) 0)), (5, .one (.own (3, 0) l208.length)), (6, .one (.d (.int .i64 (IntKind.wrap .i64 (n197 + 1)))))]
          [((1, 0), some (.box 28 [.d (.int .i64 a0.N), .d (.sl (List.map eA2I a0.Links))])), ((3, 0), some (.row 3 1 (dat (List.map eI l208))))]
          (by simp only [EX, simprocAttr, Nat.blt, Nat.ble, hb201] <;> rfl)
        change ∃ n', _ ∧ _
        exact ⟨nf, Nat.lt_succ_self nf, (IntKind.wrap .i64 (n197 + 1)), l208, hL199, h⟩
    · rw [if_neg hb201] at hL199
      refine r_condF h (decide (n197 < (a0.Links.length : Int))) (by simp only [EX, simprocAttr, Nat.blt, Nat.ble, hb201] <;> rfl) (by first | rfl | (simp only [EX, simprocAttr, Nat.blt, Nat.ble, hb201] <;> rfl)) ?_
      refine wp_exit ?_
      change Code.wp Try.prog _ _ _ _
      refine rs_plain 55 [] [none, none] [4] [(3, 0)] h rfl rfl (by simp only [EX, simprocAttr, Nat.blt, Nat.ble, tz_3, tz_35, hb201] <;> rfl) fun ac wd h => ?_
      refine wp_ret ?_
      have h := h.same [4] [(3, 0)] 55 [(4, .one (.own (3, 0) l198.length))]
        [((3, 0), some (.row 3 1 (dat (List.map eI l198))))]
        (by simp only [EX, simprocAttr, Nat.blt, Nat.ble, hb201, dat_open] <;> rfl)
      have h := SL.swap h (1, 0) (3, 0) 55 (by decide) (by decide) (by simp only [EX, simprocAttr, Nat.blt, Nat.ble, hb201, e_ren3, fren, mren, AV.ren, AObj.ren, Cell.ren, sumRen, Upd.ren, swp, csw, dat_ren, opn_ren] <;> rfl) (by simp only [EX, simprocAttr, Nat.blt, Nat.ble, hb201, e_ren3, fren, mren, AV.ren, AObj.ren, Cell.ren, sumRen, Upd.ren, swp, csw, dat_ren, opn_ren] <;> rfl) (by simp only [EX, simprocAttr, Nat.blt, Nat.ble, hb201, e_ren3, fren, mren, AV.ren, AObj.ren, Cell.ren, sumRen, Upd.ren, swp, csw, dat_ren, opn_ren] <;> rfl)
      have h := h.same [4] [(1, 0)] 55 [(4, .one (.own (1, 0) l198.length))]
        [((1, 0), some (.row 3 1 (dat (List.map eI l198))))]
        (by simp only [EX, simprocAttr, Nat.blt, Nat.ble, hb201, dat_open] <;> rfl)
      injection hL199 with hL199
      subst hL199
      exact r_retO rfl h [.tmp 4] rfl [(1, 0)] (by simp only [retO, List.mapM_cons, List.mapM_nil, Option.bind_eq_bind, Option.pure_def, EX, simprocAttr, Nat.blt, Nat.ble, hb201] <;> rfl)
theorem L_ref03_In_ok {a0 : TGraph} {a1 : Int} {r : (List Int)} (hD : L_ref03_In a0 a1 = some r) :
    CallH Try.prog 22 [.agg [.d (.int .i64 a0.N), .d (.sl (List.map eA2I a0.Links))], .one (.d (.int .i64 a1))] []
      (.one (.d (.sl (List.map eI r)))) [] :=
  (L_ref03_In_own hD).frz (by simp only [EX, simprocAttr, Nat.blt, Nat.ble] <;> rfl) (by simp only [frzA, frzSum, EX, simprocAttr, Nat.blt, Nat.ble] <;> rfl) rfl

set_option maxRecDepth 20000 in
set_option maxHeartbeats 4000000 in
theorem L_ref03_Back_ok {a0 : TGraph} {a1 : Int} {r : Int} (hD : L_ref03_Back a0 a1 = some r) :
    CallH Try.prog 26 [.agg [.d (.int .i64 a0.N), .d (.sl (List.map eA2I a0.Links))], .one (.d (.int .i64 a1))] []
      (.one (.d (.int .i64 r))) [] := by
  unfold L_ref03_Back at hD
  refine r_call Try.func26 rfl Try.ntmps26 (by kernel_rfl) (by rfl) (by rfl) (by simp) fun S Φ P0 wb ac h => ?_
  refine rs_plain 3 [] [none, none] [1, 2] [(1, 0)] h rfl rfl (by simp only [EX, simprocAttr, Nat.blt, Nat.ble, tz_3, tz_28] <;> rfl) fun ac wd h => ?_
  refine wp_seq ?_
  obtain ⟨e18, hE19, hD⟩ := Option.bind_eq_some_iff.1 hD
  refine r_seqJ (fun ac wd => ∃ (b17 : Bool), b17 = e18 ∧ SL ⟨wb, S, Φ, P0⟩ 28 12 [(1, .one (.d (.int .i64 a1))), (2, .one (.ptr (1, 0) 0)), (13, .one (.d (.bool b17)))] [((1, 0), some (.box 28 [.d (.int .i64 a0.N), .d (.sl (List.map eA2I a0.Links))]))] ac wd) ?_ ?_
  · skip
    by_cases hb20 : a1 < 0
    · rw [if_pos hb20] at hE19
      refine r_plain [] [none, none, none, some (some 7, false), some (some 7, false), some (some 7, false), some (some 7, false), some (some 7, false), none] [1, 2, 13] [(1, 0)] h rfl (by simp only [EX, simprocAttr, Nat.blt, Nat.ble, tz_3, tz_4, tz_22, tz_28, tz_43, hb20] <;> rfl) fun ac wd h => ?_
      have h := h.same [1, 2, 13] [(1, 0)] 12 [(1, .one (.d (.int .i64 a1))), (2, .one (.ptr (1, 0) 0)), (13, .one (.d (.bool true)))]
        [((1, 0), some (.box 28 [.d (.int .i64 a0.N), .d (.sl (List.map eA2I a0.Links))]))]
        (by simp only [EX, simprocAttr, Nat.blt, Nat.ble, hb20] <;> rfl)
      injection hE19 with hE19
      exact ⟨true, hE19, h⟩
    · rw [if_neg hb20] at hE19
      refine r_plain [] [none, none, none, some (some 7, false), some (some 7, false), some (some 7, false), some (some 7, false), some (some 7, false), none] [1, 2, 13] [(1, 0)] h rfl (by simp only [EX, simprocAttr, Nat.blt, Nat.ble, tz_3, tz_4, tz_22, tz_28, tz_43, hb20] <;> rfl) fun ac wd h => ?_
      have h := h.same [1, 2, 13] [(1, 0)] 12 [(1, .one (.d (.int .i64 a1))), (2, .one (.ptr (1, 0) 0)), (13, .one (.d (.bool (decide (a1 ≥ (a0.Links.length : Int))))))]
        [((1, 0), some (.box 28 [.d (.int .i64 a0.N), .d (.sl (List.map eA2I a0.Links))]))]
        (by simp only [EX, simprocAttr, Nat.blt, Nat.ble, hb20] <;> rfl)
      injection hE19 with hE19
      exact ⟨decide (a1 ≥ (a0.Links.length : Int)), hE19, h⟩
  · skip
    rintro ac wd ⟨b17, rfl, h⟩
    (try dsimp only at hD)
    by_cases hb22 : b17 = true
    · rw [if_pos hb22] at hD
      refine r_condT h b17 (by simp only [EX, simprocAttr, Nat.blt, Nat.ble, hb22] <;> rfl) (by first | rfl | (simp only [EX, simprocAttr, Nat.blt, Nat.ble, hb22] <;> rfl)) ?_
      refine rs_plain 13 [] [none] [4] [] h rfl rfl (by simp only [EX, simprocAttr, Nat.blt, Nat.ble, tz_3, hb22] <;> rfl) fun ac wd h => ?_
      refine wp_ret ?_
      injection hD with hD
      subst hD
      exact r_retE rfl h [.tmp 4] rfl (by simp only [retD, List.mapM_cons, List.mapM_nil, Option.bind_eq_bind, Option.pure_def, EX, simprocAttr, Nat.blt, Nat.ble, hb22] <;> rfl)
    · rw [if_neg hb22] at hD
      have hb22n := eq_false_of_ne_true hb22
      refine r_condF h b17 (by simp only [EX, simprocAttr, Nat.blt, Nat.ble, hb22n] <;> rfl) (by first | rfl | (simp only [EX, simprocAttr, Nat.blt, Nat.ble, hb22n] <;> rfl)) ?_
      refine wp_skip ?_
      change Code.wp Try.prog _ _ _ _
      obtain ⟨x27, hx28, hD⟩ := Option.bind_eq_some_iff.1 hD
      obtain ⟨hx28a, hx28b, hx28c⟩ := at_some hx28
      have hx28d := (List.getElem?_eq_some_iff.1 hx28b).1
      obtain ⟨r29, hc30, hD⟩ := Option.bind_eq_some_iff.1 hD
      have hc30k := L_ref03_Find_ok hc30
      refine rs_drawn 27 ty_hm [factE 25 hc30k] [none, none, none, none, none, none, none, none, none, none, none, none, none, none, none] [4] [] h rfl rfl (by simp only [EX, simprocAttr, Nat.blt, Nat.ble, tz_3, tz_22, tz_28, tz_43, hb22n, hx28a, hx28b, hx28c, hx28d] <;> rfl) (by kernel_rfl) fun ac wd h => ?_
      refine wp_ret ?_
      injection hD with hD
      subst hD
      exact r_retE rfl h [.tmp 4] rfl (by simp only [retD, List.mapM_cons, List.mapM_nil, Option.bind_eq_bind, Option.pure_def, EX, simprocAttr, Nat.blt, Nat.ble, hb22n] <;> rfl)

set_option maxRecDepth 20000 in
set_option maxHeartbeats 4000000 in
theorem L_law03_GraphTells_ok {a0 : TGraph} {a1 : Int} {a2 : Int} {r : Bool} (hD : L_law03_GraphTells a0 a1 a2 = some r) :
    CallH Try.prog 3 [.agg [.d (.int .i64 a0.N), .d (.sl (List.map eA2I a0.Links))], .one (.d (.int .i64 a1)), .one (.d (.int .i64 a2))] []
      (.one (.d (.bool r))) [] := by
  unfold L_law03_GraphTells at hD
  refine r_call Try.func3 rfl Try.ntmps3 (by kernel_rfl) (by rfl) (by rfl) (by simp) fun S Φ P0 wb ac h => ?_
  refine rs_plain 3 [] [none, none] [1, 2, 3] [(1, 0)] h rfl rfl (by simp only [EX, simprocAttr, Nat.blt, Nat.ble, tz_4, tz_24] <;> rfl) fun ac wd h => ?_
  obtain ⟨r129, hc130, hD⟩ := Option.bind_eq_some_iff.1 hD
  have hc130k := L_law03_Cut_ok hc130
  refine rs_plain 6 [factE 4 hc130k] [none, none, none] [1, 2, 3] [(1, 0)] h rfl rfl (by simp only [EX, simprocAttr, Nat.blt, Nat.ble, tz_24] <;> rfl) fun ac wd h => ?_
  refine wp_seq ?_
  obtain ⟨r181, hc182, hD⟩ := Option.bind_eq_some_iff.1 hD
  obtain ⟨r183, hc184, hD⟩ := Option.bind_eq_some_iff.1 hD
  obtain ⟨r185, hc186, hD⟩ := Option.bind_eq_some_iff.1 hD
  by_cases hb187 : r181 = r185
  · rw [if_pos hb187] at hD
    have hb187t := eq_true hb187
    obtain ⟨r188, hc189, hD⟩ := Option.bind_eq_some_iff.1 hD
    obtain ⟨r190, hc191, hD⟩ := Option.bind_eq_some_iff.1 hD
    obtain ⟨r192, hc193, hD⟩ := Option.bind_eq_some_iff.1 hD
    obtain ⟨r194, hc195, hD⟩ := Option.bind_eq_some_iff.1 hD
    have hc182k := L_graph_Right_ok hc182
    have hc184k := L_law03_Ref_ok hc184
    have hc186k := L_ref03_Right_ok hc186
    have hc189k := L_graph_Full_ok hc189
    have hc191k := L_law03_Ref_ok hc191
    have hc193k := L_ref03_Full_ok hc193
    have hc195k := L_ref03_Same_ok hc195
    refine rs_drawn 21 ty_hm [factE 7 hc182k, factE 9 hc184k, factE 10 hc186k, factE 14 hc189k, factE 15 hc191k, factE 17 hc193k, factE 18 hc195k] [none, none, none, none, none, none, none, some (some 15, false), some (some 15, false), some (some 15, false), some (some 15, false), some (some 15, false), some (some 15, false), some (some 15, false), none] [1, 2, 3, 23] [(1, 0)] h rfl rfl (by simp only [EX, simprocAttr, Nat.blt, Nat.ble, tz_3, tz_4, tz_24, tz_28, hb187t] <;> rfl) (by kernel_rfl) fun ac wd h => ?_
    by_cases hb197 : r194 = true
    · rw [if_pos hb197] at hD
      refine r_condF h (!(r194)) (by simp only [EX, simprocAttr, Nat.blt, Nat.ble, hb187t, hb197] <;> rfl) (by first | rfl | (simp only [EX, simprocAttr, Nat.blt, Nat.ble, hb187t, hb197] <;> rfl)) ?_
      refine wp_skip ?_
      change Code.wp Try.prog _ _ _ _
      refine wp_seq ?_
      have hc184k := L_law03_Ref_ok hc184
      have hc186k := L_ref03_Right_ok hc186
      refine rs_plain 25 [factE 22 hc184k, factE 23 hc186k] [none, none, none, none] [1, 2, 3, 27] [(1, 0)] h rfl rfl (by simp only [EX, simprocAttr, Nat.blt, Nat.ble, tz_4, tz_24, tz_28, hb187t, hb197] <;> rfl) fun ac wd h => ?_
      by_cases hb203 : r185 = true
      · rw [if_pos hb203] at hD
        refine r_condF h (!(r185)) (by simp only [EX, simprocAttr, Nat.blt, Nat.ble, hb187t, hb197, hb203] <;> rfl) (by first | rfl | (simp only [EX, simprocAttr, Nat.blt, Nat.ble, hb187t, hb197, hb203] <;> rfl)) ?_
        refine wp_skip ?_
        change Code.wp Try.prog _ _ _ _
        obtain ⟨r272, hc273, hD⟩ := Option.bind_eq_some_iff.1 hD
        obtain ⟨r274, hc275, hD⟩ := Option.bind_eq_some_iff.1 hD
        obtain ⟨r276, hc277, hD⟩ := Option.bind_eq_some_iff.1 hD
        by_cases hb278 : r276 = true
        · rw [if_pos hb278] at hD
          obtain ⟨r279, hc280, hD⟩ := Option.bind_eq_some_iff.1 hD
          obtain ⟨r281, hc282, hD⟩ := Option.bind_eq_some_iff.1 hD
          obtain ⟨r283, hc284, hD⟩ := Option.bind_eq_some_iff.1 hD
          by_cases hb285 : r283 = true
          · rw [if_pos hb285] at hD
            obtain ⟨r286, hc287, hD⟩ := Option.bind_eq_some_iff.1 hD
            obtain ⟨r288, hc289, hD⟩ := Option.bind_eq_some_iff.1 hD
            by_cases hb290 : r286 = r288
            · rw [if_pos hb290] at hD
              have hb290t := eq_true hb290
              obtain ⟨r291, hc292, hD⟩ := Option.bind_eq_some_iff.1 hD
              obtain ⟨r293, hc294, hD⟩ := Option.bind_eq_some_iff.1 hD
              by_cases hb295 : r291 = r293
              · rw [if_pos hb295] at hD
                have hb295t := eq_true hb295
                obtain ⟨r296, hc297, hD⟩ := Option.bind_eq_some_iff.1 hD
                obtain ⟨r298, hc299, hD⟩ := Option.bind_eq_some_iff.1 hD
                obtain ⟨r300, hc301, hD⟩ := Option.bind_eq_some_iff.1 hD
                by_cases hb302 : r300 = true
                · rw [if_pos hb302] at hD
                  obtain ⟨r303, hc304, hD⟩ := Option.bind_eq_some_iff.1 hD
                  have hc273k := L_graph_Out_ok hc273
                  have hc184k := L_law03_Ref_ok hc184
                  have hc275k := L_ref03_Out_ok hc275
                  have hc277k := L_ref01_Ints_ok hc277
                  have hc280k := L_graph_In_ok hc280
                  have hc184k := L_law03_Ref_ok hc184
                  have hc282k := L_ref03_In_ok hc282
                  have hc284k := L_ref01_Ints_ok hc284
                  have hc287k := L_graph_Find_ok hc287
                  have hc184k := L_law03_Ref_ok hc184
                  have hc289k := L_ref03_Find_ok hc289
                  have hc292k := L_graph_Back_ok hc292
                  have hc184k := L_law03_Ref_ok hc184
                  have hc294k := L_ref03_Back_ok hc294
                  have hc297k := L_graph_Dist_ok hc297
                  have hc184k := L_law03_Ref_ok hc184
                  have hc299k := L_ref03_Dist_ok hc299
                  have hc301k := L_ref01_Ints_ok hc301
                  have hc304k := L_law03_fixed_ok hc304
                  refine rs_drawn 79 ty_hm [factE 27 hc273k, factE 29 hc184k, factE 31 hc275k, factE 32 hc277k, factE 36 hc280k, factE 38 hc184k, factE 40 hc282k, factE 41 hc284k, factE 47 hc287k, factE 49 hc184k, factE 52 hc289k, factE 58 hc292k, factE 60 hc184k, factE 62 hc294k, factE 68 hc297k, factE 70 hc184k, factE 72 hc299k, factE 73 hc301k, factE 76 hc304k] [none, none, none, none, none, none, none, none, none, some (some 37, true), some (some 37, true), some (some 37, true), some (some 37, true), some (some 37, true), some (some 37, true), some (some 37, true), some (some 37, true), none, none, some (some 47, true), some (some 47, true), some (some 47, true), some (some 47, true), some (some 47, true), some (some 47, true), some (some 47, true), some (some 47, true), some (some 47, true), some (some 47, true), none, none, some (some 59, true), some (some 59, true), some (some 59, true), some (some 59, true), some (some 59, true), some (some 59, true), some (some 59, true), some (some 59, true), none, none, some (some 69, true), some (some 69, true), some (some 69, true), some (some 69, true), some (some 69, true), some (some 69, true), some (some 69, true), some (some 69, true), none, none, some (some 79, true), none, none] [6] [] h rfl rfl (by simp (maxSteps := 10000000) only [EX, simprocAttr, Nat.blt, Nat.ble, tz_3, tz_4, tz_24, tz_28, tz_35, hb187t, hb197, hb203, hb278, hb285, hb290t, hb295t, hb302] <;> rfl) (by kernel_rfl) fun ac wd h => ?_
                  refine wp_ret ?_
                  injection hD with hD
                  subst hD
                  exact r_retE rfl h [.tmp 6] rfl (by simp only [retD, List.mapM_cons, List.mapM_nil, Option.bind_eq_bind, Option.pure_def, EX, simprocAttr, Nat.blt, Nat.ble, hb187t, hb197, hb203, hb278, hb285, hb290t, hb295t, hb302] <;> rfl)
                · rw [if_neg hb302] at hD; cases hD
              · rw [if_neg hb295] at hD; cases hD
            · rw [if_neg hb290] at hD; cases hD
          · rw [if_neg hb285] at hD; cases hD
        · rw [if_neg hb278] at hD; cases hD
      · rw [if_neg hb203] at hD
        have hb203n := eq_false_of_ne_true hb203
        refine r_condT h (!(r185)) (by simp only [EX, simprocAttr, Nat.blt, Nat.ble, hb187t, hb197, hb203n] <;> rfl) (by first | rfl | (simp only [EX, simprocAttr, Nat.blt, Nat.ble, hb187t, hb197, hb203n] <;> rfl)) ?_
        obtain ⟨r307, hc308, hD⟩ := Option.bind_eq_some_iff.1 hD
        have hc308k := L_law03_fixed_ok hc308
        refine rs_plain 27 [factE 25 hc308k] [none, none] [6] [] h rfl rfl (by simp only [EX, simprocAttr, Nat.blt, Nat.ble, tz_4, hb187t, hb197, hb203n] <;> rfl) fun ac wd h => ?_
        refine wp_ret ?_
        injection hD with hD
        subst hD
        exact r_retE rfl h [.tmp 6] rfl (by simp only [retD, List.mapM_cons, List.mapM_nil, Option.bind_eq_bind, Option.pure_def, EX, simprocAttr, Nat.blt, Nat.ble, hb187t, hb197, hb203n] <;> rfl)
    · rw [if_neg hb197] at hD; cases hD
  · rw [if_neg hb187] at hD; cases hD

set_option maxRecDepth 20000 in
set_option maxHeartbeats 4000000 in
theorem L_law03_GraphBack_ok {a0 : TGraph} {r : Bool} (hD : L_law03_GraphBack a0 = some r) :
    CallH Try.prog 4 [.agg [.d (.int .i64 a0.N), .d (.sl (List.map eA2I a0.Links))]] []
      (.one (.d (.bool r))) [] := by
  unfold L_law03_GraphBack at hD
  refine r_call Try.func4 rfl Try.ntmps4 (by kernel_rfl) (by rfl) (by rfl) (by simp) fun S Φ P0 wb ac h => ?_
  refine rs_plain 3 [] [none, none] [1] [(1, 0)] h rfl rfl (by simp only [EX, simprocAttr, Nat.blt, Nat.ble, tz_4, tz_24] <;> rfl) fun ac wd h => ?_
  obtain ⟨r609, hc610, hD⟩ := Option.bind_eq_some_iff.1 hD
  have hc610k := L_law03_Cut_ok hc610
  refine rs_plain 6 [factE 4 hc610k] [none, none, none] [1] [(1, 0)] h rfl rfl (by simp only [EX, simprocAttr, Nat.blt, Nat.ble, tz_24] <;> rfl) fun ac wd h => ?_
  refine wp_seq ?_
  obtain ⟨r615, hc616, hD⟩ := Option.bind_eq_some_iff.1 hD
  obtain ⟨r617, hc618, hD⟩ := Option.bind_eq_some_iff.1 hD
  have hc616k := L_law03_Ref_ok hc616
  have hc618k := L_ref03_Right_ok hc618
  refine rs_plain 10 [factE 7 hc616k, factE 8 hc618k] [none, none, none, none] [1, 12] [(1, 0)] h rfl rfl (by simp only [EX, simprocAttr, Nat.blt, Nat.ble, tz_4, tz_24, tz_28] <;> rfl) fun ac wd h => ?_
  by_cases hb633 : r617 = true
  · rw [if_pos hb633] at hD
    refine r_condF h (!(r617)) (by simp only [EX, simprocAttr, Nat.blt, Nat.ble, hb633] <;> rfl) (by first | rfl | (simp only [EX, simprocAttr, Nat.blt, Nat.ble, hb633] <;> rfl)) ?_
    refine wp_skip ?_
    change Code.wp Try.prog _ _ _ _
    refine wp_seq ?_
    refine rs_plain 11 [] [none] [1, 3] [(1, 0)] h rfl rfl (by simp only [EX, simprocAttr, Nat.blt, Nat.ble, tz_3, hb633] <;> rfl) fun ac wd h => ?_
    obtain ⟨e1110, hE1111, hD⟩ := Option.bind_eq_some_iff.1 hD
    refine r_meet (fun ac wd => () = e1110 ∧ SL ⟨wb, S, Φ, P0⟩ 112 148 [(1, .one (.ptr (1, 0) 0))] [((1, 0), some (.box 24 [.d (.int .i64 r609.N), .d (.sl (List.map eA2I r609.Links))]))] ac wd) ?_ ?_
    · skip
      refine wp_block ?_
      have h := h.same [1, 3] [(1, 0)] 143 [(1, .one (.ptr (1, 0) 0)), (3, .one (.d (.int .i64 0)))]
        [((1, 0), some (.box 24 [.d (.int .i64 r609.N), .d (.sl (List.map eA2I r609.Links))]))]
        (by simp only [EX, simprocAttr, Nat.blt, Nat.ble, hb633] <;> rfl)
      refine r_while (fun nf ac wd => ∃ (n1253 : Int), L_law03_GraphBack_l1 r609 nf n1253 = some e1110 ∧ SL ⟨wb, S, Φ, P0⟩ 112 143 [(1, .one (.ptr (1, 0) 0)), (3, .one (.d (.int .i64 n1253)))] [((1, 0), some (.box 24 [.d (.int .i64 r609.N), .d (.sl (List.map eA2I r609.Links))]))] ac wd) (((r609.Links.length : Int) - 0).toNat + 1) ⟨0, hE1111, h⟩ (fun nf ac wd hJ => ?_)
      obtain ⟨n1253, hL1254, h⟩ := hJ
      cases nf with
      | zero => rw [L_law03_GraphBack_l1] at hL1254; cases hL1254
      | succ nf =>
        rw [L_law03_GraphBack_l1] at hL1254
        refine wp_seq ?_
        refine rs_plain 148 [] [none, none, none, none, none] [1, 3, 23] [(1, 0)] h rfl rfl (by simp only [EX, simprocAttr, Nat.blt, Nat.ble, tz_3, tz_4, tz_22, tz_24, tz_43, hb633] <;> rfl) fun ac wd h => ?_
        by_cases hb1256 : n1253 < (r609.Links.length : Int)
        · rw [if_pos hb1256] at hL1254
          refine r_condT h (decide (n1253 < (r609.Links.length : Int))) (by simp only [EX, simprocAttr, Nat.blt, Nat.ble, hb633, hb1256] <;> rfl) (by first | rfl | (simp only [EX, simprocAttr, Nat.blt, Nat.ble, hb633, hb1256] <;> rfl)) ?_
          refine wp_skip ?_
          change Code.wp Try.prog _ _ _ _
          refine wp_seq ?_
          refine wp_block ?_
          obtain ⟨r1309, hc1310, hL1254⟩ := Option.bind_eq_some_iff.1 hL1254
          have hc1310k := L_graph_Back_ok hc1310
          refine rs_plain 152 [factE 150 hc1310k] [none, none, none, none] [1, 3, 4] [(1, 0)] h rfl rfl (by simp only [EX, simprocAttr, Nat.blt, Nat.ble, tz_3, tz_24, hb633, hb1256] <;> rfl) fun ac wd h => ?_
          by_cases hb1325 : r1309 < 0
          · rw [if_pos hb1325] at hL1254; cases hL1254
          · rw [if_neg hb1325] at hL1254
            by_cases hb1339 : r1309 ≥ (r609.Links.length : Int)
            · rw [if_pos hb1339] at hL1254; cases hL1254
            · rw [if_neg hb1339] at hL1254
              by_cases hb1352 : r1309 = n1253
              · rw [if_pos hb1352] at hL1254; cases hL1254
              · rw [if_neg hb1352] at hL1254
                obtain ⟨r1364, hc1365, hL1254⟩ := Option.bind_eq_some_iff.1 hL1254
                by_cases hb1366 : r1364 = n1253
                · rw [if_pos hb1366] at hL1254
                  have hb1366t := eq_true hb1366
                  obtain ⟨x1367, hx1368, hL1254⟩ := Option.bind_eq_some_iff.1 hL1254
                  obtain ⟨hx1368a, hx1368b, hx1368c⟩ := at_some hx1368
                  have hx1368d := (List.getElem?_eq_some_iff.1 hx1368b).1
                  obtain ⟨x1369, hx1370, hL1254⟩ := Option.bind_eq_some_iff.1 hL1254
                  obtain ⟨hx1370a, hx1370b, hx1370c⟩ := at_some hx1370
                  have hx1370d := (List.getElem?_eq_some_iff.1 hx1370b).1
                  by_cases hb1371 : x1367.a0 = x1369.a1
                  · rw [if_pos hb1371] at hL1254
                    have hb1371t := eq_true hb1371
                    obtain ⟨r1372, hc1373, hL1254⟩ := Option.bind_eq_some_iff.1 hL1254
                    have hc1365k := L_graph_Back_ok hc1365
                    have hc1373k := L_graph_Find_ok hc1373
                    refine rs_drawn 206 ty_hm [factE 169 hc1365k, factE 202 hc1373k] [none, none, none, some (some 31, false), some (some 31, false), some (some 31, false), some (some 31, false), some (some 31, false), none, none, some (some 38, false), some (some 38, false), some (some 38, false), none, none, some (some 43, false), some (some 43, false), some (some 43, false), some (some 43, false), some (some 43, false), none, none, some (some 50, false), some (some 50, false), some (some 50, false), some (some 50, false), some (some 50, false), some (some 50, false), some (some 50, false), some (some 50, false), some (some 50, false), some (some 50, false), some (some 50, false), some (some 50, false), some (some 50, false), none, none, some (some 65, false), some (some 65, false), some (some 65, false), some (some 65, false), some (some 65, false), some (some 65, false), some (some 65, false), some (some 65, false), some (some 65, false), some (some 65, false), some (some 65, false), some (some 65, false), some (some 65, false), some (some 65, false), some (some 65, false), some (some 65, false), none] [1, 3, 82] [(1, 0)] h rfl rfl (by simp (maxSteps := 10000000) only [EX, simprocAttr, Nat.blt, Nat.ble, tz_3, tz_4, tz_22, tz_24, tz_43, hb633, hb1256, hb1325, hb1339, hb1352, hb1366t, hb1371t, hx1368a, hx1368b, hx1368c, hx1368d, hx1370a, hx1370b, hx1370c, hx1370d] <;> rfl) (by kernel_rfl) fun ac wd h => ?_
                    by_cases hb1374 : r1372 = n1253
                    · rw [if_pos hb1374] at hL1254
                      have hb1374t := eq_true hb1374
                      refine r_condF h (!(decide (r1372 = n1253))) (by simp only [EX, simprocAttr, Nat.blt, Nat.ble, hb633, hb1256, hb1325, hb1339, hb1352, hb1366t, hb1371t, hb1374t] <;> rfl) (by first | rfl | (simp only [EX, simprocAttr, Nat.blt, Nat.ble, hb633, hb1256, hb1325, hb1339, hb1352, hb1366t, hb1371t, hb1374t] <;> rfl)) ?_
                      refine wp_skip ?_
                      change Code.wp Try.prog _ _ _ _
                      refine r_plain [] [none, none, none] [1, 3] [(1, 0)] h rfl (by simp only [EX, simprocAttr, Nat.blt, Nat.ble, tz_3, hb633, hb1256, hb1325, hb1339, hb1352, hb1366t, hb1371t, hb1374t] <;> rfl) fun ac wd h => ?_
                      have h := h.same [1, 3] [(1, 0)] 143 [(1, .one (.ptr (1, 0) 0)), (3, .one (.d (.int .i64 (IntKind.wrap .i64 (n1253 + 1)))))]
                        [((1, 0), some (.box 24 [.d (.int .i64 r609.N), .d (.sl (List.map eA2I r609.Links))]))]
                        (by simp only [EX, simprocAttr, Nat.blt, Nat.ble, hb633, hb1256, hb1325, hb1339, hb1352, hb1366t, hx1368a, hx1368b, hx1368c, hx1368d, hx1370a, hx1370b, hx1370c, hx1370d, hb1371t, hb1374t] <;> rfl)
                      change ∃ n', _ ∧ _
                      exact ⟨nf, Nat.lt_succ_self nf, (IntKind.wrap .i64 (n1253 + 1)), hL1254, h⟩
                    · rw [if_neg hb1374] at hL1254; cases hL1254
                  · rw [if_neg hb1371] at hL1254; cases hL1254
                · rw [if_neg hb1366] at hL1254; cases hL1254
        · rw [if_neg hb1256] at hL1254
          refine r_condF h (decide (n1253 < (r609.Links.length : Int))) (by simp only [EX, simprocAttr, Nat.blt, Nat.ble, hb633, hb1256] <;> rfl) (by first | rfl | (simp only [EX, simprocAttr, Nat.blt, Nat.ble, hb633, hb1256] <;> rfl)) ?_
          refine wp_exit ?_
          have h := h.same [1] [(1, 0)] 148 [(1, .one (.ptr (1, 0) 0))]
            [((1, 0), some (.box 24 [.d (.int .i64 r609.N), .d (.sl (List.map eA2I r609.Links))]))]
            (by simp only [EX, simprocAttr, Nat.blt, Nat.ble, hb633, hb1256] <;> rfl)
          injection hL1254 with hL1254
          exact ⟨hL1254, h⟩
    · skip
      rintro ac wd ⟨rfl, h⟩
      (try dsimp only at hD)
      refine rs_plain 149 [] [none] [1, 5] [(1, 0)] h rfl rfl (by simp only [EX, simprocAttr, Nat.blt, Nat.ble, tz_3, hb633] <;> rfl) fun ac wd h => ?_
      refine wp_seq ?_
      refine rs_plain 150 [] [none] [1, 5, 6] [(1, 0)] h rfl rfl (by simp only [EX, simprocAttr, Nat.blt, Nat.ble, tz_3, hb633] <;> rfl) fun ac wd h => ?_
      obtain ⟨e1446, hE1447, hD⟩ := Option.bind_eq_some_iff.1 hD
      refine r_meet (fun ac wd => ∃ (n1445 : Int), n1445 = e1446 ∧ SL ⟨wb, S, Φ, P0⟩ 112 200 [(1, .one (.ptr (1, 0) 0)), (5, .one (.d (.int .i64 n1445)))] [((1, 0), some (.box 24 [.d (.int .i64 r609.N), .d (.sl (List.map eA2I r609.Links))]))] ac wd) ?_ ?_
      · skip
        refine wp_block ?_
        have h := h.same [1, 5, 6] [(1, 0)] 196 [(1, .one (.ptr (1, 0) 0)), (5, .one (.d (.int .i64 0))), (6, .one (.d (.int .i64 0)))]
          [((1, 0), some (.box 24 [.d (.int .i64 r609.N), .d (.sl (List.map eA2I r609.Links))]))]
          (by simp only [EX, simprocAttr, Nat.blt, Nat.ble, hb633] <;> rfl)
        refine r_while (fun nf ac wd => ∃ (n1490 : Int) (n1491 : Int), L_law03_GraphBack_l2 r609 nf n1490 n1491 = some e1446 ∧ SL ⟨wb, S, Φ, P0⟩ 112 196 [(1, .one (.ptr (1, 0) 0)), (5, .one (.d (.int .i64 n1490))), (6, .one (.d (.int .i64 n1491)))] [((1, 0), some (.box 24 [.d (.int .i64 r609.N), .d (.sl (List.map eA2I r609.Links))]))] ac wd) ((r609.N - 0).toNat + 1) ⟨0, 0, hE1447, h⟩ (fun nf ac wd hJ => ?_)
        obtain ⟨n1490, n1491, hL1492, h⟩ := hJ
        cases nf with
        | zero => rw [L_law03_GraphBack_l2] at hL1492; cases hL1492
        | succ nf =>
          rw [L_law03_GraphBack_l2] at hL1492
          refine wp_seq ?_
          refine rs_plain 200 [] [none, none, none, none] [1, 5, 6, 86] [(1, 0)] h rfl rfl (by simp only [EX, simprocAttr, Nat.blt, Nat.ble, tz_3, tz_4, tz_24, hb633] <;> rfl) fun ac wd h => ?_
          by_cases hb1494 : n1491 < r609.N
          · rw [if_pos hb1494] at hL1492
            refine r_condT h (decide (n1491 < r609.N)) (by simp only [EX, simprocAttr, Nat.blt, Nat.ble, hb633, hb1494] <;> rfl) (by first | rfl | (simp only [EX, simprocAttr, Nat.blt, Nat.ble, hb633, hb1494] <;> rfl)) ?_
            refine wp_skip ?_
            change Code.wp Try.prog _ _ _ _
            refine wp_seq ?_
            refine wp_block ?_
            obtain ⟨r1511, hc1512, hL1492⟩ := Option.bind_eq_some_iff.1 hL1492
            have hc1512k := L_graph_Out_ok hc1512
            refine rs_plain 207 [factE 203 hc1512k] [none, none, none, none, none, none, none] [1, 5, 6] [(1, 0)] h rfl rfl (by simp only [EX, simprocAttr, Nat.blt, Nat.ble, tz_3, tz_24, tz_35, hb633, hb1494] <;> rfl) fun ac wd h => ?_
            obtain ⟨r1515, hc1516, hL1492⟩ := Option.bind_eq_some_iff.1 hL1492
            have hc1512k := L_graph_Out_ok hc1512
            have hc1516k := L_graph_In_ok hc1516
            refine rs_drawn 216 ty_hm [factE 209 hc1512k, factE 213 hc1516k] [none, none, none, none, none, none, none, none, none] [1, 5, 6, 103] [(1, 0)] h rfl rfl (by simp only [EX, simprocAttr, Nat.blt, Nat.ble, tz_3, tz_4, tz_24, tz_35, hb633, hb1494] <;> rfl) (by kernel_rfl) fun ac wd h => ?_
            by_cases hb1517 : (r1511.length : Int) = (r1515.length : Int)
            · rw [if_pos hb1517] at hL1492
              have hb1517t := eq_true hb1517
              refine r_condF h (!(decide ((r1511.length : Int) = (r1515.length : Int)))) (by simp only [EX, simprocAttr, Nat.blt, Nat.ble, hb633, hb1494, hb1517t] <;> rfl) (by first | rfl | (simp only [EX, simprocAttr, Nat.blt, Nat.ble, hb633, hb1494, hb1517t] <;> rfl)) ?_
              refine wp_skip ?_
              change Code.wp Try.prog _ _ _ _
              refine r_plain [] [none, none, none] [1, 5, 6] [(1, 0)] h rfl (by simp only [EX, simprocAttr, Nat.blt, Nat.ble, tz_3, hb633, hb1494, hb1517t] <;> rfl) fun ac wd h => ?_
              have h := h.same [1, 5, 6] [(1, 0)] 196 [(1, .one (.ptr (1, 0) 0)), (5, .one (.d (.int .i64 (IntKind.wrap .i64 (n1490 + (r1511.length : Int)))))), (6, .one (.d (.int .i64 (IntKind.wrap .i64 (n1491 + 1)))))]
                [((1, 0), some (.box 24 [.d (.int .i64 r609.N), .d (.sl (List.map eA2I r609.Links))]))]
                (by simp only [EX, simprocAttr, Nat.blt, Nat.ble, hb633, hb1494, hb1517t] <;> rfl)
              change ∃ n', _ ∧ _
              exact ⟨nf, Nat.lt_succ_self nf, (IntKind.wrap .i64 (n1490 + (r1511.length : Int))), (IntKind.wrap .i64 (n1491 + 1)), hL1492, h⟩
            · rw [if_neg hb1517] at hL1492; cases hL1492
          · rw [if_neg hb1494] at hL1492
            refine r_condF h (decide (n1491 < r609.N)) (by simp only [EX, simprocAttr, Nat.blt, Nat.ble, hb633, hb1494] <;> rfl) (by first | rfl | (simp only [EX, simprocAttr, Nat.blt, Nat.ble, hb633, hb1494] <;> rfl)) ?_
            refine wp_exit ?_
            have h := h.same [1, 5] [(1, 0)] 200 [(1, .one (.ptr (1, 0) 0)), (5, .one (.d (.int .i64 n1490)))]
              [((1, 0), some (.box 24 [.d (.int .i64 r609.N), .d (.sl (List.map eA2I r609.Links))]))]
              (by simp only [EX, simprocAttr, Nat.blt, Nat.ble, hb633, hb1494] <;> rfl)
            injection hL1492 with hL1492
            exact ⟨n1490, hL1492, h⟩
      · skip
        rintro ac wd ⟨n1445, rfl, h⟩
        (try dsimp only at hD)
        by_cases hb1521 : n1445 = (r609.Links.length : Int)
        · rw [if_pos hb1521] at hD
          have hb1521t := eq_true hb1521
          obtain ⟨r1522, hc1523, hD⟩ := Option.bind_eq_some_iff.1 hD
          have hc1523k := L_law03_fixed_ok hc1523
          refine rs_plain 209 [factE 206 hc1523k] [none, none, none, none, none, none, some (some 109, true), none, none] [2] [] h rfl rfl (by simp only [EX, simprocAttr, Nat.blt, Nat.ble, tz_3, tz_4, tz_22, tz_24, tz_43, hb633, hb1521t] <;> rfl) fun ac wd h => ?_
          refine wp_ret ?_
          injection hD with hD
          subst hD
          exact r_retE rfl h [.tmp 2] rfl (by simp only [retD, List.mapM_cons, List.mapM_nil, Option.bind_eq_bind, Option.pure_def, EX, simprocAttr, Nat.blt, Nat.ble, hb633, hb1521t] <;> rfl)
        · rw [if_neg hb1521] at hD; cases hD
  · rw [if_neg hb633] at hD
    have hb633n := eq_false_of_ne_true hb633
    refine r_condT h (!(r617)) (by simp only [EX, simprocAttr, Nat.blt, Nat.ble, hb633n] <;> rfl) (by first | rfl | (simp only [EX, simprocAttr, Nat.blt, Nat.ble, hb633n] <;> rfl)) ?_
    obtain ⟨r1529, hc1530, hD⟩ := Option.bind_eq_some_iff.1 hD
    by_cases hb1531 : r1529 = true
    · rw [if_pos hb1531] at hD; cases hD
    · rw [if_neg hb1531] at hD
      have hb1531n := eq_false_of_ne_true hb1531
      obtain ⟨r1534, hc1535, hD⟩ := Option.bind_eq_some_iff.1 hD
      have hc1530k := L_graph_Right_ok hc1530
      have hc1535k := L_law03_fixed_ok hc1535
      refine rs_plain 17 [factE 11 hc1530k, factE 14 hc1535k] [none, none, none, none, some (some 16, true), none, none] [2] [] h rfl rfl (by simp only [EX, simprocAttr, Nat.blt, Nat.ble, tz_4, tz_24, hb633n, hb1531n] <;> rfl) fun ac wd h => ?_
      refine wp_ret ?_
      injection hD with hD
      subst hD
      exact r_retE rfl h [.tmp 2] rfl (by simp only [retD, List.mapM_cons, List.mapM_nil, Option.bind_eq_bind, Option.pure_def, EX, simprocAttr, Nat.blt, Nat.ble, hb633n, hb1531n] <;> rfl)

end Go.Proofs.Yteohodhcegbmmaa
