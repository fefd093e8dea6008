/- Functions as typed ones, and that the program's functions answer as these do. No condition. -/
import Derived.Test.YteohodhcegbmmaaGb0
set_option linter.unusedSimpArgs false
set_option linter.unusedVariables false
namespace Go.Proofs.Yteohodhcegbmmaa
open Go.RowKit

set_option maxRecDepth 20000 in
set_option maxHeartbeats 4000000 in
theorem L_ref03_Dist_own {a0 : TGraph} {a1 : Int} {r : (List Int)} (hD : L_ref03_Dist a0 a1 = some r) :
    CallH Try.prog 28 [.agg [.d (.int .i64 a0.N), .d (.sl (List.map eA2I a0.Links))], .one (.d (.int .i64 a1))] []
      (.one (.own (1, 0) r.length)) [((1, 0), some (.row 3 1 (dat (List.map eI r))))] := by
  unfold L_ref03_Dist at hD
  refine r_call Try.func28 rfl Try.ntmps28 (by kernel_rfl) (by rfl) (by simp only [shutB, EX, simprocAttr, Nat.blt, Nat.ble] <;> rfl) (by simp) fun S Φ P0 wb ac h => ?_
  refine rs_plain 3 [] [none, none] [1, 2] [(1, 0)] h rfl rfl (by simp only [EX, simprocAttr, Nat.blt, Nat.ble, tz_3, tz_28, tz_35] <;> rfl) fun ac wd h => ?_
  refine rs_plain 5 [] [none, none] [1, 2, 5] [(1, 0), (3, 0)] h rfl rfl (by simp only [EX, simprocAttr, Nat.blt, Nat.ble, tz_3, tz_35] <;> rfl) fun ac wd h => ?_
  refine wp_seq ?_
  obtain ⟨e1794, hE1795, hD⟩ := Option.bind_eq_some_iff.1 hD
  refine r_seqJ (fun ac wd => ∃ (b1793 : Bool), b1793 = e1794 ∧ SL ⟨wb, S, Φ, P0⟩ 77 13 [(1, .one (.d (.int .i64 a1))), (2, .one (.ptr (1, 0) 0)), (5, .one (.own (3, 0) 0)), (19, .one (.d (.bool b1793)))] [((1, 0), some (.box 28 [.d (.int .i64 a0.N), .d (.sl (List.map eA2I a0.Links))])), ((3, 0), some (.row 3 1 ([])))] ac wd) ?_ ?_
  · skip
    by_cases hb1796 : a1 < 0
    · rw [if_pos hb1796] at hE1795
      refine r_plain [] [none, none, none, some (some 14, false), some (some 14, false), some (some 14, false), some (some 14, false), none] [1, 2, 5, 19] [(1, 0), (3, 0)] h rfl (by simp only [EX, simprocAttr, Nat.blt, Nat.ble, tz_3, tz_4, tz_28, hb1796] <;> rfl) fun ac wd h => ?_
      have h := h.same [1, 2, 5, 19] [(1, 0), (3, 0)] 13 [(1, .one (.d (.int .i64 a1))), (2, .one (.ptr (1, 0) 0)), (5, .one (.own (3, 0) 0)), (19, .one (.d (.bool true)))]
        [((1, 0), some (.box 28 [.d (.int .i64 a0.N), .d (.sl (List.map eA2I a0.Links))])), ((3, 0), some (.row 3 1 ([])))]
        (by simp only [EX, simprocAttr, Nat.blt, Nat.ble, hb1796] <;> rfl)
      injection hE1795 with hE1795
      exact ⟨true, hE1795, h⟩
    · rw [if_neg hb1796] at hE1795
      refine r_plain [] [none, none, none, some (some 14, false), some (some 14, false), some (some 14, false), some (some 14, false), none] [1, 2, 5, 19] [(1, 0), (3, 0)] h rfl (by simp only [EX, simprocAttr, Nat.blt, Nat.ble, tz_3, tz_4, tz_28, hb1796] <;> rfl) fun ac wd h => ?_
      have h := h.same [1, 2, 5, 19] [(1, 0), (3, 0)] 13 [(1, .one (.d (.int .i64 a1))), (2, .one (.ptr (1, 0) 0)), (5, .one (.own (3, 0) 0)), (19, .one (.d (.bool (decide (a1 ≥ a0.N)))))]
        [((1, 0), some (.box 28 [.d (.int .i64 a0.N), .d (.sl (List.map eA2I a0.Links))])), ((3, 0), some (.row 3 1 ([])))]
        (by simp only [EX, simprocAttr, Nat.blt, Nat.ble, hb1796] <;> rfl)
      injection hE1795 with hE1795
      exact ⟨decide (a1 ≥ a0.N), hE1795, h⟩
  · skip
    rintro ac wd ⟨b1793, rfl, h⟩
    (try dsimp only at hD)
    by_cases hb1798 : b1793 = true
    · rw [if_pos hb1798] at hD
      refine r_condT h b1793 (by simp only [EX, simprocAttr, Nat.blt, Nat.ble, hb1798] <;> rfl) (by first | rfl | (simp only [EX, simprocAttr, Nat.blt, Nat.ble, hb1798] <;> rfl)) ?_
      refine rs_plain 15 [] [none, none] [4] [(3, 0)] h rfl rfl (by simp only [EX, simprocAttr, Nat.blt, Nat.ble, tz_3, tz_35, hb1798] <;> rfl) fun ac wd h => ?_
      refine wp_ret ?_
      have h := h.same [4] [(3, 0)] 15 [(4, .one (.own (3, 0) 0))]
        [((3, 0), some (.row 3 1 ([])))]
        (by simp only [EX, simprocAttr, Nat.blt, Nat.ble, hb1798, dat_open] <;> rfl)
      have h := SL.swap h (1, 0) (3, 0) 15 (by decide) (by decide) (by simp only [EX, simprocAttr, Nat.blt, Nat.ble, hb1798, e_ren3, fren, mren, AV.ren, AObj.ren, Cell.ren, sumRen, Upd.ren, swp, csw, dat_ren, opn_ren] <;> rfl) (by simp only [EX, simprocAttr, Nat.blt, Nat.ble, hb1798, e_ren3, fren, mren, AV.ren, AObj.ren, Cell.ren, sumRen, Upd.ren, swp, csw, dat_ren, opn_ren] <;> rfl) (by simp only [EX, simprocAttr, Nat.blt, Nat.ble, hb1798, e_ren3, fren, mren, AV.ren, AObj.ren, Cell.ren, sumRen, Upd.ren, swp, csw, dat_ren, opn_ren] <;> rfl)
      have h := h.same [4] [(1, 0)] 15 [(4, .one (.own (1, 0) 0))]
        [((1, 0), some (.row 3 1 ([])))]
        (by simp only [EX, simprocAttr, Nat.blt, Nat.ble, hb1798, dat_open] <;> rfl)
      injection hD with hD
      subst hD
      exact r_retO rfl h [.tmp 4] rfl [(1, 0)] (by simp only [retO, List.mapM_cons, List.mapM_nil, Option.bind_eq_bind, Option.pure_def, EX, simprocAttr, Nat.blt, Nat.ble, hb1798] <;> rfl)
    · rw [if_neg hb1798] at hD
      have hb1798n := eq_false_of_ne_true hb1798
      refine r_condF h b1793 (by simp only [EX, simprocAttr, Nat.blt, Nat.ble, hb1798n] <;> rfl) (by first | rfl | (simp only [EX, simprocAttr, Nat.blt, Nat.ble, hb1798n] <;> rfl)) ?_
      refine wp_skip ?_
      change Code.wp Try.prog _ _ _ _
      refine wp_seq ?_
      refine rs_plain 14 [] [none] [1, 2, 5, 6] [(1, 0), (3, 0)] h rfl rfl (by simp only [EX, simprocAttr, Nat.blt, Nat.ble, tz_3, hb1798n] <;> rfl) fun ac wd h => ?_
      obtain ⟨e1814, hE1815, hD⟩ := Option.bind_eq_some_iff.1 hD
      refine r_meet (fun ac wd => ∃ (l1813 : List Int), l1813 = e1814 ∧ SL ⟨wb, S, Φ, P0⟩ 77 40 [(1, .one (.d (.int .i64 a1))), (2, .one (.ptr (1, 0) 0)), (5, .one (.own (3, 0) l1813.length))] [((1, 0), some (.box 28 [.d (.int .i64 a0.N), .d (.sl (List.map eA2I a0.Links))])), ((3, 0), some (.row 3 1 (dat (List.map eI l1813))))] ac wd) ?_ ?_
      · skip
        refine wp_block ?_
        have h := h.same [1, 2, 5, 6] [(1, 0), (3, 0)] 36 [(1, .one (.d (.int .i64 a1))), (2, .one (.ptr (1, 0) 0)), (5, .one (.own (3, 0) ([] : List Int).length)), (6, .one (.d (.int .i64 0)))]
          [((1, 0), some (.box 28 [.d (.int .i64 a0.N), .d (.sl (List.map eA2I a0.Links))])), ((3, 0), some (.row 3 1 (dat (List.map eI ([] : List Int)))))]
          (by simp only [EX, simprocAttr, Nat.blt, Nat.ble, hb1798n] <;> rfl)
        refine r_while (fun nf ac wd => ∃ (n1824 : Int) (l1825 : List Int), L_ref03_Dist_l1 a0 nf n1824 l1825 = some e1814 ∧ SL ⟨wb, S, Φ, P0⟩ 77 36 [(1, .one (.d (.int .i64 a1))), (2, .one (.ptr (1, 0) 0)), (5, .one (.own (3, 0) l1825.length)), (6, .one (.d (.int .i64 n1824)))] [((1, 0), some (.box 28 [.d (.int .i64 a0.N), .d (.sl (List.map eA2I a0.Links))])), ((3, 0), some (.row 3 1 (dat (List.map eI l1825))))] ac wd) ((a0.N - 0).toNat + 1) ⟨0, ([] : List Int), hE1815, h⟩ (fun nf ac wd hJ => ?_)
        obtain ⟨n1824, l1825, hL1826, h⟩ := hJ
        cases nf with
        | zero => rw [L_ref03_Dist_l1] at hL1826; cases hL1826
        | succ nf =>
          rw [L_ref03_Dist_l1] at hL1826
          refine wp_seq ?_
          refine rs_plain 40 [] [none, none, none, none] [1, 2, 5, 6, 24] [(1, 0), (3, 0)] h rfl rfl (by simp only [EX, simprocAttr, Nat.blt, Nat.ble, tz_3, tz_4, tz_28, hb1798n] <;> rfl) fun ac wd h => ?_
          by_cases hb1828 : n1824 < a0.N
          · rw [if_pos hb1828] at hL1826
            refine r_condT h (decide (n1824 < a0.N)) (by simp only [EX, simprocAttr, Nat.blt, Nat.ble, hb1798n, hb1828] <;> rfl) (by first | rfl | (simp only [EX, simprocAttr, Nat.blt, Nat.ble, hb1798n, hb1828] <;> rfl)) ?_
            refine wp_skip ?_
            change Code.wp Try.prog _ _ _ _
            refine wp_seq ?_
            refine wp_block ?_
            by_cases ha1830 : (l1825.length + 1) * 8 ≤ 140737488355328
            case neg => rw [if_neg ha1830] at hL1826; cases hL1826
            rw [if_pos ha1830] at hL1826
            refine r_plain [] [none, none, none, none] [1, 2, 5, 6] [(1, 0), (42, 0)] h rfl (by simp only [EX, simprocAttr, Nat.blt, Nat.ble, tz_3, tz_35, hb1798n, hb1828, ha1830] <;> rfl) fun ac wd h => ?_
            change Code.wp Try.prog _ _ _ _
            refine r_plain [] [none, none, none] [1, 2, 5, 6] [(1, 0), (42, 0)] h rfl (by simp only [EX, simprocAttr, Nat.blt, Nat.ble, tz_3, hb1798n, hb1828, ha1830] <;> rfl) fun ac wd h => ?_
            have h := SL.swap h (3, 0) (42, 0) 47 (by decide) (by decide) (by simp only [EX, simprocAttr, Nat.blt, Nat.ble, hb1798n, hb1828, ha1830, e_ren3, fren, mren, AV.ren, AObj.ren, Cell.ren, sumRen, Upd.ren, swp, csw, dat_ren, opn_ren] <;> rfl) (by simp only [EX, simprocAttr, Nat.blt, Nat.ble, hb1798n, hb1828, ha1830, e_ren3, fren, mren, AV.ren, AObj.ren, Cell.ren, sumRen, Upd.ren, swp, csw, dat_ren, opn_ren] <;> rfl) (by simp only [EX, simprocAttr, Nat.blt, Nat.ble, hb1798n, hb1828, ha1830, e_ren3, fren, mren, AV.ren, AObj.ren, Cell.ren, sumRen, Upd.ren, swp, csw, dat_ren, opn_ren] <;> rfl)
            have h := h.same [1, 2, 5, 6] [(1, 0), (3, 0)] 36 [(1, .one (.d (.int .i64 a1))), (2, .one (.ptr (1, 0) 0)), (5, .one (.own (3, 0) (l1825 ++ [(-1)]).length)), (6, .one (.d (.int .i64 (IntKind.wrap .i64 (n1824 + 1)))))]
              [((1, 0), some (.box 28 [.d (.int .i64 a0.N), .d (.sl (List.map eA2I a0.Links))])), ((3, 0), some (.row 3 1 (dat (List.map eI (l1825 ++ [(-1)])))))]
              (by simp only [EX, simprocAttr, Nat.blt, Nat.ble, hb1798n, hb1828, ha1830] <;> rfl)
            change ∃ n', _ ∧ _
            exact ⟨nf, Nat.lt_succ_self nf, (IntKind.wrap .i64 (n1824 + 1)), (l1825 ++ [(-1)]), hL1826, h⟩
          · rw [if_neg hb1828] at hL1826
            refine r_condF h (decide (n1824 < a0.N)) (by simp only [EX, simprocAttr, Nat.blt, Nat.ble, hb1798n, hb1828] <;> rfl) (by first | rfl | (simp only [EX, simprocAttr, Nat.blt, Nat.ble, hb1798n, hb1828] <;> rfl)) ?_
            refine wp_exit ?_
            have h := h.same [1, 2, 5] [(1, 0), (3, 0)] 40 [(1, .one (.d (.int .i64 a1))), (2, .one (.ptr (1, 0) 0)), (5, .one (.own (3, 0) l1825.length))]
              [((1, 0), some (.box 28 [.d (.int .i64 a0.N), .d (.sl (List.map eA2I a0.Links))])), ((3, 0), some (.row 3 1 (dat (List.map eI l1825))))]
              (by simp only [EX, simprocAttr, Nat.blt, Nat.ble, hb1798n, hb1828] <;> rfl)
            injection hL1826 with hL1826
            exact ⟨l1825, hL1826, h⟩
      · skip
        rintro ac wd ⟨l1813, rfl, h⟩
        (try dsimp only at hD)
        obtain ⟨x1833, hx1834, hD⟩ := Option.bind_eq_some_iff.1 hD
        obtain ⟨hx1834a, hx1834b, hx1834c⟩ := at_some hx1834
        have hx1834d := (List.getElem?_eq_some_iff.1 hx1834b).1
        refine rs_plain 44 [] [none, none, none, none] [2, 5] [(1, 0), (3, 0)] h rfl rfl (by simp only [EX, simprocAttr, Nat.blt, Nat.ble, tz_3, tz_35, hb1798n, hx1834a, hx1834b, hx1834c, hx1834d] <;> rfl) fun ac wd h => ?_
        refine wp_seq ?_
        refine rs_plain 45 [] [none] [2, 5, 7] [(1, 0), (3, 0)] h rfl rfl (by simp only [EX, simprocAttr, Nat.blt, Nat.ble, tz_3, hb1798n] <;> rfl) fun ac wd h => ?_
        refine wp_block ?_
        have h := h.same [2, 5, 7] [(1, 0), (3, 0)] 235 [(2, .one (.ptr (1, 0) 0)), (5, .one (.own (3, 0) (l1813.set a1.toNat 0).length)), (7, .one (.d (.int .i64 0)))]
          [((1, 0), some (.box 28 [.d (.int .i64 a0.N), .d (.sl (List.map eA2I a0.Links))])), ((3, 0), some (.row 3 1 (dat (List.map eI (l1813.set a1.toNat 0)))))]
          (by simp only [EX, simprocAttr, Nat.blt, Nat.ble, hb1798n, hx1834a, hx1834b, hx1834c, hx1834d] <;> rfl)
        refine r_while (fun nf ac wd => ∃ (n3296 : Int) (l3297 : List Int), L_ref03_Dist_l2 a0 nf n3296 l3297 = some r ∧ SL ⟨wb, S, Φ, P0⟩ 77 235 [(2, .one (.ptr (1, 0) 0)), (5, .one (.own (3, 0) l3297.length)), (7, .one (.d (.int .i64 n3296)))] [((1, 0), some (.box 28 [.d (.int .i64 a0.N), .d (.sl (List.map eA2I a0.Links))])), ((3, 0), some (.row 3 1 (dat (List.map eI l3297))))] ac wd) ((a0.N - 0).toNat + 1) ⟨0, (l1813.set a1.toNat 0), hD, h⟩ (fun nf ac wd hJ => ?_)
        obtain ⟨n3296, l3297, hL3298, h⟩ := hJ
        cases nf with
        | zero => rw [L_ref03_Dist_l2] at hL3298; cases hL3298
        | succ nf =>
          rw [L_ref03_Dist_l2] at hL3298
          refine wp_seq ?_
          refine rs_plain 239 [] [none, none, none, none] [2, 5, 7, 36] [(1, 0), (3, 0)] h rfl rfl (by simp only [EX, simprocAttr, Nat.blt, Nat.ble, tz_3, tz_4, tz_28, hb1798n] <;> rfl) fun ac wd h => ?_
          by_cases hb3300 : n3296 < a0.N
          · rw [if_pos hb3300] at hL3298
            refine r_condT h (decide (n3296 < a0.N)) (by simp only [EX, simprocAttr, Nat.blt, Nat.ble, hb1798n, hb3300] <;> rfl) (by first | rfl | (simp only [EX, simprocAttr, Nat.blt, Nat.ble, hb1798n, hb3300] <;> rfl)) ?_
            refine wp_skip ?_
            change Code.wp Try.prog _ _ _ _
            obtain ⟨e3441, hE3442, hL3298⟩ := Option.bind_eq_some_iff.1 hL3298
            refine r_seqJ (fun ac wd => ∃ (l3440 : List Int), l3440 = e3441 ∧ SL ⟨wb, S, Φ, P0⟩ 77 327 [(2, .one (.ptr (1, 0) 0)), (5, .one (.own (3, 0) l3440.length)), (7, .one (.d (.int .i64 n3296)))] [((1, 0), some (.box 28 [.d (.int .i64 a0.N), .d (.sl (List.map eA2I a0.Links))])), ((3, 0), some (.row 3 1 (dat (List.map eI l3440))))] ac wd) ?_ ?_
            · skip
              refine wp_block ?_
              refine rs_plain 240 [] [none] [2, 5, 7, 8] [(1, 0), (3, 0)] h rfl rfl (by simp only [EX, simprocAttr, Nat.blt, Nat.ble, tz_3, hb1798n, hb3300] <;> rfl) fun ac wd h => ?_
              obtain ⟨e3583, hE3584, hE3442⟩ := Option.bind_eq_some_iff.1 hE3442
              refine r_meetQ (fun ac wd => ∃ (l3582 : List Int), l3582 = e3583 ∧ SL ⟨wb, S, Φ, P0⟩ 77 327 [(2, .one (.ptr (1, 0) 0)), (5, .one (.own (3, 0) l3582.length)), (7, .one (.d (.int .i64 n3296)))] [((1, 0), some (.box 28 [.d (.int .i64 a0.N), .d (.sl (List.map eA2I a0.Links))])), ((3, 0), some (.row 3 1 (dat (List.map eI l3582))))] ac wd) ?_ ?_
              · skip
                refine wp_block ?_
                have h := h.same [2, 5, 7, 8] [(1, 0), (3, 0)] 322 [(2, .one (.ptr (1, 0) 0)), (5, .one (.own (3, 0) l3297.length)), (7, .one (.d (.int .i64 n3296))), (8, .one (.d (.int .i64 0)))]
                  [((1, 0), some (.box 28 [.d (.int .i64 a0.N), .d (.sl (List.map eA2I a0.Links))])), ((3, 0), some (.row 3 1 (dat (List.map eI l3297))))]
                  (by simp only [EX, simprocAttr, Nat.blt, Nat.ble, hb1798n, hx1834a, hx1834b, hx1834c, hx1834d, hb3300] <;> rfl)
                refine r_while (fun nf ac wd => ∃ (n3677 : Int) (l3678 : List Int), L_ref03_Dist_l3 a0 n3296 nf n3677 l3678 = some e3583 ∧ SL ⟨wb, S, Φ, P0⟩ 77 322 [(2, .one (.ptr (1, 0) 0)), (5, .one (.own (3, 0) l3678.length)), (7, .one (.d (.int .i64 n3296))), (8, .one (.d (.int .i64 n3677)))] [((1, 0), some (.box 28 [.d (.int .i64 a0.N), .d (.sl (List.map eA2I a0.Links))])), ((3, 0), some (.row 3 1 (dat (List.map eI l3678))))] ac wd) (((a0.Links.length : Int) - 0).toNat + 1) ⟨0, l3297, hE3584, h⟩ (fun nf ac wd hJ => ?_)
                obtain ⟨n3677, l3678, hL3679, h⟩ := hJ
                cases nf with
                | zero => rw [L_ref03_Dist_l3] at hL3679; cases hL3679
                | succ nf =>
                  rw [L_ref03_Dist_l3] at hL3679
                  refine wp_seq ?_
                  refine rs_plain 327 [] [none, none, none, none, none] [2, 5, 7, 8, 43] [(1, 0), (3, 0)] h rfl rfl (by simp only [EX, simprocAttr, Nat.blt, Nat.ble, tz_3, tz_4, tz_22, tz_28, tz_43, hb1798n, hb3300] <;> rfl) fun ac wd h => ?_
                  by_cases hb3681 : n3677 < (a0.Links.length : Int)
                  · rw [if_pos hb3681] at hL3679
                    refine r_condT h (decide (n3677 < (a0.Links.length : Int))) (by simp only [EX, simprocAttr, Nat.blt, Nat.ble, hb1798n, hb3300, hb3681] <;> rfl) (by first | rfl | (simp only [EX, simprocAttr, Nat.blt, Nat.ble, hb1798n, hb3300, hb3681] <;> rfl)) ?_
                    refine wp_skip ?_
                    change Code.wp Try.prog _ _ _ _
                    obtain ⟨e3703, hE3704, hL3679⟩ := Option.bind_eq_some_iff.1 hL3679
                    refine r_seqJ (fun ac wd => ∃ (l3702 : List Int), l3702 = e3703 ∧ SL ⟨wb, S, Φ, P0⟩ 77 360 [(2, .one (.ptr (1, 0) 0)), (5, .one (.own (3, 0) l3702.length)), (7, .one (.d (.int .i64 n3296))), (8, .one (.d (.int .i64 n3677)))] [((1, 0), some (.box 28 [.d (.int .i64 a0.N), .d (.sl (List.map eA2I a0.Links))])), ((3, 0), some (.row 3 1 (dat (List.map eI l3702))))] ac wd) ?_ ?_
                    · skip
                      refine wp_block ?_
                      obtain ⟨x3707, hx3708, hE3704⟩ := Option.bind_eq_some_iff.1 hE3704
                      obtain ⟨hx3708a, hx3708b, hx3708c⟩ := at_some hx3708
                      have hx3708d := (List.getElem?_eq_some_iff.1 hx3708b).1
                      refine rs_drawn 341 ty_hm [] [none, none, none, none, none, none, none, none, none, none, none, none, none, none] [2, 5, 7, 8, 9, 10] [(1, 0), (3, 0)] h rfl rfl (by simp only [EX, simprocAttr, Nat.blt, Nat.ble, tz_3, tz_22, tz_28, tz_43, hb1798n, hb3300, hb3681, hx3708a, hx3708b, hx3708c, hx3708d] <;> rfl) (by kernel_rfl) fun ac wd h => ?_
                      obtain ⟨e3715, hE3716, hE3704⟩ := Option.bind_eq_some_iff.1 hE3704
                      refine r_seqJ (fun ac wd => ∃ (b3714 : Bool), b3714 = e3715 ∧ SL ⟨wb, S, Φ, P0⟩ 77 354 [(2, .one (.ptr (1, 0) 0)), (5, .one (.own (3, 0) l3678.length)), (7, .one (.d (.int .i64 n3296))), (8, .one (.d (.int .i64 n3677))), (10, .one (.d (.int .i64 x3707.a1))), (70, .one (.d (.bool b3714)))] [((1, 0), some (.box 28 [.d (.int .i64 a0.N), .d (.sl (List.map eA2I a0.Links))])), ((3, 0), some (.row 3 1 (dat (List.map eI l3678))))] ac wd) ?_ ?_
                      · skip
                        obtain ⟨x3717, hx3718, hE3716⟩ := Option.bind_eq_some_iff.1 hE3716
                        obtain ⟨hx3718a, hx3718b, hx3718c⟩ := at_some hx3718
                        have hx3718d := (List.getElem?_eq_some_iff.1 hx3718b).1
                        by_cases hb3719 : x3717 = n3296
                        · rw [if_pos hb3719] at hE3716
                          have hb3719t := eq_true hb3719
                          obtain ⟨x3720, hx3721, hE3716⟩ := Option.bind_eq_some_iff.1 hE3716
                          obtain ⟨hx3721a, hx3721b, hx3721c⟩ := at_some hx3721
                          have hx3721d := (List.getElem?_eq_some_iff.1 hx3721b).1
                          refine r_plain [] [none, none, none, none, none, none, none, some (some 64, true), some (some 64, true), some (some 64, true), some (some 64, true), some (some 64, true), none] [2, 5, 7, 8, 10, 70] [(1, 0), (3, 0)] h rfl (by simp only [EX, simprocAttr, Nat.blt, Nat.ble, tz_3, tz_4, tz_35, hb1798n, hb3300, hb3681, hb3719t, hx3718a, hx3718b, hx3718c, hx3718d, hx3721a, hx3721b, hx3721c, hx3721d] <;> rfl) fun ac wd h => ?_
                          have h := h.same [2, 5, 7, 8, 10, 70] [(1, 0), (3, 0)] 354 [(2, .one (.ptr (1, 0) 0)), (5, .one (.own (3, 0) l3678.length)), (7, .one (.d (.int .i64 n3296))), (8, .one (.d (.int .i64 n3677))), (10, .one (.d (.int .i64 x3707.a1))), (70, .one (.d (.bool (decide (x3720 < 0)))))]
                            [((1, 0), some (.box 28 [.d (.int .i64 a0.N), .d (.sl (List.map eA2I a0.Links))])), ((3, 0), some (.row 3 1 (dat (List.map eI l3678))))]
                            (by simp only [EX, simprocAttr, Nat.blt, Nat.ble, hb1798n, hx1834a, hx1834b, hx1834c, hx1834d, hb3300, hb3681, hx3708a, hx3708b, hx3708c, hx3708d, hx3718a, hx3718b, hx3718c, hx3718d, hb3719t, hx3721a, hx3721b, hx3721c, hx3721d] <;> rfl)
                          injection hE3716 with hE3716
                          exact ⟨decide (x3720 < 0), hE3716, h⟩
                        · rw [if_neg hb3719] at hE3716
                          refine r_plain [] [none, none, none, none, none, none, none, some (some 64, true), some (some 64, true), some (some 64, true), some (some 64, true), some (some 64, true), none] [2, 5, 7, 8, 10, 70] [(1, 0), (3, 0)] h rfl (by simp only [EX, simprocAttr, Nat.blt, Nat.ble, tz_3, tz_4, tz_35, hb1798n, hb3300, hb3681, hb3719, hx3718a, hx3718b, hx3718c, hx3718d] <;> rfl) fun ac wd h => ?_
                          have h := h.same [2, 5, 7, 8, 10, 70] [(1, 0), (3, 0)] 354 [(2, .one (.ptr (1, 0) 0)), (5, .one (.own (3, 0) l3678.length)), (7, .one (.d (.int .i64 n3296))), (8, .one (.d (.int .i64 n3677))), (10, .one (.d (.int .i64 x3707.a1))), (70, .one (.d (.bool false)))]
                            [((1, 0), some (.box 28 [.d (.int .i64 a0.N), .d (.sl (List.map eA2I a0.Links))])), ((3, 0), some (.row 3 1 (dat (List.map eI l3678))))]
                            (by simp only [EX, simprocAttr, Nat.blt, Nat.ble, hb1798n, hx1834a, hx1834b, hx1834c, hx1834d, hb3300, hb3681, hx3708a, hx3708b, hx3708c, hx3708d, hx3718a, hx3718b, hx3718c, hx3718d, hb3719] <;> rfl)
                          injection hE3716 with hE3716
                          exact ⟨false, hE3716, h⟩
                      · skip
                        rintro ac wd ⟨b3714, rfl, h⟩
                        (try dsimp only at hE3704)
                        by_cases hb3722 : b3714 = true
                        · rw [if_pos hb3722] at hE3704
                          refine r_condT h b3714 (by simp only [EX, simprocAttr, Nat.blt, Nat.ble, hb1798n, hb3300, hb3681, hb3722] <;> rfl) (by first | rfl | (simp only [EX, simprocAttr, Nat.blt, Nat.ble, hb1798n, hb3300, hb3681, hb3722] <;> rfl)) ?_
                          obtain ⟨x3723, hx3724, hE3704⟩ := Option.bind_eq_some_iff.1 hE3704
                          obtain ⟨hx3724a, hx3724b, hx3724c⟩ := at_some hx3724
                          have hx3724d := (List.getElem?_eq_some_iff.1 hx3724b).1
                          refine r_plain [] [none, none, none, none, none, none] [2, 5, 7, 8] [(1, 0), (3, 0)] h rfl (by simp only [EX, simprocAttr, Nat.blt, Nat.ble, tz_3, tz_35, hb1798n, hb3300, hb3681, hb3722, hx3724a, hx3724b, hx3724c, hx3724d] <;> rfl) fun ac wd h => ?_
                          have h := h.same [2, 5, 7, 8] [(1, 0), (3, 0)] 360 [(2, .one (.ptr (1, 0) 0)), (5, .one (.own (3, 0) (l3678.set x3707.a1.toNat (IntKind.wrap .i64 (n3296 + 1))).length)), (7, .one (.d (.int .i64 n3296))), (8, .one (.d (.int .i64 n3677)))]
                            [((1, 0), some (.box 28 [.d (.int .i64 a0.N), .d (.sl (List.map eA2I a0.Links))])), ((3, 0), some (.row 3 1 (dat (List.map eI (l3678.set x3707.a1.toNat (IntKind.wrap .i64 (n3296 + 1)))))))]
                            (by simp only [EX, simprocAttr, Nat.blt, Nat.ble, hb1798n, hx1834a, hx1834b, hx1834c, hx1834d, hb3300, hb3681, hx3708a, hx3708b, hx3708c, hx3708d, hb3722, hx3724a, hx3724b, hx3724c, hx3724d] <;> rfl)
                          injection hE3704 with hE3704
                          exact ⟨(l3678.set x3707.a1.toNat (IntKind.wrap .i64 (n3296 + 1))), hE3704, h⟩
                        · rw [if_neg hb3722] at hE3704
                          have hb3722n := eq_false_of_ne_true hb3722
                          refine r_condF h b3714 (by simp only [EX, simprocAttr, Nat.blt, Nat.ble, hb1798n, hb3300, hb3681, hb3722n] <;> rfl) (by first | rfl | (simp only [EX, simprocAttr, Nat.blt, Nat.ble, hb1798n, hb3300, hb3681, hb3722n] <;> rfl)) ?_
                          refine wp_skip ?_
                          have h := h.same [2, 5, 7, 8] [(1, 0), (3, 0)] 360 [(2, .one (.ptr (1, 0) 0)), (5, .one (.own (3, 0) l3678.length)), (7, .one (.d (.int .i64 n3296))), (8, .one (.d (.int .i64 n3677)))]
                            [((1, 0), some (.box 28 [.d (.int .i64 a0.N), .d (.sl (List.map eA2I a0.Links))])), ((3, 0), some (.row 3 1 (dat (List.map eI l3678))))]
                            (by simp only [EX, simprocAttr, Nat.blt, Nat.ble, hb1798n, hx1834a, hx1834b, hx1834c, hx1834d, hb3300, hb3681, hx3708a, hx3708b, hx3708c, hx3708d, hb3722n] <;> rfl)
                          injection hE3704 with hE3704
                          exact ⟨l3678, hE3704, h⟩
                    · skip
                      rintro ac wd ⟨l3702, rfl, h⟩
                      (try dsimp only at hL3679)
                      refine r_plain [] [none, none, none] [2, 5, 7, 8] [(1, 0), (3, 0)] h rfl (by simp only [EX, simprocAttr, Nat.blt, Nat.ble, tz_3, hb1798n, hb3300, hb3681] <;> rfl) fun ac wd h => ?_
                      have h := h.same [2, 5, 7, 8] [(1, 0), (3, 0)] 322 [(2, .one (.ptr (1, 0) 0)), (5, .one (.own (3, 0) l3702.length)), (7, .one (.d (.int .i64 n3296))), (8, .one (.d (.int .i64 (IntKind.wrap .i64 (n3677 + 1)))))]
                        [((1, 0), some (.box 28 [.d (.int .i64 a0.N), .d (.sl (List.map eA2I a0.Links))])), ((3, 0), some (.row 3 1 (dat (List.map eI l3702))))]
                        (by simp only [EX, simprocAttr, Nat.blt, Nat.ble, hb1798n, hx1834a, hx1834b, hx1834c, hx1834d, hb3300, hb3681] <;> rfl)
                      change ∃ n', _ ∧ _
                      exact ⟨nf, Nat.lt_succ_self nf, (IntKind.wrap .i64 (n3677 + 1)), l3702, hL3679, h⟩
                  · rw [if_neg hb3681] at hL3679
                    refine r_condF h (decide (n3677 < (a0.Links.length : Int))) (by simp only [EX, simprocAttr, Nat.blt, Nat.ble, hb1798n, hb3300, hb3681] <;> rfl) (by first | rfl | (simp only [EX, simprocAttr, Nat.blt, Nat.ble, hb1798n, hb3300, hb3681] <;> rfl)) ?_
                    refine wp_exit ?_
                    have h := h.same [2, 5, 7] [(1, 0), (3, 0)] 327 [(2, .one (.ptr (1, 0) 0)), (5, .one (.own (3, 0) l3678.length)), (7, .one (.d (.int .i64 n3296)))]
                      [((1, 0), some (.box 28 [.d (.int .i64 a0.N), .d (.sl (List.map eA2I a0.Links))])), ((3, 0), some (.row 3 1 (dat (List.map eI l3678))))]
                      (by simp only [EX, simprocAttr, Nat.blt, Nat.ble, hb1798n, hx1834a, hx1834b, hx1834c, hx1834d, hb3300, hb3681] <;> rfl)
                    injection hL3679 with hL3679
                    exact ⟨l3678, hL3679, h⟩
              · skip
                rintro ac wd ⟨l3582, rfl, h⟩
                (try dsimp only at hE3442)
                have h := h.same [2, 5, 7] [(1, 0), (3, 0)] 327 [(2, .one (.ptr (1, 0) 0)), (5, .one (.own (3, 0) l3582.length)), (7, .one (.d (.int .i64 n3296)))]
                  [((1, 0), some (.box 28 [.d (.int .i64 a0.N), .d (.sl (List.map eA2I a0.Links))])), ((3, 0), some (.row 3 1 (dat (List.map eI l3582))))]
                  (by simp only [EX, simprocAttr, Nat.blt, Nat.ble, hb1798n, hx1834a, hx1834b, hx1834c, hx1834d, hb3300] <;> rfl)
                injection hE3442 with hE3442
                exact ⟨l3582, hE3442, h⟩
            · skip
              rintro ac wd ⟨l3440, rfl, h⟩
              (try dsimp only at hL3298)
              refine r_plain [] [none, none, none] [2, 5, 7] [(1, 0), (3, 0)] h rfl (by simp only [EX, simprocAttr, Nat.blt, Nat.ble, tz_3, hb1798n, hb3300] <;> rfl) fun ac wd h => ?_
              have h := h.same [2, 5, 7] [(1, 0), (3, 0)] 235 [(2, .one (.ptr (1, 0) 0)), (5, .one (.own (3, 0) l3440.length)), (7, .one (.d (.int .i64 (IntKind.wrap .i64 (n3296 + 1)))))]
                [((1, 0), some (.box 28 [.d (.int .i64 a0.N), .d (.sl (List.map eA2I a0.Links))])), ((3, 0), some (.row 3 1 (dat (List.map eI l3440))))]
                (by simp only [EX, simprocAttr, Nat.blt, Nat.ble, hb1798n, hx1834a, hx1834b, hx1834c, hx1834d, hb3300] <;> rfl)
              change ∃ n', _ ∧ _
              exact ⟨nf, Nat.lt_succ_self nf, (IntKind.wrap .i64 (n3296 + 1)), l3440, hL3298, h⟩
          · rw [if_neg hb3300] at hL3298
            refine r_condF h (decide (n3296 < a0.N)) (by simp only [EX, simprocAttr, Nat.blt, Nat.ble, hb1798n, hb3300] <;> rfl) (by first | rfl | (simp only [EX, simprocAttr, Nat.blt, Nat.ble, hb1798n, hb3300] <;> rfl)) ?_
            refine wp_exit ?_
            change Code.wp Try.prog _ _ _ _
            refine rs_plain 241 [] [none, none] [4] [(3, 0)] h rfl rfl (by simp only [EX, simprocAttr, Nat.blt, Nat.ble, tz_3, tz_35, hb1798n, hb3300] <;> rfl) fun ac wd h => ?_
            refine wp_ret ?_
            have h := h.same [4] [(3, 0)] 241 [(4, .one (.own (3, 0) l3297.length))]
              [((3, 0), some (.row 3 1 (dat (List.map eI l3297))))]
              (by simp only [EX, simprocAttr, Nat.blt, Nat.ble, hb1798n, hx1834a, hx1834b, hx1834c, hx1834d, hb3300, dat_open] <;> rfl)
            have h := SL.swap h (1, 0) (3, 0) 241 (by decide) (by decide) (by simp only [EX, simprocAttr, Nat.blt, Nat.ble, hb1798n, hx1834a, hx1834b, hx1834c, hx1834d, hb3300, e_ren3, fren, mren, AV.ren, AObj.ren, Cell.ren, sumRen, Upd.ren, swp, csw, dat_ren, opn_ren] <;> rfl) (by simp only [EX, simprocAttr, Nat.blt, Nat.ble, hb1798n, hx1834a, hx1834b, hx1834c, hx1834d, hb3300, e_ren3, fren, mren, AV.ren, AObj.ren, Cell.ren, sumRen, Upd.ren, swp, csw, dat_ren, opn_ren] <;> rfl) (by simp only [EX, simprocAttr, Nat.blt, Nat.ble, hb1798n, hx1834a, hx1834b, hx1834c, hx1834d, hb3300, e_ren3, fren, mren, AV.ren, AObj.ren, Cell.ren, sumRen, Upd.ren, swp, csw, dat_ren, opn_ren] <;> rfl)
            have h := h.same [4] [(1, 0)] 241 [(4, .one (.own (1, 0) l3297.length))]
              [((1, 0), some (.row 3 1 (dat (List.map eI l3297))))]
              (by simp only [EX, simprocAttr, Nat.blt, Nat.ble, hb1798n, hx1834a, hx1834b, hx1834c, hx1834d, hb3300, dat_open] <;> rfl)
            injection hL3298 with hL3298
            subst hL3298
            exact r_retO rfl h [.tmp 4] rfl [(1, 0)] (by simp only [retO, List.mapM_cons, List.mapM_nil, Option.bind_eq_bind, Option.pure_def, EX, simprocAttr, Nat.blt, Nat.ble, hb1798n, hb3300] <;> rfl)
theorem L_ref03_Dist_ok {a0 : TGraph} {a1 : Int} {r : (List Int)} (hD : L_ref03_Dist a0 a1 = some r) :
    CallH Try.prog 28 [.agg [.d (.int .i64 a0.N), .d (.sl (List.map eA2I a0.Links))], .one (.d (.int .i64 a1))] []
      (.one (.d (.sl (List.map eI r)))) [] :=
  (L_ref03_Dist_own hD).frz (by simp only [EX, simprocAttr, Nat.blt, Nat.ble] <;> rfl) (by simp only [frzA, frzSum, EX, simprocAttr, Nat.blt, Nat.ble] <;> rfl) rfl

set_option maxRecDepth 20000 in
set_option maxHeartbeats 4000000 in
theorem L_ref03_Right_ok {a0 : TGraph} {r : Bool} (hD : L_ref03_Right a0 = some r) :
    CallH Try.prog 12 [.agg [.d (.int .i64 a0.N), .d (.sl (List.map eA2I a0.Links))]] []
      (.one (.d (.bool r))) [] := by
  unfold L_ref03_Right at hD
  refine r_call Try.func12 rfl Try.ntmps12 (by kernel_rfl) (by rfl) (by rfl) (by simp) fun S Φ P0 wb ac h => ?_
  refine rs_plain 3 [] [none, none] [1] [(1, 0)] h rfl rfl (by simp only [EX, simprocAttr, Nat.blt, Nat.ble, tz_4, tz_28] <;> rfl) fun ac wd h => ?_
  refine wp_seq ?_
  obtain ⟨e909, hE910, hD⟩ := Option.bind_eq_some_iff.1 hD
  refine r_seqJ (fun ac wd => ∃ (b908 : Bool), b908 = e909 ∧ SL ⟨wb, S, Φ, P0⟩ 100 17 [(1, .one (.ptr (1, 0) 0)), (22, .one (.d (.bool b908)))] [((1, 0), some (.box 28 [.d (.int .i64 a0.N), .d (.sl (List.map eA2I a0.Links))]))] ac wd) ?_ ?_
  · skip
    by_cases hb911 : a0.N < 1
    · rw [if_pos hb911] at hE910
      refine r_plain [] [none, none, none, none, some (some 12, false), some (some 12, false), some (some 12, false), none, none, some (some 17, false), some (some 17, false), some (some 17, false), some (some 17, false), none] [1, 22] [(1, 0)] h rfl (by simp only [EX, simprocAttr, Nat.blt, Nat.ble, tz_3, tz_4, tz_22, tz_28, tz_43, hb911] <;> rfl) fun ac wd h => ?_
      have h := h.same [1, 22] [(1, 0)] 17 [(1, .one (.ptr (1, 0) 0)), (22, .one (.d (.bool true)))]
        [((1, 0), some (.box 28 [.d (.int .i64 a0.N), .d (.sl (List.map eA2I a0.Links))]))]
        (by simp only [EX, simprocAttr, Nat.blt, Nat.ble, hb911] <;> rfl)
      injection hE910 with hE910
      exact ⟨true, hE910, h⟩
    · rw [if_neg hb911] at hE910
      by_cases hb912 : a0.N > 6
      · rw [if_pos hb912] at hE910
        refine r_plain [] [none, none, none, none, some (some 12, false), some (some 12, false), some (some 12, false), none, none, some (some 17, false), some (some 17, false), some (some 17, false), some (some 17, false), none] [1, 22] [(1, 0)] h rfl (by simp only [EX, simprocAttr, Nat.blt, Nat.ble, tz_3, tz_4, tz_22, tz_28, tz_43, hb911, hb912] <;> rfl) fun ac wd h => ?_
        have h := h.same [1, 22] [(1, 0)] 17 [(1, .one (.ptr (1, 0) 0)), (22, .one (.d (.bool true)))]
          [((1, 0), some (.box 28 [.d (.int .i64 a0.N), .d (.sl (List.map eA2I a0.Links))]))]
          (by simp only [EX, simprocAttr, Nat.blt, Nat.ble, hb911, hb912] <;> rfl)
        injection hE910 with hE910
        exact ⟨true, hE910, h⟩
      · rw [if_neg hb912] at hE910
        refine r_plain [] [none, none, none, none, some (some 12, false), some (some 12, false), some (some 12, false), none, none, some (some 17, false), some (some 17, false), some (some 17, false), some (some 17, false), none] [1, 22] [(1, 0)] h rfl (by simp only [EX, simprocAttr, Nat.blt, Nat.ble, tz_3, tz_4, tz_22, tz_28, tz_43, hb911, hb912] <;> rfl) fun ac wd h => ?_
        have h := h.same [1, 22] [(1, 0)] 17 [(1, .one (.ptr (1, 0) 0)), (22, .one (.d (.bool (decide ((a0.Links.length : Int) > 30)))))]
          [((1, 0), some (.box 28 [.d (.int .i64 a0.N), .d (.sl (List.map eA2I a0.Links))]))]
          (by simp only [EX, simprocAttr, Nat.blt, Nat.ble, hb911, hb912] <;> rfl)
        injection hE910 with hE910
        exact ⟨decide ((a0.Links.length : Int) > 30), hE910, h⟩
  · skip
    rintro ac wd ⟨b908, rfl, h⟩
    (try dsimp only at hD)
    by_cases hb914 : b908 = true
    · rw [if_pos hb914] at hD
      refine r_condT h b908 (by simp only [EX, simprocAttr, Nat.blt, Nat.ble, hb914] <;> rfl) (by first | rfl | (simp only [EX, simprocAttr, Nat.blt, Nat.ble, hb914] <;> rfl)) ?_
      refine rs_plain 18 [] [none] [2] [] h rfl rfl (by simp only [EX, simprocAttr, Nat.blt, Nat.ble, tz_4, hb914] <;> rfl) fun ac wd h => ?_
      refine wp_ret ?_
      injection hD with hD
      subst hD
      exact r_retE rfl h [.tmp 2] rfl (by simp only [retD, List.mapM_cons, List.mapM_nil, Option.bind_eq_bind, Option.pure_def, EX, simprocAttr, Nat.blt, Nat.ble, hb914] <;> rfl)
    · rw [if_neg hb914] at hD
      have hb914n := eq_false_of_ne_true hb914
      refine r_condF h b908 (by simp only [EX, simprocAttr, Nat.blt, Nat.ble, hb914n] <;> rfl) (by first | rfl | (simp only [EX, simprocAttr, Nat.blt, Nat.ble, hb914n] <;> rfl)) ?_
      refine wp_skip ?_
      change Code.wp Try.prog _ _ _ _
      refine wp_seq ?_
      refine rs_plain 18 [] [none] [1, 3] [(1, 0)] h rfl rfl (by simp only [EX, simprocAttr, Nat.blt, Nat.ble, tz_3, hb914n] <;> rfl) fun ac wd h => ?_
      obtain ⟨e1091, hE1092, hD⟩ := Option.bind_eq_some_iff.1 hD
      refine r_meet (fun ac wd => (.inl ()) = e1091 ∧ SL ⟨wb, S, Φ, P0⟩ 100 143 [(1, .one (.ptr (1, 0) 0))] [((1, 0), some (.box 28 [.d (.int .i64 a0.N), .d (.sl (List.map eA2I a0.Links))]))] ac wd) ?_ ?_
      · skip
        refine wp_block ?_
        have h := h.same [1, 3] [(1, 0)] 138 [(1, .one (.ptr (1, 0) 0)), (3, .one (.d (.int .i64 0)))]
          [((1, 0), some (.box 28 [.d (.int .i64 a0.N), .d (.sl (List.map eA2I a0.Links))]))]
          (by simp only [EX, simprocAttr, Nat.blt, Nat.ble, hb914n] <;> rfl)
        refine r_while (fun nf ac wd => ∃ (n1210 : Int), L_ref03_Right_l1 a0 nf n1210 = some e1091 ∧ SL ⟨wb, S, Φ, P0⟩ 100 138 [(1, .one (.ptr (1, 0) 0)), (3, .one (.d (.int .i64 n1210)))] [((1, 0), some (.box 28 [.d (.int .i64 a0.N), .d (.sl (List.map eA2I a0.Links))]))] ac wd) (((a0.Links.length : Int) - 0).toNat + 1) ⟨0, hE1092, h⟩ (fun nf ac wd hJ => ?_)
        obtain ⟨n1210, hL1211, h⟩ := hJ
        cases nf with
        | zero => rw [L_ref03_Right_l1] at hL1211; cases hL1211
        | succ nf =>
          rw [L_ref03_Right_l1] at hL1211
          refine wp_seq ?_
          refine rs_plain 143 [] [none, none, none, none, none] [1, 3, 27] [(1, 0)] h rfl rfl (by simp only [EX, simprocAttr, Nat.blt, Nat.ble, tz_3, tz_4, tz_22, tz_28, tz_43, hb914n] <;> rfl) fun ac wd h => ?_
          by_cases hb1213 : n1210 < (a0.Links.length : Int)
          · rw [if_pos hb1213] at hL1211
            refine r_condT h (decide (n1210 < (a0.Links.length : Int))) (by simp only [EX, simprocAttr, Nat.blt, Nat.ble, hb914n, hb1213] <;> rfl) (by first | rfl | (simp only [EX, simprocAttr, Nat.blt, Nat.ble, hb914n, hb1213] <;> rfl)) ?_
            refine wp_skip ?_
            change Code.wp Try.prog _ _ _ _
            refine wp_seq ?_
            refine wp_block ?_
            obtain ⟨x1244, hx1245, hL1211⟩ := Option.bind_eq_some_iff.1 hL1211
            obtain ⟨hx1245a, hx1245b, hx1245c⟩ := at_some hx1245
            have hx1245d := (List.getElem?_eq_some_iff.1 hx1245b).1
            refine rs_drawn 157 ty_hm [] [none, none, none, none, none, none, none, none, none, none, none, none, none, none] [1, 3, 4, 5] [(1, 0)] h rfl rfl (by simp only [EX, simprocAttr, Nat.blt, Nat.ble, tz_3, tz_22, tz_28, tz_43, hb914n, hb1213, hx1245a, hx1245b, hx1245c, hx1245d] <;> rfl) (by kernel_rfl) fun ac wd h => ?_
            obtain ⟨e1257, hE1258, hL1211⟩ := Option.bind_eq_some_iff.1 hL1211
            refine r_seqJ (fun ac wd => ∃ (b1256 : Bool), b1256 = e1257 ∧ SL ⟨wb, S, Φ, P0⟩ 100 195 [(1, .one (.ptr (1, 0) 0)), (3, .one (.d (.int .i64 n1210))), (79, .one (.d (.bool b1256)))] [((1, 0), some (.box 28 [.d (.int .i64 a0.N), .d (.sl (List.map eA2I a0.Links))]))] ac wd) ?_ ?_
            · skip
              by_cases hb1259 : x1244.a0 < 0
              · rw [if_pos hb1259] at hE1258
                refine r_plain [] [none, none, none, some (some 44, false), some (some 44, false), some (some 44, false), some (some 44, false), none, none, some (some 50, false), some (some 50, false), none, none, some (some 54, false), some (some 54, false), some (some 54, false), some (some 54, false), none, none, some (some 60, false), some (some 60, false), some (some 60, false), none, none, some (some 65, false), some (some 65, false), some (some 65, false), some (some 65, false), some (some 65, false), some (some 65, false), none, none, some (some 73, false), some (some 73, false), some (some 73, false), some (some 73, false), some (some 73, false), none] [1, 3, 79] [(1, 0)] h rfl (by simp only [EX, simprocAttr, Nat.blt, Nat.ble, tz_3, tz_4, tz_28, hb914n, hb1213, hb1259] <;> rfl) fun ac wd h => ?_
                have h := h.same [1, 3, 79] [(1, 0)] 195 [(1, .one (.ptr (1, 0) 0)), (3, .one (.d (.int .i64 n1210))), (79, .one (.d (.bool true)))]
                  [((1, 0), some (.box 28 [.d (.int .i64 a0.N), .d (.sl (List.map eA2I a0.Links))]))]
                  (by simp only [EX, simprocAttr, Nat.blt, Nat.ble, hb914n, hb1213, hx1245a, hx1245b, hx1245c, hx1245d, hb1259] <;> rfl)
                injection hE1258 with hE1258
                exact ⟨true, hE1258, h⟩
              · rw [if_neg hb1259] at hE1258
                by_cases hb1260 : x1244.a0 ≥ a0.N
                · rw [if_pos hb1260] at hE1258
                  refine r_plain [] [none, none, none, some (some 44, false), some (some 44, false), some (some 44, false), some (some 44, false), none, none, some (some 50, false), some (some 50, false), none, none, some (some 54, false), some (some 54, false), some (some 54, false), some (some 54, false), none, none, some (some 60, false), some (some 60, false), some (some 60, false), none, none, some (some 65, false), some (some 65, false), some (some 65, false), some (some 65, false), some (some 65, false), some (some 65, false), none, none, some (some 73, false), some (some 73, false), some (some 73, false), some (some 73, false), some (some 73, false), none] [1, 3, 79] [(1, 0)] h rfl (by simp only [EX, simprocAttr, Nat.blt, Nat.ble, tz_3, tz_4, tz_28, hb914n, hb1213, hb1259, hb1260] <;> rfl) fun ac wd h => ?_
                  have h := h.same [1, 3, 79] [(1, 0)] 195 [(1, .one (.ptr (1, 0) 0)), (3, .one (.d (.int .i64 n1210))), (79, .one (.d (.bool true)))]
                    [((1, 0), some (.box 28 [.d (.int .i64 a0.N), .d (.sl (List.map eA2I a0.Links))]))]
                    (by simp only [EX, simprocAttr, Nat.blt, Nat.ble, hb914n, hb1213, hx1245a, hx1245b, hx1245c, hx1245d, hb1259, hb1260] <;> rfl)
                  injection hE1258 with hE1258
                  exact ⟨true, hE1258, h⟩
                · rw [if_neg hb1260] at hE1258
                  by_cases hb1261 : x1244.a1 < 0
                  · rw [if_pos hb1261] at hE1258
                    refine r_plain [] [none, none, none, some (some 44, false), some (some 44, false), some (some 44, false), some (some 44, false), none, none, some (some 50, false), some (some 50, false), none, none, some (some 54, false), some (some 54, false), some (some 54, false), some (some 54, false), none, none, some (some 60, false), some (some 60, false), some (some 60, false), none, none, some (some 65, false), some (some 65, false), some (some 65, false), some (some 65, false), some (some 65, false), some (some 65, false), none, none, some (some 73, false), some (some 73, false), some (some 73, false), some (some 73, false), some (some 73, false), none] [1, 3, 79] [(1, 0)] h rfl (by simp only [EX, simprocAttr, Nat.blt, Nat.ble, tz_3, tz_4, tz_28, hb914n, hb1213, hb1259, hb1260, hb1261] <;> rfl) fun ac wd h => ?_
                    have h := h.same [1, 3, 79] [(1, 0)] 195 [(1, .one (.ptr (1, 0) 0)), (3, .one (.d (.int .i64 n1210))), (79, .one (.d (.bool true)))]
                      [((1, 0), some (.box 28 [.d (.int .i64 a0.N), .d (.sl (List.map eA2I a0.Links))]))]
                      (by simp only [EX, simprocAttr, Nat.blt, Nat.ble, hb914n, hb1213, hx1245a, hx1245b, hx1245c, hx1245d, hb1259, hb1260, hb1261] <;> rfl)
                    injection hE1258 with hE1258
                    exact ⟨true, hE1258, h⟩
                  · rw [if_neg hb1261] at hE1258
                    by_cases hb1262 : x1244.a1 ≥ a0.N
                    · rw [if_pos hb1262] at hE1258
                      refine r_plain [] [none, none, none, some (some 44, false), some (some 44, false), some (some 44, false), some (some 44, false), none, none, some (some 50, false), some (some 50, false), none, none, some (some 54, false), some (some 54, false), some (some 54, false), some (some 54, false), none, none, some (some 60, false), some (some 60, false), some (some 60, false), none, none, some (some 65, false), some (some 65, false), some (some 65, false), some (some 65, false), some (some 65, false), some (some 65, false), none, none, some (some 73, false), some (some 73, false), some (some 73, false), some (some 73, false), some (some 73, false), none] [1, 3, 79] [(1, 0)] h rfl (by simp only [EX, simprocAttr, Nat.blt, Nat.ble, tz_3, tz_4, tz_28, hb914n, hb1213, hb1259, hb1260, hb1261, hb1262] <;> rfl) fun ac wd h => ?_
                      have h := h.same [1, 3, 79] [(1, 0)] 195 [(1, .one (.ptr (1, 0) 0)), (3, .one (.d (.int .i64 n1210))), (79, .one (.d (.bool true)))]
                        [((1, 0), some (.box 28 [.d (.int .i64 a0.N), .d (.sl (List.map eA2I a0.Links))]))]
                        (by simp only [EX, simprocAttr, Nat.blt, Nat.ble, hb914n, hb1213, hx1245a, hx1245b, hx1245c, hx1245d, hb1259, hb1260, hb1261, hb1262] <;> rfl)
                      injection hE1258 with hE1258
                      exact ⟨true, hE1258, h⟩
                    · rw [if_neg hb1262] at hE1258
                      by_cases hb1263 : x1244.a0 = x1244.a1
                      · rw [if_pos hb1263] at hE1258
                        have hb1263t := eq_true hb1263
                        refine r_plain [] [none, none, none, some (some 44, false), some (some 44, false), some (some 44, false), some (some 44, false), none, none, some (some 50, false), some (some 50, false), none, none, some (some 54, false), some (some 54, false), some (some 54, false), some (some 54, false), none, none, some (some 60, false), some (some 60, false), some (some 60, false), none, none, some (some 65, false), some (some 65, false), some (some 65, false), some (some 65, false), some (some 65, false), some (some 65, false), none, none, some (some 73, false), some (some 73, false), some (some 73, false), some (some 73, false), some (some 73, false), none] [1, 3, 79] [(1, 0)] h rfl (by simp only [EX, simprocAttr, Nat.blt, Nat.ble, tz_3, tz_4, tz_28, hb914n, hb1213, hb1259, hb1260, hb1261, hb1262, hb1263t] <;> rfl) fun ac wd h => ?_
                        have h := h.same [1, 3, 79] [(1, 0)] 195 [(1, .one (.ptr (1, 0) 0)), (3, .one (.d (.int .i64 n1210))), (79, .one (.d (.bool true)))]
                          [((1, 0), some (.box 28 [.d (.int .i64 a0.N), .d (.sl (List.map eA2I a0.Links))]))]
                          (by simp only [EX, simprocAttr, Nat.blt, Nat.ble, hb914n, hb1213, hx1245a, hx1245b, hx1245c, hx1245d, hb1259, hb1260, hb1261, hb1262, hb1263t] <;> rfl)
                        injection hE1258 with hE1258
                        exact ⟨true, hE1258, h⟩
                      · rw [if_neg hb1263] at hE1258
                        obtain ⟨r1264, hc1265, hE1258⟩ := Option.bind_eq_some_iff.1 hE1258
                        by_cases hb1266 : r1264 = n1210
                        · rw [if_pos hb1266] at hE1258
                          have hb1266t := eq_true hb1266
                          obtain ⟨r1267, hc1268, hE1258⟩ := Option.bind_eq_some_iff.1 hE1258
                          have hc1265k := L_ref03_Find_ok hc1265
                          have hc1268k := L_ref03_Find_ok hc1268
                          refine r_plain [factE 184 hc1265k, factE 192 hc1268k] [none, none, none, some (some 44, false), some (some 44, false), some (some 44, false), some (some 44, false), none, none, some (some 50, false), some (some 50, false), none, none, some (some 54, false), some (some 54, false), some (some 54, false), some (some 54, false), none, none, some (some 60, false), some (some 60, false), some (some 60, false), none, none, some (some 65, false), some (some 65, false), some (some 65, false), some (some 65, false), some (some 65, false), some (some 65, false), none, none, some (some 73, false), some (some 73, false), some (some 73, false), some (some 73, false), some (some 73, false), none] [1, 3, 79] [(1, 0)] h rfl (by simp only [EX, simprocAttr, Nat.blt, Nat.ble, tz_3, tz_4, tz_28, hb914n, hb1213, hb1259, hb1260, hb1261, hb1262, hb1263, hb1266t] <;> rfl) fun ac wd h => ?_
                          have h := h.same [1, 3, 79] [(1, 0)] 195 [(1, .one (.ptr (1, 0) 0)), (3, .one (.d (.int .i64 n1210))), (79, .one (.d (.bool (decide (r1267 < 0)))))]
                            [((1, 0), some (.box 28 [.d (.int .i64 a0.N), .d (.sl (List.map eA2I a0.Links))]))]
                            (by simp only [EX, simprocAttr, Nat.blt, Nat.ble, hb914n, hb1213, hx1245a, hx1245b, hx1245c, hx1245d, hb1259, hb1260, hb1261, hb1262, hb1263, hb1266t] <;> rfl)
                          injection hE1258 with hE1258
                          exact ⟨decide (r1267 < 0), hE1258, h⟩
                        · rw [if_neg hb1266] at hE1258
                          have hc1265k := L_ref03_Find_ok hc1265
                          refine r_plain [factE 184 hc1265k] [none, none, none, some (some 44, false), some (some 44, false), some (some 44, false), some (some 44, false), none, none, some (some 50, false), some (some 50, false), none, none, some (some 54, false), some (some 54, false), some (some 54, false), some (some 54, false), none, none, some (some 60, false), some (some 60, false), some (some 60, false), none, none, some (some 65, false), some (some 65, false), some (some 65, false), some (some 65, false), some (some 65, false), some (some 65, false), none, none, some (some 73, false), some (some 73, false), some (some 73, false), some (some 73, false), some (some 73, false), none] [1, 3, 79] [(1, 0)] h rfl (by simp only [EX, simprocAttr, Nat.blt, Nat.ble, tz_3, tz_4, tz_28, hb914n, hb1213, hb1259, hb1260, hb1261, hb1262, hb1263, hb1266] <;> rfl) fun ac wd h => ?_
                          have h := h.same [1, 3, 79] [(1, 0)] 195 [(1, .one (.ptr (1, 0) 0)), (3, .one (.d (.int .i64 n1210))), (79, .one (.d (.bool true)))]
                            [((1, 0), some (.box 28 [.d (.int .i64 a0.N), .d (.sl (List.map eA2I a0.Links))]))]
                            (by simp only [EX, simprocAttr, Nat.blt, Nat.ble, hb914n, hb1213, hx1245a, hx1245b, hx1245c, hx1245d, hb1259, hb1260, hb1261, hb1262, hb1263, hb1266] <;> rfl)
                          injection hE1258 with hE1258
                          exact ⟨true, hE1258, h⟩
            · skip
              rintro ac wd ⟨b1256, rfl, h⟩
              (try dsimp only at hL1211)
              by_cases hb1269 : b1256 = true
              · rw [if_pos hb1269] at hL1211
                refine r_condT h b1256 (by simp only [EX, simprocAttr, Nat.blt, Nat.ble, hb914n, hb1213, hb1269] <;> rfl) (by first | rfl | (simp only [EX, simprocAttr, Nat.blt, Nat.ble, hb914n, hb1213, hb1269] <;> rfl)) ?_
                refine rs_plain 196 [] [none] [2] [] h rfl rfl (by simp only [EX, simprocAttr, Nat.blt, Nat.ble, tz_4, hb914n, hb1213, hb1269] <;> rfl) fun ac wd h => ?_
                refine wp_ret ?_
                injection hL1211 with hL1211
                subst hL1211
                (try dsimp only at hD)
                injection hD with hD
                subst hD
                exact r_retE rfl h [.tmp 2] rfl (by simp only [retD, List.mapM_cons, List.mapM_nil, Option.bind_eq_bind, Option.pure_def, EX, simprocAttr, Nat.blt, Nat.ble, hb914n, hb1213, hb1269] <;> rfl)
              · rw [if_neg hb1269] at hL1211
                have hb1269n := eq_false_of_ne_true hb1269
                refine r_condF h b1256 (by simp only [EX, simprocAttr, Nat.blt, Nat.ble, hb914n, hb1213, hb1269n] <;> rfl) (by first | rfl | (simp only [EX, simprocAttr, Nat.blt, Nat.ble, hb914n, hb1213, hb1269n] <;> rfl)) ?_
                refine wp_skip ?_
                change Code.wp Try.prog _ _ _ _
                refine r_plain [] [none, none, none] [1, 3] [(1, 0)] h rfl (by simp only [EX, simprocAttr, Nat.blt, Nat.ble, tz_3, hb914n, hb1213, hb1269n] <;> rfl) fun ac wd h => ?_
                have h := h.same [1, 3] [(1, 0)] 138 [(1, .one (.ptr (1, 0) 0)), (3, .one (.d (.int .i64 (IntKind.wrap .i64 (n1210 + 1)))))]
                  [((1, 0), some (.box 28 [.d (.int .i64 a0.N), .d (.sl (List.map eA2I a0.Links))]))]
                  (by simp only [EX, simprocAttr, Nat.blt, Nat.ble, hb914n, hb1213, hx1245a, hx1245b, hx1245c, hx1245d, hb1269n] <;> rfl)
                change ∃ n', _ ∧ _
                exact ⟨nf, Nat.lt_succ_self nf, (IntKind.wrap .i64 (n1210 + 1)), hL1211, h⟩
          · rw [if_neg hb1213] at hL1211
            refine r_condF h (decide (n1210 < (a0.Links.length : Int))) (by simp only [EX, simprocAttr, Nat.blt, Nat.ble, hb914n, hb1213] <;> rfl) (by first | rfl | (simp only [EX, simprocAttr, Nat.blt, Nat.ble, hb914n, hb1213] <;> rfl)) ?_
            refine wp_exit ?_
            have h := h.same [1] [(1, 0)] 143 [(1, .one (.ptr (1, 0) 0))]
              [((1, 0), some (.box 28 [.d (.int .i64 a0.N), .d (.sl (List.map eA2I a0.Links))]))]
              (by simp only [EX, simprocAttr, Nat.blt, Nat.ble, hb914n, hb1213] <;> rfl)
            injection hL1211 with hL1211
            exact ⟨hL1211, h⟩
      · skip
        rintro ac wd ⟨rfl, h⟩
        (try dsimp only at hD)
        refine wp_seq ?_
        refine rs_plain 144 [] [none] [1, 6] [(1, 0)] h rfl rfl (by simp only [EX, simprocAttr, Nat.blt, Nat.ble, tz_3, hb914n] <;> rfl) fun ac wd h => ?_
        refine wp_block ?_
        have h := h.same [1, 6] [(1, 0)] 224 [(1, .one (.ptr (1, 0) 0)), (6, .one (.d (.int .i64 0)))]
          [((1, 0), some (.box 28 [.d (.int .i64 a0.N), .d (.sl (List.map eA2I a0.Links))]))]
          (by simp only [EX, simprocAttr, Nat.blt, Nat.ble, hb914n] <;> rfl)
        refine r_while (fun nf ac wd => ∃ (n1718 : Int), L_ref03_Right_l2 a0 nf n1718 = some r ∧ SL ⟨wb, S, Φ, P0⟩ 100 224 [(1, .one (.ptr (1, 0) 0)), (6, .one (.d (.int .i64 n1718)))] [((1, 0), some (.box 28 [.d (.int .i64 a0.N), .d (.sl (List.map eA2I a0.Links))]))] ac wd) ((a0.N - 0).toNat + 1) ⟨0, hD, h⟩ (fun nf ac wd hJ => ?_)
        obtain ⟨n1718, hL1719, h⟩ := hJ
        cases nf with
        | zero => rw [L_ref03_Right_l2] at hL1719; cases hL1719
        | succ nf =>
          rw [L_ref03_Right_l2] at hL1719
          refine wp_seq ?_
          refine rs_plain 228 [] [none, none, none, none] [1, 6, 83] [(1, 0)] h rfl rfl (by simp only [EX, simprocAttr, Nat.blt, Nat.ble, tz_3, tz_4, tz_28, hb914n] <;> rfl) fun ac wd h => ?_
          by_cases hb1721 : n1718 < a0.N
          · rw [if_pos hb1721] at hL1719
            refine r_condT h (decide (n1718 < a0.N)) (by simp only [EX, simprocAttr, Nat.blt, Nat.ble, hb914n, hb1721] <;> rfl) (by first | rfl | (simp only [EX, simprocAttr, Nat.blt, Nat.ble, hb914n, hb1721] <;> rfl)) ?_
            refine wp_skip ?_
            change Code.wp Try.prog _ _ _ _
            obtain ⟨e1764, hE1765, hL1719⟩ := Option.bind_eq_some_iff.1 hL1719
            refine r_seqJ (fun ac wd => (.inl ()) = e1764 ∧ SL ⟨wb, S, Φ, P0⟩ 100 261 [(1, .one (.ptr (1, 0) 0)), (6, .one (.d (.int .i64 n1718)))] [((1, 0), some (.box 28 [.d (.int .i64 a0.N), .d (.sl (List.map eA2I a0.Links))]))] ac wd) ?_ ?_
            · skip
              refine wp_block ?_
              obtain ⟨r1768, hc1769, hE1765⟩ := Option.bind_eq_some_iff.1 hE1765
              have hc1769k := L_ref03_Dist_ok hc1769
              refine rs_plain 232 [factE 230 hc1769k] [none, none, none, none] [1, 6, 7] [(1, 0)] h rfl rfl (by simp only [EX, simprocAttr, Nat.blt, Nat.ble, tz_3, tz_28, tz_35, hb914n, hb1721] <;> rfl) fun ac wd h => ?_
              refine rs_plain 233 [] [none] [1, 6, 7, 8] [(1, 0)] h rfl rfl (by simp only [EX, simprocAttr, Nat.blt, Nat.ble, tz_3, hb914n, hb1721] <;> rfl) fun ac wd h => ?_
              obtain ⟨e1808, hE1809, hE1765⟩ := Option.bind_eq_some_iff.1 hE1765
              refine r_meetQ (fun ac wd => (.inl ()) = e1808 ∧ SL ⟨wb, S, Φ, P0⟩ 100 261 [(1, .one (.ptr (1, 0) 0)), (6, .one (.d (.int .i64 n1718)))] [((1, 0), some (.box 28 [.d (.int .i64 a0.N), .d (.sl (List.map eA2I a0.Links))]))] ac wd) ?_ ?_
              · skip
                refine wp_block ?_
                have h := h.same [1, 6, 7, 8] [(1, 0)] 257 [(1, .one (.ptr (1, 0) 0)), (6, .one (.d (.int .i64 n1718))), (7, .one (.d (.sl (List.map eI r1768)))), (8, .one (.d (.int .i64 0)))]
                  [((1, 0), some (.box 28 [.d (.int .i64 a0.N), .d (.sl (List.map eA2I a0.Links))]))]
                  (by simp only [EX, simprocAttr, Nat.blt, Nat.ble, hb914n, hb1721] <;> rfl)
                refine r_while (fun nf ac wd => ∃ (n1835 : Int), L_ref03_Right_l3 r1768 nf n1835 = some e1808 ∧ SL ⟨wb, S, Φ, P0⟩ 100 257 [(1, .one (.ptr (1, 0) 0)), (6, .one (.d (.int .i64 n1718))), (7, .one (.d (.sl (List.map eI r1768)))), (8, .one (.d (.int .i64 n1835)))] [((1, 0), some (.box 28 [.d (.int .i64 a0.N), .d (.sl (List.map eA2I a0.Links))]))] ac wd) (((r1768.length : Int) - 0).toNat + 1) ⟨0, hE1809, h⟩ (fun nf ac wd hJ => ?_)
                obtain ⟨n1835, hL1836, h⟩ := hJ
                cases nf with
                | zero => rw [L_ref03_Right_l3] at hL1836; cases hL1836
                | succ nf =>
                  rw [L_ref03_Right_l3] at hL1836
                  refine wp_seq ?_
                  refine rs_plain 261 [] [none, none, none, none] [1, 6, 7, 8, 92] [(1, 0)] h rfl rfl (by simp only [EX, simprocAttr, Nat.blt, Nat.ble, tz_3, tz_4, tz_35, hb914n, hb1721] <;> rfl) fun ac wd h => ?_
                  by_cases hb1838 : n1835 < (r1768.length : Int)
                  · rw [if_pos hb1838] at hL1836
                    refine r_condT h (decide (n1835 < (r1768.length : Int))) (by simp only [EX, simprocAttr, Nat.blt, Nat.ble, hb914n, hb1721, hb1838] <;> rfl) (by first | rfl | (simp only [EX, simprocAttr, Nat.blt, Nat.ble, hb914n, hb1721, hb1838] <;> rfl)) ?_
                    refine wp_skip ?_
                    change Code.wp Try.prog _ _ _ _
                    refine wp_seq ?_
                    refine wp_block ?_
                    obtain ⟨x1846, hx1847, hL1836⟩ := Option.bind_eq_some_iff.1 hL1836
                    obtain ⟨hx1847a, hx1847b, hx1847c⟩ := at_some hx1847
                    have hx1847d := (List.getElem?_eq_some_iff.1 hx1847b).1
                    refine rs_plain 266 [] [none, none, none, none, none] [1, 6, 7, 8, 99] [(1, 0)] h rfl rfl (by simp only [EX, simprocAttr, Nat.blt, Nat.ble, tz_3, tz_4, tz_35, hb914n, hb1721, hb1838, hx1847a, hx1847b, hx1847c, hx1847d] <;> rfl) fun ac wd h => ?_
                    by_cases hb1848 : x1846 < 0
                    · rw [if_pos hb1848] at hL1836
                      refine r_condT h (decide (x1846 < 0)) (by simp only [EX, simprocAttr, Nat.blt, Nat.ble, hb914n, hb1721, hb1838, hb1848] <;> rfl) (by first | rfl | (simp only [EX, simprocAttr, Nat.blt, Nat.ble, hb914n, hb1721, hb1838, hb1848] <;> rfl)) ?_
                      refine rs_plain 267 [] [none] [2] [] h rfl rfl (by simp only [EX, simprocAttr, Nat.blt, Nat.ble, tz_4, hb914n, hb1721, hb1838, hb1848] <;> rfl) fun ac wd h => ?_
                      refine wp_ret ?_
                      injection hL1836 with hL1836
                      subst hL1836
                      (try dsimp only at hE1765)
                      injection hE1765 with hE1765
                      subst hE1765
                      (try dsimp only at hL1719)
                      injection hL1719 with hL1719
                      subst hL1719
                      exact r_retE rfl h [.tmp 2] rfl (by simp only [retD, List.mapM_cons, List.mapM_nil, Option.bind_eq_bind, Option.pure_def, EX, simprocAttr, Nat.blt, Nat.ble, hb914n, hb1721, hb1838, hb1848] <;> rfl)
                    · rw [if_neg hb1848] at hL1836
                      refine r_condF h (decide (x1846 < 0)) (by simp only [EX, simprocAttr, Nat.blt, Nat.ble, hb914n, hb1721, hb1838, hb1848] <;> rfl) (by first | rfl | (simp only [EX, simprocAttr, Nat.blt, Nat.ble, hb914n, hb1721, hb1838, hb1848] <;> rfl)) ?_
                      refine wp_skip ?_
                      change Code.wp Try.prog _ _ _ _
                      refine r_plain [] [none, none, none] [1, 6, 7, 8] [(1, 0)] h rfl (by simp only [EX, simprocAttr, Nat.blt, Nat.ble, tz_3, hb914n, hb1721, hb1838, hb1848] <;> rfl) fun ac wd h => ?_
                      have h := h.same [1, 6, 7, 8] [(1, 0)] 257 [(1, .one (.ptr (1, 0) 0)), (6, .one (.d (.int .i64 n1718))), (7, .one (.d (.sl (List.map eI r1768)))), (8, .one (.d (.int .i64 (IntKind.wrap .i64 (n1835 + 1)))))]
                        [((1, 0), some (.box 28 [.d (.int .i64 a0.N), .d (.sl (List.map eA2I a0.Links))]))]
                        (by simp only [EX, simprocAttr, Nat.blt, Nat.ble, hb914n, hb1721, hb1838, hx1847a, hx1847b, hx1847c, hx1847d, hb1848] <;> rfl)
                      change ∃ n', _ ∧ _
                      exact ⟨nf, Nat.lt_succ_self nf, (IntKind.wrap .i64 (n1835 + 1)), hL1836, h⟩
                  · rw [if_neg hb1838] at hL1836
                    refine r_condF h (decide (n1835 < (r1768.length : Int))) (by simp only [EX, simprocAttr, Nat.blt, Nat.ble, hb914n, hb1721, hb1838] <;> rfl) (by first | rfl | (simp only [EX, simprocAttr, Nat.blt, Nat.ble, hb914n, hb1721, hb1838] <;> rfl)) ?_
                    refine wp_exit ?_
                    have h := h.same [1, 6] [(1, 0)] 261 [(1, .one (.ptr (1, 0) 0)), (6, .one (.d (.int .i64 n1718)))]
                      [((1, 0), some (.box 28 [.d (.int .i64 a0.N), .d (.sl (List.map eA2I a0.Links))]))]
                      (by simp only [EX, simprocAttr, Nat.blt, Nat.ble, hb914n, hb1721, hb1838] <;> rfl)
                    injection hL1836 with hL1836
                    exact ⟨hL1836, h⟩
              · skip
                rintro ac wd ⟨rfl, h⟩
                (try dsimp only at hE1765)
                have h := h.same [1, 6] [(1, 0)] 261 [(1, .one (.ptr (1, 0) 0)), (6, .one (.d (.int .i64 n1718)))]
                  [((1, 0), some (.box 28 [.d (.int .i64 a0.N), .d (.sl (List.map eA2I a0.Links))]))]
                  (by simp only [EX, simprocAttr, Nat.blt, Nat.ble, hb914n, hb1721] <;> rfl)
                injection hE1765 with hE1765
                exact ⟨hE1765, h⟩
            · skip
              rintro ac wd ⟨rfl, h⟩
              (try dsimp only at hL1719)
              refine r_plain [] [none, none, none] [1, 6] [(1, 0)] h rfl (by simp only [EX, simprocAttr, Nat.blt, Nat.ble, tz_3, hb914n, hb1721] <;> rfl) fun ac wd h => ?_
              have h := h.same [1, 6] [(1, 0)] 224 [(1, .one (.ptr (1, 0) 0)), (6, .one (.d (.int .i64 (IntKind.wrap .i64 (n1718 + 1)))))]
                [((1, 0), some (.box 28 [.d (.int .i64 a0.N), .d (.sl (List.map eA2I a0.Links))]))]
                (by simp only [EX, simprocAttr, Nat.blt, Nat.ble, hb914n, hb1721] <;> rfl)
              change ∃ n', _ ∧ _
              exact ⟨nf, Nat.lt_succ_self nf, (IntKind.wrap .i64 (n1718 + 1)), hL1719, h⟩
          · rw [if_neg hb1721] at hL1719
            refine r_condF h (decide (n1718 < a0.N)) (by simp only [EX, simprocAttr, Nat.blt, Nat.ble, hb914n, hb1721] <;> rfl) (by first | rfl | (simp only [EX, simprocAttr, Nat.blt, Nat.ble, hb914n, hb1721] <;> rfl)) ?_
            refine wp_exit ?_
            change Code.wp Try.prog _ _ _ _
            refine rs_plain 229 [] [none] [2] [] h rfl rfl (by simp only [EX, simprocAttr, Nat.blt, Nat.ble, tz_4, hb914n, hb1721] <;> rfl) fun ac wd h => ?_
            refine wp_ret ?_
            injection hL1719 with hL1719
            subst hL1719
            exact r_retE rfl h [.tmp 2] rfl (by simp only [retD, List.mapM_cons, List.mapM_nil, Option.bind_eq_bind, Option.pure_def, EX, simprocAttr, Nat.blt, Nat.ble, hb914n, hb1721] <;> rfl)

set_option maxRecDepth 20000 in
set_option maxHeartbeats 4000000 in
theorem L_graph_Full_own {a0 : Int} {r : TGraph} (hD : L_graph_Full a0 = some r) :
    CallH Try.prog 15 [.one (.d (.int .i64 a0))] []
      (.agg [.d (.int .i64 r.N), .own (1, 0) r.Links.length]) [((1, 0), some (.row 43 2 (dat (List.map eA2I r.Links))))] := by
  unfold L_graph_Full at hD
  refine r_call Try.func15 rfl Try.ntmps15 (by kernel_rfl) (by rfl) (by simp only [shutB, EX, simprocAttr, Nat.blt, Nat.ble] <;> rfl) (by simp) fun S Φ P0 wb ac h => ?_
  refine rs_plain 2 [] [none] [0, 2] [(1, 0)] h rfl rfl (by simp only [EX, simprocAttr, Nat.blt, Nat.ble, tz_24] <;> rfl) fun ac wd h => ?_
  refine rs_plain 8 [] [none, none, none, none, none, none] [2, 3] [(1, 0), (6, 0)] h rfl rfl (by simp only [EX, simprocAttr, Nat.blt, Nat.ble, tz_3, tz_24] <;> rfl) fun ac wd h => ?_
  refine wp_seq ?_
  refine rs_plain 11 [] [none, none, none] [2, 3, 11, 12] [(1, 0), (6, 0)] h rfl rfl (by simp only [EX, simprocAttr, Nat.blt, Nat.ble, tz_3, tz_24] <;> rfl) fun ac wd h => ?_
  refine wp_block ?_
  have h := SL.bornB h (6, 0) 1 43 2 (by simp only [EX, simprocAttr, Nat.blt, Nat.ble] <;> rfl) (by simp only [EX, simprocAttr, Nat.blt, Nat.ble] <;> rfl)
  have h := h.same [2, 3, 11, 12] [(1, 0), (6, 0), (11, 0)] 105 [(2, .one (.ptr (1, 0) 0)), (3, .one (.ptr (6, 0) 0)), (11, .one (.d (.int .i64 (min (max a0 1) 6)))), (12, .one (.d (.int .i64 0)))]
    [((1, 0), some (.box 24 [.d (.int .i64 0), .nil])), ((6, 0), some (.box 24 [.d (.int .i64 (min (max a0 1) 6)), .own (11, 0) ([] : List A2I).length])), ((11, 0), some (.row 43 2 (dat (List.map eA2I ([] : List A2I)))))]
    (by simp only [EX, simprocAttr, Nat.blt, Nat.ble] <;> rfl)
  refine r_while (fun nf ac wd => ∃ (n771 : Int) (l772 : List A2I), L_graph_Full_l1 a0 nf n771 l772 = some r ∧ SL ⟨wb, S, Φ, P0⟩ 34 105 [(2, .one (.ptr (1, 0) 0)), (3, .one (.ptr (6, 0) 0)), (11, .one (.d (.int .i64 (min (max a0 1) 6)))), (12, .one (.d (.int .i64 n771)))] [((1, 0), some (.box 24 [.d (.int .i64 0), .nil])), ((6, 0), some (.box 24 [.d (.int .i64 (min (max a0 1) 6)), .own (11, 0) l772.length])), ((11, 0), some (.row 43 2 (dat (List.map eA2I l772))))] ac wd) (((min (max a0 1) 6) - 0).toNat + 1) ⟨0, ([] : List A2I), hD, h⟩ (fun nf ac wd hJ => ?_)
  obtain ⟨n771, l772, hL773, h⟩ := hJ
  cases nf with
  | zero => rw [L_graph_Full_l1] at hL773; cases hL773
  | succ nf =>
    rw [L_graph_Full_l1] at hL773
    refine rs_plain 106 [] [none] [2, 3, 11, 12, 13] [(1, 0), (6, 0), (11, 0)] h rfl rfl (by simp only [EX, simprocAttr, Nat.blt, Nat.ble, tz_3, tz_4] <;> rfl) fun ac wd h => ?_
    refine wp_seq ?_
    by_cases hb775 : n771 < (min (max a0 1) 6)
    · rw [if_pos hb775] at hL773
      refine r_condT h (decide (n771 < (min (max a0 1) 6))) (by simp only [EX, simprocAttr, Nat.blt, Nat.ble, hb775] <;> rfl) (by first | rfl | (simp only [EX, simprocAttr, Nat.blt, Nat.ble, hb775] <;> rfl)) ?_
      refine wp_skip ?_
      change Code.wp Try.prog _ _ _ _
      obtain ⟨e808, hE809, hL773⟩ := Option.bind_eq_some_iff.1 hL773
      refine r_seqJ (fun ac wd => ∃ (l807 : List A2I), l807 = e808 ∧ SL ⟨wb, S, Φ, P0⟩ 34 146 [(2, .one (.ptr (1, 0) 0)), (3, .one (.ptr (6, 0) 0)), (11, .one (.d (.int .i64 (min (max a0 1) 6)))), (12, .one (.d (.int .i64 n771)))] [((1, 0), some (.box 24 [.d (.int .i64 0), .nil])), ((6, 0), some (.box 24 [.d (.int .i64 (min (max a0 1) 6)), .own (11, 0) l807.length])), ((11, 0), some (.row 43 2 (dat (List.map eA2I l807))))] ac wd) ?_ ?_
      · skip
        refine wp_block ?_
        refine rs_plain 108 [] [none, none] [2, 3, 4, 11, 12] [(1, 0), (6, 0), (11, 0)] h rfl rfl (by simp only [EX, simprocAttr, Nat.blt, Nat.ble, tz_3, hb775] <;> rfl) fun ac wd h => ?_
        refine rs_plain 111 [] [none, none, none] [2, 3, 4, 11, 12, 16, 17] [(1, 0), (6, 0), (11, 0)] h rfl rfl (by simp only [EX, simprocAttr, Nat.blt, Nat.ble, tz_3, tz_24, hb775] <;> rfl) fun ac wd h => ?_
        obtain ⟨e842, hE843, hE809⟩ := Option.bind_eq_some_iff.1 hE809
        refine r_meetQ (fun ac wd => ∃ (l841 : List A2I), l841 = e842 ∧ SL ⟨wb, S, Φ, P0⟩ 34 146 [(2, .one (.ptr (1, 0) 0)), (3, .one (.ptr (6, 0) 0)), (11, .one (.d (.int .i64 (min (max a0 1) 6)))), (12, .one (.d (.int .i64 n771)))] [((1, 0), some (.box 24 [.d (.int .i64 0), .nil])), ((6, 0), some (.box 24 [.d (.int .i64 (min (max a0 1) 6)), .own (11, 0) l841.length])), ((11, 0), some (.row 43 2 (dat (List.map eA2I l841))))] ac wd) ?_ ?_
        · skip
          refine wp_block ?_
          have h := h.same [2, 3, 4, 11, 12, 16, 17] [(1, 0), (6, 0), (11, 0)] 145 [(2, .one (.ptr (1, 0) 0)), (3, .one (.ptr (6, 0) 0)), (4, .one (.d (.int .i64 n771))), (11, .one (.d (.int .i64 (min (max a0 1) 6)))), (12, .one (.d (.int .i64 n771))), (16, .one (.d (.int .i64 (min (max a0 1) 6)))), (17, .one (.d (.int .i64 0)))]
            [((1, 0), some (.box 24 [.d (.int .i64 0), .nil])), ((6, 0), some (.box 24 [.d (.int .i64 (min (max a0 1) 6)), .own (11, 0) l772.length])), ((11, 0), some (.row 43 2 (dat (List.map eA2I l772))))]
            (by simp only [EX, simprocAttr, Nat.blt, Nat.ble, hb775] <;> rfl)
          refine r_while (fun nf ac wd => ∃ (n864 : Int) (l865 : List A2I), L_graph_Full_l2 a0 n771 nf n864 l865 = some e842 ∧ SL ⟨wb, S, Φ, P0⟩ 34 145 [(2, .one (.ptr (1, 0) 0)), (3, .one (.ptr (6, 0) 0)), (4, .one (.d (.int .i64 n771))), (11, .one (.d (.int .i64 (min (max a0 1) 6)))), (12, .one (.d (.int .i64 n771))), (16, .one (.d (.int .i64 (min (max a0 1) 6)))), (17, .one (.d (.int .i64 n864)))] [((1, 0), some (.box 24 [.d (.int .i64 0), .nil])), ((6, 0), some (.box 24 [.d (.int .i64 (min (max a0 1) 6)), .own (11, 0) l865.length])), ((11, 0), some (.row 43 2 (dat (List.map eA2I l865))))] ac wd) (((min (max a0 1) 6) - 0).toNat + 1) ⟨0, l772, hE843, h⟩ (fun nf ac wd hJ => ?_)
          obtain ⟨n864, l865, hL866, h⟩ := hJ
          cases nf with
          | zero => rw [L_graph_Full_l2] at hL866; cases hL866
          | succ nf =>
            rw [L_graph_Full_l2] at hL866
            refine rs_plain 146 [] [none] [2, 3, 4, 11, 12, 16, 17, 18] [(1, 0), (6, 0), (11, 0)] h rfl rfl (by simp only [EX, simprocAttr, Nat.blt, Nat.ble, tz_3, tz_4, hb775] <;> rfl) fun ac wd h => ?_
            refine wp_seq ?_
            by_cases hb868 : n864 < (min (max a0 1) 6)
            · rw [if_pos hb868] at hL866
              refine r_condT h (decide (n864 < (min (max a0 1) 6))) (by simp only [EX, simprocAttr, Nat.blt, Nat.ble, hb775, hb868] <;> rfl) (by first | rfl | (simp only [EX, simprocAttr, Nat.blt, Nat.ble, hb775, hb868] <;> rfl)) ?_
              refine wp_skip ?_
              change Code.wp Try.prog _ _ _ _
              obtain ⟨e872, hE873, hL866⟩ := Option.bind_eq_some_iff.1 hL866
              refine r_seqJ (fun ac wd => ∃ (l871 : List A2I), l871 = e872 ∧ SL ⟨wb, S, Φ, P0⟩ 34 160 [(2, .one (.ptr (1, 0) 0)), (3, .one (.ptr (6, 0) 0)), (4, .one (.d (.int .i64 n771))), (11, .one (.d (.int .i64 (min (max a0 1) 6)))), (12, .one (.d (.int .i64 n771))), (16, .one (.d (.int .i64 (min (max a0 1) 6)))), (17, .one (.d (.int .i64 n864)))] [((1, 0), some (.box 24 [.d (.int .i64 0), .nil])), ((6, 0), some (.box 24 [.d (.int .i64 (min (max a0 1) 6)), .own (11, 0) l871.length])), ((11, 0), some (.row 43 2 (dat (List.map eA2I l871))))] ac wd) ?_ ?_
              · skip
                refine wp_block ?_
                refine rs_plain 148 [] [none, none] [2, 3, 4, 5, 11, 12, 16, 17] [(1, 0), (6, 0), (11, 0)] h rfl rfl (by simp only [EX, simprocAttr, Nat.blt, Nat.ble, tz_3, hb775, hb868] <;> rfl) fun ac wd h => ?_
                refine rs_plain 151 [] [none, none, none] [2, 3, 4, 5, 11, 12, 16, 17, 22] [(1, 0), (6, 0), (11, 0)] h rfl rfl (by simp only [EX, simprocAttr, Nat.blt, Nat.ble, tz_3, tz_4, hb775, hb868] <;> rfl) fun ac wd h => ?_
                by_cases hb874 : n771 = n864
                · rw [if_pos hb874] at hE873
                  have hb874t := eq_true hb874
                  refine r_condF h (!(decide (n771 = n864))) (by simp only [EX, simprocAttr, Nat.blt, Nat.ble, hb775, hb868, hb874t] <;> rfl) (by first | rfl | (simp only [EX, simprocAttr, Nat.blt, Nat.ble, hb775, hb868, hb874t] <;> rfl)) ?_
                  refine wp_skip ?_
                  have h := h.same [2, 3, 4, 11, 12, 16, 17] [(1, 0), (6, 0), (11, 0)] 160 [(2, .one (.ptr (1, 0) 0)), (3, .one (.ptr (6, 0) 0)), (4, .one (.d (.int .i64 n771))), (11, .one (.d (.int .i64 (min (max a0 1) 6)))), (12, .one (.d (.int .i64 n771))), (16, .one (.d (.int .i64 (min (max a0 1) 6)))), (17, .one (.d (.int .i64 n864)))]
                    [((1, 0), some (.box 24 [.d (.int .i64 0), .nil])), ((6, 0), some (.box 24 [.d (.int .i64 (min (max a0 1) 6)), .own (11, 0) l865.length])), ((11, 0), some (.row 43 2 (dat (List.map eA2I l865))))]
                    (by simp only [EX, simprocAttr, Nat.blt, Nat.ble, hb775, hb868, hb874t] <;> rfl)
                  injection hE873 with hE873
                  exact ⟨l865, hE873, h⟩
                · rw [if_neg hb874] at hE873
                  refine r_condT h (!(decide (n771 = n864))) (by simp only [EX, simprocAttr, Nat.blt, Nat.ble, hb775, hb868, hb874] <;> rfl) (by first | rfl | (simp only [EX, simprocAttr, Nat.blt, Nat.ble, hb775, hb868, hb874] <;> rfl)) ?_
                  by_cases ha875 : (l865.length + 1) * 16 ≤ 140737488355328
                  case neg => rw [if_neg ha875] at hE873; cases hE873
                  rw [if_pos ha875] at hE873
                  refine r_plain [] [none, none, none, none, none, none, none, none, none] [2, 3, 4, 11, 12, 16, 17] [(1, 0), (6, 0), (157, 0)] h rfl (by simp only [EX, simprocAttr, Nat.blt, Nat.ble, tz_3, tz_22, tz_24, tz_43, hb775, hb868, hb874, ha875] <;> rfl) fun ac wd h => ?_
                  have h := SL.swap h (11, 0) (157, 0) 160 (by decide) (by decide) (by simp only [EX, simprocAttr, Nat.blt, Nat.ble, hb775, hb868, hb874, ha875, e_ren3, fren, mren, AV.ren, AObj.ren, Cell.ren, sumRen, Upd.ren, swp, csw, dat_ren, opn_ren] <;> rfl) (by simp only [EX, simprocAttr, Nat.blt, Nat.ble, hb775, hb868, hb874, ha875, e_ren3, fren, mren, AV.ren, AObj.ren, Cell.ren, sumRen, Upd.ren, swp, csw, dat_ren, opn_ren] <;> rfl) (by simp only [EX, simprocAttr, Nat.blt, Nat.ble, hb775, hb868, hb874, ha875, e_ren3, fren, mren, AV.ren, AObj.ren, Cell.ren, sumRen, Upd.ren, swp, csw, dat_ren, opn_ren] <;> rfl)
                  have h := h.same [2, 3, 4, 11, 12, 16, 17] [(1, 0), (6, 0), (11, 0)] 160 [(2, .one (.ptr (1, 0) 0)), (3, .one (.ptr (6, 0) 0)), (4, .one (.d (.int .i64 n771))), (11, .one (.d (.int .i64 (min (max a0 1) 6)))), (12, .one (.d (.int .i64 n771))), (16, .one (.d (.int .i64 (min (max a0 1) 6)))), (17, .one (.d (.int .i64 n864)))]
                    [((1, 0), some (.box 24 [.d (.int .i64 0), .nil])), ((6, 0), some (.box 24 [.d (.int .i64 (min (max a0 1) 6)), .own (11, 0) (l865 ++ [(A2I.mk n771 n864)]).length])), ((11, 0), some (.row 43 2 (dat (List.map eA2I (l865 ++ [(A2I.mk n771 n864)])))))]
                    (by simp only [EX, simprocAttr, Nat.blt, Nat.ble, hb775, hb868, hb874, ha875] <;> rfl)
                  injection hE873 with hE873
                  exact ⟨(l865 ++ [(A2I.mk n771 n864)]), hE873, h⟩
              · skip
                rintro ac wd ⟨l871, rfl, h⟩
                (try dsimp only at hL866)
                refine r_plain [] [none, none] [2, 3, 4, 11, 12, 16, 17] [(1, 0), (6, 0), (11, 0)] h rfl (by simp only [EX, simprocAttr, Nat.blt, Nat.ble, tz_3, hb775, hb868] <;> rfl) fun ac wd h => ?_
                have h := h.same [2, 3, 4, 11, 12, 16, 17] [(1, 0), (6, 0), (11, 0)] 145 [(2, .one (.ptr (1, 0) 0)), (3, .one (.ptr (6, 0) 0)), (4, .one (.d (.int .i64 n771))), (11, .one (.d (.int .i64 (min (max a0 1) 6)))), (12, .one (.d (.int .i64 n771))), (16, .one (.d (.int .i64 (min (max a0 1) 6)))), (17, .one (.d (.int .i64 (IntKind.wrap .i64 (n864 + 1)))))]
                  [((1, 0), some (.box 24 [.d (.int .i64 0), .nil])), ((6, 0), some (.box 24 [.d (.int .i64 (min (max a0 1) 6)), .own (11, 0) l871.length])), ((11, 0), some (.row 43 2 (dat (List.map eA2I l871))))]
                  (by simp only [EX, simprocAttr, Nat.blt, Nat.ble, hb775, hb868] <;> rfl)
                change ∃ n', _ ∧ _
                exact ⟨nf, Nat.lt_succ_self nf, (IntKind.wrap .i64 (n864 + 1)), l871, hL866, h⟩
            · rw [if_neg hb868] at hL866
              refine r_condF h (decide (n864 < (min (max a0 1) 6))) (by simp only [EX, simprocAttr, Nat.blt, Nat.ble, hb775, hb868] <;> rfl) (by first | rfl | (simp only [EX, simprocAttr, Nat.blt, Nat.ble, hb775, hb868] <;> rfl)) ?_
              refine wp_exit ?_
              have h := h.same [2, 3, 11, 12] [(1, 0), (6, 0), (11, 0)] 146 [(2, .one (.ptr (1, 0) 0)), (3, .one (.ptr (6, 0) 0)), (11, .one (.d (.int .i64 (min (max a0 1) 6)))), (12, .one (.d (.int .i64 n771)))]
                [((1, 0), some (.box 24 [.d (.int .i64 0), .nil])), ((6, 0), some (.box 24 [.d (.int .i64 (min (max a0 1) 6)), .own (11, 0) l865.length])), ((11, 0), some (.row 43 2 (dat (List.map eA2I l865))))]
                (by simp only [EX, simprocAttr, Nat.blt, Nat.ble, hb775, hb868] <;> rfl)
              injection hL866 with hL866
              exact ⟨l865, hL866, h⟩
        · skip
          rintro ac wd ⟨l841, rfl, h⟩
          (try dsimp only at hE809)
          have h := h.same [2, 3, 11, 12] [(1, 0), (6, 0), (11, 0)] 146 [(2, .one (.ptr (1, 0) 0)), (3, .one (.ptr (6, 0) 0)), (11, .one (.d (.int .i64 (min (max a0 1) 6)))), (12, .one (.d (.int .i64 n771)))]
            [((1, 0), some (.box 24 [.d (.int .i64 0), .nil])), ((6, 0), some (.box 24 [.d (.int .i64 (min (max a0 1) 6)), .own (11, 0) l841.length])), ((11, 0), some (.row 43 2 (dat (List.map eA2I l841))))]
            (by simp only [EX, simprocAttr, Nat.blt, Nat.ble, hb775] <;> rfl)
          injection hE809 with hE809
          exact ⟨l841, hE809, h⟩
      · skip
        rintro ac wd ⟨l807, rfl, h⟩
        (try dsimp only at hL773)
        refine r_plain [] [none, none] [2, 3, 11, 12] [(1, 0), (6, 0), (11, 0)] h rfl (by simp only [EX, simprocAttr, Nat.blt, Nat.ble, tz_3, hb775] <;> rfl) fun ac wd h => ?_
        have h := h.same [2, 3, 11, 12] [(1, 0), (6, 0), (11, 0)] 105 [(2, .one (.ptr (1, 0) 0)), (3, .one (.ptr (6, 0) 0)), (11, .one (.d (.int .i64 (min (max a0 1) 6)))), (12, .one (.d (.int .i64 (IntKind.wrap .i64 (n771 + 1)))))]
          [((1, 0), some (.box 24 [.d (.int .i64 0), .nil])), ((6, 0), some (.box 24 [.d (.int .i64 (min (max a0 1) 6)), .own (11, 0) l807.length])), ((11, 0), some (.row 43 2 (dat (List.map eA2I l807))))]
          (by simp only [EX, simprocAttr, Nat.blt, Nat.ble, hb775] <;> rfl)
        change ∃ n', _ ∧ _
        exact ⟨nf, Nat.lt_succ_self nf, (IntKind.wrap .i64 (n771 + 1)), l807, hL773, h⟩
    · rw [if_neg hb775] at hL773
      refine r_condF h (decide (n771 < (min (max a0 1) 6))) (by simp only [EX, simprocAttr, Nat.blt, Nat.ble, hb775] <;> rfl) (by first | rfl | (simp only [EX, simprocAttr, Nat.blt, Nat.ble, hb775] <;> rfl)) ?_
      refine wp_exit ?_
      change Code.wp Try.prog _ _ _ _
      refine rs_plain 108 [] [none, none] [2] [(1, 0), (11, 0)] h rfl rfl (by simp only [EX, simprocAttr, Nat.blt, Nat.ble, tz_24, hb775] <;> rfl) fun ac wd h => ?_
      refine wp_ret ?_
      have h := h.same [2] [(1, 0), (11, 0)] 108 [(2, .one (.ptr (1, 0) 0))]
        [((1, 0), some (.box 24 [.d (.int .i64 (min (max a0 1) 6)), .own (11, 0) l772.length])), ((11, 0), some (.row 43 2 (dat (List.map eA2I l772))))]
        (by simp only [EX, simprocAttr, Nat.blt, Nat.ble, hb775, dat_open] <;> rfl)
      have h := SL.swap h (1, 0) (11, 0) 108 (by decide) (by decide) (by simp only [EX, simprocAttr, Nat.blt, Nat.ble, hb775, e_ren3, fren, mren, AV.ren, AObj.ren, Cell.ren, sumRen, Upd.ren, swp, csw, dat_ren, opn_ren] <;> rfl) (by simp only [EX, simprocAttr, Nat.blt, Nat.ble, hb775, e_ren3, fren, mren, AV.ren, AObj.ren, Cell.ren, sumRen, Upd.ren, swp, csw, dat_ren, opn_ren] <;> rfl) (by simp only [EX, simprocAttr, Nat.blt, Nat.ble, hb775, e_ren3, fren, mren, AV.ren, AObj.ren, Cell.ren, sumRen, Upd.ren, swp, csw, dat_ren, opn_ren] <;> rfl)
      have h := h.same [2] [(1, 0), (11, 0)] 108 [(2, .one (.ptr (11, 0) 0))]
        [((1, 0), some (.row 43 2 (dat (List.map eA2I l772)))), ((11, 0), some (.box 24 [.d (.int .i64 (min (max a0 1) 6)), .own (1, 0) l772.length]))]
        (by simp only [EX, simprocAttr, Nat.blt, Nat.ble, hb775, dat_open] <;> rfl)
      injection hL773 with hL773
      subst hL773
      exact r_retO rfl h [.cell 2 24] rfl [(1, 0)] (by simp only [retO, List.mapM_cons, List.mapM_nil, Option.bind_eq_bind, Option.pure_def, EX, simprocAttr, Nat.blt, Nat.ble, tz_24, hb775] <;> rfl)
theorem L_graph_Full_ok {a0 : Int} {r : TGraph} (hD : L_graph_Full a0 = some r) :
    CallH Try.prog 15 [.one (.d (.int .i64 a0))] []
      (.agg [.d (.int .i64 r.N), .d (.sl (List.map eA2I r.Links))]) [] :=
  (L_graph_Full_own hD).frz (by simp only [EX, simprocAttr, Nat.blt, Nat.ble] <;> rfl) (by simp only [frzA, frzSum, EX, simprocAttr, Nat.blt, Nat.ble] <;> rfl) rfl

set_option maxRecDepth 20000 in
set_option maxHeartbeats 4000000 in
theorem L_ref03_Full_own {a0 : Int} {r : TGraph} (hD : L_ref03_Full a0 = some r) :
    CallH Try.prog 16 [.one (.d (.int .i64 a0))] []
      (.agg [.d (.int .i64 r.N), .own (1, 0) r.Links.length]) [((1, 0), some (.row 43 2 (dat (List.map eA2I r.Links))))] := by
  unfold L_ref03_Full at hD
  refine r_call Try.func16 rfl Try.ntmps16 (by kernel_rfl) (by rfl) (by simp only [shutB, EX, simprocAttr, Nat.blt, Nat.ble] <;> rfl) (by simp) fun S Φ P0 wb ac h => ?_
  refine rs_plain 2 [] [none] [0, 2] [(1, 0)] h rfl rfl (by simp only [EX, simprocAttr, Nat.blt, Nat.ble, tz_28] <;> rfl) fun ac wd h => ?_
  refine rs_plain 8 [] [none, none, none, none, none, none] [2, 3] [(1, 0), (6, 0)] h rfl rfl (by simp only [EX, simprocAttr, Nat.blt, Nat.ble, tz_3, tz_28] <;> rfl) fun ac wd h => ?_
  refine wp_seq ?_
  refine rs_plain 9 [] [none] [2, 3, 4] [(1, 0), (6, 0)] h rfl rfl (by simp only [EX, simprocAttr, Nat.blt, Nat.ble, tz_3] <;> rfl) fun ac wd h => ?_
  refine wp_block ?_
  have h := SL.bornB h (6, 0) 1 43 2 (by simp only [EX, simprocAttr, Nat.blt, Nat.ble] <;> rfl) (by simp only [EX, simprocAttr, Nat.blt, Nat.ble] <;> rfl)
  have h := h.same [2, 3, 4] [(1, 0), (6, 0), (9, 0)] 119 [(2, .one (.ptr (1, 0) 0)), (3, .one (.ptr (6, 0) 0)), (4, .one (.d (.int .i64 0)))]
    [((1, 0), some (.box 28 [.d (.int .i64 0), .nil])), ((6, 0), some (.box 28 [.d (.int .i64 (max 1 (min a0 6))), .own (9, 0) ([] : List A2I).length])), ((9, 0), some (.row 43 2 (dat (List.map eA2I ([] : List A2I)))))]
    (by simp only [EX, simprocAttr, Nat.blt, Nat.ble] <;> rfl)
  refine r_while (fun nf ac wd => ∃ (n771 : Int) (l772 : List A2I), L_ref03_Full_l1 a0 nf n771 l772 = some r ∧ SL ⟨wb, S, Φ, P0⟩ 34 119 [(2, .one (.ptr (1, 0) 0)), (3, .one (.ptr (6, 0) 0)), (4, .one (.d (.int .i64 n771)))] [((1, 0), some (.box 28 [.d (.int .i64 0), .nil])), ((6, 0), some (.box 28 [.d (.int .i64 (max 1 (min a0 6))), .own (9, 0) l772.length])), ((9, 0), some (.row 43 2 (dat (List.map eA2I l772))))] ac wd) (((max 1 (min a0 6)) - 0).toNat + 1) ⟨0, ([] : List A2I), hD, h⟩ (fun nf ac wd hJ => ?_)
  obtain ⟨n771, l772, hL773, h⟩ := hJ
  cases nf with
  | zero => rw [L_ref03_Full_l1] at hL773; cases hL773
  | succ nf =>
    rw [L_ref03_Full_l1] at hL773
    refine wp_seq ?_
    refine rs_plain 123 [] [none, none, none, none] [2, 3, 4, 13] [(1, 0), (6, 0), (9, 0)] h rfl rfl (by simp only [EX, simprocAttr, Nat.blt, Nat.ble, tz_3, tz_4, tz_28] <;> rfl) fun ac wd h => ?_
    by_cases hb775 : n771 < (max 1 (min a0 6))
    · rw [if_pos hb775] at hL773
      refine r_condT h (decide (n771 < (max 1 (min a0 6)))) (by simp only [EX, simprocAttr, Nat.blt, Nat.ble, hb775] <;> rfl) (by first | rfl | (simp only [EX, simprocAttr, Nat.blt, Nat.ble, hb775] <;> rfl)) ?_
      refine wp_skip ?_
      change Code.wp Try.prog _ _ _ _
      obtain ⟨e808, hE809, hL773⟩ := Option.bind_eq_some_iff.1 hL773
      refine r_seqJ (fun ac wd => ∃ (l807 : List A2I), l807 = e808 ∧ SL ⟨wb, S, Φ, P0⟩ 34 166 [(2, .one (.ptr (1, 0) 0)), (3, .one (.ptr (6, 0) 0)), (4, .one (.d (.int .i64 n771)))] [((1, 0), some (.box 28 [.d (.int .i64 0), .nil])), ((6, 0), some (.box 28 [.d (.int .i64 (max 1 (min a0 6))), .own (9, 0) l807.length])), ((9, 0), some (.row 43 2 (dat (List.map eA2I l807))))] ac wd) ?_ ?_
      · skip
        refine wp_block ?_
        refine rs_plain 124 [] [none] [2, 3, 4, 5] [(1, 0), (6, 0), (9, 0)] h rfl rfl (by simp only [EX, simprocAttr, Nat.blt, Nat.ble, tz_3, hb775] <;> rfl) fun ac wd h => ?_
        obtain ⟨e842, hE843, hE809⟩ := Option.bind_eq_some_iff.1 hE809
        refine r_meetQ (fun ac wd => ∃ (l841 : List A2I), l841 = e842 ∧ SL ⟨wb, S, Φ, P0⟩ 34 166 [(2, .one (.ptr (1, 0) 0)), (3, .one (.ptr (6, 0) 0)), (4, .one (.d (.int .i64 n771)))] [((1, 0), some (.box 28 [.d (.int .i64 0), .nil])), ((6, 0), some (.box 28 [.d (.int .i64 (max 1 (min a0 6))), .own (9, 0) l841.length])), ((9, 0), some (.row 43 2 (dat (List.map eA2I l841))))] ac wd) ?_ ?_
        · skip
          refine wp_block ?_
          have h := h.same [2, 3, 4, 5] [(1, 0), (6, 0), (9, 0)] 162 [(2, .one (.ptr (1, 0) 0)), (3, .one (.ptr (6, 0) 0)), (4, .one (.d (.int .i64 n771))), (5, .one (.d (.int .i64 0)))]
            [((1, 0), some (.box 28 [.d (.int .i64 0), .nil])), ((6, 0), some (.box 28 [.d (.int .i64 (max 1 (min a0 6))), .own (9, 0) l772.length])), ((9, 0), some (.row 43 2 (dat (List.map eA2I l772))))]
            (by simp only [EX, simprocAttr, Nat.blt, Nat.ble, hb775] <;> rfl)
          refine r_while (fun nf ac wd => ∃ (n864 : Int) (l865 : List A2I), L_ref03_Full_l2 a0 n771 nf n864 l865 = some e842 ∧ SL ⟨wb, S, Φ, P0⟩ 34 162 [(2, .one (.ptr (1, 0) 0)), (3, .one (.ptr (6, 0) 0)), (4, .one (.d (.int .i64 n771))), (5, .one (.d (.int .i64 n864)))] [((1, 0), some (.box 28 [.d (.int .i64 0), .nil])), ((6, 0), some (.box 28 [.d (.int .i64 (max 1 (min a0 6))), .own (9, 0) l865.length])), ((9, 0), some (.row 43 2 (dat (List.map eA2I l865))))] ac wd) (((max 1 (min a0 6)) - 0).toNat + 1) ⟨0, l772, hE843, h⟩ (fun nf ac wd hJ => ?_)
          obtain ⟨n864, l865, hL866, h⟩ := hJ
          cases nf with
          | zero => rw [L_ref03_Full_l2] at hL866; cases hL866
          | succ nf =>
            rw [L_ref03_Full_l2] at hL866
            refine wp_seq ?_
            refine rs_plain 166 [] [none, none, none, none] [2, 3, 4, 5, 19] [(1, 0), (6, 0), (9, 0)] h rfl rfl (by simp only [EX, simprocAttr, Nat.blt, Nat.ble, tz_3, tz_4, tz_28, hb775] <;> rfl) fun ac wd h => ?_
            by_cases hb868 : n864 < (max 1 (min a0 6))
            · rw [if_pos hb868] at hL866
              refine r_condT h (decide (n864 < (max 1 (min a0 6)))) (by simp only [EX, simprocAttr, Nat.blt, Nat.ble, hb775, hb868] <;> rfl) (by first | rfl | (simp only [EX, simprocAttr, Nat.blt, Nat.ble, hb775, hb868] <;> rfl)) ?_
              refine wp_skip ?_
              change Code.wp Try.prog _ _ _ _
              obtain ⟨e872, hE873, hL866⟩ := Option.bind_eq_some_iff.1 hL866
              refine r_seqJ (fun ac wd => ∃ (l871 : List A2I), l871 = e872 ∧ SL ⟨wb, S, Φ, P0⟩ 34 178 [(2, .one (.ptr (1, 0) 0)), (3, .one (.ptr (6, 0) 0)), (4, .one (.d (.int .i64 n771))), (5, .one (.d (.int .i64 n864)))] [((1, 0), some (.box 28 [.d (.int .i64 0), .nil])), ((6, 0), some (.box 28 [.d (.int .i64 (max 1 (min a0 6))), .own (9, 0) l871.length])), ((9, 0), some (.row 43 2 (dat (List.map eA2I l871))))] ac wd) ?_ ?_
              · skip
                refine wp_block ?_
                refine rs_plain 169 [] [none, none, none] [2, 3, 4, 5, 24] [(1, 0), (6, 0), (9, 0)] h rfl rfl (by simp only [EX, simprocAttr, Nat.blt, Nat.ble, tz_3, tz_4, hb775, hb868] <;> rfl) fun ac wd h => ?_
                by_cases hb874 : n771 = n864
                · rw [if_pos hb874] at hE873
                  have hb874t := eq_true hb874
                  refine r_condF h (!(decide (n771 = n864))) (by simp only [EX, simprocAttr, Nat.blt, Nat.ble, hb775, hb868, hb874t] <;> rfl) (by first | rfl | (simp only [EX, simprocAttr, Nat.blt, Nat.ble, hb775, hb868, hb874t] <;> rfl)) ?_
                  refine wp_skip ?_
                  have h := h.same [2, 3, 4, 5] [(1, 0), (6, 0), (9, 0)] 178 [(2, .one (.ptr (1, 0) 0)), (3, .one (.ptr (6, 0) 0)), (4, .one (.d (.int .i64 n771))), (5, .one (.d (.int .i64 n864)))]
                    [((1, 0), some (.box 28 [.d (.int .i64 0), .nil])), ((6, 0), some (.box 28 [.d (.int .i64 (max 1 (min a0 6))), .own (9, 0) l865.length])), ((9, 0), some (.row 43 2 (dat (List.map eA2I l865))))]
                    (by simp only [EX, simprocAttr, Nat.blt, Nat.ble, hb775, hb868, hb874t] <;> rfl)
                  injection hE873 with hE873
                  exact ⟨l865, hE873, h⟩
                · rw [if_neg hb874] at hE873
                  refine r_condT h (!(decide (n771 = n864))) (by simp only [EX, simprocAttr, Nat.blt, Nat.ble, hb775, hb868, hb874] <;> rfl) (by first | rfl | (simp only [EX, simprocAttr, Nat.blt, Nat.ble, hb775, hb868, hb874] <;> rfl)) ?_
                  by_cases ha875 : (l865.length + 1) * 16 ≤ 140737488355328
                  case neg => rw [if_neg ha875] at hE873; cases hE873
                  rw [if_pos ha875] at hE873
                  refine r_plain [] [none, none, none, none, none, none, none, none, none] [2, 3, 4, 5] [(1, 0), (6, 0), (175, 0)] h rfl (by simp only [EX, simprocAttr, Nat.blt, Nat.ble, tz_3, tz_22, tz_28, tz_43, hb775, hb868, hb874, ha875] <;> rfl) fun ac wd h => ?_
                  have h := SL.swap h (9, 0) (175, 0) 178 (by decide) (by decide) (by simp only [EX, simprocAttr, Nat.blt, Nat.ble, hb775, hb868, hb874, ha875, e_ren3, fren, mren, AV.ren, AObj.ren, Cell.ren, sumRen, Upd.ren, swp, csw, dat_ren, opn_ren] <;> rfl) (by simp only [EX, simprocAttr, Nat.blt, Nat.ble, hb775, hb868, hb874, ha875, e_ren3, fren, mren, AV.ren, AObj.ren, Cell.ren, sumRen, Upd.ren, swp, csw, dat_ren, opn_ren] <;> rfl) (by simp only [EX, simprocAttr, Nat.blt, Nat.ble, hb775, hb868, hb874, ha875, e_ren3, fren, mren, AV.ren, AObj.ren, Cell.ren, sumRen, Upd.ren, swp, csw, dat_ren, opn_ren] <;> rfl)
                  have h := h.same [2, 3, 4, 5] [(1, 0), (6, 0), (9, 0)] 178 [(2, .one (.ptr (1, 0) 0)), (3, .one (.ptr (6, 0) 0)), (4, .one (.d (.int .i64 n771))), (5, .one (.d (.int .i64 n864)))]
                    [((1, 0), some (.box 28 [.d (.int .i64 0), .nil])), ((6, 0), some (.box 28 [.d (.int .i64 (max 1 (min a0 6))), .own (9, 0) (l865 ++ [(A2I.mk n771 n864)]).length])), ((9, 0), some (.row 43 2 (dat (List.map eA2I (l865 ++ [(A2I.mk n771 n864)])))))]
                    (by simp only [EX, simprocAttr, Nat.blt, Nat.ble, hb775, hb868, hb874, ha875] <;> rfl)
                  injection hE873 with hE873
                  exact ⟨(l865 ++ [(A2I.mk n771 n864)]), hE873, h⟩
              · skip
                rintro ac wd ⟨l871, rfl, h⟩
                (try dsimp only at hL866)
                refine r_plain [] [none, none, none] [2, 3, 4, 5] [(1, 0), (6, 0), (9, 0)] h rfl (by simp only [EX, simprocAttr, Nat.blt, Nat.ble, tz_3, hb775, hb868] <;> rfl) fun ac wd h => ?_
                have h := h.same [2, 3, 4, 5] [(1, 0), (6, 0), (9, 0)] 162 [(2, .one (.ptr (1, 0) 0)), (3, .one (.ptr (6, 0) 0)), (4, .one (.d (.int .i64 n771))), (5, .one (.d (.int .i64 (IntKind.wrap .i64 (n864 + 1)))))]
                  [((1, 0), some (.box 28 [.d (.int .i64 0), .nil])), ((6, 0), some (.box 28 [.d (.int .i64 (max 1 (min a0 6))), .own (9, 0) l871.length])), ((9, 0), some (.row 43 2 (dat (List.map eA2I l871))))]
                  (by simp only [EX, simprocAttr, Nat.blt, Nat.ble, hb775, hb868] <;> rfl)
                change ∃ n', _ ∧ _
                exact ⟨nf, Nat.lt_succ_self nf, (IntKind.wrap .i64 (n864 + 1)), l871, hL866, h⟩
            · rw [if_neg hb868] at hL866
              refine r_condF h (decide (n864 < (max 1 (min a0 6)))) (by simp only [EX, simprocAttr, Nat.blt, Nat.ble, hb775, hb868] <;> rfl) (by first | rfl | (simp only [EX, simprocAttr, Nat.blt, Nat.ble, hb775, hb868] <;> rfl)) ?_
              refine wp_exit ?_
              have h := h.same [2, 3, 4] [(1, 0), (6, 0), (9, 0)] 166 [(2, .one (.ptr (1, 0) 0)), (3, .one (.ptr (6, 0) 0)), (4, .one (.d (.int .i64 n771)))]
                [((1, 0), some (.box 28 [.d (.int .i64 0), .nil])), ((6, 0), some (.box 28 [.d (.int .i64 (max 1 (min a0 6))), .own (9, 0) l865.length])), ((9, 0), some (.row 43 2 (dat (List.map eA2I l865))))]
                (by simp only [EX, simprocAttr, Nat.blt, Nat.ble, hb775, hb868] <;> rfl)
              injection hL866 with hL866
              exact ⟨l865, hL866, h⟩
        · skip
          rintro ac wd ⟨l841, rfl, h⟩
          (try dsimp only at hE809)
          have h := h.same [2, 3, 4] [(1, 0), (6, 0), (9, 0)] 166 [(2, .one (.ptr (1, 0) 0)), (3, .one (.ptr (6, 0) 0)), (4, .one (.d (.int .i64 n771)))]
            [((1, 0), some (.box 28 [.d (.int .i64 0), .nil])), ((6, 0), some (.box 28 [.d (.int .i64 (max 1 (min a0 6))), .own (9, 0) l841.length])), ((9, 0), some (.row 43 2 (dat (List.map eA2I l841))))]
            (by simp only [EX, simprocAttr, Nat.blt, Nat.ble, hb775] <;> rfl)
          injection hE809 with hE809
          exact ⟨l841, hE809, h⟩
      · skip
        rintro ac wd ⟨l807, rfl, h⟩
        (try dsimp only at hL773)
        refine r_plain [] [none, none, none] [2, 3, 4] [(1, 0), (6, 0), (9, 0)] h rfl (by simp only [EX, simprocAttr, Nat.blt, Nat.ble, tz_3, hb775] <;> rfl) fun ac wd h => ?_
        have h := h.same [2, 3, 4] [(1, 0), (6, 0), (9, 0)] 119 [(2, .one (.ptr (1, 0) 0)), (3, .one (.ptr (6, 0) 0)), (4, .one (.d (.int .i64 (IntKind.wrap .i64 (n771 + 1)))))]
          [((1, 0), some (.box 28 [.d (.int .i64 0), .nil])), ((6, 0), some (.box 28 [.d (.int .i64 (max 1 (min a0 6))), .own (9, 0) l807.length])), ((9, 0), some (.row 43 2 (dat (List.map eA2I l807))))]
          (by simp only [EX, simprocAttr, Nat.blt, Nat.ble, hb775] <;> rfl)
        change ∃ n', _ ∧ _
        exact ⟨nf, Nat.lt_succ_self nf, (IntKind.wrap .i64 (n771 + 1)), l807, hL773, h⟩
    · rw [if_neg hb775] at hL773
      refine r_condF h (decide (n771 < (max 1 (min a0 6)))) (by simp only [EX, simprocAttr, Nat.blt, Nat.ble, hb775] <;> rfl) (by first | rfl | (simp only [EX, simprocAttr, Nat.blt, Nat.ble, hb775] <;> rfl)) ?_
      refine wp_exit ?_
      change Code.wp Try.prog _ _ _ _
      refine rs_plain 125 [] [none, none] [2] [(1, 0), (9, 0)] h rfl rfl (by simp only [EX, simprocAttr, Nat.blt, Nat.ble, tz_28, hb775] <;> rfl) fun ac wd h => ?_
      refine wp_ret ?_
      have h := h.same [2] [(1, 0), (9, 0)] 125 [(2, .one (.ptr (1, 0) 0))]
        [((1, 0), some (.box 28 [.d (.int .i64 (max 1 (min a0 6))), .own (9, 0) l772.length])), ((9, 0), some (.row 43 2 (dat (List.map eA2I l772))))]
        (by simp only [EX, simprocAttr, Nat.blt, Nat.ble, hb775, dat_open] <;> rfl)
      have h := SL.swap h (1, 0) (9, 0) 125 (by decide) (by decide) (by simp only [EX, simprocAttr, Nat.blt, Nat.ble, hb775, e_ren3, fren, mren, AV.ren, AObj.ren, Cell.ren, sumRen, Upd.ren, swp, csw, dat_ren, opn_ren] <;> rfl) (by simp only [EX, simprocAttr, Nat.blt, Nat.ble, hb775, e_ren3, fren, mren, AV.ren, AObj.ren, Cell.ren, sumRen, Upd.ren, swp, csw, dat_ren, opn_ren] <;> rfl) (by simp only [EX, simprocAttr, Nat.blt, Nat.ble, hb775, e_ren3, fren, mren, AV.ren, AObj.ren, Cell.ren, sumRen, Upd.ren, swp, csw, dat_ren, opn_ren] <;> rfl)
      have h := h.same [2] [(1, 0), (9, 0)] 125 [(2, .one (.ptr (9, 0) 0))]
        [((1, 0), some (.row 43 2 (dat (List.map eA2I l772)))), ((9, 0), some (.box 28 [.d (.int .i64 (max 1 (min a0 6))), .own (1, 0) l772.length]))]
        (by simp only [EX, simprocAttr, Nat.blt, Nat.ble, hb775, dat_open] <;> rfl)
      injection hL773 with hL773
      subst hL773
      exact r_retO rfl h [.cell 2 28] rfl [(1, 0)] (by simp only [retO, List.mapM_cons, List.mapM_nil, Option.bind_eq_bind, Option.pure_def, EX, simprocAttr, Nat.blt, Nat.ble, tz_28, hb775] <;> rfl)
theorem L_ref03_Full_ok {a0 : Int} {r : TGraph} (hD : L_ref03_Full a0 = some r) :
    CallH Try.prog 16 [.one (.d (.int .i64 a0))] []
      (.agg [.d (.int .i64 r.N), .d (.sl (List.map eA2I r.Links))]) [] :=
  (L_ref03_Full_own hD).frz (by simp only [EX, simprocAttr, Nat.blt, Nat.ble] <;> rfl) (by simp only [frzA, frzSum, EX, simprocAttr, Nat.blt, Nat.ble] <;> rfl) rfl

set_option maxRecDepth 20000 in
set_option maxHeartbeats 4000000 in
theorem L_ref03_Same_ok {a0 : TGraph} {a1 : TGraph} {r : Bool} (hD : L_ref03_Same a0 a1 = some r) :
    CallH Try.prog 14 [.agg [.d (.int .i64 a0.N), .d (.sl (List.map eA2I a0.Links))], .agg [.d (.int .i64 a1.N), .d (.sl (List.map eA2I a1.Links))]] []
      (.one (.d (.bool r))) [] := by
  unfold L_ref03_Same at hD
  refine r_call Try.func14 rfl Try.ntmps14 (by kernel_rfl) (by rfl) (by rfl) (by simp) fun S Φ P0 wb ac h => ?_
  refine rs_plain 4 [] [none, none, none] [2, 3] [(1, 0), (2, 0)] h rfl rfl (by simp only [EX, simprocAttr, Nat.blt, Nat.ble, tz_4, tz_28] <;> rfl) fun ac wd h => ?_
  refine wp_seq ?_
  obtain ⟨e137, hE138, hD⟩ := Option.bind_eq_some_iff.1 hD
  refine r_seqJ (fun ac wd => ∃ (b136 : Bool), b136 = e137 ∧ SL ⟨wb, S, Φ, P0⟩ 38 18 [(2, .one (.ptr (1, 0) 0)), (3, .one (.ptr (2, 0) 0)), (19, .one (.d (.bool b136)))] [((1, 0), some (.box 28 [.d (.int .i64 a0.N), .d (.sl (List.map eA2I a0.Links))])), ((2, 0), some (.box 28 [.d (.int .i64 a1.N), .d (.sl (List.map eA2I a1.Links))]))] ac wd) ?_ ?_
  · skip
    by_cases hb139 : a0.N = a1.N
    · rw [if_pos hb139] at hE138
      have hb139t := eq_true hb139
      refine r_plain [] [none, none, none, none, none, none, some (some 11, false), some (some 11, false), some (some 11, false), some (some 11, false), some (some 11, false), some (some 11, false), some (some 11, false), none] [2, 3, 19] [(1, 0), (2, 0)] h rfl (by simp only [EX, simprocAttr, Nat.blt, Nat.ble, tz_3, tz_4, tz_22, tz_28, tz_43, hb139t] <;> rfl) fun ac wd h => ?_
      have h := h.same [2, 3, 19] [(1, 0), (2, 0)] 18 [(2, .one (.ptr (1, 0) 0)), (3, .one (.ptr (2, 0) 0)), (19, .one (.d (.bool (!(decide ((a0.Links.length : Int) = (a1.Links.length : Int)))))))]
        [((1, 0), some (.box 28 [.d (.int .i64 a0.N), .d (.sl (List.map eA2I a0.Links))])), ((2, 0), some (.box 28 [.d (.int .i64 a1.N), .d (.sl (List.map eA2I a1.Links))]))]
        (by simp only [EX, simprocAttr, Nat.blt, Nat.ble, hb139t] <;> rfl)
      injection hE138 with hE138
      exact ⟨!(decide ((a0.Links.length : Int) = (a1.Links.length : Int))), hE138, h⟩
    · rw [if_neg hb139] at hE138
      refine r_plain [] [none, none, none, none, none, none, some (some 11, false), some (some 11, false), some (some 11, false), some (some 11, false), some (some 11, false), some (some 11, false), some (some 11, false), none] [2, 3, 19] [(1, 0), (2, 0)] h rfl (by simp only [EX, simprocAttr, Nat.blt, Nat.ble, tz_3, tz_4, tz_22, tz_28, tz_43, hb139] <;> rfl) fun ac wd h => ?_
      have h := h.same [2, 3, 19] [(1, 0), (2, 0)] 18 [(2, .one (.ptr (1, 0) 0)), (3, .one (.ptr (2, 0) 0)), (19, .one (.d (.bool true)))]
        [((1, 0), some (.box 28 [.d (.int .i64 a0.N), .d (.sl (List.map eA2I a0.Links))])), ((2, 0), some (.box 28 [.d (.int .i64 a1.N), .d (.sl (List.map eA2I a1.Links))]))]
        (by simp only [EX, simprocAttr, Nat.blt, Nat.ble, hb139] <;> rfl)
      injection hE138 with hE138
      exact ⟨true, hE138, h⟩
  · skip
    rintro ac wd ⟨b136, rfl, h⟩
    (try dsimp only at hD)
    by_cases hb141 : b136 = true
    · rw [if_pos hb141] at hD
      refine r_condT h b136 (by simp only [EX, simprocAttr, Nat.blt, Nat.ble, hb141] <;> rfl) (by first | rfl | (simp only [EX, simprocAttr, Nat.blt, Nat.ble, hb141] <;> rfl)) ?_
      refine rs_plain 19 [] [none] [4] [] h rfl rfl (by simp only [EX, simprocAttr, Nat.blt, Nat.ble, tz_4, hb141] <;> rfl) fun ac wd h => ?_
      refine wp_ret ?_
      injection hD with hD
      subst hD
      exact r_retE rfl h [.tmp 4] rfl (by simp only [retD, List.mapM_cons, List.mapM_nil, Option.bind_eq_bind, Option.pure_def, EX, simprocAttr, Nat.blt, Nat.ble, hb141] <;> rfl)
    · rw [if_neg hb141] at hD
      have hb141n := eq_false_of_ne_true hb141
      refine r_condF h b136 (by simp only [EX, simprocAttr, Nat.blt, Nat.ble, hb141n] <;> rfl) (by first | rfl | (simp only [EX, simprocAttr, Nat.blt, Nat.ble, hb141n] <;> rfl)) ?_
      refine wp_skip ?_
      change Code.wp Try.prog _ _ _ _
      refine wp_seq ?_
      refine rs_plain 19 [] [none] [2, 3, 5] [(1, 0), (2, 0)] h rfl rfl (by simp only [EX, simprocAttr, Nat.blt, Nat.ble, tz_3, hb141n] <;> rfl) fun ac wd h => ?_
      refine wp_block ?_
      have h := h.same [2, 3, 5] [(1, 0), (2, 0)] 57 [(2, .one (.ptr (1, 0) 0)), (3, .one (.ptr (2, 0) 0)), (5, .one (.d (.int .i64 0)))]
        [((1, 0), some (.box 28 [.d (.int .i64 a0.N), .d (.sl (List.map eA2I a0.Links))])), ((2, 0), some (.box 28 [.d (.int .i64 a1.N), .d (.sl (List.map eA2I a1.Links))]))]
        (by simp only [EX, simprocAttr, Nat.blt, Nat.ble, hb141n] <;> rfl)
      refine r_while (fun nf ac wd => ∃ (n245 : Int), L_ref03_Same_l1 a0 a1 nf n245 = some r ∧ SL ⟨wb, S, Φ, P0⟩ 38 57 [(2, .one (.ptr (1, 0) 0)), (3, .one (.ptr (2, 0) 0)), (5, .one (.d (.int .i64 n245)))] [((1, 0), some (.box 28 [.d (.int .i64 a0.N), .d (.sl (List.map eA2I a0.Links))])), ((2, 0), some (.box 28 [.d (.int .i64 a1.N), .d (.sl (List.map eA2I a1.Links))]))] ac wd) (((a0.Links.length : Int) - 0).toNat + 1) ⟨0, hD, h⟩ (fun nf ac wd hJ => ?_)
      obtain ⟨n245, hL246, h⟩ := hJ
      cases nf with
      | zero => rw [L_ref03_Same_l1] at hL246; cases hL246
      | succ nf =>
        rw [L_ref03_Same_l1] at hL246
        refine wp_seq ?_
        refine rs_plain 62 [] [none, none, none, none, none] [2, 3, 5, 24] [(1, 0), (2, 0)] h rfl rfl (by simp only [EX, simprocAttr, Nat.blt, Nat.ble, tz_3, tz_4, tz_22, tz_28, tz_43, hb141n] <;> rfl) fun ac wd h => ?_
        by_cases hb248 : n245 < (a0.Links.length : Int)
        · rw [if_pos hb248] at hL246
          refine r_condT h (decide (n245 < (a0.Links.length : Int))) (by simp only [EX, simprocAttr, Nat.blt, Nat.ble, hb141n, hb248] <;> rfl) (by first | rfl | (simp only [EX, simprocAttr, Nat.blt, Nat.ble, hb141n, hb248] <;> rfl)) ?_
          refine wp_skip ?_
          change Code.wp Try.prog _ _ _ _
          refine wp_seq ?_
          refine wp_block ?_
          obtain ⟨x262, hx263, hL246⟩ := Option.bind_eq_some_iff.1 hL246
          obtain ⟨hx263a, hx263b, hx263c⟩ := at_some hx263
          have hx263d := (List.getElem?_eq_some_iff.1 hx263b).1
          obtain ⟨x264, hx265, hL246⟩ := Option.bind_eq_some_iff.1 hL246
          obtain ⟨hx265a, hx265b, hx265c⟩ := at_some hx265
          have hx265d := (List.getElem?_eq_some_iff.1 hx265b).1
          refine rs_drawn 73 ty_hm [] [none, none, none, none, none, none, none, none, none, none, none] [2, 3, 5, 37] [(1, 0), (2, 0)] h rfl rfl (by simp only [EX, simprocAttr, Nat.blt, Nat.ble, tz_3, tz_4, tz_22, tz_28, tz_43, hb141n, hb248, hx263a, hx263b, hx263c, hx263d, hx265a, hx265b, hx265c, hx265d, eq_A2I_vv] <;> rfl) (by kernel_rfl) fun ac wd h => ?_
          by_cases hb266 : x262 = x264
          · rw [if_pos hb266] at hL246
            have hb266t := eq_true hb266
            refine r_condF h (!(decide (x262 = x264))) (by simp only [EX, simprocAttr, Nat.blt, Nat.ble, hb141n, hb248, hb266t] <;> rfl) (by first | rfl | (simp only [EX, simprocAttr, Nat.blt, Nat.ble, hb141n, hb248, hb266t] <;> rfl)) ?_
            refine wp_skip ?_
            change Code.wp Try.prog _ _ _ _
            refine r_plain [] [none, none, none] [2, 3, 5] [(1, 0), (2, 0)] h rfl (by simp only [EX, simprocAttr, Nat.blt, Nat.ble, tz_3, hb141n, hb248, hb266t] <;> rfl) fun ac wd h => ?_
            have h := h.same [2, 3, 5] [(1, 0), (2, 0)] 57 [(2, .one (.ptr (1, 0) 0)), (3, .one (.ptr (2, 0) 0)), (5, .one (.d (.int .i64 (IntKind.wrap .i64 (n245 + 1)))))]
              [((1, 0), some (.box 28 [.d (.int .i64 a0.N), .d (.sl (List.map eA2I a0.Links))])), ((2, 0), some (.box 28 [.d (.int .i64 a1.N), .d (.sl (List.map eA2I a1.Links))]))]
              (by simp only [EX, simprocAttr, Nat.blt, Nat.ble, hb141n, hb248, hx263a, hx263b, hx263c, hx263d, hx265a, hx265b, hx265c, hx265d, hb266t] <;> rfl)
            change ∃ n', _ ∧ _
            exact ⟨nf, Nat.lt_succ_self nf, (IntKind.wrap .i64 (n245 + 1)), hL246, h⟩
          · rw [if_neg hb266] at hL246
            refine r_condT h (!(decide (x262 = x264))) (by simp only [EX, simprocAttr, Nat.blt, Nat.ble, hb141n, hb248, hb266] <;> rfl) (by first | rfl | (simp only [EX, simprocAttr, Nat.blt, Nat.ble, hb141n, hb248, hb266] <;> rfl)) ?_
            refine rs_plain 74 [] [none] [4] [] h rfl rfl (by simp only [EX, simprocAttr, Nat.blt, Nat.ble, tz_4, hb141n, hb248, hb266] <;> rfl) fun ac wd h => ?_
            refine wp_ret ?_
            injection hL246 with hL246
            subst hL246
            exact r_retE rfl h [.tmp 4] rfl (by simp only [retD, List.mapM_cons, List.mapM_nil, Option.bind_eq_bind, Option.pure_def, EX, simprocAttr, Nat.blt, Nat.ble, hb141n, hb248, hb266] <;> rfl)
        · rw [if_neg hb248] at hL246
          refine r_condF h (decide (n245 < (a0.Links.length : Int))) (by simp only [EX, simprocAttr, Nat.blt, Nat.ble, hb141n, hb248] <;> rfl) (by first | rfl | (simp only [EX, simprocAttr, Nat.blt, Nat.ble, hb141n, hb248] <;> rfl)) ?_
          refine wp_exit ?_
          change Code.wp Try.prog _ _ _ _
          refine rs_plain 63 [] [none] [4] [] h rfl rfl (by simp only [EX, simprocAttr, Nat.blt, Nat.ble, tz_4, hb141n, hb248] <;> rfl) fun ac wd h => ?_
          refine wp_ret ?_
          injection hL246 with hL246
          subst hL246
          exact r_retE rfl h [.tmp 4] rfl (by simp only [retD, List.mapM_cons, List.mapM_nil, Option.bind_eq_bind, Option.pure_def, EX, simprocAttr, Nat.blt, Nat.ble, hb141n, hb248] <;> rfl)

end Go.Proofs.Yteohodhcegbmmaa
