/- Functions as typed ones, and that the program's functions answer as these do. No condition. -/
import Derived.Test.YtkjihlonnhfidaaGb3
set_option linter.unusedSimpArgs false
set_option linter.unusedVariables false
namespace Go.Proofs.Ytkjihlonnhfidaa
open Go.RowKit

set_option maxRecDepth 20000 in
set_option maxHeartbeats 4000000 in
theorem L_law10_MarkRecords_ok {a0 : Int} {a1 : Int} {a2 : (List TOp)} {r : Bool} (hD : L_law10_MarkRecords a0 a1 a2 = some r) :
    CallH Try.prog 4 [.one (.d (.int .u8 a0)), .one (.d (.int .u8 a1)), .one (.d (.sl (List.map eTOp a2)))] []
      (.one (.d (.bool r))) [] := by
  unfold L_law10_MarkRecords at hD
  refine r_call Try.func4 rfl Try.ntmps4 (by kernel_rfl) (by rfl) (by rfl) (by simp) fun S Φ P0 wb ac h => ?_
  refine rs_plain 2 [] [none] [0, 1, 2] [] h rfl rfl (by simp only [EX, simprocAttr, Nat.blt, Nat.ble, tz_4] <;> rfl) fun ac wd h => ?_
  obtain ⟨r1242, hc1243, hD⟩ := Option.bind_eq_some_iff.1 hD
  have hc1243k := L_law10_ends_ok hc1243
  refine rs_plain 7 [factE 4 hc1243k] [none, none, none, none, none] [1, 2, 7] [(5, 0)] h rfl rfl (by simp only [EX, simprocAttr, Nat.blt, Nat.ble, tz_5, tz_26] <;> rfl) fun ac wd h => ?_
  refine rs_plain 11 [] [none, none, none, none] [1, 2, 7, 8] [(5, 0)] h rfl rfl (by simp only [EX, simprocAttr, Nat.blt, Nat.ble, tz_3, tz_23, tz_26, tz_38, tz_57] <;> rfl) fun ac wd h => ?_
  obtain ⟨r1246, hc1247, hD⟩ := Option.bind_eq_some_iff.1 hD
  have hc1247k := L_mark_Begin_ok hc1247
  refine rs_plain 15 [factE 12 hc1247k] [none, none, none, none] [1, 2, 7, 8, 9] [(5, 0), (13, 0)] h rfl rfl (by simp only [EX, simprocAttr, Nat.blt, Nat.ble, tz_3, tz_26, tz_33] <;> rfl) fun ac wd h => ?_
  by_cases ha1250 : 1 * r1242.In.length ≤ 140737488355328
  case neg => rw [if_neg ha1250] at hD; cases hD
  rw [if_pos ha1250] at hD
  by_cases ha1251 : r1242.In.length ≤ 140737488355328
  case neg => rw [if_neg ha1251] at hD; cases hD
  rw [if_pos ha1251] at hD
  refine rs_plain 18 [] [none, none, none] [1, 2, 7, 8, 9, 10] [(5, 0), (13, 0), (16, 0)] h rfl rfl (by simp only [EX, simprocAttr, Nat.blt, Nat.ble, tz_3, tz_4, tz_28, ha1250, ha1251] <;> rfl) fun ac wd h => ?_
  by_cases ha1253 : 24 * r1242.In.length ≤ 140737488355328
  case neg => rw [if_neg ha1253] at hD; cases hD
  rw [if_pos ha1253] at hD
  refine rs_plain 21 [] [none, none, none] [1, 2, 7, 8, 9, 10, 11] [(5, 0), (13, 0), (16, 0), (19, 0)] h rfl rfl (by simp only [EX, simprocAttr, Nat.blt, Nat.ble, tz_3, tz_23, tz_38, tz_57, ha1250, ha1251, ha1253] <;> rfl) fun ac wd h => ?_
  have h := h.nilTr (19, 0) (l := List.replicate r1242.In.length [.nil]) (l' := List.replicate r1242.In.length [.tr (.sl 38 2 (fun _ => .sc)) (.sl (List.map eTMsg []))]) (by simp only [EX, simprocAttr, Nat.blt, Nat.ble, ha1250, ha1251, ha1253] <;> rfl) (RowsTo.rep (RowTo.cons (.inr (.inr ⟨rfl, _, _, _, rfl⟩)) RowTo.nil) _)
  have h := h.same [1, 2, 7, 8, 9, 10, 11] [(5, 0), (13, 0), (16, 0), (19, 0)] 21 [(1, .one (.d (.int .u8 a1))), (2, .one (.d (.sl (List.map eTOp a2)))), (7, .one (.ptr (5, 0) 0)), (8, .one (.d (.int .i64 (r1242.In.length : Int)))), (9, .one (.ptr (13, 0) 0)), (10, .one (.own (16, 0) r1242.In.length)), (11, .one (.own (19, 0) r1242.In.length))]
    [((5, 0), some (.box 26 [.d (.int .i64 r1242.Node), .d (.int .i64 r1242.State), .d (.int .i64 r1242.Steps), .d (.sl (List.map (eL eTMsg) r1242.In)), .d (.sl (List.map (eL eI) r1242.Out))])), ((13, 0), some (.box 33 [.d (.int .i64 r1246.Epoch), .d (.sl (List.map eB r1246.Open)), .d (.int .i64 r1246.P.Node), .d (.int .i64 r1246.P.State), .d (.int .i64 r1246.P.Steps), .d (.sl (List.map eI r1246.P.Sent)), .d (.sl (List.map (eL eTMsg) r1246.P.In)), .d (.sl (List.map (eL eI) r1246.P.Out))])), ((16, 0), some (.row 4 1 (dat (List.map eB (List.replicate r1242.In.length false))))), ((19, 0), some (.row 57 1 (List.replicate r1242.In.length [.tr (.sl 38 2 (fun _ => .sc)) (.sl (List.map eTMsg []))])))]
    (by simp only [EX, simprocAttr, Nat.blt, Nat.ble, ha1250, ha1251, ha1253, dat_open] <;> rfl)
  refine wp_seq ?_
  refine rs_plain 22 [] [none] [1, 2, 7, 8, 9, 10, 11, 12] [(5, 0), (13, 0), (16, 0), (19, 0)] h rfl rfl (by simp only [EX, simprocAttr, Nat.blt, Nat.ble, tz_3, ha1250, ha1251, ha1253] <;> rfl) fun ac wd h => ?_
  obtain ⟨e1921, hE1922, hD⟩ := Option.bind_eq_some_iff.1 hD
  refine r_meet (fun ac wd => ∃ (m1918 : TMark) (l1919 : List Bool) (l1920 : List (List TMsg)), (m1918, l1919, l1920) = e1921 ∧ SL ⟨wb, S, Φ, P0⟩ 162 152 [(1, .one (.d (.int .u8 a1))), (8, .one (.d (.int .i64 (r1242.In.length : Int)))), (9, .one (.ptr (13, 0) 0)), (10, .one (.own (16, 0) l1919.length)), (11, .one (.own (19, 0) l1920.length))] [((13, 0), some (.box 33 [.d (.int .i64 m1918.Epoch), .d (.sl (List.map eB m1918.Open)), .d (.int .i64 m1918.P.Node), .d (.int .i64 m1918.P.State), .d (.int .i64 m1918.P.Steps), .d (.sl (List.map eI m1918.P.Sent)), .d (.sl (List.map (eL eTMsg) m1918.P.In)), .d (.sl (List.map (eL eI) m1918.P.Out))])), ((16, 0), some (.row 4 1 (dat (List.map eB l1919)))), ((19, 0), some (.row 57 1 (openRows cols_57 (List.map (eL eTMsg) l1920))))] ac wd) ?_ ?_
  · skip
    refine wp_block ?_
    have h := h.same [1, 2, 7, 8, 9, 10, 11, 12] [(5, 0), (13, 0), (16, 0), (19, 0)] 144 [(1, .one (.d (.int .u8 a1))), (2, .one (.d (.sl (List.map eTOp a2)))), (7, .one (.ptr (5, 0) 0)), (8, .one (.d (.int .i64 (r1242.In.length : Int)))), (9, .one (.ptr (13, 0) 0)), (10, .one (.own (16, 0) (List.replicate r1242.In.length false).length)), (11, .one (.own (19, 0) ((List.replicate r1242.In.length []) : List (List TMsg)).length)), (12, .one (.d (.int .i64 0)))]
      [((5, 0), some (.box 26 [.d (.int .i64 r1242.Node), .d (.int .i64 r1242.State), .d (.int .i64 r1242.Steps), .d (.sl (List.map (eL eTMsg) r1242.In)), .d (.sl (List.map (eL eI) r1242.Out))])), ((13, 0), some (.box 33 [.d (.int .i64 r1246.Epoch), .d (.sl (List.map eB r1246.Open)), .d (.int .i64 r1246.P.Node), .d (.int .i64 r1246.P.State), .d (.int .i64 r1246.P.Steps), .d (.sl (List.map eI r1246.P.Sent)), .d (.sl (List.map (eL eTMsg) r1246.P.In)), .d (.sl (List.map (eL eI) r1246.P.Out))])), ((16, 0), some (.row 4 1 (dat (List.map eB (List.replicate r1242.In.length false))))), ((19, 0), some (.row 57 1 (openRows cols_57 (List.map (eL eTMsg) ((List.replicate r1242.In.length []) : List (List TMsg))))))]
      (by simp only [EX, simprocAttr, Nat.blt, Nat.ble, ha1250, ha1251, ha1253] <;> rfl)
    refine r_while (fun nf ac wd => ∃ (n2241 : Int) (m2242 : TMark) (l2243 : List Bool) (l2244 : List (List TMsg)), L_law10_MarkRecords_l1 a2 r1242 nf n2241 m2242 l2243 l2244 = some e1921 ∧ SL ⟨wb, S, Φ, P0⟩ 162 144 [(1, .one (.d (.int .u8 a1))), (2, .one (.d (.sl (List.map eTOp a2)))), (7, .one (.ptr (5, 0) 0)), (8, .one (.d (.int .i64 (r1242.In.length : Int)))), (9, .one (.ptr (13, 0) 0)), (10, .one (.own (16, 0) l2243.length)), (11, .one (.own (19, 0) l2244.length)), (12, .one (.d (.int .i64 n2241)))] [((5, 0), some (.box 26 [.d (.int .i64 r1242.Node), .d (.int .i64 r1242.State), .d (.int .i64 r1242.Steps), .d (.sl (List.map (eL eTMsg) r1242.In)), .d (.sl (List.map (eL eI) r1242.Out))])), ((13, 0), some (.box 33 [.d (.int .i64 m2242.Epoch), .d (.sl (List.map eB m2242.Open)), .d (.int .i64 m2242.P.Node), .d (.int .i64 m2242.P.State), .d (.int .i64 m2242.P.Steps), .d (.sl (List.map eI m2242.P.Sent)), .d (.sl (List.map (eL eTMsg) m2242.P.In)), .d (.sl (List.map (eL eI) m2242.P.Out))])), ((16, 0), some (.row 4 1 (dat (List.map eB l2243)))), ((19, 0), some (.row 57 1 (openRows cols_57 (List.map (eL eTMsg) l2244))))] ac wd) (((a2.length : Int) - 0).toNat + 1) ⟨0, r1246, (List.replicate r1242.In.length false), ((List.replicate r1242.In.length []) : List (List TMsg)), hE1922, h⟩ (fun nf ac wd hJ => ?_)
    obtain ⟨n2241, m2242, l2243, l2244, hL2245, h⟩ := hJ
    cases nf with
    | zero => rw [L_law10_MarkRecords_l1] at hL2245; cases hL2245
    | succ nf =>
      rw [L_law10_MarkRecords_l1] at hL2245
      refine wp_seq ?_
      obtain ⟨e2259, hE2260, hL2245⟩ := Option.bind_eq_some_iff.1 hL2245
      refine r_seqJ (fun ac wd => ∃ (b2258 : Bool), b2258 = e2259 ∧ SL ⟨wb, S, Φ, P0⟩ 162 152 [(1, .one (.d (.int .u8 a1))), (2, .one (.d (.sl (List.map eTOp a2)))), (7, .one (.ptr (5, 0) 0)), (8, .one (.d (.int .i64 (r1242.In.length : Int)))), (9, .one (.ptr (13, 0) 0)), (10, .one (.own (16, 0) l2243.length)), (11, .one (.own (19, 0) l2244.length)), (12, .one (.d (.int .i64 n2241))), (37, .one (.d (.bool b2258)))] [((5, 0), some (.box 26 [.d (.int .i64 r1242.Node), .d (.int .i64 r1242.State), .d (.int .i64 r1242.Steps), .d (.sl (List.map (eL eTMsg) r1242.In)), .d (.sl (List.map (eL eI) r1242.Out))])), ((13, 0), some (.box 33 [.d (.int .i64 m2242.Epoch), .d (.sl (List.map eB m2242.Open)), .d (.int .i64 m2242.P.Node), .d (.int .i64 m2242.P.State), .d (.int .i64 m2242.P.Steps), .d (.sl (List.map eI m2242.P.Sent)), .d (.sl (List.map (eL eTMsg) m2242.P.In)), .d (.sl (List.map (eL eI) m2242.P.Out))])), ((16, 0), some (.row 4 1 (dat (List.map eB l2243)))), ((19, 0), some (.row 57 1 (openRows cols_57 (List.map (eL eTMsg) l2244))))] ac wd) ?_ ?_
      · skip
        by_cases hb2261 : n2241 < (a2.length : Int)
        · rw [if_pos hb2261] at hE2260
          refine r_plain [] [none, none, none, none, none, some (some 34, true), some (some 34, true), none] [1, 2, 7, 8, 9, 10, 11, 12, 37] [(5, 0), (13, 0), (16, 0), (19, 0)] h rfl (by simp only [EX, simprocAttr, Nat.blt, Nat.ble, tz_3, tz_4, tz_22, tz_40, ha1250, ha1251, ha1253, hb2261] <;> rfl) fun ac wd h => ?_
          have h := h.same [1, 2, 7, 8, 9, 10, 11, 12, 37] [(5, 0), (13, 0), (16, 0), (19, 0)] 152 [(1, .one (.d (.int .u8 a1))), (2, .one (.d (.sl (List.map eTOp a2)))), (7, .one (.ptr (5, 0) 0)), (8, .one (.d (.int .i64 (r1242.In.length : Int)))), (9, .one (.ptr (13, 0) 0)), (10, .one (.own (16, 0) l2243.length)), (11, .one (.own (19, 0) l2244.length)), (12, .one (.d (.int .i64 n2241))), (37, .one (.d (.bool (decide (n2241 < 60)))))]
            [((5, 0), some (.box 26 [.d (.int .i64 r1242.Node), .d (.int .i64 r1242.State), .d (.int .i64 r1242.Steps), .d (.sl (List.map (eL eTMsg) r1242.In)), .d (.sl (List.map (eL eI) r1242.Out))])), ((13, 0), some (.box 33 [.d (.int .i64 m2242.Epoch), .d (.sl (List.map eB m2242.Open)), .d (.int .i64 m2242.P.Node), .d (.int .i64 m2242.P.State), .d (.int .i64 m2242.P.Steps), .d (.sl (List.map eI m2242.P.Sent)), .d (.sl (List.map (eL eTMsg) m2242.P.In)), .d (.sl (List.map (eL eI) m2242.P.Out))])), ((16, 0), some (.row 4 1 (dat (List.map eB l2243)))), ((19, 0), some (.row 57 1 (openRows cols_57 (List.map (eL eTMsg) l2244))))]
            (by simp only [EX, simprocAttr, Nat.blt, Nat.ble, ha1250, ha1251, ha1253, hb2261] <;> rfl)
          injection hE2260 with hE2260
          exact ⟨decide (n2241 < 60), hE2260, h⟩
        · rw [if_neg hb2261] at hE2260
          refine r_plain [] [none, none, none, none, none, some (some 34, true), some (some 34, true), none] [1, 2, 7, 8, 9, 10, 11, 12, 37] [(5, 0), (13, 0), (16, 0), (19, 0)] h rfl (by simp only [EX, simprocAttr, Nat.blt, Nat.ble, tz_3, tz_4, tz_22, tz_40, ha1250, ha1251, ha1253, hb2261] <;> rfl) fun ac wd h => ?_
          have h := h.same [1, 2, 7, 8, 9, 10, 11, 12, 37] [(5, 0), (13, 0), (16, 0), (19, 0)] 152 [(1, .one (.d (.int .u8 a1))), (2, .one (.d (.sl (List.map eTOp a2)))), (7, .one (.ptr (5, 0) 0)), (8, .one (.d (.int .i64 (r1242.In.length : Int)))), (9, .one (.ptr (13, 0) 0)), (10, .one (.own (16, 0) l2243.length)), (11, .one (.own (19, 0) l2244.length)), (12, .one (.d (.int .i64 n2241))), (37, .one (.d (.bool false)))]
            [((5, 0), some (.box 26 [.d (.int .i64 r1242.Node), .d (.int .i64 r1242.State), .d (.int .i64 r1242.Steps), .d (.sl (List.map (eL eTMsg) r1242.In)), .d (.sl (List.map (eL eI) r1242.Out))])), ((13, 0), some (.box 33 [.d (.int .i64 m2242.Epoch), .d (.sl (List.map eB m2242.Open)), .d (.int .i64 m2242.P.Node), .d (.int .i64 m2242.P.State), .d (.int .i64 m2242.P.Steps), .d (.sl (List.map eI m2242.P.Sent)), .d (.sl (List.map (eL eTMsg) m2242.P.In)), .d (.sl (List.map (eL eI) m2242.P.Out))])), ((16, 0), some (.row 4 1 (dat (List.map eB l2243)))), ((19, 0), some (.row 57 1 (openRows cols_57 (List.map (eL eTMsg) l2244))))]
            (by simp only [EX, simprocAttr, Nat.blt, Nat.ble, ha1250, ha1251, ha1253, hb2261] <;> rfl)
          injection hE2260 with hE2260
          exact ⟨false, hE2260, h⟩
      · skip
        rintro ac wd ⟨b2258, rfl, h⟩
        (try dsimp only at hL2245)
        by_cases hb2263 : b2258 = true
        · rw [if_pos hb2263] at hL2245
          refine r_condT h b2258 (by simp only [EX, simprocAttr, Nat.blt, Nat.ble, ha1250, ha1251, ha1253, hb2263] <;> rfl) (by first | rfl | (simp only [EX, simprocAttr, Nat.blt, Nat.ble, ha1250, ha1251, ha1253, hb2263] <;> rfl)) ?_
          refine wp_skip ?_
          change Code.wp Try.prog _ _ _ _
          obtain ⟨e2342, hE2343, hL2245⟩ := Option.bind_eq_some_iff.1 hL2245
          refine r_seqJ (fun ac wd => ∃ (m2339 : TMark) (l2340 : List Bool) (l2341 : List (List TMsg)), (m2339, l2340, l2341) = e2342 ∧ SL ⟨wb, S, Φ, P0⟩ 162 202 [(1, .one (.d (.int .u8 a1))), (2, .one (.d (.sl (List.map eTOp a2)))), (7, .one (.ptr (5, 0) 0)), (8, .one (.d (.int .i64 (r1242.In.length : Int)))), (9, .one (.ptr (13, 0) 0)), (10, .one (.own (16, 0) l2340.length)), (11, .one (.own (19, 0) l2341.length)), (12, .one (.d (.int .i64 n2241)))] [((5, 0), some (.box 26 [.d (.int .i64 r1242.Node), .d (.int .i64 r1242.State), .d (.int .i64 r1242.Steps), .d (.sl (List.map (eL eTMsg) r1242.In)), .d (.sl (List.map (eL eI) r1242.Out))])), ((13, 0), some (.box 33 [.d (.int .i64 m2339.Epoch), .d (.sl (List.map eB m2339.Open)), .d (.int .i64 m2339.P.Node), .d (.int .i64 m2339.P.State), .d (.int .i64 m2339.P.Steps), .d (.sl (List.map eI m2339.P.Sent)), .d (.sl (List.map (eL eTMsg) m2339.P.In)), .d (.sl (List.map (eL eI) m2339.P.Out))])), ((16, 0), some (.row 4 1 (dat (List.map eB l2340)))), ((19, 0), some (.row 57 1 (openRows cols_57 (List.map (eL eTMsg) l2341))))] ac wd) ?_ ?_
          · skip
            refine wp_block ?_
            obtain ⟨x2346, hx2347, hE2343⟩ := Option.bind_eq_some_iff.1 hE2343
            obtain ⟨hx2347a, hx2347b, hx2347c⟩ := at_some hx2347
            have hx2347d := (List.getElem?_eq_some_iff.1 hx2347b).1
            refine rs_plain 158 [] [none, none, none, none, none, none] [1, 2, 7, 8, 9, 10, 11, 12, 13] [(5, 0), (13, 0), (16, 0), (19, 0)] h rfl rfl (by simp only [EX, simprocAttr, Nat.blt, Nat.ble, tz_2, tz_3, tz_22, tz_40, ha1250, ha1251, ha1253, hb2263, hx2347a, hx2347b, hx2347c, hx2347d] <;> rfl) fun ac wd h => ?_
            refine wp_seq ?_
            refine rs_plain 163 [] [none, none, none, none, none] [1, 2, 7, 8, 9, 10, 11, 12, 13, 49] [(5, 0), (13, 0), (16, 0), (19, 0)] h rfl rfl (by simp only [EX, simprocAttr, Nat.blt, Nat.ble, tz_3, tz_4, tz_22, tz_40, ha1250, ha1251, ha1253, hb2263, hx2347a, hx2347b, hx2347c, hx2347d] <;> rfl) fun ac wd h => ?_
            by_cases hb2369 : x2346.Marker = true
            · rw [if_pos hb2369] at hE2343
              refine r_condT h x2346.Marker (by simp only [EX, simprocAttr, Nat.blt, Nat.ble, ha1250, ha1251, ha1253, hb2263, hb2369] <;> rfl) (by first | rfl | (simp only [EX, simprocAttr, Nat.blt, Nat.ble, ha1250, ha1251, ha1253, hb2263, hb2369] <;> rfl)) ?_
              obtain ⟨r2386, hc2387, hE2343⟩ := Option.bind_eq_some_iff.1 hE2343
              have hc2387k := L_mark_Marker_ok hc2387
              refine rs_plain 173 [factE 166 hc2387k] [none, none, none, none, none, none, none, none, none, none] [1, 2, 7, 8, 9, 10, 11, 12, 13, 14, 15] [(5, 0), (13, 0), (16, 0), (19, 0), (170, 0)] h rfl rfl (by simp only [EX, simprocAttr, Nat.blt, Nat.ble, tz_3, tz_4, tz_26, tz_33, ha1250, ha1251, ha1253, hb2263, hb2369] <;> rfl) fun ac wd h => ?_
              refine wp_seq ?_
              refine rs_plain 174 [] [none] [1, 2, 7, 8, 9, 10, 11, 12, 13, 14, 57] [(5, 0), (13, 0), (16, 0), (19, 0), (170, 0)] h rfl rfl (by simp only [EX, simprocAttr, Nat.blt, Nat.ble, tz_4, ha1250, ha1251, ha1253, hb2263, hb2369] <;> rfl) fun ac wd h => ?_
              by_cases hb2389 : r2386.2 = true
              · rw [if_pos hb2389] at hE2343; cases hE2343
              · rw [if_neg hb2389] at hE2343
                have hb2389n := eq_false_of_ne_true hb2389
                refine r_condF h r2386.2 (by simp only [EX, simprocAttr, Nat.blt, Nat.ble, ha1250, ha1251, ha1253, hb2263, hb2369, hb2389n] <;> rfl) (by first | rfl | (simp only [EX, simprocAttr, Nat.blt, Nat.ble, ha1250, ha1251, ha1253, hb2263, hb2369, hb2389n] <;> rfl)) ?_
                refine wp_skip ?_
                change Code.wp Try.prog _ _ _ _
                refine rs_plain 176 [] [none, none] [1, 2, 7, 8, 9, 10, 11, 12, 13] [(5, 0), (13, 0), (16, 0), (19, 0)] h rfl rfl (by simp only [EX, simprocAttr, Nat.blt, Nat.ble, tz_33, ha1250, ha1251, ha1253, hb2263, hb2369, hb2389n] <;> rfl) fun ac wd h => ?_
                refine wp_seq ?_
                obtain ⟨e2399, hE2400, hE2343⟩ := Option.bind_eq_some_iff.1 hE2343
                refine r_seqJ (fun ac wd => ∃ (b2398 : Bool), b2398 = e2399 ∧ SL ⟨wb, S, Φ, P0⟩ 162 183 [(1, .one (.d (.int .u8 a1))), (2, .one (.d (.sl (List.map eTOp a2)))), (7, .one (.ptr (5, 0) 0)), (8, .one (.d (.int .i64 (r1242.In.length : Int)))), (9, .one (.ptr (13, 0) 0)), (10, .one (.own (16, 0) l2243.length)), (11, .one (.own (19, 0) l2244.length)), (12, .one (.d (.int .i64 n2241))), (13, .one (.d (.int .i64 x2346.At))), (65, .one (.d (.bool b2398)))] [((5, 0), some (.box 26 [.d (.int .i64 r1242.Node), .d (.int .i64 r1242.State), .d (.int .i64 r1242.Steps), .d (.sl (List.map (eL eTMsg) r1242.In)), .d (.sl (List.map (eL eI) r1242.Out))])), ((13, 0), some (.box 33 [.d (.int .i64 r2386.1.Epoch), .d (.sl (List.map eB r2386.1.Open)), .d (.int .i64 r2386.1.P.Node), .d (.int .i64 r2386.1.P.State), .d (.int .i64 r2386.1.P.Steps), .d (.sl (List.map eI r2386.1.P.Sent)), .d (.sl (List.map (eL eTMsg) r2386.1.P.In)), .d (.sl (List.map (eL eI) r2386.1.P.Out))])), ((16, 0), some (.row 4 1 (dat (List.map eB l2243)))), ((19, 0), some (.row 57 1 (openRows cols_57 (List.map (eL eTMsg) l2244))))] ac wd) ?_ ?_
                · skip
                  by_cases hb2401 : x2346.At ≥ 0
                  · rw [if_pos hb2401] at hE2400
                    refine r_plain [] [none, none, none, some (some 61, true), some (some 61, true), some (some 61, true), none] [1, 2, 7, 8, 9, 10, 11, 12, 13, 65] [(5, 0), (13, 0), (16, 0), (19, 0)] h rfl (by simp only [EX, simprocAttr, Nat.blt, Nat.ble, tz_3, tz_4, ha1250, ha1251, ha1253, hb2263, hb2369, hb2389n, hb2401] <;> rfl) fun ac wd h => ?_
                    have h := h.same [1, 2, 7, 8, 9, 10, 11, 12, 13, 65] [(5, 0), (13, 0), (16, 0), (19, 0)] 183 [(1, .one (.d (.int .u8 a1))), (2, .one (.d (.sl (List.map eTOp a2)))), (7, .one (.ptr (5, 0) 0)), (8, .one (.d (.int .i64 (r1242.In.length : Int)))), (9, .one (.ptr (13, 0) 0)), (10, .one (.own (16, 0) l2243.length)), (11, .one (.own (19, 0) l2244.length)), (12, .one (.d (.int .i64 n2241))), (13, .one (.d (.int .i64 x2346.At))), (65, .one (.d (.bool (decide (x2346.At < (r1242.In.length : Int))))))]
                      [((5, 0), some (.box 26 [.d (.int .i64 r1242.Node), .d (.int .i64 r1242.State), .d (.int .i64 r1242.Steps), .d (.sl (List.map (eL eTMsg) r1242.In)), .d (.sl (List.map (eL eI) r1242.Out))])), ((13, 0), some (.box 33 [.d (.int .i64 r2386.1.Epoch), .d (.sl (List.map eB r2386.1.Open)), .d (.int .i64 r2386.1.P.Node), .d (.int .i64 r2386.1.P.State), .d (.int .i64 r2386.1.P.Steps), .d (.sl (List.map eI r2386.1.P.Sent)), .d (.sl (List.map (eL eTMsg) r2386.1.P.In)), .d (.sl (List.map (eL eI) r2386.1.P.Out))])), ((16, 0), some (.row 4 1 (dat (List.map eB l2243)))), ((19, 0), some (.row 57 1 (openRows cols_57 (List.map (eL eTMsg) l2244))))]
                      (by simp only [EX, simprocAttr, Nat.blt, Nat.ble, ha1250, ha1251, ha1253, hb2263, hx2347a, hx2347b, hx2347c, hx2347d, hb2369, hb2389n, hb2401] <;> rfl)
                    injection hE2400 with hE2400
                    exact ⟨decide (x2346.At < (r1242.In.length : Int)), hE2400, h⟩
                  · rw [if_neg hb2401] at hE2400
                    refine r_plain [] [none, none, none, some (some 61, true), some (some 61, true), some (some 61, true), none] [1, 2, 7, 8, 9, 10, 11, 12, 13, 65] [(5, 0), (13, 0), (16, 0), (19, 0)] h rfl (by simp only [EX, simprocAttr, Nat.blt, Nat.ble, tz_3, tz_4, ha1250, ha1251, ha1253, hb2263, hb2369, hb2389n, hb2401] <;> rfl) fun ac wd h => ?_
                    have h := h.same [1, 2, 7, 8, 9, 10, 11, 12, 13, 65] [(5, 0), (13, 0), (16, 0), (19, 0)] 183 [(1, .one (.d (.int .u8 a1))), (2, .one (.d (.sl (List.map eTOp a2)))), (7, .one (.ptr (5, 0) 0)), (8, .one (.d (.int .i64 (r1242.In.length : Int)))), (9, .one (.ptr (13, 0) 0)), (10, .one (.own (16, 0) l2243.length)), (11, .one (.own (19, 0) l2244.length)), (12, .one (.d (.int .i64 n2241))), (13, .one (.d (.int .i64 x2346.At))), (65, .one (.d (.bool false)))]
                      [((5, 0), some (.box 26 [.d (.int .i64 r1242.Node), .d (.int .i64 r1242.State), .d (.int .i64 r1242.Steps), .d (.sl (List.map (eL eTMsg) r1242.In)), .d (.sl (List.map (eL eI) r1242.Out))])), ((13, 0), some (.box 33 [.d (.int .i64 r2386.1.Epoch), .d (.sl (List.map eB r2386.1.Open)), .d (.int .i64 r2386.1.P.Node), .d (.int .i64 r2386.1.P.State), .d (.int .i64 r2386.1.P.Steps), .d (.sl (List.map eI r2386.1.P.Sent)), .d (.sl (List.map (eL eTMsg) r2386.1.P.In)), .d (.sl (List.map (eL eI) r2386.1.P.Out))])), ((16, 0), some (.row 4 1 (dat (List.map eB l2243)))), ((19, 0), some (.row 57 1 (openRows cols_57 (List.map (eL eTMsg) l2244))))]
                      (by simp only [EX, simprocAttr, Nat.blt, Nat.ble, ha1250, ha1251, ha1253, hb2263, hx2347a, hx2347b, hx2347c, hx2347d, hb2369, hb2389n, hb2401] <;> rfl)
                    injection hE2400 with hE2400
                    exact ⟨false, hE2400, h⟩
                · skip
                  rintro ac wd ⟨b2398, rfl, h⟩
                  (try dsimp only at hE2343)
                  obtain ⟨e2406, hE2407, hE2343⟩ := Option.bind_eq_some_iff.1 hE2343
                  refine r_meet (fun ac wd => ∃ (l2405 : List Bool), l2405 = e2406 ∧ SL ⟨wb, S, Φ, P0⟩ 162 187 [(1, .one (.d (.int .u8 a1))), (2, .one (.d (.sl (List.map eTOp a2)))), (7, .one (.ptr (5, 0) 0)), (8, .one (.d (.int .i64 (r1242.In.length : Int)))), (9, .one (.ptr (13, 0) 0)), (10, .one (.own (16, 0) l2405.length)), (11, .one (.own (19, 0) l2244.length)), (12, .one (.d (.int .i64 n2241)))] [((5, 0), some (.box 26 [.d (.int .i64 r1242.Node), .d (.int .i64 r1242.State), .d (.int .i64 r1242.Steps), .d (.sl (List.map (eL eTMsg) r1242.In)), .d (.sl (List.map (eL eI) r1242.Out))])), ((13, 0), some (.box 33 [.d (.int .i64 r2386.1.Epoch), .d (.sl (List.map eB r2386.1.Open)), .d (.int .i64 r2386.1.P.Node), .d (.int .i64 r2386.1.P.State), .d (.int .i64 r2386.1.P.Steps), .d (.sl (List.map eI r2386.1.P.Sent)), .d (.sl (List.map (eL eTMsg) r2386.1.P.In)), .d (.sl (List.map (eL eI) r2386.1.P.Out))])), ((16, 0), some (.row 4 1 (dat (List.map eB l2405)))), ((19, 0), some (.row 57 1 (openRows cols_57 (List.map (eL eTMsg) l2244))))] ac wd) ?_ ?_
                  · skip
                    by_cases hb2408 : b2398 = true
                    · rw [if_pos hb2408] at hE2407
                      refine r_condT h b2398 (by simp only [EX, simprocAttr, Nat.blt, Nat.ble, ha1250, ha1251, ha1253, hb2263, hb2369, hb2389n, hb2408] <;> rfl) (by first | rfl | (simp only [EX, simprocAttr, Nat.blt, Nat.ble, ha1250, ha1251, ha1253, hb2263, hb2369, hb2389n, hb2408] <;> rfl)) ?_
                      obtain ⟨x2411, hx2412, hE2407⟩ := Option.bind_eq_some_iff.1 hE2407
                      obtain ⟨hx2412a, hx2412b, hx2412c⟩ := at_some hx2412
                      have hx2412d := (List.getElem?_eq_some_iff.1 hx2412b).1
                      refine r_plain [] [none, none, none, none] [1, 2, 7, 8, 9, 10, 11, 12] [(5, 0), (13, 0), (16, 0), (19, 0)] h rfl (by simp only [EX, simprocAttr, Nat.blt, Nat.ble, tz_3, tz_4, tz_28, ha1250, ha1251, ha1253, hb2263, hb2369, hb2389n, hb2408, hx2412a, hx2412b, hx2412c, hx2412d] <;> rfl) fun ac wd h => ?_
                      have h := h.same [1, 2, 7, 8, 9, 10, 11, 12] [(5, 0), (13, 0), (16, 0), (19, 0)] 187 [(1, .one (.d (.int .u8 a1))), (2, .one (.d (.sl (List.map eTOp a2)))), (7, .one (.ptr (5, 0) 0)), (8, .one (.d (.int .i64 (r1242.In.length : Int)))), (9, .one (.ptr (13, 0) 0)), (10, .one (.own (16, 0) (l2243.set x2346.At.toNat true).length)), (11, .one (.own (19, 0) l2244.length)), (12, .one (.d (.int .i64 n2241)))]
                        [((5, 0), some (.box 26 [.d (.int .i64 r1242.Node), .d (.int .i64 r1242.State), .d (.int .i64 r1242.Steps), .d (.sl (List.map (eL eTMsg) r1242.In)), .d (.sl (List.map (eL eI) r1242.Out))])), ((13, 0), some (.box 33 [.d (.int .i64 r2386.1.Epoch), .d (.sl (List.map eB r2386.1.Open)), .d (.int .i64 r2386.1.P.Node), .d (.int .i64 r2386.1.P.State), .d (.int .i64 r2386.1.P.Steps), .d (.sl (List.map eI r2386.1.P.Sent)), .d (.sl (List.map (eL eTMsg) r2386.1.P.In)), .d (.sl (List.map (eL eI) r2386.1.P.Out))])), ((16, 0), some (.row 4 1 (dat (List.map eB (l2243.set x2346.At.toNat true))))), ((19, 0), some (.row 57 1 (openRows cols_57 (List.map (eL eTMsg) l2244))))]
                        (by simp only [EX, simprocAttr, Nat.blt, Nat.ble, ha1250, ha1251, ha1253, hb2263, hx2347a, hx2347b, hx2347c, hx2347d, hb2369, hb2389n, hb2408, hx2412a, hx2412b, hx2412c, hx2412d] <;> rfl)
                      injection hE2407 with hE2407
                      exact ⟨(l2243.set x2346.At.toNat true), hE2407, h⟩
                    · rw [if_neg hb2408] at hE2407
                      have hb2408n := eq_false_of_ne_true hb2408
                      refine r_condF h b2398 (by simp only [EX, simprocAttr, Nat.blt, Nat.ble, ha1250, ha1251, ha1253, hb2263, hb2369, hb2389n, hb2408n] <;> rfl) (by first | rfl | (simp only [EX, simprocAttr, Nat.blt, Nat.ble, ha1250, ha1251, ha1253, hb2263, hb2369, hb2389n, hb2408n] <;> rfl)) ?_
                      refine wp_skip ?_
                      have h := h.same [1, 2, 7, 8, 9, 10, 11, 12] [(5, 0), (13, 0), (16, 0), (19, 0)] 187 [(1, .one (.d (.int .u8 a1))), (2, .one (.d (.sl (List.map eTOp a2)))), (7, .one (.ptr (5, 0) 0)), (8, .one (.d (.int .i64 (r1242.In.length : Int)))), (9, .one (.ptr (13, 0) 0)), (10, .one (.own (16, 0) l2243.length)), (11, .one (.own (19, 0) l2244.length)), (12, .one (.d (.int .i64 n2241)))]
                        [((5, 0), some (.box 26 [.d (.int .i64 r1242.Node), .d (.int .i64 r1242.State), .d (.int .i64 r1242.Steps), .d (.sl (List.map (eL eTMsg) r1242.In)), .d (.sl (List.map (eL eI) r1242.Out))])), ((13, 0), some (.box 33 [.d (.int .i64 r2386.1.Epoch), .d (.sl (List.map eB r2386.1.Open)), .d (.int .i64 r2386.1.P.Node), .d (.int .i64 r2386.1.P.State), .d (.int .i64 r2386.1.P.Steps), .d (.sl (List.map eI r2386.1.P.Sent)), .d (.sl (List.map (eL eTMsg) r2386.1.P.In)), .d (.sl (List.map (eL eI) r2386.1.P.Out))])), ((16, 0), some (.row 4 1 (dat (List.map eB l2243)))), ((19, 0), some (.row 57 1 (openRows cols_57 (List.map (eL eTMsg) l2244))))]
                        (by simp only [EX, simprocAttr, Nat.blt, Nat.ble, ha1250, ha1251, ha1253, hb2263, hx2347a, hx2347b, hx2347c, hx2347d, hb2369, hb2389n, hb2408n] <;> rfl)
                      injection hE2407 with hE2407
                      exact ⟨l2243, hE2407, h⟩
                  · skip
                    rintro ac wd ⟨l2405, rfl, h⟩
                    (try dsimp only at hE2343)
                    refine wp_exit ?_
                    have h := h.same [1, 2, 7, 8, 9, 10, 11, 12] [(5, 0), (13, 0), (16, 0), (19, 0)] 202 [(1, .one (.d (.int .u8 a1))), (2, .one (.d (.sl (List.map eTOp a2)))), (7, .one (.ptr (5, 0) 0)), (8, .one (.d (.int .i64 (r1242.In.length : Int)))), (9, .one (.ptr (13, 0) 0)), (10, .one (.own (16, 0) l2405.length)), (11, .one (.own (19, 0) l2244.length)), (12, .one (.d (.int .i64 n2241)))]
                      [((5, 0), some (.box 26 [.d (.int .i64 r1242.Node), .d (.int .i64 r1242.State), .d (.int .i64 r1242.Steps), .d (.sl (List.map (eL eTMsg) r1242.In)), .d (.sl (List.map (eL eI) r1242.Out))])), ((13, 0), some (.box 33 [.d (.int .i64 r2386.1.Epoch), .d (.sl (List.map eB r2386.1.Open)), .d (.int .i64 r2386.1.P.Node), .d (.int .i64 r2386.1.P.State), .d (.int .i64 r2386.1.P.Steps), .d (.sl (List.map eI r2386.1.P.Sent)), .d (.sl (List.map (eL eTMsg) r2386.1.P.In)), .d (.sl (List.map (eL eI) r2386.1.P.Out))])), ((16, 0), some (.row 4 1 (dat (List.map eB l2405)))), ((19, 0), some (.row 57 1 (openRows cols_57 (List.map (eL eTMsg) l2244))))]
                      (by simp only [EX, simprocAttr, Nat.blt, Nat.ble, ha1250, ha1251, ha1253, hb2263, hx2347a, hx2347b, hx2347c, hx2347d, hb2369, hb2389n] <;> rfl)
                    injection hE2343 with hE2343
                    exact ⟨r2386.1, l2405, l2244, hE2343, h⟩
            · rw [if_neg hb2369] at hE2343
              have hb2369n := eq_false_of_ne_true hb2369
              refine r_condF h x2346.Marker (by simp only [EX, simprocAttr, Nat.blt, Nat.ble, ha1250, ha1251, ha1253, hb2263, hb2369n] <;> rfl) (by first | rfl | (simp only [EX, simprocAttr, Nat.blt, Nat.ble, ha1250, ha1251, ha1253, hb2263, hb2369n] <;> rfl)) ?_
              refine wp_skip ?_
              change Code.wp Try.prog _ _ _ _
              obtain ⟨r2415, hc2416, hE2343⟩ := Option.bind_eq_some_iff.1 hE2343
              have hc2416k := L_mark_App_ok hc2416
              refine rs_drawn 172 ty_hm [factE 170 hc2416k] [none, none, none, none, none, none, none, none, none] [1, 2, 7, 8, 9, 10, 11, 12, 13] [(5, 0), (13, 0), (16, 0), (19, 0)] h rfl rfl (by simp only [EX, simprocAttr, Nat.blt, Nat.ble, tz_3, tz_22, tz_33, tz_38, tz_40, ha1250, ha1251, ha1253, hb2263, hb2369n, hx2347a, hx2347b, hx2347c, hx2347d] <;> rfl) (by kernel_rfl) fun ac wd h => ?_
              obtain ⟨e2423, hE2424, hE2343⟩ := Option.bind_eq_some_iff.1 hE2343
              refine r_seqJ (fun ac wd => ∃ (b2422 : Bool), b2422 = e2423 ∧ SL ⟨wb, S, Φ, P0⟩ 162 186 [(1, .one (.d (.int .u8 a1))), (2, .one (.d (.sl (List.map eTOp a2)))), (7, .one (.ptr (5, 0) 0)), (8, .one (.d (.int .i64 (r1242.In.length : Int)))), (9, .one (.ptr (13, 0) 0)), (10, .one (.own (16, 0) l2243.length)), (11, .one (.own (19, 0) l2244.length)), (12, .one (.d (.int .i64 n2241))), (13, .one (.d (.int .i64 x2346.At))), (90, .one (.d (.bool b2422)))] [((5, 0), some (.box 26 [.d (.int .i64 r1242.Node), .d (.int .i64 r1242.State), .d (.int .i64 r1242.Steps), .d (.sl (List.map (eL eTMsg) r1242.In)), .d (.sl (List.map (eL eI) r1242.Out))])), ((13, 0), some (.box 33 [.d (.int .i64 r2415.Epoch), .d (.sl (List.map eB r2415.Open)), .d (.int .i64 r2415.P.Node), .d (.int .i64 r2415.P.State), .d (.int .i64 r2415.P.Steps), .d (.sl (List.map eI r2415.P.Sent)), .d (.sl (List.map (eL eTMsg) r2415.P.In)), .d (.sl (List.map (eL eI) r2415.P.Out))])), ((16, 0), some (.row 4 1 (dat (List.map eB l2243)))), ((19, 0), some (.row 57 1 (openRows cols_57 (List.map (eL eTMsg) l2244))))] ac wd) ?_ ?_
              · skip
                by_cases hb2425 : x2346.At ≥ 0
                · rw [if_pos hb2425] at hE2424
                  by_cases hb2429 : x2346.At < (r1242.In.length : Int)
                  · rw [if_pos hb2429] at hE2424
                    obtain ⟨x2432, hx2433, hE2424⟩ := Option.bind_eq_some_iff.1 hE2424
                    obtain ⟨hx2433a, hx2433b, hx2433c⟩ := at_some hx2433
                    have hx2433d := (List.getElem?_eq_some_iff.1 hx2433b).1
                    refine r_plain [] [none, none, none, some (some 79, true), some (some 79, true), some (some 79, true), none, none, some (some 84, true), some (some 84, true), some (some 84, true), some (some 84, true), some (some 84, true), none] [1, 2, 7, 8, 9, 10, 11, 12, 13, 90] [(5, 0), (13, 0), (16, 0), (19, 0)] h rfl (by simp only [EX, simprocAttr, Nat.blt, Nat.ble, tz_3, tz_4, tz_28, ha1250, ha1251, ha1253, hb2263, hb2369n, hb2425, hb2429, hx2433a, hx2433b, hx2433c, hx2433d] <;> rfl) fun ac wd h => ?_
                    have h := h.same [1, 2, 7, 8, 9, 10, 11, 12, 13, 90] [(5, 0), (13, 0), (16, 0), (19, 0)] 186 [(1, .one (.d (.int .u8 a1))), (2, .one (.d (.sl (List.map eTOp a2)))), (7, .one (.ptr (5, 0) 0)), (8, .one (.d (.int .i64 (r1242.In.length : Int)))), (9, .one (.ptr (13, 0) 0)), (10, .one (.own (16, 0) l2243.length)), (11, .one (.own (19, 0) l2244.length)), (12, .one (.d (.int .i64 n2241))), (13, .one (.d (.int .i64 x2346.At))), (90, .one (.d (.bool (!(x2432)))))]
                      [((5, 0), some (.box 26 [.d (.int .i64 r1242.Node), .d (.int .i64 r1242.State), .d (.int .i64 r1242.Steps), .d (.sl (List.map (eL eTMsg) r1242.In)), .d (.sl (List.map (eL eI) r1242.Out))])), ((13, 0), some (.box 33 [.d (.int .i64 r2415.Epoch), .d (.sl (List.map eB r2415.Open)), .d (.int .i64 r2415.P.Node), .d (.int .i64 r2415.P.State), .d (.int .i64 r2415.P.Steps), .d (.sl (List.map eI r2415.P.Sent)), .d (.sl (List.map (eL eTMsg) r2415.P.In)), .d (.sl (List.map (eL eI) r2415.P.Out))])), ((16, 0), some (.row 4 1 (dat (List.map eB l2243)))), ((19, 0), some (.row 57 1 (openRows cols_57 (List.map (eL eTMsg) l2244))))]
                      (by simp only [EX, simprocAttr, Nat.blt, Nat.ble, ha1250, ha1251, ha1253, hb2263, hx2347a, hx2347b, hx2347c, hx2347d, hb2369n, hb2425, hb2429, hx2433a, hx2433b, hx2433c, hx2433d] <;> rfl)
                    injection hE2424 with hE2424
                    exact ⟨!(x2432), hE2424, h⟩
                  · rw [if_neg hb2429] at hE2424
                    refine r_plain [] [none, none, none, some (some 79, true), some (some 79, true), some (some 79, true), none, none, some (some 84, true), some (some 84, true), some (some 84, true), some (some 84, true), some (some 84, true), none] [1, 2, 7, 8, 9, 10, 11, 12, 13, 90] [(5, 0), (13, 0), (16, 0), (19, 0)] h rfl (by simp only [EX, simprocAttr, Nat.blt, Nat.ble, tz_3, tz_4, tz_28, ha1250, ha1251, ha1253, hb2263, hb2369n, hb2425, hb2429] <;> rfl) fun ac wd h => ?_
                    have h := h.same [1, 2, 7, 8, 9, 10, 11, 12, 13, 90] [(5, 0), (13, 0), (16, 0), (19, 0)] 186 [(1, .one (.d (.int .u8 a1))), (2, .one (.d (.sl (List.map eTOp a2)))), (7, .one (.ptr (5, 0) 0)), (8, .one (.d (.int .i64 (r1242.In.length : Int)))), (9, .one (.ptr (13, 0) 0)), (10, .one (.own (16, 0) l2243.length)), (11, .one (.own (19, 0) l2244.length)), (12, .one (.d (.int .i64 n2241))), (13, .one (.d (.int .i64 x2346.At))), (90, .one (.d (.bool false)))]
                      [((5, 0), some (.box 26 [.d (.int .i64 r1242.Node), .d (.int .i64 r1242.State), .d (.int .i64 r1242.Steps), .d (.sl (List.map (eL eTMsg) r1242.In)), .d (.sl (List.map (eL eI) r1242.Out))])), ((13, 0), some (.box 33 [.d (.int .i64 r2415.Epoch), .d (.sl (List.map eB r2415.Open)), .d (.int .i64 r2415.P.Node), .d (.int .i64 r2415.P.State), .d (.int .i64 r2415.P.Steps), .d (.sl (List.map eI r2415.P.Sent)), .d (.sl (List.map (eL eTMsg) r2415.P.In)), .d (.sl (List.map (eL eI) r2415.P.Out))])), ((16, 0), some (.row 4 1 (dat (List.map eB l2243)))), ((19, 0), some (.row 57 1 (openRows cols_57 (List.map (eL eTMsg) l2244))))]
                      (by simp only [EX, simprocAttr, Nat.blt, Nat.ble, ha1250, ha1251, ha1253, hb2263, hx2347a, hx2347b, hx2347c, hx2347d, hb2369n, hb2425, hb2429] <;> rfl)
                    injection hE2424 with hE2424
                    exact ⟨false, hE2424, h⟩
                · rw [if_neg hb2425] at hE2424
                  refine r_plain [] [none, none, none, some (some 79, true), some (some 79, true), some (some 79, true), none, none, some (some 84, true), some (some 84, true), some (some 84, true), some (some 84, true), some (some 84, true), none] [1, 2, 7, 8, 9, 10, 11, 12, 13, 90] [(5, 0), (13, 0), (16, 0), (19, 0)] h rfl (by simp only [EX, simprocAttr, Nat.blt, Nat.ble, tz_3, tz_4, tz_28, ha1250, ha1251, ha1253, hb2263, hb2369n, hb2425] <;> rfl) fun ac wd h => ?_
                  have h := h.same [1, 2, 7, 8, 9, 10, 11, 12, 13, 90] [(5, 0), (13, 0), (16, 0), (19, 0)] 186 [(1, .one (.d (.int .u8 a1))), (2, .one (.d (.sl (List.map eTOp a2)))), (7, .one (.ptr (5, 0) 0)), (8, .one (.d (.int .i64 (r1242.In.length : Int)))), (9, .one (.ptr (13, 0) 0)), (10, .one (.own (16, 0) l2243.length)), (11, .one (.own (19, 0) l2244.length)), (12, .one (.d (.int .i64 n2241))), (13, .one (.d (.int .i64 x2346.At))), (90, .one (.d (.bool false)))]
                    [((5, 0), some (.box 26 [.d (.int .i64 r1242.Node), .d (.int .i64 r1242.State), .d (.int .i64 r1242.Steps), .d (.sl (List.map (eL eTMsg) r1242.In)), .d (.sl (List.map (eL eI) r1242.Out))])), ((13, 0), some (.box 33 [.d (.int .i64 r2415.Epoch), .d (.sl (List.map eB r2415.Open)), .d (.int .i64 r2415.P.Node), .d (.int .i64 r2415.P.State), .d (.int .i64 r2415.P.Steps), .d (.sl (List.map eI r2415.P.Sent)), .d (.sl (List.map (eL eTMsg) r2415.P.In)), .d (.sl (List.map (eL eI) r2415.P.Out))])), ((16, 0), some (.row 4 1 (dat (List.map eB l2243)))), ((19, 0), some (.row 57 1 (openRows cols_57 (List.map (eL eTMsg) l2244))))]
                    (by simp only [EX, simprocAttr, Nat.blt, Nat.ble, ha1250, ha1251, ha1253, hb2263, hx2347a, hx2347b, hx2347c, hx2347d, hb2369n, hb2425] <;> rfl)
                  injection hE2424 with hE2424
                  exact ⟨false, hE2424, h⟩
              · skip
                rintro ac wd ⟨b2422, rfl, h⟩
                (try dsimp only at hE2343)
                by_cases hb2434 : b2422 = true
                · rw [if_pos hb2434] at hE2343
                  refine r_condT h b2422 (by simp only [EX, simprocAttr, Nat.blt, Nat.ble, ha1250, ha1251, ha1253, hb2263, hb2369n, hb2434] <;> rfl) (by first | rfl | (simp only [EX, simprocAttr, Nat.blt, Nat.ble, ha1250, ha1251, ha1253, hb2263, hb2369n, hb2434] <;> rfl)) ?_
                  obtain ⟨x2438, hx2439, hE2343⟩ := Option.bind_eq_some_iff.1 hE2343
                  obtain ⟨hx2439a, hx2439b, hx2439c⟩ := at_some hx2439
                  have hx2439d := (List.getElem?_eq_some_iff.1 hx2439b).1
                  have h := h.open_ (19, 0) x2346.At.toNat 0 (by simp only [EX, simprocAttr, Nat.blt, Nat.ble, ha1250, ha1251, ha1253, hb2263, hx2347a, hx2347b, hx2347c, hx2347d, hb2369n, hb2434, hx2439a, hx2439b, hx2439c, hx2439d] <;> rfl) (by simp only [EX, simprocAttr, Nat.blt, Nat.ble, ha1250, ha1251, ha1253, hb2263, hx2347a, hx2347b, hx2347c, hx2347d, hb2369n, hb2434, hx2439a, hx2439b, hx2439c, hx2439d] <;> rfl) (by simp only [EX, simprocAttr, Nat.blt, Nat.ble, ha1250, ha1251, ha1253, hb2263, hx2347a, hx2347b, hx2347c, hx2347d, hb2369n, hb2434, hx2439a, hx2439b, hx2439c, hx2439d] <;> rfl)
                  have h := h.same [1, 2, 7, 8, 9, 10, 11, 12, 13, 90] [(5, 0), (13, 0), (16, 0), (19, 0), (186, 0)] 187 [(1, .one (.d (.int .u8 a1))), (2, .one (.d (.sl (List.map eTOp a2)))), (7, .one (.ptr (5, 0) 0)), (8, .one (.d (.int .i64 (r1242.In.length : Int)))), (9, .one (.ptr (13, 0) 0)), (10, .one (.own (16, 0) l2243.length)), (11, .one (.own (19, 0) l2244.length)), (12, .one (.d (.int .i64 n2241))), (13, .one (.d (.int .i64 x2346.At))), (90, .one (.d (.bool b2422)))]
                    [((5, 0), some (.box 26 [.d (.int .i64 r1242.Node), .d (.int .i64 r1242.State), .d (.int .i64 r1242.Steps), .d (.sl (List.map (eL eTMsg) r1242.In)), .d (.sl (List.map (eL eI) r1242.Out))])), ((13, 0), some (.box 33 [.d (.int .i64 r2415.Epoch), .d (.sl (List.map eB r2415.Open)), .d (.int .i64 r2415.P.Node), .d (.int .i64 r2415.P.State), .d (.int .i64 r2415.P.Steps), .d (.sl (List.map eI r2415.P.Sent)), .d (.sl (List.map (eL eTMsg) r2415.P.In)), .d (.sl (List.map (eL eI) r2415.P.Out))])), ((16, 0), some (.row 4 1 (dat (List.map eB l2243)))), ((19, 0), some (.row 57 1 ((openRows cols_57 (List.map (eL eTMsg) l2244)).set x2346.At.toNat [.own (186, 0) x2438.length]))), ((186, 0), some (.row 38 2 (dat (List.map eTMsg x2438))))]
                    (by simp only [EX, simprocAttr, Nat.blt, Nat.ble, ha1250, ha1251, ha1253, hb2263, hx2347a, hx2347b, hx2347c, hx2347d, hb2369n, hb2434, hx2439a, hx2439b, hx2439c, hx2439d, dat_open] <;> rfl)
                  by_cases ha2440 : (x2438.length + 1) * 16 ≤ 140737488355328
                  case neg => rw [if_neg ha2440] at hE2343; cases hE2343
                  rw [if_pos ha2440] at hE2343
                  refine r_drawn ty_hm [] [none, none, none, none, none, none, none, none, none, none, none, none, none, none, none] [1, 2, 7, 8, 9, 10, 11, 12] [(5, 0), (13, 0), (16, 0), (19, 0), (199, 0)] h rfl (by simp only [EX, simprocAttr, Nat.blt, Nat.ble, tz_3, tz_22, tz_23, tz_38, tz_40, tz_57, ha1250, ha1251, ha1253, hb2263, hb2369n, hb2434, ha2440, hx2439a, hx2439b, hx2439c, hx2439d, hx2347a, hx2347b, hx2347c, hx2347d] <;> rfl) (by kernel_rfl) fun ac wd h => ?_
                  have h := h.foldS (cols := (fun _ => .sc)) (19, 0) (199, 0) (openRows cols_57 (List.map (eL eTMsg) l2244)) x2346.At.toNat [.own (199, 0) (x2438.length + 1)] 0 (List.map eTMsg (x2438 ++ [x2346.M])) (by simp only [EX, simprocAttr, Nat.blt, Nat.ble, ha1250, ha1251, ha1253, hb2263, hx2347a, hx2347b, hx2347c, hx2347d, hb2369n, hb2434, hx2439a, hx2439b, hx2439c, hx2439d, ha2440] <;> rfl) (by simp only [EX, simprocAttr, Nat.blt, Nat.ble]; exact hx2439d) (by rfl) (by simp only [EX, simprocAttr, Nat.blt, Nat.ble, ha1250, ha1251, ha1253, hb2263, hx2347a, hx2347b, hx2347c, hx2347d, hb2369n, hb2434, hx2439a, hx2439b, hx2439c, hx2439d, ha2440] <;> rfl) (by simp only [EX, simprocAttr, Nat.blt, Nat.ble, ha1250, ha1251, ha1253, hb2263, hx2347a, hx2347b, hx2347c, hx2347d, hb2369n, hb2434, hx2439a, hx2439b, hx2439c, hx2439d, ha2440, dat_open] <;> rfl) (by simp only [EX, simprocAttr, Nat.blt, Nat.ble, ha1250, ha1251, ha1253, hb2263, hx2347a, hx2347b, hx2347c, hx2347d, hb2369n, hb2434, hx2439a, hx2439b, hx2439c, hx2439d, ha2440] <;> rfl) (by decide) (sc_38 _)
                  have h := h.same [1, 2, 7, 8, 9, 10, 11, 12] [(5, 0), (13, 0), (16, 0), (19, 0)] 202 [(1, .one (.d (.int .u8 a1))), (2, .one (.d (.sl (List.map eTOp a2)))), (7, .one (.ptr (5, 0) 0)), (8, .one (.d (.int .i64 (r1242.In.length : Int)))), (9, .one (.ptr (13, 0) 0)), (10, .one (.own (16, 0) l2243.length)), (11, .one (.own (19, 0) l2244.length)), (12, .one (.d (.int .i64 n2241)))]
                    [((5, 0), some (.box 26 [.d (.int .i64 r1242.Node), .d (.int .i64 r1242.State), .d (.int .i64 r1242.Steps), .d (.sl (List.map (eL eTMsg) r1242.In)), .d (.sl (List.map (eL eI) r1242.Out))])), ((13, 0), some (.box 33 [.d (.int .i64 r2415.Epoch), .d (.sl (List.map eB r2415.Open)), .d (.int .i64 r2415.P.Node), .d (.int .i64 r2415.P.State), .d (.int .i64 r2415.P.Steps), .d (.sl (List.map eI r2415.P.Sent)), .d (.sl (List.map (eL eTMsg) r2415.P.In)), .d (.sl (List.map (eL eI) r2415.P.Out))])), ((16, 0), some (.row 4 1 (dat (List.map eB l2243)))), ((19, 0), some (.row 57 1 ((openRows cols_57 (List.map (eL eTMsg) l2244)).set x2346.At.toNat [.tr (.sl 38 2 (fun _ => .sc)) (.sl (List.map eTMsg (x2438 ++ [x2346.M])))])))]
                    (by simp only [EX, simprocAttr, Nat.blt, Nat.ble, ha1250, ha1251, ha1253, hb2263, hx2347a, hx2347b, hx2347c, hx2347d, hb2369n, hb2434, hx2439a, hx2439b, hx2439c, hx2439d, ha2440, dat_open] <;> rfl)
                  have h := h.same [1, 2, 7, 8, 9, 10, 11, 12] [(5, 0), (13, 0), (16, 0), (19, 0)] 202 [(1, .one (.d (.int .u8 a1))), (2, .one (.d (.sl (List.map eTOp a2)))), (7, .one (.ptr (5, 0) 0)), (8, .one (.d (.int .i64 (r1242.In.length : Int)))), (9, .one (.ptr (13, 0) 0)), (10, .one (.own (16, 0) l2243.length)), (11, .one (.own (19, 0) (l2244.set x2346.At.toNat (x2438 ++ [x2346.M])).length)), (12, .one (.d (.int .i64 n2241)))]
                    [((5, 0), some (.box 26 [.d (.int .i64 r1242.Node), .d (.int .i64 r1242.State), .d (.int .i64 r1242.Steps), .d (.sl (List.map (eL eTMsg) r1242.In)), .d (.sl (List.map (eL eI) r1242.Out))])), ((13, 0), some (.box 33 [.d (.int .i64 r2415.Epoch), .d (.sl (List.map eB r2415.Open)), .d (.int .i64 r2415.P.Node), .d (.int .i64 r2415.P.State), .d (.int .i64 r2415.P.Steps), .d (.sl (List.map eI r2415.P.Sent)), .d (.sl (List.map (eL eTMsg) r2415.P.In)), .d (.sl (List.map (eL eI) r2415.P.Out))])), ((16, 0), some (.row 4 1 (dat (List.map eB l2243)))), ((19, 0), some (.row 57 1 (openRows cols_57 (List.map (eL eTMsg) (l2244.set x2346.At.toNat (x2438 ++ [x2346.M]))))))]
                    (by simp only [EX, simprocAttr, Nat.blt, Nat.ble, ha1250, ha1251, ha1253, hb2263, hx2347a, hx2347b, hx2347c, hx2347d, hb2369n, hb2434, hx2439a, hx2439b, hx2439c, hx2439d, ha2440] <;> rfl)
                  injection hE2343 with hE2343
                  exact ⟨r2415, l2243, (l2244.set x2346.At.toNat (x2438 ++ [x2346.M])), hE2343, h⟩
                · rw [if_neg hb2434] at hE2343
                  have hb2434n := eq_false_of_ne_true hb2434
                  refine r_condF h b2422 (by simp only [EX, simprocAttr, Nat.blt, Nat.ble, ha1250, ha1251, ha1253, hb2263, hb2369n, hb2434n] <;> rfl) (by first | rfl | (simp only [EX, simprocAttr, Nat.blt, Nat.ble, ha1250, ha1251, ha1253, hb2263, hb2369n, hb2434n] <;> rfl)) ?_
                  refine wp_skip ?_
                  have h := h.same [1, 2, 7, 8, 9, 10, 11, 12] [(5, 0), (13, 0), (16, 0), (19, 0)] 202 [(1, .one (.d (.int .u8 a1))), (2, .one (.d (.sl (List.map eTOp a2)))), (7, .one (.ptr (5, 0) 0)), (8, .one (.d (.int .i64 (r1242.In.length : Int)))), (9, .one (.ptr (13, 0) 0)), (10, .one (.own (16, 0) l2243.length)), (11, .one (.own (19, 0) l2244.length)), (12, .one (.d (.int .i64 n2241)))]
                    [((5, 0), some (.box 26 [.d (.int .i64 r1242.Node), .d (.int .i64 r1242.State), .d (.int .i64 r1242.Steps), .d (.sl (List.map (eL eTMsg) r1242.In)), .d (.sl (List.map (eL eI) r1242.Out))])), ((13, 0), some (.box 33 [.d (.int .i64 r2415.Epoch), .d (.sl (List.map eB r2415.Open)), .d (.int .i64 r2415.P.Node), .d (.int .i64 r2415.P.State), .d (.int .i64 r2415.P.Steps), .d (.sl (List.map eI r2415.P.Sent)), .d (.sl (List.map (eL eTMsg) r2415.P.In)), .d (.sl (List.map (eL eI) r2415.P.Out))])), ((16, 0), some (.row 4 1 (dat (List.map eB l2243)))), ((19, 0), some (.row 57 1 (openRows cols_57 (List.map (eL eTMsg) l2244))))]
                    (by simp only [EX, simprocAttr, Nat.blt, Nat.ble, ha1250, ha1251, ha1253, hb2263, hx2347a, hx2347b, hx2347c, hx2347d, hb2369n, hb2434n] <;> rfl)
                  injection hE2343 with hE2343
                  exact ⟨r2415, l2243, l2244, hE2343, h⟩
          · skip
            rintro ac wd ⟨m2339, l2340, l2341, rfl, h⟩
            (try dsimp only at hL2245)
            refine r_plain [] [none, none, none] [1, 2, 7, 8, 9, 10, 11, 12] [(5, 0), (13, 0), (16, 0), (19, 0)] h rfl (by simp only [EX, simprocAttr, Nat.blt, Nat.ble, tz_3, ha1250, ha1251, ha1253, hb2263] <;> rfl) fun ac wd h => ?_
            have h := h.same [1, 2, 7, 8, 9, 10, 11, 12] [(5, 0), (13, 0), (16, 0), (19, 0)] 144 [(1, .one (.d (.int .u8 a1))), (2, .one (.d (.sl (List.map eTOp a2)))), (7, .one (.ptr (5, 0) 0)), (8, .one (.d (.int .i64 (r1242.In.length : Int)))), (9, .one (.ptr (13, 0) 0)), (10, .one (.own (16, 0) l2340.length)), (11, .one (.own (19, 0) l2341.length)), (12, .one (.d (.int .i64 (IntKind.wrap .i64 (n2241 + 1)))))]
              [((5, 0), some (.box 26 [.d (.int .i64 r1242.Node), .d (.int .i64 r1242.State), .d (.int .i64 r1242.Steps), .d (.sl (List.map (eL eTMsg) r1242.In)), .d (.sl (List.map (eL eI) r1242.Out))])), ((13, 0), some (.box 33 [.d (.int .i64 m2339.Epoch), .d (.sl (List.map eB m2339.Open)), .d (.int .i64 m2339.P.Node), .d (.int .i64 m2339.P.State), .d (.int .i64 m2339.P.Steps), .d (.sl (List.map eI m2339.P.Sent)), .d (.sl (List.map (eL eTMsg) m2339.P.In)), .d (.sl (List.map (eL eI) m2339.P.Out))])), ((16, 0), some (.row 4 1 (dat (List.map eB l2340)))), ((19, 0), some (.row 57 1 (openRows cols_57 (List.map (eL eTMsg) l2341))))]
              (by simp only [EX, simprocAttr, Nat.blt, Nat.ble, ha1250, ha1251, ha1253, hb2263] <;> rfl)
            change ∃ n', _ ∧ _
            exact ⟨nf, Nat.lt_succ_self nf, (IntKind.wrap .i64 (n2241 + 1)), m2339, l2340, l2341, hL2245, h⟩
        · rw [if_neg hb2263] at hL2245
          have hb2263n := eq_false_of_ne_true hb2263
          refine r_condF h b2258 (by simp only [EX, simprocAttr, Nat.blt, Nat.ble, ha1250, ha1251, ha1253, hb2263n] <;> rfl) (by first | rfl | (simp only [EX, simprocAttr, Nat.blt, Nat.ble, ha1250, ha1251, ha1253, hb2263n] <;> rfl)) ?_
          refine wp_exit ?_
          have h := h.same [1, 8, 9, 10, 11] [(13, 0), (16, 0), (19, 0)] 152 [(1, .one (.d (.int .u8 a1))), (8, .one (.d (.int .i64 (r1242.In.length : Int)))), (9, .one (.ptr (13, 0) 0)), (10, .one (.own (16, 0) l2243.length)), (11, .one (.own (19, 0) l2244.length))]
            [((13, 0), some (.box 33 [.d (.int .i64 m2242.Epoch), .d (.sl (List.map eB m2242.Open)), .d (.int .i64 m2242.P.Node), .d (.int .i64 m2242.P.State), .d (.int .i64 m2242.P.Steps), .d (.sl (List.map eI m2242.P.Sent)), .d (.sl (List.map (eL eTMsg) m2242.P.In)), .d (.sl (List.map (eL eI) m2242.P.Out))])), ((16, 0), some (.row 4 1 (dat (List.map eB l2243)))), ((19, 0), some (.row 57 1 (openRows cols_57 (List.map (eL eTMsg) l2244))))]
            (by simp only [EX, simprocAttr, Nat.blt, Nat.ble, ha1250, ha1251, ha1253, hb2263n] <;> rfl)
          injection hL2245 with hL2245
          exact ⟨m2242, l2243, l2244, hL2245, h⟩
  · skip
    rintro ac wd ⟨m1918, l1919, l1920, rfl, h⟩
    (try dsimp only at hD)
    refine rs_plain 153 [] [none] [1, 8, 9, 10, 11, 16] [(13, 0), (16, 0), (19, 0)] h rfl rfl (by simp only [EX, simprocAttr, Nat.blt, Nat.ble, tz_4, ha1250, ha1251, ha1253] <;> rfl) fun ac wd h => ?_
    refine wp_seq ?_
    refine rs_plain 159 [] [none, none, none, none, none, none] [1, 8, 9, 10, 11, 16, 110] [(13, 0), (16, 0), (19, 0)] h rfl rfl (by simp only [EX, simprocAttr, Nat.blt, Nat.ble, tz_2, tz_3, tz_4, tz_23, tz_31, tz_33, tz_38, tz_57, ha1250, ha1251, ha1253] <;> rfl) fun ac wd h => ?_
    by_cases hb2442 : (m1918.P.In.length : Int) = (r1242.In.length : Int)
    · rw [if_pos hb2442] at hD
      have hb2442t := eq_true hb2442
      refine r_condF h (!(decide ((m1918.P.In.length : Int) = (r1242.In.length : Int)))) (by simp only [EX, simprocAttr, Nat.blt, Nat.ble, ha1250, ha1251, ha1253, hb2442t] <;> rfl) (by first | rfl | (simp only [EX, simprocAttr, Nat.blt, Nat.ble, ha1250, ha1251, ha1253, hb2442t] <;> rfl)) ?_
      refine wp_skip ?_
      change Code.wp Try.prog _ _ _ _
      refine wp_seq ?_
      refine rs_plain 160 [] [none] [1, 8, 9, 10, 11, 16, 17] [(13, 0), (16, 0), (19, 0)] h rfl rfl (by simp only [EX, simprocAttr, Nat.blt, Nat.ble, tz_3, ha1250, ha1251, ha1253, hb2442t] <;> rfl) fun ac wd h => ?_
      obtain ⟨e2594, hE2595, hD⟩ := Option.bind_eq_some_iff.1 hD
      refine r_meet (fun ac wd => ∃ (b2593 : Bool), b2593 = e2594 ∧ SL ⟨wb, S, Φ, P0⟩ 162 217 [(1, .one (.d (.int .u8 a1))), (9, .one (.ptr (13, 0) 0)), (16, .one (.d (.bool b2593)))] [((13, 0), some (.box 33 [.d (.int .i64 m1918.Epoch), .d (.sl (List.map eB m1918.Open)), .d (.int .i64 m1918.P.Node), .d (.int .i64 m1918.P.State), .d (.int .i64 m1918.P.Steps), .d (.sl (List.map eI m1918.P.Sent)), .d (.sl (List.map (eL eTMsg) m1918.P.In)), .d (.sl (List.map (eL eI) m1918.P.Out))]))] ac wd) ?_ ?_
      · skip
        refine wp_block ?_
        have h := h.same [1, 8, 9, 10, 11, 16, 17] [(13, 0), (16, 0), (19, 0)] 214 [(1, .one (.d (.int .u8 a1))), (8, .one (.d (.int .i64 (r1242.In.length : Int)))), (9, .one (.ptr (13, 0) 0)), (10, .one (.own (16, 0) l1919.length)), (11, .one (.own (19, 0) l1920.length)), (16, .one (.d (.bool true))), (17, .one (.d (.int .i64 0)))]
          [((13, 0), some (.box 33 [.d (.int .i64 m1918.Epoch), .d (.sl (List.map eB m1918.Open)), .d (.int .i64 m1918.P.Node), .d (.int .i64 m1918.P.State), .d (.int .i64 m1918.P.Steps), .d (.sl (List.map eI m1918.P.Sent)), .d (.sl (List.map (eL eTMsg) m1918.P.In)), .d (.sl (List.map (eL eI) m1918.P.Out))])), ((16, 0), some (.row 4 1 (dat (List.map eB l1919)))), ((19, 0), some (.row 57 1 (openRows cols_57 (List.map (eL eTMsg) l1920))))]
          (by simp only [EX, simprocAttr, Nat.blt, Nat.ble, ha1250, ha1251, ha1253, hb2442t] <;> rfl)
        refine r_while (fun nf ac wd => ∃ (b2681 : Bool) (n2682 : Int) (l2683 : List (List TMsg)), L_law10_MarkRecords_l2 l1919 m1918 r1242 nf b2681 n2682 l2683 = some e2594 ∧ SL ⟨wb, S, Φ, P0⟩ 162 214 [(1, .one (.d (.int .u8 a1))), (8, .one (.d (.int .i64 (r1242.In.length : Int)))), (9, .one (.ptr (13, 0) 0)), (10, .one (.own (16, 0) l1919.length)), (11, .one (.own (19, 0) l2683.length)), (16, .one (.d (.bool b2681))), (17, .one (.d (.int .i64 n2682)))] [((13, 0), some (.box 33 [.d (.int .i64 m1918.Epoch), .d (.sl (List.map eB m1918.Open)), .d (.int .i64 m1918.P.Node), .d (.int .i64 m1918.P.State), .d (.int .i64 m1918.P.Steps), .d (.sl (List.map eI m1918.P.Sent)), .d (.sl (List.map (eL eTMsg) m1918.P.In)), .d (.sl (List.map (eL eI) m1918.P.Out))])), ((16, 0), some (.row 4 1 (dat (List.map eB l1919)))), ((19, 0), some (.row 57 1 (openRows cols_57 (List.map (eL eTMsg) l2683))))] ac wd) (((r1242.In.length : Int) - 0).toNat + 1) ⟨true, 0, l1920, hE2595, h⟩ (fun nf ac wd hJ => ?_)
        obtain ⟨b2681, n2682, l2683, hL2684, h⟩ := hJ
        cases nf with
        | zero => rw [L_law10_MarkRecords_l2] at hL2684; cases hL2684
        | succ nf =>
          rw [L_law10_MarkRecords_l2] at hL2684
          refine wp_seq ?_
          refine rs_plain 217 [] [none, none, none] [1, 8, 9, 10, 11, 16, 17, 113] [(13, 0), (16, 0), (19, 0)] h rfl rfl (by simp only [EX, simprocAttr, Nat.blt, Nat.ble, tz_3, tz_4, ha1250, ha1251, ha1253, hb2442t] <;> rfl) fun ac wd h => ?_
          by_cases hb2686 : n2682 < (r1242.In.length : Int)
          · rw [if_pos hb2686] at hL2684
            refine r_condT h (decide (n2682 < (r1242.In.length : Int))) (by simp only [EX, simprocAttr, Nat.blt, Nat.ble, ha1250, ha1251, ha1253, hb2442t, hb2686] <;> rfl) (by first | rfl | (simp only [EX, simprocAttr, Nat.blt, Nat.ble, ha1250, ha1251, ha1253, hb2442t, hb2686] <;> rfl)) ?_
            refine wp_skip ?_
            change Code.wp Try.prog _ _ _ _
            refine wp_seq ?_
            refine wp_block ?_
            obtain ⟨e2737, hE2738, hL2684⟩ := Option.bind_eq_some_iff.1 hL2684
            refine r_seqJ (fun ac wd => ∃ (b2736 : Bool), b2736 = e2737 ∧ SL ⟨wb, S, Φ, P0⟩ 162 225 [(1, .one (.d (.int .u8 a1))), (8, .one (.d (.int .i64 (r1242.In.length : Int)))), (9, .one (.ptr (13, 0) 0)), (10, .one (.own (16, 0) l1919.length)), (11, .one (.own (19, 0) l2683.length)), (16, .one (.d (.bool b2736))), (17, .one (.d (.int .i64 n2682)))] [((13, 0), some (.box 33 [.d (.int .i64 m1918.Epoch), .d (.sl (List.map eB m1918.Open)), .d (.int .i64 m1918.P.Node), .d (.int .i64 m1918.P.State), .d (.int .i64 m1918.P.Steps), .d (.sl (List.map eI m1918.P.Sent)), .d (.sl (List.map (eL eTMsg) m1918.P.In)), .d (.sl (List.map (eL eI) m1918.P.Out))])), ((16, 0), some (.row 4 1 (dat (List.map eB l1919)))), ((19, 0), some (.row 57 1 (openRows cols_57 (List.map (eL eTMsg) l2683))))] ac wd) ?_ ?_
            · skip
              by_cases hb2739 : b2681 = true
              · rw [if_pos hb2739] at hE2738
                obtain ⟨x2742, hx2743, hE2738⟩ := Option.bind_eq_some_iff.1 hE2738
                obtain ⟨hx2743a, hx2743b, hx2743c⟩ := at_some hx2743
                have hx2743d := (List.getElem?_eq_some_iff.1 hx2743b).1
                refine r_plain [] [none, none, some (some 117, true), some (some 117, true), some (some 117, true), some (some 117, true), none, none] [1, 8, 9, 10, 11, 16, 17] [(13, 0), (16, 0), (19, 0)] h rfl (by simp only [EX, simprocAttr, Nat.blt, Nat.ble, tz_3, tz_4, tz_28, ha1250, ha1251, ha1253, hb2442t, hb2686, hb2739, hx2743a, hx2743b, hx2743c, hx2743d] <;> rfl) fun ac wd h => ?_
                have h := h.same [1, 8, 9, 10, 11, 16, 17] [(13, 0), (16, 0), (19, 0)] 225 [(1, .one (.d (.int .u8 a1))), (8, .one (.d (.int .i64 (r1242.In.length : Int)))), (9, .one (.ptr (13, 0) 0)), (10, .one (.own (16, 0) l1919.length)), (11, .one (.own (19, 0) l2683.length)), (16, .one (.d (.bool x2742))), (17, .one (.d (.int .i64 n2682)))]
                  [((13, 0), some (.box 33 [.d (.int .i64 m1918.Epoch), .d (.sl (List.map eB m1918.Open)), .d (.int .i64 m1918.P.Node), .d (.int .i64 m1918.P.State), .d (.int .i64 m1918.P.Steps), .d (.sl (List.map eI m1918.P.Sent)), .d (.sl (List.map (eL eTMsg) m1918.P.In)), .d (.sl (List.map (eL eI) m1918.P.Out))])), ((16, 0), some (.row 4 1 (dat (List.map eB l1919)))), ((19, 0), some (.row 57 1 (openRows cols_57 (List.map (eL eTMsg) l2683))))]
                  (by simp only [EX, simprocAttr, Nat.blt, Nat.ble, ha1250, ha1251, ha1253, hb2442t, hb2686, hb2739, hx2743a, hx2743b, hx2743c, hx2743d] <;> rfl)
                injection hE2738 with hE2738
                exact ⟨x2742, hE2738, h⟩
              · rw [if_neg hb2739] at hE2738
                have hb2739n := eq_false_of_ne_true hb2739
                refine r_plain [] [none, none, some (some 117, true), some (some 117, true), some (some 117, true), some (some 117, true), none, none] [1, 8, 9, 10, 11, 16, 17] [(13, 0), (16, 0), (19, 0)] h rfl (by simp only [EX, simprocAttr, Nat.blt, Nat.ble, tz_3, tz_4, tz_28, ha1250, ha1251, ha1253, hb2442t, hb2686, hb2739n] <;> rfl) fun ac wd h => ?_
                have h := h.same [1, 8, 9, 10, 11, 16, 17] [(13, 0), (16, 0), (19, 0)] 225 [(1, .one (.d (.int .u8 a1))), (8, .one (.d (.int .i64 (r1242.In.length : Int)))), (9, .one (.ptr (13, 0) 0)), (10, .one (.own (16, 0) l1919.length)), (11, .one (.own (19, 0) l2683.length)), (16, .one (.d (.bool false))), (17, .one (.d (.int .i64 n2682)))]
                  [((13, 0), some (.box 33 [.d (.int .i64 m1918.Epoch), .d (.sl (List.map eB m1918.Open)), .d (.int .i64 m1918.P.Node), .d (.int .i64 m1918.P.State), .d (.int .i64 m1918.P.Steps), .d (.sl (List.map eI m1918.P.Sent)), .d (.sl (List.map (eL eTMsg) m1918.P.In)), .d (.sl (List.map (eL eI) m1918.P.Out))])), ((16, 0), some (.row 4 1 (dat (List.map eB l1919)))), ((19, 0), some (.row 57 1 (openRows cols_57 (List.map (eL eTMsg) l2683))))]
                  (by simp only [EX, simprocAttr, Nat.blt, Nat.ble, ha1250, ha1251, ha1253, hb2442t, hb2686, hb2739n] <;> rfl)
                injection hE2738 with hE2738
                exact ⟨false, hE2738, h⟩
            · skip
              rintro ac wd ⟨b2736, rfl, h⟩
              (try dsimp only at hL2684)
              obtain ⟨x2750, hx2751, hL2684⟩ := Option.bind_eq_some_iff.1 hL2684
              obtain ⟨hx2751a, hx2751b, hx2751c⟩ := at_some hx2751
              have hx2751d := (List.getElem?_eq_some_iff.1 hx2751b).1
              obtain ⟨x2752, hx2753, hL2684⟩ := Option.bind_eq_some_iff.1 hL2684
              obtain ⟨hx2753a, hx2753b, hx2753c⟩ := at_some hx2753
              have hx2753d := (List.getElem?_eq_some_iff.1 hx2753b).1
              have h := h.open_ (19, 0) n2682.toNat 0 (by simp only [EX, simprocAttr, Nat.blt, Nat.ble, ha1250, ha1251, ha1253, hb2442t, hb2686, hx2751a, hx2751b, hx2751c, hx2751d, hx2753a, hx2753b, hx2753c, hx2753d] <;> rfl) (by simp only [EX, simprocAttr, Nat.blt, Nat.ble, ha1250, ha1251, ha1253, hb2442t, hb2686, hx2751a, hx2751b, hx2751c, hx2751d, hx2753a, hx2753b, hx2753c, hx2753d] <;> rfl) (by simp only [EX, simprocAttr, Nat.blt, Nat.ble, ha1250, ha1251, ha1253, hb2442t, hb2686, hx2751a, hx2751b, hx2751c, hx2751d, hx2753a, hx2753b, hx2753c, hx2753d] <;> rfl)
              have h := h.same [1, 8, 9, 10, 11, 16, 17] [(13, 0), (16, 0), (19, 0), (225, 0)] 226 [(1, .one (.d (.int .u8 a1))), (8, .one (.d (.int .i64 (r1242.In.length : Int)))), (9, .one (.ptr (13, 0) 0)), (10, .one (.own (16, 0) l1919.length)), (11, .one (.own (19, 0) l2683.length)), (16, .one (.d (.bool b2736))), (17, .one (.d (.int .i64 n2682)))]
                [((13, 0), some (.box 33 [.d (.int .i64 m1918.Epoch), .d (.sl (List.map eB m1918.Open)), .d (.int .i64 m1918.P.Node), .d (.int .i64 m1918.P.State), .d (.int .i64 m1918.P.Steps), .d (.sl (List.map eI m1918.P.Sent)), .d (.sl (List.map (eL eTMsg) m1918.P.In)), .d (.sl (List.map (eL eI) m1918.P.Out))])), ((16, 0), some (.row 4 1 (dat (List.map eB l1919)))), ((19, 0), some (.row 57 1 ((openRows cols_57 (List.map (eL eTMsg) l2683)).set n2682.toNat [.own (225, 0) x2752.length]))), ((225, 0), some (.row 38 2 (dat (List.map eTMsg x2752))))]
                (by simp only [EX, simprocAttr, Nat.blt, Nat.ble, ha1250, ha1251, ha1253, hb2442t, hb2686, hx2751a, hx2751b, hx2751c, hx2751d, hx2753a, hx2753b, hx2753c, hx2753d, dat_open] <;> rfl)
              obtain ⟨r2754, hc2755, hL2684⟩ := Option.bind_eq_some_iff.1 hL2684
              have hc2755k := L_ref05_Msgs_ok hc2755
              refine rs_drawn 238 ty_hm [factE 236 hc2755k] [none, none, none, none, none, none, none, none, none, none, none, none] [1, 8, 9, 10, 11, 16, 17, 134] [(13, 0), (16, 0), (19, 0), (225, 0)] h rfl rfl (by simp only [EX, simprocAttr, Nat.blt, Nat.ble, tz_2, tz_3, tz_4, tz_23, tz_31, tz_33, tz_38, tz_57, ha1250, ha1251, ha1253, hb2442t, hb2686, hx2751a, hx2751b, hx2751c, hx2751d, hx2753a, hx2753b, hx2753c, hx2753d] <;> rfl) (by kernel_rfl) fun ac wd h => ?_
              have h := h.foldS (cols := (fun _ => .sc)) (19, 0) (225, 0) (openRows cols_57 (List.map (eL eTMsg) l2683)) n2682.toNat [.own (225, 0) x2752.length] 0 (List.map eTMsg x2752) (by simp only [EX, simprocAttr, Nat.blt, Nat.ble, ha1250, ha1251, ha1253, hb2442t, hb2686, hx2751a, hx2751b, hx2751c, hx2751d, hx2753a, hx2753b, hx2753c, hx2753d] <;> rfl) (by simp only [EX, simprocAttr, Nat.blt, Nat.ble]; exact hx2753d) (by rfl) (by simp only [EX, simprocAttr, Nat.blt, Nat.ble, ha1250, ha1251, ha1253, hb2442t, hb2686, hx2751a, hx2751b, hx2751c, hx2751d, hx2753a, hx2753b, hx2753c, hx2753d] <;> rfl) (by simp only [EX, simprocAttr, Nat.blt, Nat.ble, ha1250, ha1251, ha1253, hb2442t, hb2686, hx2751a, hx2751b, hx2751c, hx2751d, hx2753a, hx2753b, hx2753c, hx2753d, dat_open] <;> rfl) (by simp only [EX, simprocAttr, Nat.blt, Nat.ble, ha1250, ha1251, ha1253, hb2442t, hb2686, hx2751a, hx2751b, hx2751c, hx2751d, hx2753a, hx2753b, hx2753c, hx2753d] <;> rfl) (by decide) (sc_38 _)
              have h := h.same [1, 8, 9, 10, 11, 16, 17, 134] [(13, 0), (16, 0), (19, 0)] 238 [(1, .one (.d (.int .u8 a1))), (8, .one (.d (.int .i64 (r1242.In.length : Int)))), (9, .one (.ptr (13, 0) 0)), (10, .one (.own (16, 0) l1919.length)), (11, .one (.own (19, 0) l2683.length)), (16, .one (.d (.bool b2736))), (17, .one (.d (.int .i64 n2682))), (134, .one (.d (.bool (!(r2754)))))]
                [((13, 0), some (.box 33 [.d (.int .i64 m1918.Epoch), .d (.sl (List.map eB m1918.Open)), .d (.int .i64 m1918.P.Node), .d (.int .i64 m1918.P.State), .d (.int .i64 m1918.P.Steps), .d (.sl (List.map eI m1918.P.Sent)), .d (.sl (List.map (eL eTMsg) m1918.P.In)), .d (.sl (List.map (eL eI) m1918.P.Out))])), ((16, 0), some (.row 4 1 (dat (List.map eB l1919)))), ((19, 0), some (.row 57 1 ((openRows cols_57 (List.map (eL eTMsg) l2683)).set n2682.toNat [.tr (.sl 38 2 (fun _ => .sc)) (.sl (List.map eTMsg x2752))])))]
                (by simp only [EX, simprocAttr, Nat.blt, Nat.ble, ha1250, ha1251, ha1253, hb2442t, hb2686, hx2751a, hx2751b, hx2751c, hx2751d, hx2753a, hx2753b, hx2753c, hx2753d, dat_open] <;> rfl)
              by_cases hb2756 : r2754 = true
              · rw [if_pos hb2756] at hL2684
                refine r_condF h (!(r2754)) (by simp only [EX, simprocAttr, Nat.blt, Nat.ble, ha1250, ha1251, ha1253, hb2442t, hb2686, hb2756] <;> rfl) (by first | rfl | (simp only [EX, simprocAttr, Nat.blt, Nat.ble, ha1250, ha1251, ha1253, hb2442t, hb2686, hb2756] <;> rfl)) ?_
                refine wp_skip ?_
                change Code.wp Try.prog _ _ _ _
                refine r_plain [] [none, none, none] [1, 8, 9, 10, 11, 16, 17] [(13, 0), (16, 0), (19, 0)] h rfl (by simp only [EX, simprocAttr, Nat.blt, Nat.ble, tz_3, ha1250, ha1251, ha1253, hb2442t, hb2686, hb2756] <;> rfl) fun ac wd h => ?_
                have h := h.same [1, 8, 9, 10, 11, 16, 17] [(13, 0), (16, 0), (19, 0)] 214 [(1, .one (.d (.int .u8 a1))), (8, .one (.d (.int .i64 (r1242.In.length : Int)))), (9, .one (.ptr (13, 0) 0)), (10, .one (.own (16, 0) l1919.length)), (11, .one (.own (19, 0) (l2683.set n2682.toNat x2752).length)), (16, .one (.d (.bool b2736))), (17, .one (.d (.int .i64 (IntKind.wrap .i64 (n2682 + 1)))))]
                  [((13, 0), some (.box 33 [.d (.int .i64 m1918.Epoch), .d (.sl (List.map eB m1918.Open)), .d (.int .i64 m1918.P.Node), .d (.int .i64 m1918.P.State), .d (.int .i64 m1918.P.Steps), .d (.sl (List.map eI m1918.P.Sent)), .d (.sl (List.map (eL eTMsg) m1918.P.In)), .d (.sl (List.map (eL eI) m1918.P.Out))])), ((16, 0), some (.row 4 1 (dat (List.map eB l1919)))), ((19, 0), some (.row 57 1 (openRows cols_57 (List.map (eL eTMsg) (l2683.set n2682.toNat x2752)))))]
                  (by simp only [EX, simprocAttr, Nat.blt, Nat.ble, ha1250, ha1251, ha1253, hb2442t, hb2686, hx2751a, hx2751b, hx2751c, hx2751d, hx2753a, hx2753b, hx2753c, hx2753d, hb2756] <;> rfl)
                change ∃ n', _ ∧ _
                exact ⟨nf, Nat.lt_succ_self nf, b2736, (IntKind.wrap .i64 (n2682 + 1)), (l2683.set n2682.toNat x2752), hL2684, h⟩
              · rw [if_neg hb2756] at hL2684; cases hL2684
          · rw [if_neg hb2686] at hL2684
            refine r_condF h (decide (n2682 < (r1242.In.length : Int))) (by simp only [EX, simprocAttr, Nat.blt, Nat.ble, ha1250, ha1251, ha1253, hb2442t, hb2686] <;> rfl) (by first | rfl | (simp only [EX, simprocAttr, Nat.blt, Nat.ble, ha1250, ha1251, ha1253, hb2442t, hb2686] <;> rfl)) ?_
            refine wp_exit ?_
            have h := h.same [1, 9, 16] [(13, 0)] 217 [(1, .one (.d (.int .u8 a1))), (9, .one (.ptr (13, 0) 0)), (16, .one (.d (.bool b2681)))]
              [((13, 0), some (.box 33 [.d (.int .i64 m1918.Epoch), .d (.sl (List.map eB m1918.Open)), .d (.int .i64 m1918.P.Node), .d (.int .i64 m1918.P.State), .d (.int .i64 m1918.P.Steps), .d (.sl (List.map eI m1918.P.Sent)), .d (.sl (List.map (eL eTMsg) m1918.P.In)), .d (.sl (List.map (eL eI) m1918.P.Out))]))]
              (by simp only [EX, simprocAttr, Nat.blt, Nat.ble, ha1250, ha1251, ha1253, hb2442t, hb2686] <;> rfl)
            injection hL2684 with hL2684
            exact ⟨b2681, hL2684, h⟩
      · skip
        rintro ac wd ⟨b2593, rfl, h⟩
        (try dsimp only at hD)
        obtain ⟨r2765, hc2766, hD⟩ := Option.bind_eq_some_iff.1 hD
        by_cases hb2767 : r2765 = b2593
        · rw [if_pos hb2767] at hD
          have hb2767t := eq_true hb2767
          by_cases hb2768 : m1918.P.Node = 1
          · rw [if_pos hb2768] at hD
            have hb2768t := eq_true hb2768
            by_cases hb2769 : m1918.P.State = 2
            · rw [if_pos hb2769] at hD
              have hb2769t := eq_true hb2769
              by_cases hb2770 : m1918.P.Steps = (IntKind.wrap .i64 a1)
              · rw [if_pos hb2770] at hD
                have hb2770t := eq_true hb2770
                obtain ⟨r2771, hc2772, hD⟩ := Option.bind_eq_some_iff.1 hD
                have hc2766k := L_mark_Done_ok hc2766
                have hc2772k := L_law10_fixed_ok hc2772
                refine rs_plain 245 [factE 218 hc2766k, factE 242 hc2772k] [none, none, none, none, none, some (some 139, true), some (some 139, true), some (some 139, true), some (some 139, true), none, none, some (some 145, true), some (some 145, true), some (some 145, true), some (some 145, true), none, none, some (some 151, true), some (some 151, true), some (some 151, true), some (some 151, true), some (some 151, true), some (some 151, true), none, none, some (some 159, true), none, none] [6] [] h rfl rfl (by simp only [EX, simprocAttr, Nat.blt, Nat.ble, tz_2, tz_3, tz_4, tz_5, tz_31, tz_33, ha1250, ha1251, ha1253, hb2442t, hb2767t, hb2768t, hb2769t, hb2770t] <;> rfl) fun ac wd h => ?_
                refine wp_ret ?_
                injection hD with hD
                subst hD
                exact r_retE rfl h [.tmp 6] rfl (by simp only [retD, List.mapM_cons, List.mapM_nil, Option.bind_eq_bind, Option.pure_def, EX, simprocAttr, Nat.blt, Nat.ble, ha1250, ha1251, ha1253, hb2442t, hb2767t, hb2768t, hb2769t, hb2770t] <;> rfl)
              · rw [if_neg hb2770] at hD; cases hD
            · rw [if_neg hb2769] at hD; cases hD
          · rw [if_neg hb2768] at hD; cases hD
        · rw [if_neg hb2767] at hD; cases hD
    · rw [if_neg hb2442] at hD; cases hD

set_option maxRecDepth 20000 in
set_option maxHeartbeats 4000000 in
theorem L_law10_MarkEnds_ok {a0 : Int} {a1 : (List TOp)} {r : Bool} (hD : L_law10_MarkEnds a0 a1 = some r) :
    CallH Try.prog 5 [.one (.d (.int .u8 a0)), .one (.d (.sl (List.map eTOp a1)))] []
      (.one (.d (.bool r))) [] := by
  unfold L_law10_MarkEnds at hD
  refine r_call Try.func5 rfl Try.ntmps5 (by kernel_rfl) (by rfl) (by rfl) (by simp) fun S Φ P0 wb ac h => ?_
  refine rs_plain 2 [] [none] [0, 1] [] h rfl rfl (by simp only [EX, simprocAttr, Nat.blt, Nat.ble, tz_4] <;> rfl) fun ac wd h => ?_
  obtain ⟨r590, hc591, hD⟩ := Option.bind_eq_some_iff.1 hD
  have hc591k := L_law10_ends_ok hc591
  refine rs_plain 6 [factE 3 hc591k] [none, none, none, none] [1, 5] [(4, 0)] h rfl rfl (by simp only [EX, simprocAttr, Nat.blt, Nat.ble, tz_5, tz_26] <;> rfl) fun ac wd h => ?_
  refine rs_plain 10 [] [none, none, none, none] [1, 5, 6] [(4, 0)] h rfl rfl (by simp only [EX, simprocAttr, Nat.blt, Nat.ble, tz_3, tz_23, tz_26, tz_38, tz_57] <;> rfl) fun ac wd h => ?_
  obtain ⟨r594, hc595, hD⟩ := Option.bind_eq_some_iff.1 hD
  have hc595k := L_mark_Begin_ok hc595
  refine rs_plain 14 [factE 11 hc595k] [none, none, none, none] [1, 5, 6, 7] [(4, 0), (12, 0)] h rfl rfl (by simp only [EX, simprocAttr, Nat.blt, Nat.ble, tz_3, tz_26, tz_33] <;> rfl) fun ac wd h => ?_
  refine wp_seq ?_
  refine rs_plain 15 [] [none] [1, 5, 6, 7, 8] [(4, 0), (12, 0)] h rfl rfl (by simp only [EX, simprocAttr, Nat.blt, Nat.ble, tz_3] <;> rfl) fun ac wd h => ?_
  obtain ⟨e975, hE976, hD⟩ := Option.bind_eq_some_iff.1 hD
  refine r_meet (fun ac wd => ∃ (m974 : TMark), m974 = e975 ∧ SL ⟨wb, S, Φ, P0⟩ 129 60 [(1, .one (.d (.sl (List.map eTOp a1)))), (5, .one (.ptr (4, 0) 0)), (6, .one (.d (.int .i64 (r590.In.length : Int)))), (7, .one (.ptr (12, 0) 0))] [((4, 0), some (.box 26 [.d (.int .i64 r590.Node), .d (.int .i64 r590.State), .d (.int .i64 r590.Steps), .d (.sl (List.map (eL eTMsg) r590.In)), .d (.sl (List.map (eL eI) r590.Out))])), ((12, 0), some (.box 33 [.d (.int .i64 m974.Epoch), .d (.sl (List.map eB m974.Open)), .d (.int .i64 m974.P.Node), .d (.int .i64 m974.P.State), .d (.int .i64 m974.P.Steps), .d (.sl (List.map eI m974.P.Sent)), .d (.sl (List.map (eL eTMsg) m974.P.In)), .d (.sl (List.map (eL eI) m974.P.Out))]))] ac wd) ?_ ?_
  · skip
    refine wp_block ?_
    have h := h.same [1, 5, 6, 7, 8] [(4, 0), (12, 0)] 57 [(1, .one (.d (.sl (List.map eTOp a1)))), (5, .one (.ptr (4, 0) 0)), (6, .one (.d (.int .i64 (r590.In.length : Int)))), (7, .one (.ptr (12, 0) 0)), (8, .one (.d (.int .i64 0)))]
      [((4, 0), some (.box 26 [.d (.int .i64 r590.Node), .d (.int .i64 r590.State), .d (.int .i64 r590.Steps), .d (.sl (List.map (eL eTMsg) r590.In)), .d (.sl (List.map (eL eI) r590.Out))])), ((12, 0), some (.box 33 [.d (.int .i64 r594.Epoch), .d (.sl (List.map eB r594.Open)), .d (.int .i64 r594.P.Node), .d (.int .i64 r594.P.State), .d (.int .i64 r594.P.Steps), .d (.sl (List.map eI r594.P.Sent)), .d (.sl (List.map (eL eTMsg) r594.P.In)), .d (.sl (List.map (eL eI) r594.P.Out))]))]
      (by simp only [EX, simprocAttr, Nat.blt, Nat.ble] <;> rfl)
    refine r_while (fun nf ac wd => ∃ (n999 : Int) (m1000 : TMark), L_law10_MarkEnds_l1 r590 nf n999 m1000 = some e975 ∧ SL ⟨wb, S, Φ, P0⟩ 129 57 [(1, .one (.d (.sl (List.map eTOp a1)))), (5, .one (.ptr (4, 0) 0)), (6, .one (.d (.int .i64 (r590.In.length : Int)))), (7, .one (.ptr (12, 0) 0)), (8, .one (.d (.int .i64 n999)))] [((4, 0), some (.box 26 [.d (.int .i64 r590.Node), .d (.int .i64 r590.State), .d (.int .i64 r590.Steps), .d (.sl (List.map (eL eTMsg) r590.In)), .d (.sl (List.map (eL eI) r590.Out))])), ((12, 0), some (.box 33 [.d (.int .i64 m1000.Epoch), .d (.sl (List.map eB m1000.Open)), .d (.int .i64 m1000.P.Node), .d (.int .i64 m1000.P.State), .d (.int .i64 m1000.P.Steps), .d (.sl (List.map eI m1000.P.Sent)), .d (.sl (List.map (eL eTMsg) m1000.P.In)), .d (.sl (List.map (eL eI) m1000.P.Out))]))] ac wd) (((r590.In.length : Int) - 0).toNat + 1) ⟨0, r594, hE976, h⟩ (fun nf ac wd hJ => ?_)
    obtain ⟨n999, m1000, hL1001, h⟩ := hJ
    cases nf with
    | zero => rw [L_law10_MarkEnds_l1] at hL1001; cases hL1001
    | succ nf =>
      rw [L_law10_MarkEnds_l1] at hL1001
      refine wp_seq ?_
      refine rs_plain 60 [] [none, none, none] [1, 5, 6, 7, 8, 28] [(4, 0), (12, 0)] h rfl rfl (by simp only [EX, simprocAttr, Nat.blt, Nat.ble, tz_3, tz_4] <;> rfl) fun ac wd h => ?_
      by_cases hb1003 : n999 < (r590.In.length : Int)
      · rw [if_pos hb1003] at hL1001
        refine r_condT h (decide (n999 < (r590.In.length : Int))) (by simp only [EX, simprocAttr, Nat.blt, Nat.ble, hb1003] <;> rfl) (by first | rfl | (simp only [EX, simprocAttr, Nat.blt, Nat.ble, hb1003] <;> rfl)) ?_
        refine wp_skip ?_
        change Code.wp Try.prog _ _ _ _
        refine wp_seq ?_
        refine wp_block ?_
        obtain ⟨r1012, hc1013, hL1001⟩ := Option.bind_eq_some_iff.1 hL1001
        have hc1013k := L_mark_Marker_ok hc1013
        refine rs_plain 73 [factE 66 hc1013k] [none, none, none, none, none, none, none, none, none, none, none, none, none] [1, 5, 6, 7, 8, 9] [(4, 0), (12, 0), (70, 0)] h rfl rfl (by simp only [EX, simprocAttr, Nat.blt, Nat.ble, tz_3, tz_4, tz_26, tz_33, hb1003] <;> rfl) fun ac wd h => ?_
        refine r_plain [] [none, none] [1, 5, 6, 7, 8] [(4, 0), (12, 0)] h rfl (by simp only [EX, simprocAttr, Nat.blt, Nat.ble, tz_33, hb1003] <;> rfl) fun ac wd h => ?_
        change Code.wp Try.prog _ _ _ _
        refine r_plain [] [none, none, none] [1, 5, 6, 7, 8] [(4, 0), (12, 0)] h rfl (by simp only [EX, simprocAttr, Nat.blt, Nat.ble, tz_3, hb1003] <;> rfl) fun ac wd h => ?_
        have h := h.same [1, 5, 6, 7, 8] [(4, 0), (12, 0)] 57 [(1, .one (.d (.sl (List.map eTOp a1)))), (5, .one (.ptr (4, 0) 0)), (6, .one (.d (.int .i64 (r590.In.length : Int)))), (7, .one (.ptr (12, 0) 0)), (8, .one (.d (.int .i64 (IntKind.wrap .i64 (n999 + 1)))))]
          [((4, 0), some (.box 26 [.d (.int .i64 r590.Node), .d (.int .i64 r590.State), .d (.int .i64 r590.Steps), .d (.sl (List.map (eL eTMsg) r590.In)), .d (.sl (List.map (eL eI) r590.Out))])), ((12, 0), some (.box 33 [.d (.int .i64 r1012.1.Epoch), .d (.sl (List.map eB r1012.1.Open)), .d (.int .i64 r1012.1.P.Node), .d (.int .i64 r1012.1.P.State), .d (.int .i64 r1012.1.P.Steps), .d (.sl (List.map eI r1012.1.P.Sent)), .d (.sl (List.map (eL eTMsg) r1012.1.P.In)), .d (.sl (List.map (eL eI) r1012.1.P.Out))]))]
          (by simp only [EX, simprocAttr, Nat.blt, Nat.ble, hb1003] <;> rfl)
        change ∃ n', _ ∧ _
        exact ⟨nf, Nat.lt_succ_self nf, (IntKind.wrap .i64 (n999 + 1)), r1012.1, hL1001, h⟩
      · rw [if_neg hb1003] at hL1001
        refine r_condF h (decide (n999 < (r590.In.length : Int))) (by simp only [EX, simprocAttr, Nat.blt, Nat.ble, hb1003] <;> rfl) (by first | rfl | (simp only [EX, simprocAttr, Nat.blt, Nat.ble, hb1003] <;> rfl)) ?_
        refine wp_exit ?_
        have h := h.same [1, 5, 6, 7] [(4, 0), (12, 0)] 60 [(1, .one (.d (.sl (List.map eTOp a1)))), (5, .one (.ptr (4, 0) 0)), (6, .one (.d (.int .i64 (r590.In.length : Int)))), (7, .one (.ptr (12, 0) 0))]
          [((4, 0), some (.box 26 [.d (.int .i64 r590.Node), .d (.int .i64 r590.State), .d (.int .i64 r590.Steps), .d (.sl (List.map (eL eTMsg) r590.In)), .d (.sl (List.map (eL eI) r590.Out))])), ((12, 0), some (.box 33 [.d (.int .i64 m1000.Epoch), .d (.sl (List.map eB m1000.Open)), .d (.int .i64 m1000.P.Node), .d (.int .i64 m1000.P.State), .d (.int .i64 m1000.P.Steps), .d (.sl (List.map eI m1000.P.Sent)), .d (.sl (List.map (eL eTMsg) m1000.P.In)), .d (.sl (List.map (eL eI) m1000.P.Out))]))]
          (by simp only [EX, simprocAttr, Nat.blt, Nat.ble, hb1003] <;> rfl)
        injection hL1001 with hL1001
        exact ⟨m1000, hL1001, h⟩
  · skip
    rintro ac wd ⟨m974, rfl, h⟩
    (try dsimp only at hD)
    refine wp_seq ?_
    obtain ⟨r1016, hc1017, hD⟩ := Option.bind_eq_some_iff.1 hD
    have hc1017k := L_mark_Done_ok hc1017
    refine rs_plain 63 [factE 61 hc1017k] [none, none, none] [1, 5, 6, 7, 44] [(4, 0), (12, 0)] h rfl rfl (by simp only [EX, simprocAttr, Nat.blt, Nat.ble, tz_3, tz_4, tz_33] <;> rfl) fun ac wd h => ?_
    by_cases hb1019 : r1016 = true
    · rw [if_pos hb1019] at hD
      refine r_condF h (!(r1016)) (by simp only [EX, simprocAttr, Nat.blt, Nat.ble, hb1019] <;> rfl) (by first | rfl | (simp only [EX, simprocAttr, Nat.blt, Nat.ble, hb1019] <;> rfl)) ?_
      refine wp_skip ?_
      change Code.wp Try.prog _ _ _ _
      obtain ⟨r1022, hc1023, hD⟩ := Option.bind_eq_some_iff.1 hD
      have hc1023k := L_law10_Ref_ok hc1023
      refine rs_plain 67 [factE 64 hc1023k] [none, none, none, none] [1, 5, 6, 7, 11] [(4, 0), (12, 0), (65, 0)] h rfl rfl (by simp only [EX, simprocAttr, Nat.blt, Nat.ble, tz_33, tz_36, hb1019] <;> rfl) fun ac wd h => ?_
      refine wp_seq ?_
      refine rs_plain 68 [] [none] [1, 5, 6, 7, 11, 12] [(4, 0), (12, 0), (65, 0)] h rfl rfl (by simp only [EX, simprocAttr, Nat.blt, Nat.ble, tz_3, hb1019] <;> rfl) fun ac wd h => ?_
      obtain ⟨e1260, hE1261, hD⟩ := Option.bind_eq_some_iff.1 hD
      refine r_meet (fun ac wd => ∃ (m1259 : TMark), m1259 = e1260 ∧ SL ⟨wb, S, Φ, P0⟩ 129 152 [(5, .one (.ptr (4, 0) 0)), (6, .one (.d (.int .i64 (r590.In.length : Int)))), (7, .one (.ptr (12, 0) 0))] [((4, 0), some (.box 26 [.d (.int .i64 r590.Node), .d (.int .i64 r590.State), .d (.int .i64 r590.Steps), .d (.sl (List.map (eL eTMsg) r590.In)), .d (.sl (List.map (eL eI) r590.Out))])), ((12, 0), some (.box 33 [.d (.int .i64 m1259.Epoch), .d (.sl (List.map eB m1259.Open)), .d (.int .i64 m1259.P.Node), .d (.int .i64 m1259.P.State), .d (.int .i64 m1259.P.Steps), .d (.sl (List.map eI m1259.P.Sent)), .d (.sl (List.map (eL eTMsg) m1259.P.In)), .d (.sl (List.map (eL eI) m1259.P.Out))]))] ac wd) ?_ ?_
      · skip
        refine wp_block ?_
        have h := h.same [1, 5, 6, 7, 11, 12] [(4, 0), (12, 0), (65, 0)] 144 [(1, .one (.d (.sl (List.map eTOp a1)))), (5, .one (.ptr (4, 0) 0)), (6, .one (.d (.int .i64 (r590.In.length : Int)))), (7, .one (.ptr (12, 0) 0)), (11, .one (.ptr (65, 0) 0)), (12, .one (.d (.int .i64 0)))]
          [((4, 0), some (.box 26 [.d (.int .i64 r590.Node), .d (.int .i64 r590.State), .d (.int .i64 r590.Steps), .d (.sl (List.map (eL eTMsg) r590.In)), .d (.sl (List.map (eL eI) r590.Out))])), ((12, 0), some (.box 33 [.d (.int .i64 m974.Epoch), .d (.sl (List.map eB m974.Open)), .d (.int .i64 m974.P.Node), .d (.int .i64 m974.P.State), .d (.int .i64 m974.P.Steps), .d (.sl (List.map eI m974.P.Sent)), .d (.sl (List.map (eL eTMsg) m974.P.In)), .d (.sl (List.map (eL eI) m974.P.Out))])), ((65, 0), some (.box 36 [.d (.int .i64 r1022.Epoch), .d (.sl (List.map eB r1022.Open)), .d (.int .i64 r1022.P.Node), .d (.int .i64 r1022.P.State), .d (.int .i64 r1022.P.Steps), .d (.sl (List.map eI r1022.P.Sent)), .d (.sl (List.map (eL eTMsg) r1022.P.In)), .d (.sl (List.map (eL eI) r1022.P.Out))]))]
          (by simp only [EX, simprocAttr, Nat.blt, Nat.ble, hb1019] <;> rfl)
        refine r_while (fun nf ac wd => ∃ (n1414 : Int) (m1415 : TMark), L_law10_MarkEnds_l2 a1 r1022 r590 nf n1414 m1415 = some e1260 ∧ SL ⟨wb, S, Φ, P0⟩ 129 144 [(1, .one (.d (.sl (List.map eTOp a1)))), (5, .one (.ptr (4, 0) 0)), (6, .one (.d (.int .i64 (r590.In.length : Int)))), (7, .one (.ptr (12, 0) 0)), (11, .one (.ptr (65, 0) 0)), (12, .one (.d (.int .i64 n1414)))] [((4, 0), some (.box 26 [.d (.int .i64 r590.Node), .d (.int .i64 r590.State), .d (.int .i64 r590.Steps), .d (.sl (List.map (eL eTMsg) r590.In)), .d (.sl (List.map (eL eI) r590.Out))])), ((12, 0), some (.box 33 [.d (.int .i64 m1415.Epoch), .d (.sl (List.map eB m1415.Open)), .d (.int .i64 m1415.P.Node), .d (.int .i64 m1415.P.State), .d (.int .i64 m1415.P.Steps), .d (.sl (List.map eI m1415.P.Sent)), .d (.sl (List.map (eL eTMsg) m1415.P.In)), .d (.sl (List.map (eL eI) m1415.P.Out))])), ((65, 0), some (.box 36 [.d (.int .i64 r1022.Epoch), .d (.sl (List.map eB r1022.Open)), .d (.int .i64 r1022.P.Node), .d (.int .i64 r1022.P.State), .d (.int .i64 r1022.P.Steps), .d (.sl (List.map eI r1022.P.Sent)), .d (.sl (List.map (eL eTMsg) r1022.P.In)), .d (.sl (List.map (eL eI) r1022.P.Out))]))] ac wd) (((a1.length : Int) - 0).toNat + 1) ⟨0, m974, hE1261, h⟩ (fun nf ac wd hJ => ?_)
        obtain ⟨n1414, m1415, hL1416, h⟩ := hJ
        cases nf with
        | zero => rw [L_law10_MarkEnds_l2] at hL1416; cases hL1416
        | succ nf =>
          rw [L_law10_MarkEnds_l2] at hL1416
          refine wp_seq ?_
          obtain ⟨e1431, hE1432, hL1416⟩ := Option.bind_eq_some_iff.1 hL1416
          refine r_seqJ (fun ac wd => ∃ (b1430 : Bool), b1430 = e1431 ∧ SL ⟨wb, S, Φ, P0⟩ 129 152 [(1, .one (.d (.sl (List.map eTOp a1)))), (5, .one (.ptr (4, 0) 0)), (6, .one (.d (.int .i64 (r590.In.length : Int)))), (7, .one (.ptr (12, 0) 0)), (11, .one (.ptr (65, 0) 0)), (12, .one (.d (.int .i64 n1414))), (54, .one (.d (.bool b1430)))] [((4, 0), some (.box 26 [.d (.int .i64 r590.Node), .d (.int .i64 r590.State), .d (.int .i64 r590.Steps), .d (.sl (List.map (eL eTMsg) r590.In)), .d (.sl (List.map (eL eI) r590.Out))])), ((12, 0), some (.box 33 [.d (.int .i64 m1415.Epoch), .d (.sl (List.map eB m1415.Open)), .d (.int .i64 m1415.P.Node), .d (.int .i64 m1415.P.State), .d (.int .i64 m1415.P.Steps), .d (.sl (List.map eI m1415.P.Sent)), .d (.sl (List.map (eL eTMsg) m1415.P.In)), .d (.sl (List.map (eL eI) m1415.P.Out))])), ((65, 0), some (.box 36 [.d (.int .i64 r1022.Epoch), .d (.sl (List.map eB r1022.Open)), .d (.int .i64 r1022.P.Node), .d (.int .i64 r1022.P.State), .d (.int .i64 r1022.P.Steps), .d (.sl (List.map eI r1022.P.Sent)), .d (.sl (List.map (eL eTMsg) r1022.P.In)), .d (.sl (List.map (eL eI) r1022.P.Out))]))] ac wd) ?_ ?_
          · skip
            by_cases hb1433 : n1414 < (a1.length : Int)
            · rw [if_pos hb1433] at hE1432
              refine r_plain [] [none, none, none, none, none, some (some 51, true), some (some 51, true), none] [1, 5, 6, 7, 11, 12, 54] [(4, 0), (12, 0), (65, 0)] h rfl (by simp only [EX, simprocAttr, Nat.blt, Nat.ble, tz_3, tz_4, tz_22, tz_40, hb1019, hb1433] <;> rfl) fun ac wd h => ?_
              have h := h.same [1, 5, 6, 7, 11, 12, 54] [(4, 0), (12, 0), (65, 0)] 152 [(1, .one (.d (.sl (List.map eTOp a1)))), (5, .one (.ptr (4, 0) 0)), (6, .one (.d (.int .i64 (r590.In.length : Int)))), (7, .one (.ptr (12, 0) 0)), (11, .one (.ptr (65, 0) 0)), (12, .one (.d (.int .i64 n1414))), (54, .one (.d (.bool (decide (n1414 < 30)))))]
                [((4, 0), some (.box 26 [.d (.int .i64 r590.Node), .d (.int .i64 r590.State), .d (.int .i64 r590.Steps), .d (.sl (List.map (eL eTMsg) r590.In)), .d (.sl (List.map (eL eI) r590.Out))])), ((12, 0), some (.box 33 [.d (.int .i64 m1415.Epoch), .d (.sl (List.map eB m1415.Open)), .d (.int .i64 m1415.P.Node), .d (.int .i64 m1415.P.State), .d (.int .i64 m1415.P.Steps), .d (.sl (List.map eI m1415.P.Sent)), .d (.sl (List.map (eL eTMsg) m1415.P.In)), .d (.sl (List.map (eL eI) m1415.P.Out))])), ((65, 0), some (.box 36 [.d (.int .i64 r1022.Epoch), .d (.sl (List.map eB r1022.Open)), .d (.int .i64 r1022.P.Node), .d (.int .i64 r1022.P.State), .d (.int .i64 r1022.P.Steps), .d (.sl (List.map eI r1022.P.Sent)), .d (.sl (List.map (eL eTMsg) r1022.P.In)), .d (.sl (List.map (eL eI) r1022.P.Out))]))]
                (by simp only [EX, simprocAttr, Nat.blt, Nat.ble, hb1019, hb1433] <;> rfl)
              injection hE1432 with hE1432
              exact ⟨decide (n1414 < 30), hE1432, h⟩
            · rw [if_neg hb1433] at hE1432
              refine r_plain [] [none, none, none, none, none, some (some 51, true), some (some 51, true), none] [1, 5, 6, 7, 11, 12, 54] [(4, 0), (12, 0), (65, 0)] h rfl (by simp only [EX, simprocAttr, Nat.blt, Nat.ble, tz_3, tz_4, tz_22, tz_40, hb1019, hb1433] <;> rfl) fun ac wd h => ?_
              have h := h.same [1, 5, 6, 7, 11, 12, 54] [(4, 0), (12, 0), (65, 0)] 152 [(1, .one (.d (.sl (List.map eTOp a1)))), (5, .one (.ptr (4, 0) 0)), (6, .one (.d (.int .i64 (r590.In.length : Int)))), (7, .one (.ptr (12, 0) 0)), (11, .one (.ptr (65, 0) 0)), (12, .one (.d (.int .i64 n1414))), (54, .one (.d (.bool false)))]
                [((4, 0), some (.box 26 [.d (.int .i64 r590.Node), .d (.int .i64 r590.State), .d (.int .i64 r590.Steps), .d (.sl (List.map (eL eTMsg) r590.In)), .d (.sl (List.map (eL eI) r590.Out))])), ((12, 0), some (.box 33 [.d (.int .i64 m1415.Epoch), .d (.sl (List.map eB m1415.Open)), .d (.int .i64 m1415.P.Node), .d (.int .i64 m1415.P.State), .d (.int .i64 m1415.P.Steps), .d (.sl (List.map eI m1415.P.Sent)), .d (.sl (List.map (eL eTMsg) m1415.P.In)), .d (.sl (List.map (eL eI) m1415.P.Out))])), ((65, 0), some (.box 36 [.d (.int .i64 r1022.Epoch), .d (.sl (List.map eB r1022.Open)), .d (.int .i64 r1022.P.Node), .d (.int .i64 r1022.P.State), .d (.int .i64 r1022.P.Steps), .d (.sl (List.map eI r1022.P.Sent)), .d (.sl (List.map (eL eTMsg) r1022.P.In)), .d (.sl (List.map (eL eI) r1022.P.Out))]))]
                (by simp only [EX, simprocAttr, Nat.blt, Nat.ble, hb1019, hb1433] <;> rfl)
              injection hE1432 with hE1432
              exact ⟨false, hE1432, h⟩
          · skip
            rintro ac wd ⟨b1430, rfl, h⟩
            (try dsimp only at hL1416)
            by_cases hb1435 : b1430 = true
            · rw [if_pos hb1435] at hL1416
              refine r_condT h b1430 (by simp only [EX, simprocAttr, Nat.blt, Nat.ble, hb1019, hb1435] <;> rfl) (by first | rfl | (simp only [EX, simprocAttr, Nat.blt, Nat.ble, hb1019, hb1435] <;> rfl)) ?_
              refine wp_skip ?_
              change Code.wp Try.prog _ _ _ _
              refine wp_seq ?_
              refine wp_block ?_
              refine wp_seq ?_
              obtain ⟨x1483, hx1484, hL1416⟩ := Option.bind_eq_some_iff.1 hL1416
              obtain ⟨hx1484a, hx1484b, hx1484c⟩ := at_some hx1484
              have hx1484d := (List.getElem?_eq_some_iff.1 hx1484b).1
              refine rs_plain 157 [] [none, none, none, none, none] [1, 5, 6, 7, 11, 12, 61] [(4, 0), (12, 0), (65, 0)] h rfl rfl (by simp only [EX, simprocAttr, Nat.blt, Nat.ble, tz_3, tz_4, tz_22, tz_40, hb1019, hb1435, hx1484a, hx1484b, hx1484c, hx1484d] <;> rfl) fun ac wd h => ?_
              obtain ⟨e1505, hE1506, hL1416⟩ := Option.bind_eq_some_iff.1 hL1416
              refine r_meet (fun ac wd => ∃ (m1504 : TMark), m1504 = e1505 ∧ SL ⟨wb, S, Φ, P0⟩ 129 174 [(1, .one (.d (.sl (List.map eTOp a1)))), (5, .one (.ptr (4, 0) 0)), (6, .one (.d (.int .i64 (r590.In.length : Int)))), (7, .one (.ptr (12, 0) 0)), (11, .one (.ptr (65, 0) 0)), (12, .one (.d (.int .i64 n1414)))] [((4, 0), some (.box 26 [.d (.int .i64 r590.Node), .d (.int .i64 r590.State), .d (.int .i64 r590.Steps), .d (.sl (List.map (eL eTMsg) r590.In)), .d (.sl (List.map (eL eI) r590.Out))])), ((12, 0), some (.box 33 [.d (.int .i64 m1504.Epoch), .d (.sl (List.map eB m1504.Open)), .d (.int .i64 m1504.P.Node), .d (.int .i64 m1504.P.State), .d (.int .i64 m1504.P.Steps), .d (.sl (List.map eI m1504.P.Sent)), .d (.sl (List.map (eL eTMsg) m1504.P.In)), .d (.sl (List.map (eL eI) m1504.P.Out))])), ((65, 0), some (.box 36 [.d (.int .i64 r1022.Epoch), .d (.sl (List.map eB r1022.Open)), .d (.int .i64 r1022.P.Node), .d (.int .i64 r1022.P.State), .d (.int .i64 r1022.P.Steps), .d (.sl (List.map eI r1022.P.Sent)), .d (.sl (List.map (eL eTMsg) r1022.P.In)), .d (.sl (List.map (eL eI) r1022.P.Out))]))] ac wd) ?_ ?_
              · skip
                by_cases hb1507 : x1483.Marker = true
                · rw [if_pos hb1507] at hE1506
                  refine r_condT h x1483.Marker (by simp only [EX, simprocAttr, Nat.blt, Nat.ble, hb1019, hb1435, hb1507] <;> rfl) (by first | rfl | (simp only [EX, simprocAttr, Nat.blt, Nat.ble, hb1019, hb1435, hb1507] <;> rfl)) ?_
                  obtain ⟨r1515, hc1516, hE1506⟩ := Option.bind_eq_some_iff.1 hE1506
                  have hc1516k := L_mark_Marker_ok hc1516
                  refine rs_drawn 171 ty_hm [factE 164 hc1516k] [none, none, none, none, none, none, none, none, none, none, none, none, none, none] [1, 5, 6, 7, 11, 12, 13, 14] [(4, 0), (12, 0), (65, 0), (168, 0)] h rfl rfl (by simp only [EX, simprocAttr, Nat.blt, Nat.ble, tz_2, tz_3, tz_4, tz_22, tz_26, tz_33, tz_40, hb1019, hb1435, hb1507, hx1484a, hx1484b, hx1484c, hx1484d] <;> rfl) (by kernel_rfl) fun ac wd h => ?_
                  refine wp_seq ?_
                  refine rs_plain 172 [] [none] [1, 5, 6, 7, 11, 12, 13, 73] [(4, 0), (12, 0), (65, 0), (168, 0)] h rfl rfl (by simp only [EX, simprocAttr, Nat.blt, Nat.ble, tz_4, hb1019, hb1435, hb1507] <;> rfl) fun ac wd h => ?_
                  by_cases hb1518 : r1515.2 = true
                  · rw [if_pos hb1518] at hE1506; cases hE1506
                  · rw [if_neg hb1518] at hE1506
                    have hb1518n := eq_false_of_ne_true hb1518
                    refine r_condF h r1515.2 (by simp only [EX, simprocAttr, Nat.blt, Nat.ble, hb1019, hb1435, hb1507, hb1518n] <;> rfl) (by first | rfl | (simp only [EX, simprocAttr, Nat.blt, Nat.ble, hb1019, hb1435, hb1507, hb1518n] <;> rfl)) ?_
                    refine wp_skip ?_
                    change Code.wp Try.prog _ _ _ _
                    refine r_plain [] [none, none] [1, 5, 6, 7, 11, 12] [(4, 0), (12, 0), (65, 0)] h rfl (by simp only [EX, simprocAttr, Nat.blt, Nat.ble, tz_33, hb1019, hb1435, hb1507, hb1518n] <;> rfl) fun ac wd h => ?_
                    have h := h.same [1, 5, 6, 7, 11, 12] [(4, 0), (12, 0), (65, 0)] 174 [(1, .one (.d (.sl (List.map eTOp a1)))), (5, .one (.ptr (4, 0) 0)), (6, .one (.d (.int .i64 (r590.In.length : Int)))), (7, .one (.ptr (12, 0) 0)), (11, .one (.ptr (65, 0) 0)), (12, .one (.d (.int .i64 n1414)))]
                      [((4, 0), some (.box 26 [.d (.int .i64 r590.Node), .d (.int .i64 r590.State), .d (.int .i64 r590.Steps), .d (.sl (List.map (eL eTMsg) r590.In)), .d (.sl (List.map (eL eI) r590.Out))])), ((12, 0), some (.box 33 [.d (.int .i64 r1515.1.Epoch), .d (.sl (List.map eB r1515.1.Open)), .d (.int .i64 r1515.1.P.Node), .d (.int .i64 r1515.1.P.State), .d (.int .i64 r1515.1.P.Steps), .d (.sl (List.map eI r1515.1.P.Sent)), .d (.sl (List.map (eL eTMsg) r1515.1.P.In)), .d (.sl (List.map (eL eI) r1515.1.P.Out))])), ((65, 0), some (.box 36 [.d (.int .i64 r1022.Epoch), .d (.sl (List.map eB r1022.Open)), .d (.int .i64 r1022.P.Node), .d (.int .i64 r1022.P.State), .d (.int .i64 r1022.P.Steps), .d (.sl (List.map eI r1022.P.Sent)), .d (.sl (List.map (eL eTMsg) r1022.P.In)), .d (.sl (List.map (eL eI) r1022.P.Out))]))]
                      (by simp only [EX, simprocAttr, Nat.blt, Nat.ble, hb1019, hb1435, hx1484a, hx1484b, hx1484c, hx1484d, hb1507, hb1518n] <;> rfl)
                    injection hE1506 with hE1506
                    exact ⟨r1515.1, hE1506, h⟩
                · rw [if_neg hb1507] at hE1506
                  have hb1507n := eq_false_of_ne_true hb1507
                  refine r_condF h x1483.Marker (by simp only [EX, simprocAttr, Nat.blt, Nat.ble, hb1019, hb1435, hb1507n] <;> rfl) (by first | rfl | (simp only [EX, simprocAttr, Nat.blt, Nat.ble, hb1019, hb1435, hb1507n] <;> rfl)) ?_
                  obtain ⟨r1519, hc1520, hE1506⟩ := Option.bind_eq_some_iff.1 hE1506
                  have hc1520k := L_mark_App_ok hc1520
                  refine r_drawn ty_hm [factE 168 hc1520k] [none, none, none, none, none, none, none, none, none, none, none, none, none] [1, 5, 6, 7, 11, 12] [(4, 0), (12, 0), (65, 0)] h rfl (by simp only [EX, simprocAttr, Nat.blt, Nat.ble, tz_2, tz_3, tz_22, tz_33, tz_38, tz_40, hb1019, hb1435, hb1507n, hx1484a, hx1484b, hx1484c, hx1484d] <;> rfl) (by kernel_rfl) fun ac wd h => ?_
                  have h := h.same [1, 5, 6, 7, 11, 12] [(4, 0), (12, 0), (65, 0)] 174 [(1, .one (.d (.sl (List.map eTOp a1)))), (5, .one (.ptr (4, 0) 0)), (6, .one (.d (.int .i64 (r590.In.length : Int)))), (7, .one (.ptr (12, 0) 0)), (11, .one (.ptr (65, 0) 0)), (12, .one (.d (.int .i64 n1414)))]
                    [((4, 0), some (.box 26 [.d (.int .i64 r590.Node), .d (.int .i64 r590.State), .d (.int .i64 r590.Steps), .d (.sl (List.map (eL eTMsg) r590.In)), .d (.sl (List.map (eL eI) r590.Out))])), ((12, 0), some (.box 33 [.d (.int .i64 r1519.Epoch), .d (.sl (List.map eB r1519.Open)), .d (.int .i64 r1519.P.Node), .d (.int .i64 r1519.P.State), .d (.int .i64 r1519.P.Steps), .d (.sl (List.map eI r1519.P.Sent)), .d (.sl (List.map (eL eTMsg) r1519.P.In)), .d (.sl (List.map (eL eI) r1519.P.Out))])), ((65, 0), some (.box 36 [.d (.int .i64 r1022.Epoch), .d (.sl (List.map eB r1022.Open)), .d (.int .i64 r1022.P.Node), .d (.int .i64 r1022.P.State), .d (.int .i64 r1022.P.Steps), .d (.sl (List.map eI r1022.P.Sent)), .d (.sl (List.map (eL eTMsg) r1022.P.In)), .d (.sl (List.map (eL eI) r1022.P.Out))]))]
                    (by simp only [EX, simprocAttr, Nat.blt, Nat.ble, hb1019, hb1435, hx1484a, hx1484b, hx1484c, hx1484d, hb1507n] <;> rfl)
                  injection hE1506 with hE1506
                  exact ⟨r1519, hE1506, h⟩
              · skip
                rintro ac wd ⟨m1504, rfl, h⟩
                (try dsimp only at hL1416)
                obtain ⟨r1525, hc1526, hL1416⟩ := Option.bind_eq_some_iff.1 hL1416
                obtain ⟨r1527, hc1528, hL1416⟩ := Option.bind_eq_some_iff.1 hL1416
                have hc1526k := L_law10_Ref_ok hc1526
                have hc1528k := L_ref10_Same_ok hc1528
                refine rs_drawn 179 ty_hm [factE 175 hc1526k, factE 177 hc1528k] [none, none, none, none, none] [1, 5, 6, 7, 11, 12, 91] [(4, 0), (12, 0), (65, 0)] h rfl rfl (by simp only [EX, simprocAttr, Nat.blt, Nat.ble, tz_4, tz_33, tz_36, hb1019, hb1435] <;> rfl) (by kernel_rfl) fun ac wd h => ?_
                by_cases hb1529 : r1527 = true
                · rw [if_pos hb1529] at hL1416
                  refine r_condF h (!(r1527)) (by simp only [EX, simprocAttr, Nat.blt, Nat.ble, hb1019, hb1435, hb1529] <;> rfl) (by first | rfl | (simp only [EX, simprocAttr, Nat.blt, Nat.ble, hb1019, hb1435, hb1529] <;> rfl)) ?_
                  refine wp_skip ?_
                  change Code.wp Try.prog _ _ _ _
                  refine r_plain [] [none, none, none] [1, 5, 6, 7, 11, 12] [(4, 0), (12, 0), (65, 0)] h rfl (by simp only [EX, simprocAttr, Nat.blt, Nat.ble, tz_3, hb1019, hb1435, hb1529] <;> rfl) fun ac wd h => ?_
                  have h := h.same [1, 5, 6, 7, 11, 12] [(4, 0), (12, 0), (65, 0)] 144 [(1, .one (.d (.sl (List.map eTOp a1)))), (5, .one (.ptr (4, 0) 0)), (6, .one (.d (.int .i64 (r590.In.length : Int)))), (7, .one (.ptr (12, 0) 0)), (11, .one (.ptr (65, 0) 0)), (12, .one (.d (.int .i64 (IntKind.wrap .i64 (n1414 + 1)))))]
                    [((4, 0), some (.box 26 [.d (.int .i64 r590.Node), .d (.int .i64 r590.State), .d (.int .i64 r590.Steps), .d (.sl (List.map (eL eTMsg) r590.In)), .d (.sl (List.map (eL eI) r590.Out))])), ((12, 0), some (.box 33 [.d (.int .i64 m1504.Epoch), .d (.sl (List.map eB m1504.Open)), .d (.int .i64 m1504.P.Node), .d (.int .i64 m1504.P.State), .d (.int .i64 m1504.P.Steps), .d (.sl (List.map eI m1504.P.Sent)), .d (.sl (List.map (eL eTMsg) m1504.P.In)), .d (.sl (List.map (eL eI) m1504.P.Out))])), ((65, 0), some (.box 36 [.d (.int .i64 r1022.Epoch), .d (.sl (List.map eB r1022.Open)), .d (.int .i64 r1022.P.Node), .d (.int .i64 r1022.P.State), .d (.int .i64 r1022.P.Steps), .d (.sl (List.map eI r1022.P.Sent)), .d (.sl (List.map (eL eTMsg) r1022.P.In)), .d (.sl (List.map (eL eI) r1022.P.Out))]))]
                    (by simp only [EX, simprocAttr, Nat.blt, Nat.ble, hb1019, hb1435, hx1484a, hx1484b, hx1484c, hx1484d, hb1529] <;> rfl)
                  change ∃ n', _ ∧ _
                  exact ⟨nf, Nat.lt_succ_self nf, (IntKind.wrap .i64 (n1414 + 1)), m1504, hL1416, h⟩
                · rw [if_neg hb1529] at hL1416; cases hL1416
            · rw [if_neg hb1435] at hL1416
              have hb1435n := eq_false_of_ne_true hb1435
              refine r_condF h b1430 (by simp only [EX, simprocAttr, Nat.blt, Nat.ble, hb1019, hb1435n] <;> rfl) (by first | rfl | (simp only [EX, simprocAttr, Nat.blt, Nat.ble, hb1019, hb1435n] <;> rfl)) ?_
              refine wp_exit ?_
              have h := h.same [5, 6, 7] [(4, 0), (12, 0)] 152 [(5, .one (.ptr (4, 0) 0)), (6, .one (.d (.int .i64 (r590.In.length : Int)))), (7, .one (.ptr (12, 0) 0))]
                [((4, 0), some (.box 26 [.d (.int .i64 r590.Node), .d (.int .i64 r590.State), .d (.int .i64 r590.Steps), .d (.sl (List.map (eL eTMsg) r590.In)), .d (.sl (List.map (eL eI) r590.Out))])), ((12, 0), some (.box 33 [.d (.int .i64 m1415.Epoch), .d (.sl (List.map eB m1415.Open)), .d (.int .i64 m1415.P.Node), .d (.int .i64 m1415.P.State), .d (.int .i64 m1415.P.Steps), .d (.sl (List.map eI m1415.P.Sent)), .d (.sl (List.map (eL eTMsg) m1415.P.In)), .d (.sl (List.map (eL eI) m1415.P.Out))]))]
                (by simp only [EX, simprocAttr, Nat.blt, Nat.ble, hb1019, hb1435n] <;> rfl)
              injection hL1416 with hL1416
              exact ⟨m1415, hL1416, h⟩
      · skip
        rintro ac wd ⟨m1259, rfl, h⟩
        (try dsimp only at hD)
        refine wp_seq ?_
        refine rs_plain 154 [] [none, none] [5, 6, 7, 93] [(4, 0), (12, 0)] h rfl rfl (by simp only [EX, simprocAttr, Nat.blt, Nat.ble, tz_3, tz_4, hb1019] <;> rfl) fun ac wd h => ?_
        by_cases hb1535 : (r590.In.length : Int) = 0
        · rw [if_pos hb1535] at hD
          have hb1535t := eq_true hb1535
          refine r_condT h (decide ((r590.In.length : Int) = 0)) (by simp only [EX, simprocAttr, Nat.blt, Nat.ble, hb1019, hb1535t] <;> rfl) (by first | rfl | (simp only [EX, simprocAttr, Nat.blt, Nat.ble, hb1019, hb1535t] <;> rfl)) ?_
          obtain ⟨r1552, hc1553, hD⟩ := Option.bind_eq_some_iff.1 hD
          have hc1553k := L_law10_fixed_ok hc1553
          refine rs_plain 156 [factE 154 hc1553k] [none, none] [4] [] h rfl rfl (by simp only [EX, simprocAttr, Nat.blt, Nat.ble, tz_4, hb1019, hb1535t] <;> rfl) fun ac wd h => ?_
          refine wp_ret ?_
          injection hD with hD
          subst hD
          exact r_retE rfl h [.tmp 4] rfl (by simp only [retD, List.mapM_cons, List.mapM_nil, Option.bind_eq_bind, Option.pure_def, EX, simprocAttr, Nat.blt, Nat.ble, hb1019, hb1535t] <;> rfl)
        · rw [if_neg hb1535] at hD
          refine r_condF h (decide ((r590.In.length : Int) = 0)) (by simp only [EX, simprocAttr, Nat.blt, Nat.ble, hb1019, hb1535] <;> rfl) (by first | rfl | (simp only [EX, simprocAttr, Nat.blt, Nat.ble, hb1019, hb1535] <;> rfl)) ?_
          refine wp_skip ?_
          change Code.wp Try.prog _ _ _ _
          obtain ⟨r1556, hc1557, hD⟩ := Option.bind_eq_some_iff.1 hD
          have hc1557k := L_mark_Marker_ok hc1557
          refine rs_plain 163 [factE 156 hc1557k] [none, none, none, none, none, none, none, none, none] [5, 6, 15, 16] [(4, 0), (160, 0)] h rfl rfl (by simp only [EX, simprocAttr, Nat.blt, Nat.ble, tz_3, tz_4, tz_26, tz_33, hb1019, hb1535] <;> rfl) fun ac wd h => ?_
          obtain ⟨r1560, hc1561, hD⟩ := Option.bind_eq_some_iff.1 hD
          have hc1561k := L_mark_Marker_ok hc1561
          refine rs_plain 174 [factE 167 hc1561k] [none, none, none, none, none, none, none, none, none, none, none] [6, 15, 16, 18] [(160, 0)] h rfl rfl (by simp only [EX, simprocAttr, Nat.blt, Nat.ble, tz_3, tz_4, tz_26, tz_33, hb1019, hb1535] <;> rfl) fun ac wd h => ?_
          by_cases hb1570 : r1556.2 = true
          · rw [if_pos hb1570] at hD
            by_cases hb1571 : r1560.2 = true
            · rw [if_pos hb1571] at hD; cases hD
            · rw [if_neg hb1571] at hD
              have hb1571n := eq_false_of_ne_true hb1571
              by_cases hb1578 : r1556.1.Epoch = 2
              · rw [if_pos hb1578] at hD
                have hb1578t := eq_true hb1578
                obtain ⟨r1579, hc1580, hD⟩ := Option.bind_eq_some_iff.1 hD
                by_cases hb1581 : r1579 = (decide ((r590.In.length : Int) = 1))
                · rw [if_pos hb1581] at hD
                  have hb1581t := eq_true hb1581
                  obtain ⟨r1582, hc1583, hD⟩ := Option.bind_eq_some_iff.1 hD
                  have hc1580k := L_mark_Done_ok hc1580
                  have hc1583k := L_law10_fixed_ok hc1583
                  refine rs_plain 195 [factE 186 hc1580k, factE 192 hc1583k] [none, none, some (some 110, true), some (some 110, true), none, none, some (some 114, true), some (some 114, true), some (some 114, true), none, none, some (some 119, true), some (some 119, true), some (some 119, true), some (some 119, true), some (some 119, true), none, none, some (some 126, true), none, none] [4] [] h rfl rfl (by simp only [EX, simprocAttr, Nat.blt, Nat.ble, tz_3, tz_4, tz_33, hb1019, hb1535, hb1570, hb1571n, hb1578t, hb1581t] <;> rfl) fun ac wd h => ?_
                  refine wp_ret ?_
                  injection hD with hD
                  subst hD
                  exact r_retE rfl h [.tmp 4] rfl (by simp only [retD, List.mapM_cons, List.mapM_nil, Option.bind_eq_bind, Option.pure_def, EX, simprocAttr, Nat.blt, Nat.ble, hb1019, hb1535, hb1570, hb1571n, hb1578t, hb1581t] <;> rfl)
                · rw [if_neg hb1581] at hD; cases hD
              · rw [if_neg hb1578] at hD; cases hD
          · rw [if_neg hb1570] at hD; cases hD
    · rw [if_neg hb1019] at hD; cases hD

end Go.Proofs.Ytkjihlonnhfidaa
