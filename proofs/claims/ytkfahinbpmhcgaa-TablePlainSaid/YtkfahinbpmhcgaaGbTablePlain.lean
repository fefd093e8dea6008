/- Functions as typed ones, and that the program's functions answer as these do. No condition. -/
import Derived.Test.YtkfahinbpmhcgaaGb5
import Derived.Test.YtkfahinbpmhcgaaGdTablePlain
set_option linter.unusedSimpArgs false
set_option linter.unusedVariables false
set_option maxRecDepth 20000
set_option maxHeartbeats 4000000
namespace Go.Proofs.Ytkfahinbpmhcgaa
open Go.RowKit

theorem L_law04_TablePlain_ok {a0 : TGraph} {a1 : (List Bool)} {r : Bool} (hD : L_law04_TablePlain a0 a1 = some r) :
    CallH Try.prog 10 [.agg (cTGraph a0), .one (.d (.sl (List.map eB a1)))] []
      (.one (.d (.bool r))) [] := by
  unfold L_law04_TablePlain at hD
  refine rc Try.func10 rfl Try.ntmps10 fun S Φ P0 wb ac h => ?_
  refine qs 3 [] [1, 2] [(1, 0)] h fun ac wd h => ?_
  obtain ⟨r2379, hc2380, hD⟩ := oB hD
  have hc2380k := L_law03_Cut_ok hc2380
  refine qs 6 [factE 4 hc2380k] [1, 2] [(1, 0)] h fun ac wd h => ?_
  refine wp_seq ?_
  obtain ⟨r2385, hc2386, hD⟩ := oB hD
  obtain ⟨r2387, hc2388, hD⟩ := oB hD
  have hc2386k := L_law03_Ref_ok hc2386
  have hc2388k := L_ref03_Right_ok hc2388
  refine qs 10 [factE 7 hc2386k, factE 8 hc2388k] [1, 2, 14] [(1, 0)] h fun ac wd h => ?_
  rcases i2b hD with ⟨hb2403, hD⟩ | ⟨hb2403, hD⟩
  ·
    refine kF h ?_
    refine wp_skip ?_
    change Code.wp Try.prog _ _ _ _
    refine qs 12 [] [1, 2, 5] [(1, 0), (10, 0)] h fun ac wd h => ?_
    refine wp_seq ?_
    refine qs 13 [] [1, 2, 5, 6] [(1, 0), (10, 0)] h fun ac wd h => ?_
    obtain ⟨e4427, hE4428, hD⟩ := Option.bind_eq_some_iff.1 hD
    refine r_meet (fun ac wd => ∃ (l4426 : List TNode), l4426 = e4427 ∧ SL ⟨wb, S, Φ, P0⟩ 83 221 [(2, .one (.ptr (1, 0) 0)), (5, .one (.own (10, 0) l4426.length))] [((1, 0), some (.box 24 [.d (.int .i64 r2379.N), .d (.sl (List.map eA2I r2379.Links))])), ((10, 0), some (.row 68 2 (openRows cols_68 (List.map eTNode l4426))))] ac wd) ?_ ?_
    · skip
      refine wp_block ?_
      refine r_while (fun nf ac wd => ∃ (n5195 : Int) (l5196 : List TNode), L_law04_TablePlain_l1 a1 r2379 r2385 nf n5195 l5196 = some e4427 ∧ SL ⟨wb, S, Φ, P0⟩ 83 217 [(1, .one (.d (.sl (List.map eB a1)))), (2, .one (.ptr (1, 0) 0)), (5, .one (.own (10, 0) l5196.length)), (6, .one (.d (.int .i64 n5195)))] [((1, 0), some (.box 24 [.d (.int .i64 r2379.N), .d (.sl (List.map eA2I r2379.Links))])), ((10, 0), some (.row 68 2 (openRows cols_68 (List.map eTNode l5196))))] ac wd) ((r2379.N - 0).toNat + 1) ⟨0, ([] : List TNode), hE4428, h.z⟩ (fun nf ac wd hJ => ?_)
      obtain ⟨n5195, l5196, hL5197, h⟩ := hJ
      cases nf with
      | zero => rw [L_law04_TablePlain_l1] at hL5197; cases hL5197
      | succ nf =>
        rw [L_law04_TablePlain_l1] at hL5197
        refine wp_seq ?_
        refine qs 221 [] [1, 2, 5, 6, 29] [(1, 0), (10, 0)] h fun ac wd h => ?_
        rcases i2 hL5197 with ⟨hb5199, hL5197⟩ | ⟨hb5199, hL5197⟩
        ·
          refine kT h ?_
          refine wp_skip ?_
          change Code.wp Try.prog _ _ _ _
          obtain ⟨e5465, hE5466, hL5197⟩ := Option.bind_eq_some_iff.1 hL5197
          refine r_seqJ (fun ac wd => ∃ (l5464 : List TNode), l5464 = e5465 ∧ SL ⟨wb, S, Φ, P0⟩ 83 316 [(1, .one (.d (.sl (List.map eB a1)))), (2, .one (.ptr (1, 0) 0)), (5, .one (.own (314, 0) l5464.length)), (6, .one (.d (.int .i64 n5195)))] [((1, 0), some (.box 24 [.d (.int .i64 r2379.N), .d (.sl (List.map eA2I r2379.Links))])), ((314, 0), some (.row 68 2 (openRows cols_68 (List.map eTNode l5464))))] ac wd) ?_ ?_
          · skip
            refine wp_block ?_
            refine qs 224 [] [1, 2, 5, 6, 7] [(1, 0), (10, 0), (222, 0)] h fun ac wd h => ?_
            refine wp_seq ?_
            refine qs 225 [] [1, 2, 5, 6, 7, 8] [(1, 0), (10, 0), (222, 0)] h fun ac wd h => ?_
            obtain ⟨e5564, hE5565, hE5466⟩ := Option.bind_eq_some_iff.1 hE5466
            refine r_meet (fun ac wd => ∃ (n5562 : Int) (l5563 : List Int), (n5562, l5563) = e5564 ∧ SL ⟨wb, S, Φ, P0⟩ 83 309 [(1, .one (.d (.sl (List.map eB a1)))), (2, .one (.ptr (1, 0) 0)), (5, .one (.own (10, 0) l5196.length)), (6, .one (.d (.int .i64 n5195))), (7, .one (.ptr (222, 0) 0))] [((1, 0), some (.box 24 [.d (.int .i64 r2379.N), .d (.sl (List.map eA2I r2379.Links))])), ((10, 0), some (.row 68 2 (openRows cols_68 (List.map eTNode l5196)))), ((222, 0), some (.box 86 [.d (.int .i64 n5562), .own (225, 0) l5563.length, .nil, .nil])), ((225, 0), some (.row 3 1 (dat (List.map eI l5563))))] ac wd) ?_ ?_
            · skip
              refine wp_block ?_
              have h := SL.bornB h (222, 0) 1 3 1 (by simp only [EZ, simprocAttr, *] <;> rfl) (by simp only [EZ, simprocAttr, *] <;> rfl)
              refine r_while (fun nf ac wd => ∃ (n5627 : Int) (n5628 : Int) (l5629 : List Int), L_law04_TablePlain_l2 a1 n5195 r2379 r2385 nf n5627 n5628 l5629 = some e5564 ∧ SL ⟨wb, S, Φ, P0⟩ 83 293 [(1, .one (.d (.sl (List.map eB a1)))), (2, .one (.ptr (1, 0) 0)), (5, .one (.own (10, 0) l5196.length)), (6, .one (.d (.int .i64 n5195))), (7, .one (.ptr (222, 0) 0)), (8, .one (.d (.int .i64 n5627)))] [((1, 0), some (.box 24 [.d (.int .i64 r2379.N), .d (.sl (List.map eA2I r2379.Links))])), ((10, 0), some (.row 68 2 (openRows cols_68 (List.map eTNode l5196)))), ((222, 0), some (.box 86 [.d (.int .i64 n5628), .own (225, 0) l5629.length, .nil, .nil])), ((225, 0), some (.row 3 1 (dat (List.map eI l5629))))] ac wd) ((r2379.N - 0).toNat + 1) ⟨0, 0, ([] : List Int), hE5565, h.z⟩ (fun nf ac wd hJ => ?_)
              obtain ⟨n5627, n5628, l5629, hL5630, h⟩ := hJ
              cases nf with
              | zero => rw [L_law04_TablePlain_l2] at hL5630; cases hL5630
              | succ nf =>
                rw [L_law04_TablePlain_l2] at hL5630
                refine wp_seq ?_
                obtain ⟨e5641, hE5642, hL5630⟩ := Option.bind_eq_some_iff.1 hL5630
                refine r_seqJ (fun ac wd => ∃ (b5640 : Bool), b5640 = e5641 ∧ SL ⟨wb, S, Φ, P0⟩ 83 309 [(1, .one (.d (.sl (List.map eB a1)))), (2, .one (.ptr (1, 0) 0)), (5, .one (.own (10, 0) l5196.length)), (6, .one (.d (.int .i64 n5195))), (7, .one (.ptr (222, 0) 0)), (8, .one (.d (.int .i64 n5627))), (48, .one (.d (.bool b5640)))] [((1, 0), some (.box 24 [.d (.int .i64 r2379.N), .d (.sl (List.map eA2I r2379.Links))])), ((10, 0), some (.row 68 2 (openRows cols_68 (List.map eTNode l5196)))), ((222, 0), some (.box 86 [.d (.int .i64 n5628), .own (225, 0) l5629.length, .nil, .nil])), ((225, 0), some (.row 3 1 (dat (List.map eI l5629))))] ac wd) ?_ ?_
                · skip
                  rcases i2 hE5642 with ⟨hb5643, hE5642⟩ | ⟨hb5643, hE5642⟩
                  ·
                    rcases i2 hE5642 with ⟨hb5647, hE5642⟩ | ⟨hb5647, hE5642⟩
                    ·
                      obtain ⟨x5650, hx5651a, hx5651b, hx5651c, hx5651d, hE5642⟩ := aB hE5642
                      refine qeg [] [none, none, none, none, none, some (some 37, true), some (some 37, true), some (some 37, true), some (some 37, true), none, none, some (some 43, true), some (some 43, true), some (some 43, true), some (some 43, true), none] [1, 2, 5, 6, 7, 8, 48] [(1, 0), (10, 0), (222, 0), (225, 0)] h fun ac wd h => ?_
                      injection hE5642 with hE5642; subst hE5642
                      exact ⟨x5650, rfl, h.z⟩
                    ·
                      refine qeg [] [none, none, none, none, none, some (some 37, true), some (some 37, true), some (some 37, true), some (some 37, true), none, none, some (some 43, true), some (some 43, true), some (some 43, true), some (some 43, true), none] [1, 2, 5, 6, 7, 8, 48] [(1, 0), (10, 0), (222, 0), (225, 0)] h fun ac wd h => ?_
                      injection hE5642 with hE5642; subst hE5642
                      exact ⟨false, rfl, h.z⟩
                  ·
                    refine qeg [] [none, none, none, none, none, some (some 37, true), some (some 37, true), some (some 37, true), some (some 37, true), none, none, some (some 43, true), some (some 43, true), some (some 43, true), some (some 43, true), none] [1, 2, 5, 6, 7, 8, 48] [(1, 0), (10, 0), (222, 0), (225, 0)] h fun ac wd h => ?_
                    injection hE5642 with hE5642; subst hE5642
                    exact ⟨false, rfl, h.z⟩
                · skip
                  rintro ac wd ⟨b5640, rfl, h⟩
                  (try dsimp only at hL5630)
                  rcases i2b hL5630 with ⟨hb5653, hL5630⟩ | ⟨hb5653, hL5630⟩
                  ·
                    refine kT h ?_
                    refine wp_skip ?_
                    change Code.wp Try.prog _ _ _ _
                    obtain ⟨e5666, hE5667, hL5630⟩ := Option.bind_eq_some_iff.1 hL5630
                    refine r_seqJ (fun ac wd => ∃ (n5664 : Int) (l5665 : List Int), (n5664, l5665) = e5666 ∧ SL ⟨wb, S, Φ, P0⟩ 83 324 [(1, .one (.d (.sl (List.map eB a1)))), (2, .one (.ptr (1, 0) 0)), (5, .one (.own (10, 0) l5196.length)), (6, .one (.d (.int .i64 n5195))), (7, .one (.ptr (222, 0) 0)), (8, .one (.d (.int .i64 n5627)))] [((1, 0), some (.box 24 [.d (.int .i64 r2379.N), .d (.sl (List.map eA2I r2379.Links))])), ((10, 0), some (.row 68 2 (openRows cols_68 (List.map eTNode l5196)))), ((222, 0), some (.box 86 [.d (.int .i64 n5664), .own (321, 0) l5665.length, .nil, .nil])), ((321, 0), some (.row 3 1 (dat (List.map eI l5665))))] ac wd) ?_ ?_
                    · skip
                      refine wp_block ?_
                      obtain ⟨r5670, hc5671, hE5667⟩ := oB hE5667
                      have hc2386k := L_law03_Ref_ok hc2386
                      have hc5671k := L_ref03_Find_ok hc5671
                      refine qs 315 [factE 310 hc2386k, factE 313 hc5671k] [1, 2, 5, 6, 7, 8, 56] [(1, 0), (10, 0), (222, 0), (225, 0)] h fun ac wd h => ?_
                      rcases i2 hE5667 with ⟨hb5672, hE5667⟩ | ⟨hb5672, hE5667⟩
                      ·
                        refine kT h ?_
                        refine qs 317 [] [1, 2, 5, 6, 7, 8] [(1, 0), (10, 0), (222, 0), (225, 0)] h fun ac wd h => ?_
                        obtain ⟨ha5674, hE5667⟩ := iT hE5667
                        refine qe [] [1, 2, 5, 6, 7, 8] [(1, 0), (10, 0), (222, 0), (321, 0)] h fun ac wd h => ?_
                        injection hE5667 with hE5667; subst hE5667
                        exact ⟨2, (l5629 ++ [n5627]), rfl, h.z⟩
                      ·
                        refine kF h ?_
                        refine wp_skip ?_
                        have h := h.sw (321, 0) (225, 0) 324
                        injection hE5667 with hE5667; subst hE5667
                        exact ⟨n5628, l5629, rfl, h.z⟩
                    · skip
                      rintro ac wd ⟨n5664, l5665, rfl, h⟩
                      (try dsimp only at hL5630)
                      refine qe [] [1, 2, 5, 6, 7, 8] [(1, 0), (10, 0), (222, 0), (321, 0)] h fun ac wd h => ?_
                      have h := h.sw (225, 0) (321, 0) 327
                      exact ⟨nf, Nat.lt_succ_self nf, (IntKind.wrap .i64 (n5627 + 1)), n5664, l5665, hL5630, h.z⟩
                  ·
                    refine kF h ?_
                    refine wp_exit ?_
                    injection hL5630 with hL5630; subst hL5630
                    exact ⟨n5628, l5629, rfl, h.z⟩
            · skip
              rintro ac wd ⟨n5562, l5563, rfl, h⟩
              (try dsimp only at hE5466)
              obtain ⟨ha5675, hE5466⟩ := iT hE5466
              refine qe [] [1, 2, 5, 6] [(1, 0), (225, 0), (311, 0), (314, 0)] h fun ac wd h => ?_
              have h := h.nilTr (311, 0) (l := [[.d (.int .i64 n5562), .own (225, 0) l5563.length, .nil, .nil]]) (l' := [[.d (.int .i64 n5562), .own (225, 0) l5563.length, .tr (.sl 74 2 cols_74) (.sl (List.map eTPick [])), .tr (.sl 88 3 (fun _ => .sc)) (.sl (List.map eTTake []))]]) (by simp only [EZ, simprocAttr, *] <;> rfl) (RowsTo.cons (RowTo.cons (.inl rfl) (RowTo.cons (.inl rfl) (RowTo.cons (.inr (.inr ⟨rfl, _, _, _, rfl⟩)) (RowTo.cons (.inr (.inr ⟨rfl, _, _, _, rfl⟩)) RowTo.nil)))) (RowsTo.refl []))
              have h := h.sm 316 [(1, .one (.d (.sl (List.map eB a1)))), (2, .one (.ptr (1, 0) 0)), (5, .one (.own (314, 0) (l5196.length + 1))), (6, .one (.d (.int .i64 n5195)))]
                [((1, 0), some (.box 24 [.d (.int .i64 r2379.N), .d (.sl (List.map eA2I r2379.Links))])), ((225, 0), some (.row 3 1 (dat (List.map eI l5563)))), ((311, 0), some (.row 86 4 ([[.d (.int .i64 n5562), .own (225, 0) l5563.length, .tr (.sl 74 2 cols_74) (.sl (List.map eTPick [])), .tr (.sl 88 3 (fun _ => .sc)) (.sl (List.map eTTake []))]]))), ((314, 0), some (.row 68 2 ((openRows cols_68 (List.map eTNode l5196) ++ [[.d (.int .i64 0), .own (311, 0) 1]]))))]
              have h := h.fL (cols := (fun _ => .sc)) (311, 0) (225, 0) ([]) [.d (.int .i64 n5562), .own (225, 0) l5563.length, .tr (.sl 74 2 cols_74) (.sl (List.map eTPick [])), .tr (.sl 88 3 (fun _ => .sc)) (.sl (List.map eTTake []))] 1 (List.map eI l5563) (sc_3 _)
              have h := h.sm 316 [(1, .one (.d (.sl (List.map eB a1)))), (2, .one (.ptr (1, 0) 0)), (5, .one (.own (314, 0) (l5196.length + 1))), (6, .one (.d (.int .i64 n5195)))]
                [((1, 0), some (.box 24 [.d (.int .i64 r2379.N), .d (.sl (List.map eA2I r2379.Links))])), ((311, 0), some (.row 86 4 ([[.d (.int .i64 n5562), .tr (.sl 3 1 (fun _ => .sc)) (.sl (List.map eI l5563)), .tr (.sl 74 2 cols_74) (.sl (List.map eTPick [])), .tr (.sl 88 3 (fun _ => .sc)) (.sl (List.map eTTake []))]]))), ((314, 0), some (.row 68 2 ((openRows cols_68 (List.map eTNode l5196) ++ [[.d (.int .i64 0), .own (311, 0) 1]]))))]
              have h := h.fL (cols := cols_86) (314, 0) (311, 0) (openRows cols_68 (List.map eTNode l5196)) [.d (.int .i64 0), .own (311, 0) 1] 1 (List.map eTState ([(TState.mk n5562 l5563 [] [])])) (sc_86 _)
              have h := h.sm 316 [(1, .one (.d (.sl (List.map eB a1)))), (2, .one (.ptr (1, 0) 0)), (5, .one (.own (314, 0) (l5196.length + 1))), (6, .one (.d (.int .i64 n5195)))]
                [((1, 0), some (.box 24 [.d (.int .i64 r2379.N), .d (.sl (List.map eA2I r2379.Links))])), ((314, 0), some (.row 68 2 ((openRows cols_68 (List.map eTNode l5196) ++ [[.d (.int .i64 0), .tr (.sl 86 4 cols_86) (.sl (List.map eTState ([(TState.mk n5562 l5563 [] [])])))]]))))]
              injection hE5466 with hE5466; subst hE5466
              exact ⟨((l5196 ++ [(TNode.mk 0 ([(TState.mk n5562 l5563 [] [])]))]) : List TNode), rfl, h.z⟩
          · skip
            rintro ac wd ⟨l5464, rfl, h⟩
            (try dsimp only at hL5197)
            refine qe [] [1, 2, 5, 6] [(1, 0), (314, 0)] h fun ac wd h => ?_
            have h := h.sw (10, 0) (314, 0) 319
            exact ⟨nf, Nat.lt_succ_self nf, (IntKind.wrap .i64 (n5195 + 1)), l5464, hL5197, h.z⟩
        ·
          refine kF h ?_
          refine wp_exit ?_
          injection hL5197 with hL5197; subst hL5197
          exact ⟨l5196, rfl, h.z⟩
    · skip
      rintro ac wd ⟨l4426, rfl, h⟩
      (try dsimp only at hD)
      obtain ⟨r5686, hc5687, hD⟩ := oB hD
      obtain ⟨hb5688, hD⟩ := iT hD
      obtain ⟨ha5689, hD⟩ := iT hD
      have hq5690 : 1 + (l4426.length - 1) ≤ l4426.length := by omega
      obtain ⟨r5691, hc5692, hD⟩ := oB hD
      obtain ⟨hb5693, hD⟩ := iFb hD
      obtain ⟨r5696, hc5697, hD⟩ := oB hD
      have hc5687k := L_table_Right_ok hc5687
      have hc5692k := L_table_Right_ok hc5692
      have hc5697k := L_law04_fixed_ok hc5697
      refine dsg 235 [factE 223 hc5687k, factE 228 hc5692k, factE 232 hc5697k] [none, none, none, none, some (some 73, true), some (some 73, true), some (some 73, true), some (some 73, true), some (some 73, true), none, none, some (some 80, true), none, none] [4] [] h fun ac wd h => ?_
      refine wp_ret ?_
      injection hD with hD
      subst hD
      exact rE h [.tmp 4]
  ·
    refine kT h ?_
    obtain ⟨r5703, hc5704, hD⟩ := oB hD
    obtain ⟨hb5705, hD⟩ := iFb hD
    obtain ⟨r5708, hc5709, hD⟩ := oB hD
    have hc5704k := L_table_Right_ok hc5704
    have hc5709k := L_law04_fixed_ok hc5709
    refine qsg 21 [factE 15 hc5704k, factE 18 hc5709k] [none, none, none, none, none, none, none, none, some (some 22, true), none, none] [4] [] h fun ac wd h => ?_
    refine wp_ret ?_
    injection hD with hD
    subst hD
    exact rE h [.tmp 4]

end Go.Proofs.Ytkfahinbpmhcgaa
