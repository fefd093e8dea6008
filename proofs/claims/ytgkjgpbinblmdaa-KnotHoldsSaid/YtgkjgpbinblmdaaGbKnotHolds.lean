/- Functions as typed ones, and that the program's functions answer as these do. No condition. -/
import Derived.Test.YtgkjgpbinblmdaaGb7
import Derived.Test.YtgkjgpbinblmdaaGdKnotHolds
set_option linter.unusedSimpArgs false
set_option linter.unusedVariables false
set_option maxRecDepth 20000
set_option maxHeartbeats 4000000
namespace Go.Proofs.Ytgkjgpbinblmdaa
open Go.RowKit

theorem L_law15_KnotHolds_ok {a0 : TApp} {a1 : TConf} {a2 : (List Int)} {r : Bool} (hD : L_law15_KnotHolds a0 a1 a2 = some r) :
    CallH Try.prog 7 [.agg (cTApp a0), .agg (cTConf a1), .one (.d (.sl (List.map eI a2)))] []
      (.one (.d (.bool r))) [] := by
  unfold L_law15_KnotHolds at hD
  refine rc Try.func7 rfl Try.ntmps7 fun S Φ P0 wb ac h => ?_
  refine qs 4 [] [2, 3, 4] [(1, 0), (2, 0)] h fun ac wd h => ?_
  obtain ⟨r2094, hc2095, hD⟩ := oB hD
  have hc2095k := L_law05_Cut_ok hc2095
  refine qs 7 [factE 5 hc2095k] [2, 3, 4] [(1, 0), (2, 0)] h fun ac wd h => ?_
  obtain ⟨r2098, hc2099, hD⟩ := oB hD
  have hc2099k := L_law05_CutConf_ok hc2099
  refine qs 10 [factE 8 hc2099k] [2, 3, 4] [(1, 0), (2, 0)] h fun ac wd h => ?_
  obtain ⟨ha2104, hD⟩ := iT hD
  obtain ⟨ha2105, hD⟩ := iT hD
  obtain ⟨v2106, hv2107, hD⟩ := vB hD
  refine qs 16 [] [2, 3, 4] [(1, 0), (2, 0)] h fun ac wd h => ?_
  refine wp_seq ?_
  obtain ⟨r2114, hc2115, hD⟩ := oB hD
  obtain ⟨r2116, hc2117, hD⟩ := oB hD
  obtain ⟨r2118, hc2119, hD⟩ := oB hD
  have hc2115k := L_law05_App_ok hc2115
  have hc2117k := L_law05_Ref_ok hc2117
  have hc2119k := L_ref05_Right_ok hc2119
  refine ds 22 [factE 17 hc2115k, factE 19 hc2117k, factE 20 hc2119k] [2, 3, 4, 30] [(1, 0), (2, 0)] h fun ac wd h => ?_
  rcases i2b hD with ⟨hb2134, hD⟩ | ⟨hb2134, hD⟩
  ·
    refine kF h ?_
    refine wp_skip ?_
    change Code.wp Try.prog _ _ _ _
    obtain ⟨r2243, hc2244, hD⟩ := oB hD
    have hc2244k := L_knot_Knot_ok hc2244
    refine qs 26 [factE 24 hc2244k] [2, 3, 4, 7] [(1, 0), (2, 0)] h fun ac wd h => ?_
    refine wp_seq ?_
    obtain ⟨r2247, hc2248, hD⟩ := oB hD
    have hc2248k := L_knot_Held_ok hc2248
    refine qs 34 [factE 32 hc2248k] [2, 3, 4, 7, 48] [(1, 0), (2, 0)] h fun ac wd h => ?_
    obtain ⟨hb2250, hD⟩ := iTe hD
    refine kF h ?_
    refine wp_skip ?_
    change Code.wp Try.prog _ _ _ _
    refine wp_seq ?_
    refine qs 35 [] [2, 3, 4, 7, 8] [(1, 0), (2, 0)] h fun ac wd h => ?_
    obtain ⟨e2481, hE2482, hD⟩ := Option.bind_eq_some_iff.1 hD
    refine r_meet (fun ac wd => () = e2481 ∧ SL ⟨wb, S, Φ, P0⟩ 215 119 [(2, .one (.d (.sl (List.map eI v2106)))), (3, .one (.ptr (1, 0) 0)), (4, .one (.ptr (2, 0) 0)), (7, .one (.d (.sl (List.map eI r2243))))] [((1, 0), some (.box 27 [.d (.int .i64 r2094.G.N), .d (.sl (List.map eA2I r2094.G.Links)), .d (.sl (List.map eTNode r2094.T)), .d (.bool r2094.Fifo)])), ((2, 0), some (.box 31 [.d (.sl (List.map eI r2098.States)), .d (.sl (List.map (eL eTMsg) r2098.Links)), .d (.sl (List.map eI r2098.Sent))]))] ac wd) ?_ ?_
    · skip
      refine wp_block ?_
      refine r_while (fun nf ac wd => ∃ (n2568 : Int), L_law15_KnotHolds_l1 r2094 r2098 r2243 nf n2568 = some e2481 ∧ SL ⟨wb, S, Φ, P0⟩ 215 115 [(2, .one (.d (.sl (List.map eI v2106)))), (3, .one (.ptr (1, 0) 0)), (4, .one (.ptr (2, 0) 0)), (7, .one (.d (.sl (List.map eI r2243)))), (8, .one (.d (.int .i64 n2568)))] [((1, 0), some (.box 27 [.d (.int .i64 r2094.G.N), .d (.sl (List.map eA2I r2094.G.Links)), .d (.sl (List.map eTNode r2094.T)), .d (.bool r2094.Fifo)])), ((2, 0), some (.box 31 [.d (.sl (List.map eI r2098.States)), .d (.sl (List.map (eL eTMsg) r2098.Links)), .d (.sl (List.map eI r2098.Sent))]))] ac wd) (((r2243.length : Int) - 0).toNat + 1) ⟨0, hE2482, h.z⟩ (fun nf ac wd hJ => ?_)
      obtain ⟨n2568, hL2569, h⟩ := hJ
      cases nf with
      | zero => rw [L_law15_KnotHolds_l1] at hL2569; cases hL2569
      | succ nf =>
        rw [L_law15_KnotHolds_l1] at hL2569
        refine wp_seq ?_
        refine qs 119 [] [2, 3, 4, 7, 8, 52] [(1, 0), (2, 0)] h fun ac wd h => ?_
        rcases i2 hL2569 with ⟨hb2571, hL2569⟩ | ⟨hb2571, hL2569⟩
        ·
          refine kT h ?_
          refine wp_skip ?_
          change Code.wp Try.prog _ _ _ _
          refine wp_seq ?_
          refine wp_block ?_
          obtain ⟨x2610, hx2611a, hx2611b, hx2611c, hx2611d, hL2569⟩ := aB hL2569
          obtain ⟨hb2612, hL2569⟩ := iF hL2569
          obtain ⟨hb2619, hL2569⟩ := iF hL2569
          obtain ⟨x2625, hx2626a, hx2626b, hx2626c, hx2626d, hL2569⟩ := aB hL2569
          obtain ⟨r2627, hc2628, hL2569⟩ := oB hL2569
          have hc2628k := L_table_Mode_ok hc2628
          refine dsg 152 [factE 149 hc2628k] [none, none, none, none, none, none, some (some 60, false), some (some 60, false), some (some 60, false), some (some 60, false), some (some 60, false), some (some 60, false), some (some 60, false), some (some 60, false), none, none, some (some 70, false), some (some 70, false), some (some 70, false), some (some 70, false), some (some 70, false), some (some 70, false), some (some 70, false), some (some 70, false), some (some 70, false), some (some 70, false), some (some 70, false), some (some 70, false), some (some 70, false), some (some 70, false), some (some 70, false), some (some 70, false), none] [2, 3, 4, 7, 8, 87] [(1, 0), (2, 0)] h fun ac wd h => ?_
          obtain ⟨hb2629, hL2569⟩ := iTe hL2569
          refine kF h ?_
          refine wp_skip ?_
          change Code.wp Try.prog _ _ _ _
          refine qe [] [2, 3, 4, 7, 8] [(1, 0), (2, 0)] h fun ac wd h => ?_
          exact ⟨nf, Nat.lt_succ_self nf, (IntKind.wrap .i64 (n2568 + 1)), hL2569, h.z⟩
        ·
          refine kF h ?_
          refine wp_exit ?_
          injection hL2569 with hL2569; subst hL2569
          exact ⟨rfl, h.z⟩
    · skip
      rintro ac wd ⟨rfl, h⟩
      (try dsimp only at hD)
      refine wp_seq ?_
      obtain ⟨r2632, hc2633, hD⟩ := oB hD
      have hc2633k := L_knot_Ring_ok hc2633
      refine qs 123 [factE 122 hc2633k] [2, 3, 4, 7, 91] [(1, 0), (2, 0)] h fun ac wd h => ?_
      obtain ⟨e3782, hE3783, hD⟩ := Option.bind_eq_some_iff.1 hD
      refine r_meet (fun ac wd => () = e3782 ∧ SL ⟨wb, S, Φ, P0⟩ 215 161 [(3, .one (.ptr (1, 0) 0)), (4, .one (.ptr (2, 0) 0))] [((1, 0), some (.box 27 [.d (.int .i64 r2094.G.N), .d (.sl (List.map eA2I r2094.G.Links)), .d (.sl (List.map eTNode r2094.T)), .d (.bool r2094.Fifo)])), ((2, 0), some (.box 31 (cTConf r2098)))] ac wd) ?_ ?_
      · skip
        rcases i2b hE3783 with ⟨hb3784, hE3783⟩ | ⟨hb3784, hE3783⟩
        ·
          refine kT h ?_
          refine wp_seq ?_
          refine qs 124 [] [2, 3, 4, 7, 9] [(1, 0), (2, 0)] h fun ac wd h => ?_
          obtain ⟨e3901, hE3902, hE3783⟩ := Option.bind_eq_some_iff.1 hE3783
          refine r_meet (fun ac wd => () = e3901 ∧ SL ⟨wb, S, Φ, P0⟩ 215 156 [(2, .one (.d (.sl (List.map eI v2106)))), (3, .one (.ptr (1, 0) 0)), (4, .one (.ptr (2, 0) 0))] [((1, 0), some (.box 27 [.d (.int .i64 r2094.G.N), .d (.sl (List.map eA2I r2094.G.Links)), .d (.sl (List.map eTNode r2094.T)), .d (.bool r2094.Fifo)])), ((2, 0), some (.box 31 (cTConf r2098)))] ac wd) ?_ ?_
          · skip
            refine wp_block ?_
            refine r_while (fun nf ac wd => ∃ (n3944 : Int), L_law15_KnotHolds_l2 r2243 v2106 nf n3944 = some e3901 ∧ SL ⟨wb, S, Φ, P0⟩ 215 152 [(2, .one (.d (.sl (List.map eI v2106)))), (3, .one (.ptr (1, 0) 0)), (4, .one (.ptr (2, 0) 0)), (7, .one (.d (.sl (List.map eI r2243)))), (9, .one (.d (.int .i64 n3944)))] [((1, 0), some (.box 27 [.d (.int .i64 r2094.G.N), .d (.sl (List.map eA2I r2094.G.Links)), .d (.sl (List.map eTNode r2094.T)), .d (.bool r2094.Fifo)])), ((2, 0), some (.box 31 (cTConf r2098)))] ac wd) (((v2106.length : Int) - 0).toNat + 1) ⟨0, hE3902, h.z⟩ (fun nf ac wd hJ => ?_)
            obtain ⟨n3944, hL3945, h⟩ := hJ
            cases nf with
            | zero => rw [L_law15_KnotHolds_l2] at hL3945; cases hL3945
            | succ nf =>
              rw [L_law15_KnotHolds_l2] at hL3945
              refine wp_seq ?_
              refine qs 156 [] [2, 3, 4, 7, 9, 95] [(1, 0), (2, 0)] h fun ac wd h => ?_
              rcases i2 hL3945 with ⟨hb3947, hL3945⟩ | ⟨hb3947, hL3945⟩
              ·
                refine kT h ?_
                refine wp_skip ?_
                change Code.wp Try.prog _ _ _ _
                refine wp_seq ?_
                refine wp_block ?_
                obtain ⟨x3966, hx3967a, hx3967b, hx3967c, hx3967d, hL3945⟩ := aB hL3945
                obtain ⟨r3968, hc3969, hL3945⟩ := oB hL3945
                have hc3969k := L_ref04_In_ok hc3969
                refine qs 163 [factE 161 hc3969k] [2, 3, 4, 7, 9, 104] [(1, 0), (2, 0)] h fun ac wd h => ?_
                obtain ⟨hb3970, hL3945⟩ := iT hL3945
                refine kF h ?_
                refine wp_skip ?_
                change Code.wp Try.prog _ _ _ _
                refine qe [] [2, 3, 4, 7, 9] [(1, 0), (2, 0)] h fun ac wd h => ?_
                exact ⟨nf, Nat.lt_succ_self nf, (IntKind.wrap .i64 (n3944 + 1)), hL3945, h.z⟩
              ·
                refine kF h ?_
                refine wp_exit ?_
                injection hL3945 with hL3945; subst hL3945
                exact ⟨rfl, h.z⟩
          · skip
            rintro ac wd ⟨rfl, h⟩
            (try dsimp only at hE3783)
            obtain ⟨r3973, hc3974, hE3783⟩ := oB hE3783
            have hc3974k := L_knot_Held_ok hc3974
            refine qs 161 [factE 159 hc3974k] [3, 4, 109] [(1, 0), (2, 0)] h fun ac wd h => ?_
            obtain ⟨hb3975, hE3783⟩ := iT hE3783
            refine kF h ?_
            refine wp_skip ?_
            injection hE3783 with hE3783; subst hE3783
            exact ⟨rfl, h.z⟩
        ·
          refine kF h ?_
          refine wp_skip ?_
          injection hE3783 with hE3783; subst hE3783
          exact ⟨rfl, h.z⟩
      · skip
        rintro ac wd ⟨rfl, h⟩
        (try dsimp only at hD)
        obtain ⟨r3978, hc3979, hD⟩ := oB hD
        have hc3979k := L_knot_Edges_ok hc3979
        refine qs 165 [factE 163 hc3979k] [3, 4, 10] [(1, 0), (2, 0)] h fun ac wd h => ?_
        refine wp_seq ?_
        refine qs 166 [] [3, 4, 10, 11] [(1, 0), (2, 0)] h fun ac wd h => ?_
        obtain ⟨e4727, hE4728, hD⟩ := Option.bind_eq_some_iff.1 hD
        refine r_meet (fun ac wd => (.inl ()) = e4727 ∧ SL ⟨wb, S, Φ, P0⟩ 215 408 [] [] ac wd) ?_ ?_
        · skip
          refine wp_block ?_
          refine r_while (fun nf ac wd => ∃ (n5224 : Int), L_law15_KnotHolds_l3 r2094 r2098 r3978 nf n5224 = some e4727 ∧ SL ⟨wb, S, Φ, P0⟩ 215 404 [(3, .one (.ptr (1, 0) 0)), (4, .one (.ptr (2, 0) 0)), (10, .one (.d (.sl (List.map eA2I r3978)))), (11, .one (.d (.int .i64 n5224)))] [((1, 0), some (.box 27 [.d (.int .i64 r2094.G.N), .d (.sl (List.map eA2I r2094.G.Links)), .d (.sl (List.map eTNode r2094.T)), .d (.bool r2094.Fifo)])), ((2, 0), some (.box 31 (cTConf r2098)))] ac wd) (((r3978.length : Int) - 0).toNat + 1) ⟨0, hE4728, h.z⟩ (fun nf ac wd hJ => ?_)
          obtain ⟨n5224, hL5225, h⟩ := hJ
          cases nf with
          | zero => rw [L_law15_KnotHolds_l3] at hL5225; cases hL5225
          | succ nf =>
            rw [L_law15_KnotHolds_l3] at hL5225
            refine wp_seq ?_
            refine qs 408 [] [3, 4, 10, 11, 116] [(1, 0), (2, 0)] h fun ac wd h => ?_
            rcases i2 hL5225 with ⟨hb5227, hL5225⟩ | ⟨hb5227, hL5225⟩
            ·
              refine kT h ?_
              refine wp_skip ?_
              change Code.wp Try.prog _ _ _ _
              obtain ⟨e5358, hE5359, hL5225⟩ := Option.bind_eq_some_iff.1 hL5225
              refine r_seqJ (fun ac wd => (.inl ()) = e5358 ∧ SL ⟨wb, S, Φ, P0⟩ 215 520 [(3, .one (.ptr (1, 0) 0)), (4, .one (.ptr (2, 0) 0)), (10, .one (.d (.sl (List.map eA2I r3978)))), (11, .one (.d (.int .i64 n5224)))] [((1, 0), some (.box 27 [.d (.int .i64 r2094.G.N), .d (.sl (List.map eA2I r2094.G.Links)), .d (.sl (List.map eTNode r2094.T)), .d (.bool r2094.Fifo)])), ((2, 0), some (.box 31 (cTConf r2098)))] ac wd) ?_ ?_
              · skip
                refine wp_block ?_
                obtain ⟨x5364, hx5365a, hx5365b, hx5365c, hx5365d, hE5359⟩ := aB hE5359
                obtain ⟨r5366, hc5367, hE5359⟩ := oB hE5359
                have hc5367k := L_graph_Find_ok hc5367
                refine ds 422 [factE 420 hc5367k] [3, 4, 10, 11, 12] [(1, 0), (2, 0)] h fun ac wd h => ?_
                refine wp_seq ?_
                obtain ⟨e5386, hE5387, hE5359⟩ := Option.bind_eq_some_iff.1 hE5359
                refine r_seqJ (fun ac wd => ∃ (b5385 : Bool), b5385 = e5386 ∧ SL ⟨wb, S, Φ, P0⟩ 215 439 [(3, .one (.ptr (1, 0) 0)), (4, .one (.ptr (2, 0) 0)), (10, .one (.d (.sl (List.map eA2I r3978)))), (11, .one (.d (.int .i64 n5224))), (12, .one (.d (.int .i64 r5366))), (148, .one (.d (.bool b5385)))] [((1, 0), some (.box 27 [.d (.int .i64 r2094.G.N), .d (.sl (List.map eA2I r2094.G.Links)), .d (.sl (List.map eTNode r2094.T)), .d (.bool r2094.Fifo)])), ((2, 0), some (.box 31 (cTConf r2098)))] ac wd) ?_ ?_
                · skip
                  rcases i2 hE5387 with ⟨hb5388, hE5387⟩ | ⟨hb5388, hE5387⟩
                  ·
                    refine qeg [] [none, none, none, some (some 134, false), some (some 134, false), some (some 134, false), some (some 134, false), some (some 134, false), none, none, some (some 141, false), some (some 141, false), some (some 141, false), some (some 141, false), some (some 141, false), some (some 141, false), none] [3, 4, 10, 11, 12, 148] [(1, 0), (2, 0)] h fun ac wd h => ?_
                    injection hE5387 with hE5387; subst hE5387
                    exact ⟨true, rfl, h.z⟩
                  ·
                    rcases i2 hE5387 with ⟨hb5390, hE5387⟩ | ⟨hb5390, hE5387⟩
                    ·
                      refine qeg [] [none, none, none, some (some 134, false), some (some 134, false), some (some 134, false), some (some 134, false), some (some 134, false), none, none, some (some 141, false), some (some 141, false), some (some 141, false), some (some 141, false), some (some 141, false), some (some 141, false), none] [3, 4, 10, 11, 12, 148] [(1, 0), (2, 0)] h fun ac wd h => ?_
                      injection hE5387 with hE5387; subst hE5387
                      exact ⟨true, rfl, h.z⟩
                    ·
                      obtain ⟨x5393, hx5394a, hx5394b, hx5394c, hx5394d, hE5387⟩ := aB hE5387
                      refine qeg [] [none, none, none, some (some 134, false), some (some 134, false), some (some 134, false), some (some 134, false), some (some 134, false), none, none, some (some 141, false), some (some 141, false), some (some 141, false), some (some 141, false), some (some 141, false), some (some 141, false), none] [3, 4, 10, 11, 12, 148] [(1, 0), (2, 0)] h fun ac wd h => ?_
                      injection hE5387 with hE5387; subst hE5387
                      exact ⟨decide (x5393 ≥ 500), rfl, h.z⟩
                · skip
                  rintro ac wd ⟨b5385, rfl, h⟩
                  (try dsimp only at hE5359)
                  rcases i2b hE5359 with ⟨hb5407, hE5359⟩ | ⟨hb5407, hE5359⟩
                  ·
                    refine kT h ?_
                    obtain ⟨hb5469, hE5359⟩ := iT hE5359
                    obtain ⟨hb5470, hE5359⟩ := iT hE5359
                    obtain ⟨r5471, hc5472, hE5359⟩ := oB hE5359
                    have hc5472k := L_law15_fixed_ok hc5472
                    refine qsg 452 [factE 449 hc5472k] [none, none, none, some (some 151, true), some (some 151, true), some (some 151, true), some (some 151, true), some (some 151, true), none, none, some (some 158, true), none, none] [6] [] h fun ac wd h => ?_
                    refine wp_ret ?_
                    injection hE5359 with hE5359
                    subst hE5359
                    (try dsimp only at hL5225)
                    injection hL5225 with hL5225
                    subst hL5225
                    (try dsimp only at hD)
                    injection hD with hD
                    subst hD
                    exact rE h [.tmp 6]
                  ·
                    refine kF h ?_
                    refine wp_skip ?_
                    change Code.wp Try.prog _ _ _ _
                    obtain ⟨r5475, hc5476, hE5359⟩ := oB hE5359
                    have hc5476_440 := ((L_law05_CutConf_own hc5476).cls 440).z
                    refine qs 443 [factO hc5476_440] [3, 4, 10, 11, 12, 13] [(1, 0), (2, 0), (440, 0), (440, 1), (440, 2), (441, 0)] h fun ac wd h => ?_
                    obtain ⟨x5479, hx5480a, hx5480b, hx5480c, hx5480d, hE5359⟩ := aB hE5359
                    refine ds 454 [] [3, 4, 10, 11, 12, 13] [(1, 0), (2, 0), (440, 0), (440, 1), (440, 2), (441, 0)] h fun ac wd h => ?_
                    obtain ⟨x5488, hx5489a, hx5489b, hx5489c, hx5489d, hE5359⟩ := aB hE5359
                    have h := h.op (440, 1) r5366.toNat 0
                    have h := h.sm 455 [(3, .one (.ptr (1, 0) 0)), (4, .one (.ptr (2, 0) 0)), (10, .one (.d (.sl (List.map eA2I r3978)))), (11, .one (.d (.int .i64 n5224))), (12, .one (.d (.int .i64 r5366))), (13, .one (.ptr (441, 0) 0))]
                      [((1, 0), some (.box 27 [.d (.int .i64 r2094.G.N), .d (.sl (List.map eA2I r2094.G.Links)), .d (.sl (List.map eTNode r2094.T)), .d (.bool r2094.Fifo)])), ((2, 0), some (.box 31 (cTConf r2098))), ((440, 0), some (.row 3 1 (dat (List.map eI r5475.States)))), ((440, 1), some (.row 63 1 ((openRows cols_63 (List.map (eL eTMsg) r5475.Links)).set r5366.toNat [.own (454, 0) x5488.length]))), ((440, 2), some (.row 3 1 (dat (List.map eI (r5475.Sent.set r5366.toNat (IntKind.wrap .i64 (x5479 + 1))))))), ((441, 0), some (.box 31 [.own (440, 0) r5475.States.length, .own (440, 1) r5475.Links.length, .own (440, 2) r5475.Sent.length])), ((454, 0), some (.row 65 2 (dat (List.map eTMsg x5488))))]
                    obtain ⟨v5490, hv5491, hE5359⟩ := vB hE5359
                    have h := h.same [3, 4, 10, 11, 12, 13] [(1, 0), (2, 0), (440, 0), (440, 1), (440, 2), (441, 0), (454, 0)] 455 [(3, .one (.ptr (1, 0) 0)), (4, .one (.ptr (2, 0) 0)), (10, .one (.d (.sl (List.map eA2I r3978)))), (11, .one (.d (.int .i64 n5224))), (12, .one (.d (.int .i64 r5366))), (13, .one (.ptr (441, 0) 0))]
                      [((1, 0), some (.box 27 [.d (.int .i64 r2094.G.N), .d (.sl (List.map eA2I r2094.G.Links)), .d (.sl (List.map eTNode r2094.T)), .d (.bool r2094.Fifo)])), ((2, 0), some (.box 31 (cTConf r2098))), ((440, 0), some (.row 3 1 (dat (List.map eI r5475.States)))), ((440, 1), some (.row 63 1 ((openRows cols_63 (List.map (eL eTMsg) r5475.Links)).set r5366.toNat [.own (454, 0) x5488.length]))), ((440, 2), some (.row 3 1 (dat (List.map eI v5490)))), ((441, 0), some (.box 31 [.own (440, 0) r5475.States.length, .own (440, 1) r5475.Links.length, .own (440, 2) v5490.length])), ((454, 0), some (.row 65 2 (dat (List.map eTMsg x5488))))]
                      (by simp only [EZ, simprocAttr, ha2104, ha2105, hv2107, hb2134, hb2250, hb5227, hx5365a, hx5365b, hx5365c, hx5365d, hb5407, hx5480a, hx5480b, hx5480c, hx5480d, hx5489a, hx5489b, hx5489c, hx5489d, dat_open, ← hv5491] <;> rfl)
                    obtain ⟨x5492, hx5493a, hx5493b, hx5493c, hx5493d, hE5359⟩ := aB hE5359
                    obtain ⟨ha5494, hE5359⟩ := iT hE5359
                    refine ds 473 [] [3, 4, 10, 11, 13] [(1, 0), (2, 0), (440, 0), (440, 1), (440, 2), (441, 0), (470, 0)] h fun ac wd h => ?_
                    have h := h.fS (cols := (fun _ => .sc)) (440, 1) (470, 0) (openRows cols_63 (List.map (eL eTMsg) r5475.Links)) r5366.toNat [.own (470, 0) (x5488.length + 1)] 0 (List.map eTMsg (x5488 ++ [(TMsg.mk x5492 0)])) (sc_65 _)
                    have h := h.sm 473 [(3, .one (.ptr (1, 0) 0)), (4, .one (.ptr (2, 0) 0)), (10, .one (.d (.sl (List.map eA2I r3978)))), (11, .one (.d (.int .i64 n5224))), (13, .one (.ptr (441, 0) 0))]
                      [((1, 0), some (.box 27 [.d (.int .i64 r2094.G.N), .d (.sl (List.map eA2I r2094.G.Links)), .d (.sl (List.map eTNode r2094.T)), .d (.bool r2094.Fifo)])), ((2, 0), some (.box 31 (cTConf r2098))), ((440, 0), some (.row 3 1 (dat (List.map eI r5475.States)))), ((440, 1), some (.row 63 1 ((openRows cols_63 (List.map (eL eTMsg) r5475.Links)).set r5366.toNat [.tr (.sl 65 2 (fun _ => .sc)) (.sl (List.map eTMsg (x5488 ++ [(TMsg.mk x5492 0)])))]))), ((440, 2), some (.row 3 1 (dat (List.map eI v5490)))), ((441, 0), some (.box 31 [.own (440, 0) r5475.States.length, .own (440, 1) r5475.Links.length, .own (440, 2) v5490.length]))]
                    obtain ⟨r5497, hc5498, hE5359⟩ := oB hE5359
                    have h := h.fz [(440, 0), (440, 1), (440, 2)]
                    have hc5498k := L_knot_Edges_ok hc5498
                    refine qs 477 [factE 475 hc5498k] [3, 4, 10, 11, 14] [(1, 0), (2, 0)] h fun ac wd h => ?_
                    refine wp_seq ?_
                    refine qs 483 [] [3, 4, 10, 11, 14, 198] [(1, 0), (2, 0)] h fun ac wd h => ?_
                    obtain ⟨hb5500, hE5359⟩ := iTe hE5359
                    refine kF h ?_
                    refine wp_skip ?_
                    change Code.wp Try.prog _ _ _ _
                    refine qs 484 [] [3, 4, 10, 11, 14, 15] [(1, 0), (2, 0)] h fun ac wd h => ?_
                    obtain ⟨e5551, hE5552, hE5359⟩ := Option.bind_eq_some_iff.1 hE5359
                    refine r_meetQ (fun ac wd => () = e5551 ∧ SL ⟨wb, S, Φ, P0⟩ 215 520 [(3, .one (.ptr (1, 0) 0)), (4, .one (.ptr (2, 0) 0)), (10, .one (.d (.sl (List.map eA2I r3978)))), (11, .one (.d (.int .i64 n5224)))] [((1, 0), some (.box 27 [.d (.int .i64 r2094.G.N), .d (.sl (List.map eA2I r2094.G.Links)), .d (.sl (List.map eTNode r2094.T)), .d (.bool r2094.Fifo)])), ((2, 0), some (.box 31 (cTConf r2098)))] ac wd) ?_ ?_
                    · skip
                      refine wp_block ?_
                      refine r_while (fun nf ac wd => ∃ (n5586 : Int), L_law15_KnotHolds_l4 r5497 x5364 nf n5586 = some e5551 ∧ SL ⟨wb, S, Φ, P0⟩ 215 516 [(3, .one (.ptr (1, 0) 0)), (4, .one (.ptr (2, 0) 0)), (10, .one (.d (.sl (List.map eA2I r3978)))), (11, .one (.d (.int .i64 n5224))), (14, .one (.d (.sl (List.map eA2I r5497)))), (15, .one (.d (.int .i64 n5586)))] [((1, 0), some (.box 27 [.d (.int .i64 r2094.G.N), .d (.sl (List.map eA2I r2094.G.Links)), .d (.sl (List.map eTNode r2094.T)), .d (.bool r2094.Fifo)])), ((2, 0), some (.box 31 (cTConf r2098)))] ac wd) (((r5497.length : Int) - 0).toNat + 1) ⟨0, hE5552, h.z⟩ (fun nf ac wd hJ => ?_)
                      obtain ⟨n5586, hL5587, h⟩ := hJ
                      cases nf with
                      | zero => rw [L_law15_KnotHolds_l4] at hL5587; cases hL5587
                      | succ nf =>
                        rw [L_law15_KnotHolds_l4] at hL5587
                        refine wp_seq ?_
                        refine qs 520 [] [3, 4, 10, 11, 14, 15, 202] [(1, 0), (2, 0)] h fun ac wd h => ?_
                        rcases i2 hL5587 with ⟨hb5589, hL5587⟩ | ⟨hb5589, hL5587⟩
                        ·
                          refine kT h ?_
                          refine wp_skip ?_
                          change Code.wp Try.prog _ _ _ _
                          refine wp_seq ?_
                          refine wp_block ?_
                          obtain ⟨x5604, hx5605a, hx5605b, hx5605c, hx5605d, hL5587⟩ := aB hL5587
                          have hz5606 := eq_A2I_vv x5604 x5364
                          refine ds 529 [] [3, 4, 10, 11, 14, 15, 213] [(1, 0), (2, 0)] h fun ac wd h => ?_
                          obtain ⟨hb5607, hL5587⟩ := iF hL5587
                          refine kF h ?_
                          refine wp_skip ?_
                          change Code.wp Try.prog _ _ _ _
                          refine qe [] [3, 4, 10, 11, 14, 15] [(1, 0), (2, 0)] h fun ac wd h => ?_
                          exact ⟨nf, Nat.lt_succ_self nf, (IntKind.wrap .i64 (n5586 + 1)), hL5587, h.z⟩
                        ·
                          refine kF h ?_
                          refine wp_exit ?_
                          injection hL5587 with hL5587; subst hL5587
                          exact ⟨rfl, h.z⟩
                    · skip
                      rintro ac wd ⟨rfl, h⟩
                      (try dsimp only at hE5359)
                      injection hE5359 with hE5359; subst hE5359
                      exact ⟨rfl, h.z⟩
              · skip
                rintro ac wd ⟨rfl, h⟩
                (try dsimp only at hL5225)
                refine qe [] [3, 4, 10, 11] [(1, 0), (2, 0)] h fun ac wd h => ?_
                exact ⟨nf, Nat.lt_succ_self nf, (IntKind.wrap .i64 (n5224 + 1)), hL5225, h.z⟩
            ·
              refine kF h ?_
              refine wp_exit ?_
              injection hL5225 with hL5225; subst hL5225
              exact ⟨rfl, h.z⟩
        · skip
          rintro ac wd ⟨rfl, h⟩
          (try dsimp only at hD)
          obtain ⟨r5611, hc5612, hD⟩ := oB hD
          have hc5612k := L_law15_fixed_ok hc5612
          refine qs 410 [factE 408 hc5612k] [6] [] h fun ac wd h => ?_
          refine wp_ret ?_
          injection hD with hD
          subst hD
          exact rE h [.tmp 6]
  ·
    refine kT h ?_
    obtain ⟨r5619, hc5620, hD⟩ := oB hD
    obtain ⟨hb5621, hD⟩ := iFb hD
    obtain ⟨r5624, hc5625, hD⟩ := oB hD
    have hc5620k := L_plain_Right_ok hc5620
    have hc5625k := L_law15_fixed_ok hc5625
    refine qsg 30 [factE 24 hc5620k, factE 27 hc5625k] [none, none, none, none, none, some (some 35, true), none, none] [6] [] h fun ac wd h => ?_
    refine wp_ret ?_
    injection hD with hD
    subst hD
    exact rE h [.tmp 6]

end Go.Proofs.Ytgkjgpbinblmdaa
