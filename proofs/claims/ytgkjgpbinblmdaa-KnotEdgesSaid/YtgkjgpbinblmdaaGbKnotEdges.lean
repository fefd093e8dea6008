/- Functions as typed ones, and that the program's functions answer as these do. No condition. -/
import Derived.Test.YtgkjgpbinblmdaaGb7
import Derived.Test.YtgkjgpbinblmdaaGdKnotEdges
set_option linter.unusedSimpArgs false
set_option linter.unusedVariables false
set_option maxRecDepth 20000
set_option maxHeartbeats 4000000
namespace Go.Proofs.Ytgkjgpbinblmdaa
open Go.RowKit

theorem L_law15_KnotEdges_ok {a0 : TApp} {a1 : TConf} {r : Bool} (hD : L_law15_KnotEdges a0 a1 = some r) :
    CallH Try.prog 5 [.agg (cTApp a0), .agg (cTConf a1)] []
      (.one (.d (.bool r))) [] := by
  unfold L_law15_KnotEdges at hD
  refine rc Try.func5 rfl Try.ntmps5 fun S Φ P0 wb ac h => ?_
  refine qs 4 [] [2, 3] [(1, 0), (2, 0)] h fun ac wd h => ?_
  obtain ⟨r1027, hc1028, hD⟩ := oB hD
  have hc1028k := L_law05_Cut_ok hc1028
  refine qs 7 [factE 5 hc1028k] [2, 3] [(1, 0), (2, 0)] h fun ac wd h => ?_
  obtain ⟨r1031, hc1032, hD⟩ := oB hD
  have hc1032k := L_law05_CutConf_ok hc1032
  refine qs 10 [factE 8 hc1032k] [2, 3] [(1, 0), (2, 0)] h fun ac wd h => ?_
  obtain ⟨r1035, hc1036, hD⟩ := oB hD
  have hc1036k := L_law05_App_ok hc1036
  refine qs 14 [factE 11 hc1036k] [2, 3, 5] [(1, 0), (2, 0), (12, 0)] h fun ac wd h => ?_
  refine wp_seq ?_
  obtain ⟨r1041, hc1042, hD⟩ := oB hD
  obtain ⟨r1043, hc1044, hD⟩ := oB hD
  have hc1042k := L_law05_Ref_ok hc1042
  have hc1044k := L_ref05_Right_ok hc1044
  refine ds 19 [factE 16 hc1042k, factE 17 hc1044k] [2, 3, 5, 21] [(1, 0), (2, 0), (12, 0)] h fun ac wd h => ?_
  rcases i2b hD with ⟨hb1059, hD⟩ | ⟨hb1059, hD⟩
  ·
    refine kF h ?_
    refine wp_skip ?_
    change Code.wp Try.prog _ _ _ _
    obtain ⟨r1177, hc1178, hD⟩ := oB hD
    have hc1178k := L_knot_Edges_ok hc1178
    refine qs 24 [factE 21 hc1178k] [2, 3, 5, 6, 7] [(1, 0), (2, 0), (12, 0)] h fun ac wd h => ?_
    refine wp_seq ?_
    refine qs 25 [] [2, 3, 5, 6, 7, 8] [(1, 0), (2, 0), (12, 0)] h fun ac wd h => ?_
    obtain ⟨e1839, hE1840, hD⟩ := Option.bind_eq_some_iff.1 hD
    refine r_meet (fun ac wd => () = e1839 ∧ SL ⟨wb, S, Φ, P0⟩ 128 165 [(2, .one (.ptr (1, 0) 0)), (3, .one (.ptr (2, 0) 0)), (5, .one (.ptr (12, 0) 0)), (6, .one (.d (.sl (List.map eA2I r1177)))), (7, .one (.d (.int .i64 0)))] [((1, 0), some (.box 27 [.d (.int .i64 r1027.G.N), .d (.sl (List.map eA2I r1027.G.Links)), .d (.sl (List.map eTNode r1027.T)), .d (.bool r1027.Fifo)])), ((2, 0), some (.box 31 [.d (.sl (List.map eI r1031.States)), .d (.sl (List.map (eL eTMsg) r1031.Links)), .d (.sl (List.map eI r1031.Sent))])), ((12, 0), some (.box 37 [.d (.int .i64 r1035.G.N), .d (.sl (List.map eA2I r1035.G.Links)), .d (.sl (List.map eTNode r1035.T)), .d (.bool r1035.Fifo)]))] ac wd) ?_ ?_
    · skip
      refine wp_block ?_
      refine r_while (fun nf ac wd => ∃ (n1936 : Int), L_law15_KnotEdges_l1 r1035 r1041 r1177 nf n1936 = some e1839 ∧ SL ⟨wb, S, Φ, P0⟩ 128 161 [(2, .one (.ptr (1, 0) 0)), (3, .one (.ptr (2, 0) 0)), (5, .one (.ptr (12, 0) 0)), (6, .one (.d (.sl (List.map eA2I r1177)))), (7, .one (.d (.int .i64 0))), (8, .one (.d (.int .i64 n1936)))] [((1, 0), some (.box 27 [.d (.int .i64 r1027.G.N), .d (.sl (List.map eA2I r1027.G.Links)), .d (.sl (List.map eTNode r1027.T)), .d (.bool r1027.Fifo)])), ((2, 0), some (.box 31 [.d (.sl (List.map eI r1031.States)), .d (.sl (List.map (eL eTMsg) r1031.Links)), .d (.sl (List.map eI r1031.Sent))])), ((12, 0), some (.box 37 [.d (.int .i64 r1035.G.N), .d (.sl (List.map eA2I r1035.G.Links)), .d (.sl (List.map eTNode r1035.T)), .d (.bool r1035.Fifo)]))] ac wd) (((r1177.length : Int) - 0).toNat + 1) ⟨0, hE1840, h.z⟩ (fun nf ac wd hJ => ?_)
      obtain ⟨n1936, hL1937, h⟩ := hJ
      cases nf with
      | zero => rw [L_law15_KnotEdges_l1] at hL1937; cases hL1937
      | succ nf =>
        rw [L_law15_KnotEdges_l1] at hL1937
        refine wp_seq ?_
        refine qs 165 [] [2, 3, 5, 6, 7, 8, 35] [(1, 0), (2, 0), (12, 0)] h fun ac wd h => ?_
        rcases i2 hL1937 with ⟨hb1939, hL1937⟩ | ⟨hb1939, hL1937⟩
        ·
          refine kT h ?_
          refine wp_skip ?_
          change Code.wp Try.prog _ _ _ _
          refine wp_seq ?_
          refine wp_block ?_
          obtain ⟨e2007, hE2008, hL1937⟩ := Option.bind_eq_some_iff.1 hL1937
          refine r_seqJ (fun ac wd => ∃ (b2006 : Bool), b2006 = e2007 ∧ SL ⟨wb, S, Φ, P0⟩ 128 226 [(2, .one (.ptr (1, 0) 0)), (3, .one (.ptr (2, 0) 0)), (5, .one (.ptr (12, 0) 0)), (6, .one (.d (.sl (List.map eA2I r1177)))), (7, .one (.d (.int .i64 0))), (8, .one (.d (.int .i64 n1936))), (98, .one (.d (.bool b2006)))] [((1, 0), some (.box 27 [.d (.int .i64 r1027.G.N), .d (.sl (List.map eA2I r1027.G.Links)), .d (.sl (List.map eTNode r1027.T)), .d (.bool r1027.Fifo)])), ((2, 0), some (.box 31 [.d (.sl (List.map eI r1031.States)), .d (.sl (List.map (eL eTMsg) r1031.Links)), .d (.sl (List.map eI r1031.Sent))])), ((12, 0), some (.box 37 [.d (.int .i64 r1035.G.N), .d (.sl (List.map eA2I r1035.G.Links)), .d (.sl (List.map eTNode r1035.T)), .d (.bool r1035.Fifo)]))] ac wd) ?_ ?_
          · skip
            rcases i2 hE2008 with ⟨hb2009, hE2008⟩ | ⟨hb2009, hE2008⟩
            ·
              obtain ⟨x2019, hx2020a, hx2020b, hx2020c, hx2020d, hE2008⟩ := aB hE2008
              obtain ⟨x2021, hx2022a, hx2022b, hx2022c, hx2022d, hE2008⟩ := aB hE2008
              rcases i2 hE2008 with ⟨hb2023, hE2008⟩ | ⟨hb2023, hE2008⟩
              ·
                refine deg [] [none, none, none, some (some 40, true), some (some 40, true), some (some 40, true), some (some 40, true), some (some 40, true), some (some 40, true), some (some 40, true), some (some 40, true), some (some 40, true), some (some 40, true), some (some 40, true), some (some 40, true), some (some 40, true), some (some 53, false), some (some 53, false), some (some 53, false), some (some 53, false), some (some 53, false), some (some 53, false), some (some 53, false), some (some 53, false), some (some 53, false), some (some 53, false), some (some 53, false), some (some 53, false), some (some 53, false), some (some 66, true), some (some 66, true), some (some 66, true), some (some 66, true), some (some 66, true), some (some 66, true), some (some 66, true), some (some 66, true), some (some 66, true), some (some 66, true), some (some 66, true), some (some 66, true), some (some 53, false), some (some 40, true), none, none, some (some 82, false), some (some 82, false), some (some 82, false), some (some 82, false), some (some 82, false), some (some 82, false), some (some 82, false), some (some 82, false), some (some 82, false), some (some 82, false), some (some 82, false), some (some 82, false), some (some 82, false), some (some 82, false), some (some 82, false), none] [2, 3, 5, 6, 7, 8, 98] [(1, 0), (2, 0), (12, 0)] h fun ac wd h => ?_
                injection hE2008 with hE2008; subst hE2008
                exact ⟨true, rfl, h.z⟩
              ·
                rcases i2e hE2008 with ⟨hb2026, hE2008⟩ | ⟨hb2026, hE2008⟩
                ·
                  rcases i2 hE2008 with ⟨hb2030, hE2008⟩ | ⟨hb2030, hE2008⟩
                  ·
                    refine deg [] [none, none, none, some (some 40, true), some (some 40, true), some (some 40, true), some (some 40, true), some (some 40, true), some (some 40, true), some (some 40, true), some (some 40, true), some (some 40, true), some (some 40, true), some (some 40, true), some (some 40, true), some (some 40, true), some (some 53, false), some (some 53, false), some (some 53, false), some (some 53, false), some (some 53, false), some (some 53, false), some (some 53, false), some (some 53, false), some (some 53, false), some (some 53, false), some (some 53, false), some (some 53, false), some (some 53, false), some (some 66, true), some (some 66, true), some (some 66, true), some (some 66, true), some (some 66, true), some (some 66, true), some (some 66, true), some (some 66, true), some (some 66, true), some (some 66, true), some (some 66, true), some (some 66, true), some (some 53, false), some (some 40, true), none, none, some (some 82, false), some (some 82, false), some (some 82, false), some (some 82, false), some (some 82, false), some (some 82, false), some (some 82, false), some (some 82, false), some (some 82, false), some (some 82, false), some (some 82, false), some (some 82, false), some (some 82, false), some (some 82, false), some (some 82, false), none] [2, 3, 5, 6, 7, 8, 98] [(1, 0), (2, 0), (12, 0)] h fun ac wd h => ?_
                    injection hE2008 with hE2008; subst hE2008
                    exact ⟨true, rfl, h.z⟩
                  ·
                    obtain ⟨r2033, hc2034, hE2008⟩ := oB hE2008
                    have hc1042k := L_law05_Ref_ok hc1042
                    have hc2034k := L_ref15_Edge_ok hc2034
                    refine deg [factE 212 hc1042k, factE 223 hc2034k] [none, none, none, some (some 40, true), some (some 40, true), some (some 40, true), some (some 40, true), some (some 40, true), some (some 40, true), some (some 40, true), some (some 40, true), some (some 40, true), some (some 40, true), some (some 40, true), some (some 40, true), some (some 40, true), some (some 53, false), some (some 53, false), some (some 53, false), some (some 53, false), some (some 53, false), some (some 53, false), some (some 53, false), some (some 53, false), some (some 53, false), some (some 53, false), some (some 53, false), some (some 53, false), some (some 53, false), some (some 66, true), some (some 66, true), some (some 66, true), some (some 66, true), some (some 66, true), some (some 66, true), some (some 66, true), some (some 66, true), some (some 66, true), some (some 66, true), some (some 66, true), some (some 66, true), some (some 53, false), some (some 40, true), none, none, some (some 82, false), some (some 82, false), some (some 82, false), some (some 82, false), some (some 82, false), some (some 82, false), some (some 82, false), some (some 82, false), some (some 82, false), some (some 82, false), some (some 82, false), some (some 82, false), some (some 82, false), some (some 82, false), some (some 82, false), none] [2, 3, 5, 6, 7, 8, 98] [(1, 0), (2, 0), (12, 0)] h fun ac wd h => ?_
                    injection hE2008 with hE2008; subst hE2008
                    exact ⟨!(r2033), rfl, h.z⟩
                ·
                  obtain ⟨r2035, hc2036, hE2008⟩ := oB hE2008
                  have hc1042k := L_law05_Ref_ok hc1042
                  have hc2036k := L_ref15_Edge_ok hc2036
                  refine deg [factE 212 hc1042k, factE 223 hc2036k] [none, none, none, some (some 40, true), some (some 40, true), some (some 40, true), some (some 40, true), some (some 40, true), some (some 40, true), some (some 40, true), some (some 40, true), some (some 40, true), some (some 40, true), some (some 40, true), some (some 40, true), some (some 40, true), some (some 53, false), some (some 53, false), some (some 53, false), some (some 53, false), some (some 53, false), some (some 53, false), some (some 53, false), some (some 53, false), some (some 53, false), some (some 53, false), some (some 53, false), some (some 53, false), some (some 53, false), some (some 66, true), some (some 66, true), some (some 66, true), some (some 66, true), some (some 66, true), some (some 66, true), some (some 66, true), some (some 66, true), some (some 66, true), some (some 66, true), some (some 66, true), some (some 66, true), some (some 53, false), some (some 40, true), none, none, some (some 82, false), some (some 82, false), some (some 82, false), some (some 82, false), some (some 82, false), some (some 82, false), some (some 82, false), some (some 82, false), some (some 82, false), some (some 82, false), some (some 82, false), some (some 82, false), some (some 82, false), some (some 82, false), some (some 82, false), none] [2, 3, 5, 6, 7, 8, 98] [(1, 0), (2, 0), (12, 0)] h fun ac wd h => ?_
                  injection hE2008 with hE2008; subst hE2008
                  exact ⟨!(r2035), rfl, h.z⟩
            ·
              obtain ⟨x2037, hx2038a, hx2038b, hx2038c, hx2038d, hE2008⟩ := aB hE2008
              obtain ⟨r2039, hc2040, hE2008⟩ := oB hE2008
              have hc1042k := L_law05_Ref_ok hc1042
              have hc2040k := L_ref15_Edge_ok hc2040
              refine deg [factE 212 hc1042k, factE 223 hc2040k] [none, none, none, some (some 40, true), some (some 40, true), some (some 40, true), some (some 40, true), some (some 40, true), some (some 40, true), some (some 40, true), some (some 40, true), some (some 40, true), some (some 40, true), some (some 40, true), some (some 40, true), some (some 40, true), some (some 53, false), some (some 53, false), some (some 53, false), some (some 53, false), some (some 53, false), some (some 53, false), some (some 53, false), some (some 53, false), some (some 53, false), some (some 53, false), some (some 53, false), some (some 53, false), some (some 53, false), some (some 66, true), some (some 66, true), some (some 66, true), some (some 66, true), some (some 66, true), some (some 66, true), some (some 66, true), some (some 66, true), some (some 66, true), some (some 66, true), some (some 66, true), some (some 66, true), some (some 53, false), some (some 40, true), none, none, some (some 82, false), some (some 82, false), some (some 82, false), some (some 82, false), some (some 82, false), some (some 82, false), some (some 82, false), some (some 82, false), some (some 82, false), some (some 82, false), some (some 82, false), some (some 82, false), some (some 82, false), some (some 82, false), some (some 82, false), none] [2, 3, 5, 6, 7, 8, 98] [(1, 0), (2, 0), (12, 0)] h fun ac wd h => ?_
              injection hE2008 with hE2008; subst hE2008
              exact ⟨!(r2039), rfl, h.z⟩
          · skip
            rintro ac wd ⟨b2006, rfl, h⟩
            (try dsimp only at hL1937)
            obtain ⟨hb2041, hL1937⟩ := iFb hL1937
            refine kF h ?_
            refine wp_skip ?_
            change Code.wp Try.prog _ _ _ _
            refine qe [] [2, 3, 5, 6, 7, 8] [(1, 0), (2, 0), (12, 0)] h fun ac wd h => ?_
            exact ⟨nf, Nat.lt_succ_self nf, (IntKind.wrap .i64 (n1936 + 1)), hL1937, h.z⟩
        ·
          refine kF h ?_
          refine wp_exit ?_
          injection hL1937 with hL1937; subst hL1937
          exact ⟨rfl, h.z⟩
    · skip
      rintro ac wd ⟨rfl, h⟩
      (try dsimp only at hD)
      refine wp_seq ?_
      refine qs 166 [] [2, 3, 5, 6, 7, 9] [(1, 0), (2, 0), (12, 0)] h fun ac wd h => ?_
      obtain ⟨e2358, hE2359, hD⟩ := Option.bind_eq_some_iff.1 hD
      refine r_meet (fun ac wd => ∃ (n2357 : Int), n2357 = e2358 ∧ SL ⟨wb, S, Φ, P0⟩ 128 267 [(6, .one (.d (.sl (List.map eA2I r1177)))), (7, .one (.d (.int .i64 n2357)))] [] ac wd) ?_ ?_
      · skip
        refine wp_block ?_
        refine r_while (fun nf ac wd => ∃ (n2564 : Int) (n2565 : Int), L_law15_KnotEdges_l2 r1027 r1035 r1041 nf n2564 n2565 = some e2358 ∧ SL ⟨wb, S, Φ, P0⟩ 128 262 [(2, .one (.ptr (1, 0) 0)), (3, .one (.ptr (2, 0) 0)), (5, .one (.ptr (12, 0) 0)), (6, .one (.d (.sl (List.map eA2I r1177)))), (7, .one (.d (.int .i64 n2564))), (9, .one (.d (.int .i64 n2565)))] [((1, 0), some (.box 27 [.d (.int .i64 r1027.G.N), .d (.sl (List.map eA2I r1027.G.Links)), .d (.sl (List.map eTNode r1027.T)), .d (.bool r1027.Fifo)])), ((2, 0), some (.box 31 [.d (.sl (List.map eI r1031.States)), .d (.sl (List.map (eL eTMsg) r1031.Links)), .d (.sl (List.map eI r1031.Sent))])), ((12, 0), some (.box 37 [.d (.int .i64 r1035.G.N), .d (.sl (List.map eA2I r1035.G.Links)), .d (.sl (List.map eTNode r1035.T)), .d (.bool r1035.Fifo)]))] ac wd) ((r1027.G.N - 0).toNat + 1) ⟨0, 0, hE2359, h.z⟩ (fun nf ac wd hJ => ?_)
        obtain ⟨n2564, n2565, hL2566, h⟩ := hJ
        cases nf with
        | zero => rw [L_law15_KnotEdges_l2] at hL2566; cases hL2566
        | succ nf =>
          rw [L_law15_KnotEdges_l2] at hL2566
          refine wp_seq ?_
          refine qs 267 [] [2, 3, 5, 6, 7, 9, 103] [(1, 0), (2, 0), (12, 0)] h fun ac wd h => ?_
          rcases i2 hL2566 with ⟨hb2568, hL2566⟩ | ⟨hb2568, hL2566⟩
          ·
            refine kT h ?_
            refine wp_skip ?_
            change Code.wp Try.prog _ _ _ _
            obtain ⟨e2657, hE2658, hL2566⟩ := Option.bind_eq_some_iff.1 hL2566
            refine r_seqJ (fun ac wd => ∃ (n2656 : Int), n2656 = e2657 ∧ SL ⟨wb, S, Φ, P0⟩ 128 307 [(2, .one (.ptr (1, 0) 0)), (3, .one (.ptr (2, 0) 0)), (5, .one (.ptr (12, 0) 0)), (6, .one (.d (.sl (List.map eA2I r1177)))), (7, .one (.d (.int .i64 n2656))), (9, .one (.d (.int .i64 n2565)))] [((1, 0), some (.box 27 [.d (.int .i64 r1027.G.N), .d (.sl (List.map eA2I r1027.G.Links)), .d (.sl (List.map eTNode r1027.T)), .d (.bool r1027.Fifo)])), ((2, 0), some (.box 31 [.d (.sl (List.map eI r1031.States)), .d (.sl (List.map (eL eTMsg) r1031.Links)), .d (.sl (List.map eI r1031.Sent))])), ((12, 0), some (.box 37 [.d (.int .i64 r1035.G.N), .d (.sl (List.map eA2I r1035.G.Links)), .d (.sl (List.map eTNode r1035.T)), .d (.bool r1035.Fifo)]))] ac wd) ?_ ?_
            · skip
              refine wp_block ?_
              refine qs 268 [] [2, 3, 5, 6, 7, 9, 10] [(1, 0), (2, 0), (12, 0)] h fun ac wd h => ?_
              obtain ⟨e2709, hE2710, hE2658⟩ := Option.bind_eq_some_iff.1 hE2658
              refine r_meetQ (fun ac wd => ∃ (n2708 : Int), n2708 = e2709 ∧ SL ⟨wb, S, Φ, P0⟩ 128 307 [(2, .one (.ptr (1, 0) 0)), (3, .one (.ptr (2, 0) 0)), (5, .one (.ptr (12, 0) 0)), (6, .one (.d (.sl (List.map eA2I r1177)))), (7, .one (.d (.int .i64 n2708))), (9, .one (.d (.int .i64 n2565)))] [((1, 0), some (.box 27 [.d (.int .i64 r1027.G.N), .d (.sl (List.map eA2I r1027.G.Links)), .d (.sl (List.map eTNode r1027.T)), .d (.bool r1027.Fifo)])), ((2, 0), some (.box 31 [.d (.sl (List.map eI r1031.States)), .d (.sl (List.map (eL eTMsg) r1031.Links)), .d (.sl (List.map eI r1031.Sent))])), ((12, 0), some (.box 37 [.d (.int .i64 r1035.G.N), .d (.sl (List.map eA2I r1035.G.Links)), .d (.sl (List.map eTNode r1035.T)), .d (.bool r1035.Fifo)]))] ac wd) ?_ ?_
              · skip
                refine wp_block ?_
                refine r_while (fun nf ac wd => ∃ (n2743 : Int) (n2744 : Int), L_law15_KnotEdges_l3 n2565 r1027 r1035 r1041 nf n2743 n2744 = some e2709 ∧ SL ⟨wb, S, Φ, P0⟩ 128 302 [(2, .one (.ptr (1, 0) 0)), (3, .one (.ptr (2, 0) 0)), (5, .one (.ptr (12, 0) 0)), (6, .one (.d (.sl (List.map eA2I r1177)))), (7, .one (.d (.int .i64 n2743))), (9, .one (.d (.int .i64 n2565))), (10, .one (.d (.int .i64 n2744)))] [((1, 0), some (.box 27 [.d (.int .i64 r1027.G.N), .d (.sl (List.map eA2I r1027.G.Links)), .d (.sl (List.map eTNode r1027.T)), .d (.bool r1027.Fifo)])), ((2, 0), some (.box 31 [.d (.sl (List.map eI r1031.States)), .d (.sl (List.map (eL eTMsg) r1031.Links)), .d (.sl (List.map eI r1031.Sent))])), ((12, 0), some (.box 37 [.d (.int .i64 r1035.G.N), .d (.sl (List.map eA2I r1035.G.Links)), .d (.sl (List.map eTNode r1035.T)), .d (.bool r1035.Fifo)]))] ac wd) ((r1027.G.N - 0).toNat + 1) ⟨n2564, 0, hE2710, h.z⟩ (fun nf ac wd hJ => ?_)
                obtain ⟨n2743, n2744, hL2745, h⟩ := hJ
                cases nf with
                | zero => rw [L_law15_KnotEdges_l3] at hL2745; cases hL2745
                | succ nf =>
                  rw [L_law15_KnotEdges_l3] at hL2745
                  refine wp_seq ?_
                  refine qs 307 [] [2, 3, 5, 6, 7, 9, 10, 110] [(1, 0), (2, 0), (12, 0)] h fun ac wd h => ?_
                  rcases i2 hL2745 with ⟨hb2747, hL2745⟩ | ⟨hb2747, hL2745⟩
                  ·
                    refine kT h ?_
                    refine wp_skip ?_
                    change Code.wp Try.prog _ _ _ _
                    obtain ⟨e2757, hE2758, hL2745⟩ := Option.bind_eq_some_iff.1 hL2745
                    refine r_seqJ (fun ac wd => ∃ (n2756 : Int), n2756 = e2757 ∧ SL ⟨wb, S, Φ, P0⟩ 128 316 [(2, .one (.ptr (1, 0) 0)), (3, .one (.ptr (2, 0) 0)), (5, .one (.ptr (12, 0) 0)), (6, .one (.d (.sl (List.map eA2I r1177)))), (7, .one (.d (.int .i64 n2756))), (9, .one (.d (.int .i64 n2565))), (10, .one (.d (.int .i64 n2744)))] [((1, 0), some (.box 27 [.d (.int .i64 r1027.G.N), .d (.sl (List.map eA2I r1027.G.Links)), .d (.sl (List.map eTNode r1027.T)), .d (.bool r1027.Fifo)])), ((2, 0), some (.box 31 [.d (.sl (List.map eI r1031.States)), .d (.sl (List.map (eL eTMsg) r1031.Links)), .d (.sl (List.map eI r1031.Sent))])), ((12, 0), some (.box 37 [.d (.int .i64 r1035.G.N), .d (.sl (List.map eA2I r1035.G.Links)), .d (.sl (List.map eTNode r1035.T)), .d (.bool r1035.Fifo)]))] ac wd) ?_ ?_
                    · skip
                      refine wp_block ?_
                      obtain ⟨r2761, hc2762, hE2758⟩ := oB hE2758
                      have hc1042k := L_law05_Ref_ok hc1042
                      have hc2762k := L_ref15_Edge_ok hc2762
                      refine ds 313 [factE 309 hc1042k, factE 312 hc2762k] [2, 3, 5, 6, 7, 9, 10, 118] [(1, 0), (2, 0), (12, 0)] h fun ac wd h => ?_
                      rcases i2b hE2758 with ⟨hb2763, hE2758⟩ | ⟨hb2763, hE2758⟩
                      ·
                        refine kT h ?_
                        refine qe [] [2, 3, 5, 6, 7, 9, 10] [(1, 0), (2, 0), (12, 0)] h fun ac wd h => ?_
                        injection hE2758 with hE2758; subst hE2758
                        exact ⟨(IntKind.wrap .i64 (n2743 + 1)), rfl, h.z⟩
                      ·
                        refine kF h ?_
                        refine wp_skip ?_
                        injection hE2758 with hE2758; subst hE2758
                        exact ⟨n2743, rfl, h.z⟩
                    · skip
                      rintro ac wd ⟨n2756, rfl, h⟩
                      (try dsimp only at hL2745)
                      refine qe [] [2, 3, 5, 6, 7, 9, 10] [(1, 0), (2, 0), (12, 0)] h fun ac wd h => ?_
                      exact ⟨nf, Nat.lt_succ_self nf, n2756, (IntKind.wrap .i64 (n2744 + 1)), hL2745, h.z⟩
                  ·
                    refine kF h ?_
                    refine wp_exit ?_
                    injection hL2745 with hL2745; subst hL2745
                    exact ⟨n2743, rfl, h.z⟩
              · skip
                rintro ac wd ⟨n2708, rfl, h⟩
                (try dsimp only at hE2658)
                injection hE2658 with hE2658; subst hE2658
                exact ⟨n2708, rfl, h.z⟩
            · skip
              rintro ac wd ⟨n2656, rfl, h⟩
              (try dsimp only at hL2566)
              refine qe [] [2, 3, 5, 6, 7, 9] [(1, 0), (2, 0), (12, 0)] h fun ac wd h => ?_
              exact ⟨nf, Nat.lt_succ_self nf, n2656, (IntKind.wrap .i64 (n2565 + 1)), hL2566, h.z⟩
          ·
            refine kF h ?_
            refine wp_exit ?_
            injection hL2566 with hL2566; subst hL2566
            exact ⟨n2564, rfl, h.z⟩
      · skip
        rintro ac wd ⟨n2357, rfl, h⟩
        (try dsimp only at hD)
        obtain ⟨hb2767, hD⟩ := iTe hD
        obtain ⟨r2768, hc2769, hD⟩ := oB hD
        have hc2769k := L_law15_fixed_ok hc2769
        refine qsg 275 [factE 272 hc2769k] [none, none, none, none, none, some (some 125, true), none, none] [4] [] h fun ac wd h => ?_
        refine wp_ret ?_
        injection hD with hD
        subst hD
        exact rE h [.tmp 4]
  ·
    refine kT h ?_
    obtain ⟨r2775, hc2776, hD⟩ := oB hD
    obtain ⟨hb2777, hD⟩ := iFb hD
    obtain ⟨r2780, hc2781, hD⟩ := oB hD
    have hc2776k := L_plain_Right_ok hc2776
    have hc2781k := L_law15_fixed_ok hc2781
    refine qsg 27 [factE 21 hc2776k, factE 24 hc2781k] [none, none, none, none, none, some (some 26, true), none, none] [4] [] h fun ac wd h => ?_
    refine wp_ret ?_
    injection hD with hD
    subst hD
    exact rE h [.tmp 4]

end Go.Proofs.Ytgkjgpbinblmdaa
