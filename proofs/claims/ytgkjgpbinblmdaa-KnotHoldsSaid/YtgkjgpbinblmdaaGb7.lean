/- Functions as typed ones, and that the program's functions answer as these do. No condition. -/
import Derived.Test.YtgkjgpbinblmdaaGb6
import Derived.Test.YtgkjgpbinblmdaaGd
set_option linter.unusedSimpArgs false
set_option linter.unusedVariables false
set_option maxRecDepth 20000
set_option maxHeartbeats 4000000
namespace Go.Proofs.Ytgkjgpbinblmdaa
open Go.RowKit

theorem L_ref15_Edge_ok {a0 : TApp} {a1 : TConf} {a2 : Int} {a3 : Int} {r : Bool} (hD : L_ref15_Edge a0 a1 a2 a3 = some r) :
    CallH Try.prog 34 [.agg (cTApp a0), .agg (cTConf a1), .one (.d (.int .i64 a2)), .one (.d (.int .i64 a3))] []
      (.one (.d (.bool r))) [] := by
  unfold L_ref15_Edge at hD
  refine rc Try.func34 rfl Try.ntmps34 fun S Φ P0 wb ac h => ?_
  refine qs 4 [] [2, 3, 4, 5] [(1, 0), (2, 0)] h fun ac wd h => ?_
  refine wp_seq ?_
  obtain ⟨e44, hE45, hD⟩ := Option.bind_eq_some_iff.1 hD
  refine r_seqJ (fun ac wd => ∃ (b43 : Bool), b43 = e44 ∧ SL ⟨wb, S, Φ, P0⟩ 50 28 [(2, .one (.d (.int .i64 a2))), (3, .one (.d (.int .i64 a3))), (4, .one (.ptr (1, 0) 0)), (5, .one (.ptr (2, 0) 0)), (33, .one (.d (.bool b43)))] [((1, 0), some (.box 37 (cTApp a0))), ((2, 0), some (.box 39 (cTConf a1)))] ac wd) ?_ ?_
  · skip
    rcases i2 hE45 with ⟨hb46, hE45⟩ | ⟨hb46, hE45⟩
    ·
      refine deg [] [none, none, none, some (some 12, false), some (some 12, false), some (some 12, false), some (some 12, false), some (some 12, false), none, none, some (some 19, false), some (some 19, false), some (some 19, false), some (some 19, false), some (some 19, false), some (some 19, false), some (some 19, false), some (some 19, false), some (some 19, false), some (some 19, false), some (some 19, false), some (some 19, false), some (some 19, false), none] [2, 3, 4, 5, 33] [(1, 0), (2, 0)] h fun ac wd h => ?_
      injection hE45 with hE45; subst hE45
      exact ⟨true, rfl, h.z⟩
    ·
      rcases i2 hE45 with ⟨hb47, hE45⟩ | ⟨hb47, hE45⟩
      ·
        refine deg [] [none, none, none, some (some 12, false), some (some 12, false), some (some 12, false), some (some 12, false), some (some 12, false), none, none, some (some 19, false), some (some 19, false), some (some 19, false), some (some 19, false), some (some 19, false), some (some 19, false), some (some 19, false), some (some 19, false), some (some 19, false), some (some 19, false), some (some 19, false), some (some 19, false), some (some 19, false), none] [2, 3, 4, 5, 33] [(1, 0), (2, 0)] h fun ac wd h => ?_
        injection hE45 with hE45; subst hE45
        exact ⟨true, rfl, h.z⟩
      ·
        obtain ⟨x48, hx49a, hx49b, hx49c, hx49d, hE45⟩ := aB hE45
        obtain ⟨r50, hc51, hE45⟩ := oB hE45
        obtain ⟨r52, hc53, hE45⟩ := oB hE45
        have hc51k := L_ref04_At_ok hc51
        have hc53k := L_ref04_In_ok hc53
        refine deg [factE 22 hc51k, factE 25 hc53k] [none, none, none, some (some 12, false), some (some 12, false), some (some 12, false), some (some 12, false), some (some 12, false), none, none, some (some 19, false), some (some 19, false), some (some 19, false), some (some 19, false), some (some 19, false), some (some 19, false), some (some 19, false), some (some 19, false), some (some 19, false), some (some 19, false), some (some 19, false), some (some 19, false), some (some 19, false), none] [2, 3, 4, 5, 33] [(1, 0), (2, 0)] h fun ac wd h => ?_
        injection hE45 with hE45; subst hE45
        exact ⟨!(r52), rfl, h.z⟩
  · skip
    rintro ac wd ⟨b43, rfl, h⟩
    (try dsimp only at hD)
    rcases i2b hD with ⟨hb55, hD⟩ | ⟨hb55, hD⟩
    ·
      refine kT h ?_
      refine qs 29 [] [8] [] h fun ac wd h => ?_
      refine wp_ret ?_
      injection hD with hD
      subst hD
      exact rE h [.tmp 8]
    ·
      refine kF h ?_
      refine wp_skip ?_
      change Code.wp Try.prog _ _ _ _
      obtain ⟨r58, hc59, hD⟩ := oB hD
      have hc59k := L_ref03_Find_ok hc59
      refine qs 34 [factE 32 hc59k] [5, 9] [(2, 0)] h fun ac wd h => ?_
      obtain ⟨e64, hE65, hD⟩ := Option.bind_eq_some_iff.1 hD
      refine r_seqJ (fun ac wd => ∃ (b63 : Bool), b63 = e64 ∧ SL ⟨wb, S, Φ, P0⟩ 50 46 [(8, .one (.d (.bool b63)))] [] ac wd) ?_ ?_
      · skip
        rcases i2 hE65 with ⟨hb66, hE65⟩ | ⟨hb66, hE65⟩
        ·
          obtain ⟨x67, hx68a, hx68b, hx68c, hx68d, hE65⟩ := aB hE65
          refine qeg [] [none, none, none, some (some 41, true), some (some 41, true), some (some 41, true), some (some 41, true), some (some 41, true), some (some 41, true), some (some 41, true), none, none] [8] [] h fun ac wd h => ?_
          injection hE65 with hE65; subst hE65
          exact ⟨decide ((x67.length : Int) = 0), rfl, h.z⟩
        ·
          refine qeg [] [none, none, none, some (some 41, true), some (some 41, true), some (some 41, true), some (some 41, true), some (some 41, true), some (some 41, true), some (some 41, true), none, none] [8] [] h fun ac wd h => ?_
          injection hE65 with hE65; subst hE65
          exact ⟨false, rfl, h.z⟩
      · skip
        rintro ac wd ⟨b63, rfl, h⟩
        (try dsimp only at hD)
        refine wp_ret ?_
        injection hD with hD
        subst hD
        exact rE h [.tmp 8]

theorem L_ref15_Edges_own {a0 : TApp} {a1 : TConf} {r : (List A2I)} (hD : L_ref15_Edges a0 a1 = some r) :
    CallH Try.prog 25 [.agg (cTApp a0), .agg (cTConf a1)] []
      (.one (.own (1, 0) r.length)) [((1, 0), some (.row 55 2 (dat (List.map eA2I r))))] := by
  unfold L_ref15_Edges at hD
  refine rc Try.func25 rfl Try.ntmps25 fun S Φ P0 wb ac h => ?_
  refine qs 4 [] [2, 3] [(1, 0), (2, 0)] h fun ac wd h => ?_
  refine qs 6 [] [2, 3, 5] [(1, 0), (2, 0), (4, 0)] h fun ac wd h => ?_
  refine wp_seq ?_
  refine qs 7 [] [2, 3, 5, 6] [(1, 0), (2, 0), (4, 0)] h fun ac wd h => ?_
  refine wp_block ?_
  refine r_while (fun nf ac wd => ∃ (n1251 : Int) (l1252 : List A2I), L_ref15_Edges_l1 a0 a1 nf n1251 l1252 = some r ∧ SL ⟨wb, S, Φ, P0⟩ 35 115 [(2, .one (.ptr (1, 0) 0)), (3, .one (.ptr (2, 0) 0)), (5, .one (.own (4, 0) l1252.length)), (6, .one (.d (.int .i64 n1251)))] [((1, 0), some (.box 37 (cTApp a0))), ((2, 0), some (.box 39 (cTConf a1))), ((4, 0), some (.row 55 2 (dat (List.map eA2I l1252))))] ac wd) ((a0.G.N - 0).toNat + 1) ⟨0, ([] : List A2I), hD, h.z⟩ (fun nf ac wd hJ => ?_)
  obtain ⟨n1251, l1252, hL1253, h⟩ := hJ
  cases nf with
  | zero => rw [L_ref15_Edges_l1] at hL1253; cases hL1253
  | succ nf =>
    rw [L_ref15_Edges_l1] at hL1253
    refine wp_seq ?_
    refine qs 120 [] [2, 3, 5, 6, 13] [(1, 0), (2, 0), (4, 0)] h fun ac wd h => ?_
    rcases i2 hL1253 with ⟨hb1255, hL1253⟩ | ⟨hb1255, hL1253⟩
    ·
      refine kT h ?_
      refine wp_skip ?_
      change Code.wp Try.prog _ _ _ _
      obtain ⟨e1312, hE1313, hL1253⟩ := Option.bind_eq_some_iff.1 hL1253
      refine r_seqJ (fun ac wd => ∃ (l1311 : List A2I), l1311 = e1312 ∧ SL ⟨wb, S, Φ, P0⟩ 35 166 [(2, .one (.ptr (1, 0) 0)), (3, .one (.ptr (2, 0) 0)), (5, .one (.own (4, 0) l1311.length)), (6, .one (.d (.int .i64 n1251)))] [((1, 0), some (.box 37 (cTApp a0))), ((2, 0), some (.box 39 (cTConf a1))), ((4, 0), some (.row 55 2 (dat (List.map eA2I l1311))))] ac wd) ?_ ?_
      · skip
        refine wp_block ?_
        refine qs 121 [] [2, 3, 5, 6, 7] [(1, 0), (2, 0), (4, 0)] h fun ac wd h => ?_
        obtain ⟨e1370, hE1371, hE1313⟩ := Option.bind_eq_some_iff.1 hE1313
        refine r_meetQ (fun ac wd => ∃ (l1369 : List A2I), l1369 = e1370 ∧ SL ⟨wb, S, Φ, P0⟩ 35 166 [(2, .one (.ptr (1, 0) 0)), (3, .one (.ptr (2, 0) 0)), (5, .one (.own (4, 0) l1369.length)), (6, .one (.d (.int .i64 n1251)))] [((1, 0), some (.box 37 (cTApp a0))), ((2, 0), some (.box 39 (cTConf a1))), ((4, 0), some (.row 55 2 (dat (List.map eA2I l1369))))] ac wd) ?_ ?_
        · skip
          refine wp_block ?_
          refine r_while (fun nf ac wd => ∃ (n1408 : Int) (l1409 : List A2I), L_ref15_Edges_l2 a0 a1 n1251 nf n1408 l1409 = some e1370 ∧ SL ⟨wb, S, Φ, P0⟩ 35 161 [(2, .one (.ptr (1, 0) 0)), (3, .one (.ptr (2, 0) 0)), (5, .one (.own (4, 0) l1409.length)), (6, .one (.d (.int .i64 n1251))), (7, .one (.d (.int .i64 n1408)))] [((1, 0), some (.box 37 (cTApp a0))), ((2, 0), some (.box 39 (cTConf a1))), ((4, 0), some (.row 55 2 (dat (List.map eA2I l1409))))] ac wd) ((a0.G.N - 0).toNat + 1) ⟨0, l1252, hE1371, h.z⟩ (fun nf ac wd hJ => ?_)
          obtain ⟨n1408, l1409, hL1410, h⟩ := hJ
          cases nf with
          | zero => rw [L_ref15_Edges_l2] at hL1410; cases hL1410
          | succ nf =>
            rw [L_ref15_Edges_l2] at hL1410
            refine wp_seq ?_
            refine qs 166 [] [2, 3, 5, 6, 7, 20] [(1, 0), (2, 0), (4, 0)] h fun ac wd h => ?_
            rcases i2 hL1410 with ⟨hb1412, hL1410⟩ | ⟨hb1412, hL1410⟩
            ·
              refine kT h ?_
              refine wp_skip ?_
              change Code.wp Try.prog _ _ _ _
              obtain ⟨e1420, hE1421, hL1410⟩ := Option.bind_eq_some_iff.1 hL1410
              refine r_seqJ (fun ac wd => ∃ (l1419 : List A2I), l1419 = e1420 ∧ SL ⟨wb, S, Φ, P0⟩ 35 178 [(2, .one (.ptr (1, 0) 0)), (3, .one (.ptr (2, 0) 0)), (5, .one (.own (176, 0) l1419.length)), (6, .one (.d (.int .i64 n1251))), (7, .one (.d (.int .i64 n1408)))] [((1, 0), some (.box 37 (cTApp a0))), ((2, 0), some (.box 39 (cTConf a1))), ((176, 0), some (.row 55 2 (dat (List.map eA2I l1419))))] ac wd) ?_ ?_
              · skip
                refine wp_block ?_
                obtain ⟨r1424, hc1425, hE1421⟩ := oB hE1421
                have hc1425k := L_ref15_Edge_ok hc1425
                refine qs 171 [factE 170 hc1425k] [2, 3, 5, 6, 7, 27] [(1, 0), (2, 0), (4, 0)] h fun ac wd h => ?_
                rcases i2b hE1421 with ⟨hb1426, hE1421⟩ | ⟨hb1426, hE1421⟩
                ·
                  refine kT h ?_
                  obtain ⟨ha1427, hE1421⟩ := iT hE1421
                  refine qe [] [2, 3, 5, 6, 7] [(1, 0), (2, 0), (176, 0)] h fun ac wd h => ?_
                  injection hE1421 with hE1421; subst hE1421
                  exact ⟨(l1409 ++ [(A2I.mk n1251 n1408)]), rfl, h.z⟩
                ·
                  refine kF h ?_
                  refine wp_skip ?_
                  have h := h.sw (176, 0) (4, 0) 178
                  injection hE1421 with hE1421; subst hE1421
                  exact ⟨l1409, rfl, h.z⟩
              · skip
                rintro ac wd ⟨l1419, rfl, h⟩
                (try dsimp only at hL1410)
                refine qe [] [2, 3, 5, 6, 7] [(1, 0), (2, 0), (176, 0)] h fun ac wd h => ?_
                have h := h.sw (4, 0) (176, 0) 181
                exact ⟨nf, Nat.lt_succ_self nf, (IntKind.wrap .i64 (n1408 + 1)), l1419, hL1410, h.z⟩
            ·
              refine kF h ?_
              refine wp_exit ?_
              injection hL1410 with hL1410; subst hL1410
              exact ⟨l1409, rfl, h.z⟩
        · skip
          rintro ac wd ⟨l1369, rfl, h⟩
          (try dsimp only at hE1313)
          injection hE1313 with hE1313; subst hE1313
          exact ⟨l1369, rfl, h.z⟩
      · skip
        rintro ac wd ⟨l1311, rfl, h⟩
        (try dsimp only at hL1253)
        refine qe [] [2, 3, 5, 6] [(1, 0), (2, 0), (4, 0)] h fun ac wd h => ?_
        exact ⟨nf, Nat.lt_succ_self nf, (IntKind.wrap .i64 (n1251 + 1)), l1311, hL1253, h.z⟩
    ·
      refine kF h ?_
      refine wp_exit ?_
      change Code.wp Try.prog _ _ _ _
      refine qs 122 [] [4] [(4, 0)] h fun ac wd h => ?_
      refine wp_ret ?_
      have h := h.sm 122 [(4, .one (.own (4, 0) l1252.length))]
        [((4, 0), some (.row 55 2 (dat (List.map eA2I l1252))))]
      have h := h.sw (1, 0) (4, 0) 122
      have h := h.sm 122 [(4, .one (.own (1, 0) l1252.length))]
        [((1, 0), some (.row 55 2 (dat (List.map eA2I l1252))))]
      injection hL1253 with hL1253
      subst hL1253
      exact rO h [.tmp 4] [(1, 0)]
theorem L_ref15_Edges_ok {a0 : TApp} {a1 : TConf} {r : (List A2I)} (hD : L_ref15_Edges a0 a1 = some r) :
    CallH Try.prog 25 [.agg (cTApp a0), .agg (cTConf a1)] []
      (.one (.d (.sl (List.map eA2I r)))) [] :=
  (L_ref15_Edges_own hD).fr

theorem L_ref15_Reach_own {a0 : TApp} {a1 : TConf} {a2 : Int} {r : (List Bool)} (hD : L_ref15_Reach a0 a1 a2 = some r) :
    CallH Try.prog 61 [.agg (cTApp a0), .agg (cTConf a1), .one (.d (.int .i64 a2))] []
      (.one (.own (1, 0) r.length)) [((1, 0), some (.row 4 1 (dat (List.map eB r))))] := by
  unfold L_ref15_Reach at hD
  refine rc Try.func61 rfl Try.ntmps61 fun S Φ P0 wb ac h => ?_
  refine qs 4 [] [2, 3, 4] [(1, 0), (2, 0)] h fun ac wd h => ?_
  obtain ⟨ha4854, hD⟩ := iT hD
  obtain ⟨ha4855, hD⟩ := iT hD
  obtain ⟨ha4856, hD⟩ := iT hD
  refine qs 9 [] [2, 3, 4, 7] [(1, 0), (2, 0), (7, 0)] h fun ac wd h => ?_
  refine wp_seq ?_
  refine qs 10 [] [2, 3, 4, 7, 8] [(1, 0), (2, 0), (7, 0)] h fun ac wd h => ?_
  obtain ⟨e4896, hE4897, hD⟩ := Option.bind_eq_some_iff.1 hD
  refine r_meet (fun ac wd => ∃ (l4895 : List Bool), l4895 = e4896 ∧ SL ⟨wb, S, Φ, P0⟩ 73 49 [(3, .one (.ptr (1, 0) 0)), (4, .one (.ptr (2, 0) 0)), (7, .one (.own (7, 0) l4895.length))] [((1, 0), some (.box 37 (cTApp a0))), ((2, 0), some (.box 39 (cTConf a1))), ((7, 0), some (.row 4 1 (dat (List.map eB l4895))))] ac wd) ?_ ?_
  · skip
    refine wp_block ?_
    refine r_while (fun nf ac wd => ∃ (n4924 : Int) (l4925 : List Bool), L_ref15_Reach_l1 a0 a1 a2 nf n4924 l4925 = some e4896 ∧ SL ⟨wb, S, Φ, P0⟩ 73 44 [(2, .one (.d (.int .i64 a2))), (3, .one (.ptr (1, 0) 0)), (4, .one (.ptr (2, 0) 0)), (7, .one (.own (7, 0) l4925.length)), (8, .one (.d (.int .i64 n4924)))] [((1, 0), some (.box 37 (cTApp a0))), ((2, 0), some (.box 39 (cTConf a1))), ((7, 0), some (.row 4 1 (dat (List.map eB l4925))))] ac wd) ((a0.G.N - 0).toNat + 1) ⟨0, (List.replicate a0.G.N.toNat false), hE4897, h.z⟩ (fun nf ac wd hJ => ?_)
    obtain ⟨n4924, l4925, hL4926, h⟩ := hJ
    cases nf with
    | zero => rw [L_ref15_Reach_l1] at hL4926; cases hL4926
    | succ nf =>
      rw [L_ref15_Reach_l1] at hL4926
      refine wp_seq ?_
      refine qs 49 [] [2, 3, 4, 7, 8, 20] [(1, 0), (2, 0), (7, 0)] h fun ac wd h => ?_
      rcases i2 hL4926 with ⟨hb4928, hL4926⟩ | ⟨hb4928, hL4926⟩
      ·
        refine kT h ?_
        refine wp_skip ?_
        change Code.wp Try.prog _ _ _ _
        refine wp_seq ?_
        refine wp_block ?_
        obtain ⟨r4933, hc4934, hL4926⟩ := oB hL4926
        obtain ⟨x4935, hx4936a, hx4936b, hx4936c, hx4936d, hL4926⟩ := aB hL4926
        have hc4934k := L_ref15_Edge_ok hc4934
        refine qe [factE 55 hc4934k] [2, 3, 4, 7, 8] [(1, 0), (2, 0), (7, 0)] h fun ac wd h => ?_
        change Code.wp Try.prog _ _ _ _
        refine qe [] [2, 3, 4, 7, 8] [(1, 0), (2, 0), (7, 0)] h fun ac wd h => ?_
        exact ⟨nf, Nat.lt_succ_self nf, (IntKind.wrap .i64 (n4924 + 1)), (l4925.set n4924.toNat r4933), hL4926, h.z⟩
      ·
        refine kF h ?_
        refine wp_exit ?_
        injection hL4926 with hL4926; subst hL4926
        exact ⟨l4925, rfl, h.z⟩
  · skip
    rintro ac wd ⟨l4895, rfl, h⟩
    (try dsimp only at hD)
    refine wp_seq ?_
    refine qs 50 [] [3, 4, 7, 9] [(1, 0), (2, 0), (7, 0)] h fun ac wd h => ?_
    refine wp_block ?_
    refine r_while (fun nf ac wd => ∃ (n8898 : Int) (l8899 : List Bool), L_ref15_Reach_l2 a0 a1 nf n8898 l8899 = some r ∧ SL ⟨wb, S, Φ, P0⟩ 73 366 [(3, .one (.ptr (1, 0) 0)), (4, .one (.ptr (2, 0) 0)), (7, .one (.own (7, 0) l8899.length)), (9, .one (.d (.int .i64 n8898)))] [((1, 0), some (.box 37 (cTApp a0))), ((2, 0), some (.box 39 (cTConf a1))), ((7, 0), some (.row 4 1 (dat (List.map eB l8899))))] ac wd) ((a0.G.N - 0).toNat + 1) ⟨0, l4895, hD, h.z⟩ (fun nf ac wd hJ => ?_)
    obtain ⟨n8898, l8899, hL8900, h⟩ := hJ
    cases nf with
    | zero => rw [L_ref15_Reach_l2] at hL8900; cases hL8900
    | succ nf =>
      rw [L_ref15_Reach_l2] at hL8900
      refine wp_seq ?_
      refine qs 371 [] [3, 4, 7, 9, 35] [(1, 0), (2, 0), (7, 0)] h fun ac wd h => ?_
      rcases i2 hL8900 with ⟨hb8902, hL8900⟩ | ⟨hb8902, hL8900⟩
      ·
        refine kT h ?_
        refine wp_skip ?_
        change Code.wp Try.prog _ _ _ _
        obtain ⟨e9301, hE9302, hL8900⟩ := Option.bind_eq_some_iff.1 hL8900
        refine r_seqJ (fun ac wd => ∃ (l9300 : List Bool), l9300 = e9301 ∧ SL ⟨wb, S, Φ, P0⟩ 73 521 [(3, .one (.ptr (1, 0) 0)), (4, .one (.ptr (2, 0) 0)), (7, .one (.own (7, 0) l9300.length)), (9, .one (.d (.int .i64 n8898)))] [((1, 0), some (.box 37 (cTApp a0))), ((2, 0), some (.box 39 (cTConf a1))), ((7, 0), some (.row 4 1 (dat (List.map eB l9300))))] ac wd) ?_ ?_
        · skip
          refine wp_block ?_
          refine qs 372 [] [3, 4, 7, 9, 10] [(1, 0), (2, 0), (7, 0)] h fun ac wd h => ?_
          obtain ⟨e9701, hE9702, hE9302⟩ := Option.bind_eq_some_iff.1 hE9302
          refine r_meetQ (fun ac wd => ∃ (l9700 : List Bool), l9700 = e9701 ∧ SL ⟨wb, S, Φ, P0⟩ 73 521 [(3, .one (.ptr (1, 0) 0)), (4, .one (.ptr (2, 0) 0)), (7, .one (.own (7, 0) l9700.length)), (9, .one (.d (.int .i64 n8898)))] [((1, 0), some (.box 37 (cTApp a0))), ((2, 0), some (.box 39 (cTConf a1))), ((7, 0), some (.row 4 1 (dat (List.map eB l9700))))] ac wd) ?_ ?_
          · skip
            refine wp_block ?_
            refine r_while (fun nf ac wd => ∃ (n9959 : Int) (l9960 : List Bool), L_ref15_Reach_l3 a0 a1 nf n9959 l9960 = some e9701 ∧ SL ⟨wb, S, Φ, P0⟩ 73 516 [(3, .one (.ptr (1, 0) 0)), (4, .one (.ptr (2, 0) 0)), (7, .one (.own (7, 0) l9960.length)), (9, .one (.d (.int .i64 n8898))), (10, .one (.d (.int .i64 n9959)))] [((1, 0), some (.box 37 (cTApp a0))), ((2, 0), some (.box 39 (cTConf a1))), ((7, 0), some (.row 4 1 (dat (List.map eB l9960))))] ac wd) ((a0.G.N - 0).toNat + 1) ⟨0, l8899, hE9702, h.z⟩ (fun nf ac wd hJ => ?_)
            obtain ⟨n9959, l9960, hL9961, h⟩ := hJ
            cases nf with
            | zero => rw [L_ref15_Reach_l3] at hL9961; cases hL9961
            | succ nf =>
              rw [L_ref15_Reach_l3] at hL9961
              refine wp_seq ?_
              refine qs 521 [] [3, 4, 7, 9, 10, 42] [(1, 0), (2, 0), (7, 0)] h fun ac wd h => ?_
              rcases i2 hL9961 with ⟨hb9963, hL9961⟩ | ⟨hb9963, hL9961⟩
              ·
                refine kT h ?_
                refine wp_skip ?_
                change Code.wp Try.prog _ _ _ _
                obtain ⟨e10032, hE10033, hL9961⟩ := Option.bind_eq_some_iff.1 hL9961
                refine r_seqJ (fun ac wd => ∃ (l10031 : List Bool), l10031 = e10032 ∧ SL ⟨wb, S, Φ, P0⟩ 73 585 [(3, .one (.ptr (1, 0) 0)), (4, .one (.ptr (2, 0) 0)), (7, .one (.own (7, 0) l10031.length)), (9, .one (.d (.int .i64 n8898))), (10, .one (.d (.int .i64 n9959)))] [((1, 0), some (.box 37 (cTApp a0))), ((2, 0), some (.box 39 (cTConf a1))), ((7, 0), some (.row 4 1 (dat (List.map eB l10031))))] ac wd) ?_ ?_
                · skip
                  refine wp_block ?_
                  refine qs 522 [] [3, 4, 7, 9, 10, 11] [(1, 0), (2, 0), (7, 0)] h fun ac wd h => ?_
                  obtain ⟨e10102, hE10103, hE10033⟩ := Option.bind_eq_some_iff.1 hE10033
                  refine r_meetQ (fun ac wd => ∃ (l10101 : List Bool), l10101 = e10102 ∧ SL ⟨wb, S, Φ, P0⟩ 73 585 [(3, .one (.ptr (1, 0) 0)), (4, .one (.ptr (2, 0) 0)), (7, .one (.own (7, 0) l10101.length)), (9, .one (.d (.int .i64 n8898))), (10, .one (.d (.int .i64 n9959)))] [((1, 0), some (.box 37 (cTApp a0))), ((2, 0), some (.box 39 (cTConf a1))), ((7, 0), some (.row 4 1 (dat (List.map eB l10101))))] ac wd) ?_ ?_
                  · skip
                    refine wp_block ?_
                    refine r_while (fun nf ac wd => ∃ (n10148 : Int) (l10149 : List Bool), L_ref15_Reach_l4 a0 a1 n9959 nf n10148 l10149 = some e10102 ∧ SL ⟨wb, S, Φ, P0⟩ 73 580 [(3, .one (.ptr (1, 0) 0)), (4, .one (.ptr (2, 0) 0)), (7, .one (.own (7, 0) l10149.length)), (9, .one (.d (.int .i64 n8898))), (10, .one (.d (.int .i64 n9959))), (11, .one (.d (.int .i64 n10148)))] [((1, 0), some (.box 37 (cTApp a0))), ((2, 0), some (.box 39 (cTConf a1))), ((7, 0), some (.row 4 1 (dat (List.map eB l10149))))] ac wd) ((a0.G.N - 0).toNat + 1) ⟨0, l9960, hE10103, h.z⟩ (fun nf ac wd hJ => ?_)
                    obtain ⟨n10148, l10149, hL10150, h⟩ := hJ
                    cases nf with
                    | zero => rw [L_ref15_Reach_l4] at hL10150; cases hL10150
                    | succ nf =>
                      rw [L_ref15_Reach_l4] at hL10150
                      refine wp_seq ?_
                      refine qs 585 [] [3, 4, 7, 9, 10, 11, 49] [(1, 0), (2, 0), (7, 0)] h fun ac wd h => ?_
                      rcases i2 hL10150 with ⟨hb10152, hL10150⟩ | ⟨hb10152, hL10150⟩
                      ·
                        refine kT h ?_
                        refine wp_skip ?_
                        change Code.wp Try.prog _ _ _ _
                        obtain ⟨e10162, hE10163, hL10150⟩ := Option.bind_eq_some_iff.1 hL10150
                        refine r_seqJ (fun ac wd => ∃ (l10161 : List Bool), l10161 = e10162 ∧ SL ⟨wb, S, Φ, P0⟩ 73 606 [(3, .one (.ptr (1, 0) 0)), (4, .one (.ptr (2, 0) 0)), (7, .one (.own (7, 0) l10161.length)), (9, .one (.d (.int .i64 n8898))), (10, .one (.d (.int .i64 n9959))), (11, .one (.d (.int .i64 n10148)))] [((1, 0), some (.box 37 (cTApp a0))), ((2, 0), some (.box 39 (cTConf a1))), ((7, 0), some (.row 4 1 (dat (List.map eB l10161))))] ac wd) ?_ ?_
                        · skip
                          refine wp_block ?_
                          obtain ⟨x10164, hx10165a, hx10165b, hx10165c, hx10165d, hE10163⟩ := aB hE10163
                          rcases i2b hE10163 with ⟨hb10166, hE10163⟩ | ⟨hb10166, hE10163⟩
                          ·
                            refine qeg [] [none, none, none, none, none, none, none, some (some 58, false), some (some 58, false), some (some 58, false), some (some 58, false), some (some 58, false), some (some 63, true), some (some 63, true), some (some 63, true), some (some 63, true), some (some 63, true), some (some 58, false), none, none, none] [3, 4, 7, 9, 10, 11] [(1, 0), (2, 0), (7, 0)] h fun ac wd h => ?_
                            injection hE10163 with hE10163; subst hE10163
                            exact ⟨(l10149.set n10148.toNat true), rfl, h.z⟩
                          ·
                            obtain ⟨x10167, hx10168a, hx10168b, hx10168c, hx10168d, hE10163⟩ := aB hE10163
                            rcases i2b hE10163 with ⟨hb10169, hE10163⟩ | ⟨hb10169, hE10163⟩
                            ·
                              obtain ⟨r10170, hc10171, hE10163⟩ := oB hE10163
                              have hc10171k := L_ref15_Edge_ok hc10171
                              refine qeg [factE 601 hc10171k] [none, none, none, none, none, none, none, some (some 58, false), some (some 58, false), some (some 58, false), some (some 58, false), some (some 58, false), some (some 63, true), some (some 63, true), some (some 63, true), some (some 63, true), some (some 63, true), some (some 58, false), none, none, none] [3, 4, 7, 9, 10, 11] [(1, 0), (2, 0), (7, 0)] h fun ac wd h => ?_
                              injection hE10163 with hE10163; subst hE10163
                              exact ⟨(l10149.set n10148.toNat r10170), rfl, h.z⟩
                            ·
                              refine qeg [] [none, none, none, none, none, none, none, some (some 58, false), some (some 58, false), some (some 58, false), some (some 58, false), some (some 58, false), some (some 63, true), some (some 63, true), some (some 63, true), some (some 63, true), some (some 63, true), some (some 58, false), none, none, none] [3, 4, 7, 9, 10, 11] [(1, 0), (2, 0), (7, 0)] h fun ac wd h => ?_
                              injection hE10163 with hE10163; subst hE10163
                              exact ⟨(l10149.set n10148.toNat false), rfl, h.z⟩
                        · skip
                          rintro ac wd ⟨l10161, rfl, h⟩
                          (try dsimp only at hL10150)
                          refine qe [] [3, 4, 7, 9, 10, 11] [(1, 0), (2, 0), (7, 0)] h fun ac wd h => ?_
                          exact ⟨nf, Nat.lt_succ_self nf, (IntKind.wrap .i64 (n10148 + 1)), l10161, hL10150, h.z⟩
                      ·
                        refine kF h ?_
                        refine wp_exit ?_
                        injection hL10150 with hL10150; subst hL10150
                        exact ⟨l10149, rfl, h.z⟩
                  · skip
                    rintro ac wd ⟨l10101, rfl, h⟩
                    (try dsimp only at hE10033)
                    injection hE10033 with hE10033; subst hE10033
                    exact ⟨l10101, rfl, h.z⟩
                · skip
                  rintro ac wd ⟨l10031, rfl, h⟩
                  (try dsimp only at hL9961)
                  refine qe [] [3, 4, 7, 9, 10] [(1, 0), (2, 0), (7, 0)] h fun ac wd h => ?_
                  exact ⟨nf, Nat.lt_succ_self nf, (IntKind.wrap .i64 (n9959 + 1)), l10031, hL9961, h.z⟩
              ·
                refine kF h ?_
                refine wp_exit ?_
                injection hL9961 with hL9961; subst hL9961
                exact ⟨l9960, rfl, h.z⟩
          · skip
            rintro ac wd ⟨l9700, rfl, h⟩
            (try dsimp only at hE9302)
            injection hE9302 with hE9302; subst hE9302
            exact ⟨l9700, rfl, h.z⟩
        · skip
          rintro ac wd ⟨l9300, rfl, h⟩
          (try dsimp only at hL8900)
          refine qe [] [3, 4, 7, 9] [(1, 0), (2, 0), (7, 0)] h fun ac wd h => ?_
          exact ⟨nf, Nat.lt_succ_self nf, (IntKind.wrap .i64 (n8898 + 1)), l9300, hL8900, h.z⟩
      ·
        refine kF h ?_
        refine wp_exit ?_
        change Code.wp Try.prog _ _ _ _
        refine qs 373 [] [6] [(7, 0)] h fun ac wd h => ?_
        refine wp_ret ?_
        have h := h.sm 373 [(6, .one (.own (7, 0) l8899.length))]
          [((7, 0), some (.row 4 1 (dat (List.map eB l8899))))]
        have h := h.sw (1, 0) (7, 0) 373
        have h := h.sm 373 [(6, .one (.own (1, 0) l8899.length))]
          [((1, 0), some (.row 4 1 (dat (List.map eB l8899))))]
        injection hL8900 with hL8900
        subst hL8900
        exact rO h [.tmp 6] [(1, 0)]
theorem L_ref15_Reach_ok {a0 : TApp} {a1 : TConf} {a2 : Int} {r : (List Bool)} (hD : L_ref15_Reach a0 a1 a2 = some r) :
    CallH Try.prog 61 [.agg (cTApp a0), .agg (cTConf a1), .one (.d (.int .i64 a2))] []
      (.one (.d (.sl (List.map eB r)))) [] :=
  (L_ref15_Reach_own hD).fr

theorem L_ref15_Knot_own {a0 : TApp} {a1 : TConf} {r : (List Int)} (hD : L_ref15_Knot a0 a1 = some r) :
    CallH Try.prog 28 [.agg (cTApp a0), .agg (cTConf a1)] []
      (.one (.own (1, 0) r.length)) [((1, 0), some (.row 3 1 (dat (List.map eI r))))] := by
  unfold L_ref15_Knot at hD
  refine rc Try.func28 rfl Try.ntmps28 fun S Φ P0 wb ac h => ?_
  refine qs 4 [] [2, 3] [(1, 0), (2, 0)] h fun ac wd h => ?_
  refine qs 6 [] [2, 3, 5] [(1, 0), (2, 0), (4, 0)] h fun ac wd h => ?_
  refine wp_seq ?_
  refine qs 7 [] [2, 3, 5, 6] [(1, 0), (2, 0), (4, 0)] h fun ac wd h => ?_
  refine wp_block ?_
  refine r_while (fun nf ac wd => ∃ (n285 : Int) (l286 : List Int), L_ref15_Knot_l1 a0 a1 nf n285 l286 = some r ∧ SL ⟨wb, S, Φ, P0⟩ 27 47 [(2, .one (.ptr (1, 0) 0)), (3, .one (.ptr (2, 0) 0)), (5, .one (.own (4, 0) l286.length)), (6, .one (.d (.int .i64 n285)))] [((1, 0), some (.box 37 (cTApp a0))), ((2, 0), some (.box 39 (cTConf a1))), ((4, 0), some (.row 3 1 (dat (List.map eI l286))))] ac wd) ((a0.G.N - 0).toNat + 1) ⟨0, ([] : List Int), hD, h.z⟩ (fun nf ac wd hJ => ?_)
  obtain ⟨n285, l286, hL287, h⟩ := hJ
  cases nf with
  | zero => rw [L_ref15_Knot_l1] at hL287; cases hL287
  | succ nf =>
    rw [L_ref15_Knot_l1] at hL287
    refine wp_seq ?_
    refine qs 52 [] [2, 3, 5, 6, 12] [(1, 0), (2, 0), (4, 0)] h fun ac wd h => ?_
    rcases i2 hL287 with ⟨hb289, hL287⟩ | ⟨hb289, hL287⟩
    ·
      refine kT h ?_
      refine wp_skip ?_
      change Code.wp Try.prog _ _ _ _
      obtain ⟨e301, hE302, hL287⟩ := Option.bind_eq_some_iff.1 hL287
      refine r_seqJ (fun ac wd => ∃ (l300 : List Int), l300 = e301 ∧ SL ⟨wb, S, Φ, P0⟩ 27 64 [(2, .one (.ptr (1, 0) 0)), (3, .one (.ptr (2, 0) 0)), (5, .one (.own (62, 0) l300.length)), (6, .one (.d (.int .i64 n285)))] [((1, 0), some (.box 37 (cTApp a0))), ((2, 0), some (.box 39 (cTConf a1))), ((62, 0), some (.row 3 1 (dat (List.map eI l300))))] ac wd) ?_ ?_
      · skip
        refine wp_block ?_
        obtain ⟨r307, hc308, hE302⟩ := oB hE302
        obtain ⟨x309, hx310a, hx310b, hx310c, hx310d, hE302⟩ := aB hE302
        have hc308k := L_ref15_Reach_ok hc308
        refine qs 59 [factE 55 hc308k] [2, 3, 5, 6, 21] [(1, 0), (2, 0), (4, 0)] h fun ac wd h => ?_
        rcases i2b hE302 with ⟨hb311, hE302⟩ | ⟨hb311, hE302⟩
        ·
          refine kT h ?_
          obtain ⟨ha312, hE302⟩ := iT hE302
          refine qe [] [2, 3, 5, 6] [(1, 0), (2, 0), (62, 0)] h fun ac wd h => ?_
          injection hE302 with hE302; subst hE302
          exact ⟨(l286 ++ [n285]), rfl, h.z⟩
        ·
          refine kF h ?_
          refine wp_skip ?_
          have h := h.sw (62, 0) (4, 0) 64
          injection hE302 with hE302; subst hE302
          exact ⟨l286, rfl, h.z⟩
      · skip
        rintro ac wd ⟨l300, rfl, h⟩
        (try dsimp only at hL287)
        refine qe [] [2, 3, 5, 6] [(1, 0), (2, 0), (62, 0)] h fun ac wd h => ?_
        have h := h.sw (4, 0) (62, 0) 67
        exact ⟨nf, Nat.lt_succ_self nf, (IntKind.wrap .i64 (n285 + 1)), l300, hL287, h.z⟩
    ·
      refine kF h ?_
      refine wp_exit ?_
      change Code.wp Try.prog _ _ _ _
      refine qs 54 [] [4] [(4, 0)] h fun ac wd h => ?_
      refine wp_ret ?_
      have h := h.sm 54 [(4, .one (.own (4, 0) l286.length))]
        [((4, 0), some (.row 3 1 (dat (List.map eI l286))))]
      have h := h.sw (1, 0) (4, 0) 54
      have h := h.sm 54 [(4, .one (.own (1, 0) l286.length))]
        [((1, 0), some (.row 3 1 (dat (List.map eI l286))))]
      injection hL287 with hL287
      subst hL287
      exact rO h [.tmp 4] [(1, 0)]
theorem L_ref15_Knot_ok {a0 : TApp} {a1 : TConf} {r : (List Int)} (hD : L_ref15_Knot a0 a1 = some r) :
    CallH Try.prog 28 [.agg (cTApp a0), .agg (cTConf a1)] []
      (.one (.d (.sl (List.map eI r)))) [] :=
  (L_ref15_Knot_own hD).fr

theorem L_ref15_Held_ok {a0 : TApp} {a1 : TConf} {a2 : (List Int)} {r : Bool} (hD : L_ref15_Held a0 a1 a2 = some r) :
    CallH Try.prog 30 [.agg (cTApp a0), .agg (cTConf a1), .one (.d (.sl (List.map eI a2)))] []
      (.one (.d (.bool r))) [] := by
  unfold L_ref15_Held at hD
  refine rc Try.func30 rfl Try.ntmps30 fun S Φ P0 wb ac h => ?_
  refine qs 4 [] [2, 3, 4] [(1, 0), (2, 0)] h fun ac wd h => ?_
  refine wp_seq ?_
  refine qs 5 [] [2, 3, 4, 7] [(1, 0), (2, 0)] h fun ac wd h => ?_
  refine wp_block ?_
  refine r_while (fun nf ac wd => ∃ (n2522 : Int), L_ref15_Held_l1 a0 a1 a2 nf n2522 = some r ∧ SL ⟨wb, S, Φ, P0⟩ 41 123 [(2, .one (.d (.sl (List.map eI a2)))), (3, .one (.ptr (1, 0) 0)), (4, .one (.ptr (2, 0) 0)), (7, .one (.d (.int .i64 n2522)))] [((1, 0), some (.box 37 (cTApp a0))), ((2, 0), some (.box 39 (cTConf a1)))] ac wd) (((a2.length : Int) - 0).toNat + 1) ⟨0, hD, h.z⟩ (fun nf ac wd hJ => ?_)
  obtain ⟨n2522, hL2523, h⟩ := hJ
  cases nf with
  | zero => rw [L_ref15_Held_l1] at hL2523; cases hL2523
  | succ nf =>
    rw [L_ref15_Held_l1] at hL2523
    refine wp_seq ?_
    refine qs 127 [] [2, 3, 4, 7, 13] [(1, 0), (2, 0)] h fun ac wd h => ?_
    rcases i2 hL2523 with ⟨hb2525, hL2523⟩ | ⟨hb2525, hL2523⟩
    ·
      refine kT h ?_
      refine wp_skip ?_
      change Code.wp Try.prog _ _ _ _
      obtain ⟨e2642, hE2643, hL2523⟩ := Option.bind_eq_some_iff.1 hL2523
      refine r_seqJ (fun ac wd => (.inl ()) = e2642 ∧ SL ⟨wb, S, Φ, P0⟩ 41 179 [(2, .one (.d (.sl (List.map eI a2)))), (3, .one (.ptr (1, 0) 0)), (4, .one (.ptr (2, 0) 0)), (7, .one (.d (.int .i64 n2522)))] [((1, 0), some (.box 37 (cTApp a0))), ((2, 0), some (.box 39 (cTConf a1)))] ac wd) ?_ ?_
      · skip
        refine wp_block ?_
        refine qs 128 [] [2, 3, 4, 7, 8] [(1, 0), (2, 0)] h fun ac wd h => ?_
        refine wp_seq ?_
        refine qs 129 [] [2, 3, 4, 7, 8, 9] [(1, 0), (2, 0)] h fun ac wd h => ?_
        obtain ⟨e2701, hE2702, hE2643⟩ := Option.bind_eq_some_iff.1 hE2643
        refine r_meet (fun ac wd => ∃ (b2700 : Bool), b2700 = e2701 ∧ SL ⟨wb, S, Φ, P0⟩ 41 177 [(2, .one (.d (.sl (List.map eI a2)))), (3, .one (.ptr (1, 0) 0)), (4, .one (.ptr (2, 0) 0)), (7, .one (.d (.int .i64 n2522))), (8, .one (.d (.bool b2700)))] [((1, 0), some (.box 37 (cTApp a0))), ((2, 0), some (.box 39 (cTConf a1)))] ac wd) ?_ ?_
        · skip
          refine wp_block ?_
          refine r_while (fun nf ac wd => ∃ (b2738 : Bool) (n2739 : Int), L_ref15_Held_l2 a0 a1 a2 n2522 nf b2738 n2739 = some e2701 ∧ SL ⟨wb, S, Φ, P0⟩ 41 173 [(2, .one (.d (.sl (List.map eI a2)))), (3, .one (.ptr (1, 0) 0)), (4, .one (.ptr (2, 0) 0)), (7, .one (.d (.int .i64 n2522))), (8, .one (.d (.bool b2738))), (9, .one (.d (.int .i64 n2739)))] [((1, 0), some (.box 37 (cTApp a0))), ((2, 0), some (.box 39 (cTConf a1)))] ac wd) (((a2.length : Int) - 0).toNat + 1) ⟨false, 0, hE2702, h.z⟩ (fun nf ac wd hJ => ?_)
          obtain ⟨b2738, n2739, hL2740, h⟩ := hJ
          cases nf with
          | zero => rw [L_ref15_Held_l2] at hL2740; cases hL2740
          | succ nf =>
            rw [L_ref15_Held_l2] at hL2740
            refine wp_seq ?_
            refine qs 177 [] [2, 3, 4, 7, 8, 9, 19] [(1, 0), (2, 0)] h fun ac wd h => ?_
            rcases i2 hL2740 with ⟨hb2742, hL2740⟩ | ⟨hb2742, hL2740⟩
            ·
              refine kT h ?_
              refine wp_skip ?_
              change Code.wp Try.prog _ _ _ _
              obtain ⟨e2751, hE2752, hL2740⟩ := Option.bind_eq_some_iff.1 hL2740
              refine r_seqJ (fun ac wd => ∃ (b2750 : Bool), b2750 = e2751 ∧ SL ⟨wb, S, Φ, P0⟩ 41 192 [(2, .one (.d (.sl (List.map eI a2)))), (3, .one (.ptr (1, 0) 0)), (4, .one (.ptr (2, 0) 0)), (7, .one (.d (.int .i64 n2522))), (8, .one (.d (.bool b2750))), (9, .one (.d (.int .i64 n2739)))] [((1, 0), some (.box 37 (cTApp a0))), ((2, 0), some (.box 39 (cTConf a1)))] ac wd) ?_ ?_
              · skip
                refine wp_block ?_
                rcases i2b hE2752 with ⟨hb2753, hE2752⟩ | ⟨hb2753, hE2752⟩
                ·
                  refine deg [] [none, none, some (some 23, false), some (some 23, false), some (some 23, false), some (some 23, false), some (some 23, false), some (some 23, false), some (some 23, false), some (some 23, false), some (some 23, false), some (some 23, false), some (some 23, false), none, none] [2, 3, 4, 7, 8, 9] [(1, 0), (2, 0)] h fun ac wd h => ?_
                  injection hE2752 with hE2752; subst hE2752
                  exact ⟨true, rfl, h.z⟩
                ·
                  obtain ⟨x2754, hx2755a, hx2755b, hx2755c, hx2755d, hE2752⟩ := aB hE2752
                  obtain ⟨x2756, hx2757a, hx2757b, hx2757c, hx2757d, hE2752⟩ := aB hE2752
                  obtain ⟨r2758, hc2759, hE2752⟩ := oB hE2752
                  have hc2759k := L_ref15_Edge_ok hc2759
                  refine deg [factE 189 hc2759k] [none, none, some (some 23, false), some (some 23, false), some (some 23, false), some (some 23, false), some (some 23, false), some (some 23, false), some (some 23, false), some (some 23, false), some (some 23, false), some (some 23, false), some (some 23, false), none, none] [2, 3, 4, 7, 8, 9] [(1, 0), (2, 0)] h fun ac wd h => ?_
                  injection hE2752 with hE2752; subst hE2752
                  exact ⟨r2758, rfl, h.z⟩
              · skip
                rintro ac wd ⟨b2750, rfl, h⟩
                (try dsimp only at hL2740)
                refine qe [] [2, 3, 4, 7, 8, 9] [(1, 0), (2, 0)] h fun ac wd h => ?_
                exact ⟨nf, Nat.lt_succ_self nf, b2750, (IntKind.wrap .i64 (n2739 + 1)), hL2740, h.z⟩
            ·
              refine kF h ?_
              refine wp_exit ?_
              injection hL2740 with hL2740; subst hL2740
              exact ⟨b2738, rfl, h.z⟩
        · skip
          rintro ac wd ⟨b2700, rfl, h⟩
          (try dsimp only at hE2643)
          refine qs 179 [] [2, 3, 4, 7, 37] [(1, 0), (2, 0)] h fun ac wd h => ?_
          rcases i2b hE2643 with ⟨hb2760, hE2643⟩ | ⟨hb2760, hE2643⟩
          ·
            refine kF h ?_
            refine wp_skip ?_
            injection hE2643 with hE2643; subst hE2643
            exact ⟨rfl, h.z⟩
          ·
            refine kT h ?_
            refine qs 180 [] [6] [] h fun ac wd h => ?_
            refine wp_ret ?_
            injection hE2643 with hE2643
            subst hE2643
            (try dsimp only at hL2523)
            injection hL2523 with hL2523
            subst hL2523
            exact rE h [.tmp 6]
      · skip
        rintro ac wd ⟨rfl, h⟩
        (try dsimp only at hL2523)
        refine qe [] [2, 3, 4, 7] [(1, 0), (2, 0)] h fun ac wd h => ?_
        exact ⟨nf, Nat.lt_succ_self nf, (IntKind.wrap .i64 (n2522 + 1)), hL2523, h.z⟩
    ·
      refine kF h ?_
      refine wp_exit ?_
      change Code.wp Try.prog _ _ _ _
      refine qs 131 [] [6] [] h fun ac wd h => ?_
      refine wp_ret ?_
      injection hL2523 with hL2523
      subst hL2523
      exact rE h [.tmp 6]

theorem L_ref15_Ring_ok {a0 : TApp} {a1 : TConf} {a2 : (List Int)} {r : Bool} (hD : L_ref15_Ring a0 a1 a2 = some r) :
    CallH Try.prog 32 [.agg (cTApp a0), .agg (cTConf a1), .one (.d (.sl (List.map eI a2)))] []
      (.one (.d (.bool r))) [] := by
  unfold L_ref15_Ring at hD
  refine rc Try.func32 rfl Try.ntmps32 fun S Φ P0 wb ac h => ?_
  refine qs 4 [] [2, 3, 4] [(1, 0), (2, 0)] h fun ac wd h => ?_
  refine wp_seq ?_
  refine qs 5 [] [2, 3, 4, 7] [(1, 0), (2, 0)] h fun ac wd h => ?_
  refine wp_block ?_
  refine r_while (fun nf ac wd => ∃ (n859 : Int), L_ref15_Ring_l1 a0 a1 a2 nf n859 = some r ∧ SL ⟨wb, S, Φ, P0⟩ 50 87 [(2, .one (.d (.sl (List.map eI a2)))), (3, .one (.ptr (1, 0) 0)), (4, .one (.ptr (2, 0) 0)), (7, .one (.d (.int .i64 n859)))] [((1, 0), some (.box 37 (cTApp a0))), ((2, 0), some (.box 39 (cTConf a1)))] ac wd) (((a2.length : Int) - 0).toNat + 1) ⟨0, hD, h.z⟩ (fun nf ac wd hJ => ?_)
  obtain ⟨n859, hL860, h⟩ := hJ
  cases nf with
  | zero => rw [L_ref15_Ring_l1] at hL860; cases hL860
  | succ nf =>
    rw [L_ref15_Ring_l1] at hL860
    refine wp_seq ?_
    refine qs 91 [] [2, 3, 4, 7, 12] [(1, 0), (2, 0)] h fun ac wd h => ?_
    rcases i2 hL860 with ⟨hb862, hL860⟩ | ⟨hb862, hL860⟩
    ·
      refine kT h ?_
      refine wp_skip ?_
      change Code.wp Try.prog _ _ _ _
      refine wp_seq ?_
      refine wp_block ?_
      obtain ⟨x904, hx905a, hx905b, hx905c, hx905d, hL860⟩ := aN 0 hL860
      refine qs 95 [] [2, 3, 4, 7, 8] [(1, 0), (2, 0)] h fun ac wd h => ?_
      refine wp_seq ?_
      refine qs 100 [] [2, 3, 4, 7, 8, 22] [(1, 0), (2, 0)] h fun ac wd h => ?_
      obtain ⟨e910, hE911, hL860⟩ := Option.bind_eq_some_iff.1 hL860
      refine r_meet (fun ac wd => ∃ (n909 : Int), n909 = e910 ∧ SL ⟨wb, S, Φ, P0⟩ 50 106 [(2, .one (.d (.sl (List.map eI a2)))), (3, .one (.ptr (1, 0) 0)), (4, .one (.ptr (2, 0) 0)), (7, .one (.d (.int .i64 n859))), (8, .one (.d (.int .i64 n909)))] [((1, 0), some (.box 37 (cTApp a0))), ((2, 0), some (.box 39 (cTConf a1)))] ac wd) ?_ ?_
      · skip
        rcases i2 hE911 with ⟨hb912, hE911⟩ | ⟨hb912, hE911⟩
        ·
          refine kT h ?_
          obtain ⟨x913, hx914a, hx914b, hx914c, hx914d, hE911⟩ := aB hE911
          refine qe [] [2, 3, 4, 7, 8] [(1, 0), (2, 0)] h fun ac wd h => ?_
          injection hE911 with hE911; subst hE911
          exact ⟨x913, rfl, h.z⟩
        ·
          refine kF h ?_
          refine wp_skip ?_
          injection hE911 with hE911; subst hE911
          exact ⟨x904, rfl, h.z⟩
      · skip
        rintro ac wd ⟨n909, rfl, h⟩
        (try dsimp only at hL860)
        obtain ⟨e927, hE928, hL860⟩ := Option.bind_eq_some_iff.1 hL860
        refine r_seqJ (fun ac wd => ∃ (b926 : Bool), b926 = e927 ∧ SL ⟨wb, S, Φ, P0⟩ 50 125 [(2, .one (.d (.sl (List.map eI a2)))), (3, .one (.ptr (1, 0) 0)), (4, .one (.ptr (2, 0) 0)), (7, .one (.d (.int .i64 n859))), (46, .one (.d (.bool b926)))] [((1, 0), some (.box 37 (cTApp a0))), ((2, 0), some (.box 39 (cTConf a1)))] ac wd) ?_ ?_
        · skip
          obtain ⟨ha929, hE928⟩ := iT hE928
          obtain ⟨ha930, hE928⟩ := iT hE928
          obtain ⟨v931, hv932, hE928⟩ := vB hE928
          obtain ⟨x933, hx934a, hx934b, hx934c, hx934d, hE928⟩ := aB hE928
          obtain ⟨r935, hc936, hE928⟩ := oB hE928
          rcases i2b hE928 with ⟨hb937, hE928⟩ | ⟨hb937, hE928⟩
          ·
            have hc936k := L_ref04_In_ok hc936
            refine deg [factE 113 hc936k] [none, none, none, none, none, none, none, none, none, some (some 36, false), some (some 36, false), some (some 36, false), some (some 36, false), some (some 36, false), some (some 36, false), some (some 36, false), some (some 36, false), some (some 36, false), none] [2, 3, 4, 7, 46] [(1, 0), (2, 0)] h fun ac wd h => ?_
            injection hE928 with hE928; subst hE928
            exact ⟨true, rfl, h.z⟩
          ·
            obtain ⟨r938, hc939, hE928⟩ := oB hE928
            have hc936k := L_ref04_In_ok hc936
            have hc939k := L_ref15_Edge_ok hc939
            refine deg [factE 113 hc936k, factE 122 hc939k] [none, none, none, none, none, none, none, none, none, some (some 36, false), some (some 36, false), some (some 36, false), some (some 36, false), some (some 36, false), some (some 36, false), some (some 36, false), some (some 36, false), some (some 36, false), none] [2, 3, 4, 7, 46] [(1, 0), (2, 0)] h fun ac wd h => ?_
            injection hE928 with hE928; subst hE928
            exact ⟨!(r938), rfl, h.z⟩
        · skip
          rintro ac wd ⟨b926, rfl, h⟩
          (try dsimp only at hL860)
          rcases i2b hL860 with ⟨hb940, hL860⟩ | ⟨hb940, hL860⟩
          ·
            refine kT h ?_
            refine qs 126 [] [6] [] h fun ac wd h => ?_
            refine wp_ret ?_
            injection hL860 with hL860
            subst hL860
            exact rE h [.tmp 6]
          ·
            refine kF h ?_
            refine wp_skip ?_
            change Code.wp Try.prog _ _ _ _
            refine qe [] [2, 3, 4, 7] [(1, 0), (2, 0)] h fun ac wd h => ?_
            exact ⟨nf, Nat.lt_succ_self nf, (IntKind.wrap .i64 (n859 + 1)), hL860, h.z⟩
    ·
      refine kF h ?_
      refine wp_exit ?_
      change Code.wp Try.prog _ _ _ _
      refine qs 95 [] [6] [] h fun ac wd h => ?_
      refine wp_ret ?_
      injection hL860 with hL860
      subst hL860
      exact rE h [.tmp 6]

theorem L_table_Mode_ok {a0 : (List TNode)} {a1 : Int} {a2 : Int} {r : Int} (hD : L_table_Mode a0 a1 a2 = some r) :
    CallH Try.prog 35 [.one (.d (.sl (List.map eTNode a0))), .one (.d (.int .i64 a1)), .one (.d (.int .i64 a2))] []
      (.one (.d (.int .i64 r))) [] := by
  unfold L_table_Mode at hD
  refine rc Try.func35 rfl Try.ntmps35 fun S Φ P0 wb ac h => ?_
  refine qs 2 [] [0, 1, 2] [] h fun ac wd h => ?_
  obtain ⟨r7, hc8, hD⟩ := oB hD
  have hc8k := L_table_at_ok hc8
  refine qs 12 [factE 5 hc8k] [7] [(9, 0)] h fun ac wd h => ?_
  refine qs 15 [] [6] [] h fun ac wd h => ?_
  refine wp_ret ?_
  injection hD with hD
  subst hD
  exact rE h [.tmp 6]

end Go.Proofs.Ytgkjgpbinblmdaa
