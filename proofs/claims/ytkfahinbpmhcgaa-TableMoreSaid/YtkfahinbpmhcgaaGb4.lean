/- Functions as typed ones, and that the program's functions answer as these do. No condition. -/
import Derived.Test.YtkfahinbpmhcgaaGb3
import Derived.Test.YtkfahinbpmhcgaaGd
set_option linter.unusedSimpArgs false
set_option linter.unusedVariables false
set_option maxRecDepth 20000
set_option maxHeartbeats 4000000
namespace Go.Proofs.Ytkfahinbpmhcgaa
open Go.RowKit

theorem L_table_place_stays_ok {a0 : TPlace} {r : Bool} (hD : L_table_place_stays a0 = some r) :
    CallH Try.prog 82 [.agg (cTPlace a0)] []
      (.one (.d (.bool r))) [] := by
  unfold L_table_place_stays at hD
  refine rc Try.func82 rfl Try.ntmps82 fun S Φ P0 wb ac h => ?_
  refine qs 3 [] [1] [(1, 0)] h fun ac wd h => ?_
  refine wp_seq ?_
  refine qs 8 [] [1, 10, 11, 12] [(1, 0)] h fun ac wd h => ?_
  refine wp_block ?_
  refine r_while (fun nf ac wd => ∃ (n2970 : Int), L_table_place_stays_l1 a0 nf n2970 = some r ∧ SL ⟨wb, S, Φ, P0⟩ 49 158 [(1, .one (.ptr (1, 0) 0)), (10, .one (.d (.sl (List.map eTTake a0.State.Takes)))), (11, .one (.d (.int .i64 (a0.State.Takes.length : Int)))), (12, .one (.d (.int .i64 n2970)))] [((1, 0), some (.box 127 (cTPlace a0)))] ac wd) (((a0.State.Takes.length : Int) - 0).toNat + 1) ⟨0, hD, h.z⟩ (fun nf ac wd hJ => ?_)
  obtain ⟨n2970, hL2971, h⟩ := hJ
  cases nf with
  | zero => rw [L_table_place_stays_l1] at hL2971; cases hL2971
  | succ nf =>
    rw [L_table_place_stays_l1] at hL2971
    refine qs 159 [] [1, 10, 11, 12, 13] [(1, 0)] h fun ac wd h => ?_
    refine wp_seq ?_
    rcases i2 hL2971 with ⟨hb2973, hL2971⟩ | ⟨hb2973, hL2971⟩
    ·
      refine kT h ?_
      refine wp_skip ?_
      change Code.wp Try.prog _ _ _ _
      obtain ⟨e3106, hE3107, hL2971⟩ := Option.bind_eq_some_iff.1 hL2971
      refine r_seqJ (fun ac wd => (.inl ()) = e3106 ∧ SL ⟨wb, S, Φ, P0⟩ 49 231 [(1, .one (.ptr (1, 0) 0)), (10, .one (.d (.sl (List.map eTTake a0.State.Takes)))), (11, .one (.d (.int .i64 (a0.State.Takes.length : Int)))), (12, .one (.d (.int .i64 n2970)))] [((1, 0), some (.box 127 (cTPlace a0)))] ac wd) ?_ ?_
      · skip
        refine wp_block ?_
        obtain ⟨x3110, hx3111a, hx3111b, hx3111c, hx3111d, hE3107⟩ := aB hE3107
        refine qs 163 [] [1, 4, 10, 11, 12] [(1, 0), (161, 0)] h fun ac wd h => ?_
        refine qs 168 [] [1, 4, 10, 11, 12, 18, 19, 20] [(1, 0), (161, 0)] h fun ac wd h => ?_
        obtain ⟨e3240, hE3241, hE3107⟩ := Option.bind_eq_some_iff.1 hE3107
        refine r_meetQ (fun ac wd => (.inl ()) = e3240 ∧ SL ⟨wb, S, Φ, P0⟩ 49 231 [(1, .one (.ptr (1, 0) 0)), (10, .one (.d (.sl (List.map eTTake a0.State.Takes)))), (11, .one (.d (.int .i64 (a0.State.Takes.length : Int)))), (12, .one (.d (.int .i64 n2970)))] [((1, 0), some (.box 127 (cTPlace a0)))] ac wd) ?_ ?_
        · skip
          refine wp_block ?_
          refine r_while (fun nf ac wd => ∃ (n3327 : Int), L_table_place_stays_l2 a0 x3110 nf n3327 = some e3240 ∧ SL ⟨wb, S, Φ, P0⟩ 49 230 [(1, .one (.ptr (1, 0) 0)), (4, .one (.ptr (161, 0) 0)), (10, .one (.d (.sl (List.map eTTake a0.State.Takes)))), (11, .one (.d (.int .i64 (a0.State.Takes.length : Int)))), (12, .one (.d (.int .i64 n2970))), (18, .one (.d (.sl (List.map eI a0.State.Waits)))), (19, .one (.d (.int .i64 (a0.State.Waits.length : Int)))), (20, .one (.d (.int .i64 n3327)))] [((1, 0), some (.box 127 (cTPlace a0))), ((161, 0), some (.box 88 (cTTake x3110)))] ac wd) (((a0.State.Waits.length : Int) - 0).toNat + 1) ⟨0, hE3241, h.z⟩ (fun nf ac wd hJ => ?_)
          obtain ⟨n3327, hL3328, h⟩ := hJ
          cases nf with
          | zero => rw [L_table_place_stays_l2] at hL3328; cases hL3328
          | succ nf =>
            rw [L_table_place_stays_l2] at hL3328
            refine qs 231 [] [1, 4, 10, 11, 12, 18, 19, 20, 21] [(1, 0), (161, 0)] h fun ac wd h => ?_
            refine wp_seq ?_
            rcases i2 hL3328 with ⟨hb3330, hL3328⟩ | ⟨hb3330, hL3328⟩
            ·
              refine kT h ?_
              refine wp_skip ?_
              change Code.wp Try.prog _ _ _ _
              refine wp_seq ?_
              refine wp_block ?_
              obtain ⟨x3353, hx3354a, hx3354b, hx3354c, hx3354d, hL3328⟩ := aB hL3328
              refine qs 234 [] [1, 4, 6, 10, 11, 12, 18, 19, 20] [(1, 0), (161, 0)] h fun ac wd h => ?_
              obtain ⟨x3357, hx3358a, hx3358b, hx3358c, hx3358d, hL3328⟩ := aB hL3328
              refine qs 243 [] [1, 4, 6, 7, 10, 11, 12, 18, 19, 20] [(1, 0), (161, 0), (241, 0)] h fun ac wd h => ?_
              obtain ⟨e3364, hE3365, hL3328⟩ := Option.bind_eq_some_iff.1 hL3328
              refine r_seqJ (fun ac wd => ∃ (b3363 : Bool), b3363 = e3364 ∧ SL ⟨wb, S, Φ, P0⟩ 49 259 [(1, .one (.ptr (1, 0) 0)), (4, .one (.ptr (161, 0) 0)), (10, .one (.d (.sl (List.map eTTake a0.State.Takes)))), (11, .one (.d (.int .i64 (a0.State.Takes.length : Int)))), (12, .one (.d (.int .i64 n2970))), (18, .one (.d (.sl (List.map eI a0.State.Waits)))), (19, .one (.d (.int .i64 (a0.State.Waits.length : Int)))), (20, .one (.d (.int .i64 n3327))), (46, .one (.d (.bool b3363)))] [((1, 0), some (.box 127 (cTPlace a0))), ((161, 0), some (.box 88 (cTTake x3110)))] ac wd) ?_ ?_
              · skip
                rcases i2e hE3365 with ⟨hb3366, hE3365⟩ | ⟨hb3366, hE3365⟩
                ·
                  refine qeg [] [none, none, none, none, none, some (some 35, true), some (some 35, true), some (some 35, true), some (some 35, true), some (some 39, false), some (some 39, false), some (some 39, false), some (some 39, false), some (some 39, false), some (some 35, true), none] [1, 4, 10, 11, 12, 18, 19, 20, 46] [(1, 0), (161, 0)] h fun ac wd h => ?_
                  injection hE3365 with hE3365; subst hE3365
                  exact ⟨false, rfl, h.z⟩
                ·
                  rcases i2e hE3365 with ⟨hb3367, hE3365⟩ | ⟨hb3367, hE3365⟩
                  ·
                    obtain ⟨r3368, hc3369, hE3365⟩ := oB hE3365
                    have hc3369k := L_slices_Contains_int_int_ok hc3369
                    refine qeg [factE 255 hc3369k] [none, none, none, none, none, some (some 35, true), some (some 35, true), some (some 35, true), some (some 35, true), some (some 39, false), some (some 39, false), some (some 39, false), some (some 39, false), some (some 39, false), some (some 35, true), none] [1, 4, 10, 11, 12, 18, 19, 20, 46] [(1, 0), (161, 0)] h fun ac wd h => ?_
                    injection hE3365 with hE3365; subst hE3365
                    exact ⟨!(r3368), rfl, h.z⟩
                  ·
                    refine qeg [] [none, none, none, none, none, some (some 35, true), some (some 35, true), some (some 35, true), some (some 35, true), some (some 39, false), some (some 39, false), some (some 39, false), some (some 39, false), some (some 39, false), some (some 35, true), none] [1, 4, 10, 11, 12, 18, 19, 20, 46] [(1, 0), (161, 0)] h fun ac wd h => ?_
                    injection hE3365 with hE3365; subst hE3365
                    exact ⟨true, rfl, h.z⟩
              · skip
                rintro ac wd ⟨b3363, rfl, h⟩
                (try dsimp only at hL3328)
                rcases i2b hL3328 with ⟨hb3370, hL3328⟩ | ⟨hb3370, hL3328⟩
                ·
                  refine kT h ?_
                  refine qs 260 [] [2] [] h fun ac wd h => ?_
                  refine wp_ret ?_
                  injection hL3328 with hL3328
                  subst hL3328
                  (try dsimp only at hE3107)
                  injection hE3107 with hE3107
                  subst hE3107
                  (try dsimp only at hL2971)
                  injection hL2971 with hL2971
                  subst hL2971
                  exact rE h [.tmp 2]
                ·
                  refine kF h ?_
                  refine wp_skip ?_
                  change Code.wp Try.prog _ _ _ _
                  refine qe [] [1, 4, 10, 11, 12, 18, 19, 20] [(1, 0), (161, 0)] h fun ac wd h => ?_
                  exact ⟨nf, Nat.lt_succ_self nf, (IntKind.wrap .i64 (n3327 + 1)), hL3328, h.z⟩
            ·
              refine kF h ?_
              refine wp_exit ?_
              injection hL3328 with hL3328; subst hL3328
              exact ⟨rfl, h.z⟩
        · skip
          rintro ac wd ⟨rfl, h⟩
          (try dsimp only at hE3107)
          injection hE3107 with hE3107; subst hE3107
          exact ⟨rfl, h.z⟩
      · skip
        rintro ac wd ⟨rfl, h⟩
        (try dsimp only at hL2971)
        refine qe [] [1, 10, 11, 12] [(1, 0)] h fun ac wd h => ?_
        exact ⟨nf, Nat.lt_succ_self nf, (IntKind.wrap .i64 (n2970 + 1)), hL2971, h.z⟩
    ·
      refine kF h ?_
      refine wp_exit ?_
      change Code.wp Try.prog _ _ _ _
      refine qs 160 [] [2] [] h fun ac wd h => ?_
      refine wp_ret ?_
      injection hL2971 with hL2971
      subst hL2971
      exact rE h [.tmp 2]

theorem L_table_place_may_ok {a0 : TPlace} {r : Bool} (hD : L_table_place_may a0 = some r) :
    CallH Try.prog 59 [.agg (cTPlace a0)] []
      (.one (.d (.bool r))) [] := by
  unfold L_table_place_may at hD
  refine rc Try.func59 rfl Try.ntmps59 fun S Φ P0 wb ac h => ?_
  refine qs 3 [] [1] [(1, 0)] h fun ac wd h => ?_
  refine qs 5 [] [1, 3] [(1, 0)] h fun ac wd h => ?_
  refine wp_seq ?_
  refine qs 22 [] [21, 22, 23] [(1, 0), (19, 0)] h fun ac wd h => ?_
  refine wp_block ?_
  refine wp_loop_rounds 24 ?_
  refine rounds_succ.mpr ?_
  refine qs 23 [] [21, 22, 23, 24] [(1, 0), (19, 0)] h fun ac wd h => ?_
  refine wp_seq ?_
  refine kT h ?_
  refine wp_skip ?_
  change Code.wp Try.prog _ _ _ _
  refine wp_seq ?_
  refine wp_block ?_
  refine qs 27 [] [5, 21, 22, 23] [(1, 0), (19, 0), (25, 0)] h fun ac wd h => ?_
  obtain ⟨r161, hc162, hD⟩ := oB hD
  have hc162_29 := (((L_table_place_may_1_own hc162).cls 29).nm (0, 0) (1, 0)).z
  refine qs 31 [factR hc162_29] [21, 22, 23, 30] [(1, 0), (19, 0)] h fun ac wd h => ?_
  rcases i2b hD with ⟨hb163, hD⟩ | ⟨hb163, hD⟩
  ·
    refine kF h ?_
    refine wp_skip ?_
    change Code.wp Try.prog _ _ _ _
    refine qe [] [21, 22, 23] [(1, 0), (19, 0)] h fun ac wd h => ?_
    change Code.rounds Try.prog _ _ _ _ _
    have h := h.sm 33 [(21, .one (.own (19, 0) 5)), (22, .one (.d (.int .i64 5))), (23, .one (.d (.int .i64 1)))]
      [((1, 0), some (.box 127 (cTPlace r161.2))), ((19, 0), some (.row 152 1 ([[.fnp 78 [((1, 0), 0)]], [.d (.fn 79 [.inl [(.int .i64 a0.State.Mode), (.sl (List.map eI a0.State.Waits)), (.sl (List.map eTPick a0.State.Picks)), (.sl (List.map eTTake a0.State.Takes)), (.int .i64 a0.n), (.int .i64 a0.node.Start), (.sl (List.map eTState a0.node.States)), (.int .i64 a0.g.N), (.sl (List.map eA2I a0.g.Links))]] [])], [.d (.fn 80 [.inl [(.int .i64 a0.State.Mode), (.sl (List.map eI a0.State.Waits)), (.sl (List.map eTPick a0.State.Picks)), (.sl (List.map eTTake a0.State.Takes)), (.int .i64 a0.n), (.int .i64 a0.node.Start), (.sl (List.map eTState a0.node.States)), (.int .i64 a0.g.N), (.sl (List.map eA2I a0.g.Links))]] [])], [.d (.fn 81 [.inl [(.int .i64 a0.State.Mode), (.sl (List.map eI a0.State.Waits)), (.sl (List.map eTPick a0.State.Picks)), (.sl (List.map eTTake a0.State.Takes)), (.int .i64 a0.n), (.int .i64 a0.node.Start), (.sl (List.map eTState a0.node.States)), (.int .i64 a0.g.N), (.sl (List.map eA2I a0.g.Links))]] [])], [.d (.fn 82 [.inl [(.int .i64 a0.State.Mode), (.sl (List.map eI a0.State.Waits)), (.sl (List.map eTPick a0.State.Picks)), (.sl (List.map eTTake a0.State.Takes)), (.int .i64 a0.n), (.int .i64 a0.node.Start), (.sl (List.map eTState a0.node.States)), (.int .i64 a0.g.N), (.sl (List.map eA2I a0.g.Links))]] [])]])))]
    refine rounds_succ.mpr ?_
    refine qs 34 [] [21, 22, 23, 24] [(1, 0), (19, 0)] h fun ac wd h => ?_
    refine wp_seq ?_
    refine kT h ?_
    refine wp_skip ?_
    change Code.wp Try.prog _ _ _ _
    refine wp_seq ?_
    refine wp_block ?_
    refine qs 38 [] [5, 21, 22, 23] [(1, 0), (19, 0), (36, 0)] h fun ac wd h => ?_
    obtain ⟨r171, hc172, hD⟩ := oB hD
    have hc172k := L_table_place_waits_ok hc172
    refine qs 42 [factE 40 hc172k] [21, 22, 23, 30] [(1, 0), (19, 0)] h fun ac wd h => ?_
    rcases i2b hD with ⟨hb173, hD⟩ | ⟨hb173, hD⟩
    ·
      refine kF h ?_
      refine wp_skip ?_
      change Code.wp Try.prog _ _ _ _
      refine qe [] [21, 22, 23] [(1, 0), (19, 0)] h fun ac wd h => ?_
      change Code.rounds Try.prog _ _ _ _ _
      have h := h.sm 44 [(21, .one (.own (19, 0) 5)), (22, .one (.d (.int .i64 5))), (23, .one (.d (.int .i64 2)))]
        [((1, 0), some (.box 127 (cTPlace r161.2))), ((19, 0), some (.row 152 1 ([[.fnp 78 [((1, 0), 0)]], [.d (.fn 79 [.inl [(.int .i64 a0.State.Mode), (.sl (List.map eI a0.State.Waits)), (.sl (List.map eTPick a0.State.Picks)), (.sl (List.map eTTake a0.State.Takes)), (.int .i64 a0.n), (.int .i64 a0.node.Start), (.sl (List.map eTState a0.node.States)), (.int .i64 a0.g.N), (.sl (List.map eA2I a0.g.Links))]] [])], [.d (.fn 80 [.inl [(.int .i64 a0.State.Mode), (.sl (List.map eI a0.State.Waits)), (.sl (List.map eTPick a0.State.Picks)), (.sl (List.map eTTake a0.State.Takes)), (.int .i64 a0.n), (.int .i64 a0.node.Start), (.sl (List.map eTState a0.node.States)), (.int .i64 a0.g.N), (.sl (List.map eA2I a0.g.Links))]] [])], [.d (.fn 81 [.inl [(.int .i64 a0.State.Mode), (.sl (List.map eI a0.State.Waits)), (.sl (List.map eTPick a0.State.Picks)), (.sl (List.map eTTake a0.State.Takes)), (.int .i64 a0.n), (.int .i64 a0.node.Start), (.sl (List.map eTState a0.node.States)), (.int .i64 a0.g.N), (.sl (List.map eA2I a0.g.Links))]] [])], [.d (.fn 82 [.inl [(.int .i64 a0.State.Mode), (.sl (List.map eI a0.State.Waits)), (.sl (List.map eTPick a0.State.Picks)), (.sl (List.map eTTake a0.State.Takes)), (.int .i64 a0.n), (.int .i64 a0.node.Start), (.sl (List.map eTState a0.node.States)), (.int .i64 a0.g.N), (.sl (List.map eA2I a0.g.Links))]] [])]])))]
      refine rounds_succ.mpr ?_
      refine qs 45 [] [21, 22, 23, 24] [(1, 0), (19, 0)] h fun ac wd h => ?_
      refine wp_seq ?_
      refine kT h ?_
      refine wp_skip ?_
      change Code.wp Try.prog _ _ _ _
      refine wp_seq ?_
      refine wp_block ?_
      refine qs 49 [] [5, 21, 22, 23] [(1, 0), (19, 0), (47, 0)] h fun ac wd h => ?_
      obtain ⟨r181, hc182, hD⟩ := oB hD
      have hc182k := L_table_place_picks_ok hc182
      refine qs 53 [factE 51 hc182k] [21, 22, 23, 30] [(1, 0), (19, 0)] h fun ac wd h => ?_
      rcases i2b hD with ⟨hb183, hD⟩ | ⟨hb183, hD⟩
      ·
        refine kF h ?_
        refine wp_skip ?_
        change Code.wp Try.prog _ _ _ _
        refine qe [] [21, 22, 23] [(1, 0), (19, 0)] h fun ac wd h => ?_
        change Code.rounds Try.prog _ _ _ _ _
        have h := h.sm 55 [(21, .one (.own (19, 0) 5)), (22, .one (.d (.int .i64 5))), (23, .one (.d (.int .i64 3)))]
          [((1, 0), some (.box 127 (cTPlace r161.2))), ((19, 0), some (.row 152 1 ([[.fnp 78 [((1, 0), 0)]], [.d (.fn 79 [.inl [(.int .i64 a0.State.Mode), (.sl (List.map eI a0.State.Waits)), (.sl (List.map eTPick a0.State.Picks)), (.sl (List.map eTTake a0.State.Takes)), (.int .i64 a0.n), (.int .i64 a0.node.Start), (.sl (List.map eTState a0.node.States)), (.int .i64 a0.g.N), (.sl (List.map eA2I a0.g.Links))]] [])], [.d (.fn 80 [.inl [(.int .i64 a0.State.Mode), (.sl (List.map eI a0.State.Waits)), (.sl (List.map eTPick a0.State.Picks)), (.sl (List.map eTTake a0.State.Takes)), (.int .i64 a0.n), (.int .i64 a0.node.Start), (.sl (List.map eTState a0.node.States)), (.int .i64 a0.g.N), (.sl (List.map eA2I a0.g.Links))]] [])], [.d (.fn 81 [.inl [(.int .i64 a0.State.Mode), (.sl (List.map eI a0.State.Waits)), (.sl (List.map eTPick a0.State.Picks)), (.sl (List.map eTTake a0.State.Takes)), (.int .i64 a0.n), (.int .i64 a0.node.Start), (.sl (List.map eTState a0.node.States)), (.int .i64 a0.g.N), (.sl (List.map eA2I a0.g.Links))]] [])], [.d (.fn 82 [.inl [(.int .i64 a0.State.Mode), (.sl (List.map eI a0.State.Waits)), (.sl (List.map eTPick a0.State.Picks)), (.sl (List.map eTTake a0.State.Takes)), (.int .i64 a0.n), (.int .i64 a0.node.Start), (.sl (List.map eTState a0.node.States)), (.int .i64 a0.g.N), (.sl (List.map eA2I a0.g.Links))]] [])]])))]
        refine rounds_succ.mpr ?_
        refine qs 56 [] [21, 22, 23, 24] [(1, 0), (19, 0)] h fun ac wd h => ?_
        refine wp_seq ?_
        refine kT h ?_
        refine wp_skip ?_
        change Code.wp Try.prog _ _ _ _
        refine wp_seq ?_
        refine wp_block ?_
        refine qs 60 [] [5, 21, 22, 23] [(1, 0), (19, 0), (58, 0)] h fun ac wd h => ?_
        obtain ⟨r191, hc192, hD⟩ := oB hD
        have hc192k := L_table_place_takes_ok hc192
        refine qs 64 [factE 62 hc192k] [21, 22, 23, 30] [(1, 0), (19, 0)] h fun ac wd h => ?_
        rcases i2b hD with ⟨hb193, hD⟩ | ⟨hb193, hD⟩
        ·
          refine kF h ?_
          refine wp_skip ?_
          change Code.wp Try.prog _ _ _ _
          refine qe [] [21, 22, 23] [(1, 0), (19, 0)] h fun ac wd h => ?_
          change Code.rounds Try.prog _ _ _ _ _
          have h := h.sm 66 [(21, .one (.own (19, 0) 5)), (22, .one (.d (.int .i64 5))), (23, .one (.d (.int .i64 4)))]
            [((1, 0), some (.box 127 (cTPlace r161.2))), ((19, 0), some (.row 152 1 ([[.fnp 78 [((1, 0), 0)]], [.d (.fn 79 [.inl [(.int .i64 a0.State.Mode), (.sl (List.map eI a0.State.Waits)), (.sl (List.map eTPick a0.State.Picks)), (.sl (List.map eTTake a0.State.Takes)), (.int .i64 a0.n), (.int .i64 a0.node.Start), (.sl (List.map eTState a0.node.States)), (.int .i64 a0.g.N), (.sl (List.map eA2I a0.g.Links))]] [])], [.d (.fn 80 [.inl [(.int .i64 a0.State.Mode), (.sl (List.map eI a0.State.Waits)), (.sl (List.map eTPick a0.State.Picks)), (.sl (List.map eTTake a0.State.Takes)), (.int .i64 a0.n), (.int .i64 a0.node.Start), (.sl (List.map eTState a0.node.States)), (.int .i64 a0.g.N), (.sl (List.map eA2I a0.g.Links))]] [])], [.d (.fn 81 [.inl [(.int .i64 a0.State.Mode), (.sl (List.map eI a0.State.Waits)), (.sl (List.map eTPick a0.State.Picks)), (.sl (List.map eTTake a0.State.Takes)), (.int .i64 a0.n), (.int .i64 a0.node.Start), (.sl (List.map eTState a0.node.States)), (.int .i64 a0.g.N), (.sl (List.map eA2I a0.g.Links))]] [])], [.d (.fn 82 [.inl [(.int .i64 a0.State.Mode), (.sl (List.map eI a0.State.Waits)), (.sl (List.map eTPick a0.State.Picks)), (.sl (List.map eTTake a0.State.Takes)), (.int .i64 a0.n), (.int .i64 a0.node.Start), (.sl (List.map eTState a0.node.States)), (.int .i64 a0.g.N), (.sl (List.map eA2I a0.g.Links))]] [])]])))]
          refine rounds_succ.mpr ?_
          refine qs 67 [] [21, 22, 23, 24] [(1, 0), (19, 0)] h fun ac wd h => ?_
          refine wp_seq ?_
          refine kT h ?_
          refine wp_skip ?_
          change Code.wp Try.prog _ _ _ _
          refine wp_seq ?_
          refine wp_block ?_
          refine qs 71 [] [5, 21, 22, 23] [(1, 0), (19, 0), (69, 0)] h fun ac wd h => ?_
          obtain ⟨r201, hc202, hD⟩ := oB hD
          have hc202k := L_table_place_stays_ok hc202
          refine qs 75 [factE 73 hc202k] [21, 22, 23, 30] [(1, 0), (19, 0)] h fun ac wd h => ?_
          rcases i2b hD with ⟨hb203, hD⟩ | ⟨hb203, hD⟩
          ·
            refine kF h ?_
            refine wp_skip ?_
            change Code.wp Try.prog _ _ _ _
            refine qe [] [21, 22, 23] [(1, 0), (19, 0)] h fun ac wd h => ?_
            change Code.rounds Try.prog _ _ _ _ _
            have h := h.sm 77 [(21, .one (.own (19, 0) 5)), (22, .one (.d (.int .i64 5))), (23, .one (.d (.int .i64 5)))]
              [((1, 0), some (.box 127 (cTPlace r161.2))), ((19, 0), some (.row 152 1 ([[.fnp 78 [((1, 0), 0)]], [.d (.fn 79 [.inl [(.int .i64 a0.State.Mode), (.sl (List.map eI a0.State.Waits)), (.sl (List.map eTPick a0.State.Picks)), (.sl (List.map eTTake a0.State.Takes)), (.int .i64 a0.n), (.int .i64 a0.node.Start), (.sl (List.map eTState a0.node.States)), (.int .i64 a0.g.N), (.sl (List.map eA2I a0.g.Links))]] [])], [.d (.fn 80 [.inl [(.int .i64 a0.State.Mode), (.sl (List.map eI a0.State.Waits)), (.sl (List.map eTPick a0.State.Picks)), (.sl (List.map eTTake a0.State.Takes)), (.int .i64 a0.n), (.int .i64 a0.node.Start), (.sl (List.map eTState a0.node.States)), (.int .i64 a0.g.N), (.sl (List.map eA2I a0.g.Links))]] [])], [.d (.fn 81 [.inl [(.int .i64 a0.State.Mode), (.sl (List.map eI a0.State.Waits)), (.sl (List.map eTPick a0.State.Picks)), (.sl (List.map eTTake a0.State.Takes)), (.int .i64 a0.n), (.int .i64 a0.node.Start), (.sl (List.map eTState a0.node.States)), (.int .i64 a0.g.N), (.sl (List.map eA2I a0.g.Links))]] [])], [.d (.fn 82 [.inl [(.int .i64 a0.State.Mode), (.sl (List.map eI a0.State.Waits)), (.sl (List.map eTPick a0.State.Picks)), (.sl (List.map eTTake a0.State.Takes)), (.int .i64 a0.n), (.int .i64 a0.node.Start), (.sl (List.map eTState a0.node.States)), (.int .i64 a0.g.N), (.sl (List.map eA2I a0.g.Links))]] [])]])))]
            refine rounds_succ.mpr ?_
            refine qs 78 [] [21, 22, 23, 24] [(1, 0), (19, 0)] h fun ac wd h => ?_
            refine wp_seq ?_
            refine kF h ?_
            refine wp_exit ?_
            change Code.wp Try.prog _ _ _ _
            refine qs 79 [] [2] [] h fun ac wd h => ?_
            refine wp_ret ?_
            injection hD with hD
            subst hD
            exact rE h [.tmp 2]
          ·
            refine kT h ?_
            refine qs 76 [] [2] [] h fun ac wd h => ?_
            refine wp_ret ?_
            injection hD with hD
            subst hD
            exact rE h [.tmp 2]
        ·
          refine kT h ?_
          refine qs 65 [] [2] [] h fun ac wd h => ?_
          refine wp_ret ?_
          injection hD with hD
          subst hD
          exact rE h [.tmp 2]
      ·
        refine kT h ?_
        refine qs 54 [] [2] [] h fun ac wd h => ?_
        refine wp_ret ?_
        injection hD with hD
        subst hD
        exact rE h [.tmp 2]
    ·
      refine kT h ?_
      refine qs 43 [] [2] [] h fun ac wd h => ?_
      refine wp_ret ?_
      injection hD with hD
      subst hD
      exact rE h [.tmp 2]
  ·
    refine kT h ?_
    refine qs 32 [] [2] [] h fun ac wd h => ?_
    refine wp_ret ?_
    injection hD with hD
    subst hD
    exact rE h [.tmp 2]

theorem L_table_Right_ok {a0 : (List TNode)} {a1 : TGraph} {r : Bool} (hD : L_table_Right a0 a1 = some r) :
    CallH Try.prog 32 [.one (.d (.sl (List.map eTNode a0))), .agg (cTGraph a1)] []
      (.one (.d (.bool r))) [] := by
  unfold L_table_Right at hD
  refine rc Try.func32 rfl Try.ntmps32 fun S Φ P0 wb ac h => ?_
  refine qs 3 [] [0, 3] [(1, 0)] h fun ac wd h => ?_
  refine wp_seq ?_
  obtain ⟨e977, hE978, hD⟩ := Option.bind_eq_some_iff.1 hD
  refine r_seqJ (fun ac wd => ∃ (b976 : Bool), b976 = e977 ∧ SL ⟨wb, S, Φ, P0⟩ 65 13 [(0, .one (.d (.sl (List.map eTNode a0)))), (3, .one (.ptr (1, 0) 0)), (18, .one (.d (.bool b976)))] [((1, 0), some (.box 24 (cTGraph a1)))] ac wd) ?_ ?_
  · skip
    obtain ⟨r979, hc980, hE978⟩ := oB hE978
    rcases i2b hE978 with ⟨hb981, hE978⟩ | ⟨hb981, hE978⟩
    ·
      have hc980k := L_graph_Right_ok hc980
      refine qeg [factE 4 hc980k] [none, none, none, none, some (some 12, false), some (some 12, false), some (some 12, false), some (some 12, false), some (some 12, false), none] [0, 3, 18] [(1, 0)] h fun ac wd h => ?_
      injection hE978 with hE978; subst hE978
      exact ⟨!(decide ((a0.length : Int) = a1.N)), rfl, h.z⟩
    ·
      have hc980k := L_graph_Right_ok hc980
      refine qeg [factE 4 hc980k] [none, none, none, none, some (some 12, false), some (some 12, false), some (some 12, false), some (some 12, false), some (some 12, false), none] [0, 3, 18] [(1, 0)] h fun ac wd h => ?_
      injection hE978 with hE978; subst hE978
      exact ⟨true, rfl, h.z⟩
  · skip
    rintro ac wd ⟨b976, rfl, h⟩
    (try dsimp only at hD)
    rcases i2b hD with ⟨hb983, hD⟩ | ⟨hb983, hD⟩
    ·
      refine kT h ?_
      refine qs 14 [] [4] [] h fun ac wd h => ?_
      refine wp_ret ?_
      injection hD with hD
      subst hD
      exact rE h [.tmp 4]
    ·
      refine kF h ?_
      refine wp_skip ?_
      change Code.wp Try.prog _ _ _ _
      refine wp_seq ?_
      refine qs 16 [] [3, 19, 20, 21] [(1, 0)] h fun ac wd h => ?_
      refine wp_block ?_
      refine r_while (fun nf ac wd => ∃ (n1782 : Int), L_table_Right_l1 a0 a1 nf n1782 = some r ∧ SL ⟨wb, S, Φ, P0⟩ 65 146 [(3, .one (.ptr (1, 0) 0)), (19, .one (.d (.sl (List.map eTNode a0)))), (20, .one (.d (.int .i64 (a0.length : Int)))), (21, .one (.d (.int .i64 n1782)))] [((1, 0), some (.box 24 (cTGraph a1)))] ac wd) (((a0.length : Int) - 0).toNat + 1) ⟨0, hD, h.z⟩ (fun nf ac wd hJ => ?_)
      obtain ⟨n1782, hL1783, h⟩ := hJ
      cases nf with
      | zero => rw [L_table_Right_l1] at hL1783; cases hL1783
      | succ nf =>
        rw [L_table_Right_l1] at hL1783
        refine qs 147 [] [3, 19, 20, 21, 22] [(1, 0)] h fun ac wd h => ?_
        refine wp_seq ?_
        rcases i2 hL1783 with ⟨hb1785, hL1783⟩ | ⟨hb1785, hL1783⟩
        ·
          refine kT h ?_
          refine wp_skip ?_
          change Code.wp Try.prog _ _ _ _
          obtain ⟨e1863, hE1864, hL1783⟩ := Option.bind_eq_some_iff.1 hL1783
          refine r_seqJ (fun ac wd => (.inl ()) = e1863 ∧ SL ⟨wb, S, Φ, P0⟩ 65 209 [(3, .one (.ptr (1, 0) 0)), (19, .one (.d (.sl (List.map eTNode a0)))), (20, .one (.d (.int .i64 (a0.length : Int)))), (21, .one (.d (.int .i64 n1782)))] [((1, 0), some (.box 24 (cTGraph a1)))] ac wd) ?_ ?_
          · skip
            refine wp_block ?_
            obtain ⟨x1867, hx1868a, hx1868b, hx1868c, hx1868d, hE1864⟩ := aB hE1864
            refine qs 153 [] [3, 5, 6, 19, 20, 21] [(1, 0), (150, 0)] h fun ac wd h => ?_
            refine wp_seq ?_
            obtain ⟨e1873, hE1874, hE1864⟩ := Option.bind_eq_some_iff.1 hE1864
            refine r_seqJ (fun ac wd => ∃ (b1872 : Bool), b1872 = e1873 ∧ SL ⟨wb, S, Φ, P0⟩ 65 176 [(3, .one (.ptr (1, 0) 0)), (5, .one (.d (.int .i64 n1782))), (6, .one (.ptr (150, 0) 0)), (19, .one (.d (.sl (List.map eTNode a0)))), (20, .one (.d (.int .i64 (a0.length : Int)))), (21, .one (.d (.int .i64 n1782))), (48, .one (.d (.bool b1872)))] [((1, 0), some (.box 24 (cTGraph a1))), ((150, 0), some (.box 68 (cTNode x1867)))] ac wd) ?_ ?_
            · skip
              rcases i2 hE1874 with ⟨hb1875, hE1874⟩ | ⟨hb1875, hE1874⟩
              ·
                refine qeg [] [none, none, none, none, none, some (some 30, false), some (some 30, false), some (some 30, false), some (some 30, false), none, none, some (some 36, false), some (some 36, false), some (some 36, false), none, none, some (some 41, false), some (some 41, false), some (some 41, false), some (some 41, false), some (some 41, false), some (some 41, false), none] [3, 5, 6, 19, 20, 21, 48] [(1, 0), (150, 0)] h fun ac wd h => ?_
                injection hE1874 with hE1874; subst hE1874
                exact ⟨true, rfl, h.z⟩
              ·
                rcases i2 hE1874 with ⟨hb1876, hE1874⟩ | ⟨hb1876, hE1874⟩
                ·
                  refine qeg [] [none, none, none, none, none, some (some 30, false), some (some 30, false), some (some 30, false), some (some 30, false), none, none, some (some 36, false), some (some 36, false), some (some 36, false), none, none, some (some 41, false), some (some 41, false), some (some 41, false), some (some 41, false), some (some 41, false), some (some 41, false), none] [3, 5, 6, 19, 20, 21, 48] [(1, 0), (150, 0)] h fun ac wd h => ?_
                  injection hE1874 with hE1874; subst hE1874
                  exact ⟨true, rfl, h.z⟩
                ·
                  rcases i2 hE1874 with ⟨hb1877, hE1874⟩ | ⟨hb1877, hE1874⟩
                  ·
                    refine qeg [] [none, none, none, none, none, some (some 30, false), some (some 30, false), some (some 30, false), some (some 30, false), none, none, some (some 36, false), some (some 36, false), some (some 36, false), none, none, some (some 41, false), some (some 41, false), some (some 41, false), some (some 41, false), some (some 41, false), some (some 41, false), none] [3, 5, 6, 19, 20, 21, 48] [(1, 0), (150, 0)] h fun ac wd h => ?_
                    injection hE1874 with hE1874; subst hE1874
                    exact ⟨true, rfl, h.z⟩
                  ·
                    refine qeg [] [none, none, none, none, none, some (some 30, false), some (some 30, false), some (some 30, false), some (some 30, false), none, none, some (some 36, false), some (some 36, false), some (some 36, false), none, none, some (some 41, false), some (some 41, false), some (some 41, false), some (some 41, false), some (some 41, false), some (some 41, false), none] [3, 5, 6, 19, 20, 21, 48] [(1, 0), (150, 0)] h fun ac wd h => ?_
                    injection hE1874 with hE1874; subst hE1874
                    exact ⟨decide (x1867.Start ≥ (x1867.States.length : Int)), rfl, h.z⟩
            · skip
              rintro ac wd ⟨b1872, rfl, h⟩
              (try dsimp only at hE1864)
              rcases i2b hE1864 with ⟨hb1879, hE1864⟩ | ⟨hb1879, hE1864⟩
              ·
                refine kT h ?_
                refine qs 177 [] [4] [] h fun ac wd h => ?_
                refine wp_ret ?_
                injection hE1864 with hE1864
                subst hE1864
                (try dsimp only at hL1783)
                injection hL1783 with hL1783
                subst hL1783
                exact rE h [.tmp 4]
              ·
                refine kF h ?_
                refine wp_skip ?_
                change Code.wp Try.prog _ _ _ _
                refine qs 180 [] [3, 5, 6, 19, 20, 21, 50, 51, 52] [(1, 0), (150, 0)] h fun ac wd h => ?_
                obtain ⟨e1942, hE1943, hE1864⟩ := Option.bind_eq_some_iff.1 hE1864
                refine r_meetQ (fun ac wd => (.inl ()) = e1942 ∧ SL ⟨wb, S, Φ, P0⟩ 65 209 [(3, .one (.ptr (1, 0) 0)), (19, .one (.d (.sl (List.map eTNode a0)))), (20, .one (.d (.int .i64 (a0.length : Int)))), (21, .one (.d (.int .i64 n1782)))] [((1, 0), some (.box 24 (cTGraph a1)))] ac wd) ?_ ?_
                · skip
                  refine wp_block ?_
                  refine r_while (fun nf ac wd => ∃ (n1985 : Int), L_table_Right_l2 a1 n1782 x1867 nf n1985 = some e1942 ∧ SL ⟨wb, S, Φ, P0⟩ 65 208 [(3, .one (.ptr (1, 0) 0)), (5, .one (.d (.int .i64 n1782))), (6, .one (.ptr (150, 0) 0)), (19, .one (.d (.sl (List.map eTNode a0)))), (20, .one (.d (.int .i64 (a0.length : Int)))), (21, .one (.d (.int .i64 n1782))), (50, .one (.d (.sl (List.map eTState x1867.States)))), (51, .one (.d (.int .i64 (x1867.States.length : Int)))), (52, .one (.d (.int .i64 n1985)))] [((1, 0), some (.box 24 (cTGraph a1))), ((150, 0), some (.box 68 (cTNode x1867)))] ac wd) (((x1867.States.length : Int) - 0).toNat + 1) ⟨0, hE1943, h.z⟩ (fun nf ac wd hJ => ?_)
                  obtain ⟨n1985, hL1986, h⟩ := hJ
                  cases nf with
                  | zero => rw [L_table_Right_l2] at hL1986; cases hL1986
                  | succ nf =>
                    rw [L_table_Right_l2] at hL1986
                    refine qs 209 [] [3, 5, 6, 19, 20, 21, 50, 51, 52, 53] [(1, 0), (150, 0)] h fun ac wd h => ?_
                    refine wp_seq ?_
                    rcases i2 hL1986 with ⟨hb1988, hL1986⟩ | ⟨hb1988, hL1986⟩
                    ·
                      refine kT h ?_
                      refine wp_skip ?_
                      change Code.wp Try.prog _ _ _ _
                      refine wp_seq ?_
                      refine wp_block ?_
                      obtain ⟨x2000, hx2001a, hx2001b, hx2001c, hx2001d, hL1986⟩ := aB hL1986
                      refine qs 213 [] [3, 5, 6, 8, 19, 20, 21, 50, 51, 52] [(1, 0), (150, 0), (211, 0)] h fun ac wd h => ?_
                      obtain ⟨r2004, hc2005, hL1986⟩ := oB hL1986
                      have hc2005k := L_table_place_may_ok hc2005
                      refine qs 220 [factE 218 hc2005k] [3, 5, 6, 19, 20, 21, 50, 51, 52, 62] [(1, 0), (150, 0)] h fun ac wd h => ?_
                      rcases i2b hL1986 with ⟨hb2006, hL1986⟩ | ⟨hb2006, hL1986⟩
                      ·
                        refine kF h ?_
                        refine wp_skip ?_
                        change Code.wp Try.prog _ _ _ _
                        refine qe [] [3, 5, 6, 19, 20, 21, 50, 51, 52] [(1, 0), (150, 0)] h fun ac wd h => ?_
                        exact ⟨nf, Nat.lt_succ_self nf, (IntKind.wrap .i64 (n1985 + 1)), hL1986, h.z⟩
                      ·
                        refine kT h ?_
                        refine qs 221 [] [4] [] h fun ac wd h => ?_
                        refine wp_ret ?_
                        injection hL1986 with hL1986
                        subst hL1986
                        (try dsimp only at hE1864)
                        injection hE1864 with hE1864
                        subst hE1864
                        (try dsimp only at hL1783)
                        injection hL1783 with hL1783
                        subst hL1783
                        exact rE h [.tmp 4]
                    ·
                      refine kF h ?_
                      refine wp_exit ?_
                      injection hL1986 with hL1986; subst hL1986
                      exact ⟨rfl, h.z⟩
                · skip
                  rintro ac wd ⟨rfl, h⟩
                  (try dsimp only at hE1864)
                  injection hE1864 with hE1864; subst hE1864
                  exact ⟨rfl, h.z⟩
          · skip
            rintro ac wd ⟨rfl, h⟩
            (try dsimp only at hL1783)
            refine qe [] [3, 19, 20, 21] [(1, 0)] h fun ac wd h => ?_
            exact ⟨nf, Nat.lt_succ_self nf, (IntKind.wrap .i64 (n1782 + 1)), hL1783, h.z⟩
        ·
          refine kF h ?_
          refine wp_exit ?_
          change Code.wp Try.prog _ _ _ _
          refine qs 148 [] [4] [] h fun ac wd h => ?_
          refine wp_ret ?_
          injection hL1783 with hL1783
          subst hL1783
          exact rE h [.tmp 4]

theorem L_law04_two_own {r : (List TNode)} (hD : L_law04_two = some r) :
    CallH Try.prog 60 [] []
      (.one (.own (1, 0) r.length)) [((1, 0), some (.row 68 2 (openRows cols_68 (List.map eTNode r))))] := by
  unfold L_law04_two at hD
  refine rc Try.func60 rfl Try.ntmps60 fun S Φ P0 wb ac h => ?_
  refine qs 2 [] [] [] h fun ac wd h => ?_
  refine qs 19 [] [0] [(3, 0), (5, 0), (8, 0), (10, 0), (12, 0), (15, 0), (17, 0)] h fun ac wd h => ?_
  have h := h.fL (cols := (fun _ => .sc)) (5, 0) (3, 0) ([]) [.d (.int .i64 1), .own (3, 0) 1] 1 (List.map eTSend [(TSend.mk 1 1)]) (sc_81 _)
  have h := h.sm 19 [(0, .one (.own (17, 0) (1 + 1)))]
    [((5, 0), some (.row 74 2 ([[.d (.int .i64 1), .tr (.sl 81 2 (fun _ => .sc)) (.sl (List.map eTSend [(TSend.mk 1 1)]))]]))), ((8, 0), some (.row 86 4 (([[.d (.int .i64 1), .nil, .own (5, 0) 1, .nil]] ++ [[.d (.int .i64 0), .nil, .nil, .nil]])))), ((10, 0), some (.row 3 1 ([[.d (.int .i64 0)]]))), ((12, 0), some (.row 88 3 ([[.d (.int .i64 0), .d (.int .i64 1), .d (.int .i64 1)]]))), ((15, 0), some (.row 86 4 (([[.d (.int .i64 2), .own (10, 0) 1, .nil, .own (12, 0) 1]] ++ [[.d (.int .i64 0), .nil, .nil, .nil]])))), ((17, 0), some (.row 68 2 (([[.d (.int .i64 0), .own (8, 0) (1 + 1)]] ++ [[.d (.int .i64 0), .own (15, 0) (1 + 1)]]))))]
  have h := h.nilTr (8, 0) (l := ([[.d (.int .i64 1), .nil, .own (5, 0) 1, .nil]] ++ [[.d (.int .i64 0), .nil, .nil, .nil]])) (l' := ([[.d (.int .i64 1), .tr (.sl 3 1 (fun _ => .sc)) (.sl (List.map eI [])), .own (5, 0) 1, .tr (.sl 88 3 (fun _ => .sc)) (.sl (List.map eTTake []))]] ++ [[.d (.int .i64 0), .tr (.sl 3 1 (fun _ => .sc)) (.sl (List.map eI [])), .tr (.sl 74 2 cols_74) (.sl (List.map eTPick [])), .tr (.sl 88 3 (fun _ => .sc)) (.sl (List.map eTTake []))]])) (by simp only [EZ, simprocAttr] <;> rfl) (RowsTo.append (RowsTo.cons (RowTo.cons (.inl rfl) (RowTo.cons (.inr (.inr ⟨rfl, _, _, _, rfl⟩)) (RowTo.cons (.inl rfl) (RowTo.cons (.inr (.inr ⟨rfl, _, _, _, rfl⟩)) RowTo.nil)))) (RowsTo.refl [])) (RowsTo.cons (RowTo.cons (.inl rfl) (RowTo.cons (.inr (.inr ⟨rfl, _, _, _, rfl⟩)) (RowTo.cons (.inr (.inr ⟨rfl, _, _, _, rfl⟩)) (RowTo.cons (.inr (.inr ⟨rfl, _, _, _, rfl⟩)) RowTo.nil)))) (RowsTo.refl [])))
  have h := h.sm 19 [(0, .one (.own (17, 0) (1 + 1)))]
    [((5, 0), some (.row 74 2 (openRows cols_74 (List.map eTPick ([(TPick.mk 1 [(TSend.mk 1 1)])]))))), ((8, 0), some (.row 86 4 (([[.d (.int .i64 1), .tr (.sl 3 1 (fun _ => .sc)) (.sl (List.map eI [])), .own (5, 0) 1, .tr (.sl 88 3 (fun _ => .sc)) (.sl (List.map eTTake []))]] ++ [[.d (.int .i64 0), .tr (.sl 3 1 (fun _ => .sc)) (.sl (List.map eI [])), .tr (.sl 74 2 cols_74) (.sl (List.map eTPick [])), .tr (.sl 88 3 (fun _ => .sc)) (.sl (List.map eTTake []))]])))), ((10, 0), some (.row 3 1 ([[.d (.int .i64 0)]]))), ((12, 0), some (.row 88 3 ([[.d (.int .i64 0), .d (.int .i64 1), .d (.int .i64 1)]]))), ((15, 0), some (.row 86 4 (([[.d (.int .i64 2), .own (10, 0) 1, .nil, .own (12, 0) 1]] ++ [[.d (.int .i64 0), .nil, .nil, .nil]])))), ((17, 0), some (.row 68 2 (([[.d (.int .i64 0), .own (8, 0) (1 + 1)]] ++ [[.d (.int .i64 0), .own (15, 0) (1 + 1)]]))))]
  have h := h.f0 (cols := cols_74) (l := ([[.d (.int .i64 1), .tr (.sl 3 1 (fun _ => .sc)) (.sl (List.map eI [])), .own (5, 0) 1, .tr (.sl 88 3 (fun _ => .sc)) (.sl (List.map eTTake []))]] ++ [[.d (.int .i64 0), .tr (.sl 3 1 (fun _ => .sc)) (.sl (List.map eI [])), .tr (.sl 74 2 cols_74) (.sl (List.map eTPick [])), .tr (.sl 88 3 (fun _ => .sc)) (.sl (List.map eTTake []))]])) (r := [.d (.int .i64 1), .tr (.sl 3 1 (fun _ => .sc)) (.sl (List.map eI [])), .own (5, 0) 1, .tr (.sl 88 3 (fun _ => .sc)) (.sl (List.map eTTake []))]) (L := List.map eTPick ([(TPick.mk 1 [(TSend.mk 1 1)])])) (8, 0) (5, 0) 0 2 (sc_74 _)
  have h := h.sm 19 [(0, .one (.own (17, 0) (1 + 1)))]
    [((8, 0), some (.row 86 4 (([[.d (.int .i64 1), .tr (.sl 3 1 (fun _ => .sc)) (.sl (List.map eI [])), .tr (.sl 74 2 cols_74) (.sl (List.map eTPick ([(TPick.mk 1 [(TSend.mk 1 1)])]))), .tr (.sl 88 3 (fun _ => .sc)) (.sl (List.map eTTake []))]] ++ [[.d (.int .i64 0), .tr (.sl 3 1 (fun _ => .sc)) (.sl (List.map eI [])), .tr (.sl 74 2 cols_74) (.sl (List.map eTPick [])), .tr (.sl 88 3 (fun _ => .sc)) (.sl (List.map eTTake []))]])))), ((10, 0), some (.row 3 1 ([[.d (.int .i64 0)]]))), ((12, 0), some (.row 88 3 ([[.d (.int .i64 0), .d (.int .i64 1), .d (.int .i64 1)]]))), ((15, 0), some (.row 86 4 (([[.d (.int .i64 2), .own (10, 0) 1, .nil, .own (12, 0) 1]] ++ [[.d (.int .i64 0), .nil, .nil, .nil]])))), ((17, 0), some (.row 68 2 (([[.d (.int .i64 0), .own (8, 0) (1 + 1)]] ++ [[.d (.int .i64 0), .own (15, 0) (1 + 1)]]))))]
  have h := h.nilTr (15, 0) (l := ([[.d (.int .i64 2), .own (10, 0) 1, .nil, .own (12, 0) 1]] ++ [[.d (.int .i64 0), .nil, .nil, .nil]])) (l' := ([[.d (.int .i64 2), .own (10, 0) 1, .tr (.sl 74 2 cols_74) (.sl (List.map eTPick [])), .own (12, 0) 1]] ++ [[.d (.int .i64 0), .tr (.sl 3 1 (fun _ => .sc)) (.sl (List.map eI [])), .tr (.sl 74 2 cols_74) (.sl (List.map eTPick [])), .tr (.sl 88 3 (fun _ => .sc)) (.sl (List.map eTTake []))]])) (by simp only [EZ, simprocAttr] <;> rfl) (RowsTo.append (RowsTo.cons (RowTo.cons (.inl rfl) (RowTo.cons (.inl rfl) (RowTo.cons (.inr (.inr ⟨rfl, _, _, _, rfl⟩)) (RowTo.cons (.inl rfl) RowTo.nil)))) (RowsTo.refl [])) (RowsTo.cons (RowTo.cons (.inl rfl) (RowTo.cons (.inr (.inr ⟨rfl, _, _, _, rfl⟩)) (RowTo.cons (.inr (.inr ⟨rfl, _, _, _, rfl⟩)) (RowTo.cons (.inr (.inr ⟨rfl, _, _, _, rfl⟩)) RowTo.nil)))) (RowsTo.refl [])))
  have h := h.sm 19 [(0, .one (.own (17, 0) (1 + 1)))]
    [((8, 0), some (.row 86 4 (openRows cols_86 (List.map eTState ([(TState.mk 1 [] ([(TPick.mk 1 [(TSend.mk 1 1)])]) [])] ++ [(TState.mk 0 [] [] [])]))))), ((10, 0), some (.row 3 1 (dat (List.map eI [0])))), ((12, 0), some (.row 88 3 (dat (List.map eTTake [(TTake.mk 0 1 1)])))), ((15, 0), some (.row 86 4 (([[.d (.int .i64 2), .own (10, 0) 1, .tr (.sl 74 2 cols_74) (.sl (List.map eTPick [])), .own (12, 0) 1]] ++ [[.d (.int .i64 0), .tr (.sl 3 1 (fun _ => .sc)) (.sl (List.map eI [])), .tr (.sl 74 2 cols_74) (.sl (List.map eTPick [])), .tr (.sl 88 3 (fun _ => .sc)) (.sl (List.map eTTake []))]])))), ((17, 0), some (.row 68 2 (([[.d (.int .i64 0), .own (8, 0) (1 + 1)]] ++ [[.d (.int .i64 0), .own (15, 0) (1 + 1)]]))))]
  have h := h.f0 (cols := (fun _ => .sc)) (l := ([[.d (.int .i64 2), .own (10, 0) 1, .tr (.sl 74 2 cols_74) (.sl (List.map eTPick [])), .own (12, 0) 1]] ++ [[.d (.int .i64 0), .tr (.sl 3 1 (fun _ => .sc)) (.sl (List.map eI [])), .tr (.sl 74 2 cols_74) (.sl (List.map eTPick [])), .tr (.sl 88 3 (fun _ => .sc)) (.sl (List.map eTTake []))]])) (r := [.d (.int .i64 2), .own (10, 0) 1, .tr (.sl 74 2 cols_74) (.sl (List.map eTPick [])), .own (12, 0) 1]) (L := List.map eI [0]) (15, 0) (10, 0) 0 1 (sc_3 _)
  have h := h.sm 19 [(0, .one (.own (17, 0) (1 + 1)))]
    [((8, 0), some (.row 86 4 (openRows cols_86 (List.map eTState ([(TState.mk 1 [] ([(TPick.mk 1 [(TSend.mk 1 1)])]) [])] ++ [(TState.mk 0 [] [] [])]))))), ((12, 0), some (.row 88 3 (dat (List.map eTTake [(TTake.mk 0 1 1)])))), ((15, 0), some (.row 86 4 (([[.d (.int .i64 2), .tr (.sl 3 1 (fun _ => .sc)) (.sl (List.map eI [0])), .tr (.sl 74 2 cols_74) (.sl (List.map eTPick [])), .own (12, 0) 1]] ++ [[.d (.int .i64 0), .tr (.sl 3 1 (fun _ => .sc)) (.sl (List.map eI [])), .tr (.sl 74 2 cols_74) (.sl (List.map eTPick [])), .tr (.sl 88 3 (fun _ => .sc)) (.sl (List.map eTTake []))]])))), ((17, 0), some (.row 68 2 (([[.d (.int .i64 0), .own (8, 0) (1 + 1)]] ++ [[.d (.int .i64 0), .own (15, 0) (1 + 1)]]))))]
  have h := h.f0 (cols := (fun _ => .sc)) (l := ([[.d (.int .i64 2), .tr (.sl 3 1 (fun _ => .sc)) (.sl (List.map eI [0])), .tr (.sl 74 2 cols_74) (.sl (List.map eTPick [])), .own (12, 0) 1]] ++ [[.d (.int .i64 0), .tr (.sl 3 1 (fun _ => .sc)) (.sl (List.map eI [])), .tr (.sl 74 2 cols_74) (.sl (List.map eTPick [])), .tr (.sl 88 3 (fun _ => .sc)) (.sl (List.map eTTake []))]])) (r := [.d (.int .i64 2), .tr (.sl 3 1 (fun _ => .sc)) (.sl (List.map eI [0])), .tr (.sl 74 2 cols_74) (.sl (List.map eTPick [])), .own (12, 0) 1]) (L := List.map eTTake [(TTake.mk 0 1 1)]) (15, 0) (12, 0) 0 3 (sc_88 _)
  have h := h.sm 19 [(0, .one (.own (17, 0) (1 + 1)))]
    [((8, 0), some (.row 86 4 (openRows cols_86 (List.map eTState ([(TState.mk 1 [] ([(TPick.mk 1 [(TSend.mk 1 1)])]) [])] ++ [(TState.mk 0 [] [] [])]))))), ((15, 0), some (.row 86 4 (([[.d (.int .i64 2), .tr (.sl 3 1 (fun _ => .sc)) (.sl (List.map eI [0])), .tr (.sl 74 2 cols_74) (.sl (List.map eTPick [])), .tr (.sl 88 3 (fun _ => .sc)) (.sl (List.map eTTake [(TTake.mk 0 1 1)]))]] ++ [[.d (.int .i64 0), .tr (.sl 3 1 (fun _ => .sc)) (.sl (List.map eI [])), .tr (.sl 74 2 cols_74) (.sl (List.map eTPick [])), .tr (.sl 88 3 (fun _ => .sc)) (.sl (List.map eTTake []))]])))), ((17, 0), some (.row 68 2 (([[.d (.int .i64 0), .own (8, 0) (1 + 1)]] ++ [[.d (.int .i64 0), .own (15, 0) (1 + 1)]]))))]
  have h := h.fL (cols := cols_86) (17, 0) (15, 0) ([[.d (.int .i64 0), .own (8, 0) (1 + 1)]]) [.d (.int .i64 0), .own (15, 0) (1 + 1)] 1 (List.map eTState ([(TState.mk 2 [0] [] [(TTake.mk 0 1 1)])] ++ [(TState.mk 0 [] [] [])])) (sc_86 _)
  have h := h.sm 19 [(0, .one (.own (17, 0) (1 + 1)))]
    [((8, 0), some (.row 86 4 (openRows cols_86 (List.map eTState ([(TState.mk 1 [] ([(TPick.mk 1 [(TSend.mk 1 1)])]) [])] ++ [(TState.mk 0 [] [] [])]))))), ((17, 0), some (.row 68 2 (([[.d (.int .i64 0), .own (8, 0) (1 + 1)]] ++ [[.d (.int .i64 0), .tr (.sl 86 4 cols_86) (.sl (List.map eTState ([(TState.mk 2 [0] [] [(TTake.mk 0 1 1)])] ++ [(TState.mk 0 [] [] [])])))]]))))]
  have h := h.f0 (cols := cols_86) (l := ([[.d (.int .i64 0), .own (8, 0) (1 + 1)]] ++ [[.d (.int .i64 0), .tr (.sl 86 4 cols_86) (.sl (List.map eTState ([(TState.mk 2 [0] [] [(TTake.mk 0 1 1)])] ++ [(TState.mk 0 [] [] [])])))]])) (r := [.d (.int .i64 0), .own (8, 0) (1 + 1)]) (L := List.map eTState ([(TState.mk 1 [] ([(TPick.mk 1 [(TSend.mk 1 1)])]) [])] ++ [(TState.mk 0 [] [] [])])) (17, 0) (8, 0) 0 1 (sc_86 _)
  have h := h.sm 19 [(0, .one (.own (17, 0) (1 + 1)))]
    [((17, 0), some (.row 68 2 (([[.d (.int .i64 0), .tr (.sl 86 4 cols_86) (.sl (List.map eTState ([(TState.mk 1 [] ([(TPick.mk 1 [(TSend.mk 1 1)])]) [])] ++ [(TState.mk 0 [] [] [])])))]] ++ [[.d (.int .i64 0), .tr (.sl 86 4 cols_86) (.sl (List.map eTState ([(TState.mk 2 [0] [] [(TTake.mk 0 1 1)])] ++ [(TState.mk 0 [] [] [])])))]]))))]
  refine wp_ret ?_
  have h := h.sm 19 [(0, .one (.own (17, 0) (1 + 1)))]
    [((17, 0), some (.row 68 2 (openRows cols_68 (List.map eTNode ([(TNode.mk 0 ([(TState.mk 1 [] ([(TPick.mk 1 [(TSend.mk 1 1)])]) [])] ++ [(TState.mk 0 [] [] [])]))] ++ [(TNode.mk 0 ([(TState.mk 2 [0] [] [(TTake.mk 0 1 1)])] ++ [(TState.mk 0 [] [] [])]))])))))]
  have h := h.sw (1, 0) (17, 0) 19
  have h := h.sm 19 [(0, .one (.own (1, 0) (1 + 1)))]
    [((1, 0), some (.row 68 2 (openRows cols_68 (List.map eTNode ([(TNode.mk 0 ([(TState.mk 1 [] ([(TPick.mk 1 [(TSend.mk 1 1)])]) [])] ++ [(TState.mk 0 [] [] [])]))] ++ [(TNode.mk 0 ([(TState.mk 2 [0] [] [(TTake.mk 0 1 1)])] ++ [(TState.mk 0 [] [] [])]))])))))]
  injection hD with hD
  subst hD
  exact rO h [.tmp 0] [(1, 0)]
theorem L_law04_two_ok {r : (List TNode)} (hD : L_law04_two = some r) :
    CallH Try.prog 60 [] []
      (.one (.d (.sl (List.map eTNode r)))) [] :=
  (L_law04_two_own hD).fr

theorem L_graph_Full_own {a0 : Int} {r : TGraph} (hD : L_graph_Full a0 = some r) :
    CallH Try.prog 61 [.one (.d (.int .i64 a0))] []
      (.agg [.d (.int .i64 r.N), .own (1, 0) r.Links.length]) [((1, 0), some (.row 134 2 (dat (List.map eA2I r.Links))))] := by
  unfold L_graph_Full at hD
  refine rc Try.func61 rfl Try.ntmps61 fun S Φ P0 wb ac h => ?_
  refine qs 2 [] [0, 2] [(1, 0)] h fun ac wd h => ?_
  refine qs 8 [] [2, 3] [(1, 0), (6, 0)] h fun ac wd h => ?_
  refine wp_seq ?_
  refine qs 11 [] [2, 3, 11, 12] [(1, 0), (6, 0)] h fun ac wd h => ?_
  refine wp_block ?_
  have h := SL.bornB h (6, 0) 1 134 2 (by simp only [EZ, simprocAttr, *] <;> rfl) (by simp only [EZ, simprocAttr, *] <;> rfl)
  refine r_while (fun nf ac wd => ∃ (n771 : Int) (l772 : List A2I), L_graph_Full_l1 a0 nf n771 l772 = some r ∧ SL ⟨wb, S, Φ, P0⟩ 34 105 [(2, .one (.ptr (1, 0) 0)), (3, .one (.ptr (6, 0) 0)), (11, .one (.d (.int .i64 (min (max a0 1) 6)))), (12, .one (.d (.int .i64 n771)))] [((1, 0), some (.box 24 [.d (.int .i64 0), .nil])), ((6, 0), some (.box 24 [.d (.int .i64 (min (max a0 1) 6)), .own (11, 0) l772.length])), ((11, 0), some (.row 134 2 (dat (List.map eA2I l772))))] ac wd) (((min (max a0 1) 6) - 0).toNat + 1) ⟨0, ([] : List A2I), hD, h.z⟩ (fun nf ac wd hJ => ?_)
  obtain ⟨n771, l772, hL773, h⟩ := hJ
  cases nf with
  | zero => rw [L_graph_Full_l1] at hL773; cases hL773
  | succ nf =>
    rw [L_graph_Full_l1] at hL773
    refine qs 106 [] [2, 3, 11, 12, 13] [(1, 0), (6, 0), (11, 0)] h fun ac wd h => ?_
    refine wp_seq ?_
    rcases i2 hL773 with ⟨hb775, hL773⟩ | ⟨hb775, hL773⟩
    ·
      refine kT h ?_
      refine wp_skip ?_
      change Code.wp Try.prog _ _ _ _
      obtain ⟨e808, hE809, hL773⟩ := Option.bind_eq_some_iff.1 hL773
      refine r_seqJ (fun ac wd => ∃ (l807 : List A2I), l807 = e808 ∧ SL ⟨wb, S, Φ, P0⟩ 34 146 [(2, .one (.ptr (1, 0) 0)), (3, .one (.ptr (6, 0) 0)), (11, .one (.d (.int .i64 (min (max a0 1) 6)))), (12, .one (.d (.int .i64 n771)))] [((1, 0), some (.box 24 [.d (.int .i64 0), .nil])), ((6, 0), some (.box 24 [.d (.int .i64 (min (max a0 1) 6)), .own (11, 0) l807.length])), ((11, 0), some (.row 134 2 (dat (List.map eA2I l807))))] ac wd) ?_ ?_
      · skip
        refine wp_block ?_
        refine qs 108 [] [2, 3, 4, 11, 12] [(1, 0), (6, 0), (11, 0)] h fun ac wd h => ?_
        refine qs 111 [] [2, 3, 4, 11, 12, 16, 17] [(1, 0), (6, 0), (11, 0)] h fun ac wd h => ?_
        obtain ⟨e842, hE843, hE809⟩ := Option.bind_eq_some_iff.1 hE809
        refine r_meetQ (fun ac wd => ∃ (l841 : List A2I), l841 = e842 ∧ SL ⟨wb, S, Φ, P0⟩ 34 146 [(2, .one (.ptr (1, 0) 0)), (3, .one (.ptr (6, 0) 0)), (11, .one (.d (.int .i64 (min (max a0 1) 6)))), (12, .one (.d (.int .i64 n771)))] [((1, 0), some (.box 24 [.d (.int .i64 0), .nil])), ((6, 0), some (.box 24 [.d (.int .i64 (min (max a0 1) 6)), .own (11, 0) l841.length])), ((11, 0), some (.row 134 2 (dat (List.map eA2I l841))))] ac wd) ?_ ?_
        · skip
          refine wp_block ?_
          refine r_while (fun nf ac wd => ∃ (n864 : Int) (l865 : List A2I), L_graph_Full_l2 a0 n771 nf n864 l865 = some e842 ∧ SL ⟨wb, S, Φ, P0⟩ 34 145 [(2, .one (.ptr (1, 0) 0)), (3, .one (.ptr (6, 0) 0)), (4, .one (.d (.int .i64 n771))), (11, .one (.d (.int .i64 (min (max a0 1) 6)))), (12, .one (.d (.int .i64 n771))), (16, .one (.d (.int .i64 (min (max a0 1) 6)))), (17, .one (.d (.int .i64 n864)))] [((1, 0), some (.box 24 [.d (.int .i64 0), .nil])), ((6, 0), some (.box 24 [.d (.int .i64 (min (max a0 1) 6)), .own (11, 0) l865.length])), ((11, 0), some (.row 134 2 (dat (List.map eA2I l865))))] ac wd) (((min (max a0 1) 6) - 0).toNat + 1) ⟨0, l772, hE843, h.z⟩ (fun nf ac wd hJ => ?_)
          obtain ⟨n864, l865, hL866, h⟩ := hJ
          cases nf with
          | zero => rw [L_graph_Full_l2] at hL866; cases hL866
          | succ nf =>
            rw [L_graph_Full_l2] at hL866
            refine qs 146 [] [2, 3, 4, 11, 12, 16, 17, 18] [(1, 0), (6, 0), (11, 0)] h fun ac wd h => ?_
            refine wp_seq ?_
            rcases i2 hL866 with ⟨hb868, hL866⟩ | ⟨hb868, hL866⟩
            ·
              refine kT h ?_
              refine wp_skip ?_
              change Code.wp Try.prog _ _ _ _
              obtain ⟨e872, hE873, hL866⟩ := Option.bind_eq_some_iff.1 hL866
              refine r_seqJ (fun ac wd => ∃ (l871 : List A2I), l871 = e872 ∧ SL ⟨wb, S, Φ, P0⟩ 34 160 [(2, .one (.ptr (1, 0) 0)), (3, .one (.ptr (6, 0) 0)), (4, .one (.d (.int .i64 n771))), (11, .one (.d (.int .i64 (min (max a0 1) 6)))), (12, .one (.d (.int .i64 n771))), (16, .one (.d (.int .i64 (min (max a0 1) 6)))), (17, .one (.d (.int .i64 n864)))] [((1, 0), some (.box 24 [.d (.int .i64 0), .nil])), ((6, 0), some (.box 24 [.d (.int .i64 (min (max a0 1) 6)), .own (11, 0) l871.length])), ((11, 0), some (.row 134 2 (dat (List.map eA2I l871))))] ac wd) ?_ ?_
              · skip
                refine wp_block ?_
                refine qs 148 [] [2, 3, 4, 5, 11, 12, 16, 17] [(1, 0), (6, 0), (11, 0)] h fun ac wd h => ?_
                refine qs 151 [] [2, 3, 4, 5, 11, 12, 16, 17, 22] [(1, 0), (6, 0), (11, 0)] h fun ac wd h => ?_
                rcases i2e hE873 with ⟨hb874, hE873⟩ | ⟨hb874, hE873⟩
                ·
                  refine kF h ?_
                  refine wp_skip ?_
                  injection hE873 with hE873; subst hE873
                  exact ⟨l865, rfl, h.z⟩
                ·
                  refine kT h ?_
                  obtain ⟨ha875, hE873⟩ := iT hE873
                  refine qe [] [2, 3, 4, 11, 12, 16, 17] [(1, 0), (6, 0), (157, 0)] h fun ac wd h => ?_
                  have h := h.sw (11, 0) (157, 0) 160
                  injection hE873 with hE873; subst hE873
                  exact ⟨(l865 ++ [(A2I.mk n771 n864)]), rfl, h.z⟩
              · skip
                rintro ac wd ⟨l871, rfl, h⟩
                (try dsimp only at hL866)
                refine qe [] [2, 3, 4, 11, 12, 16, 17] [(1, 0), (6, 0), (11, 0)] h fun ac wd h => ?_
                exact ⟨nf, Nat.lt_succ_self nf, (IntKind.wrap .i64 (n864 + 1)), l871, hL866, h.z⟩
            ·
              refine kF h ?_
              refine wp_exit ?_
              injection hL866 with hL866; subst hL866
              exact ⟨l865, rfl, h.z⟩
        · skip
          rintro ac wd ⟨l841, rfl, h⟩
          (try dsimp only at hE809)
          injection hE809 with hE809; subst hE809
          exact ⟨l841, rfl, h.z⟩
      · skip
        rintro ac wd ⟨l807, rfl, h⟩
        (try dsimp only at hL773)
        refine qe [] [2, 3, 11, 12] [(1, 0), (6, 0), (11, 0)] h fun ac wd h => ?_
        exact ⟨nf, Nat.lt_succ_self nf, (IntKind.wrap .i64 (n771 + 1)), l807, hL773, h.z⟩
    ·
      refine kF h ?_
      refine wp_exit ?_
      change Code.wp Try.prog _ _ _ _
      refine qs 108 [] [2] [(1, 0), (11, 0)] h fun ac wd h => ?_
      refine wp_ret ?_
      have h := h.sm 108 [(2, .one (.ptr (1, 0) 0))]
        [((1, 0), some (.box 24 [.d (.int .i64 (min (max a0 1) 6)), .own (11, 0) l772.length])), ((11, 0), some (.row 134 2 (dat (List.map eA2I l772))))]
      have h := h.sw (1, 0) (11, 0) 108
      have h := h.sm 108 [(2, .one (.ptr (11, 0) 0))]
        [((1, 0), some (.row 134 2 (dat (List.map eA2I l772)))), ((11, 0), some (.box 24 [.d (.int .i64 (min (max a0 1) 6)), .own (1, 0) l772.length]))]
      injection hL773 with hL773
      subst hL773
      exact rO h [.cell 2 24] [(1, 0)]
theorem L_graph_Full_ok {a0 : Int} {r : TGraph} (hD : L_graph_Full a0 = some r) :
    CallH Try.prog 61 [.one (.d (.int .i64 a0))] []
      (.agg [.d (.int .i64 r.N), .d (.sl (List.map eA2I r.Links))]) [] :=
  (L_graph_Full_own hD).fr

theorem L_table_at_ok {a0 : (List TNode)} {a1 : Int} {a2 : Int} {r : TState × Bool} (hD : L_table_at a0 a1 a2 = some r) :
    CallH Try.prog 62 [.one (.d (.sl (List.map eTNode a0))), .one (.d (.int .i64 a1)), .one (.d (.int .i64 a2))] []
      (.tup [.inl [.d (.int .i64 r.1.Mode), .d (.sl (List.map eI r.1.Waits)), .d (.sl (List.map eTPick r.1.Picks)), .d (.sl (List.map eTTake r.1.Takes))], .inr (.d (.bool r.2))]) [] := by
  unfold L_table_at at hD
  refine rc Try.func62 rfl Try.ntmps62 fun S Φ P0 wb ac h => ?_
  refine qs 3 [] [0, 1, 2, 6] [(1, 0)] h fun ac wd h => ?_
  refine wp_seq ?_
  obtain ⟨e30, hE31, hD⟩ := Option.bind_eq_some_iff.1 hD
  refine r_seqJ (fun ac wd => ∃ (b29 : Bool), b29 = e30 ∧ SL ⟨wb, S, Φ, P0⟩ 39 25 [(0, .one (.d (.sl (List.map eTNode a0)))), (1, .one (.d (.int .i64 a1))), (2, .one (.d (.int .i64 a2))), (6, .one (.ptr (1, 0) 0)), (29, .one (.d (.bool b29)))] [((1, 0), some (.box 86 [.d (.int .i64 0), .nil, .nil, .nil]))] ac wd) ?_ ?_
  · skip
    rcases i2 hE31 with ⟨hb32, hE31⟩ | ⟨hb32, hE31⟩
    ·
      refine qeg [] [none, none, none, some (some 10, false), some (some 10, false), some (some 10, false), some (some 10, false), none, none, some (some 16, false), some (some 16, false), none, none, some (some 20, false), some (some 20, false), some (some 20, false), some (some 20, false), some (some 20, false), some (some 20, false), some (some 20, false), some (some 20, false), none] [0, 1, 2, 6, 29] [(1, 0)] h fun ac wd h => ?_
      injection hE31 with hE31; subst hE31
      exact ⟨true, rfl, h.z⟩
    ·
      rcases i2 hE31 with ⟨hb33, hE31⟩ | ⟨hb33, hE31⟩
      ·
        refine qeg [] [none, none, none, some (some 10, false), some (some 10, false), some (some 10, false), some (some 10, false), none, none, some (some 16, false), some (some 16, false), none, none, some (some 20, false), some (some 20, false), some (some 20, false), some (some 20, false), some (some 20, false), some (some 20, false), some (some 20, false), some (some 20, false), none] [0, 1, 2, 6, 29] [(1, 0)] h fun ac wd h => ?_
        injection hE31 with hE31; subst hE31
        exact ⟨true, rfl, h.z⟩
      ·
        rcases i2 hE31 with ⟨hb34, hE31⟩ | ⟨hb34, hE31⟩
        ·
          refine qeg [] [none, none, none, some (some 10, false), some (some 10, false), some (some 10, false), some (some 10, false), none, none, some (some 16, false), some (some 16, false), none, none, some (some 20, false), some (some 20, false), some (some 20, false), some (some 20, false), some (some 20, false), some (some 20, false), some (some 20, false), some (some 20, false), none] [0, 1, 2, 6, 29] [(1, 0)] h fun ac wd h => ?_
          injection hE31 with hE31; subst hE31
          exact ⟨true, rfl, h.z⟩
        ·
          obtain ⟨x35, hx36a, hx36b, hx36c, hx36d, hE31⟩ := aB hE31
          refine qeg [] [none, none, none, some (some 10, false), some (some 10, false), some (some 10, false), some (some 10, false), none, none, some (some 16, false), some (some 16, false), none, none, some (some 20, false), some (some 20, false), some (some 20, false), some (some 20, false), some (some 20, false), some (some 20, false), some (some 20, false), some (some 20, false), none] [0, 1, 2, 6, 29] [(1, 0)] h fun ac wd h => ?_
          injection hE31 with hE31; subst hE31
          exact ⟨decide (a2 ≥ (x35.States.length : Int)), rfl, h.z⟩
  · skip
    rintro ac wd ⟨b29, rfl, h⟩
    (try dsimp only at hD)
    rcases i2b hD with ⟨hb38, hD⟩ | ⟨hb38, hD⟩
    ·
      refine kT h ?_
      refine qs 28 [] [6, 7] [(1, 0)] h fun ac wd h => ?_
      refine wp_ret ?_
      injection hD with hD
      subst hD
      exact rE h [.cell 6 86, .tmp 7]
    ·
      refine kF h ?_
      refine wp_skip ?_
      change Code.wp Try.prog _ _ _ _
      obtain ⟨x43, hx44a, hx44b, hx44c, hx44d, hD⟩ := aB hD
      obtain ⟨x45, hx46a, hx46b, hx46c, hx46d, hD⟩ := aB hD
      refine qs 35 [] [6, 7] [(1, 0)] h fun ac wd h => ?_
      refine wp_ret ?_
      injection hD with hD
      subst hD
      exact rE h [.cell 6 86, .tmp 7]

theorem L_slices_Clone_table_Send_table_Send_own {a0 : (List TSend)} {r : (List TSend)} (hD : L_slices_Clone_table_Send_table_Send a0 = some r) :
    CallH Try.prog 64 [.one (.d (.sl (List.map eTSend a0)))] []
      (.one (.own (1, 0) r.length)) [((1, 0), some (.row 81 2 (dat (List.map eTSend r))))] := by
  unfold L_slices_Clone_table_Send_table_Send at hD
  refine rc Try.func64 rfl Try.ntmps64 fun S Φ P0 wb ac h => ?_
  refine qs 2 [] [0] [] h fun ac wd h => ?_
  refine wp_seq ?_
  refine qs 4 [] [0, 4] [] h fun ac wd h => ?_
  refine r_condB h (by simp only [EZ, simprocAttr, *] <;> rfl) (fun hn6 => ?_) (fun hn6 => ?_)
  · skip
    have hn6 := hn6 rfl
    obtain rfl : a0 = [] := List.eq_nil_of_length_eq_zero (by simpa using hn6)
    have hD : (some []) = some r := by simpa using hD
    refine qs 5 [] [2] [] h fun ac wd h => ?_
    refine wp_ret ?_
    have h := SL.bornS h 2 81 2 (by simp only [EZ, simprocAttr, *] <;> rfl)
    have h := h.sm 6 [(2, .one (.own (5, 0) 0))]
      [((5, 0), some (.row 81 2 ([])))]
    have h := h.sw (1, 0) (5, 0) 6
    have h := h.sm 6 [(2, .one (.own (1, 0) 0))]
      [((1, 0), some (.row 81 2 ([])))]
    injection hD with hD
    subst hD
    exact rO h [.tmp 2] [(1, 0)]
  · skip
    refine wp_skip ?_
    change Code.wp Try.prog _ _ _ _
    obtain ⟨ha8, hD⟩ := iT hD
    refine qs 8 [] [2] [(6, 0)] h fun ac wd h => ?_
    refine wp_ret ?_
    have h := h.sm 8 [(2, .one (.own (6, 0) a0.length))]
      [((6, 0), some (.row 81 2 (dat (List.map eTSend a0))))]
    have h := h.sw (1, 0) (6, 0) 8
    have h := h.sm 8 [(2, .one (.own (1, 0) a0.length))]
      [((1, 0), some (.row 81 2 (dat (List.map eTSend a0))))]
    injection hD with hD
    subst hD
    exact rO h [.tmp 2] [(1, 0)]
theorem L_slices_Clone_table_Send_table_Send_ok {a0 : (List TSend)} {r : (List TSend)} (hD : L_slices_Clone_table_Send_table_Send a0 = some r) :
    CallH Try.prog 64 [.one (.d (.sl (List.map eTSend a0)))] []
      (.one (.d (.sl (List.map eTSend r)))) [] :=
  (L_slices_Clone_table_Send_table_Send_own hD).fr

end Go.Proofs.Ytkfahinbpmhcgaa
