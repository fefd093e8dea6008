/- Functions as typed ones, and that the program's functions answer as these do. No condition. -/
import Derived.Test.YtgkjgpbinblmdaaGb4
import Derived.Test.YtgkjgpbinblmdaaGd
set_option linter.unusedSimpArgs false
set_option linter.unusedVariables false
set_option maxRecDepth 20000
set_option maxHeartbeats 4000000
namespace Go.Proofs.Ytgkjgpbinblmdaa
open Go.RowKit

theorem L_plain_Right_ok {a0 : TApp} {a1 : TConf} {r : Bool} (hD : L_plain_Right a0 a1 = some r) :
    CallH Try.prog 21 [.agg (cTApp a0), .agg (cTConf a1)] []
      (.one (.d (.bool r))) [] := by
  unfold L_plain_Right at hD
  refine rc Try.func21 rfl Try.ntmps21 fun S Φ P0 wb ac h => ?_
  refine qs 4 [] [2, 3] [(1, 0), (2, 0)] h fun ac wd h => ?_
  refine wp_seq ?_
  obtain ⟨e384, hE385, hD⟩ := Option.bind_eq_some_iff.1 hD
  refine r_seqJ (fun ac wd => ∃ (b383 : Bool), b383 = e384 ∧ SL ⟨wb, S, Φ, P0⟩ 83 39 [(2, .one (.ptr (1, 0) 0)), (3, .one (.ptr (2, 0) 0)), (43, .one (.d (.bool b383)))] [((1, 0), some (.box 27 (cTApp a0))), ((2, 0), some (.box 31 (cTConf a1)))] ac wd) ?_ ?_
  · skip
    obtain ⟨r386, hc387, hE385⟩ := oB hE385
    rcases i2b hE385 with ⟨hb388, hE385⟩ | ⟨hb388, hE385⟩
    ·
      rcases i2e hE385 with ⟨hb389, hE385⟩ | ⟨hb389, hE385⟩
      ·
        rcases i2e hE385 with ⟨hb390, hE385⟩ | ⟨hb390, hE385⟩
        ·
          have hc387k := L_table_Right_ok hc387
          refine qeg [factE 8 hc387k] [none, none, none, none, none, none, none, some (some 15, false), some (some 15, false), some (some 15, false), some (some 15, false), some (some 15, false), some (some 15, false), some (some 15, false), none, none, some (some 24, false), some (some 24, false), some (some 24, false), some (some 24, false), some (some 24, false), some (some 24, false), some (some 24, false), some (some 24, false), none, none, some (some 34, false), some (some 34, false), some (some 34, false), some (some 34, false), some (some 34, false), some (some 34, false), some (some 34, false), some (some 34, false), none] [2, 3, 43] [(1, 0), (2, 0)] h fun ac wd h => ?_
          injection hE385 with hE385; subst hE385
          exact ⟨!(decide ((a1.Sent.length : Int) = (a0.G.Links.length : Int))), rfl, h.z⟩
        ·
          have hc387k := L_table_Right_ok hc387
          refine qeg [factE 8 hc387k] [none, none, none, none, none, none, none, some (some 15, false), some (some 15, false), some (some 15, false), some (some 15, false), some (some 15, false), some (some 15, false), some (some 15, false), none, none, some (some 24, false), some (some 24, false), some (some 24, false), some (some 24, false), some (some 24, false), some (some 24, false), some (some 24, false), some (some 24, false), none, none, some (some 34, false), some (some 34, false), some (some 34, false), some (some 34, false), some (some 34, false), some (some 34, false), some (some 34, false), some (some 34, false), none] [2, 3, 43] [(1, 0), (2, 0)] h fun ac wd h => ?_
          injection hE385 with hE385; subst hE385
          exact ⟨true, rfl, h.z⟩
      ·
        have hc387k := L_table_Right_ok hc387
        refine qeg [factE 8 hc387k] [none, none, none, none, none, none, none, some (some 15, false), some (some 15, false), some (some 15, false), some (some 15, false), some (some 15, false), some (some 15, false), some (some 15, false), none, none, some (some 24, false), some (some 24, false), some (some 24, false), some (some 24, false), some (some 24, false), some (some 24, false), some (some 24, false), some (some 24, false), none, none, some (some 34, false), some (some 34, false), some (some 34, false), some (some 34, false), some (some 34, false), some (some 34, false), some (some 34, false), some (some 34, false), none] [2, 3, 43] [(1, 0), (2, 0)] h fun ac wd h => ?_
        injection hE385 with hE385; subst hE385
        exact ⟨true, rfl, h.z⟩
    ·
      have hc387k := L_table_Right_ok hc387
      refine qeg [factE 8 hc387k] [none, none, none, none, none, none, none, some (some 15, false), some (some 15, false), some (some 15, false), some (some 15, false), some (some 15, false), some (some 15, false), some (some 15, false), none, none, some (some 24, false), some (some 24, false), some (some 24, false), some (some 24, false), some (some 24, false), some (some 24, false), some (some 24, false), some (some 24, false), none, none, some (some 34, false), some (some 34, false), some (some 34, false), some (some 34, false), some (some 34, false), some (some 34, false), some (some 34, false), some (some 34, false), none] [2, 3, 43] [(1, 0), (2, 0)] h fun ac wd h => ?_
      injection hE385 with hE385; subst hE385
      exact ⟨true, rfl, h.z⟩
  · skip
    rintro ac wd ⟨b383, rfl, h⟩
    (try dsimp only at hD)
    rcases i2b hD with ⟨hb392, hD⟩ | ⟨hb392, hD⟩
    ·
      refine kT h ?_
      refine qs 40 [] [4] [] h fun ac wd h => ?_
      refine wp_ret ?_
      injection hD with hD
      subst hD
      exact rE h [.tmp 4]
    ·
      refine kF h ?_
      refine wp_skip ?_
      change Code.wp Try.prog _ _ _ _
      refine wp_seq ?_
      refine qs 43 [] [2, 3, 45, 46, 47] [(1, 0), (2, 0)] h fun ac wd h => ?_
      obtain ⟨e485, hE486, hD⟩ := Option.bind_eq_some_iff.1 hD
      refine r_meet (fun ac wd => (.inl ()) = e485 ∧ SL ⟨wb, S, Φ, P0⟩ 83 86 [(3, .one (.ptr (2, 0) 0))] [((2, 0), some (.box 31 (cTConf a1)))] ac wd) ?_ ?_
      · skip
        refine wp_block ?_
        refine r_while (fun nf ac wd => ∃ (n548 : Int), L_plain_Right_l1 a0 a1 nf n548 = some e485 ∧ SL ⟨wb, S, Φ, P0⟩ 83 85 [(2, .one (.ptr (1, 0) 0)), (3, .one (.ptr (2, 0) 0)), (45, .one (.d (.sl (List.map eI a1.States)))), (46, .one (.d (.int .i64 (a1.States.length : Int)))), (47, .one (.d (.int .i64 n548)))] [((1, 0), some (.box 27 (cTApp a0))), ((2, 0), some (.box 31 (cTConf a1)))] ac wd) (((a1.States.length : Int) - 0).toNat + 1) ⟨0, hE486, h.z⟩ (fun nf ac wd hJ => ?_)
        obtain ⟨n548, hL549, h⟩ := hJ
        cases nf with
        | zero => rw [L_plain_Right_l1] at hL549; cases hL549
        | succ nf =>
          rw [L_plain_Right_l1] at hL549
          refine qs 86 [] [2, 3, 45, 46, 47, 48] [(1, 0), (2, 0)] h fun ac wd h => ?_
          refine wp_seq ?_
          rcases i2 hL549 with ⟨hb551, hL549⟩ | ⟨hb551, hL549⟩
          ·
            refine kT h ?_
            refine wp_skip ?_
            change Code.wp Try.prog _ _ _ _
            refine wp_seq ?_
            refine wp_block ?_
            obtain ⟨x568, hx569a, hx569b, hx569c, hx569d, hL549⟩ := aB hL549
            refine qs 91 [] [2, 3, 5, 6, 45, 46, 47] [(1, 0), (2, 0)] h fun ac wd h => ?_
            obtain ⟨e574, hE575, hL549⟩ := Option.bind_eq_some_iff.1 hL549
            refine r_seqJ (fun ac wd => ∃ (b573 : Bool), b573 = e574 ∧ SL ⟨wb, S, Φ, P0⟩ 83 104 [(2, .one (.ptr (1, 0) 0)), (3, .one (.ptr (2, 0) 0)), (45, .one (.d (.sl (List.map eI a1.States)))), (46, .one (.d (.int .i64 (a1.States.length : Int)))), (47, .one (.d (.int .i64 n548))), (64, .one (.d (.bool b573)))] [((1, 0), some (.box 27 (cTApp a0))), ((2, 0), some (.box 31 (cTConf a1)))] ac wd) ?_ ?_
            · skip
              rcases i2 hE575 with ⟨hb576, hE575⟩ | ⟨hb576, hE575⟩
              ·
                refine qeg [] [none, none, none, some (some 54, false), some (some 54, false), some (some 54, false), some (some 54, false), some (some 54, false), some (some 54, false), some (some 54, false), some (some 54, false), some (some 54, false), none] [2, 3, 45, 46, 47, 64] [(1, 0), (2, 0)] h fun ac wd h => ?_
                injection hE575 with hE575; subst hE575
                exact ⟨true, rfl, h.z⟩
              ·
                obtain ⟨x577, hx578a, hx578b, hx578c, hx578d, hE575⟩ := aB hE575
                refine qeg [] [none, none, none, some (some 54, false), some (some 54, false), some (some 54, false), some (some 54, false), some (some 54, false), some (some 54, false), some (some 54, false), some (some 54, false), some (some 54, false), none] [2, 3, 45, 46, 47, 64] [(1, 0), (2, 0)] h fun ac wd h => ?_
                injection hE575 with hE575; subst hE575
                exact ⟨decide (x568 ≥ (x577.States.length : Int)), rfl, h.z⟩
            · skip
              rintro ac wd ⟨b573, rfl, h⟩
              (try dsimp only at hL549)
              rcases i2b hL549 with ⟨hb579, hL549⟩ | ⟨hb579, hL549⟩
              ·
                refine kT h ?_
                refine qs 105 [] [4] [] h fun ac wd h => ?_
                refine wp_ret ?_
                injection hL549 with hL549
                subst hL549
                (try dsimp only at hD)
                injection hD with hD
                subst hD
                exact rE h [.tmp 4]
              ·
                refine kF h ?_
                refine wp_skip ?_
                change Code.wp Try.prog _ _ _ _
                refine qe [] [2, 3, 45, 46, 47] [(1, 0), (2, 0)] h fun ac wd h => ?_
                exact ⟨nf, Nat.lt_succ_self nf, (IntKind.wrap .i64 (n548 + 1)), hL549, h.z⟩
          ·
            refine kF h ?_
            refine wp_exit ?_
            injection hL549 with hL549; subst hL549
            exact ⟨rfl, h.z⟩
      · skip
        rintro ac wd ⟨rfl, h⟩
        (try dsimp only at hD)
        refine wp_seq ?_
        refine qs 90 [] [3, 67, 68, 69] [(2, 0)] h fun ac wd h => ?_
        refine wp_block ?_
        refine r_while (fun nf ac wd => ∃ (n723 : Int), L_plain_Right_l2 a1 nf n723 = some r ∧ SL ⟨wb, S, Φ, P0⟩ 83 122 [(3, .one (.ptr (2, 0) 0)), (67, .one (.d (.sl (List.map (eL eTMsg) a1.Links)))), (68, .one (.d (.int .i64 (a1.Links.length : Int)))), (69, .one (.d (.int .i64 n723)))] [((2, 0), some (.box 31 (cTConf a1)))] ac wd) (((a1.Links.length : Int) - 0).toNat + 1) ⟨0, hD, h.z⟩ (fun nf ac wd hJ => ?_)
        obtain ⟨n723, hL724, h⟩ := hJ
        cases nf with
        | zero => rw [L_plain_Right_l2] at hL724; cases hL724
        | succ nf =>
          rw [L_plain_Right_l2] at hL724
          refine qs 123 [] [3, 67, 68, 69, 70] [(2, 0)] h fun ac wd h => ?_
          refine wp_seq ?_
          rcases i2 hL724 with ⟨hb726, hL724⟩ | ⟨hb726, hL724⟩
          ·
            refine kT h ?_
            refine wp_skip ?_
            change Code.wp Try.prog _ _ _ _
            refine wp_seq ?_
            refine wp_block ?_
            obtain ⟨x742, hx743a, hx743b, hx743c, hx743d, hL724⟩ := aB hL724
            refine qs 128 [] [3, 7, 8, 67, 68, 69] [(2, 0)] h fun ac wd h => ?_
            obtain ⟨x748, hx749a, hx749b, hx749c, hx749d, hL724⟩ := aB hL724
            obtain ⟨r750, hc751, hL724⟩ := oB hL724
            have hc751k := L_plain_may_ok hc751
            refine qs 136 [factE 134 hc751k] [3, 67, 68, 69, 81] [(2, 0)] h fun ac wd h => ?_
            rcases i2b hL724 with ⟨hb752, hL724⟩ | ⟨hb752, hL724⟩
            ·
              refine kF h ?_
              refine wp_skip ?_
              change Code.wp Try.prog _ _ _ _
              refine qe [] [3, 67, 68, 69] [(2, 0)] h fun ac wd h => ?_
              exact ⟨nf, Nat.lt_succ_self nf, (IntKind.wrap .i64 (n723 + 1)), hL724, h.z⟩
            ·
              refine kT h ?_
              refine qs 137 [] [4] [] h fun ac wd h => ?_
              refine wp_ret ?_
              injection hL724 with hL724
              subst hL724
              exact rE h [.tmp 4]
          ·
            refine kF h ?_
            refine wp_exit ?_
            change Code.wp Try.prog _ _ _ _
            refine qs 124 [] [4] [] h fun ac wd h => ?_
            refine wp_ret ?_
            injection hL724 with hL724
            subst hL724
            exact rE h [.tmp 4]

theorem L_graph_Full_own {a0 : Int} {r : TGraph} (hD : L_graph_Full a0 = some r) :
    CallH Try.prog 90 [.one (.d (.int .i64 a0))] []
      (.agg [.d (.int .i64 r.N), .own (1, 0) r.Links.length]) [((1, 0), some (.row 55 2 (dat (List.map eA2I r.Links))))] := by
  unfold L_graph_Full at hD
  refine rc Try.func90 rfl Try.ntmps90 fun S Φ P0 wb ac h => ?_
  refine qs 2 [] [0, 2] [(1, 0)] h fun ac wd h => ?_
  refine qs 8 [] [2, 3] [(1, 0), (6, 0)] h fun ac wd h => ?_
  refine wp_seq ?_
  refine qs 11 [] [2, 3, 11, 12] [(1, 0), (6, 0)] h fun ac wd h => ?_
  refine wp_block ?_
  have h := SL.bornB h (6, 0) 1 55 2 (by simp only [EZ, simprocAttr, *] <;> rfl) (by simp only [EZ, simprocAttr, *] <;> rfl)
  refine r_while (fun nf ac wd => ∃ (n771 : Int) (l772 : List A2I), L_graph_Full_l1 a0 nf n771 l772 = some r ∧ SL ⟨wb, S, Φ, P0⟩ 34 105 [(2, .one (.ptr (1, 0) 0)), (3, .one (.ptr (6, 0) 0)), (11, .one (.d (.int .i64 (min (max a0 1) 6)))), (12, .one (.d (.int .i64 n771)))] [((1, 0), some (.box 24 [.d (.int .i64 0), .nil])), ((6, 0), some (.box 24 [.d (.int .i64 (min (max a0 1) 6)), .own (11, 0) l772.length])), ((11, 0), some (.row 55 2 (dat (List.map eA2I l772))))] ac wd) (((min (max a0 1) 6) - 0).toNat + 1) ⟨0, ([] : List A2I), hD, h.z⟩ (fun nf ac wd hJ => ?_)
  obtain ⟨n771, l772, hL773, h⟩ := hJ
  cases nf with
  | zero => rw [L_graph_Full_l1] at hL773; cases hL773
  | succ nf =>
    rw [L_graph_Full_l1] at hL773
    refine qs 106 [] [2, 3, 11, 12, 13] [(1, 0), (6, 0), (11, 0)] h fun ac wd h => ?_
    refine wp_seq ?_
    rcases i2 hL773 with ⟨hb775, hL773⟩ | ⟨hb775, hL773⟩
    ·
      refine kT h ?_
      refine wp_skip ?_
      change Code.wp Try.prog _ _ _ _
      obtain ⟨e808, hE809, hL773⟩ := Option.bind_eq_some_iff.1 hL773
      refine r_seqJ (fun ac wd => ∃ (l807 : List A2I), l807 = e808 ∧ SL ⟨wb, S, Φ, P0⟩ 34 146 [(2, .one (.ptr (1, 0) 0)), (3, .one (.ptr (6, 0) 0)), (11, .one (.d (.int .i64 (min (max a0 1) 6)))), (12, .one (.d (.int .i64 n771)))] [((1, 0), some (.box 24 [.d (.int .i64 0), .nil])), ((6, 0), some (.box 24 [.d (.int .i64 (min (max a0 1) 6)), .own (11, 0) l807.length])), ((11, 0), some (.row 55 2 (dat (List.map eA2I l807))))] ac wd) ?_ ?_
      · skip
        refine wp_block ?_
        refine qs 108 [] [2, 3, 4, 11, 12] [(1, 0), (6, 0), (11, 0)] h fun ac wd h => ?_
        refine qs 111 [] [2, 3, 4, 11, 12, 16, 17] [(1, 0), (6, 0), (11, 0)] h fun ac wd h => ?_
        obtain ⟨e842, hE843, hE809⟩ := Option.bind_eq_some_iff.1 hE809
        refine r_meetQ (fun ac wd => ∃ (l841 : List A2I), l841 = e842 ∧ SL ⟨wb, S, Φ, P0⟩ 34 146 [(2, .one (.ptr (1, 0) 0)), (3, .one (.ptr (6, 0) 0)), (11, .one (.d (.int .i64 (min (max a0 1) 6)))), (12, .one (.d (.int .i64 n771)))] [((1, 0), some (.box 24 [.d (.int .i64 0), .nil])), ((6, 0), some (.box 24 [.d (.int .i64 (min (max a0 1) 6)), .own (11, 0) l841.length])), ((11, 0), some (.row 55 2 (dat (List.map eA2I l841))))] ac wd) ?_ ?_
        · skip
          refine wp_block ?_
          refine r_while (fun nf ac wd => ∃ (n864 : Int) (l865 : List A2I), L_graph_Full_l2 a0 n771 nf n864 l865 = some e842 ∧ SL ⟨wb, S, Φ, P0⟩ 34 145 [(2, .one (.ptr (1, 0) 0)), (3, .one (.ptr (6, 0) 0)), (4, .one (.d (.int .i64 n771))), (11, .one (.d (.int .i64 (min (max a0 1) 6)))), (12, .one (.d (.int .i64 n771))), (16, .one (.d (.int .i64 (min (max a0 1) 6)))), (17, .one (.d (.int .i64 n864)))] [((1, 0), some (.box 24 [.d (.int .i64 0), .nil])), ((6, 0), some (.box 24 [.d (.int .i64 (min (max a0 1) 6)), .own (11, 0) l865.length])), ((11, 0), some (.row 55 2 (dat (List.map eA2I l865))))] ac wd) (((min (max a0 1) 6) - 0).toNat + 1) ⟨0, l772, hE843, h.z⟩ (fun nf ac wd hJ => ?_)
          obtain ⟨n864, l865, hL866, h⟩ := hJ
          cases nf with
          | zero => rw [L_graph_Full_l2] at hL866; cases hL866
          | succ nf =>
            rw [L_graph_Full_l2] at hL866
            refine qs 146 [] [2, 3, 4, 11, 12, 16, 17, 18] [(1, 0), (6, 0), (11, 0)] h fun ac wd h => ?_
            refine wp_seq ?_
            rcases i2 hL866 with ⟨hb868, hL866⟩ | ⟨hb868, hL866⟩
            ·
              refine kT h ?_
              refine wp_skip ?_
              change Code.wp Try.prog _ _ _ _
              obtain ⟨e872, hE873, hL866⟩ := Option.bind_eq_some_iff.1 hL866
              refine r_seqJ (fun ac wd => ∃ (l871 : List A2I), l871 = e872 ∧ SL ⟨wb, S, Φ, P0⟩ 34 160 [(2, .one (.ptr (1, 0) 0)), (3, .one (.ptr (6, 0) 0)), (4, .one (.d (.int .i64 n771))), (11, .one (.d (.int .i64 (min (max a0 1) 6)))), (12, .one (.d (.int .i64 n771))), (16, .one (.d (.int .i64 (min (max a0 1) 6)))), (17, .one (.d (.int .i64 n864)))] [((1, 0), some (.box 24 [.d (.int .i64 0), .nil])), ((6, 0), some (.box 24 [.d (.int .i64 (min (max a0 1) 6)), .own (11, 0) l871.length])), ((11, 0), some (.row 55 2 (dat (List.map eA2I l871))))] ac wd) ?_ ?_
              · skip
                refine wp_block ?_
                refine qs 148 [] [2, 3, 4, 5, 11, 12, 16, 17] [(1, 0), (6, 0), (11, 0)] h fun ac wd h => ?_
                refine qs 151 [] [2, 3, 4, 5, 11, 12, 16, 17, 22] [(1, 0), (6, 0), (11, 0)] h fun ac wd h => ?_
                rcases i2e hE873 with ⟨hb874, hE873⟩ | ⟨hb874, hE873⟩
                ·
                  refine kF h ?_
                  refine wp_skip ?_
                  injection hE873 with hE873; subst hE873
                  exact ⟨l865, rfl, h.z⟩
                ·
                  refine kT h ?_
                  obtain ⟨ha875, hE873⟩ := iT hE873
                  refine qe [] [2, 3, 4, 11, 12, 16, 17] [(1, 0), (6, 0), (157, 0)] h fun ac wd h => ?_
                  have h := h.sw (11, 0) (157, 0) 160
                  injection hE873 with hE873; subst hE873
                  exact ⟨(l865 ++ [(A2I.mk n771 n864)]), rfl, h.z⟩
              · skip
                rintro ac wd ⟨l871, rfl, h⟩
                (try dsimp only at hL866)
                refine qe [] [2, 3, 4, 11, 12, 16, 17] [(1, 0), (6, 0), (11, 0)] h fun ac wd h => ?_
                exact ⟨nf, Nat.lt_succ_self nf, (IntKind.wrap .i64 (n864 + 1)), l871, hL866, h.z⟩
            ·
              refine kF h ?_
              refine wp_exit ?_
              injection hL866 with hL866; subst hL866
              exact ⟨l865, rfl, h.z⟩
        · skip
          rintro ac wd ⟨l841, rfl, h⟩
          (try dsimp only at hE809)
          injection hE809 with hE809; subst hE809
          exact ⟨l841, rfl, h.z⟩
      · skip
        rintro ac wd ⟨l807, rfl, h⟩
        (try dsimp only at hL773)
        refine qe [] [2, 3, 11, 12] [(1, 0), (6, 0), (11, 0)] h fun ac wd h => ?_
        exact ⟨nf, Nat.lt_succ_self nf, (IntKind.wrap .i64 (n771 + 1)), l807, hL773, h.z⟩
    ·
      refine kF h ?_
      refine wp_exit ?_
      change Code.wp Try.prog _ _ _ _
      refine qs 108 [] [2] [(1, 0), (11, 0)] h fun ac wd h => ?_
      refine wp_ret ?_
      have h := h.sm 108 [(2, .one (.ptr (1, 0) 0))]
        [((1, 0), some (.box 24 [.d (.int .i64 (min (max a0 1) 6)), .own (11, 0) l772.length])), ((11, 0), some (.row 55 2 (dat (List.map eA2I l772))))]
      have h := h.sw (1, 0) (11, 0) 108
      have h := h.sm 108 [(2, .one (.ptr (11, 0) 0))]
        [((1, 0), some (.row 55 2 (dat (List.map eA2I l772)))), ((11, 0), some (.box 24 [.d (.int .i64 (min (max a0 1) 6)), .own (1, 0) l772.length]))]
      injection hL773 with hL773
      subst hL773
      exact rO h [.cell 2 24] [(1, 0)]
theorem L_graph_Full_ok {a0 : Int} {r : TGraph} (hD : L_graph_Full a0 = some r) :
    CallH Try.prog 90 [.one (.d (.int .i64 a0))] []
      (.agg [.d (.int .i64 r.N), .d (.sl (List.map eA2I r.Links))]) [] :=
  (L_graph_Full_own hD).fr

theorem L_law15_wait_own {a0 : Int} {r : TNode} (hD : L_law15_wait a0 = some r) :
    CallH Try.prog 91 [.one (.d (.int .i64 a0))] []
      (.agg [.d (.int .i64 r.Start), .own (1, 0) r.States.length]) [((1, 0), some (.row 129 4 (openRows cols_129 (List.map eTState r.States))))] := by
  unfold L_law15_wait at hD
  refine rc Try.func91 rfl Try.ntmps91 fun S Φ P0 wb ac h => ?_
  refine qs 2 [] [0, 2] [(1, 0)] h fun ac wd h => ?_
  refine qs 8 [] [2] [(1, 0), (3, 0), (5, 0)] h fun ac wd h => ?_
  have h := h.nilTr (5, 0) (l := [[.d (.int .i64 2), .own (3, 0) 1, .nil, .nil]]) (l' := [[.d (.int .i64 2), .own (3, 0) 1, .tr (.sl 156 2 cols_156) (.sl (List.map eTPick [])), .tr (.sl 173 3 (fun _ => .sc)) (.sl (List.map eTTake []))]]) (by simp only [EZ, simprocAttr] <;> rfl) (RowsTo.cons (RowTo.cons (.inl rfl) (RowTo.cons (.inl rfl) (RowTo.cons (.inr (.inr ⟨rfl, _, _, _, rfl⟩)) (RowTo.cons (.inr (.inr ⟨rfl, _, _, _, rfl⟩)) RowTo.nil)))) (RowsTo.refl []))
  have h := h.sm 8 [(2, .one (.ptr (1, 0) 0))]
    [((1, 0), some (.box 107 [.d (.int .i64 0), .own (5, 0) 1])), ((3, 0), some (.row 3 1 (dat (List.map eI [a0])))), ((5, 0), some (.row 129 4 ([[.d (.int .i64 2), .own (3, 0) 1, .tr (.sl 156 2 cols_156) (.sl (List.map eTPick [])), .tr (.sl 173 3 (fun _ => .sc)) (.sl (List.map eTTake []))]])))]
  have h := h.fL (cols := (fun _ => .sc)) (5, 0) (3, 0) ([]) [.d (.int .i64 2), .own (3, 0) 1, .tr (.sl 156 2 cols_156) (.sl (List.map eTPick [])), .tr (.sl 173 3 (fun _ => .sc)) (.sl (List.map eTTake []))] 1 (List.map eI [a0]) (sc_3 _)
  have h := h.sm 8 [(2, .one (.ptr (1, 0) 0))]
    [((1, 0), some (.box 107 [.d (.int .i64 0), .own (5, 0) 1])), ((5, 0), some (.row 129 4 ([[.d (.int .i64 2), .tr (.sl 3 1 (fun _ => .sc)) (.sl (List.map eI [a0])), .tr (.sl 156 2 cols_156) (.sl (List.map eTPick [])), .tr (.sl 173 3 (fun _ => .sc)) (.sl (List.map eTTake []))]])))]
  refine wp_ret ?_
  have h := h.sm 8 [(2, .one (.ptr (1, 0) 0))]
    [((1, 0), some (.box 107 [.d (.int .i64 0), .own (5, 0) 1])), ((5, 0), some (.row 129 4 (openRows cols_129 (List.map eTState ([(TState.mk 2 [a0] [] [])])))))]
  have h := h.sw (1, 0) (5, 0) 8
  have h := h.sm 8 [(2, .one (.ptr (5, 0) 0))]
    [((1, 0), some (.row 129 4 (openRows cols_129 (List.map eTState ([(TState.mk 2 [a0] [] [])]))))), ((5, 0), some (.box 107 [.d (.int .i64 0), .own (1, 0) 1]))]
  injection hD with hD
  subst hD
  exact rO h [.cell 2 107] [(1, 0)]
theorem L_law15_wait_ok {a0 : Int} {r : TNode} (hD : L_law15_wait a0 = some r) :
    CallH Try.prog 91 [.one (.d (.int .i64 a0))] []
      (.agg [.d (.int .i64 r.Start), .d (.sl (List.map eTState r.States))]) [] :=
  (L_law15_wait_own hD).fr

theorem L_law15_Dead_own {r : TApp} (hD : L_law15_Dead = some r) :
    CallH Try.prog 59 [] []
      (.agg [.d (.int .i64 r.G.N), .own (1, 0) r.G.Links.length, .own (1, 1) r.T.length, .d (.bool r.Fifo)]) [((1, 0), some (.row 55 2 (dat (List.map eA2I r.G.Links)))), ((1, 1), some (.row 107 2 (dat (List.map eTNode r.T))))] := by
  unfold L_law15_Dead at hD
  refine rc Try.func59 rfl Try.ntmps59 fun S Φ P0 wb ac h => ?_
  refine qs 2 [] [0] [(1, 0)] h fun ac wd h => ?_
  obtain ⟨r19, hc20, hD⟩ := oB hD
  obtain ⟨r21, hc22, hD⟩ := oB hD
  obtain ⟨r23, hc24, hD⟩ := oB hD
  have hc20_2 := ((L_graph_Full_own hc20).cls 2).z
  have hc22k := L_law15_wait_ok hc22
  have hc24k := L_law15_wait_ok hc24
  have hc24k := L_law15_wait_ok hc24
  refine qs 9 [factO hc20_2, factE 3 hc22k, factE 4 hc24k, factE 5 hc24k] [0] [(1, 0), (2, 0), (6, 0)] h fun ac wd h => ?_
  refine wp_ret ?_
  have h := h.sm 9 [(0, .one (.ptr (1, 0) 0))]
    [((1, 0), some (.box 27 [.d (.int .i64 r19.N), .own (2, 0) r19.Links.length, .own (6, 0) (1 + 1 + 1), .d (.bool false)])), ((2, 0), some (.row 55 2 (dat (List.map eA2I r19.Links)))), ((6, 0), some (.row 107 2 (dat (List.map eTNode (([r21] ++ [r23]) ++ [r23])))))]
  have h := h.sw (1, 0) (2, 0) 9
  have h := h.sm 9 [(0, .one (.ptr (2, 0) 0))]
    [((1, 0), some (.row 55 2 (dat (List.map eA2I r19.Links)))), ((2, 0), some (.box 27 [.d (.int .i64 r19.N), .own (1, 0) r19.Links.length, .own (6, 0) (1 + 1 + 1), .d (.bool false)])), ((6, 0), some (.row 107 2 (dat (List.map eTNode (([r21] ++ [r23]) ++ [r23])))))]
  have h := h.sw (1, 1) (6, 0) 9
  have h := h.sm 9 [(0, .one (.ptr (2, 0) 0))]
    [((1, 0), some (.row 55 2 (dat (List.map eA2I r19.Links)))), ((1, 1), some (.row 107 2 (dat (List.map eTNode (([r21] ++ [r23]) ++ [r23]))))), ((2, 0), some (.box 27 [.d (.int .i64 r19.N), .own (1, 0) r19.Links.length, .own (1, 1) (1 + 1 + 1), .d (.bool false)]))]
  injection hD with hD
  subst hD
  exact rO h [.cell 0 27] [(1, 0), (1, 1)]
theorem L_law15_Dead_ok {r : TApp} (hD : L_law15_Dead = some r) :
    CallH Try.prog 59 [] []
      (.agg [.d (.int .i64 r.G.N), .d (.sl (List.map eA2I r.G.Links)), .d (.sl (List.map eTNode r.T)), .d (.bool r.Fifo)]) [] :=
  (L_law15_Dead_own hD).fr

theorem L_table_at_ok {a0 : (List TNode)} {a1 : Int} {a2 : Int} {r : TState × Bool} (hD : L_table_at a0 a1 a2 = some r) :
    CallH Try.prog 70 [.one (.d (.sl (List.map eTNode a0))), .one (.d (.int .i64 a1)), .one (.d (.int .i64 a2))] []
      (.tup [.inl [.d (.int .i64 r.1.Mode), .d (.sl (List.map eI r.1.Waits)), .d (.sl (List.map eTPick r.1.Picks)), .d (.sl (List.map eTTake r.1.Takes))], .inr (.d (.bool r.2))]) [] := by
  unfold L_table_at at hD
  refine rc Try.func70 rfl Try.ntmps70 fun S Φ P0 wb ac h => ?_
  refine qs 3 [] [0, 1, 2, 6] [(1, 0)] h fun ac wd h => ?_
  refine wp_seq ?_
  obtain ⟨e30, hE31, hD⟩ := Option.bind_eq_some_iff.1 hD
  refine r_seqJ (fun ac wd => ∃ (b29 : Bool), b29 = e30 ∧ SL ⟨wb, S, Φ, P0⟩ 39 25 [(0, .one (.d (.sl (List.map eTNode a0)))), (1, .one (.d (.int .i64 a1))), (2, .one (.d (.int .i64 a2))), (6, .one (.ptr (1, 0) 0)), (29, .one (.d (.bool b29)))] [((1, 0), some (.box 129 [.d (.int .i64 0), .nil, .nil, .nil]))] ac wd) ?_ ?_
  · skip
    rcases i2 hE31 with ⟨hb32, hE31⟩ | ⟨hb32, hE31⟩
    ·
      refine qeg [] [none, none, none, some (some 10, false), some (some 10, false), some (some 10, false), some (some 10, false), none, none, some (some 16, false), some (some 16, false), none, none, some (some 20, false), some (some 20, false), some (some 20, false), some (some 20, false), some (some 20, false), some (some 20, false), some (some 20, false), some (some 20, false), none] [0, 1, 2, 6, 29] [(1, 0)] h fun ac wd h => ?_
      injection hE31 with hE31; subst hE31
      exact ⟨true, rfl, h.z⟩
    ·
      rcases i2 hE31 with ⟨hb33, hE31⟩ | ⟨hb33, hE31⟩
      ·
        refine qeg [] [none, none, none, some (some 10, false), some (some 10, false), some (some 10, false), some (some 10, false), none, none, some (some 16, false), some (some 16, false), none, none, some (some 20, false), some (some 20, false), some (some 20, false), some (some 20, false), some (some 20, false), some (some 20, false), some (some 20, false), some (some 20, false), none] [0, 1, 2, 6, 29] [(1, 0)] h fun ac wd h => ?_
        injection hE31 with hE31; subst hE31
        exact ⟨true, rfl, h.z⟩
      ·
        rcases i2 hE31 with ⟨hb34, hE31⟩ | ⟨hb34, hE31⟩
        ·
          refine qeg [] [none, none, none, some (some 10, false), some (some 10, false), some (some 10, false), some (some 10, false), none, none, some (some 16, false), some (some 16, false), none, none, some (some 20, false), some (some 20, false), some (some 20, false), some (some 20, false), some (some 20, false), some (some 20, false), some (some 20, false), some (some 20, false), none] [0, 1, 2, 6, 29] [(1, 0)] h fun ac wd h => ?_
          injection hE31 with hE31; subst hE31
          exact ⟨true, rfl, h.z⟩
        ·
          obtain ⟨x35, hx36a, hx36b, hx36c, hx36d, hE31⟩ := aB hE31
          refine qeg [] [none, none, none, some (some 10, false), some (some 10, false), some (some 10, false), some (some 10, false), none, none, some (some 16, false), some (some 16, false), none, none, some (some 20, false), some (some 20, false), some (some 20, false), some (some 20, false), some (some 20, false), some (some 20, false), some (some 20, false), some (some 20, false), none] [0, 1, 2, 6, 29] [(1, 0)] h fun ac wd h => ?_
          injection hE31 with hE31; subst hE31
          exact ⟨decide (a2 ≥ (x35.States.length : Int)), rfl, h.z⟩
  · skip
    rintro ac wd ⟨b29, rfl, h⟩
    (try dsimp only at hD)
    rcases i2b hD with ⟨hb38, hD⟩ | ⟨hb38, hD⟩
    ·
      refine kT h ?_
      refine qs 28 [] [6, 7] [(1, 0)] h fun ac wd h => ?_
      refine wp_ret ?_
      injection hD with hD
      subst hD
      exact rE h [.cell 6 129, .tmp 7]
    ·
      refine kF h ?_
      refine wp_skip ?_
      change Code.wp Try.prog _ _ _ _
      obtain ⟨x43, hx44a, hx44b, hx44c, hx44d, hD⟩ := aB hD
      obtain ⟨x45, hx46a, hx46b, hx46c, hx46d, hD⟩ := aB hD
      refine qs 35 [] [6, 7] [(1, 0)] h fun ac wd h => ?_
      refine wp_ret ?_
      injection hD with hD
      subst hD
      exact rE h [.cell 6 129, .tmp 7]

theorem L_slices_Clone_int_int_own {a0 : (List Int)} {r : (List Int)} (hD : L_slices_Clone_int_int a0 = some r) :
    CallH Try.prog 92 [.one (.d (.sl (List.map eI a0)))] []
      (.one (.own (1, 0) r.length)) [((1, 0), some (.row 3 1 (dat (List.map eI r))))] := by
  unfold L_slices_Clone_int_int at hD
  refine rc Try.func92 rfl Try.ntmps92 fun S Φ P0 wb ac h => ?_
  refine qs 2 [] [0] [] h fun ac wd h => ?_
  refine wp_seq ?_
  refine qs 4 [] [0, 4] [] h fun ac wd h => ?_
  refine r_condB h (by simp only [EZ, simprocAttr, *] <;> rfl) (fun hn6 => ?_) (fun hn6 => ?_)
  · skip
    have hn6 := hn6 rfl
    obtain rfl : a0 = [] := List.eq_nil_of_length_eq_zero (by simpa using hn6)
    have hD : (some []) = some r := by simpa using hD
    refine qs 5 [] [2] [] h fun ac wd h => ?_
    refine wp_ret ?_
    have h := SL.bornS h 2 3 1 (by simp only [EZ, simprocAttr, *] <;> rfl)
    have h := h.sm 6 [(2, .one (.own (5, 0) 0))]
      [((5, 0), some (.row 3 1 ([])))]
    have h := h.sw (1, 0) (5, 0) 6
    have h := h.sm 6 [(2, .one (.own (1, 0) 0))]
      [((1, 0), some (.row 3 1 ([])))]
    injection hD with hD
    subst hD
    exact rO h [.tmp 2] [(1, 0)]
  · skip
    refine wp_skip ?_
    change Code.wp Try.prog _ _ _ _
    obtain ⟨ha8, hD⟩ := iT hD
    refine qs 8 [] [2] [(6, 0)] h fun ac wd h => ?_
    refine wp_ret ?_
    have h := h.sm 8 [(2, .one (.own (6, 0) a0.length))]
      [((6, 0), some (.row 3 1 (dat (List.map eI a0))))]
    have h := h.sw (1, 0) (6, 0) 8
    have h := h.sm 8 [(2, .one (.own (1, 0) a0.length))]
      [((1, 0), some (.row 3 1 (dat (List.map eI a0))))]
    injection hD with hD
    subst hD
    exact rO h [.tmp 2] [(1, 0)]
theorem L_slices_Clone_int_int_ok {a0 : (List Int)} {r : (List Int)} (hD : L_slices_Clone_int_int a0 = some r) :
    CallH Try.prog 92 [.one (.d (.sl (List.map eI a0)))] []
      (.one (.d (.sl (List.map eI r)))) [] :=
  (L_slices_Clone_int_int_own hD).fr

theorem L_table_Waits_own {a0 : (List TNode)} {a1 : Int} {a2 : Int} {r : (List Int)} (hD : L_table_Waits a0 a1 a2 = some r) :
    CallH Try.prog 60 [.one (.d (.sl (List.map eTNode a0))), .one (.d (.int .i64 a1)), .one (.d (.int .i64 a2))] []
      (.one (.own (1, 0) r.length)) [((1, 0), some (.row 3 1 (dat (List.map eI r))))] := by
  unfold L_table_Waits at hD
  refine rc Try.func60 rfl Try.ntmps60 fun S Φ P0 wb ac h => ?_
  refine qs 2 [] [0, 1, 2] [] h fun ac wd h => ?_
  obtain ⟨r11, hc12, hD⟩ := oB hD
  have hc12k := L_table_at_ok hc12
  refine qs 12 [factE 5 hc12k] [7] [(9, 0)] h fun ac wd h => ?_
  obtain ⟨r15, hc16, hD⟩ := oB hD
  have hc16_14 := ((L_slices_Clone_int_int_own hc16).cls 14).z
  refine qs 16 [factO hc16_14] [6] [(14, 0)] h fun ac wd h => ?_
  refine wp_ret ?_
  have h := h.sm 16 [(6, .one (.own (14, 0) r15.length))]
    [((14, 0), some (.row 3 1 (dat (List.map eI r15))))]
  have h := h.sw (1, 0) (14, 0) 16
  have h := h.sm 16 [(6, .one (.own (1, 0) r15.length))]
    [((1, 0), some (.row 3 1 (dat (List.map eI r15))))]
  injection hD with hD
  subst hD
  exact rO h [.tmp 6] [(1, 0)]
theorem L_table_Waits_ok {a0 : (List TNode)} {a1 : Int} {a2 : Int} {r : (List Int)} (hD : L_table_Waits a0 a1 a2 = some r) :
    CallH Try.prog 60 [.one (.d (.sl (List.map eTNode a0))), .one (.d (.int .i64 a1)), .one (.d (.int .i64 a2))] []
      (.one (.d (.sl (List.map eI r)))) [] :=
  (L_table_Waits_own hD).fr

theorem L_knot_Edges_own {a0 : TApp} {a1 : TConf} {r : (List A2I)} (hD : L_knot_Edges a0 a1 = some r) :
    CallH Try.prog 24 [.agg (cTApp a0), .agg (cTConf a1)] []
      (.one (.own (1, 0) r.length)) [((1, 0), some (.row 55 2 (dat (List.map eA2I r))))] := by
  unfold L_knot_Edges at hD
  refine rc Try.func24 rfl Try.ntmps24 fun S Φ P0 wb ac h => ?_
  refine qs 4 [] [2, 3] [(1, 0), (2, 0)] h fun ac wd h => ?_
  refine qs 5 [] [2, 3, 5] [(1, 0), (2, 0)] h fun ac wd h => ?_
  refine wp_seq ?_
  refine qs 9 [] [2, 3, 5, 12, 13, 14] [(1, 0), (2, 0)] h fun ac wd h => ?_
  refine wp_block ?_
  have h := SL.bornS h 5 55 2 (by simp only [EZ, simprocAttr, *] <;> rfl)
  refine r_while (fun nf ac wd => ∃ (n3159 : Int) (l3160 : List A2I), L_knot_Edges_l1 a0 a1 nf n3159 l3160 = some r ∧ SL ⟨wb, S, Φ, P0⟩ 54 161 [(2, .one (.ptr (1, 0) 0)), (3, .one (.ptr (2, 0) 0)), (5, .one (.own (9, 0) l3160.length)), (12, .one (.d (.sl (List.map eI a1.States)))), (13, .one (.d (.int .i64 (a1.States.length : Int)))), (14, .one (.d (.int .i64 n3159)))] [((1, 0), some (.box 27 (cTApp a0))), ((2, 0), some (.box 31 (cTConf a1))), ((9, 0), some (.row 55 2 (dat (List.map eA2I l3160))))] ac wd) (((a1.States.length : Int) - 0).toNat + 1) ⟨0, ([] : List A2I), hD, h.z⟩ (fun nf ac wd hJ => ?_)
  obtain ⟨n3159, l3160, hL3161, h⟩ := hJ
  cases nf with
  | zero => rw [L_knot_Edges_l1] at hL3161; cases hL3161
  | succ nf =>
    rw [L_knot_Edges_l1] at hL3161
    refine qs 162 [] [2, 3, 5, 12, 13, 14, 15] [(1, 0), (2, 0), (9, 0)] h fun ac wd h => ?_
    refine wp_seq ?_
    rcases i2 hL3161 with ⟨hb3163, hL3161⟩ | ⟨hb3163, hL3161⟩
    ·
      refine kT h ?_
      refine wp_skip ?_
      change Code.wp Try.prog _ _ _ _
      obtain ⟨e3306, hE3307, hL3161⟩ := Option.bind_eq_some_iff.1 hL3161
      refine r_seqJ (fun ac wd => ∃ (l3305 : List A2I), l3305 = e3306 ∧ SL ⟨wb, S, Φ, P0⟩ 54 235 [(2, .one (.ptr (1, 0) 0)), (3, .one (.ptr (2, 0) 0)), (5, .one (.own (9, 0) l3305.length)), (12, .one (.d (.sl (List.map eI a1.States)))), (13, .one (.d (.int .i64 (a1.States.length : Int)))), (14, .one (.d (.int .i64 n3159)))] [((1, 0), some (.box 27 (cTApp a0))), ((2, 0), some (.box 31 (cTConf a1))), ((9, 0), some (.row 55 2 (dat (List.map eA2I l3305))))] ac wd) ?_ ?_
      · skip
        refine wp_block ?_
        obtain ⟨x3310, hx3311a, hx3311b, hx3311c, hx3311d, hE3307⟩ := aB hE3307
        refine qs 167 [] [2, 3, 5, 6, 7, 12, 13, 14] [(1, 0), (2, 0), (9, 0)] h fun ac wd h => ?_
        obtain ⟨r3314, hc3315, hE3307⟩ := oB hE3307
        have hc3315k := L_table_Waits_ok hc3315
        refine qs 174 [factE 171 hc3315k] [2, 3, 5, 6, 12, 13, 14, 23, 24, 25] [(1, 0), (2, 0), (9, 0)] h fun ac wd h => ?_
        obtain ⟨e3450, hE3451, hE3307⟩ := Option.bind_eq_some_iff.1 hE3307
        refine r_meetQ (fun ac wd => ∃ (l3449 : List A2I), l3449 = e3450 ∧ SL ⟨wb, S, Φ, P0⟩ 54 235 [(2, .one (.ptr (1, 0) 0)), (3, .one (.ptr (2, 0) 0)), (5, .one (.own (9, 0) l3449.length)), (12, .one (.d (.sl (List.map eI a1.States)))), (13, .one (.d (.int .i64 (a1.States.length : Int)))), (14, .one (.d (.int .i64 n3159)))] [((1, 0), some (.box 27 (cTApp a0))), ((2, 0), some (.box 31 (cTConf a1))), ((9, 0), some (.row 55 2 (dat (List.map eA2I l3449))))] ac wd) ?_ ?_
        · skip
          refine wp_block ?_
          refine r_while (fun nf ac wd => ∃ (n3540 : Int) (l3541 : List A2I), L_knot_Edges_l2 a0 a1 n3159 r3314 nf n3540 l3541 = some e3450 ∧ SL ⟨wb, S, Φ, P0⟩ 54 234 [(2, .one (.ptr (1, 0) 0)), (3, .one (.ptr (2, 0) 0)), (5, .one (.own (9, 0) l3541.length)), (6, .one (.d (.int .i64 n3159))), (12, .one (.d (.sl (List.map eI a1.States)))), (13, .one (.d (.int .i64 (a1.States.length : Int)))), (14, .one (.d (.int .i64 n3159))), (23, .one (.d (.sl (List.map eI r3314)))), (24, .one (.d (.int .i64 (r3314.length : Int)))), (25, .one (.d (.int .i64 n3540)))] [((1, 0), some (.box 27 (cTApp a0))), ((2, 0), some (.box 31 (cTConf a1))), ((9, 0), some (.row 55 2 (dat (List.map eA2I l3541))))] ac wd) (((r3314.length : Int) - 0).toNat + 1) ⟨0, l3160, hE3451, h.z⟩ (fun nf ac wd hJ => ?_)
          obtain ⟨n3540, l3541, hL3542, h⟩ := hJ
          cases nf with
          | zero => rw [L_knot_Edges_l2] at hL3542; cases hL3542
          | succ nf =>
            rw [L_knot_Edges_l2] at hL3542
            refine qs 235 [] [2, 3, 5, 6, 12, 13, 14, 23, 24, 25, 26] [(1, 0), (2, 0), (9, 0)] h fun ac wd h => ?_
            refine wp_seq ?_
            rcases i2 hL3542 with ⟨hb3544, hL3542⟩ | ⟨hb3544, hL3542⟩
            ·
              refine kT h ?_
              refine wp_skip ?_
              change Code.wp Try.prog _ _ _ _
              obtain ⟨e3565, hE3566, hL3542⟩ := Option.bind_eq_some_iff.1 hL3542
              refine r_seqJ (fun ac wd => ∃ (l3564 : List A2I), l3564 = e3565 ∧ SL ⟨wb, S, Φ, P0⟩ 54 262 [(2, .one (.ptr (1, 0) 0)), (3, .one (.ptr (2, 0) 0)), (5, .one (.own (260, 0) l3564.length)), (6, .one (.d (.int .i64 n3159))), (12, .one (.d (.sl (List.map eI a1.States)))), (13, .one (.d (.int .i64 (a1.States.length : Int)))), (14, .one (.d (.int .i64 n3159))), (23, .one (.d (.sl (List.map eI r3314)))), (24, .one (.d (.int .i64 (r3314.length : Int)))), (25, .one (.d (.int .i64 n3540)))] [((1, 0), some (.box 27 (cTApp a0))), ((2, 0), some (.box 31 (cTConf a1))), ((260, 0), some (.row 55 2 (dat (List.map eA2I l3564))))] ac wd) ?_ ?_
              · skip
                refine wp_block ?_
                obtain ⟨x3569, hx3570a, hx3570b, hx3570c, hx3570d, hE3566⟩ := aB hE3566
                refine qs 238 [] [2, 3, 5, 6, 9, 12, 13, 14, 23, 24, 25] [(1, 0), (2, 0), (9, 0)] h fun ac wd h => ?_
                obtain ⟨r3573, hc3574, hE3566⟩ := oB hE3566
                have hc3574k := L_graph_Find_ok hc3574
                refine qs 244 [factE 242 hc3574k] [2, 3, 5, 6, 9, 10, 12, 13, 14, 23, 24, 25] [(1, 0), (2, 0), (9, 0)] h fun ac wd h => ?_
                obtain ⟨e3579, hE3580, hE3566⟩ := Option.bind_eq_some_iff.1 hE3566
                refine r_seqJ (fun ac wd => ∃ (b3578 : Bool), b3578 = e3579 ∧ SL ⟨wb, S, Φ, P0⟩ 54 255 [(2, .one (.ptr (1, 0) 0)), (3, .one (.ptr (2, 0) 0)), (5, .one (.own (9, 0) l3541.length)), (6, .one (.d (.int .i64 n3159))), (9, .one (.d (.int .i64 x3569))), (12, .one (.d (.sl (List.map eI a1.States)))), (13, .one (.d (.int .i64 (a1.States.length : Int)))), (14, .one (.d (.int .i64 n3159))), (23, .one (.d (.sl (List.map eI r3314)))), (24, .one (.d (.int .i64 (r3314.length : Int)))), (25, .one (.d (.int .i64 n3540))), (44, .one (.d (.bool b3578)))] [((1, 0), some (.box 27 (cTApp a0))), ((2, 0), some (.box 31 (cTConf a1))), ((9, 0), some (.row 55 2 (dat (List.map eA2I l3541))))] ac wd) ?_ ?_
                · skip
                  rcases i2 hE3580 with ⟨hb3581, hE3580⟩ | ⟨hb3581, hE3580⟩
                  ·
                    obtain ⟨x3582, hx3583a, hx3583b, hx3583c, hx3583d, hE3580⟩ := aB hE3580
                    refine qeg [] [none, none, none, some (some 36, true), some (some 36, true), some (some 36, true), some (some 36, true), some (some 36, true), some (some 36, true), some (some 36, true), none] [2, 3, 5, 6, 9, 12, 13, 14, 23, 24, 25, 44] [(1, 0), (2, 0), (9, 0)] h fun ac wd h => ?_
                    injection hE3580 with hE3580; subst hE3580
                    exact ⟨decide ((x3582.length : Int) = 0), rfl, h.z⟩
                  ·
                    refine qeg [] [none, none, none, some (some 36, true), some (some 36, true), some (some 36, true), some (some 36, true), some (some 36, true), some (some 36, true), some (some 36, true), none] [2, 3, 5, 6, 9, 12, 13, 14, 23, 24, 25, 44] [(1, 0), (2, 0), (9, 0)] h fun ac wd h => ?_
                    injection hE3580 with hE3580; subst hE3580
                    exact ⟨false, rfl, h.z⟩
                · skip
                  rintro ac wd ⟨b3578, rfl, h⟩
                  (try dsimp only at hE3566)
                  rcases i2b hE3566 with ⟨hb3584, hE3566⟩ | ⟨hb3584, hE3566⟩
                  ·
                    refine kT h ?_
                    obtain ⟨ha3585, hE3566⟩ := iT hE3566
                    refine qe [] [2, 3, 5, 6, 12, 13, 14, 23, 24, 25] [(1, 0), (2, 0), (260, 0)] h fun ac wd h => ?_
                    injection hE3566 with hE3566; subst hE3566
                    exact ⟨(l3541 ++ [(A2I.mk n3159 x3569)]), rfl, h.z⟩
                  ·
                    refine kF h ?_
                    refine wp_skip ?_
                    have h := h.sw (260, 0) (9, 0) 262
                    injection hE3566 with hE3566; subst hE3566
                    exact ⟨l3541, rfl, h.z⟩
              · skip
                rintro ac wd ⟨l3564, rfl, h⟩
                (try dsimp only at hL3542)
                refine qe [] [2, 3, 5, 6, 12, 13, 14, 23, 24, 25] [(1, 0), (2, 0), (260, 0)] h fun ac wd h => ?_
                have h := h.sw (9, 0) (260, 0) 264
                exact ⟨nf, Nat.lt_succ_self nf, (IntKind.wrap .i64 (n3540 + 1)), l3564, hL3542, h.z⟩
            ·
              refine kF h ?_
              refine wp_exit ?_
              injection hL3542 with hL3542; subst hL3542
              exact ⟨l3541, rfl, h.z⟩
        · skip
          rintro ac wd ⟨l3449, rfl, h⟩
          (try dsimp only at hE3307)
          injection hE3307 with hE3307; subst hE3307
          exact ⟨l3449, rfl, h.z⟩
      · skip
        rintro ac wd ⟨l3305, rfl, h⟩
        (try dsimp only at hL3161)
        refine qe [] [2, 3, 5, 12, 13, 14] [(1, 0), (2, 0), (9, 0)] h fun ac wd h => ?_
        exact ⟨nf, Nat.lt_succ_self nf, (IntKind.wrap .i64 (n3159 + 1)), l3305, hL3161, h.z⟩
    ·
      refine kF h ?_
      refine wp_exit ?_
      change Code.wp Try.prog _ _ _ _
      refine qs 164 [] [4] [(9, 0)] h fun ac wd h => ?_
      refine wp_ret ?_
      have h := h.sm 164 [(4, .one (.own (9, 0) l3160.length))]
        [((9, 0), some (.row 55 2 (dat (List.map eA2I l3160))))]
      have h := h.sw (1, 0) (9, 0) 164
      have h := h.sm 164 [(4, .one (.own (1, 0) l3160.length))]
        [((1, 0), some (.row 55 2 (dat (List.map eA2I l3160))))]
      injection hL3161 with hL3161
      subst hL3161
      exact rO h [.tmp 4] [(1, 0)]
theorem L_knot_Edges_ok {a0 : TApp} {a1 : TConf} {r : (List A2I)} (hD : L_knot_Edges a0 a1 = some r) :
    CallH Try.prog 24 [.agg (cTApp a0), .agg (cTConf a1)] []
      (.one (.d (.sl (List.map eA2I r)))) [] :=
  (L_knot_Edges_own hD).fr

theorem L_ref15_Pairs_ok {a0 : (List A2I)} {a1 : (List A2I)} {r : Bool} (hD : L_ref15_Pairs a0 a1 = some r) :
    CallH Try.prog 23 [.one (.d (.sl (List.map eA2I a0))), .one (.d (.sl (List.map eA2I a1)))] []
      (.one (.d (.bool r))) [] := by
  unfold L_ref15_Pairs at hD
  refine rc Try.func23 rfl Try.ntmps23 fun S Φ P0 wb ac h => ?_
  refine qs 2 [] [0, 1] [] h fun ac wd h => ?_
  refine wp_seq ?_
  refine qs 7 [] [0, 1, 10] [] h fun ac wd h => ?_
  rcases i2e hD with ⟨hb155, hD⟩ | ⟨hb155, hD⟩
  ·
    refine kF h ?_
    refine wp_skip ?_
    change Code.wp Try.prog _ _ _ _
    refine wp_seq ?_
    refine qs 8 [] [0, 1, 5] [] h fun ac wd h => ?_
    refine wp_block ?_
    refine r_while (fun nf ac wd => ∃ (n279 : Int), L_ref15_Pairs_l1 a0 a1 nf n279 = some r ∧ SL ⟨wb, S, Φ, P0⟩ 26 40 [(0, .one (.d (.sl (List.map eA2I a0)))), (1, .one (.d (.sl (List.map eA2I a1)))), (5, .one (.d (.int .i64 n279)))] [] ac wd) (((a0.length : Int) - 0).toNat + 1) ⟨0, hD, h.z⟩ (fun nf ac wd hJ => ?_)
    obtain ⟨n279, hL280, h⟩ := hJ
    cases nf with
    | zero => rw [L_ref15_Pairs_l1] at hL280; cases hL280
    | succ nf =>
      rw [L_ref15_Pairs_l1] at hL280
      refine wp_seq ?_
      refine qs 44 [] [0, 1, 5, 14] [] h fun ac wd h => ?_
      rcases i2 hL280 with ⟨hb282, hL280⟩ | ⟨hb282, hL280⟩
      ·
        refine kT h ?_
        refine wp_skip ?_
        change Code.wp Try.prog _ _ _ _
        refine wp_seq ?_
        refine wp_block ?_
        obtain ⟨x299, hx300a, hx300b, hx300c, hx300d, hL280⟩ := aB hL280
        obtain ⟨x301, hx302a, hx302b, hx302c, hx302d, hL280⟩ := aB hL280
        have hz303 := eq_A2I_vv x299 x301
        refine ds 53 [] [0, 1, 5, 25] [] h fun ac wd h => ?_
        rcases i2e hL280 with ⟨hb304, hL280⟩ | ⟨hb304, hL280⟩
        ·
          refine kF h ?_
          refine wp_skip ?_
          change Code.wp Try.prog _ _ _ _
          refine qe [] [0, 1, 5] [] h fun ac wd h => ?_
          exact ⟨nf, Nat.lt_succ_self nf, (IntKind.wrap .i64 (n279 + 1)), hL280, h.z⟩
        ·
          refine kT h ?_
          refine qs 54 [] [4] [] h fun ac wd h => ?_
          refine wp_ret ?_
          injection hL280 with hL280
          subst hL280
          exact rE h [.tmp 4]
      ·
        refine kF h ?_
        refine wp_exit ?_
        change Code.wp Try.prog _ _ _ _
        refine qs 45 [] [4] [] h fun ac wd h => ?_
        refine wp_ret ?_
        injection hL280 with hL280
        subst hL280
        exact rE h [.tmp 4]
  ·
    refine kT h ?_
    refine qs 8 [] [4] [] h fun ac wd h => ?_
    refine wp_ret ?_
    injection hD with hD
    subst hD
    exact rE h [.tmp 4]

end Go.Proofs.Ytgkjgpbinblmdaa
