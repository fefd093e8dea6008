/- Functions as typed ones, and that the program's functions answer as these do. No condition. -/
import Derived.Test.YtgkjgpbinblmdaaGb6
import Derived.Test.YtgkjgpbinblmdaaGdKnotSome
set_option linter.unusedSimpArgs false
set_option linter.unusedVariables false
set_option maxRecDepth 20000
set_option maxHeartbeats 4000000
namespace Go.Proofs.Ytgkjgpbinblmdaa
open Go.RowKit

theorem L_law15_KnotSome_ok {a0 : TApp} {a1 : TConf} {a2 : A2LI} {r : Bool} (hD : L_law15_KnotSome a0 a1 a2 = some r) :
    CallH Try.prog 4 [.agg (cTApp a0), .agg (cTConf a1), .agg (cA2LI a2)] []
      (.one (.d (.bool r))) [] := by
  unfold L_law15_KnotSome at hD
  refine rc Try.func4 rfl Try.ntmps4 fun S Φ P0 wb ac h => ?_
  refine qs 5 [] [3, 4, 5] [(1, 0), (2, 0), (3, 0)] h fun ac wd h => ?_
  obtain ⟨r305, hc306, hD⟩ := oB hD
  have hc306k := L_law05_Cut_ok hc306
  refine qs 8 [factE 6 hc306k] [3, 4, 5] [(1, 0), (2, 0), (3, 0)] h fun ac wd h => ?_
  obtain ⟨r309, hc310, hD⟩ := oB hD
  have hc310k := L_law05_CutConf_ok hc310
  refine qs 11 [factE 9 hc310k] [3, 4, 5] [(1, 0), (2, 0), (3, 0)] h fun ac wd h => ?_
  refine wp_seq ?_
  obtain ⟨r317, hc318, hD⟩ := oB hD
  obtain ⟨r319, hc320, hD⟩ := oB hD
  obtain ⟨r321, hc322, hD⟩ := oB hD
  have hc318k := L_law05_App_ok hc318
  have hc320k := L_law05_Ref_ok hc320
  have hc322k := L_ref05_Right_ok hc322
  refine ds 17 [factE 12 hc318k, factE 14 hc320k, factE 15 hc322k] [3, 4, 5, 22] [(1, 0), (2, 0), (3, 0)] h fun ac wd h => ?_
  rcases i2b hD with ⟨hb337, hD⟩ | ⟨hb337, hD⟩
  ·
    refine kF h ?_
    refine wp_skip ?_
    change Code.wp Try.prog _ _ _ _
    obtain ⟨ha397, hD⟩ := iT hD
    obtain ⟨ha398, hD⟩ := iT hD
    obtain ⟨v399, hv400, hD⟩ := vB hD
    obtain ⟨ha401, hD⟩ := iT hD
    obtain ⟨ha402, hD⟩ := iT hD
    obtain ⟨v403, hv404, hD⟩ := vB hD
    refine ds 33 [] [3, 4, 7, 8] [(1, 0), (2, 0)] h fun ac wd h => ?_
    obtain ⟨ha406, hD⟩ := iT hD
    refine qs 37 [] [3, 4, 7, 8, 9] [(1, 0), (2, 0), (35, 0)] h fun ac wd h => ?_
    obtain ⟨ha408, hD⟩ := iT hD
    refine qs 41 [] [3, 4, 7, 8, 9] [(1, 0), (2, 0), (39, 0)] h fun ac wd h => ?_
    refine wp_seq ?_
    obtain ⟨r411, hc412, hD⟩ := oB hD
    have hc412k := L_knot_Held_ok hc412
    refine qs 45 [factE 44 hc412k] [3, 4, 7, 8, 9, 53] [(1, 0), (2, 0), (39, 0)] h fun ac wd h => ?_
    obtain ⟨e529, hE530, hD⟩ := Option.bind_eq_some_iff.1 hD
    refine r_meet (fun ac wd => () = e529 ∧ SL ⟨wb, S, Φ, P0⟩ 88 104 [] [] ac wd) ?_ ?_
    · skip
      rcases i2b hE530 with ⟨hb531, hE530⟩ | ⟨hb531, hE530⟩
      ·
        refine kT h ?_
        obtain ⟨r567, hc568, hE530⟩ := oB hE530
        have hc568k := L_knot_Knot_ok hc568
        refine qs 50 [factE 47 hc568k] [3, 4, 7, 8, 9, 10, 11] [(1, 0), (2, 0), (39, 0)] h fun ac wd h => ?_
        refine wp_seq ?_
        refine qs 51 [] [3, 4, 7, 8, 9, 10, 11, 12] [(1, 0), (2, 0), (39, 0)] h fun ac wd h => ?_
        obtain ⟨e628, hE629, hE530⟩ := Option.bind_eq_some_iff.1 hE530
        refine r_meet (fun ac wd => ∃ (b627 : Bool), b627 = e628 ∧ SL ⟨wb, S, Φ, P0⟩ 88 89 [(3, .one (.ptr (1, 0) 0)), (4, .one (.ptr (2, 0) 0)), (8, .one (.d (.sl (List.map eI v403)))), (9, .one (.own (39, 0) (v399.length + v403.length))), (11, .one (.d (.bool b627)))] [((1, 0), some (.box 27 [.d (.int .i64 r305.G.N), .d (.sl (List.map eA2I r305.G.Links)), .d (.sl (List.map eTNode r305.T)), .d (.bool r305.Fifo)])), ((2, 0), some (.box 31 [.d (.sl (List.map eI r309.States)), .d (.sl (List.map (eL eTMsg) r309.Links)), .d (.sl (List.map eI r309.Sent))])), ((39, 0), some (.row 3 1 (dat (List.map eI (v399 ++ v403)))))] ac wd) ?_ ?_
        · skip
          refine wp_block ?_
          refine r_while (fun nf ac wd => ∃ (b657 : Bool) (n658 : Int), L_law15_KnotSome_l1 r567 v399 nf b657 n658 = some e628 ∧ SL ⟨wb, S, Φ, P0⟩ 88 85 [(3, .one (.ptr (1, 0) 0)), (4, .one (.ptr (2, 0) 0)), (7, .one (.d (.sl (List.map eI v399)))), (8, .one (.d (.sl (List.map eI v403)))), (9, .one (.own (39, 0) (v399.length + v403.length))), (10, .one (.d (.sl (List.map eI r567)))), (11, .one (.d (.bool b657))), (12, .one (.d (.int .i64 n658)))] [((1, 0), some (.box 27 [.d (.int .i64 r305.G.N), .d (.sl (List.map eA2I r305.G.Links)), .d (.sl (List.map eTNode r305.T)), .d (.bool r305.Fifo)])), ((2, 0), some (.box 31 [.d (.sl (List.map eI r309.States)), .d (.sl (List.map (eL eTMsg) r309.Links)), .d (.sl (List.map eI r309.Sent))])), ((39, 0), some (.row 3 1 (dat (List.map eI (v399 ++ v403)))))] ac wd) (((v399.length : Int) - 0).toNat + 1) ⟨false, 0, hE629, h.z⟩ (fun nf ac wd hJ => ?_)
          obtain ⟨b657, n658, hL659, h⟩ := hJ
          cases nf with
          | zero => rw [L_law15_KnotSome_l1] at hL659; cases hL659
          | succ nf =>
            rw [L_law15_KnotSome_l1] at hL659
            refine wp_seq ?_
            refine qs 89 [] [3, 4, 7, 8, 9, 10, 11, 12, 60] [(1, 0), (2, 0), (39, 0)] h fun ac wd h => ?_
            rcases i2 hL659 with ⟨hb661, hL659⟩ | ⟨hb661, hL659⟩
            ·
              refine kT h ?_
              refine wp_skip ?_
              change Code.wp Try.prog _ _ _ _
              obtain ⟨e669, hE670, hL659⟩ := Option.bind_eq_some_iff.1 hL659
              refine r_seqJ (fun ac wd => ∃ (b668 : Bool), b668 = e669 ∧ SL ⟨wb, S, Φ, P0⟩ 88 99 [(3, .one (.ptr (1, 0) 0)), (4, .one (.ptr (2, 0) 0)), (7, .one (.d (.sl (List.map eI v399)))), (8, .one (.d (.sl (List.map eI v403)))), (9, .one (.own (39, 0) (v399.length + v403.length))), (10, .one (.d (.sl (List.map eI r567)))), (11, .one (.d (.bool b668))), (12, .one (.d (.int .i64 n658)))] [((1, 0), some (.box 27 [.d (.int .i64 r305.G.N), .d (.sl (List.map eA2I r305.G.Links)), .d (.sl (List.map eTNode r305.T)), .d (.bool r305.Fifo)])), ((2, 0), some (.box 31 [.d (.sl (List.map eI r309.States)), .d (.sl (List.map (eL eTMsg) r309.Links)), .d (.sl (List.map eI r309.Sent))])), ((39, 0), some (.row 3 1 (dat (List.map eI (v399 ++ v403)))))] ac wd) ?_ ?_
              · skip
                refine wp_block ?_
                rcases i2b hE670 with ⟨hb671, hE670⟩ | ⟨hb671, hE670⟩
                ·
                  refine qeg [] [none, none, some (some 64, false), some (some 64, false), some (some 64, false), some (some 64, false), some (some 64, false), some (some 64, false), none, none] [3, 4, 7, 8, 9, 10, 11, 12] [(1, 0), (2, 0), (39, 0)] h fun ac wd h => ?_
                  injection hE670 with hE670; subst hE670
                  exact ⟨true, rfl, h.z⟩
                ·
                  obtain ⟨x676, hx677a, hx677b, hx677c, hx677d, hE670⟩ := aB hE670
                  obtain ⟨r678, hc679, hE670⟩ := oB hE670
                  have hc679k := L_ref04_In_ok hc679
                  refine qeg [factE 96 hc679k] [none, none, some (some 64, false), some (some 64, false), some (some 64, false), some (some 64, false), some (some 64, false), some (some 64, false), none, none] [3, 4, 7, 8, 9, 10, 11, 12] [(1, 0), (2, 0), (39, 0)] h fun ac wd h => ?_
                  injection hE670 with hE670; subst hE670
                  exact ⟨r678, rfl, h.z⟩
              · skip
                rintro ac wd ⟨b668, rfl, h⟩
                (try dsimp only at hL659)
                refine qe [] [3, 4, 7, 8, 9, 10, 11, 12] [(1, 0), (2, 0), (39, 0)] h fun ac wd h => ?_
                exact ⟨nf, Nat.lt_succ_self nf, b668, (IntKind.wrap .i64 (n658 + 1)), hL659, h.z⟩
            ·
              refine kF h ?_
              refine wp_exit ?_
              injection hL659 with hL659; subst hL659
              exact ⟨b657, rfl, h.z⟩
        · skip
          rintro ac wd ⟨b627, rfl, h⟩
          (try dsimp only at hE530)
          obtain ⟨e688, hE689, hE530⟩ := Option.bind_eq_some_iff.1 hE530
          refine r_seqJ (fun ac wd => ∃ (b687 : Bool), b687 = e688 ∧ SL ⟨wb, S, Φ, P0⟩ 88 104 [(86, .one (.d (.bool b687)))] [] ac wd) ?_ ?_
          · skip
            rcases i2b hE689 with ⟨hb690, hE689⟩ | ⟨hb690, hE689⟩
            ·
              obtain ⟨r696, hc697, hE689⟩ := oB hE689
              rcases i2b hE689 with ⟨hb698, hE689⟩ | ⟨hb698, hE689⟩
              ·
                obtain ⟨r701, hc702, hE689⟩ := oB hE689
                have hc697k := L_knot_Held_ok hc697
                have hc702k := L_knot_Held_ok hc702
                refine qeg [factE 95 hc697k, factE 100 hc702k] [none, none, none, some (some 74, false), some (some 74, false), some (some 74, false), some (some 74, false), some (some 74, false), some (some 79, true), some (some 79, true), some (some 79, true), some (some 79, true), some (some 79, true), some (some 74, false), none] [86] [] h fun ac wd h => ?_
                injection hE689 with hE689; subst hE689
                exact ⟨!(r701), rfl, h.z⟩
              ·
                have hc697k := L_knot_Held_ok hc697
                refine qeg [factE 95 hc697k] [none, none, none, some (some 74, false), some (some 74, false), some (some 74, false), some (some 74, false), some (some 74, false), some (some 79, true), some (some 79, true), some (some 79, true), some (some 79, true), some (some 79, true), some (some 74, false), none] [86] [] h fun ac wd h => ?_
                injection hE689 with hE689; subst hE689
                exact ⟨false, rfl, h.z⟩
            ·
              refine qeg [] [none, none, none, some (some 74, false), some (some 74, false), some (some 74, false), some (some 74, false), some (some 74, false), some (some 79, true), some (some 79, true), some (some 79, true), some (some 79, true), some (some 79, true), some (some 74, false), none] [86] [] h fun ac wd h => ?_
              injection hE689 with hE689; subst hE689
              exact ⟨true, rfl, h.z⟩
          · skip
            rintro ac wd ⟨b687, rfl, h⟩
            (try dsimp only at hE530)
            obtain ⟨hb703, hE530⟩ := iFb hE530
            refine kF h ?_
            refine wp_skip ?_
            injection hE530 with hE530; subst hE530
            exact ⟨rfl, h.z⟩
      ·
        refine kF h ?_
        refine wp_skip ?_
        injection hE530 with hE530; subst hE530
        exact ⟨rfl, h.z⟩
    · skip
      rintro ac wd ⟨rfl, h⟩
      (try dsimp only at hD)
      obtain ⟨r706, hc707, hD⟩ := oB hD
      have hc707k := L_law15_fixed_ok hc707
      refine qs 106 [factE 104 hc707k] [6] [] h fun ac wd h => ?_
      refine wp_ret ?_
      injection hD with hD
      subst hD
      exact rE h [.tmp 6]
  ·
    refine kT h ?_
    obtain ⟨r713, hc714, hD⟩ := oB hD
    obtain ⟨hb715, hD⟩ := iFb hD
    obtain ⟨r718, hc719, hD⟩ := oB hD
    have hc714k := L_plain_Right_ok hc714
    have hc719k := L_law15_fixed_ok hc719
    refine qsg 25 [factE 19 hc714k, factE 22 hc719k] [none, none, none, none, none, some (some 27, true), none, none] [6] [] h fun ac wd h => ?_
    refine wp_ret ?_
    injection hD with hD
    subst hD
    exact rE h [.tmp 6]

end Go.Proofs.Ytgkjgpbinblmdaa
