/- Functions as typed ones, and that the program's functions answer as these do. No condition. -/
import Derived.Test.YtkfahinbpmhcgaaGb5
import Derived.Test.YtkfahinbpmhcgaaGdTableOwn
set_option linter.unusedSimpArgs false
set_option linter.unusedVariables false
set_option maxRecDepth 20000
set_option maxHeartbeats 4000000
namespace Go.Proofs.Ytkfahinbpmhcgaa
open Go.RowKit

theorem L_law04_TableOwn_ok {a0 : (List TNode)} {a1 : TGraph} {a2 : A3I} {r : Bool} (hD : L_law04_TableOwn a0 a1 a2 = some r) :
    CallH Try.prog 8 [.one (.d (.sl (List.map eTNode a0))), .agg (cTGraph a1), .agg (cA3I a2)] []
      (.one (.d (.bool r))) [] := by
  unfold L_law04_TableOwn at hD
  refine rc Try.func8 rfl Try.ntmps8 fun S Φ P0 wb ac h => ?_
  refine qs 4 [] [0, 4, 5] [(1, 0), (2, 0)] h fun ac wd h => ?_
  obtain ⟨r283, hc284, hD⟩ := oB hD
  have hc284k := L_law04_Cut_ok hc284
  refine qs 7 [factE 5 hc284k] [0, 4, 5] [(1, 0), (2, 0)] h fun ac wd h => ?_
  obtain ⟨r287, hc288, hD⟩ := oB hD
  have hc288k := L_law03_Cut_ok hc288
  refine qs 10 [factE 8 hc288k] [0, 4, 5] [(1, 0), (2, 0)] h fun ac wd h => ?_
  refine wp_seq ?_
  obtain ⟨r295, hc296, hD⟩ := oB hD
  obtain ⟨r297, hc298, hD⟩ := oB hD
  obtain ⟨r299, hc300, hD⟩ := oB hD
  have hc296k := L_law04_Ref_ok hc296
  have hc298k := L_law03_Ref_ok hc298
  have hc300k := L_ref04_Right_ok hc300
  refine ds 16 [factE 11 hc296k, factE 13 hc298k, factE 14 hc300k] [0, 4, 5, 26] [(1, 0), (2, 0)] h fun ac wd h => ?_
  rcases i2b hD with ⟨hb315, hD⟩ | ⟨hb315, hD⟩
  ·
    refine kF h ?_
    refine wp_skip ?_
    change Code.wp Try.prog _ _ _ _
    obtain ⟨r348, hc349, hD⟩ := oB hD
    have hc349_21 := ((L_table_Waits_own hc349).cls 21).z
    refine qs 23 [factO hc349_21] [0, 4, 5, 7] [(1, 0), (2, 0), (21, 0)] h fun ac wd h => ?_
    obtain ⟨r352, hc353, hD⟩ := oB hD
    have hc353_30 := ((L_table_Picked_own hc353).cls 30).z
    refine qs 37 [factO hc353_30] [0, 4, 5, 7, 8, 9] [(1, 0), (2, 0), (21, 0), (30, 0), (34, 0)] h fun ac wd h => ?_
    obtain ⟨ha356, hD⟩ := iT hD
    obtain ⟨ha357, hD⟩ := iT hD
    refine ds 46 [] [0, 4, 5, 7, 8, 9, 10, 11] [(1, 0), (2, 0), (21, 0), (30, 0), (34, 0), (39, 0), (43, 0)] h fun ac wd h => ?_
    refine wp_seq ?_
    refine qs 47 [] [0, 4, 5, 7, 8, 9, 10, 11, 12] [(1, 0), (2, 0), (21, 0), (30, 0), (34, 0), (39, 0), (43, 0)] h fun ac wd h => ?_
    obtain ⟨e418, hE419, hD⟩ := Option.bind_eq_some_iff.1 hD
    refine r_meet (fun ac wd => () = e418 ∧ SL ⟨wb, S, Φ, P0⟩ 134 73 [(0, .one (.d (.sl (List.map eTNode r283)))), (4, .one (.ptr (1, 0) 0)), (5, .one (.ptr (2, 0) 0)), (8, .one (.ptr (34, 0) 0)), (9, .one (.d (.bool r352.2))), (10, .one (.own (39, 0) r348.length)), (11, .one (.own (43, 0) r352.1.Sends.length))] [((1, 0), some (.box 24 [.d (.int .i64 r287.N), .d (.sl (List.map eA2I r287.Links))])), ((2, 0), some (.box 82 (cA3I a2))), ((30, 0), some (.row 81 2 (dat (List.map eTSend r352.1.Sends)))), ((34, 0), some (.box 74 [.d (.int .i64 r352.1.Next), .own (30, 0) r352.1.Sends.length])), ((39, 0), some (.row 3 1 (dat (List.map eI r348)))), ((43, 0), some (.row 81 2 (dat (List.map eTSend r352.1.Sends))))] ac wd) ?_ ?_
    · skip
      refine wp_block ?_
      refine r_while (fun nf ac wd => ∃ (n434 : Int) (l435 : List Int), L_law04_TableOwn_l1 nf n434 l435 = some e418 ∧ SL ⟨wb, S, Φ, P0⟩ 134 69 [(0, .one (.d (.sl (List.map eTNode r283)))), (4, .one (.ptr (1, 0) 0)), (5, .one (.ptr (2, 0) 0)), (7, .one (.own (21, 0) l435.length)), (8, .one (.ptr (34, 0) 0)), (9, .one (.d (.bool r352.2))), (10, .one (.own (39, 0) r348.length)), (11, .one (.own (43, 0) r352.1.Sends.length)), (12, .one (.d (.int .i64 n434)))] [((1, 0), some (.box 24 [.d (.int .i64 r287.N), .d (.sl (List.map eA2I r287.Links))])), ((2, 0), some (.box 82 (cA3I a2))), ((21, 0), some (.row 3 1 (dat (List.map eI l435)))), ((30, 0), some (.row 81 2 (dat (List.map eTSend r352.1.Sends)))), ((34, 0), some (.box 74 [.d (.int .i64 r352.1.Next), .own (30, 0) r352.1.Sends.length])), ((39, 0), some (.row 3 1 (dat (List.map eI r348)))), ((43, 0), some (.row 81 2 (dat (List.map eTSend r352.1.Sends))))] ac wd) (((r348.length : Int) - 0).toNat + 1) ⟨0, r348, hE419, h.z⟩ (fun nf ac wd hJ => ?_)
      obtain ⟨n434, l435, hL436, h⟩ := hJ
      cases nf with
      | zero => rw [L_law04_TableOwn_l1] at hL436; cases hL436
      | succ nf =>
        rw [L_law04_TableOwn_l1] at hL436
        refine wp_seq ?_
        refine qs 73 [] [0, 4, 5, 7, 8, 9, 10, 11, 12, 61] [(1, 0), (2, 0), (21, 0), (30, 0), (34, 0), (39, 0), (43, 0)] h fun ac wd h => ?_
        rcases i2 hL436 with ⟨hb438, hL436⟩ | ⟨hb438, hL436⟩
        ·
          refine kT h ?_
          refine wp_skip ?_
          change Code.wp Try.prog _ _ _ _
          refine wp_seq ?_
          refine wp_block ?_
          obtain ⟨x443, hx444a, hx444b, hx444c, hx444d, hL436⟩ := aB hL436
          refine qe [] [0, 4, 5, 7, 8, 9, 10, 11, 12] [(1, 0), (2, 0), (21, 0), (30, 0), (34, 0), (39, 0), (43, 0)] h fun ac wd h => ?_
          change Code.wp Try.prog _ _ _ _
          refine qe [] [0, 4, 5, 7, 8, 9, 10, 11, 12] [(1, 0), (2, 0), (21, 0), (30, 0), (34, 0), (39, 0), (43, 0)] h fun ac wd h => ?_
          exact ⟨nf, Nat.lt_succ_self nf, (IntKind.wrap .i64 (n434 + 1)), (l435.set n434.toNat 99), hL436, h.z⟩
        ·
          refine kF h ?_
          refine wp_exit ?_
          injection hL436 with hL436; subst hL436
          exact ⟨rfl, h.z⟩
    · skip
      rintro ac wd ⟨rfl, h⟩
      (try dsimp only at hD)
      refine wp_seq ?_
      refine qs 74 [] [0, 4, 5, 8, 9, 10, 11, 13] [(1, 0), (2, 0), (30, 0), (34, 0), (39, 0), (43, 0)] h fun ac wd h => ?_
      obtain ⟨e555, hE556, hD⟩ := Option.bind_eq_some_iff.1 hD
      refine r_meet (fun ac wd => () = e555 ∧ SL ⟨wb, S, Φ, P0⟩ 134 107 [(0, .one (.d (.sl (List.map eTNode r283)))), (4, .one (.ptr (1, 0) 0)), (5, .one (.ptr (2, 0) 0)), (9, .one (.d (.bool r352.2))), (10, .one (.own (39, 0) r348.length)), (11, .one (.own (43, 0) r352.1.Sends.length))] [((1, 0), some (.box 24 [.d (.int .i64 r287.N), .d (.sl (List.map eA2I r287.Links))])), ((2, 0), some (.box 82 (cA3I a2))), ((39, 0), some (.row 3 1 (dat (List.map eI r348)))), ((43, 0), some (.row 81 2 (dat (List.map eTSend r352.1.Sends))))] ac wd) ?_ ?_
      · skip
        refine wp_block ?_
        refine r_while (fun nf ac wd => ∃ (n571 : Int) (l572 : List TSend), L_law04_TableOwn_l2 nf n571 l572 = some e555 ∧ SL ⟨wb, S, Φ, P0⟩ 134 102 [(0, .one (.d (.sl (List.map eTNode r283)))), (4, .one (.ptr (1, 0) 0)), (5, .one (.ptr (2, 0) 0)), (8, .one (.ptr (34, 0) 0)), (9, .one (.d (.bool r352.2))), (10, .one (.own (39, 0) r348.length)), (11, .one (.own (43, 0) r352.1.Sends.length)), (13, .one (.d (.int .i64 n571)))] [((1, 0), some (.box 24 [.d (.int .i64 r287.N), .d (.sl (List.map eA2I r287.Links))])), ((2, 0), some (.box 82 (cA3I a2))), ((30, 0), some (.row 81 2 (dat (List.map eTSend l572)))), ((34, 0), some (.box 74 [.d (.int .i64 r352.1.Next), .own (30, 0) l572.length])), ((39, 0), some (.row 3 1 (dat (List.map eI r348)))), ((43, 0), some (.row 81 2 (dat (List.map eTSend r352.1.Sends))))] ac wd) (((r352.1.Sends.length : Int) - 0).toNat + 1) ⟨0, r352.1.Sends, hE556, h.z⟩ (fun nf ac wd hJ => ?_)
        obtain ⟨n571, l572, hL573, h⟩ := hJ
        cases nf with
        | zero => rw [L_law04_TableOwn_l2] at hL573; cases hL573
        | succ nf =>
          rw [L_law04_TableOwn_l2] at hL573
          refine wp_seq ?_
          refine qs 107 [] [0, 4, 5, 8, 9, 10, 11, 13, 71] [(1, 0), (2, 0), (30, 0), (34, 0), (39, 0), (43, 0)] h fun ac wd h => ?_
          rcases i2 hL573 with ⟨hb575, hL573⟩ | ⟨hb575, hL573⟩
          ·
            refine kT h ?_
            refine wp_skip ?_
            change Code.wp Try.prog _ _ _ _
            refine wp_seq ?_
            refine wp_block ?_
            obtain ⟨x580, hx581a, hx581b, hx581c, hx581d, hL573⟩ := aB hL573
            refine qe [] [0, 4, 5, 8, 9, 10, 11, 13] [(1, 0), (2, 0), (30, 0), (34, 0), (39, 0), (43, 0)] h fun ac wd h => ?_
            change Code.wp Try.prog _ _ _ _
            refine qe [] [0, 4, 5, 8, 9, 10, 11, 13] [(1, 0), (2, 0), (30, 0), (34, 0), (39, 0), (43, 0)] h fun ac wd h => ?_
            exact ⟨nf, Nat.lt_succ_self nf, (IntKind.wrap .i64 (n571 + 1)), (l572.set n571.toNat (TSend.mk 99 0)), hL573, h.z⟩
          ·
            refine kF h ?_
            refine wp_exit ?_
            injection hL573 with hL573; subst hL573
            exact ⟨rfl, h.z⟩
      · skip
        rintro ac wd ⟨rfl, h⟩
        (try dsimp only at hD)
        have hc353k := L_table_Picked_ok hc353
        refine qs 121 [factE 114 hc353k] [0, 4, 5, 9, 10, 11, 14, 15] [(1, 0), (2, 0), (39, 0), (43, 0), (118, 0)] h fun ac wd h => ?_
        refine wp_seq ?_
        obtain ⟨hb626, hD⟩ := iTe hD
        obtain ⟨hb627, hD⟩ := iTe hD
        obtain ⟨r628, hc629, hD⟩ := oB hD
        have hc349k := L_table_Waits_ok hc349
        have hc629k := L_ref01_Ints_ok hc629
        refine qsg 143 [factE 138 hc349k, factE 140 hc629k] [none, none, none, none, some (some 93, false), some (some 93, false), some (some 93, false), some (some 93, false), some (some 93, false), some (some 93, false), none, none, some (some 101, false), some (some 101, false), some (some 101, false), some (some 101, false), some (some 101, false), some (some 101, false), some (some 101, false), some (some 101, false), some (some 101, false), none] [0, 4, 11, 14, 111] [(1, 0), (43, 0), (118, 0)] h fun ac wd h => ?_
        obtain ⟨hb631, hD⟩ := iT hD
        refine kF h ?_
        refine wp_skip ?_
        change Code.wp Try.prog _ _ _ _
        refine wp_seq ?_
        refine qs 144 [] [0, 4, 11, 14, 16] [(1, 0), (43, 0), (118, 0)] h fun ac wd h => ?_
        obtain ⟨e692, hE693, hD⟩ := Option.bind_eq_some_iff.1 hD
        refine r_meet (fun ac wd => () = e692 ∧ SL ⟨wb, S, Φ, P0⟩ 134 182 [(0, .one (.d (.sl (List.map eTNode r283)))), (4, .one (.ptr (1, 0) 0))] [((1, 0), some (.box 24 [.d (.int .i64 r287.N), .d (.sl (List.map eA2I r287.Links))]))] ac wd) ?_ ?_
        · skip
          refine wp_block ?_
          refine r_while (fun nf ac wd => ∃ (n727 : Int), L_law04_TableOwn_l3 r352 nf n727 = some e692 ∧ SL ⟨wb, S, Φ, P0⟩ 134 178 [(0, .one (.d (.sl (List.map eTNode r283)))), (4, .one (.ptr (1, 0) 0)), (11, .one (.own (43, 0) r352.1.Sends.length)), (14, .one (.ptr (118, 0) 0)), (16, .one (.d (.int .i64 n727)))] [((1, 0), some (.box 24 [.d (.int .i64 r287.N), .d (.sl (List.map eA2I r287.Links))])), ((43, 0), some (.row 81 2 (dat (List.map eTSend r352.1.Sends)))), ((118, 0), some (.box 74 [.d (.int .i64 r352.1.Next), .d (.sl (List.map eTSend r352.1.Sends))]))] ac wd) (((r352.1.Sends.length : Int) - 0).toNat + 1) ⟨0, hE693, h.z⟩ (fun nf ac wd hJ => ?_)
          obtain ⟨n727, hL728, h⟩ := hJ
          cases nf with
          | zero => rw [L_law04_TableOwn_l3] at hL728; cases hL728
          | succ nf =>
            rw [L_law04_TableOwn_l3] at hL728
            refine wp_seq ?_
            refine qs 182 [] [0, 4, 11, 14, 16, 115] [(1, 0), (43, 0), (118, 0)] h fun ac wd h => ?_
            rcases i2 hL728 with ⟨hb730, hL728⟩ | ⟨hb730, hL728⟩
            ·
              refine kT h ?_
              refine wp_skip ?_
              change Code.wp Try.prog _ _ _ _
              refine wp_seq ?_
              refine wp_block ?_
              obtain ⟨x745, hx746a, hx746b, hx746c, hx746d, hL728⟩ := aB hL728
              have hz747 := eq_TSend_vv x745 x745
              refine ds 192 [] [0, 4, 11, 14, 16, 127] [(1, 0), (43, 0), (118, 0)] h fun ac wd h => ?_
              obtain ⟨hb748, hL728⟩ := iTe hL728
              refine kF h ?_
              refine wp_skip ?_
              change Code.wp Try.prog _ _ _ _
              refine qe [] [0, 4, 11, 14, 16] [(1, 0), (43, 0), (118, 0)] h fun ac wd h => ?_
              exact ⟨nf, Nat.lt_succ_self nf, (IntKind.wrap .i64 (n727 + 1)), hL728, h.z⟩
            ·
              refine kF h ?_
              refine wp_exit ?_
              injection hL728 with hL728; subst hL728
              exact ⟨rfl, h.z⟩
        · skip
          rintro ac wd ⟨rfl, h⟩
          (try dsimp only at hD)
          obtain ⟨r754, hc755, hD⟩ := oB hD
          obtain ⟨hb756, hD⟩ := iT hD
          obtain ⟨r757, hc758, hD⟩ := oB hD
          have hc755k := L_table_Right_ok hc755
          have hc758k := L_law04_fixed_ok hc758
          refine qsg 189 [factE 184 hc755k, factE 186 hc758k] [none, none, none, none, some (some 131, true), none, none] [6] [] h fun ac wd h => ?_
          refine wp_ret ?_
          injection hD with hD
          subst hD
          exact rE h [.tmp 6]
  ·
    refine kT h ?_
    obtain ⟨r764, hc765, hD⟩ := oB hD
    obtain ⟨hb766, hD⟩ := iFb hD
    obtain ⟨r769, hc770, hD⟩ := oB hD
    have hc765k := L_table_Right_ok hc765
    have hc770k := L_law04_fixed_ok hc770
    refine qsg 24 [factE 18 hc765k, factE 21 hc770k] [none, none, none, none, none, some (some 31, true), none, none] [6] [] h fun ac wd h => ?_
    refine wp_ret ?_
    injection hD with hD
    subst hD
    exact rE h [.tmp 6]

end Go.Proofs.Ytkfahinbpmhcgaa
