/- Functions as typed ones, and that the program's functions answer as these do. No condition. -/
import Derived.Test.YtgkjgpbinblmdaaGb2
import Derived.Test.YtgkjgpbinblmdaaGd
set_option linter.unusedSimpArgs false
set_option linter.unusedVariables false
set_option maxRecDepth 20000
set_option maxHeartbeats 4000000
namespace Go.Proofs.Ytgkjgpbinblmdaa
open Go.RowKit

theorem L_slices_Repeat_int_int_own {a0 : (List Int)} {a1 : Int} {r : (List Int)} (hD : L_slices_Repeat_int_int a0 a1 = some r) :
    CallH Try.prog 117 [.one (.d (.sl (List.map eI a0))), .one (.d (.int .i64 a1))] []
      (.one (.own (1, 0) r.length)) [((1, 0), some (.row 3 1 (dat (List.map eI r))))] := by
  unfold L_slices_Repeat_int_int at hD
  refine rc Try.func117 rfl Try.ntmps117 fun S Φ P0 wb ac h => ?_
  refine qs 2 [] [0, 1] [] h fun ac wd h => ?_
  refine wp_seq ?_
  refine qs 4 [] [0, 1, 10] [] h fun ac wd h => ?_
  rcases i2 hD with ⟨hb94, hD⟩ | ⟨hb94, hD⟩
  ·
    refine kT h ?_
    cases hD
  ·
    refine kF h ?_
    refine wp_skip ?_
    change Code.wp Try.prog _ _ _ _
    obtain ⟨r97, hc98, hD⟩ := oB hD
    have hc98k := L_math_bits_Mul_ok hc98
    refine qs 15 [factE 9 hc98k] [0, 5, 6] [] h fun ac wd h => ?_
    refine wp_seq ?_
    obtain ⟨e101, hE102, hD⟩ := Option.bind_eq_some_iff.1 hD
    refine r_seqJ (fun ac wd => ∃ (b100 : Bool), b100 = e101 ∧ SL ⟨wb, S, Φ, P0⟩ 48 21 [(0, .one (.d (.sl (List.map eI a0)))), (6, .one (.d (.int .u64 r97.2))), (26, .one (.d (.bool b100)))] [] ac wd) ?_ ?_
    · skip
      rcases i2 hE102 with ⟨hb103, hE102⟩ | ⟨hb103, hE102⟩
      ·
        refine qeg [] [none, none, none, some (some 23, false), some (some 23, false), none] [0, 6, 26] [] h fun ac wd h => ?_
        injection hE102 with hE102; subst hE102
        exact ⟨true, rfl, h.z⟩
      ·
        refine qeg [] [none, none, none, some (some 23, false), some (some 23, false), none] [0, 6, 26] [] h fun ac wd h => ?_
        injection hE102 with hE102; subst hE102
        exact ⟨decide (r97.2 > 9223372036854775807), rfl, h.z⟩
    · skip
      rintro ac wd ⟨b100, rfl, h⟩
      (try dsimp only at hD)
      rcases i2b hD with ⟨hb105, hD⟩ | ⟨hb105, hD⟩
      ·
        refine kT h ?_
        cases hD
      ·
        refine kF h ?_
        refine wp_skip ?_
        change Code.wp Try.prog _ _ _ _
        obtain ⟨ha109, hD⟩ := iT hD
        obtain ⟨ha110, hD⟩ := iT hD
        obtain ⟨ha111, hD⟩ := iT hD
        refine qs 25 [] [0, 7] [(23, 0)] h fun ac wd h => ?_
        obtain ⟨v115, hv116, hD⟩ := vB hD
        have h := h.same [0, 7] [(23, 0)] 25 [(0, .one (.d (.sl (List.map eI a0)))), (7, .one (.own (23, 0) v115.length))]
          [((23, 0), some (.row 3 1 (dat (List.map eI v115))))]
          (by simp only [EZ, simprocAttr, hb94, hb105, ha109, ha110, ha111, dat_open, ← hv116] <;> rfl)
        have hl117 : ((a0.take v115.length) ++ v115.drop (a0.take v115.length).length).length = v115.length := by simp only [List.append_assoc, List.length_append, List.length_take, List.length_drop]; omega
        simp only [List.append_assoc, List.length_append, List.length_take, List.length_drop] at hl117
        refine qs 29 [] [7, 8] [(23, 0)] h fun ac wd h => ?_
        refine wp_seq ?_
        refine wp_block ?_
        refine r_while (fun nf ac wd => ∃ (n172 : Int) (l173 : List Int), L_slices_Repeat_int_int_l1 nf n172 l173 = some r ∧ SL ⟨wb, S, Φ, P0⟩ 48 57 [(7, .one (.own (23, 0) l173.length)), (8, .one (.d (.int .i64 n172)))] [((23, 0), some (.row 3 1 (dat (List.map eI l173))))] ac wd) (((((a0.take v115.length) ++ v115.drop (a0.take v115.length).length).length : Int) - ((Nat.min a0.length v115.length : Nat) : Int)).toNat + 1) ⟨((Nat.min a0.length v115.length : Nat) : Int), ((a0.take v115.length) ++ v115.drop (a0.take v115.length).length), hD, h.z⟩ (fun nf ac wd hJ => ?_)
        obtain ⟨n172, l173, hL174, h⟩ := hJ
        cases nf with
        | zero => rw [L_slices_Repeat_int_int_l1] at hL174; cases hL174
        | succ nf =>
          rw [L_slices_Repeat_int_int_l1] at hL174
          refine wp_seq ?_
          refine qs 61 [] [7, 8, 37] [(23, 0)] h fun ac wd h => ?_
          rcases i2 hL174 with ⟨hb176, hL174⟩ | ⟨hb176, hL174⟩
          ·
            refine kT h ?_
            refine wp_skip ?_
            change Code.wp Try.prog _ _ _ _
            refine wp_block ?_
            obtain ⟨ha177, hL174⟩ := iT hL174
            obtain ⟨ha178, hL174⟩ := iT hL174
            have hq179 : n172.toNat + (l173.length - n172.toNat) ≤ l173.length := by omega
            have hq180 : ¬ l173.length = n172.toNat := by omega
            have hq181 : n172.toNat ≤ l173.length := by omega
            have hl182 : (l173.take n172.toNat ++ ((l173.take n172.toNat).take (((l173.drop n172.toNat).take (l173.length - n172.toNat)).length)) ++ l173.drop (n172.toNat + ((l173.take n172.toNat).take (((l173.drop n172.toNat).take (l173.length - n172.toNat)).length)).length)).length = l173.length := by simp only [List.append_assoc, List.length_append, List.length_take, List.length_drop]; omega
            simp only [List.append_assoc, List.length_append, List.length_take, List.length_drop] at hl182
            refine de [] [7, 8] [(23, 0)] h fun ac wd h => ?_
            exact ⟨nf, Nat.lt_succ_self nf, (IntKind.wrap .i64 (n172 + ((Nat.min (l173.take n172.toNat).length (((l173.drop n172.toNat).take (l173.length - n172.toNat)).length) : Nat) : Int))), (l173.take n172.toNat ++ ((l173.take n172.toNat).take (((l173.drop n172.toNat).take (l173.length - n172.toNat)).length)) ++ l173.drop (n172.toNat + ((l173.take n172.toNat).take (((l173.drop n172.toNat).take (l173.length - n172.toNat)).length)).length)), hL174, h.z⟩
          ·
            refine kF h ?_
            refine wp_exit ?_
            change Code.wp Try.prog _ _ _ _
            refine qs 63 [] [4] [(23, 0)] h fun ac wd h => ?_
            refine wp_ret ?_
            have h := h.sm 63 [(4, .one (.own (23, 0) l173.length))]
              [((23, 0), some (.row 3 1 (dat (List.map eI l173))))]
            have h := h.sw (1, 0) (23, 0) 63
            have h := h.sm 63 [(4, .one (.own (1, 0) l173.length))]
              [((1, 0), some (.row 3 1 (dat (List.map eI l173))))]
            injection hL174 with hL174
            subst hL174
            exact rO h [.tmp 4] [(1, 0)]
theorem L_slices_Repeat_int_int_ok {a0 : (List Int)} {a1 : Int} {r : (List Int)} (hD : L_slices_Repeat_int_int a0 a1 = some r) :
    CallH Try.prog 117 [.one (.d (.sl (List.map eI a0))), .one (.d (.int .i64 a1))] []
      (.one (.d (.sl (List.map eI r)))) [] :=
  (L_slices_Repeat_int_int_own hD).fr

theorem L_graph_of_v1_own {a0 : TGraph} {a1 : Int} {r : (List Int)} (hD : L_graph_of_v1 a0 a1 = some r) :
    CallH Try.prog 127 [.agg (cTGraph a0), .one (.d (.int .i64 a1)), .one (.d (.int .i64 0))] []
      (.one (.own (1, 0) r.length)) [((1, 0), some (.row 3 1 (dat (List.map eI r))))] := by
  unfold L_graph_of_v1 at hD
  refine rc Try.func127 rfl Try.ntmps127 fun S Φ P0 wb ac h => ?_
  refine qs 3 [] [1, 2, 3] [(1, 0)] h fun ac wd h => ?_
  refine qs 4 [] [1, 2, 3, 7] [(1, 0)] h fun ac wd h => ?_
  refine wp_seq ?_
  refine qs 8 [] [1, 2, 7, 11, 12, 13] [] h fun ac wd h => ?_
  refine wp_block ?_
  have h := SL.bornS h 7 3 1 (by simp only [EZ, simprocAttr, *] <;> rfl)
  refine r_while (fun nf ac wd => ∃ (n197 : Int) (l198 : List Int), L_graph_of_v1_l1 a0 a1 nf n197 l198 = some r ∧ SL ⟨wb, S, Φ, P0⟩ 29 46 [(1, .one (.d (.int .i64 a1))), (2, .one (.d (.int .i64 0))), (7, .one (.own (8, 0) l198.length)), (11, .one (.d (.sl (List.map eA2I a0.Links)))), (12, .one (.d (.int .i64 (a0.Links.length : Int)))), (13, .one (.d (.int .i64 n197)))] [((8, 0), some (.row 3 1 (dat (List.map eI l198))))] ac wd) (((a0.Links.length : Int) - 0).toNat + 1) ⟨0, ([] : List Int), hD, h.z⟩ (fun nf ac wd hJ => ?_)
  obtain ⟨n197, l198, hL199, h⟩ := hJ
  cases nf with
  | zero => rw [L_graph_of_v1_l1] at hL199; cases hL199
  | succ nf =>
    rw [L_graph_of_v1_l1] at hL199
    refine qs 47 [] [1, 2, 7, 11, 12, 13, 14] [(8, 0)] h fun ac wd h => ?_
    refine wp_seq ?_
    rcases i2 hL199 with ⟨hb201, hL199⟩ | ⟨hb201, hL199⟩
    ·
      refine kT h ?_
      refine wp_skip ?_
      change Code.wp Try.prog _ _ _ _
      obtain ⟨e209, hE210, hL199⟩ := Option.bind_eq_some_iff.1 hL199
      refine r_seqJ (fun ac wd => ∃ (l208 : List Int), l208 = e209 ∧ SL ⟨wb, S, Φ, P0⟩ 29 63 [(1, .one (.d (.int .i64 a1))), (2, .one (.d (.int .i64 0))), (7, .one (.own (61, 0) l208.length)), (11, .one (.d (.sl (List.map eA2I a0.Links)))), (12, .one (.d (.int .i64 (a0.Links.length : Int)))), (13, .one (.d (.int .i64 n197)))] [((61, 0), some (.row 3 1 (dat (List.map eI l208))))] ac wd) ?_ ?_
      · skip
        refine wp_block ?_
        obtain ⟨x213, hx214a, hx214b, hx214c, hx214d, hE210⟩ := aB hE210
        refine qs 53 [] [1, 2, 7, 8, 9, 11, 12, 13] [(8, 0), (50, 0)] h fun ac wd h => ?_
        refine qs 58 [] [1, 2, 7, 8, 11, 12, 13, 22] [(8, 0)] h fun ac wd h => ?_
        rcases i2e hE210 with ⟨hb215, hE210⟩ | ⟨hb215, hE210⟩
        ·
          refine kT h ?_
          obtain ⟨ha216, hE210⟩ := iT hE210
          refine qe [] [1, 2, 7, 11, 12, 13] [(61, 0)] h fun ac wd h => ?_
          injection hE210 with hE210; subst hE210
          exact ⟨(l198 ++ [n197]), rfl, h.z⟩
        ·
          refine kF h ?_
          refine wp_skip ?_
          have h := h.sw (61, 0) (8, 0) 63
          injection hE210 with hE210; subst hE210
          exact ⟨l198, rfl, h.z⟩
      · skip
        rintro ac wd ⟨l208, rfl, h⟩
        (try dsimp only at hL199)
        refine qe [] [1, 2, 7, 11, 12, 13] [(61, 0)] h fun ac wd h => ?_
        have h := h.sw (8, 0) (61, 0) 65
        exact ⟨nf, Nat.lt_succ_self nf, (IntKind.wrap .i64 (n197 + 1)), l208, hL199, h.z⟩
    ·
      refine kF h ?_
      refine wp_exit ?_
      change Code.wp Try.prog _ _ _ _
      refine qs 49 [] [6] [(8, 0)] h fun ac wd h => ?_
      refine wp_ret ?_
      have h := h.sm 49 [(6, .one (.own (8, 0) l198.length))]
        [((8, 0), some (.row 3 1 (dat (List.map eI l198))))]
      have h := h.sw (1, 0) (8, 0) 49
      have h := h.sm 49 [(6, .one (.own (1, 0) l198.length))]
        [((1, 0), some (.row 3 1 (dat (List.map eI l198))))]
      injection hL199 with hL199
      subst hL199
      exact rO h [.tmp 6] [(1, 0)]
theorem L_graph_of_v1_ok {a0 : TGraph} {a1 : Int} {r : (List Int)} (hD : L_graph_of_v1 a0 a1 = some r) :
    CallH Try.prog 127 [.agg (cTGraph a0), .one (.d (.int .i64 a1)), .one (.d (.int .i64 0))] []
      (.one (.d (.sl (List.map eI r)))) [] :=
  (L_graph_of_v1_own hD).fr

theorem L_graph_Out_own {a0 : TGraph} {a1 : Int} {r : (List Int)} (hD : L_graph_Out a0 a1 = some r) :
    CallH Try.prog 118 [.agg (cTGraph a0), .one (.d (.int .i64 a1))] []
      (.one (.own (1, 0) r.length)) [((1, 0), some (.row 3 1 (dat (List.map eI r))))] := by
  unfold L_graph_Out at hD
  refine rc Try.func118 rfl Try.ntmps118 fun S Φ P0 wb ac h => ?_
  refine qs 3 [] [1, 2] [(1, 0)] h fun ac wd h => ?_
  obtain ⟨r7, hc8, hD⟩ := oB hD
  have hc8_5 := ((L_graph_of_v1_own hc8).cls 5).z
  refine qs 7 [factO hc8_5] [4] [(5, 0)] h fun ac wd h => ?_
  refine wp_ret ?_
  have h := h.sm 7 [(4, .one (.own (5, 0) r7.length))]
    [((5, 0), some (.row 3 1 (dat (List.map eI r7))))]
  have h := h.sw (1, 0) (5, 0) 7
  have h := h.sm 7 [(4, .one (.own (1, 0) r7.length))]
    [((1, 0), some (.row 3 1 (dat (List.map eI r7))))]
  injection hD with hD
  subst hD
  exact rO h [.tmp 4] [(1, 0)]
theorem L_graph_Out_ok {a0 : TGraph} {a1 : Int} {r : (List Int)} (hD : L_graph_Out a0 a1 = some r) :
    CallH Try.prog 118 [.agg (cTGraph a0), .one (.d (.int .i64 a1))] []
      (.one (.d (.sl (List.map eI r)))) [] :=
  (L_graph_Out_own hD).fr

theorem L_graph_Dist_own {a0 : TGraph} {a1 : Int} {r : (List Int)} (hD : L_graph_Dist a0 a1 = some r) :
    CallH Try.prog 110 [.agg (cTGraph a0), .one (.d (.int .i64 a1))] []
      (.one (.own (1, 0) r.length)) [((1, 0), some (.row 3 1 (dat (List.map eI r))))] := by
  unfold L_graph_Dist at hD
  refine rc Try.func110 rfl Try.ntmps110 fun S Φ P0 wb ac h => ?_
  refine qs 3 [] [1, 2] [(1, 0)] h fun ac wd h => ?_
  refine wp_scope_straight ?_
  refine wp_seq ?_
  obtain ⟨r920, hc921, hD⟩ := oB hD
  have hc921k := L_graph_Graph_node_ok hc921
  refine qs 7 [factE 5 hc921k] [1, 2, 14] [(1, 0)] h fun ac wd h => ?_
  rcases i2b hD with ⟨hb923, hD⟩ | ⟨hb923, hD⟩
  ·
    refine kF h ?_
    refine wp_skip ?_
    change Code.wp Try.prog _ _ _ _
    obtain ⟨r926, hc927, hD⟩ := oB hD
    have hc927_10 := ((L_slices_Repeat_int_int_own hc927).cls 10).z
    refine qs 12 [factO hc927_10] [1, 2, 5] [(1, 0), (10, 0)] h fun ac wd h => ?_
    obtain ⟨x930, hx931a, hx931b, hx931c, hx931d, hD⟩ := aB hD
    refine qs 16 [] [1, 2, 5] [(1, 0), (10, 0)] h fun ac wd h => ?_
    refine qs 19 [] [2, 5, 6] [(1, 0), (10, 0), (17, 0)] h fun ac wd h => ?_
    refine wp_seq ?_
    refine wp_label ?_
    change Code.wp Try.prog _ _ _ _
    refine wp_seq ?_
    refine wp_block ?_
    refine r_while (fun nf ac wd => ∃ (l1684 : List Int) (l1685 : List Int), L_graph_Dist_l1 a0 nf l1684 l1685 = some r ∧ SL ⟨wb, S, Φ, P0⟩ 65 179 [(2, .one (.ptr (1, 0) 0)), (5, .one (.own (10, 0) l1684.length)), (6, .one (.own (17, 0) l1685.length))] [((1, 0), some (.box 24 (cTGraph a0))), ((10, 0), some (.row 3 1 (dat (List.map eI l1684)))), ((17, 0), some (.row 3 1 (dat (List.map eI l1685))))] ac wd) (a0.N.toNat + 2) ⟨(r926.set a1.toNat 0), [a1], hD, h.z⟩ (fun nf ac wd hJ => ?_)
    obtain ⟨l1684, l1685, hL1686, h⟩ := hJ
    cases nf with
    | zero => rw [L_graph_Dist_l1] at hL1686; cases hL1686
    | succ nf =>
      rw [L_graph_Dist_l1] at hL1686
      refine wp_block ?_
      refine wp_seq ?_
      refine qs 182 [] [2, 5, 6, 26] [(1, 0), (10, 0), (17, 0)] h fun ac wd h => ?_
      rcases i2e hL1686 with ⟨hb1688, hL1686⟩ | ⟨hb1688, hL1686⟩
      ·
        refine kT h ?_
        refine wp_exit ?_
        change Code.wp Try.prog _ _ _ _
        refine qs 184 [] [4] [(10, 0)] h fun ac wd h => ?_
        refine wp_ret ?_
        have h := h.sm 184 [(4, .one (.own (10, 0) l1684.length))]
          [((10, 0), some (.row 3 1 (dat (List.map eI l1684))))]
        have h := h.sw (1, 0) (10, 0) 184
        have h := h.sm 184 [(4, .one (.own (1, 0) l1684.length))]
          [((1, 0), some (.row 3 1 (dat (List.map eI l1684))))]
        injection hL1686 with hL1686
        subst hL1686
        exact rO h [.tmp 4] [(1, 0)]
      ·
        refine kF h ?_
        refine wp_skip ?_
        change Code.wp Try.prog _ _ _ _
        obtain ⟨x1691, hx1692a, hx1692b, hx1692c, hx1692d, hL1686⟩ := aN 0 hL1686
        refine qs 186 [] [2, 5, 6, 7] [(1, 0), (10, 0), (17, 0)] h fun ac wd h => ?_
        obtain ⟨ha1695, hL1686⟩ := iT hL1686
        have hq1696 : 1 + (l1685.length - 1) ≤ l1685.length := by omega
        refine qs 189 [] [2, 5, 6, 7] [(1, 0), (10, 0), (17, 0)] h fun ac wd h => ?_
        obtain ⟨r1699, hc1700, hL1686⟩ := oB hL1686
        have hc1700k := L_graph_Out_ok hc1700
        refine qs 194 [factE 191 hc1700k] [2, 5, 6, 7, 34, 35, 36] [(1, 0), (10, 0), (17, 0)] h fun ac wd h => ?_
        obtain ⟨e1835, hE1836, hL1686⟩ := Option.bind_eq_some_iff.1 hL1686
        refine r_meetQ (fun ac wd => ∃ (l1833 : List Int) (l1834 : List Int), (l1833, l1834) = e1835 ∧ SL ⟨wb, S, Φ, P0⟩ 65 259 [(2, .one (.ptr (1, 0) 0)), (5, .one (.own (10, 0) l1833.length)), (6, .one (.own (17, 0) l1834.length))] [((1, 0), some (.box 24 (cTGraph a0))), ((10, 0), some (.row 3 1 (dat (List.map eI l1833)))), ((17, 0), some (.row 3 1 (dat (List.map eI l1834))))] ac wd) ?_ ?_
        · skip
          refine wp_block ?_
          have h := h.sm 194 [(2, .one (.ptr (1, 0) 0)), (5, .one (.own (10, 0) l1684.length)), (6, .one (.sub (17, 0) 1 1 (l1685.length - 1))), (7, .one (.d (.int .i64 x1691))), (34, .one (.d (.sl (List.map eI r1699)))), (35, .one (.d (.int .i64 (r1699.length : Int)))), (36, .one (.d (.int .i64 0)))]
            [((1, 0), some (.box 24 (cTGraph a0))), ((10, 0), some (.row 3 1 (dat (List.map eI l1684)))), ((17, 0), some (.row 3 1 (dat (List.map eI l1685))))]
          have h := SL.tail h 6 (17, 0) (by simp only [EZ, simprocAttr, *] <;> rfl) (by simp only [EZ, simprocAttr, *] <;> rfl) (by simp only [EZ, simprocAttr, *] <;> omega) rfl (by simp only [noIdF, EZ, simprocAttr, *] <;> rfl) (by simp only [noIdM, EZ, simprocAttr, *] <;> rfl)
          refine r_while (fun nf ac wd => ∃ (n1924 : Int) (l1925 : List Int) (l1926 : List Int), L_graph_Dist_l2 a0 r1699 x1691 nf n1924 l1925 l1926 = some e1835 ∧ SL ⟨wb, S, Φ, P0⟩ 65 258 [(2, .one (.ptr (1, 0) 0)), (5, .one (.own (10, 0) l1925.length)), (6, .one (.own (17, 0) l1926.length)), (7, .one (.d (.int .i64 x1691))), (34, .one (.d (.sl (List.map eI r1699)))), (35, .one (.d (.int .i64 (r1699.length : Int)))), (36, .one (.d (.int .i64 n1924)))] [((1, 0), some (.box 24 (cTGraph a0))), ((10, 0), some (.row 3 1 (dat (List.map eI l1925)))), ((17, 0), some (.row 3 1 (dat (List.map eI l1926))))] ac wd) (((r1699.length : Int) - 0).toNat + 1) ⟨0, l1684, (l1685.drop 1), hE1836, h.z⟩ (fun nf ac wd hJ => ?_)
          obtain ⟨n1924, l1925, l1926, hL1927, h⟩ := hJ
          cases nf with
          | zero => rw [L_graph_Dist_l2] at hL1927; cases hL1927
          | succ nf =>
            rw [L_graph_Dist_l2] at hL1927
            refine qs 259 [] [2, 5, 6, 7, 34, 35, 36, 37] [(1, 0), (10, 0), (17, 0)] h fun ac wd h => ?_
            refine wp_seq ?_
            rcases i2 hL1927 with ⟨hb1929, hL1927⟩ | ⟨hb1929, hL1927⟩
            ·
              refine kT h ?_
              refine wp_skip ?_
              change Code.wp Try.prog _ _ _ _
              obtain ⟨e1950, hE1951, hL1927⟩ := Option.bind_eq_some_iff.1 hL1927
              refine r_seqJ (fun ac wd => ∃ (l1948 : List Int) (l1949 : List Int), (l1948, l1949) = e1950 ∧ SL ⟨wb, S, Φ, P0⟩ 65 288 [(2, .one (.ptr (1, 0) 0)), (5, .one (.own (10, 0) l1948.length)), (6, .one (.own (286, 0) l1949.length)), (7, .one (.d (.int .i64 x1691))), (34, .one (.d (.sl (List.map eI r1699)))), (35, .one (.d (.int .i64 (r1699.length : Int)))), (36, .one (.d (.int .i64 n1924)))] [((1, 0), some (.box 24 (cTGraph a0))), ((10, 0), some (.row 3 1 (dat (List.map eI l1948)))), ((286, 0), some (.row 3 1 (dat (List.map eI l1949))))] ac wd) ?_ ?_
              · skip
                refine wp_block ?_
                obtain ⟨x1954, hx1955a, hx1955b, hx1955c, hx1955d, hE1951⟩ := aB hE1951
                refine qs 262 [] [2, 5, 6, 7, 9, 34, 35, 36] [(1, 0), (10, 0), (17, 0)] h fun ac wd h => ?_
                obtain ⟨x1958, hx1959a, hx1959b, hx1959c, hx1959d, hE1951⟩ := aB hE1951
                refine qs 269 [] [2, 5, 6, 7, 10, 34, 35, 36] [(1, 0), (10, 0), (17, 0)] h fun ac wd h => ?_
                obtain ⟨x1962, hx1963a, hx1963b, hx1963c, hx1963d, hE1951⟩ := aB hE1951
                refine qs 274 [] [2, 5, 6, 7, 10, 34, 35, 36, 50] [(1, 0), (10, 0), (17, 0)] h fun ac wd h => ?_
                rcases i2 hE1951 with ⟨hb1964, hE1951⟩ | ⟨hb1964, hE1951⟩
                ·
                  refine kT h ?_
                  obtain ⟨x1967, hx1968a, hx1968b, hx1968c, hx1968d, hE1951⟩ := aB hE1951
                  refine qs 283 [] [2, 5, 6, 7, 10, 34, 35, 36] [(1, 0), (10, 0), (17, 0)] h fun ac wd h => ?_
                  obtain ⟨ha1969, hE1951⟩ := iT hE1951
                  refine qe [] [2, 5, 6, 7, 34, 35, 36] [(1, 0), (10, 0), (286, 0)] h fun ac wd h => ?_
                  injection hE1951 with hE1951; subst hE1951
                  exact ⟨(l1925.set x1958.a1.toNat (IntKind.wrap .i64 (x1967 + 1))), (l1926 ++ [x1958.a1]), rfl, h.z⟩
                ·
                  refine kF h ?_
                  refine wp_skip ?_
                  have h := h.sw (286, 0) (17, 0) 288
                  injection hE1951 with hE1951; subst hE1951
                  exact ⟨l1925, l1926, rfl, h.z⟩
              · skip
                rintro ac wd ⟨l1948, l1949, rfl, h⟩
                (try dsimp only at hL1927)
                refine qe [] [2, 5, 6, 7, 34, 35, 36] [(1, 0), (10, 0), (286, 0)] h fun ac wd h => ?_
                have h := h.sw (17, 0) (286, 0) 290
                exact ⟨nf, Nat.lt_succ_self nf, (IntKind.wrap .i64 (n1924 + 1)), l1948, l1949, hL1927, h.z⟩
            ·
              refine kF h ?_
              refine wp_exit ?_
              injection hL1927 with hL1927; subst hL1927
              exact ⟨l1925, l1926, rfl, h.z⟩
        · skip
          rintro ac wd ⟨l1833, l1834, rfl, h⟩
          (try dsimp only at hL1686)
          exact ⟨nf, Nat.lt_succ_self nf, l1833, l1834, hL1686, h.z⟩
  ·
    refine kT h ?_
    refine qs 8 [] [4] [] h fun ac wd h => ?_
    refine wp_ret ?_
    have h := SL.bornS h 4 3 1 (by simp only [EZ, simprocAttr, *] <;> rfl)
    have h := h.sm 9 [(4, .one (.own (8, 0) 0))]
      [((8, 0), some (.row 3 1 ([])))]
    have h := h.sw (1, 0) (8, 0) 9
    have h := h.sm 9 [(4, .one (.own (1, 0) 0))]
      [((1, 0), some (.row 3 1 ([])))]
    injection hD with hD
    subst hD
    exact rO h [.tmp 4] [(1, 0)]
theorem L_graph_Dist_ok {a0 : TGraph} {a1 : Int} {r : (List Int)} (hD : L_graph_Dist a0 a1 = some r) :
    CallH Try.prog 110 [.agg (cTGraph a0), .one (.d (.int .i64 a1))] []
      (.one (.d (.sl (List.map eI r)))) [] :=
  (L_graph_Dist_own hD).fr

theorem L_slices_Index_int_int_ok {a0 : (List Int)} {a1 : Int} {r : Int} (hD : L_slices_Index_int_int a0 a1 = some r) :
    CallH Try.prog 94 [.one (.d (.sl (List.map eI a0))), .one (.d (.int .i64 a1))] []
      (.one (.d (.int .i64 r))) [] := by
  unfold L_slices_Index_int_int at hD
  refine rc Try.func94 rfl Try.ntmps94 fun S Φ P0 wb ac h => ?_
  refine qs 2 [] [0, 1] [] h fun ac wd h => ?_
  refine wp_seq ?_
  refine qs 5 [] [0, 1, 7, 8] [] h fun ac wd h => ?_
  refine wp_block ?_
  refine r_while (fun nf ac wd => ∃ (n143 : Int), L_slices_Index_int_int_l1 a0 a1 nf n143 = some r ∧ SL ⟨wb, S, Φ, P0⟩ 19 27 [(0, .one (.d (.sl (List.map eI a0)))), (1, .one (.d (.int .i64 a1))), (7, .one (.d (.int .i64 (a0.length : Int)))), (8, .one (.d (.int .i64 n143)))] [] ac wd) (((a0.length : Int) - 0).toNat + 1) ⟨0, hD, h.z⟩ (fun nf ac wd hJ => ?_)
  obtain ⟨n143, hL144, h⟩ := hJ
  cases nf with
  | zero => rw [L_slices_Index_int_int_l1] at hL144; cases hL144
  | succ nf =>
    rw [L_slices_Index_int_int_l1] at hL144
    refine qs 28 [] [0, 1, 7, 8, 9] [] h fun ac wd h => ?_
    refine wp_seq ?_
    rcases i2 hL144 with ⟨hb146, hL144⟩ | ⟨hb146, hL144⟩
    ·
      refine kT h ?_
      refine wp_skip ?_
      change Code.wp Try.prog _ _ _ _
      refine wp_seq ?_
      refine wp_block ?_
      refine qs 30 [] [0, 1, 5, 7, 8] [] h fun ac wd h => ?_
      obtain ⟨x154, hx155a, hx155b, hx155c, hx155d, hL144⟩ := aB hL144
      refine qs 36 [] [0, 1, 5, 7, 8, 16] [] h fun ac wd h => ?_
      rcases i2e hL144 with ⟨hb156, hL144⟩ | ⟨hb156, hL144⟩
      ·
        refine kT h ?_
        refine qs 38 [] [4] [] h fun ac wd h => ?_
        refine wp_ret ?_
        injection hL144 with hL144
        subst hL144
        exact rE h [.tmp 4]
      ·
        refine kF h ?_
        refine wp_skip ?_
        change Code.wp Try.prog _ _ _ _
        refine qe [] [0, 1, 7, 8] [] h fun ac wd h => ?_
        exact ⟨nf, Nat.lt_succ_self nf, (IntKind.wrap .i64 (n143 + 1)), hL144, h.z⟩
    ·
      refine kF h ?_
      refine wp_exit ?_
      change Code.wp Try.prog _ _ _ _
      refine qs 29 [] [4] [] h fun ac wd h => ?_
      refine wp_ret ?_
      injection hL144 with hL144
      subst hL144
      exact rE h [.tmp 4]

theorem L_slices_Contains_int_int_ok {a0 : (List Int)} {a1 : Int} {r : Bool} (hD : L_slices_Contains_int_int a0 a1 = some r) :
    CallH Try.prog 65 [.one (.d (.sl (List.map eI a0))), .one (.d (.int .i64 a1))] []
      (.one (.d (.bool r))) [] := by
  unfold L_slices_Contains_int_int at hD
  refine rc Try.func65 rfl Try.ntmps65 fun S Φ P0 wb ac h => ?_
  refine qs 2 [] [0, 1] [] h fun ac wd h => ?_
  obtain ⟨r7, hc8, hD⟩ := oB hD
  have hc8k := L_slices_Index_int_int_ok hc8
  refine qs 7 [factE 4 hc8k] [4] [] h fun ac wd h => ?_
  refine wp_ret ?_
  injection hD with hD
  subst hD
  exact rE h [.tmp 4]

theorem L_graph_Right_ok {a0 : TGraph} {r : Bool} (hD : L_graph_Right a0 = some r) :
    CallH Try.prog 88 [.agg (cTGraph a0)] []
      (.one (.d (.bool r))) [] := by
  unfold L_graph_Right at hD
  refine rc Try.func88 rfl Try.ntmps88 fun S Φ P0 wb ac h => ?_
  refine qs 3 [] [1] [(1, 0)] h fun ac wd h => ?_
  refine wp_seq ?_
  obtain ⟨e448, hE449, hD⟩ := Option.bind_eq_some_iff.1 hD
  refine r_seqJ (fun ac wd => ∃ (b447 : Bool), b447 = e448 ∧ SL ⟨wb, S, Φ, P0⟩ 79 17 [(1, .one (.ptr (1, 0) 0)), (21, .one (.d (.bool b447)))] [((1, 0), some (.box 24 (cTGraph a0)))] ac wd) ?_ ?_
  · skip
    rcases i2 hE449 with ⟨hb450, hE449⟩ | ⟨hb450, hE449⟩
    ·
      refine qeg [] [none, none, none, none, some (some 11, false), some (some 11, false), some (some 11, false), none, none, some (some 16, false), some (some 16, false), some (some 16, false), some (some 16, false), none] [1, 21] [(1, 0)] h fun ac wd h => ?_
      injection hE449 with hE449; subst hE449
      exact ⟨true, rfl, h.z⟩
    ·
      rcases i2 hE449 with ⟨hb451, hE449⟩ | ⟨hb451, hE449⟩
      ·
        refine qeg [] [none, none, none, none, some (some 11, false), some (some 11, false), some (some 11, false), none, none, some (some 16, false), some (some 16, false), some (some 16, false), some (some 16, false), none] [1, 21] [(1, 0)] h fun ac wd h => ?_
        injection hE449 with hE449; subst hE449
        exact ⟨true, rfl, h.z⟩
      ·
        refine qeg [] [none, none, none, none, some (some 11, false), some (some 11, false), some (some 11, false), none, none, some (some 16, false), some (some 16, false), some (some 16, false), some (some 16, false), none] [1, 21] [(1, 0)] h fun ac wd h => ?_
        injection hE449 with hE449; subst hE449
        exact ⟨decide ((a0.Links.length : Int) > 30), rfl, h.z⟩
  · skip
    rintro ac wd ⟨b447, rfl, h⟩
    (try dsimp only at hD)
    rcases i2b hD with ⟨hb453, hD⟩ | ⟨hb453, hD⟩
    ·
      refine kT h ?_
      refine qs 18 [] [2] [] h fun ac wd h => ?_
      refine wp_ret ?_
      injection hD with hD
      subst hD
      exact rE h [.tmp 2]
    ·
      refine kF h ?_
      refine wp_skip ?_
      change Code.wp Try.prog _ _ _ _
      refine qs 19 [] [1, 3] [(1, 0), (17, 0)] h fun ac wd h => ?_
      refine wp_seq ?_
      refine qs 23 [] [1, 3, 24, 25, 26] [(1, 0), (17, 0)] h fun ac wd h => ?_
      obtain ⟨e603, hE604, hD⟩ := Option.bind_eq_some_iff.1 hD
      refine r_meet (fun ac wd => ∃ (l602 : NMap), (.inl l602) = e603 ∧ SL ⟨wb, S, Φ, P0⟩ 79 102 [(1, .one (.ptr (1, 0) 0)), (3, .one (.mp (17, 0)))] [((1, 0), some (.box 24 (cTGraph a0))), ((17, 0), some (.map 55 3 true 2 (mE l602)))] ac wd) ?_ ?_
      · skip
        refine wp_block ?_
        refine r_while (fun nf ac wd => ∃ (n703 : Int) (l704 : NMap), L_graph_Right_l1 a0 nf n703 l704 = some e603 ∧ SL ⟨wb, S, Φ, P0⟩ 79 101 [(1, .one (.ptr (1, 0) 0)), (3, .one (.mp (17, 0))), (24, .one (.d (.sl (List.map eA2I a0.Links)))), (25, .one (.d (.int .i64 (a0.Links.length : Int)))), (26, .one (.d (.int .i64 n703)))] [((1, 0), some (.box 24 (cTGraph a0))), ((17, 0), some (.map 55 3 true 2 (mE l704)))] ac wd) (((a0.Links.length : Int) - 0).toNat + 1) ⟨0, ([] : NMap), hE604, h.z⟩ (fun nf ac wd hJ => ?_)
        obtain ⟨n703, l704, hL705, h⟩ := hJ
        cases nf with
        | zero => rw [L_graph_Right_l1] at hL705; cases hL705
        | succ nf =>
          rw [L_graph_Right_l1] at hL705
          refine qs 102 [] [1, 3, 24, 25, 26, 27] [(1, 0), (17, 0)] h fun ac wd h => ?_
          refine wp_seq ?_
          rcases i2 hL705 with ⟨hb707, hL705⟩ | ⟨hb707, hL705⟩
          ·
            refine kT h ?_
            refine wp_skip ?_
            change Code.wp Try.prog _ _ _ _
            refine wp_seq ?_
            refine wp_block ?_
            obtain ⟨x733, hx734a, hx734b, hx734c, hx734d, hL705⟩ := aB hL705
            refine qs 106 [] [1, 3, 5, 24, 25, 26] [(1, 0), (17, 0), (104, 0)] h fun ac wd h => ?_
            refine wp_seq ?_
            obtain ⟨e743, hE744, hL705⟩ := Option.bind_eq_some_iff.1 hL705
            refine r_seqJ (fun ac wd => ∃ (b742 : Bool), b742 = e743 ∧ SL ⟨wb, S, Φ, P0⟩ 79 131 [(1, .one (.ptr (1, 0) 0)), (3, .one (.mp (17, 0))), (5, .one (.ptr (104, 0) 0)), (24, .one (.d (.sl (List.map eA2I a0.Links)))), (25, .one (.d (.int .i64 (a0.Links.length : Int)))), (26, .one (.d (.int .i64 n703))), (54, .one (.d (.bool b742)))] [((1, 0), some (.box 24 (cTGraph a0))), ((17, 0), some (.map 55 3 true 2 (mE l704))), ((104, 0), some (.box 55 (cA2I x733)))] ac wd) ?_ ?_
            · skip
              obtain ⟨r745, hc746, hE744⟩ := oB hE744
              rcases i2b hE744 with ⟨hb747, hE744⟩ | ⟨hb747, hE744⟩
              ·
                obtain ⟨r748, hc749, hE744⟩ := oB hE744
                rcases i2b hE744 with ⟨hb750, hE744⟩ | ⟨hb750, hE744⟩
                ·
                  rcases i2e hE744 with ⟨hb751, hE744⟩ | ⟨hb751, hE744⟩
                  ·
                    have hc746k := L_graph_Graph_node_ok hc746
                    have hc749k := L_graph_Graph_node_ok hc749
                    refine qeg [factE 109 hc746k, factE 115 hc749k] [none, none, none, none, none, none, some (some 35, false), some (some 35, false), some (some 35, false), some (some 35, false), some (some 35, false), none, none, some (some 42, false), some (some 42, false), some (some 42, false), some (some 42, false), some (some 42, false), none, none, some (some 49, false), some (some 49, false), some (some 49, false), some (some 49, false), none] [1, 3, 5, 24, 25, 26, 54] [(1, 0), (17, 0), (104, 0)] h fun ac wd h => ?_
                    injection hE744 with hE744; subst hE744
                    exact ⟨true, rfl, h.z⟩
                  ·
                    have hc746k := L_graph_Graph_node_ok hc746
                    have hc749k := L_graph_Graph_node_ok hc749
                    refine qeg [factE 109 hc746k, factE 115 hc749k] [none, none, none, none, none, none, some (some 35, false), some (some 35, false), some (some 35, false), some (some 35, false), some (some 35, false), none, none, some (some 42, false), some (some 42, false), some (some 42, false), some (some 42, false), some (some 42, false), none, none, some (some 49, false), some (some 49, false), some (some 49, false), some (some 49, false), none] [1, 3, 5, 24, 25, 26, 54] [(1, 0), (17, 0), (104, 0)] h fun ac wd h => ?_
                    injection hE744 with hE744; subst hE744
                    exact ⟨decide ((mGetI l704 [x733.a0, x733.a1]) > 0), rfl, h.z⟩
                ·
                  have hc746k := L_graph_Graph_node_ok hc746
                  have hc749k := L_graph_Graph_node_ok hc749
                  refine qeg [factE 109 hc746k, factE 115 hc749k] [none, none, none, none, none, none, some (some 35, false), some (some 35, false), some (some 35, false), some (some 35, false), some (some 35, false), none, none, some (some 42, false), some (some 42, false), some (some 42, false), some (some 42, false), some (some 42, false), none, none, some (some 49, false), some (some 49, false), some (some 49, false), some (some 49, false), none] [1, 3, 5, 24, 25, 26, 54] [(1, 0), (17, 0), (104, 0)] h fun ac wd h => ?_
                  injection hE744 with hE744; subst hE744
                  exact ⟨true, rfl, h.z⟩
              ·
                have hc746k := L_graph_Graph_node_ok hc746
                refine qeg [factE 109 hc746k] [none, none, none, none, none, none, some (some 35, false), some (some 35, false), some (some 35, false), some (some 35, false), some (some 35, false), none, none, some (some 42, false), some (some 42, false), some (some 42, false), some (some 42, false), some (some 42, false), none, none, some (some 49, false), some (some 49, false), some (some 49, false), some (some 49, false), none] [1, 3, 5, 24, 25, 26, 54] [(1, 0), (17, 0), (104, 0)] h fun ac wd h => ?_
                injection hE744 with hE744; subst hE744
                exact ⟨true, rfl, h.z⟩
            · skip
              rintro ac wd ⟨b742, rfl, h⟩
              (try dsimp only at hL705)
              rcases i2b hL705 with ⟨hb753, hL705⟩ | ⟨hb753, hL705⟩
              ·
                refine kT h ?_
                refine qs 132 [] [2] [] h fun ac wd h => ?_
                refine wp_ret ?_
                injection hL705 with hL705
                subst hL705
                (try dsimp only at hD)
                injection hD with hD
                subst hD
                exact rE h [.tmp 2]
              ·
                refine kF h ?_
                refine wp_skip ?_
                change Code.wp Try.prog _ _ _ _
                refine de [] [1, 3, 24, 25, 26] [(1, 0), (17, 0)] h fun ac wd h => ?_
                change Code.wp Try.prog _ _ _ _
                refine qe [] [1, 3, 24, 25, 26] [(1, 0), (17, 0)] h fun ac wd h => ?_
                exact ⟨nf, Nat.lt_succ_self nf, (IntKind.wrap .i64 (n703 + 1)), (mPutI l704 [x733.a0, x733.a1] (IntKind.wrap .i64 ((mGetI l704 [x733.a0, x733.a1]) + 1))), hL705, h.z⟩
          ·
            refine kF h ?_
            refine wp_exit ?_
            injection hL705 with hL705; subst hL705
            exact ⟨l704, rfl, h.z⟩
      · skip
        rintro ac wd ⟨l602, rfl, h⟩
        (try dsimp only at hD)
        refine wp_seq ?_
        refine qs 106 [] [1, 3, 63, 64, 65] [(1, 0), (17, 0)] h fun ac wd h => ?_
        obtain ⟨e816, hE817, hD⟩ := Option.bind_eq_some_iff.1 hD
        refine r_meet (fun ac wd => (.inl ()) = e816 ∧ SL ⟨wb, S, Φ, P0⟩ 79 131 [(1, .one (.ptr (1, 0) 0))] [((1, 0), some (.box 24 (cTGraph a0)))] ac wd) ?_ ?_
        · skip
          refine wp_block ?_
          refine r_while (fun nf ac wd => ∃ (n859 : Int), L_graph_Right_l2 a0 l602 nf n859 = some e816 ∧ SL ⟨wb, S, Φ, P0⟩ 79 130 [(1, .one (.ptr (1, 0) 0)), (3, .one (.mp (17, 0))), (63, .one (.d (.sl (List.map eA2I a0.Links)))), (64, .one (.d (.int .i64 (a0.Links.length : Int)))), (65, .one (.d (.int .i64 n859)))] [((1, 0), some (.box 24 (cTGraph a0))), ((17, 0), some (.map 55 3 true 2 (mE l602)))] ac wd) (((a0.Links.length : Int) - 0).toNat + 1) ⟨0, hE817, h.z⟩ (fun nf ac wd hJ => ?_)
          obtain ⟨n859, hL860, h⟩ := hJ
          cases nf with
          | zero => rw [L_graph_Right_l2] at hL860; cases hL860
          | succ nf =>
            rw [L_graph_Right_l2] at hL860
            refine qs 131 [] [1, 3, 63, 64, 65, 66] [(1, 0), (17, 0)] h fun ac wd h => ?_
            refine wp_seq ?_
            rcases i2 hL860 with ⟨hb862, hL860⟩ | ⟨hb862, hL860⟩
            ·
              refine kT h ?_
              refine wp_skip ?_
              change Code.wp Try.prog _ _ _ _
              refine wp_seq ?_
              refine wp_block ?_
              obtain ⟨x874, hx875a, hx875b, hx875c, hx875d, hL860⟩ := aB hL860
              refine qs 135 [] [1, 3, 7, 63, 64, 65] [(1, 0), (17, 0), (133, 0)] h fun ac wd h => ?_
              obtain ⟨r878, hc879, hL860⟩ := oB hL860
              have hc879k := L_graph_turned_ok hc879
              refine qs 140 [factE 137 hc879k] [1, 3, 63, 64, 65, 73] [(1, 0), (17, 0)] h fun ac wd h => ?_
              rcases i2e hL860 with ⟨hb880, hL860⟩ | ⟨hb880, hL860⟩
              ·
                refine kT h ?_
                refine qs 141 [] [2] [] h fun ac wd h => ?_
                refine wp_ret ?_
                injection hL860 with hL860
                subst hL860
                (try dsimp only at hD)
                injection hD with hD
                subst hD
                exact rE h [.tmp 2]
              ·
                refine kF h ?_
                refine wp_skip ?_
                change Code.wp Try.prog _ _ _ _
                refine qe [] [1, 3, 63, 64, 65] [(1, 0), (17, 0)] h fun ac wd h => ?_
                exact ⟨nf, Nat.lt_succ_self nf, (IntKind.wrap .i64 (n859 + 1)), hL860, h.z⟩
            ·
              refine kF h ?_
              refine wp_exit ?_
              injection hL860 with hL860; subst hL860
              exact ⟨rfl, h.z⟩
        · skip
          rintro ac wd ⟨rfl, h⟩
          (try dsimp only at hD)
          obtain ⟨r885, hc886, hD⟩ := oB hD
          obtain ⟨r887, hc888, hD⟩ := oB hD
          have hc886k := L_graph_Dist_ok hc886
          have hc888k := L_slices_Contains_int_int_ok hc888
          refine qs 136 [factE 132 hc886k, factE 133 hc888k] [2] [] h fun ac wd h => ?_
          refine wp_ret ?_
          injection hD with hD
          subst hD
          exact rE h [.tmp 2]

theorem L_table_place_may_1_own {a0 : TPlace} {r : Bool × TPlace} (hD : L_table_place_may_1 a0 = some r) :
    CallH Try.prog 111 [.one (.ptr (0, 0) 0)] [((0, 0), some (.box 146 (cTPlace a0)))]
      (.one (.d (.bool r.1))) [((0, 0), some (.box 146 (cTPlace r.2)))] := by
  unfold L_table_place_may_1 at hD
  refine rc Try.func111 rfl Try.ntmps111 fun S Φ P0 wb ac h => ?_
  refine qs 2 [] [0] [(0, 0)] h fun ac wd h => ?_
  obtain ⟨e8, hE9, hD⟩ := Option.bind_eq_some_iff.1 hD
  refine r_seqJ (fun ac wd => ∃ (b7 : Bool), b7 = e8 ∧ SL ⟨wb, S, Φ, P0⟩ 12 13 [(1, .one (.d (.bool b7)))] [((0, 0), some (.box 146 (cTPlace a0)))] ac wd) ?_ ?_
  · skip
    rcases i2 hE9 with ⟨hb10, hE9⟩ | ⟨hb10, hE9⟩
    ·
      refine qeg [] [none, none, none, none, none, some (some 6, true), some (some 6, true), some (some 6, true), some (some 6, true), none, none] [1] [(0, 0)] h fun ac wd h => ?_
      injection hE9 with hE9; subst hE9
      exact ⟨decide (a0.State.Mode < 3), rfl, h.z⟩
    ·
      refine qeg [] [none, none, none, none, none, some (some 6, true), some (some 6, true), some (some 6, true), some (some 6, true), none, none] [1] [(0, 0)] h fun ac wd h => ?_
      injection hE9 with hE9; subst hE9
      exact ⟨false, rfl, h.z⟩
  · skip
    rintro ac wd ⟨b7, rfl, h⟩
    (try dsimp only at hD)
    refine wp_ret ?_
    have h := h.sm 13 [(1, .one (.d (.bool b7)))]
      [((0, 0), some (.box 146 (cTPlace a0)))]
    injection hD with hD
    subst hD
    exact rO h [.tmp 1] [(0, 0)]

theorem L_graph_Find_ok {a0 : TGraph} {a1 : Int} {a2 : Int} {r : Int} (hD : L_graph_Find a0 a1 a2 = some r) :
    CallH Try.prog 36 [.agg (cTGraph a0), .one (.d (.int .i64 a1)), .one (.d (.int .i64 a2))] []
      (.one (.d (.int .i64 r))) [] := by
  unfold L_graph_Find at hD
  refine rc Try.func36 rfl Try.ntmps36 fun S Φ P0 wb ac h => ?_
  refine qs 3 [] [1, 2, 3] [(1, 0)] h fun ac wd h => ?_
  refine qs 8 [] [3, 7] [(1, 0), (6, 0)] h fun ac wd h => ?_
  refine wp_seq ?_
  refine qs 12 [] [7, 14, 15, 16] [(6, 0)] h fun ac wd h => ?_
  refine wp_block ?_
  refine r_while (fun nf ac wd => ∃ (n187 : Int), L_graph_Find_l1 a0 a1 a2 nf n187 = some r ∧ SL ⟨wb, S, Φ, P0⟩ 26 36 [(7, .one (.ptr (6, 0) 0)), (14, .one (.d (.sl (List.map eA2I a0.Links)))), (15, .one (.d (.int .i64 (a0.Links.length : Int)))), (16, .one (.d (.int .i64 n187)))] [((6, 0), some (.box 55 [.d (.int .i64 a1), .d (.int .i64 a2)]))] ac wd) (((a0.Links.length : Int) - 0).toNat + 1) ⟨0, hD, h.z⟩ (fun nf ac wd hJ => ?_)
  obtain ⟨n187, hL188, h⟩ := hJ
  cases nf with
  | zero => rw [L_graph_Find_l1] at hL188; cases hL188
  | succ nf =>
    rw [L_graph_Find_l1] at hL188
    refine qs 37 [] [7, 14, 15, 16, 17] [(6, 0)] h fun ac wd h => ?_
    refine wp_seq ?_
    rcases i2 hL188 with ⟨hb190, hL188⟩ | ⟨hb190, hL188⟩
    ·
      refine kT h ?_
      refine wp_skip ?_
      change Code.wp Try.prog _ _ _ _
      refine wp_seq ?_
      refine wp_block ?_
      obtain ⟨x200, hx201a, hx201b, hx201c, hx201d, hL188⟩ := aB hL188
      refine qs 43 [] [7, 8, 9, 14, 15, 16] [(6, 0), (40, 0)] h fun ac wd h => ?_
      have hz203 := eq_A2I_vm x200 a1 a2
      refine qs 46 [] [7, 8, 14, 15, 16, 23] [(6, 0)] h fun ac wd h => ?_
      rcases i2e hL188 with ⟨hb204, hL188⟩ | ⟨hb204, hL188⟩
      ·
        refine kT h ?_
        refine qs 48 [] [6] [] h fun ac wd h => ?_
        refine wp_ret ?_
        injection hL188 with hL188
        subst hL188
        exact rE h [.tmp 6]
      ·
        refine kF h ?_
        refine wp_skip ?_
        change Code.wp Try.prog _ _ _ _
        refine qe [] [7, 14, 15, 16] [(6, 0)] h fun ac wd h => ?_
        exact ⟨nf, Nat.lt_succ_self nf, (IntKind.wrap .i64 (n187 + 1)), hL188, h.z⟩
    ·
      refine kF h ?_
      refine wp_exit ?_
      change Code.wp Try.prog _ _ _ _
      refine qs 38 [] [6] [] h fun ac wd h => ?_
      refine wp_ret ?_
      injection hL188 with hL188
      subst hL188
      exact rE h [.tmp 6]

theorem L_table_place_in_ok {a0 : TPlace} {a1 : Int} {r : Bool} (hD : L_table_place_in a0 a1 = some r) :
    CallH Try.prog 119 [.agg (cTPlace a0), .one (.d (.int .i64 a1))] []
      (.one (.d (.bool r))) [] := by
  unfold L_table_place_in at hD
  refine rc Try.func119 rfl Try.ntmps119 fun S Φ P0 wb ac h => ?_
  refine qs 3 [] [1, 2] [(1, 0)] h fun ac wd h => ?_
  obtain ⟨r7, hc8, hD⟩ := oB hD
  have hc8k := L_graph_Find_ok hc8
  refine qs 11 [factE 8 hc8k] [4] [] h fun ac wd h => ?_
  refine wp_ret ?_
  injection hD with hD
  subst hD
  exact rE h [.tmp 4]

theorem L_table_place_waits_ok {a0 : TPlace} {r : Bool} (hD : L_table_place_waits a0 = some r) :
    CallH Try.prog 112 [.agg (cTPlace a0)] []
      (.one (.d (.bool r))) [] := by
  unfold L_table_place_waits at hD
  refine rc Try.func112 rfl Try.ntmps112 fun S Φ P0 wb ac h => ?_
  refine qs 3 [] [1] [(1, 0)] h fun ac wd h => ?_
  refine wp_seq ?_
  refine qs 7 [] [1, 8] [(1, 0)] h fun ac wd h => ?_
  rcases i2e hD with ⟨hb239, hD⟩ | ⟨hb239, hD⟩
  ·
    refine kF h ?_
    refine wp_skip ?_
    change Code.wp Try.prog _ _ _ _
    refine wp_seq ?_
    refine qs 12 [] [1, 16, 17, 18] [(1, 0)] h fun ac wd h => ?_
    refine wp_block ?_
    refine r_while (fun nf ac wd => ∃ (n429 : Int), L_table_place_waits_l1 a0 nf n429 = some r ∧ SL ⟨wb, S, Φ, P0⟩ 48 66 [(1, .one (.ptr (1, 0) 0)), (16, .one (.d (.sl (List.map eI a0.State.Waits)))), (17, .one (.d (.int .i64 (a0.State.Waits.length : Int)))), (18, .one (.d (.int .i64 n429)))] [((1, 0), some (.box 146 (cTPlace a0)))] ac wd) (((a0.State.Waits.length : Int) - 0).toNat + 1) ⟨0, hD, h.z⟩ (fun nf ac wd hJ => ?_)
    obtain ⟨n429, hL430, h⟩ := hJ
    cases nf with
    | zero => rw [L_table_place_waits_l1] at hL430; cases hL430
    | succ nf =>
      rw [L_table_place_waits_l1] at hL430
      refine qs 67 [] [1, 16, 17, 18, 19] [(1, 0)] h fun ac wd h => ?_
      refine wp_seq ?_
      rcases i2 hL430 with ⟨hb432, hL430⟩ | ⟨hb432, hL430⟩
      ·
        refine kT h ?_
        refine wp_skip ?_
        change Code.wp Try.prog _ _ _ _
        refine wp_seq ?_
        refine wp_block ?_
        obtain ⟨x455, hx456a, hx456b, hx456c, hx456d, hL430⟩ := aB hL430
        refine qs 72 [] [1, 3, 4, 16, 17, 18] [(1, 0)] h fun ac wd h => ?_
        obtain ⟨e464, hE465, hL430⟩ := Option.bind_eq_some_iff.1 hL430
        refine r_seqJ (fun ac wd => ∃ (b463 : Bool), b463 = e464 ∧ SL ⟨wb, S, Φ, P0⟩ 48 91 [(1, .one (.ptr (1, 0) 0)), (16, .one (.d (.sl (List.map eI a0.State.Waits)))), (17, .one (.d (.int .i64 (a0.State.Waits.length : Int)))), (18, .one (.d (.int .i64 n429))), (41, .one (.d (.bool b463)))] [((1, 0), some (.box 146 (cTPlace a0)))] ac wd) ?_ ?_
        · skip
          obtain ⟨r466, hc467, hE465⟩ := oB hE465
          rcases i2b hE465 with ⟨hb468, hE465⟩ | ⟨hb468, hE465⟩
          ·
            rcases i2 hE465 with ⟨hb469, hE465⟩ | ⟨hb469, hE465⟩
            ·
              obtain ⟨x470, hx471a, hx471b, hx471c, hx471d, hE465⟩ := aB hE465
              have hc467k := L_table_place_in_ok hc467
              refine qeg [factE 74 hc467k] [none, none, none, none, none, some (some 27, false), some (some 27, false), some (some 27, false), some (some 30, true), some (some 30, true), some (some 30, true), some (some 30, true), some (some 30, true), some (some 30, true), some (some 30, true), some (some 30, true), some (some 30, true), some (some 27, false), none] [1, 16, 17, 18, 41] [(1, 0)] h fun ac wd h => ?_
              injection hE465 with hE465; subst hE465
              exact ⟨decide (x470 ≥ x455), rfl, h.z⟩
            ·
              have hc467k := L_table_place_in_ok hc467
              refine qeg [factE 74 hc467k] [none, none, none, none, none, some (some 27, false), some (some 27, false), some (some 27, false), some (some 30, true), some (some 30, true), some (some 30, true), some (some 30, true), some (some 30, true), some (some 30, true), some (some 30, true), some (some 30, true), some (some 30, true), some (some 27, false), none] [1, 16, 17, 18, 41] [(1, 0)] h fun ac wd h => ?_
              injection hE465 with hE465; subst hE465
              exact ⟨false, rfl, h.z⟩
          ·
            have hc467k := L_table_place_in_ok hc467
            refine qeg [factE 74 hc467k] [none, none, none, none, none, some (some 27, false), some (some 27, false), some (some 27, false), some (some 30, true), some (some 30, true), some (some 30, true), some (some 30, true), some (some 30, true), some (some 30, true), some (some 30, true), some (some 30, true), some (some 30, true), some (some 27, false), none] [1, 16, 17, 18, 41] [(1, 0)] h fun ac wd h => ?_
            injection hE465 with hE465; subst hE465
            exact ⟨true, rfl, h.z⟩
        · skip
          rintro ac wd ⟨b463, rfl, h⟩
          (try dsimp only at hL430)
          rcases i2b hL430 with ⟨hb472, hL430⟩ | ⟨hb472, hL430⟩
          ·
            refine kT h ?_
            refine qs 92 [] [2] [] h fun ac wd h => ?_
            refine wp_ret ?_
            injection hL430 with hL430
            subst hL430
            exact rE h [.tmp 2]
          ·
            refine kF h ?_
            refine wp_skip ?_
            change Code.wp Try.prog _ _ _ _
            refine qe [] [1, 16, 17, 18] [(1, 0)] h fun ac wd h => ?_
            exact ⟨nf, Nat.lt_succ_self nf, (IntKind.wrap .i64 (n429 + 1)), hL430, h.z⟩
      ·
        refine kF h ?_
        refine wp_exit ?_
        change Code.wp Try.prog _ _ _ _
        refine qs 73 [] [2] [] h fun ac wd h => ?_
        refine wp_ret ?_
        injection hL430 with hL430
        subst hL430
        exact rE h [.tmp 2]
  ·
    refine kT h ?_
    refine qs 13 [] [2] [] h fun ac wd h => ?_
    refine wp_ret ?_
    injection hD with hD
    subst hD
    exact rE h [.tmp 2]

theorem L_table_place_state_ok {a0 : TPlace} {a1 : Int} {r : Bool} (hD : L_table_place_state a0 a1 = some r) :
    CallH Try.prog 122 [.agg (cTPlace a0), .one (.d (.int .i64 a1))] []
      (.one (.d (.bool r))) [] := by
  unfold L_table_place_state at hD
  refine rc Try.func122 rfl Try.ntmps122 fun S Φ P0 wb ac h => ?_
  refine qs 3 [] [1, 2] [(1, 0)] h fun ac wd h => ?_
  obtain ⟨e8, hE9, hD⟩ := Option.bind_eq_some_iff.1 hD
  refine r_seqJ (fun ac wd => ∃ (b7 : Bool), b7 = e8 ∧ SL ⟨wb, S, Φ, P0⟩ 15 14 [(4, .one (.d (.bool b7)))] [] ac wd) ?_ ?_
  · skip
    rcases i2 hE9 with ⟨hb10, hE9⟩ | ⟨hb10, hE9⟩
    ·
      refine qeg [] [none, none, none, some (some 7, true), some (some 7, true), some (some 7, true), some (some 7, true), some (some 7, true), some (some 7, true), none, none] [4] [] h fun ac wd h => ?_
      injection hE9 with hE9; subst hE9
      exact ⟨decide (a1 < (a0.node.States.length : Int)), rfl, h.z⟩
    ·
      refine qeg [] [none, none, none, some (some 7, true), some (some 7, true), some (some 7, true), some (some 7, true), some (some 7, true), some (some 7, true), none, none] [4] [] h fun ac wd h => ?_
      injection hE9 with hE9; subst hE9
      exact ⟨false, rfl, h.z⟩
  · skip
    rintro ac wd ⟨b7, rfl, h⟩
    (try dsimp only at hD)
    refine wp_ret ?_
    injection hD with hD
    subst hD
    exact rE h [.tmp 4]

theorem L_table_letter_ok {a0 : Int} {r : Bool} (hD : L_table_letter a0 = some r) :
    CallH Try.prog 121 [.one (.d (.int .i64 a0))] []
      (.one (.d (.bool r))) [] := by
  unfold L_table_letter at hD
  refine rc Try.func121 rfl Try.ntmps121 fun S Φ P0 wb ac h => ?_
  refine qs 2 [] [0] [] h fun ac wd h => ?_
  obtain ⟨e8, hE9, hD⟩ := Option.bind_eq_some_iff.1 hD
  refine r_seqJ (fun ac wd => ∃ (b7 : Bool), b7 = e8 ∧ SL ⟨wb, S, Φ, P0⟩ 9 9 [(2, .one (.d (.bool b7)))] [] ac wd) ?_ ?_
  · skip
    rcases i2 hE9 with ⟨hb10, hE9⟩ | ⟨hb10, hE9⟩
    ·
      refine qeg [] [none, none, none, some (some 5, true), some (some 5, true), none, none] [2] [] h fun ac wd h => ?_
      injection hE9 with hE9; subst hE9
      exact ⟨decide (a0 < 4), rfl, h.z⟩
    ·
      refine qeg [] [none, none, none, some (some 5, true), some (some 5, true), none, none] [2] [] h fun ac wd h => ?_
      injection hE9 with hE9; subst hE9
      exact ⟨false, rfl, h.z⟩
  · skip
    rintro ac wd ⟨b7, rfl, h⟩
    (try dsimp only at hD)
    refine wp_ret ?_
    injection hD with hD
    subst hD
    exact rE h [.tmp 2]

theorem L_table_place_picks_1_own {a0 : TSend} {a1 : TPlace} {r : Bool × TPlace} (hD : L_table_place_picks_1 a0 a1 = some r) :
    CallH Try.prog 120 [.agg (cTSend a0), .one (.ptr (0, 0) 0)] [((0, 0), some (.box 146 (cTPlace a1)))]
      (.one (.d (.bool r.1))) [((0, 0), some (.box 146 (cTPlace r.2)))] := by
  unfold L_table_place_picks_1 at hD
  refine rc Try.func120 rfl Try.ntmps120 fun S Φ P0 wb ac h => ?_
  refine qs 3 [] [1, 2] [(0, 0), (1, 0)] h fun ac wd h => ?_
  obtain ⟨e20, hE21, hD⟩ := Option.bind_eq_some_iff.1 hD
  refine r_seqJ (fun ac wd => ∃ (b19 : Bool), b19 = e20 ∧ SL ⟨wb, S, Φ, P0⟩ 18 18 [(3, .one (.d (.bool b19)))] [((0, 0), some (.box 146 (cTPlace a1)))] ac wd) ?_ ?_
  · skip
    obtain ⟨r22, hc23, hE21⟩ := oB hE21
    rcases i2 hE21 with ⟨hb24, hE21⟩ | ⟨hb24, hE21⟩
    ·
      have hc23k := L_graph_Find_ok hc23
      refine qeg [factE 9 hc23k] [none, none, none, none, none, none, none, none, none, some (some 12, false), some (some 12, false), some (some 12, false), some (some 12, false), none, none] [3] [(0, 0)] h fun ac wd h => ?_
      injection hE21 with hE21; subst hE21
      exact ⟨true, rfl, h.z⟩
    ·
      obtain ⟨r25, hc26, hE21⟩ := oB hE21
      have hc23k := L_graph_Find_ok hc23
      have hc26k := L_table_letter_ok hc26
      refine qeg [factE 9 hc23k, factE 14 hc26k] [none, none, none, none, none, none, none, none, none, some (some 12, false), some (some 12, false), some (some 12, false), some (some 12, false), none, none] [3] [(0, 0)] h fun ac wd h => ?_
      injection hE21 with hE21; subst hE21
      exact ⟨!(r25), rfl, h.z⟩
  · skip
    rintro ac wd ⟨b19, rfl, h⟩
    (try dsimp only at hD)
    refine wp_ret ?_
    have h := h.sm 18 [(3, .one (.d (.bool b19)))]
      [((0, 0), some (.box 146 (cTPlace a1)))]
    injection hD with hD
    subst hD
    exact rO h [.tmp 3] [(0, 0)]

theorem L_slices_IndexFunc_table_Send_table_Send_own {a0 : (List TSend)} {a1 : TPlace} {r : Int × TPlace} (hD : L_slices_IndexFunc_table_Send_table_Send a0 a1 = some r) :
    CallH Try.prog 128 [.one (.d (.sl (List.map eTSend a0))), .one (.fnp 120 [((0, 0), 0)])] [((0, 0), some (.box 146 (cTPlace a1)))]
      (.one (.d (.int .i64 r.1))) [((0, 0), some (.box 146 (cTPlace r.2)))] := by
  unfold L_slices_IndexFunc_table_Send_table_Send at hD
  refine rc Try.func128 rfl Try.ntmps128 fun S Φ P0 wb ac h => ?_
  refine qs 2 [] [0, 1] [(0, 0)] h fun ac wd h => ?_
  refine wp_seq ?_
  refine qs 5 [] [0, 1, 7, 8] [(0, 0)] h fun ac wd h => ?_
  refine wp_block ?_
  refine r_while (fun nf ac wd => ∃ (n239 : Int) (m240 : TPlace), L_slices_IndexFunc_table_Send_table_Send_l1 a0 nf n239 m240 = some r ∧ SL ⟨wb, S, Φ, P0⟩ 19 27 [(0, .one (.d (.sl (List.map eTSend a0)))), (1, .one (.fnp 120 [((0, 0), 0)])), (7, .one (.d (.int .i64 (a0.length : Int)))), (8, .one (.d (.int .i64 n239)))] [((0, 0), some (.box 146 (cTPlace m240)))] ac wd) (((a0.length : Int) - 0).toNat + 1) ⟨0, a1, hD, h.z⟩ (fun nf ac wd hJ => ?_)
  obtain ⟨n239, m240, hL241, h⟩ := hJ
  cases nf with
  | zero => rw [L_slices_IndexFunc_table_Send_table_Send_l1] at hL241; cases hL241
  | succ nf =>
    rw [L_slices_IndexFunc_table_Send_table_Send_l1] at hL241
    refine qs 28 [] [0, 1, 7, 8, 9] [(0, 0)] h fun ac wd h => ?_
    refine wp_seq ?_
    rcases i2 hL241 with ⟨hb243, hL241⟩ | ⟨hb243, hL241⟩
    ·
      refine kT h ?_
      refine wp_skip ?_
      change Code.wp Try.prog _ _ _ _
      refine wp_seq ?_
      refine wp_block ?_
      refine qs 30 [] [0, 1, 5, 7, 8] [(0, 0)] h fun ac wd h => ?_
      obtain ⟨x257, hx258a, hx258b, hx258c, hx258d, hL241⟩ := aB hL241
      obtain ⟨r259, hc260, hL241⟩ := oB hL241
      have hc260_35 := ((L_table_place_picks_1_own hc260).cls 35).z
      refine qs 36 [factR hc260_35] [0, 1, 5, 7, 8, 16] [(0, 0)] h fun ac wd h => ?_
      rcases i2b hL241 with ⟨hb261, hL241⟩ | ⟨hb261, hL241⟩
      ·
        refine kT h ?_
        refine qs 38 [] [4] [(0, 0)] h fun ac wd h => ?_
        refine wp_ret ?_
        have h := h.sm 38 [(4, .one (.d (.int .i64 n239)))]
          [((0, 0), some (.box 146 (cTPlace r259.2)))]
        injection hL241 with hL241
        subst hL241
        exact rO h [.tmp 4] [(0, 0)]
      ·
        refine kF h ?_
        refine wp_skip ?_
        change Code.wp Try.prog _ _ _ _
        refine qe [] [0, 1, 7, 8] [(0, 0)] h fun ac wd h => ?_
        exact ⟨nf, Nat.lt_succ_self nf, (IntKind.wrap .i64 (n239 + 1)), r259.2, hL241, h.z⟩
    ·
      refine kF h ?_
      refine wp_exit ?_
      change Code.wp Try.prog _ _ _ _
      refine qs 29 [] [4] [(0, 0)] h fun ac wd h => ?_
      refine wp_ret ?_
      have h := h.sm 29 [(4, .one (.d (.int .i64 (-1))))]
        [((0, 0), some (.box 146 (cTPlace m240)))]
      injection hL241 with hL241
      subst hL241
      exact rO h [.tmp 4] [(0, 0)]

theorem L_slices_ContainsFunc_table_Send_table_Send_own {a0 : (List TSend)} {a1 : TPlace} {r : Bool × TPlace} (hD : L_slices_ContainsFunc_table_Send_table_Send a0 a1 = some r) :
    CallH Try.prog 123 [.one (.d (.sl (List.map eTSend a0))), .one (.fnp 120 [((0, 0), 0)])] [((0, 0), some (.box 146 (cTPlace a1)))]
      (.one (.d (.bool r.1))) [((0, 0), some (.box 146 (cTPlace r.2)))] := by
  unfold L_slices_ContainsFunc_table_Send_table_Send at hD
  refine rc Try.func123 rfl Try.ntmps123 fun S Φ P0 wb ac h => ?_
  refine qs 2 [] [0, 1] [(0, 0)] h fun ac wd h => ?_
  obtain ⟨r7, hc8, hD⟩ := oB hD
  have hc8_4 := ((L_slices_IndexFunc_table_Send_table_Send_own hc8).cls 4).z
  refine qs 7 [factR hc8_4] [4] [(0, 0)] h fun ac wd h => ?_
  refine wp_ret ?_
  have h := h.sm 7 [(4, .one (.d (.bool (decide (r7.1 ≥ 0)))))]
    [((0, 0), some (.box 146 (cTPlace r7.2)))]
  injection hD with hD
  subst hD
  exact rO h [.tmp 4] [(0, 0)]

end Go.Proofs.Ytgkjgpbinblmdaa
