/- Functions as typed ones, and that the program's functions answer as these do. No condition. -/
import Derived.Test.YtkfahinbpmhcgaaGb5
import Derived.Test.YtkfahinbpmhcgaaGdTableMore
set_option linter.unusedSimpArgs false
set_option linter.unusedVariables false
set_option maxRecDepth 20000
set_option maxHeartbeats 4000000
namespace Go.Proofs.Ytkfahinbpmhcgaa
open Go.RowKit

theorem L_law04_TableMore_ok {a0 : (List TNode)} {a1 : TGraph} {a2 : A5I} {r : Bool} (hD : L_law04_TableMore a0 a1 a2 = some r) :
    CallH Try.prog 9 [.one (.d (.sl (List.map eTNode a0))), .agg (cTGraph a1), .agg (cA5I a2)] []
      (.one (.d (.bool r))) [] := by
  unfold L_law04_TableMore at hD
  refine rc Try.func9 rfl Try.ntmps9 fun S Φ P0 wb ac h => ?_
  refine qs 4 [] [0, 4, 5] [(1, 0), (2, 0)] h fun ac wd h => ?_
  obtain ⟨r156, hc157, hD⟩ := oB hD
  have hc157k := L_law04_Cut_ok hc157
  refine qs 7 [factE 5 hc157k] [0, 4, 5] [(1, 0), (2, 0)] h fun ac wd h => ?_
  obtain ⟨r160, hc161, hD⟩ := oB hD
  have hc161k := L_law03_Cut_ok hc161
  refine qs 10 [factE 8 hc161k] [0, 4, 5] [(1, 0), (2, 0)] h fun ac wd h => ?_
  refine wp_seq ?_
  obtain ⟨r168, hc169, hD⟩ := oB hD
  obtain ⟨r170, hc171, hD⟩ := oB hD
  obtain ⟨r172, hc173, hD⟩ := oB hD
  have hc169k := L_law04_Ref_ok hc169
  have hc171k := L_law03_Ref_ok hc171
  have hc173k := L_ref04_Right_ok hc173
  refine ds 16 [factE 11 hc169k, factE 13 hc171k, factE 14 hc173k] [0, 4, 5, 20] [(1, 0), (2, 0)] h fun ac wd h => ?_
  rcases i2b hD with ⟨hb188, hD⟩ | ⟨hb188, hD⟩
  ·
    refine kF h ?_
    refine wp_skip ?_
    change Code.wp Try.prog _ _ _ _
    obtain ⟨ha210, hD⟩ := iT hD
    refine qs 23 [] [0, 4, 5, 7] [(1, 0), (2, 0)] h fun ac wd h => ?_
    obtain ⟨r213, hc214, hD⟩ := oB hD
    have hc214_24 := ((L_law04_Cut_own hc214).cls 24).z
    refine qs 26 [factO hc214_24] [0, 4, 5, 7, 8] [(1, 0), (2, 0), (24, 0)] h fun ac wd h => ?_
    obtain ⟨x218, hx219a, hx219b, hx219c, hx219d, hD⟩ := aB hD
    have h := h.op (24, 0) (((landK .i64 a2.a0 255).tmod r160.N).toNat) 1
    have h := h.sm 27 [(0, .one (.d (.sl (List.map eTNode r156)))), (4, .one (.ptr (1, 0) 0)), (5, .one (.ptr (2, 0) 0)), (7, .one (.d (.int .i64 ((landK .i64 a2.a0 255).tmod r160.N)))), (8, .one (.own (24, 0) r213.length))]
      [((1, 0), some (.box 24 [.d (.int .i64 r160.N), .d (.sl (List.map eA2I r160.Links))])), ((2, 0), some (.box 91 (cA5I a2))), ((24, 0), some (.row 68 2 ((openRows cols_68 (List.map eTNode r213)).set (((landK .i64 a2.a0 255).tmod r160.N).toNat) [.d (.int .i64 x218.Start), .own (26, 0) x218.States.length]))), ((26, 0), some (.row 86 4 (openRows cols_86 (List.map eTState x218.States))))]
    obtain ⟨ha220, hD⟩ := iT hD
    refine qs 40 [] [0, 4, 5, 7, 8] [(1, 0), (2, 0), (24, 0), (36, 0)] h fun ac wd h => ?_
    have h := h.nilTr (36, 0) (l := (openRows cols_86 (List.map eTState x218.States) ++ [[.d (.int .i64 0), .nil, .nil, .nil]])) (l' := (openRows cols_86 (List.map eTState x218.States) ++ [[.d (.int .i64 0), .tr (.sl 3 1 (fun _ => .sc)) (.sl (List.map eI [])), .tr (.sl 74 2 cols_74) (.sl (List.map eTPick [])), .tr (.sl 88 3 (fun _ => .sc)) (.sl (List.map eTTake []))]])) (by simp only [EZ, simprocAttr, *] <;> rfl) (RowsTo.append (RowsTo.refl _) (RowsTo.cons (RowTo.cons (.inl rfl) (RowTo.cons (.inr (.inr ⟨rfl, _, _, _, rfl⟩)) (RowTo.cons (.inr (.inr ⟨rfl, _, _, _, rfl⟩)) (RowTo.cons (.inr (.inr ⟨rfl, _, _, _, rfl⟩)) RowTo.nil)))) (RowsTo.refl [])))
    have h := h.sm 40 [(0, .one (.d (.sl (List.map eTNode r156)))), (4, .one (.ptr (1, 0) 0)), (5, .one (.ptr (2, 0) 0)), (7, .one (.d (.int .i64 ((landK .i64 a2.a0 255).tmod r160.N)))), (8, .one (.own (24, 0) r213.length))]
      [((1, 0), some (.box 24 [.d (.int .i64 r160.N), .d (.sl (List.map eA2I r160.Links))])), ((2, 0), some (.box 91 (cA5I a2))), ((24, 0), some (.row 68 2 ((openRows cols_68 (List.map eTNode r213)).set (((landK .i64 a2.a0 255).tmod r160.N).toNat) [.d (.int .i64 x218.Start), .own (36, 0) (x218.States.length + 1)]))), ((36, 0), some (.row 86 4 ((openRows cols_86 (List.map eTState x218.States) ++ [[.d (.int .i64 0), .tr (.sl 3 1 (fun _ => .sc)) (.sl (List.map eI [])), .tr (.sl 74 2 cols_74) (.sl (List.map eTPick [])), .tr (.sl 88 3 (fun _ => .sc)) (.sl (List.map eTTake []))]]))))]
    have h := h.fS (cols := cols_86) (24, 0) (36, 0) (openRows cols_68 (List.map eTNode r213)) (((landK .i64 a2.a0 255).tmod r160.N).toNat) [.d (.int .i64 x218.Start), .own (36, 0) (x218.States.length + 1)] 1 (List.map eTState (x218.States ++ [(TState.mk 0 [] [] [])])) (sc_86 _)
    have h := h.sm 40 [(0, .one (.d (.sl (List.map eTNode r156)))), (4, .one (.ptr (1, 0) 0)), (5, .one (.ptr (2, 0) 0)), (7, .one (.d (.int .i64 ((landK .i64 a2.a0 255).tmod r160.N)))), (8, .one (.own (24, 0) r213.length))]
      [((1, 0), some (.box 24 [.d (.int .i64 r160.N), .d (.sl (List.map eA2I r160.Links))])), ((2, 0), some (.box 91 (cA5I a2))), ((24, 0), some (.row 68 2 ((openRows cols_68 (List.map eTNode r213)).set (((landK .i64 a2.a0 255).tmod r160.N).toNat) [.d (.int .i64 x218.Start), .tr (.sl 86 4 cols_86) (.sl (List.map eTState (x218.States ++ [(TState.mk 0 [] [] [])])))])))]
    obtain ⟨x223, hx224a, hx224b, hx224c, hx224d, hD⟩ := aB hD
    refine qs 47 [] [0, 4, 5, 7, 8, 9] [(1, 0), (2, 0), (24, 0)] h fun ac wd h => ?_
    obtain ⟨ha226, hD⟩ := iT hD
    refine qs 53 [] [0, 4, 5, 7, 8, 9, 10] [(1, 0), (2, 0), (24, 0)] h fun ac wd h => ?_
    refine wp_seq ?_
    refine qs 55 [] [0, 4, 5, 7, 8, 9, 10, 60] [(1, 0), (2, 0), (24, 0)] h fun ac wd h => ?_
    rcases i2 hD with ⟨hb241, hD⟩ | ⟨hb241, hD⟩
    ·
      refine kT h ?_
      obtain ⟨r280, hc281, hD⟩ := oB hD
      obtain ⟨hb282, hD⟩ := iFb hD
      obtain ⟨r285, hc286, hD⟩ := oB hD
      have hc281k := L_table_Right_ok hc281
      have hc286k := L_law04_fixed_ok hc286
      refine qsg 63 [factE 57 hc281k, factE 60 hc286k] [none, none, none, none, none, some (some 65, true), none, none] [6] [] h fun ac wd h => ?_
      refine wp_ret ?_
      injection hD with hD
      subst hD
      exact rE h [.tmp 6]
    ·
      refine kF h ?_
      refine wp_skip ?_
      change Code.wp Try.prog _ _ _ _
      obtain ⟨r315, hc316, hD⟩ := oB hD
      obtain ⟨hb317, hD⟩ := iT hD
      obtain ⟨r318, hc319, hD⟩ := oB hD
      obtain ⟨r320, hc321, hD⟩ := oB hD
      obtain ⟨hb322, hD⟩ := iTe hD
      obtain ⟨r323, hc324, hD⟩ := oB hD
      obtain ⟨hb325, hD⟩ := iTe hD
      obtain ⟨r326, hc327, hD⟩ := oB hD
      have h := h.fz [(24, 0)]
      obtain ⟨r328, hc329, hD⟩ := oB hD
      obtain ⟨r330, hc331, hD⟩ := oB hD
      obtain ⟨hb332, hD⟩ := iT hD
      obtain ⟨r333, hc334, hD⟩ := oB hD
      obtain ⟨r335, hc336, hD⟩ := oB hD
      obtain ⟨hb337, hD⟩ := iTe hD
      obtain ⟨r338, hc339, hD⟩ := oB hD
      obtain ⟨hb340, hD⟩ := iTe hD
      obtain ⟨r341, hc342, hD⟩ := oB hD
      have hc316k := L_table_Right_ok hc316
      have hc319k := L_table_Mode_ok hc319
      have hc321k := L_table_Mode_ok hc321
      have hc324k := L_table_Mode_ok hc324
      have hc327k := L_table_Waits_ok hc327
      have hc329k := L_table_Waits_ok hc329
      have hc331k := L_ref01_Ints_ok hc331
      have hc334k := L_table_Taken_ok hc334
      have hc336k := L_table_Taken_ok hc336
      have hc339k := L_table_Taken_ok hc339
      have hc342k := L_law04_fixed_ok hc342
      refine dsg 122 [factE 57 hc316k, factE 62 hc319k, factE 66 hc321k, factE 73 hc324k, factE 80 hc327k, factE 84 hc329k, factE 85 hc331k, factE 95 hc334k, factE 103 hc336k, factE 114 hc339k, factE 119 hc342k] [none, none, none, none, some (some 71, true), some (some 71, true), some (some 71, true), some (some 71, true), some (some 71, true), some (some 71, true), some (some 71, true), some (some 71, true), some (some 71, true), none, none, some (some 82, true), some (some 82, true), some (some 82, true), some (some 82, true), some (some 82, true), none, none, some (some 89, true), some (some 89, true), some (some 89, true), some (some 89, true), some (some 89, true), some (some 89, true), some (some 89, true), some (some 89, true), some (some 89, true), none, none, some (some 100, true), some (some 100, true), some (some 100, true), some (some 100, true), some (some 100, true), some (some 100, true), some (some 100, true), some (some 100, true), some (some 100, true), some (some 100, true), some (some 100, true), some (some 100, true), some (some 100, true), some (some 100, true), some (some 100, true), some (some 100, true), some (some 100, true), none, none, some (some 119, true), some (some 119, true), some (some 119, true), some (some 119, true), some (some 119, true), some (some 119, true), some (some 119, true), some (some 119, true), some (some 119, true), some (some 119, true), none, none, some (some 131, true), none, none] [6] [] h fun ac wd h => ?_
      refine wp_ret ?_
      injection hD with hD
      subst hD
      exact rE h [.tmp 6]
  ·
    refine kT h ?_
    obtain ⟨r348, hc349, hD⟩ := oB hD
    obtain ⟨hb350, hD⟩ := iFb hD
    obtain ⟨r353, hc354, hD⟩ := oB hD
    have hc349k := L_table_Right_ok hc349
    have hc354k := L_law04_fixed_ok hc354
    refine qsg 24 [factE 18 hc349k, factE 21 hc354k] [none, none, none, none, none, some (some 25, true), none, none] [6] [] h fun ac wd h => ?_
    refine wp_ret ?_
    injection hD with hD
    subst hD
    exact rE h [.tmp 6]

end Go.Proofs.Ytkfahinbpmhcgaa
