/- Functions as typed ones, and that the program's functions answer as these do. No condition. -/
import Derived.Test.YtkfahinbpmhcgaaGb5
import Derived.Test.YtkfahinbpmhcgaaGdTableParts
set_option linter.unusedSimpArgs false
set_option linter.unusedVariables false
set_option maxRecDepth 20000
set_option maxHeartbeats 4000000
namespace Go.Proofs.Ytkfahinbpmhcgaa
open Go.RowKit

theorem L_law04_TableParts_ok {a0 : (List TNode)} {a1 : TGraph} {r : Bool} (hD : L_law04_TableParts a0 a1 = some r) :
    CallH Try.prog 6 [.one (.d (.sl (List.map eTNode a0))), .agg (cTGraph a1)] []
      (.one (.d (.bool r))) [] := by
  unfold L_law04_TableParts at hD
  refine rc Try.func6 rfl Try.ntmps6 fun S Φ P0 wb ac h => ?_
  refine qs 3 [] [0, 3] [(1, 0)] h fun ac wd h => ?_
  obtain ⟨r82837, hc82838, hD⟩ := oB hD
  have hc82838k := L_law04_Cut_ok hc82838
  refine qs 6 [factE 4 hc82838k] [0, 3] [(1, 0)] h fun ac wd h => ?_
  obtain ⟨r82841, hc82842, hD⟩ := oB hD
  have hc82842k := L_law03_Cut_ok hc82842
  refine qs 9 [factE 7 hc82842k] [0, 3] [(1, 0)] h fun ac wd h => ?_
  refine wp_seq ?_
  obtain ⟨r82849, hc82850, hD⟩ := oB hD
  obtain ⟨r82851, hc82852, hD⟩ := oB hD
  obtain ⟨r82853, hc82854, hD⟩ := oB hD
  have hc82850k := L_law04_Ref_ok hc82850
  have hc82852k := L_law03_Ref_ok hc82852
  have hc82854k := L_ref04_Right_ok hc82854
  refine ds 15 [factE 10 hc82850k, factE 12 hc82852k, factE 13 hc82854k] [0, 3, 24] [(1, 0)] h fun ac wd h => ?_
  rcases i2b hD with ⟨hb82869, hD⟩ | ⟨hb82869, hD⟩
  ·
    refine kF h ?_
    refine wp_skip ?_
    change Code.wp Try.prog _ _ _ _
    refine wp_seq ?_
    refine qs 16 [] [0, 3, 5] [(1, 0)] h fun ac wd h => ?_
    obtain ⟨e156856, hE156857, hD⟩ := Option.bind_eq_some_iff.1 hD
    refine r_meet (fun ac wd => () = e156856 ∧ SL ⟨wb, S, Φ, P0⟩ 169 1240 [] [] ac wd) ?_ ?_
    · skip
      refine wp_block ?_
      refine r_while (fun nf ac wd => ∃ (n184443 : Int), L_law04_TableParts_l1 r82837 r82841 r82851 nf n184443 = some e156856 ∧ SL ⟨wb, S, Φ, P0⟩ 169 1236 [(0, .one (.d (.sl (List.map eTNode r82837)))), (3, .one (.ptr (1, 0) 0)), (5, .one (.d (.int .i64 n184443)))] [((1, 0), some (.box 24 [.d (.int .i64 r82841.N), .d (.sl (List.map eA2I r82841.Links))]))] ac wd) ((r82841.N - 0).toNat + 1) ⟨0, hE156857, h.z⟩ (fun nf ac wd hJ => ?_)
      obtain ⟨n184443, hL184444, h⟩ := hJ
      cases nf with
      | zero => rw [L_law04_TableParts_l1] at hL184444; cases hL184444
      | succ nf =>
        rw [L_law04_TableParts_l1] at hL184444
        refine wp_seq ?_
        refine qs 1240 [] [0, 3, 5, 35] [(1, 0)] h fun ac wd h => ?_
        rcases i2 hL184444 with ⟨hb184446, hL184444⟩ | ⟨hb184446, hL184444⟩
        ·
          refine kT h ?_
          refine wp_skip ?_
          change Code.wp Try.prog _ _ _ _
          obtain ⟨e196347, hE196348, hL184444⟩ := Option.bind_eq_some_iff.1 hL184444
          refine r_seqJ (fun ac wd => () = e196347 ∧ SL ⟨wb, S, Φ, P0⟩ 169 1843 [(0, .one (.d (.sl (List.map eTNode r82837)))), (3, .one (.ptr (1, 0) 0)), (5, .one (.d (.int .i64 n184443)))] [((1, 0), some (.box 24 [.d (.int .i64 r82841.N), .d (.sl (List.map eA2I r82841.Links))]))] ac wd) ?_ ?_
          · skip
            refine wp_block ?_
            obtain ⟨x196351, hx196352a, hx196352b, hx196352c, hx196352d, hE196348⟩ := aB hE196348
            refine qs 1247 [] [0, 3, 5, 6] [(1, 0)] h fun ac wd h => ?_
            refine qs 1248 [] [0, 3, 5, 6, 7] [(1, 0)] h fun ac wd h => ?_
            obtain ⟨e203249, hE203250, hE196348⟩ := Option.bind_eq_some_iff.1 hE196348
            refine r_meetQ (fun ac wd => () = e203249 ∧ SL ⟨wb, S, Φ, P0⟩ 169 1843 [(0, .one (.d (.sl (List.map eTNode r82837)))), (3, .one (.ptr (1, 0) 0)), (5, .one (.d (.int .i64 n184443)))] [((1, 0), some (.box 24 [.d (.int .i64 r82841.N), .d (.sl (List.map eA2I r82841.Links))]))] ac wd) ?_ ?_
            · skip
              refine wp_block ?_
              refine r_while (fun nf ac wd => ∃ (n207848 : Int), L_law04_TableParts_l2 n184443 r82837 r82841 r82851 x196351 nf n207848 = some e203249 ∧ SL ⟨wb, S, Φ, P0⟩ 169 1840 [(0, .one (.d (.sl (List.map eTNode r82837)))), (3, .one (.ptr (1, 0) 0)), (5, .one (.d (.int .i64 n184443))), (6, .one (.d (.int .i64 (x196351.States.length : Int)))), (7, .one (.d (.int .i64 n207848)))] [((1, 0), some (.box 24 [.d (.int .i64 r82841.N), .d (.sl (List.map eA2I r82841.Links))]))] ac wd) (((x196351.States.length : Int) - 0).toNat + 1) ⟨0, hE203250, h.z⟩ (fun nf ac wd hJ => ?_)
              obtain ⟨n207848, hL207849, h⟩ := hJ
              cases nf with
              | zero => rw [L_law04_TableParts_l2] at hL207849; cases hL207849
              | succ nf =>
                rw [L_law04_TableParts_l2] at hL207849
                refine wp_seq ?_
                refine qs 1843 [] [0, 3, 5, 6, 7, 46] [(1, 0)] h fun ac wd h => ?_
                rcases i2 hL207849 with ⟨hb207851, hL207849⟩ | ⟨hb207851, hL207849⟩
                ·
                  refine kT h ?_
                  refine wp_skip ?_
                  change Code.wp Try.prog _ _ _ _
                  obtain ⟨e209398, hE209399, hL207849⟩ := Option.bind_eq_some_iff.1 hL207849
                  refine r_seqJ (fun ac wd => () = e209398 ∧ SL ⟨wb, S, Φ, P0⟩ 169 2133 [(0, .one (.d (.sl (List.map eTNode r82837)))), (3, .one (.ptr (1, 0) 0)), (5, .one (.d (.int .i64 n184443))), (6, .one (.d (.int .i64 (x196351.States.length : Int)))), (7, .one (.d (.int .i64 n207848)))] [((1, 0), some (.box 24 [.d (.int .i64 r82841.N), .d (.sl (List.map eA2I r82841.Links))]))] ac wd) ?_ ?_
                  · skip
                    refine wp_block ?_
                    obtain ⟨r209402, hc209403, hE209399⟩ := oB hE209399
                    have hc209403k := L_table_Mode_ok hc209403
                    refine qs 1848 [factE 1846 hc209403k] [0, 3, 5, 6, 7, 8] [(1, 0)] h fun ac wd h => ?_
                    refine wp_seq ?_
                    obtain ⟨hb209801, hE209399⟩ := iF hE209399
                    obtain ⟨hb210198, hE209399⟩ := iF hE209399
                    obtain ⟨r210594, hc210595, hE209399⟩ := oB hE209399
                    have hc210595k := L_table_Waits_ok hc210595
                    refine qsg 1865 [factE 1860 hc210595k] [none, none, none, some (some 55, false), some (some 55, false), none, none, some (some 59, false), some (some 59, false), some (some 59, false), some (some 59, false), some (some 59, false), some (some 59, false), some (some 59, false), some (some 59, false), some (some 59, false), none] [0, 3, 5, 6, 7, 8, 69] [(1, 0)] h fun ac wd h => ?_
                    obtain ⟨hb210597, hE209399⟩ := iTe hE209399
                    refine kF h ?_
                    refine wp_skip ?_
                    change Code.wp Try.prog _ _ _ _
                    refine wp_seq ?_
                    refine qs 1866 [] [0, 3, 5, 6, 7, 8, 9] [(1, 0)] h fun ac wd h => ?_
                    obtain ⟨e211278, hE211279, hE209399⟩ := Option.bind_eq_some_iff.1 hE209399
                    refine r_meet (fun ac wd => () = e211278 ∧ SL ⟨wb, S, Φ, P0⟩ 169 2058 [(0, .one (.d (.sl (List.map eTNode r82837)))), (3, .one (.ptr (1, 0) 0)), (5, .one (.d (.int .i64 n184443))), (6, .one (.d (.int .i64 (x196351.States.length : Int)))), (7, .one (.d (.int .i64 n207848)))] [((1, 0), some (.box 24 [.d (.int .i64 r82841.N), .d (.sl (List.map eA2I r82841.Links))]))] ac wd) ?_ ?_
                    · skip
                      refine wp_block ?_
                      refine r_while (fun nf ac wd => ∃ (n211615 : Int), L_law04_TableParts_l3 n184443 n207848 r209402 r82837 r82851 x196351 nf n211615 = some e211278 ∧ SL ⟨wb, S, Φ, P0⟩ 169 2056 [(0, .one (.d (.sl (List.map eTNode r82837)))), (3, .one (.ptr (1, 0) 0)), (5, .one (.d (.int .i64 n184443))), (6, .one (.d (.int .i64 (x196351.States.length : Int)))), (7, .one (.d (.int .i64 n207848))), (8, .one (.d (.int .i64 r209402))), (9, .one (.d (.int .i64 n211615)))] [((1, 0), some (.box 24 [.d (.int .i64 r82841.N), .d (.sl (List.map eA2I r82841.Links))]))] ac wd) (((5 : Int) - 0).toNat + 1) ⟨0, hE211279, h.z⟩ (fun nf ac wd hJ => ?_)
                      obtain ⟨n211615, hL211616, h⟩ := hJ
                      cases nf with
                      | zero => rw [L_law04_TableParts_l3] at hL211616; cases hL211616
                      | succ nf =>
                        rw [L_law04_TableParts_l3] at hL211616
                        refine wp_seq ?_
                        refine qs 2058 [] [0, 3, 5, 6, 7, 8, 9, 71] [(1, 0)] h fun ac wd h => ?_
                        rcases i2 hL211616 with ⟨hb211618, hL211616⟩ | ⟨hb211618, hL211616⟩
                        ·
                          refine kT h ?_
                          refine wp_skip ?_
                          change Code.wp Try.prog _ _ _ _
                          obtain ⟨e211757, hE211758, hL211616⟩ := Option.bind_eq_some_iff.1 hL211616
                          refine r_seqJ (fun ac wd => () = e211757 ∧ SL ⟨wb, S, Φ, P0⟩ 169 2148 [(0, .one (.d (.sl (List.map eTNode r82837)))), (3, .one (.ptr (1, 0) 0)), (5, .one (.d (.int .i64 n184443))), (6, .one (.d (.int .i64 (x196351.States.length : Int)))), (7, .one (.d (.int .i64 n207848))), (8, .one (.d (.int .i64 r209402))), (9, .one (.d (.int .i64 n211615)))] [((1, 0), some (.box 24 [.d (.int .i64 r82841.N), .d (.sl (List.map eA2I r82841.Links))]))] ac wd) ?_ ?_
                          · skip
                            refine wp_block ?_
                            obtain ⟨r211761, hc211762, hE211758⟩ := oB hE211758
                            have hc211762k := L_table_Picked_ok hc211762
                            refine qs 2069 [factE 2062 hc211762k] [0, 3, 5, 6, 7, 8, 9, 10, 11] [(1, 0), (2066, 0)] h fun ac wd h => ?_
                            refine wp_seq ?_
                            obtain ⟨e211867, hE211868, hE211758⟩ := Option.bind_eq_some_iff.1 hE211758
                            refine r_seqJ (fun ac wd => ∃ (b211866 : Bool), b211866 = e211867 ∧ SL ⟨wb, S, Φ, P0⟩ 169 2104 [(0, .one (.d (.sl (List.map eTNode r82837)))), (3, .one (.ptr (1, 0) 0)), (5, .one (.d (.int .i64 n184443))), (6, .one (.d (.int .i64 (x196351.States.length : Int)))), (7, .one (.d (.int .i64 n207848))), (8, .one (.d (.int .i64 r209402))), (9, .one (.d (.int .i64 n211615))), (10, .one (.ptr (2066, 0) 0)), (116, .one (.d (.bool b211866)))] [((1, 0), some (.box 24 [.d (.int .i64 r82841.N), .d (.sl (List.map eA2I r82841.Links))])), ((2066, 0), some (.box 74 [.d (.int .i64 r211761.1.Next), .d (.sl (List.map eTSend r211761.1.Sends))]))] ac wd) ?_ ?_
                            · skip
                              rcases i2b hE211868 with ⟨hb211869, hE211868⟩ | ⟨hb211869, hE211868⟩
                              ·
                                rcases i2e hE211868 with ⟨hb211873, hE211868⟩ | ⟨hb211873, hE211868⟩
                                ·
                                  rcases i2 hE211868 with ⟨hb211875, hE211868⟩ | ⟨hb211875, hE211868⟩
                                  ·
                                    refine qeg [] [none, none, some (some 83, true), some (some 83, true), some (some 83, true), some (some 86, false), some (some 86, false), some (some 86, false), some (some 83, true), some (some 83, true), some (some 91, false), some (some 91, false), some (some 91, false), some (some 91, false), some (some 83, true), some (some 83, true), some (some 97, false), some (some 97, false), some (some 83, true), none, none, some (some 102, false), some (some 102, false), some (some 102, false), some (some 105, true), some (some 105, true), some (some 105, true), some (some 105, true), some (some 109, false), some (some 109, false), some (some 109, false), some (some 109, false), some (some 105, true), some (some 102, false), none] [0, 3, 5, 6, 7, 8, 9, 10, 116] [(1, 0), (2066, 0)] h fun ac wd h => ?_
                                    injection hE211868 with hE211868; subst hE211868
                                    exact ⟨true, rfl, h.z⟩
                                  ·
                                    rcases i2 hE211868 with ⟨hb211877, hE211868⟩ | ⟨hb211877, hE211868⟩
                                    ·
                                      refine qeg [] [none, none, some (some 83, true), some (some 83, true), some (some 83, true), some (some 86, false), some (some 86, false), some (some 86, false), some (some 83, true), some (some 83, true), some (some 91, false), some (some 91, false), some (some 91, false), some (some 91, false), some (some 83, true), some (some 83, true), some (some 97, false), some (some 97, false), some (some 83, true), none, none, some (some 102, false), some (some 102, false), some (some 102, false), some (some 105, true), some (some 105, true), some (some 105, true), some (some 105, true), some (some 109, false), some (some 109, false), some (some 109, false), some (some 109, false), some (some 105, true), some (some 102, false), none] [0, 3, 5, 6, 7, 8, 9, 10, 116] [(1, 0), (2066, 0)] h fun ac wd h => ?_
                                      injection hE211868 with hE211868; subst hE211868
                                      exact ⟨true, rfl, h.z⟩
                                    ·
                                      rcases i2 hE211868 with ⟨hb211879, hE211868⟩ | ⟨hb211879, hE211868⟩
                                      ·
                                        refine qeg [] [none, none, some (some 83, true), some (some 83, true), some (some 83, true), some (some 86, false), some (some 86, false), some (some 86, false), some (some 83, true), some (some 83, true), some (some 91, false), some (some 91, false), some (some 91, false), some (some 91, false), some (some 83, true), some (some 83, true), some (some 97, false), some (some 97, false), some (some 83, true), none, none, some (some 102, false), some (some 102, false), some (some 102, false), some (some 105, true), some (some 105, true), some (some 105, true), some (some 105, true), some (some 109, false), some (some 109, false), some (some 109, false), some (some 109, false), some (some 105, true), some (some 102, false), none] [0, 3, 5, 6, 7, 8, 9, 10, 116] [(1, 0), (2066, 0)] h fun ac wd h => ?_
                                        injection hE211868 with hE211868; subst hE211868
                                        exact ⟨true, rfl, h.z⟩
                                      ·
                                        refine qeg [] [none, none, some (some 83, true), some (some 83, true), some (some 83, true), some (some 86, false), some (some 86, false), some (some 86, false), some (some 83, true), some (some 83, true), some (some 91, false), some (some 91, false), some (some 91, false), some (some 91, false), some (some 83, true), some (some 83, true), some (some 97, false), some (some 97, false), some (some 83, true), none, none, some (some 102, false), some (some 102, false), some (some 102, false), some (some 105, true), some (some 105, true), some (some 105, true), some (some 105, true), some (some 109, false), some (some 109, false), some (some 109, false), some (some 109, false), some (some 105, true), some (some 102, false), none] [0, 3, 5, 6, 7, 8, 9, 10, 116] [(1, 0), (2066, 0)] h fun ac wd h => ?_
                                        injection hE211868 with hE211868; subst hE211868
                                        exact ⟨false, rfl, h.z⟩
                                ·
                                  refine qeg [] [none, none, some (some 83, true), some (some 83, true), some (some 83, true), some (some 86, false), some (some 86, false), some (some 86, false), some (some 83, true), some (some 83, true), some (some 91, false), some (some 91, false), some (some 91, false), some (some 91, false), some (some 83, true), some (some 83, true), some (some 97, false), some (some 97, false), some (some 83, true), none, none, some (some 102, false), some (some 102, false), some (some 102, false), some (some 105, true), some (some 105, true), some (some 105, true), some (some 105, true), some (some 109, false), some (some 109, false), some (some 109, false), some (some 109, false), some (some 105, true), some (some 102, false), none] [0, 3, 5, 6, 7, 8, 9, 10, 116] [(1, 0), (2066, 0)] h fun ac wd h => ?_
                                  injection hE211868 with hE211868; subst hE211868
                                  exact ⟨true, rfl, h.z⟩
                              ·
                                rcases i2e hE211868 with ⟨hb211880, hE211868⟩ | ⟨hb211880, hE211868⟩
                                ·
                                  refine qeg [] [none, none, some (some 83, true), some (some 83, true), some (some 83, true), some (some 86, false), some (some 86, false), some (some 86, false), some (some 83, true), some (some 83, true), some (some 91, false), some (some 91, false), some (some 91, false), some (some 91, false), some (some 83, true), some (some 83, true), some (some 97, false), some (some 97, false), some (some 83, true), none, none, some (some 102, false), some (some 102, false), some (some 102, false), some (some 105, true), some (some 105, true), some (some 105, true), some (some 105, true), some (some 109, false), some (some 109, false), some (some 109, false), some (some 109, false), some (some 105, true), some (some 102, false), none] [0, 3, 5, 6, 7, 8, 9, 10, 116] [(1, 0), (2066, 0)] h fun ac wd h => ?_
                                  injection hE211868 with hE211868; subst hE211868
                                  exact ⟨!(decide ((r211761.1.Sends.length : Int) = 0)), rfl, h.z⟩
                                ·
                                  refine qeg [] [none, none, some (some 83, true), some (some 83, true), some (some 83, true), some (some 86, false), some (some 86, false), some (some 86, false), some (some 83, true), some (some 83, true), some (some 91, false), some (some 91, false), some (some 91, false), some (some 91, false), some (some 83, true), some (some 83, true), some (some 97, false), some (some 97, false), some (some 83, true), none, none, some (some 102, false), some (some 102, false), some (some 102, false), some (some 105, true), some (some 105, true), some (some 105, true), some (some 105, true), some (some 109, false), some (some 109, false), some (some 109, false), some (some 109, false), some (some 105, true), some (some 102, false), none] [0, 3, 5, 6, 7, 8, 9, 10, 116] [(1, 0), (2066, 0)] h fun ac wd h => ?_
                                  injection hE211868 with hE211868; subst hE211868
                                  exact ⟨true, rfl, h.z⟩
                            · skip
                              rintro ac wd ⟨b211866, rfl, h⟩
                              (try dsimp only at hE211758)
                              obtain ⟨hb211882, hE211758⟩ := iFb hE211758
                              refine kF h ?_
                              refine wp_skip ?_
                              change Code.wp Try.prog _ _ _ _
                              refine qs 2105 [] [0, 3, 5, 6, 7, 8, 9, 10, 12] [(1, 0), (2066, 0)] h fun ac wd h => ?_
                              obtain ⟨e211993, hE211994, hE211758⟩ := Option.bind_eq_some_iff.1 hE211758
                              refine r_meetQ (fun ac wd => () = e211993 ∧ SL ⟨wb, S, Φ, P0⟩ 169 2148 [(0, .one (.d (.sl (List.map eTNode r82837)))), (3, .one (.ptr (1, 0) 0)), (5, .one (.d (.int .i64 n184443))), (6, .one (.d (.int .i64 (x196351.States.length : Int)))), (7, .one (.d (.int .i64 n207848))), (8, .one (.d (.int .i64 r209402))), (9, .one (.d (.int .i64 n211615)))] [((1, 0), some (.box 24 [.d (.int .i64 r82841.N), .d (.sl (List.map eA2I r82841.Links))]))] ac wd) ?_ ?_
                              · skip
                                refine wp_block ?_
                                refine r_while (fun nf ac wd => ∃ (n212036 : Int), L_law04_TableParts_l4 n184443 r211761 r82851 nf n212036 = some e211993 ∧ SL ⟨wb, S, Φ, P0⟩ 169 2143 [(0, .one (.d (.sl (List.map eTNode r82837)))), (3, .one (.ptr (1, 0) 0)), (5, .one (.d (.int .i64 n184443))), (6, .one (.d (.int .i64 (x196351.States.length : Int)))), (7, .one (.d (.int .i64 n207848))), (8, .one (.d (.int .i64 r209402))), (9, .one (.d (.int .i64 n211615))), (10, .one (.ptr (2066, 0) 0)), (12, .one (.d (.int .i64 n212036)))] [((1, 0), some (.box 24 [.d (.int .i64 r82841.N), .d (.sl (List.map eA2I r82841.Links))])), ((2066, 0), some (.box 74 [.d (.int .i64 r211761.1.Next), .d (.sl (List.map eTSend r211761.1.Sends))]))] ac wd) (((r211761.1.Sends.length : Int) - 0).toNat + 1) ⟨0, hE211994, h.z⟩ (fun nf ac wd hJ => ?_)
                                obtain ⟨n212036, hL212037, h⟩ := hJ
                                cases nf with
                                | zero => rw [L_law04_TableParts_l4] at hL212037; cases hL212037
                                | succ nf =>
                                  rw [L_law04_TableParts_l4] at hL212037
                                  refine wp_seq ?_
                                  refine qs 2148 [] [0, 3, 5, 6, 7, 8, 9, 10, 12, 121] [(1, 0), (2066, 0)] h fun ac wd h => ?_
                                  rcases i2 hL212037 with ⟨hb212039, hL212037⟩ | ⟨hb212039, hL212037⟩
                                  ·
                                    refine kT h ?_
                                    refine wp_skip ?_
                                    change Code.wp Try.prog _ _ _ _
                                    refine wp_seq ?_
                                    refine wp_block ?_
                                    obtain ⟨x212058, hx212059a, hx212059b, hx212059c, hx212059d, hL212037⟩ := aB hL212037
                                    obtain ⟨r212060, hc212061, hL212037⟩ := oB hL212037
                                    have hc82852k := L_law03_Ref_ok hc82852
                                    have hc212061k := L_ref03_Find_ok hc212061
                                    refine ds 2159 [factE 2149 hc82852k, factE 2157 hc212061k] [0, 3, 5, 6, 7, 8, 9, 10, 12, 134] [(1, 0), (2066, 0)] h fun ac wd h => ?_
                                    obtain ⟨hb212062, hL212037⟩ := iF hL212037
                                    refine kF h ?_
                                    refine wp_skip ?_
                                    change Code.wp Try.prog _ _ _ _
                                    refine qe [] [0, 3, 5, 6, 7, 8, 9, 10, 12] [(1, 0), (2066, 0)] h fun ac wd h => ?_
                                    exact ⟨nf, Nat.lt_succ_self nf, (IntKind.wrap .i64 (n212036 + 1)), hL212037, h.z⟩
                                  ·
                                    refine kF h ?_
                                    refine wp_exit ?_
                                    injection hL212037 with hL212037; subst hL212037
                                    exact ⟨rfl, h.z⟩
                              · skip
                                rintro ac wd ⟨rfl, h⟩
                                (try dsimp only at hE211758)
                                injection hE211758 with hE211758; subst hE211758
                                exact ⟨rfl, h.z⟩
                          · skip
                            rintro ac wd ⟨rfl, h⟩
                            (try dsimp only at hL211616)
                            refine qe [] [0, 3, 5, 6, 7, 8, 9] [(1, 0)] h fun ac wd h => ?_
                            exact ⟨nf, Nat.lt_succ_self nf, (IntKind.wrap .i64 (n211615 + 1)), hL211616, h.z⟩
                        ·
                          refine kF h ?_
                          refine wp_exit ?_
                          injection hL211616 with hL211616; subst hL211616
                          exact ⟨rfl, h.z⟩
                    · skip
                      rintro ac wd ⟨rfl, h⟩
                      (try dsimp only at hE209399)
                      refine qs 2059 [] [0, 3, 5, 6, 7, 13] [(1, 0)] h fun ac wd h => ?_
                      obtain ⟨e212179, hE212180, hE209399⟩ := Option.bind_eq_some_iff.1 hE209399
                      refine r_meetQ (fun ac wd => () = e212179 ∧ SL ⟨wb, S, Φ, P0⟩ 169 2133 [(0, .one (.d (.sl (List.map eTNode r82837)))), (3, .one (.ptr (1, 0) 0)), (5, .one (.d (.int .i64 n184443))), (6, .one (.d (.int .i64 (x196351.States.length : Int)))), (7, .one (.d (.int .i64 n207848)))] [((1, 0), some (.box 24 [.d (.int .i64 r82841.N), .d (.sl (List.map eA2I r82841.Links))]))] ac wd) ?_ ?_
                      · skip
                        refine wp_block ?_
                        refine r_while (fun nf ac wd => ∃ (n212258 : Int), L_law04_TableParts_l5 n184443 n207848 r82837 r82841 r82851 x196351 nf n212258 = some e212179 ∧ SL ⟨wb, S, Φ, P0⟩ 169 2129 [(0, .one (.d (.sl (List.map eTNode r82837)))), (3, .one (.ptr (1, 0) 0)), (5, .one (.d (.int .i64 n184443))), (6, .one (.d (.int .i64 (x196351.States.length : Int)))), (7, .one (.d (.int .i64 n207848))), (13, .one (.d (.int .i64 n212258)))] [((1, 0), some (.box 24 [.d (.int .i64 r82841.N), .d (.sl (List.map eA2I r82841.Links))]))] ac wd) ((r82841.N - 0).toNat + 1) ⟨0, hE212180, h.z⟩ (fun nf ac wd hJ => ?_)
                        obtain ⟨n212258, hL212259, h⟩ := hJ
                        cases nf with
                        | zero => rw [L_law04_TableParts_l5] at hL212259; cases hL212259
                        | succ nf =>
                          rw [L_law04_TableParts_l5] at hL212259
                          refine wp_seq ?_
                          refine qs 2133 [] [0, 3, 5, 6, 7, 13, 138] [(1, 0)] h fun ac wd h => ?_
                          rcases i2 hL212259 with ⟨hb212261, hL212259⟩ | ⟨hb212261, hL212259⟩
                          ·
                            refine kT h ?_
                            refine wp_skip ?_
                            change Code.wp Try.prog _ _ _ _
                            refine wp_seq ?_
                            refine wp_block ?_
                            obtain ⟨r212290, hc212291, hL212259⟩ := oB hL212259
                            have hc212291k := L_table_Taken_ok hc212291
                            refine qs 2141 [factE 2139 hc212291k] [0, 3, 5, 6, 7, 13, 14] [(1, 0)] h fun ac wd h => ?_
                            obtain ⟨e212299, hE212300, hL212259⟩ := Option.bind_eq_some_iff.1 hL212259
                            refine r_seqJ (fun ac wd => ∃ (b212298 : Bool), b212298 = e212299 ∧ SL ⟨wb, S, Φ, P0⟩ 169 2161 [(0, .one (.d (.sl (List.map eTNode r82837)))), (3, .one (.ptr (1, 0) 0)), (5, .one (.d (.int .i64 n184443))), (6, .one (.d (.int .i64 (x196351.States.length : Int)))), (7, .one (.d (.int .i64 n207848))), (13, .one (.d (.int .i64 n212258))), (167, .one (.d (.bool b212298)))] [((1, 0), some (.box 24 [.d (.int .i64 r82841.N), .d (.sl (List.map eA2I r82841.Links))]))] ac wd) ?_ ?_
                            · skip
                              rcases i2 hE212300 with ⟨hb212301, hE212300⟩ | ⟨hb212301, hE212300⟩
                              ·
                                refine qeg [] [none, none, none, some (some 150, false), some (some 150, false), some (some 150, false), none, none, some (some 155, false), some (some 155, false), some (some 155, false), some (some 155, false), some (some 155, false), some (some 155, false), some (some 155, false), some (some 162, true), some (some 162, true), some (some 162, true), some (some 155, false), none] [0, 3, 5, 6, 7, 13, 167] [(1, 0)] h fun ac wd h => ?_
                                injection hE212300 with hE212300; subst hE212300
                                exact ⟨true, rfl, h.z⟩
                              ·
                                rcases i2 hE212300 with ⟨hb212303, hE212300⟩ | ⟨hb212303, hE212300⟩
                                ·
                                  refine qeg [] [none, none, none, some (some 150, false), some (some 150, false), some (some 150, false), none, none, some (some 155, false), some (some 155, false), some (some 155, false), some (some 155, false), some (some 155, false), some (some 155, false), some (some 155, false), some (some 162, true), some (some 162, true), some (some 162, true), some (some 155, false), none] [0, 3, 5, 6, 7, 13, 167] [(1, 0)] h fun ac wd h => ?_
                                  injection hE212300 with hE212300; subst hE212300
                                  exact ⟨true, rfl, h.z⟩
                                ·
                                  obtain ⟨r212307, hc212308, hE212300⟩ := oB hE212300
                                  rcases i2 hE212300 with ⟨hb212309, hE212300⟩ | ⟨hb212309, hE212300⟩
                                  ·
                                    have hc82852k := L_law03_Ref_ok hc82852
                                    have hc212308k := L_ref03_Find_ok hc212308
                                    refine qeg [factE 2150 hc82852k, factE 2153 hc212308k] [none, none, none, some (some 150, false), some (some 150, false), some (some 150, false), none, none, some (some 155, false), some (some 155, false), some (some 155, false), some (some 155, false), some (some 155, false), some (some 155, false), some (some 155, false), some (some 162, true), some (some 162, true), some (some 162, true), some (some 155, false), none] [0, 3, 5, 6, 7, 13, 167] [(1, 0)] h fun ac wd h => ?_
                                    injection hE212300 with hE212300; subst hE212300
                                    exact ⟨!(decide (r212290 = n207848)), rfl, h.z⟩
                                  ·
                                    have hc82852k := L_law03_Ref_ok hc82852
                                    have hc212308k := L_ref03_Find_ok hc212308
                                    refine qeg [factE 2150 hc82852k, factE 2153 hc212308k] [none, none, none, some (some 150, false), some (some 150, false), some (some 150, false), none, none, some (some 155, false), some (some 155, false), some (some 155, false), some (some 155, false), some (some 155, false), some (some 155, false), some (some 155, false), some (some 162, true), some (some 162, true), some (some 162, true), some (some 155, false), none] [0, 3, 5, 6, 7, 13, 167] [(1, 0)] h fun ac wd h => ?_
                                    injection hE212300 with hE212300; subst hE212300
                                    exact ⟨false, rfl, h.z⟩
                            · skip
                              rintro ac wd ⟨b212298, rfl, h⟩
                              (try dsimp only at hL212259)
                              obtain ⟨hb212310, hL212259⟩ := iFb hL212259
                              refine kF h ?_
                              refine wp_skip ?_
                              change Code.wp Try.prog _ _ _ _
                              refine qe [] [0, 3, 5, 6, 7, 13] [(1, 0)] h fun ac wd h => ?_
                              exact ⟨nf, Nat.lt_succ_self nf, (IntKind.wrap .i64 (n212258 + 1)), hL212259, h.z⟩
                          ·
                            refine kF h ?_
                            refine wp_exit ?_
                            injection hL212259 with hL212259; subst hL212259
                            exact ⟨rfl, h.z⟩
                      · skip
                        rintro ac wd ⟨rfl, h⟩
                        (try dsimp only at hE209399)
                        injection hE209399 with hE209399; subst hE209399
                        exact ⟨rfl, h.z⟩
                  · skip
                    rintro ac wd ⟨rfl, h⟩
                    (try dsimp only at hL207849)
                    refine qe [] [0, 3, 5, 6, 7] [(1, 0)] h fun ac wd h => ?_
                    exact ⟨nf, Nat.lt_succ_self nf, (IntKind.wrap .i64 (n207848 + 1)), hL207849, h.z⟩
                ·
                  refine kF h ?_
                  refine wp_exit ?_
                  injection hL207849 with hL207849; subst hL207849
                  exact ⟨rfl, h.z⟩
            · skip
              rintro ac wd ⟨rfl, h⟩
              (try dsimp only at hE196348)
              injection hE196348 with hE196348; subst hE196348
              exact ⟨rfl, h.z⟩
          · skip
            rintro ac wd ⟨rfl, h⟩
            (try dsimp only at hL184444)
            refine qe [] [0, 3, 5] [(1, 0)] h fun ac wd h => ?_
            exact ⟨nf, Nat.lt_succ_self nf, (IntKind.wrap .i64 (n184443 + 1)), hL184444, h.z⟩
        ·
          refine kF h ?_
          refine wp_exit ?_
          injection hL184444 with hL184444; subst hL184444
          exact ⟨rfl, h.z⟩
    · skip
      rintro ac wd ⟨rfl, h⟩
      (try dsimp only at hD)
      obtain ⟨r212313, hc212314, hD⟩ := oB hD
      have hc212314k := L_law04_fixed_ok hc212314
      refine qs 1242 [factE 1240 hc212314k] [4] [] h fun ac wd h => ?_
      refine wp_ret ?_
      injection hD with hD
      subst hD
      exact rE h [.tmp 4]
  ·
    refine kT h ?_
    obtain ⟨r212320, hc212321, hD⟩ := oB hD
    obtain ⟨hb212322, hD⟩ := iFb hD
    obtain ⟨r212325, hc212326, hD⟩ := oB hD
    have hc212321k := L_table_Right_ok hc212321
    have hc212326k := L_law04_fixed_ok hc212326
    refine qsg 23 [factE 17 hc212321k, factE 20 hc212326k] [none, none, none, none, none, some (some 29, true), none, none] [4] [] h fun ac wd h => ?_
    refine wp_ret ?_
    injection hD with hD
    subst hD
    exact rE h [.tmp 4]

end Go.Proofs.Ytkfahinbpmhcgaa
