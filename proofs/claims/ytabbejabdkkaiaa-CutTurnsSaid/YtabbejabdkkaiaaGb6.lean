/- Functions as typed ones,and that the program's functions answer as these do. No condition. -/
import Derived.Test.YtabbejabdkkaiaaGb5
import Derived.Test.YtabbejabdkkaiaaGd
set_option linter.unusedSimpArgs false
set_option linter.unusedVariables false
set_option maxRecDepth 20000
set_option maxHeartbeats 4000000
namespace Go.Proofs.Ytabbejabdkkaiaa
open Go.RowKit

theorem L_cut_Counts_own {a0 : TGraph} {a1 : (List TStep)} {r : (List Int)} (hD : L_cut_Counts a0 a1 = some r) :
  CallH Try.prog 39 [.agg (cTGraph a0),.one (.d (.sl (List.map eTStep a1)))] []
   (.one (.own (1,0) r.length)) [((1,0),some (.row 3 1 (dat (List.map eI r))))] := by
 unfold L_cut_Counts at hD
 refine rc Try.func39 rfl Try.ntmps39 fun S Φ P0 wb ac h => ?_
 refine qs 3 [] [1,2] [(1,0)] h fun ac wd h => ?_
 obtain ⟨ha191,hD⟩ := iT hD
 obtain ⟨ha192,hD⟩ := iT hD
 obtain ⟨ha193,hD⟩ := iT hD
 refine qs 7 [] [1,2,5] [(1,0),(5,0)] h fun ac wd h => ?_
 refine wp_seq ?_
 refine qs 10 [] [2,5,12,13,14] [(1,0),(5,0)] h fun ac wd h => ?_
 refine wp_block ?_
 refine r_while (fun nf ac wd => ∃ (n343 : Int) (l344 : List Int),L_cut_Counts_l1 a0 a1 nf n343 l344 = some r ∧ SL ⟨wb,S,Φ,P0⟩ 31 50 [(2,.one (.ptr (1,0) 0)),(5,.one (.own (5,0) l344.length)),(12,.one (.d (.sl (List.map eTStep a1)))),(13,.one (.d (.int .i64 (a1.length : Int)))),(14,.one (.d (.int .i64 n343)))] [((1,0),some (.box 25 (cTGraph a0))),((5,0),some (.row 3 1 (dat (List.map eI l344))))] ac wd) (((a1.length : Int) - 0).toNat + 1) ⟨0,(List.replicate a0.N.toNat 0),hD,h.z⟩ (fun nf ac wd hJ => ?_)
 obtain ⟨n343,l344,hL345,h⟩ := hJ
 cases nf with
 | zero => rw [L_cut_Counts_l1] at hL345; cases hL345
 | succ nf =>
  rw [L_cut_Counts_l1] at hL345
  refine qs 51 [] [2,5,12,13,14,15] [(1,0),(5,0)] h fun ac wd h => ?_
  refine wp_seq ?_
  rcases i2 hL345 with ⟨hb347,hL345⟩ | ⟨hb347,hL345⟩
  ·
   refine kT h ?_
   refine wp_skip ?_
   change Code.wp Try.prog _ _ _ _
   obtain ⟨e360,hE361,hL345⟩ := Option.bind_eq_some_iff.1 hL345
   refine r_seqJ (fun ac wd => ∃ (l359 : List Int),l359 = e360 ∧ SL ⟨wb,S,Φ,P0⟩ 31 68 [(2,.one (.ptr (1,0) 0)),(5,.one (.own (5,0) l359.length)),(12,.one (.d (.sl (List.map eTStep a1)))),(13,.one (.d (.int .i64 (a1.length : Int)))),(14,.one (.d (.int .i64 n343)))] [((1,0),some (.box 25 (cTGraph a0))),((5,0),some (.row 3 1 (dat (List.map eI l359))))] ac wd) ?_ ?_
   ·
    refine wp_block ?_
    obtain ⟨x364,hx365a,hx365b,hx365c,hx365d,hE361⟩ := aB hE361
    refine qs 55 [] [2,5,7,12,13,14] [(1,0),(5,0),(53,0)] h fun ac wd h => ?_
    obtain ⟨r368,hc369,hE361⟩ := oB hE361
    have hc369k := L_cut_Where_ok hc369
    refine qs 59 [factE 57 hc369k] [2,5,8,12,13,14] [(1,0),(5,0)] h fun ac wd h => ?_
    refine qs 61 [] [2,5,8,12,13,14,22] [(1,0),(5,0)] h fun ac wd h => ?_
    rcases i2 hE361 with ⟨hb370,hE361⟩ | ⟨hb370,hE361⟩
    ·
     refine kT h ?_
     obtain ⟨x371,hx372a,hx372b,hx372c,hx372d,hE361⟩ := aB hE361
     refine qe [] [2,5,12,13,14] [(1,0),(5,0)] h fun ac wd h => ?_
     injection hE361 with hE361; subst hE361
     exact ⟨(l344.set r368.toNat (IntKind.wrap .i64 (x371 + 1))),rfl,h.z⟩
    ·
     refine kF h ?_
     refine wp_skip ?_
     injection hE361 with hE361; subst hE361
     exact ⟨l344,rfl,h.z⟩
   ·
    rintro ac wd ⟨l359,rfl,h⟩
    (try dsimp only at hL345)
    refine qe [] [2,5,12,13,14] [(1,0),(5,0)] h fun ac wd h => ?_
    exact ⟨nf,Nat.lt_succ_self nf,(IntKind.wrap .i64 (n343 + 1)),l359,hL345,h.z⟩
  ·
   refine kF h ?_
   refine wp_exit ?_
   change Code.wp Try.prog _ _ _ _
   refine qs 53 [] [4] [(5,0)] h fun ac wd h => ?_
   refine wp_ret ?_
   have h := h.sw (1,0) (5,0) 53
   injection hL345 with hL345
   subst hL345
   exact rO h [.tmp 4] [(1,0)]
theorem L_cut_Counts_ok {a0 : TGraph} {a1 : (List TStep)} {r : (List Int)} (hD : L_cut_Counts a0 a1 = some r) :
  CallH Try.prog 39 [.agg (cTGraph a0),.one (.d (.sl (List.map eTStep a1)))] []
   (.one (.d (.sl (List.map eI r)))) [] :=
 (L_cut_Counts_own hD).fr

theorem L_ref01_Ints_ok {a0 : (List Int)} {a1 : (List Int)} {r : Bool} (hD : L_ref01_Ints a0 a1 = some r) :
  CallH Try.prog 28 [.one (.d (.sl (List.map eI a0))),.one (.d (.sl (List.map eI a1)))] []
   (.one (.d (.bool r))) [] := by
 unfold L_ref01_Ints at hD
 refine rc Try.func28 rfl Try.ntmps28 fun S Φ P0 wb ac h => ?_
 refine qs 2 [] [0,1] [] h fun ac wd h => ?_
 refine wp_seq ?_
 refine qs 7 [] [0,1,10] [] h fun ac wd h => ?_
 rcases i2e hD with ⟨hb131,hD⟩ | ⟨hb131,hD⟩
 ·
  refine kF h ?_
  refine wp_skip ?_
  change Code.wp Try.prog _ _ _ _
  refine wp_seq ?_
  refine qs 8 [] [0,1,5] [] h fun ac wd h => ?_
  refine wp_block ?_
  refine r_while (fun nf ac wd => ∃ (n235 : Int),L_ref01_Ints_l1 a0 a1 nf n235 = some r ∧ SL ⟨wb,S,Φ,P0⟩ 26 40 [(0,.one (.d (.sl (List.map eI a0)))),(1,.one (.d (.sl (List.map eI a1)))),(5,.one (.d (.int .i64 n235)))] [] ac wd) (((a0.length : Int) - 0).toNat + 1) ⟨0,hD,h.z⟩ (fun nf ac wd hJ => ?_)
  obtain ⟨n235,hL236,h⟩ := hJ
  cases nf with
  | zero => rw [L_ref01_Ints_l1] at hL236; cases hL236
  | succ nf =>
   rw [L_ref01_Ints_l1] at hL236
   refine wp_seq ?_
   refine qs 44 [] [0,1,5,14] [] h fun ac wd h => ?_
   rcases i2 hL236 with ⟨hb238,hL236⟩ | ⟨hb238,hL236⟩
   ·
    refine kT h ?_
    refine wp_skip ?_
    change Code.wp Try.prog _ _ _ _
    refine wp_seq ?_
    refine wp_block ?_
    obtain ⟨x252,hx253a,hx253b,hx253c,hx253d,hL236⟩ := aB hL236
    obtain ⟨x254,hx255a,hx255b,hx255c,hx255d,hL236⟩ := aB hL236
    refine ds 53 [] [0,1,5,25] [] h fun ac wd h => ?_
    rcases i2e hL236 with ⟨hb256,hL236⟩ | ⟨hb256,hL236⟩
    ·
     refine kF h ?_
     refine wp_skip ?_
     change Code.wp Try.prog _ _ _ _
     refine qe [] [0,1,5] [] h fun ac wd h => ?_
     exact ⟨nf,Nat.lt_succ_self nf,(IntKind.wrap .i64 (n235 + 1)),hL236,h.z⟩
    ·
     refine kT h ?_
     refine qs 54 [] [4] [] h fun ac wd h => ?_
     refine wp_ret ?_
     injection hL236 with hL236
     subst hL236
     exact rE h [.tmp 4]
   ·
    refine kF h ?_
    refine wp_exit ?_
    change Code.wp Try.prog _ _ _ _
    refine qs 45 [] [4] [] h fun ac wd h => ?_
    refine wp_ret ?_
    injection hL236 with hL236
    subst hL236
    exact rE h [.tmp 4]
 ·
  refine kT h ?_
  refine qs 8 [] [4] [] h fun ac wd h => ?_
  refine wp_ret ?_
  injection hD with hD
  subst hD
  exact rE h [.tmp 4]

theorem L_law05_Step_ok {a0 : TStep} {r : TStep} (hD : L_law05_Step a0 = some r) :
  CallH Try.prog 88 [.agg (cTStep a0)] []
   (.agg [.d (.int .i64 r.Kind),.d (.int .i64 r.Node),.d (.int .i64 r.K),.d (.int .i64 r.Link),.d (.int .i64 r.Seq)]) [] := by
 unfold L_law05_Step at hD
 refine rc Try.func88 rfl Try.ntmps88 fun S Φ P0 wb ac h => ?_
 refine qs 3 [] [1,2] [(1,0),(2,0)] h fun ac wd h => ?_
 refine qs 15 [] [2] [(2,0)] h fun ac wd h => ?_
 refine wp_ret ?_
 injection hD with hD
 subst hD
 exact rE h [.cell 2 175]

theorem L_law05_Steps_own {a0 : (List TStep)} {r : (List TStep)} (hD : L_law05_Steps a0 = some r) :
  CallH Try.prog 42 [.one (.d (.sl (List.map eTStep a0)))] []
   (.one (.own (1,0) r.length)) [((1,0),some (.row 175 5 (dat (List.map eTStep r))))] := by
 unfold L_law05_Steps at hD
 refine rc Try.func42 rfl Try.ntmps42 fun S Φ P0 wb ac h => ?_
 refine qs 2 [] [0] [] h fun ac wd h => ?_
 refine qs 4 [] [0,3] [(2,0)] h fun ac wd h => ?_
 refine wp_seq ?_
 refine qs 5 [] [0,3,4] [(2,0)] h fun ac wd h => ?_
 refine wp_block ?_
 refine r_while (fun nf ac wd => ∃ (n142 : Int) (l143 : List TStep),L_law05_Steps_l1 a0 nf n142 l143 = some r ∧ SL ⟨wb,S,Φ,P0⟩ 21 37 [(0,.one (.d (.sl (List.map eTStep a0)))),(3,.one (.own (2,0) l143.length)),(4,.one (.d (.int .i64 n142)))] [((2,0),some (.row 175 5 (dat (List.map eTStep l143))))] ac wd) (((a0.length : Int) - 0).toNat + 1) ⟨0,([] : List TStep),hD,h.z⟩ (fun nf ac wd hJ => ?_)
 obtain ⟨n142,l143,hL144,h⟩ := hJ
 cases nf with
 | zero => rw [L_law05_Steps_l1] at hL144; cases hL144
 | succ nf =>
  rw [L_law05_Steps_l1] at hL144
  refine wp_seq ?_
  refine qs 41 [] [0,3,4,9] [(2,0)] h fun ac wd h => ?_
  rcases i2 hL144 with ⟨hb146,hL144⟩ | ⟨hb146,hL144⟩
  ·
   refine kT h ?_
   refine wp_skip ?_
   change Code.wp Try.prog _ _ _ _
   refine wp_seq ?_
   refine wp_block ?_
   obtain ⟨x152,hx153a,hx153b,hx153c,hx153d,hL144⟩ := aB hL144
   obtain ⟨r154,hc155,hL144⟩ := oB hL144
   obtain ⟨ha156,hL144⟩ := iT hL144
   have hc155k := L_law05_Step_ok hc155
   refine qe [factE 46 hc155k] [0,3,4] [(48,0)] h fun ac wd h => ?_
   change Code.wp Try.prog _ _ _ _
   refine qe [] [0,3,4] [(48,0)] h fun ac wd h => ?_
   have h := h.sw (2,0) (48,0) 53
   exact ⟨nf,Nat.lt_succ_self nf,(IntKind.wrap .i64 (n142 + 1)),(l143 ++ [r154]),hL144,h.z⟩
  ·
   refine kF h ?_
   refine wp_exit ?_
   change Code.wp Try.prog _ _ _ _
   refine qs 43 [] [2] [(2,0)] h fun ac wd h => ?_
   refine wp_ret ?_
   have h := h.sw (1,0) (2,0) 43
   injection hL144 with hL144
   subst hL144
   exact rO h [.tmp 2] [(1,0)]
theorem L_law05_Steps_ok {a0 : (List TStep)} {r : (List TStep)} (hD : L_law05_Steps a0 = some r) :
  CallH Try.prog 42 [.one (.d (.sl (List.map eTStep a0)))] []
   (.one (.d (.sl (List.map eTStep r)))) [] :=
 (L_law05_Steps_own hD).fr

theorem L_ref05_Steps_ok {a0 : (List TStep)} {a1 : (List TStep)} {r : Bool} (hD : L_ref05_Steps a0 a1 = some r) :
  CallH Try.prog 43 [.one (.d (.sl (List.map eTStep a0))),.one (.d (.sl (List.map eTStep a1)))] []
   (.one (.d (.bool r))) [] := by
 unfold L_ref05_Steps at hD
 refine rc Try.func43 rfl Try.ntmps43 fun S Φ P0 wb ac h => ?_
 refine qs 2 [] [0,1] [] h fun ac wd h => ?_
 refine wp_seq ?_
 refine qs 7 [] [0,1,10] [] h fun ac wd h => ?_
 rcases i2e hD with ⟨hb155,hD⟩ | ⟨hb155,hD⟩
 ·
  refine kF h ?_
  refine wp_skip ?_
  change Code.wp Try.prog _ _ _ _
  refine wp_seq ?_
  refine qs 8 [] [0,1,5] [] h fun ac wd h => ?_
  refine wp_block ?_
  refine r_while (fun nf ac wd => ∃ (n279 : Int),L_ref05_Steps_l1 a0 a1 nf n279 = some r ∧ SL ⟨wb,S,Φ,P0⟩ 26 40 [(0,.one (.d (.sl (List.map eTStep a0)))),(1,.one (.d (.sl (List.map eTStep a1)))),(5,.one (.d (.int .i64 n279)))] [] ac wd) (((a0.length : Int) - 0).toNat + 1) ⟨0,hD,h.z⟩ (fun nf ac wd hJ => ?_)
  obtain ⟨n279,hL280,h⟩ := hJ
  cases nf with
  | zero => rw [L_ref05_Steps_l1] at hL280; cases hL280
  | succ nf =>
   rw [L_ref05_Steps_l1] at hL280
   refine wp_seq ?_
   refine qs 44 [] [0,1,5,14] [] h fun ac wd h => ?_
   rcases i2 hL280 with ⟨hb282,hL280⟩ | ⟨hb282,hL280⟩
   ·
    refine kT h ?_
    refine wp_skip ?_
    change Code.wp Try.prog _ _ _ _
    refine wp_seq ?_
    refine wp_block ?_
    obtain ⟨x299,hx300a,hx300b,hx300c,hx300d,hL280⟩ := aB hL280
    obtain ⟨x301,hx302a,hx302b,hx302c,hx302d,hL280⟩ := aB hL280
    have hz303 := eq_TStep_vv x299 x301
    refine ds 53 [] [0,1,5,25] [] h fun ac wd h => ?_
    rcases i2e hL280 with ⟨hb304,hL280⟩ | ⟨hb304,hL280⟩
    ·
     refine kF h ?_
     refine wp_skip ?_
     change Code.wp Try.prog _ _ _ _
     refine qe [] [0,1,5] [] h fun ac wd h => ?_
     exact ⟨nf,Nat.lt_succ_self nf,(IntKind.wrap .i64 (n279 + 1)),hL280,h.z⟩
    ·
     refine kT h ?_
     refine qs 54 [] [4] [] h fun ac wd h => ?_
     refine wp_ret ?_
     injection hL280 with hL280
     subst hL280
     exact rE h [.tmp 4]
   ·
    refine kF h ?_
    refine wp_exit ?_
    change Code.wp Try.prog _ _ _ _
    refine qs 45 [] [4] [] h fun ac wd h => ?_
    refine wp_ret ?_
    injection hL280 with hL280
    subst hL280
    exact rE h [.tmp 4]
 ·
  refine kT h ?_
  refine qs 8 [] [4] [] h fun ac wd h => ?_
  refine wp_ret ?_
  injection hD with hD
  subst hD
  exact rE h [.tmp 4]

theorem L_table_at_ok {a0 : (List TNode)} {a1 : Int} {a2 : Int} {r : TState × Bool} (hD : L_table_at a0 a1 a2 = some r) :
  CallH Try.prog 105 [.one (.d (.sl (List.map eTNode a0))),.one (.d (.int .i64 a1)),.one (.d (.int .i64 a2))] []
   (.tup [.inl [.d (.int .i64 r.1.Mode),.d (.sl (List.map eI r.1.Waits)),.d (.sl (List.map eTPick r.1.Picks)),.d (.sl (List.map eTTake r.1.Takes))],.inr (.d (.bool r.2))]) [] := by
 unfold L_table_at at hD
 refine rc Try.func105 rfl Try.ntmps105 fun S Φ P0 wb ac h => ?_
 refine qs 3 [] [0,1,2,6] [(1,0)] h fun ac wd h => ?_
 refine wp_seq ?_
 obtain ⟨e30,hE31,hD⟩ := Option.bind_eq_some_iff.1 hD
 refine r_seqJ (fun ac wd => ∃ (b29 : Bool),b29 = e30 ∧ SL ⟨wb,S,Φ,P0⟩ 39 25 [(0,.one (.d (.sl (List.map eTNode a0)))),(1,.one (.d (.int .i64 a1))),(2,.one (.d (.int .i64 a2))),(6,.one (.ptr (1,0) 0)),(29,.one (.d (.bool b29)))] [((1,0),some (.box 43 [.d (.int .i64 0),.nil,.nil,.nil]))] ac wd) ?_ ?_
 ·
  rcases i2 hE31 with ⟨hb32,hE31⟩ | ⟨hb32,hE31⟩
  ·
   refine qeg [] [none,none,none,some (some 10,false),some (some 10,false),some (some 10,false),some (some 10,false),none,none,some (some 16,false),some (some 16,false),none,none,some (some 20,false),some (some 20,false),some (some 20,false),some (some 20,false),some (some 20,false),some (some 20,false),some (some 20,false),some (some 20,false),none] [0,1,2,6,29] [(1,0)] h fun ac wd h => ?_
   injection hE31 with hE31; subst hE31
   exact ⟨true,rfl,h.z⟩
  ·
   rcases i2 hE31 with ⟨hb33,hE31⟩ | ⟨hb33,hE31⟩
   ·
    refine qeg [] [none,none,none,some (some 10,false),some (some 10,false),some (some 10,false),some (some 10,false),none,none,some (some 16,false),some (some 16,false),none,none,some (some 20,false),some (some 20,false),some (some 20,false),some (some 20,false),some (some 20,false),some (some 20,false),some (some 20,false),some (some 20,false),none] [0,1,2,6,29] [(1,0)] h fun ac wd h => ?_
    injection hE31 with hE31; subst hE31
    exact ⟨true,rfl,h.z⟩
   ·
    rcases i2 hE31 with ⟨hb34,hE31⟩ | ⟨hb34,hE31⟩
    ·
     refine qeg [] [none,none,none,some (some 10,false),some (some 10,false),some (some 10,false),some (some 10,false),none,none,some (some 16,false),some (some 16,false),none,none,some (some 20,false),some (some 20,false),some (some 20,false),some (some 20,false),some (some 20,false),some (some 20,false),some (some 20,false),some (some 20,false),none] [0,1,2,6,29] [(1,0)] h fun ac wd h => ?_
     injection hE31 with hE31; subst hE31
     exact ⟨true,rfl,h.z⟩
    ·
     obtain ⟨x35,hx36a,hx36b,hx36c,hx36d,hE31⟩ := aB hE31
     refine qeg [] [none,none,none,some (some 10,false),some (some 10,false),some (some 10,false),some (some 10,false),none,none,some (some 16,false),some (some 16,false),none,none,some (some 20,false),some (some 20,false),some (some 20,false),some (some 20,false),some (some 20,false),some (some 20,false),some (some 20,false),some (some 20,false),none] [0,1,2,6,29] [(1,0)] h fun ac wd h => ?_
     injection hE31 with hE31; subst hE31
     exact ⟨decide (a2 ≥ (x35.States.length : Int)),rfl,h.z⟩
 ·
  rintro ac wd ⟨b29,rfl,h⟩
  (try dsimp only at hD)
  rcases i2b hD with ⟨hb38,hD⟩ | ⟨hb38,hD⟩
  ·
   refine kT h ?_
   refine qs 28 [] [6,7] [(1,0)] h fun ac wd h => ?_
   refine wp_ret ?_
   injection hD with hD
   subst hD
   exact rE h [.cell 6 43,.tmp 7]
  ·
   refine kF h ?_
   refine wp_skip ?_
   change Code.wp Try.prog _ _ _ _
   obtain ⟨x43,hx44a,hx44b,hx44c,hx44d,hD⟩ := aB hD
   obtain ⟨x45,hx46a,hx46b,hx46c,hx46d,hD⟩ := aB hD
   refine qs 35 [] [6,7] [(1,0)] h fun ac wd h => ?_
   refine wp_ret ?_
   injection hD with hD
   subst hD
   exact rE h [.cell 6 43,.tmp 7]

theorem L_table_Mode_ok {a0 : (List TNode)} {a1 : Int} {a2 : Int} {r : Int} (hD : L_table_Mode a0 a1 a2 = some r) :
  CallH Try.prog 60 [.one (.d (.sl (List.map eTNode a0))),.one (.d (.int .i64 a1)),.one (.d (.int .i64 a2))] []
   (.one (.d (.int .i64 r))) [] := by
 unfold L_table_Mode at hD
 refine rc Try.func60 rfl Try.ntmps60 fun S Φ P0 wb ac h => ?_
 refine qs 2 [] [0,1,2] [] h fun ac wd h => ?_
 obtain ⟨r7,hc8,hD⟩ := oB hD
 have hc8k := L_table_at_ok hc8
 refine qs 12 [factE 5 hc8k] [7] [(9,0)] h fun ac wd h => ?_
 refine qs 15 [] [6] [] h fun ac wd h => ?_
 refine wp_ret ?_
 injection hD with hD
 subst hD
 exact rE h [.tmp 6]

theorem L_slices_Clone_table_Send_table_Send_own {a0 : (List TSend)} {r : (List TSend)} (hD : L_slices_Clone_table_Send_table_Send a0 = some r) :
  CallH Try.prog 106 [.one (.d (.sl (List.map eTSend a0)))] []
   (.one (.own (1,0) r.length)) [((1,0),some (.row 50 2 (dat (List.map eTSend r))))] := by
 unfold L_slices_Clone_table_Send_table_Send at hD
 refine rc Try.func106 rfl Try.ntmps106 fun S Φ P0 wb ac h => ?_
 refine qs 2 [] [0] [] h fun ac wd h => ?_
 refine wp_seq ?_
 refine qs 4 [] [0,4] [] h fun ac wd h => ?_
 refine r_condB h (by simp only [EZ,simprocAttr, *] <;> rfl) (fun hn6 => ?_) (fun hn6 => ?_)
 ·
  have hn6 := hn6 rfl
  obtain rfl : a0 = [] := List.eq_nil_of_length_eq_zero (by simpa using hn6)
  have hD : (some []) = some r := by simpa using hD
  refine qs 5 [] [2] [] h fun ac wd h => ?_
  refine wp_ret ?_
  have h := SL.bornS h 2 50 2 (by simp only [EZ,simprocAttr, *] <;> rfl)
  have h := h.sw (1,0) (5,0) 6
  injection hD with hD
  subst hD
  exact rO h [.tmp 2] [(1,0)]
 ·
  refine wp_skip ?_
  change Code.wp Try.prog _ _ _ _
  obtain ⟨ha8,hD⟩ := iT hD
  refine qs 8 [] [2] [(6,0)] h fun ac wd h => ?_
  refine wp_ret ?_
  have h := h.sw (1,0) (6,0) 8
  injection hD with hD
  subst hD
  exact rO h [.tmp 2] [(1,0)]
theorem L_slices_Clone_table_Send_table_Send_ok {a0 : (List TSend)} {r : (List TSend)} (hD : L_slices_Clone_table_Send_table_Send a0 = some r) :
  CallH Try.prog 106 [.one (.d (.sl (List.map eTSend a0)))] []
   (.one (.d (.sl (List.map eTSend r)))) [] :=
 (L_slices_Clone_table_Send_table_Send_own hD).fr

theorem L_table_Picked_own {a0 : (List TNode)} {a1 : Int} {a2 : Int} {a3 : Int} {r : TPick × Bool} (hD : L_table_Picked a0 a1 a2 a3 = some r) :
  CallH Try.prog 59 [.one (.d (.sl (List.map eTNode a0))),.one (.d (.int .i64 a1)),.one (.d (.int .i64 a2)),.one (.d (.int .i64 a3))] []
   (.tup [.inl [.d (.int .i64 r.1.Next),.own (1,0) r.1.Sends.length],.inr (.d (.bool r.2))]) [((1,0),some (.row 50 2 (dat (List.map eTSend r.1.Sends))))] := by
 unfold L_table_Picked at hD
 refine rc Try.func59 rfl Try.ntmps59 fun S Φ P0 wb ac h => ?_
 refine qs 3 [] [0,1,2,3,8] [(1,0)] h fun ac wd h => ?_
 obtain ⟨r22,hc23,hD⟩ := oB hD
 have hc23k := L_table_at_ok hc23
 refine qs 13 [factE 6 hc23k] [3,8,10] [(1,0),(10,0)] h fun ac wd h => ?_
 refine wp_seq ?_
 obtain ⟨e26,hE27,hD⟩ := Option.bind_eq_some_iff.1 hD
 refine r_seqJ (fun ac wd => ∃ (b25 : Bool),b25 = e26 ∧ SL ⟨wb,S,Φ,P0⟩ 43 22 [(3,.one (.d (.int .i64 a3))),(8,.one (.ptr (1,0) 0)),(10,.one (.ptr (10,0) 0)),(27,.one (.d (.bool b25)))] [((1,0),some (.box 46 [.d (.int .i64 0),.nil])),((10,0),some (.box 43 [.d (.int .i64 r22.1.Mode),.d (.sl (List.map eI r22.1.Waits)),.d (.sl (List.map eTPick r22.1.Picks)),.d (.sl (List.map eTTake r22.1.Takes))]))] ac wd) ?_ ?_
 ·
  rcases i2 hE27 with ⟨hb28,hE27⟩ | ⟨hb28,hE27⟩
  ·
   refine qeg [] [none,none,none,some (some 21,false),some (some 21,false),some (some 21,false),some (some 21,false),some (some 21,false),none] [3,8,10,27] [(1,0),(10,0)] h fun ac wd h => ?_
   injection hE27 with hE27; subst hE27
   exact ⟨true,rfl,h.z⟩
  ·
   refine qeg [] [none,none,none,some (some 21,false),some (some 21,false),some (some 21,false),some (some 21,false),some (some 21,false),none] [3,8,10,27] [(1,0),(10,0)] h fun ac wd h => ?_
   injection hE27 with hE27; subst hE27
   exact ⟨decide (a3 ≥ (r22.1.Picks.length : Int)),rfl,h.z⟩
 ·
  rintro ac wd ⟨b25,rfl,h⟩
  (try dsimp only at hD)
  rcases i2b hD with ⟨hb30,hD⟩ | ⟨hb30,hD⟩
  ·
   refine kT h ?_
   refine qs 25 [] [8,9] [(1,0)] h fun ac wd h => ?_
   refine wp_ret ?_
   have h := SL.bornB h (1,0) 1 50 2 (by simp only [EZ,simprocAttr, *] <;> rfl) (by simp only [EZ,simprocAttr, *] <;> rfl)
   have h := h.sw (1,0) (25,0) 26
   injection hD with hD
   subst hD
   exact rO h [.cell 8 46,.tmp 9] [(1,0)]
  ·
   refine kF h ?_
   refine wp_skip ?_
   change Code.wp Try.prog _ _ _ _
   obtain ⟨x35,hx36a,hx36b,hx36c,hx36d,hD⟩ := aB hD
   obtain ⟨r37,hc38,hD⟩ := oB hD
   have hc38_34 := ((L_slices_Clone_table_Send_table_Send_own hc38).cls 34).z
   refine ds 38 [factO hc38_34] [8,9] [(1,0),(34,0)] h fun ac wd h => ?_
   refine wp_ret ?_
   have h := h.sw (1,0) (34,0) 38
   injection hD with hD
   subst hD
   exact rO h [.cell 8 46,.tmp 9] [(1,0)]
theorem L_table_Picked_ok {a0 : (List TNode)} {a1 : Int} {a2 : Int} {a3 : Int} {r : TPick × Bool} (hD : L_table_Picked a0 a1 a2 a3 = some r) :
  CallH Try.prog 59 [.one (.d (.sl (List.map eTNode a0))),.one (.d (.int .i64 a1)),.one (.d (.int .i64 a2)),.one (.d (.int .i64 a3))] []
   (.tup [.inl [.d (.int .i64 r.1.Next),.d (.sl (List.map eTSend r.1.Sends))],.inr (.d (.bool r.2))]) [] :=
 (L_table_Picked_own hD).fr

theorem L_slices_Clone_api_Msg_api_Msg_own {a0 : (List TMsg)} {r : (List TMsg)} (hD : L_slices_Clone_api_Msg_api_Msg a0 = some r) :
  CallH Try.prog 121 [.one (.d (.sl (List.map eTMsg a0)))] []
   (.one (.own (1,0) r.length)) [((1,0),some (.row 59 2 (dat (List.map eTMsg r))))] := by
 unfold L_slices_Clone_api_Msg_api_Msg at hD
 refine rc Try.func121 rfl Try.ntmps121 fun S Φ P0 wb ac h => ?_
 refine qs 2 [] [0] [] h fun ac wd h => ?_
 refine wp_seq ?_
 refine qs 4 [] [0,4] [] h fun ac wd h => ?_
 refine r_condB h (by simp only [EZ,simprocAttr, *] <;> rfl) (fun hn6 => ?_) (fun hn6 => ?_)
 ·
  have hn6 := hn6 rfl
  obtain rfl : a0 = [] := List.eq_nil_of_length_eq_zero (by simpa using hn6)
  have hD : (some []) = some r := by simpa using hD
  refine qs 5 [] [2] [] h fun ac wd h => ?_
  refine wp_ret ?_
  have h := SL.bornS h 2 59 2 (by simp only [EZ,simprocAttr, *] <;> rfl)
  have h := h.sw (1,0) (5,0) 6
  injection hD with hD
  subst hD
  exact rO h [.tmp 2] [(1,0)]
 ·
  refine wp_skip ?_
  change Code.wp Try.prog _ _ _ _
  obtain ⟨ha8,hD⟩ := iT hD
  refine qs 8 [] [2] [(6,0)] h fun ac wd h => ?_
  refine wp_ret ?_
  have h := h.sw (1,0) (6,0) 8
  injection hD with hD
  subst hD
  exact rO h [.tmp 2] [(1,0)]
theorem L_slices_Clone_api_Msg_api_Msg_ok {a0 : (List TMsg)} {r : (List TMsg)} (hD : L_slices_Clone_api_Msg_api_Msg a0 = some r) :
  CallH Try.prog 121 [.one (.d (.sl (List.map eTMsg a0)))] []
   (.one (.d (.sl (List.map eTMsg r)))) [] :=
 (L_slices_Clone_api_Msg_api_Msg_own hD).fr

theorem L_plain_own_own {a0 : TConf} {r : TConf} (hD : L_plain_own a0 = some r) :
  CallH Try.prog 93 [.agg (cTConf a0)] []
   (.agg [.own (1,0) r.States.length,.own (1,1) r.Links.length,.own (1,2) r.Sent.length]) [((1,0),some (.row 3 1 (dat (List.map eI r.States)))),((1,1),some (.row 170 1 (openRows cols_170 (List.map (eL eTMsg) r.Links)))),((1,2),some (.row 3 1 (dat (List.map eI r.Sent))))] := by
 unfold L_plain_own at hD
 refine rc Try.func93 rfl Try.ntmps93 fun S Φ P0 wb ac h => ?_
 refine qs 3 [] [1,2] [(1,0),(2,0)] h fun ac wd h => ?_
 obtain ⟨ha158,hD⟩ := iT hD
 obtain ⟨ha159,hD⟩ := iT hD
 obtain ⟨ha160,hD⟩ := iT hD
 obtain ⟨ha161,hD⟩ := iT hD
 obtain ⟨ha162,hD⟩ := iT hD
 obtain ⟨ha163,hD⟩ := iT hD
 refine ds 18 [] [1,2,3] [(1,0),(2,0),(6,0),(10,0),(14,0),(16,0)] h fun ac wd h => ?_
 have h := h.nilTr (10,0) (l := List.replicate a0.Links.length [.nil]) (l' := List.replicate a0.Links.length [.tr (.sl 59 2 (fun _ => .sc)) (.sl (List.map eTMsg []))]) (by simp only [EZ,simprocAttr, *] <;> rfl) (RowsTo.rep (RowTo.cons (.inr (.inr ⟨rfl,_,_,_,rfl⟩)) RowTo.nil) _)
 have h := h.sm 18 [(1,.one (.ptr (1,0) 0)),(2,.one (.ptr (2,0) 0)),(3,.one (.ptr (16,0) 0))]
  [((1,0),some (.box 104 (cTConf a0))),((2,0),some (.box 104 [.nil,.nil,.nil])),((6,0),some (.row 3 1 (dat (List.map eI (List.replicate a0.States.length 0))))),((10,0),some (.row 170 1 (List.replicate a0.Links.length [.tr (.sl 59 2 (fun _ => .sc)) (.sl (List.map eTMsg []))]))),((14,0),some (.row 3 1 (dat (List.map eI (List.replicate a0.Sent.length 0))))),((16,0),some (.box 104 [.own (6,0) a0.States.length,.own (10,0) a0.Links.length,.own (14,0) a0.Sent.length]))]
 obtain ⟨v167,hv168,hD⟩ := vB hD
 have h := h.same [1,2,3] [(1,0),(2,0),(6,0),(10,0),(14,0),(16,0)] 18 [(1,.one (.ptr (1,0) 0)),(2,.one (.ptr (2,0) 0)),(3,.one (.ptr (16,0) 0))]
  [((1,0),some (.box 104 (cTConf a0))),((2,0),some (.box 104 [.nil,.nil,.nil])),((6,0),some (.row 3 1 (dat (List.map eI v167)))),((10,0),some (.row 170 1 (openRows cols_170 (List.map (eL eTMsg) (List.replicate a0.Links.length []))))),((14,0),some (.row 3 1 (dat (List.map eI (List.replicate a0.Sent.length 0))))),((16,0),some (.box 104 [.own (6,0) v167.length,.own (10,0) a0.Links.length,.own (14,0) a0.Sent.length]))]
  (by simp only [EZ,simprocAttr,ha158,ha159,ha160,ha161,ha162,ha163,dat_open,← hv168] <;> rfl)
 have hl169 : ((a0.States.take v167.length) ++ v167.drop (a0.States.take v167.length).length).length = v167.length := by simp only [List.append_assoc,List.length_append,List.length_take,List.length_drop]; omega
 simp only [List.append_assoc,List.length_append,List.length_take,List.length_drop] at hl169
 refine qs 23 [] [1,2,3] [(1,0),(2,0),(6,0),(10,0),(14,0),(16,0)] h fun ac wd h => ?_
 obtain ⟨v173,hv174,hD⟩ := vB hD
 have h := h.same [1,2,3] [(1,0),(2,0),(6,0),(10,0),(14,0),(16,0)] 23 [(1,.one (.ptr (1,0) 0)),(2,.one (.ptr (2,0) 0)),(3,.one (.ptr (16,0) 0))]
  [((1,0),some (.box 104 (cTConf a0))),((2,0),some (.box 104 [.nil,.nil,.nil])),((6,0),some (.row 3 1 (dat (List.map eI ((a0.States.take v167.length) ++ v167.drop (a0.States.take v167.length).length))))),((10,0),some (.row 170 1 (openRows cols_170 (List.map (eL eTMsg) (List.replicate a0.Links.length []))))),((14,0),some (.row 3 1 (dat (List.map eI v173)))),((16,0),some (.box 104 [.own (6,0) ((min v167.length a0.States.length) + (v167.length - ((a0.States.take v167.length).length))),.own (10,0) a0.Links.length,.own (14,0) v173.length]))]
  (by simp only [EZ,simprocAttr,ha158,ha159,ha160,ha161,ha162,ha163,hl169,dat_open,← hv174] <;> rfl)
 have hl175 : ((a0.Sent.take v173.length) ++ v173.drop (a0.Sent.take v173.length).length).length = v173.length := by simp only [List.append_assoc,List.length_append,List.length_take,List.length_drop]; omega
 simp only [List.append_assoc,List.length_append,List.length_take,List.length_drop] at hl175
 refine qs 28 [] [1,2,3] [(1,0),(2,0),(6,0),(10,0),(14,0),(16,0)] h fun ac wd h => ?_
 refine wp_seq ?_
 refine qs 32 [] [2,3,30,31,32] [(2,0),(6,0),(10,0),(14,0),(16,0)] h fun ac wd h => ?_
 refine wp_block ?_
 refine r_while (fun nf ac wd => ∃ (n280 : Int) (l281 : List (List TMsg)),L_plain_own_l1 a0 v167 v173 nf n280 l281 = some r ∧ SL ⟨wb,S,Φ,P0⟩ 45 62 [(2,.one (.ptr (2,0) 0)),(3,.one (.ptr (16,0) 0)),(30,.one (.d (.sl (List.map (eL eTMsg) a0.Links)))),(31,.one (.d (.int .i64 (a0.Links.length : Int)))),(32,.one (.d (.int .i64 n280)))] [((2,0),some (.box 104 [.nil,.nil,.nil])),((6,0),some (.row 3 1 (dat (List.map eI ((a0.States.take v167.length) ++ v167.drop (a0.States.take v167.length).length))))),((10,0),some (.row 170 1 (openRows cols_170 (List.map (eL eTMsg) l281)))),((14,0),some (.row 3 1 (dat (List.map eI ((a0.Sent.take v173.length) ++ v173.drop (a0.Sent.take v173.length).length))))),((16,0),some (.box 104 [.own (6,0) ((min v167.length a0.States.length) + (v167.length - ((a0.States.take v167.length).length))),.own (10,0) l281.length,.own (14,0) ((min v173.length a0.Sent.length) + (v173.length - ((a0.Sent.take v173.length).length)))]))] ac wd) (((a0.Links.length : Int) - 0).toNat + 1) ⟨0,((List.replicate a0.Links.length []) : List (List TMsg)),hD,h.z⟩ (fun nf ac wd hJ => ?_)
 obtain ⟨n280,l281,hL282,h⟩ := hJ
 cases nf with
 | zero => rw [L_plain_own_l1] at hL282; cases hL282
 | succ nf =>
  rw [L_plain_own_l1] at hL282
  refine qs 63 [] [2,3,30,31,32,33] [(2,0),(6,0),(10,0),(14,0),(16,0)] h fun ac wd h => ?_
  refine wp_seq ?_
  rcases i2 hL282 with ⟨hb284,hL282⟩ | ⟨hb284,hL282⟩
  ·
   refine kT h ?_
   refine wp_skip ?_
   change Code.wp Try.prog _ _ _ _
   refine wp_seq ?_
   refine wp_block ?_
   obtain ⟨x295,hx296a,hx296b,hx296c,hx296d,hL282⟩ := aB hL282
   refine qs 68 [] [2,3,4,5,30,31,32] [(2,0),(6,0),(10,0),(14,0),(16,0)] h fun ac wd h => ?_
   obtain ⟨r297,hc298,hL282⟩ := oB hL282
   obtain ⟨x299,hx300a,hx300b,hx300c,hx300d,hL282⟩ := aB hL282
   have hc298_72 := ((L_slices_Clone_api_Msg_api_Msg_own hc298).cls 72).z
   refine de [factO hc298_72] [2,3,30,31,32] [(2,0),(6,0),(10,0),(14,0),(16,0),(72,0)] h fun ac wd h => ?_
   have h := h.fS (cols := (fun _ => .sc)) (10,0) (72,0) (openRows cols_170 (List.map (eL eTMsg) l281)) n280.toNat [.own (72,0) r297.length] 0 (List.map eTMsg r297) (sc_59 _)
   have h := h.sm 75 [(2,.one (.ptr (2,0) 0)),(3,.one (.ptr (16,0) 0)),(30,.one (.d (.sl (List.map (eL eTMsg) a0.Links)))),(31,.one (.d (.int .i64 (a0.Links.length : Int)))),(32,.one (.d (.int .i64 n280)))]
    [((2,0),some (.box 104 [.nil,.nil,.nil])),((6,0),some (.row 3 1 (dat (List.map eI ((a0.States.take v167.length) ++ v167.drop (a0.States.take v167.length).length))))),((10,0),some (.row 170 1 ((openRows cols_170 (List.map (eL eTMsg) l281)).set n280.toNat [.tr (.sl 59 2 (fun _ => .sc)) (.sl (List.map eTMsg r297))]))),((14,0),some (.row 3 1 (dat (List.map eI ((a0.Sent.take v173.length) ++ v173.drop (a0.Sent.take v173.length).length))))),((16,0),some (.box 104 [.own (6,0) ((min v167.length a0.States.length) + (v167.length - ((a0.States.take v167.length).length))),.own (10,0) l281.length,.own (14,0) ((min v173.length a0.Sent.length) + (v173.length - ((a0.Sent.take v173.length).length)))]))]
   change Code.wp Try.prog _ _ _ _
   refine qe [] [2,3,30,31,32] [(2,0),(6,0),(10,0),(14,0),(16,0)] h fun ac wd h => ?_
   exact ⟨nf,Nat.lt_succ_self nf,(IntKind.wrap .i64 (n280 + 1)),(l281.set n280.toNat r297),hL282,h.z⟩
  ·
   refine kF h ?_
   refine wp_exit ?_
   change Code.wp Try.prog _ _ _ _
   refine qs 65 [] [2] [(2,0),(6,0),(10,0),(14,0)] h fun ac wd h => ?_
   refine wp_ret ?_
   have h := h.sw (1,0) (6,0) 65
   have h := h.sw (1,1) (10,0) 65
   have h := h.sw (1,2) (14,0) 65
   injection hL282 with hL282
   subst hL282
   exact rO h [.cell 2 104] [(1,0),(1,1),(1,2)]
theorem L_plain_own_ok {a0 : TConf} {r : TConf} (hD : L_plain_own a0 = some r) :
  CallH Try.prog 93 [.agg (cTConf a0)] []
   (.agg [.d (.sl (List.map eI r.States)),.d (.sl (List.map (eL eTMsg) r.Links)),.d (.sl (List.map eI r.Sent))]) [] :=
 (L_plain_own_own hD).fr

theorem L_plain_App_pick_own {a0 : TApp} {a1 : TConf} {a2 : TStep} {r : TConf × Int} (hD : L_plain_App_pick a0 a1 a2 = some r) :
  CallH Try.prog 119 [.agg (cTApp a0),.agg (cTConf a1),.agg (cTStep a2)] []
   (.tup [.inl [.own (1,0) r.1.States.length,.own (1,1) r.1.Links.length,.own (1,2) r.1.Sent.length],.inr (.d (.int .i64 r.2))]) [((1,0),some (.row 3 1 (dat (List.map eI r.1.States)))),((1,1),some (.row 170 1 (openRows cols_170 (List.map (eL eTMsg) r.1.Links)))),((1,2),some (.row 3 1 (dat (List.map eI r.1.Sent))))] := by
 unfold L_plain_App_pick at hD
 refine rc Try.func119 rfl Try.ntmps119 fun S Φ P0 wb ac h => ?_
 refine qs 6 [] [3,4,5,6] [(1,0),(2,0),(3,0),(4,0)] h fun ac wd h => ?_
 refine wp_seq ?_
 obtain ⟨e315,hE316,hD⟩ := Option.bind_eq_some_iff.1 hD
 refine r_seqJ (fun ac wd => ∃ (b314 : Bool),b314 = e315 ∧ SL ⟨wb,S,Φ,P0⟩ 113 17 [(3,.one (.ptr (1,0) 0)),(4,.one (.ptr (2,0) 0)),(5,.one (.ptr (3,0) 0)),(6,.one (.ptr (4,0) 0)),(25,.one (.d (.bool b314)))] [((1,0),some (.box 53 (cTApp a0))),((2,0),some (.box 104 (cTConf a1))),((3,0),some (.box 125 (cTStep a2))),((4,0),some (.box 104 [.nil,.nil,.nil]))] ac wd) ?_ ?_
 ·
  rcases i2 hE316 with ⟨hb317,hE316⟩ | ⟨hb317,hE316⟩
  ·
   refine qeg [] [none,none,none,none,some (some 18,false),some (some 18,false),some (some 18,false),some (some 18,false),some (some 18,false),some (some 18,false),none] [3,4,5,6,25] [(1,0),(2,0),(3,0),(4,0)] h fun ac wd h => ?_
   injection hE316 with hE316; subst hE316
   exact ⟨true,rfl,h.z⟩
  ·
   refine qeg [] [none,none,none,none,some (some 18,false),some (some 18,false),some (some 18,false),some (some 18,false),some (some 18,false),some (some 18,false),none] [3,4,5,6,25] [(1,0),(2,0),(3,0),(4,0)] h fun ac wd h => ?_
   injection hE316 with hE316; subst hE316
   exact ⟨decide (a2.Node ≥ a0.G.N),rfl,h.z⟩
 ·
  rintro ac wd ⟨b314,rfl,h⟩
  (try dsimp only at hD)
  rcases i2b hD with ⟨hb319,hD⟩ | ⟨hb319,hD⟩
  ·
   refine kT h ?_
   refine qs 20 [] [6,7] [(4,0)] h fun ac wd h => ?_
   refine wp_ret ?_
   have h := SL.bornB h (4,0) 0 3 1 (by simp only [EZ,simprocAttr, *] <;> rfl) (by simp only [EZ,simprocAttr, *] <;> rfl)
   have h := SL.bornB h (4,0) 1 170 1 (by simp only [EZ,simprocAttr, *] <;> rfl) (by simp only [EZ,simprocAttr, *] <;> rfl)
   have h := SL.bornB h (4,0) 2 3 1 (by simp only [EZ,simprocAttr, *] <;> rfl) (by simp only [EZ,simprocAttr, *] <;> rfl)
   have h := h.sw (1,0) (20,0) 23
   have h := h.sw (1,1) (21,0) 23
   have h := h.sw (1,2) (22,0) 23
   injection hD with hD
   subst hD
   exact rO h [.cell 6 104,.tmp 7] [(1,0),(1,1),(1,2)]
  ·
   refine kF h ?_
   refine wp_skip ?_
   change Code.wp Try.prog _ _ _ _
   obtain ⟨x322,hx323a,hx323b,hx323c,hx323d,hD⟩ := aB hD
   refine qs 24 [] [3,4,5,6,8] [(1,0),(2,0),(3,0),(4,0)] h fun ac wd h => ?_
   refine wp_seq ?_
   obtain ⟨r326,hc327,hD⟩ := oB hD
   have hc327k := L_table_Mode_ok hc327
   refine qs 31 [factE 29 hc327k] [3,4,5,6,8,39] [(1,0),(2,0),(3,0),(4,0)] h fun ac wd h => ?_
   rcases i2e hD with ⟨hb329,hD⟩ | ⟨hb329,hD⟩
   ·
    refine kF h ?_
    refine wp_skip ?_
    change Code.wp Try.prog _ _ _ _
    obtain ⟨r332,hc333,hD⟩ := oB hD
    have hc333k := L_table_Picked_ok hc333
    refine qs 45 [factE 38 hc333k] [3,4,5,6,9,10] [(1,0),(2,0),(3,0),(4,0),(42,0)] h fun ac wd h => ?_
    refine wp_seq ?_
    refine qs 47 [] [3,4,5,6,9,53] [(1,0),(2,0),(3,0),(4,0),(42,0)] h fun ac wd h => ?_
    rcases i2b hD with ⟨hb335,hD⟩ | ⟨hb335,hD⟩
    ·
     refine kF h ?_
     refine wp_skip ?_
     change Code.wp Try.prog _ _ _ _
     obtain ⟨r338,hc339,hD⟩ := oB hD
     have hc339_48 := ((L_plain_own_own hc339).cls 48).z
     refine qs 51 [factO hc339_48] [3,5,6,9,11] [(1,0),(3,0),(4,0),(42,0),(48,0),(48,1),(48,2),(49,0)] h fun ac wd h => ?_
     obtain ⟨x342,hx343a,hx343b,hx343c,hx343d,hD⟩ := aB hD
     refine qs 59 [] [3,5,6,9,11] [(1,0),(3,0),(4,0),(42,0),(48,0),(48,1),(48,2),(49,0)] h fun ac wd h => ?_
     refine wp_seq ?_
     refine qs 63 [] [3,5,6,11,65,66,67] [(1,0),(3,0),(4,0),(48,0),(48,1),(48,2),(49,0)] h fun ac wd h => ?_
     refine wp_block ?_
     refine r_while (fun nf ac wd => ∃ (n573 : Int) (l574 : List (List TMsg)) (l575 : List Int),L_plain_App_pick_l1 a0 a2 r332 r338 nf n573 l574 l575 = some r ∧ SL ⟨wb,S,Φ,P0⟩ 113 163 [(3,.one (.ptr (1,0) 0)),(5,.one (.ptr (3,0) 0)),(6,.one (.ptr (4,0) 0)),(11,.one (.ptr (49,0) 0)),(65,.one (.d (.sl (List.map eTSend r332.1.Sends)))),(66,.one (.d (.int .i64 (r332.1.Sends.length : Int)))),(67,.one (.d (.int .i64 n573)))] [((1,0),some (.box 53 (cTApp a0))),((3,0),some (.box 125 (cTStep a2))),((4,0),some (.box 104 [.nil,.nil,.nil])),((48,0),some (.row 3 1 (dat (List.map eI (r338.States.set a2.Node.toNat r332.1.Next))))),((48,1),some (.row 170 1 (openRows cols_170 (List.map (eL eTMsg) l574)))),((48,2),some (.row 3 1 (dat (List.map eI l575)))),((49,0),some (.box 104 [.own (48,0) r338.States.length,.own (48,1) l574.length,.own (48,2) l575.length]))] ac wd) (((r332.1.Sends.length : Int) - 0).toNat + 1) ⟨0,r338.Links,r338.Sent,hD,h.z⟩ (fun nf ac wd hJ => ?_)
     obtain ⟨n573,l574,l575,hL576,h⟩ := hJ
     cases nf with
     | zero => rw [L_plain_App_pick_l1] at hL576; cases hL576
     | succ nf =>
      rw [L_plain_App_pick_l1] at hL576
      refine qs 164 [] [3,5,6,11,65,66,67,68] [(1,0),(3,0),(4,0),(48,0),(48,1),(48,2),(49,0)] h fun ac wd h => ?_
      refine wp_seq ?_
      rcases i2 hL576 with ⟨hb578,hL576⟩ | ⟨hb578,hL576⟩
      ·
       refine kT h ?_
       refine wp_skip ?_
       change Code.wp Try.prog _ _ _ _
       refine wp_seq ?_
       refine wp_block ?_
       obtain ⟨x602,hx603a,hx603b,hx603c,hx603d,hL576⟩ := aB hL576
       refine qs 168 [] [3,5,6,11,13,65,66,67] [(1,0),(3,0),(4,0),(48,0),(48,1),(48,2),(49,0),(166,0)] h fun ac wd h => ?_
       obtain ⟨r606,hc607,hL576⟩ := oB hL576
       have hc607k := L_graph_Find_ok hc607
       refine qs 176 [factE 174 hc607k] [3,5,6,11,13,14,65,66,67] [(1,0),(3,0),(4,0),(48,0),(48,1),(48,2),(49,0),(166,0)] h fun ac wd h => ?_
       refine wp_seq ?_
       obtain ⟨x610,hx611a,hx611b,hx611c,hx611d,hL576⟩ := aB hL576
       refine qs 182 [] [3,5,6,11,13,14,65,66,67,83] [(1,0),(3,0),(4,0),(48,0),(48,1),(48,2),(49,0),(166,0)] h fun ac wd h => ?_
       rcases i2 hL576 with ⟨hb613,hL576⟩ | ⟨hb613,hL576⟩
       ·
        refine kT h ?_
        refine qs 185 [] [6,7] [(4,0)] h fun ac wd h => ?_
        refine wp_ret ?_
        have h := SL.bornB h (4,0) 0 3 1 (by simp only [EZ,simprocAttr, *] <;> rfl) (by simp only [EZ,simprocAttr, *] <;> rfl)
        have h := SL.bornB h (4,0) 1 170 1 (by simp only [EZ,simprocAttr, *] <;> rfl) (by simp only [EZ,simprocAttr, *] <;> rfl)
        have h := SL.bornB h (4,0) 2 3 1 (by simp only [EZ,simprocAttr, *] <;> rfl) (by simp only [EZ,simprocAttr, *] <;> rfl)
        have h := h.sw (1,0) (185,0) 188
        have h := h.sw (1,1) (186,0) 188
        have h := h.sw (1,2) (187,0) 188
        injection hL576 with hL576
        subst hL576
        exact rO h [.cell 6 104,.tmp 7] [(1,0),(1,1),(1,2)]
       ·
        refine kF h ?_
        refine wp_skip ?_
        change Code.wp Try.prog _ _ _ _
        refine qs 190 [] [3,5,6,11,13,14,65,66,67] [(1,0),(3,0),(4,0),(48,0),(48,1),(48,2),(49,0),(166,0)] h fun ac wd h => ?_
        obtain ⟨x614,hx615a,hx615b,hx615c,hx615d,hL576⟩ := aB hL576
        have h := h.op (48,1) r606.toNat 0
        have h := h.sm 191 [(3,.one (.ptr (1,0) 0)),(5,.one (.ptr (3,0) 0)),(6,.one (.ptr (4,0) 0)),(11,.one (.ptr (49,0) 0)),(13,.one (.ptr (166,0) 0)),(14,.one (.d (.int .i64 r606))),(65,.one (.d (.sl (List.map eTSend r332.1.Sends)))),(66,.one (.d (.int .i64 (r332.1.Sends.length : Int)))),(67,.one (.d (.int .i64 n573)))]
         [((1,0),some (.box 53 (cTApp a0))),((3,0),some (.box 125 (cTStep a2))),((4,0),some (.box 104 [.nil,.nil,.nil])),((48,0),some (.row 3 1 (dat (List.map eI (r338.States.set a2.Node.toNat r332.1.Next))))),((48,1),some (.row 170 1 ((openRows cols_170 (List.map (eL eTMsg) l574)).set r606.toNat [.own (190,0) x614.length]))),((48,2),some (.row 3 1 (dat (List.map eI (l575.set r606.toNat (IntKind.wrap .i64 (x610 + 1))))))),((49,0),some (.box 104 [.own (48,0) r338.States.length,.own (48,1) l574.length,.own (48,2) l575.length])),((166,0),some (.box 50 (cTSend x602))),((190,0),some (.row 59 2 (dat (List.map eTMsg x614))))]
        obtain ⟨v616,hv617,hL576⟩ := vB hL576
        have h := h.same [3,5,6,11,13,14,65,66,67] [(1,0),(3,0),(4,0),(48,0),(48,1),(48,2),(49,0),(166,0),(190,0)] 191 [(3,.one (.ptr (1,0) 0)),(5,.one (.ptr (3,0) 0)),(6,.one (.ptr (4,0) 0)),(11,.one (.ptr (49,0) 0)),(13,.one (.ptr (166,0) 0)),(14,.one (.d (.int .i64 r606))),(65,.one (.d (.sl (List.map eTSend r332.1.Sends)))),(66,.one (.d (.int .i64 (r332.1.Sends.length : Int)))),(67,.one (.d (.int .i64 n573)))]
         [((1,0),some (.box 53 (cTApp a0))),((3,0),some (.box 125 (cTStep a2))),((4,0),some (.box 104 [.nil,.nil,.nil])),((48,0),some (.row 3 1 (dat (List.map eI (r338.States.set a2.Node.toNat r332.1.Next))))),((48,1),some (.row 170 1 ((openRows cols_170 (List.map (eL eTMsg) l574)).set r606.toNat [.own (190,0) x614.length]))),((48,2),some (.row 3 1 (dat (List.map eI v616)))),((49,0),some (.box 104 [.own (48,0) r338.States.length,.own (48,1) l574.length,.own (48,2) v616.length])),((166,0),some (.box 50 (cTSend x602))),((190,0),some (.row 59 2 (dat (List.map eTMsg x614))))]
         (by simp only [EZ,simprocAttr,hb319,hx323a,hx323b,hx323c,hx323d,hb329,hb335,hx343a,hx343b,hx343c,hx343d,hb578,hx603a,hx603b,hx603c,hx603d,hx611a,hx611b,hx611c,hx611d,hb613,hx615a,hx615b,hx615c,hx615d,dat_open,← hv617] <;> rfl)
        obtain ⟨x618,hx619a,hx619b,hx619c,hx619d,hL576⟩ := aB hL576
        obtain ⟨ha620,hL576⟩ := iT hL576
        refine de [] [3,5,6,11,65,66,67] [(1,0),(3,0),(4,0),(48,0),(48,1),(48,2),(49,0),(208,0)] h fun ac wd h => ?_
        have h := h.fS (cols := (fun _ => .sc)) (48,1) (208,0) (openRows cols_170 (List.map (eL eTMsg) l574)) r606.toNat [.own (208,0) (x614.length + 1)] 0 (List.map eTMsg (x614 ++ [(TMsg.mk x618 x602.Letter)])) (sc_59 _)
        have h := h.sm 211 [(3,.one (.ptr (1,0) 0)),(5,.one (.ptr (3,0) 0)),(6,.one (.ptr (4,0) 0)),(11,.one (.ptr (49,0) 0)),(65,.one (.d (.sl (List.map eTSend r332.1.Sends)))),(66,.one (.d (.int .i64 (r332.1.Sends.length : Int)))),(67,.one (.d (.int .i64 n573)))]
         [((1,0),some (.box 53 (cTApp a0))),((3,0),some (.box 125 (cTStep a2))),((4,0),some (.box 104 [.nil,.nil,.nil])),((48,0),some (.row 3 1 (dat (List.map eI (r338.States.set a2.Node.toNat r332.1.Next))))),((48,1),some (.row 170 1 ((openRows cols_170 (List.map (eL eTMsg) l574)).set r606.toNat [.tr (.sl 59 2 (fun _ => .sc)) (.sl (List.map eTMsg (x614 ++ [(TMsg.mk x618 x602.Letter)])))]))),((48,2),some (.row 3 1 (dat (List.map eI v616)))),((49,0),some (.box 104 [.own (48,0) r338.States.length,.own (48,1) l574.length,.own (48,2) v616.length]))]
        change Code.wp Try.prog _ _ _ _
        refine qe [] [3,5,6,11,65,66,67] [(1,0),(3,0),(4,0),(48,0),(48,1),(48,2),(49,0)] h fun ac wd h => ?_
        exact ⟨nf,Nat.lt_succ_self nf,(IntKind.wrap .i64 (n573 + 1)),(l574.set r606.toNat (x614 ++ [(TMsg.mk x618 x602.Letter)])),v616,hL576,h.z⟩
      ·
       refine kF h ?_
       refine wp_exit ?_
       change Code.wp Try.prog _ _ _ _
       refine qs 167 [] [6,7] [(4,0),(48,0),(48,1),(48,2)] h fun ac wd h => ?_
       refine wp_ret ?_
       have h := h.sw (1,0) (48,0) 167
       have h := h.sw (1,1) (48,1) 167
       have h := h.sw (1,2) (48,2) 167
       injection hL576 with hL576
       subst hL576
       exact rO h [.cell 6 104,.tmp 7] [(1,0),(1,1),(1,2)]
    ·
     refine kT h ?_
     refine qs 50 [] [6,7] [(4,0)] h fun ac wd h => ?_
     refine wp_ret ?_
     have h := SL.bornB h (4,0) 0 3 1 (by simp only [EZ,simprocAttr, *] <;> rfl) (by simp only [EZ,simprocAttr, *] <;> rfl)
     have h := SL.bornB h (4,0) 1 170 1 (by simp only [EZ,simprocAttr, *] <;> rfl) (by simp only [EZ,simprocAttr, *] <;> rfl)
     have h := SL.bornB h (4,0) 2 3 1 (by simp only [EZ,simprocAttr, *] <;> rfl) (by simp only [EZ,simprocAttr, *] <;> rfl)
     have h := h.sw (1,0) (50,0) 53
     have h := h.sw (1,1) (51,0) 53
     have h := h.sw (1,2) (52,0) 53
     injection hD with hD
     subst hD
     exact rO h [.cell 6 104,.tmp 7] [(1,0),(1,1),(1,2)]
   ·
    refine kT h ?_
    refine qs 34 [] [6,7] [(4,0)] h fun ac wd h => ?_
    refine wp_ret ?_
    have h := SL.bornB h (4,0) 0 3 1 (by simp only [EZ,simprocAttr, *] <;> rfl) (by simp only [EZ,simprocAttr, *] <;> rfl)
    have h := SL.bornB h (4,0) 1 170 1 (by simp only [EZ,simprocAttr, *] <;> rfl) (by simp only [EZ,simprocAttr, *] <;> rfl)
    have h := SL.bornB h (4,0) 2 3 1 (by simp only [EZ,simprocAttr, *] <;> rfl) (by simp only [EZ,simprocAttr, *] <;> rfl)
    have h := h.sw (1,0) (34,0) 37
    have h := h.sw (1,1) (35,0) 37
    have h := h.sw (1,2) (36,0) 37
    injection hD with hD
    subst hD
    exact rO h [.cell 6 104,.tmp 7] [(1,0),(1,1),(1,2)]
theorem L_plain_App_pick_ok {a0 : TApp} {a1 : TConf} {a2 : TStep} {r : TConf × Int} (hD : L_plain_App_pick a0 a1 a2 = some r) :
  CallH Try.prog 119 [.agg (cTApp a0),.agg (cTConf a1),.agg (cTStep a2)] []
   (.tup [.inl [.d (.sl (List.map eI r.1.States)),.d (.sl (List.map (eL eTMsg) r.1.Links)),.d (.sl (List.map eI r.1.Sent))],.inr (.d (.int .i64 r.2))]) [] :=
 (L_plain_App_pick_own hD).fr

theorem L_plain_App_deliver_1_own {a0 : TMsg} {a1 : TStep} {r : Bool × TStep} (hD : L_plain_App_deliver_1 a0 a1 = some r) :
  CallH Try.prog 142 [.agg (cTMsg a0),.one (.ptr (0,0) 0)] [((0,0),some (.box 125 (cTStep a1)))]
   (.one (.d (.bool r.1))) [((0,0),some (.box 125 (cTStep r.2)))] := by
 unfold L_plain_App_deliver_1 at hD
 refine rc Try.func142 rfl Try.ntmps142 fun S Φ P0 wb ac h => ?_
 refine qs 3 [] [1,2] [(0,0),(1,0)] h fun ac wd h => ?_
 refine qs 9 [] [3] [(0,0)] h fun ac wd h => ?_
 refine wp_ret ?_
 injection hD with hD
 subst hD
 exact rO h [.tmp 3] [(0,0)]

theorem L_slices_IndexFunc_api_Msg_api_Msg_own {a0 : (List TMsg)} {a1 : TStep} {r : Int × TStep} (hD : L_slices_IndexFunc_api_Msg_api_Msg a0 a1 = some r) :
  CallH Try.prog 141 [.one (.d (.sl (List.map eTMsg a0))),.one (.fnp 142 [((0,0),0)])] [((0,0),some (.box 125 (cTStep a1)))]
   (.one (.d (.int .i64 r.1))) [((0,0),some (.box 125 (cTStep r.2)))] := by
 unfold L_slices_IndexFunc_api_Msg_api_Msg at hD
 refine rc Try.func141 rfl Try.ntmps141 fun S Φ P0 wb ac h => ?_
 refine qs 2 [] [0,1] [(0,0)] h fun ac wd h => ?_
 refine wp_seq ?_
 refine qs 5 [] [0,1,7,8] [(0,0)] h fun ac wd h => ?_
 refine wp_block ?_
 refine r_while (fun nf ac wd => ∃ (n239 : Int) (m240 : TStep),L_slices_IndexFunc_api_Msg_api_Msg_l1 a0 nf n239 m240 = some r ∧ SL ⟨wb,S,Φ,P0⟩ 19 27 [(0,.one (.d (.sl (List.map eTMsg a0)))),(1,.one (.fnp 142 [((0,0),0)])),(7,.one (.d (.int .i64 (a0.length : Int)))),(8,.one (.d (.int .i64 n239)))] [((0,0),some (.box 125 (cTStep m240)))] ac wd) (((a0.length : Int) - 0).toNat + 1) ⟨0,a1,hD,h.z⟩ (fun nf ac wd hJ => ?_)
 obtain ⟨n239,m240,hL241,h⟩ := hJ
 cases nf with
 | zero => rw [L_slices_IndexFunc_api_Msg_api_Msg_l1] at hL241; cases hL241
 | succ nf =>
  rw [L_slices_IndexFunc_api_Msg_api_Msg_l1] at hL241
  refine qs 28 [] [0,1,7,8,9] [(0,0)] h fun ac wd h => ?_
  refine wp_seq ?_
  rcases i2 hL241 with ⟨hb243,hL241⟩ | ⟨hb243,hL241⟩
  ·
   refine kT h ?_
   refine wp_skip ?_
   change Code.wp Try.prog _ _ _ _
   refine wp_seq ?_
   refine wp_block ?_
   refine qs 30 [] [0,1,5,7,8] [(0,0)] h fun ac wd h => ?_
   obtain ⟨x257,hx258a,hx258b,hx258c,hx258d,hL241⟩ := aB hL241
   obtain ⟨r259,hc260,hL241⟩ := oB hL241
   have hc260_35 := ((L_plain_App_deliver_1_own hc260).cls 35).z
   refine qs 36 [factR hc260_35] [0,1,5,7,8,16] [(0,0)] h fun ac wd h => ?_
   rcases i2b hL241 with ⟨hb261,hL241⟩ | ⟨hb261,hL241⟩
   ·
    refine kT h ?_
    refine qs 38 [] [4] [(0,0)] h fun ac wd h => ?_
    refine wp_ret ?_
    injection hL241 with hL241
    subst hL241
    exact rO h [.tmp 4] [(0,0)]
   ·
    refine kF h ?_
    refine wp_skip ?_
    change Code.wp Try.prog _ _ _ _
    refine qe [] [0,1,7,8] [(0,0)] h fun ac wd h => ?_
    exact ⟨nf,Nat.lt_succ_self nf,(IntKind.wrap .i64 (n239 + 1)),r259.2,hL241,h.z⟩
  ·
   refine kF h ?_
   refine wp_exit ?_
   change Code.wp Try.prog _ _ _ _
   refine qs 29 [] [4] [(0,0)] h fun ac wd h => ?_
   refine wp_ret ?_
   injection hL241 with hL241
   subst hL241
   exact rO h [.tmp 4] [(0,0)]

theorem L_table_Taken_ok {a0 : (List TNode)} {a1 : Int} {a2 : Int} {a3 : Int} {a4 : Int} {r : Int} (hD : L_table_Taken a0 a1 a2 a3 a4 = some r) :
  CallH Try.prog 62 [.one (.d (.sl (List.map eTNode a0))),.one (.d (.int .i64 a1)),.one (.d (.int .i64 a2)),.one (.d (.int .i64 a3)),.one (.d (.int .i64 a4))] []
   (.one (.d (.int .i64 r))) [] := by
 unfold L_table_Taken at hD
 refine rc Try.func62 rfl Try.ntmps62 fun S Φ P0 wb ac h => ?_
 refine qs 2 [] [0,1,2,3,4] [] h fun ac wd h => ?_
 obtain ⟨r146,hc147,hD⟩ := oB hD
 have hc147k := L_table_at_ok hc147
 refine qs 12 [factE 5 hc147k] [2,3,4,11] [(9,0)] h fun ac wd h => ?_
 refine wp_seq ?_
 refine qs 16 [] [2,3,4,23,24,25] [] h fun ac wd h => ?_
 refine wp_block ?_
 refine r_while (fun nf ac wd => ∃ (n261 : Int),L_table_Taken_l1 a2 a3 a4 r146 nf n261 = some r ∧ SL ⟨wb,S,Φ,P0⟩ 43 50 [(2,.one (.d (.int .i64 a2))),(3,.one (.d (.int .i64 a3))),(4,.one (.d (.int .i64 a4))),(23,.one (.d (.sl (List.map eTTake r146.1.Takes)))),(24,.one (.d (.int .i64 (r146.1.Takes.length : Int)))),(25,.one (.d (.int .i64 n261)))] [] ac wd) (((r146.1.Takes.length : Int) - 0).toNat + 1) ⟨0,hD,h.z⟩ (fun nf ac wd hJ => ?_)
 obtain ⟨n261,hL262,h⟩ := hJ
 cases nf with
 | zero => rw [L_table_Taken_l1] at hL262; cases hL262
 | succ nf =>
  rw [L_table_Taken_l1] at hL262
  refine qs 51 [] [2,3,4,23,24,25,26] [] h fun ac wd h => ?_
  refine wp_seq ?_
  rcases i2 hL262 with ⟨hb264,hL262⟩ | ⟨hb264,hL262⟩
  ·
   refine kT h ?_
   refine wp_skip ?_
   change Code.wp Try.prog _ _ _ _
   refine wp_seq ?_
   refine wp_block ?_
   obtain ⟨x277,hx278a,hx278b,hx278c,hx278d,hL262⟩ := aB hL262
   refine qs 55 [] [2,3,4,14,23,24,25] [(53,0)] h fun ac wd h => ?_
   obtain ⟨e281,hE282,hL262⟩ := Option.bind_eq_some_iff.1 hL262
   refine r_seqJ (fun ac wd => ∃ (b280 : Bool),b280 = e281 ∧ SL ⟨wb,S,Φ,P0⟩ 43 65 [(2,.one (.d (.int .i64 a2))),(3,.one (.d (.int .i64 a3))),(4,.one (.d (.int .i64 a4))),(14,.one (.ptr (53,0) 0)),(23,.one (.d (.sl (List.map eTTake r146.1.Takes)))),(24,.one (.d (.int .i64 (r146.1.Takes.length : Int)))),(25,.one (.d (.int .i64 n261))),(38,.one (.d (.bool b280)))] [((53,0),some (.box 48 (cTTake x277)))] ac wd) ?_ ?_
   ·
    rcases i2e hE282 with ⟨hb283,hE282⟩ | ⟨hb283,hE282⟩
    ·
     refine qeg [] [none,none,none,none,none,some (some 33,true),some (some 33,true),some (some 33,true),some (some 33,true),none] [2,3,4,14,23,24,25,38] [(53,0)] h fun ac wd h => ?_
     injection hE282 with hE282; subst hE282
     exact ⟨decide (x277.Letter = a4),rfl,h.z⟩
    ·
     refine qeg [] [none,none,none,none,none,some (some 33,true),some (some 33,true),some (some 33,true),some (some 33,true),none] [2,3,4,14,23,24,25,38] [(53,0)] h fun ac wd h => ?_
     injection hE282 with hE282; subst hE282
     exact ⟨false,rfl,h.z⟩
   ·
    rintro ac wd ⟨b280,rfl,h⟩
    (try dsimp only at hL262)
    rcases i2b hL262 with ⟨hb284,hL262⟩ | ⟨hb284,hL262⟩
    ·
     refine kT h ?_
     refine qs 68 [] [10] [] h fun ac wd h => ?_
     refine wp_ret ?_
     injection hL262 with hL262
     subst hL262
     exact rE h [.tmp 10]
    ·
     refine kF h ?_
     refine wp_skip ?_
     change Code.wp Try.prog _ _ _ _
     refine qe [] [2,3,4,23,24,25] [] h fun ac wd h => ?_
     exact ⟨nf,Nat.lt_succ_self nf,(IntKind.wrap .i64 (n261 + 1)),hL262,h.z⟩
  ·
   refine kF h ?_
   refine wp_exit ?_
   change Code.wp Try.prog _ _ _ _
   refine qs 53 [] [10] [] h fun ac wd h => ?_
   refine wp_ret ?_
   injection hL262 with hL262
   subst hL262
   exact rE h [.tmp 10]

theorem L_slices_Delete_api_Msg_api_Msg_own {a0 : (List TMsg)} {a1 : Int} {a2 : Int} {r : (List TMsg)} (hD : L_slices_Delete_api_Msg_api_Msg a0 a1 a2 = some r) :
  CallH Try.prog 143 [.one (.own (0,0) a0.length),.one (.d (.int .i64 a1)),.one (.d (.int .i64 a2))] [((0,0),some (.row 59 2 (dat (List.map eTMsg a0))))]
   (.one (.own (0,0) r.length)) [((0,0),some (.row 59 2 (dat (List.map eTMsg r))))] := by
 unfold L_slices_Delete_api_Msg_api_Msg at hD
 refine rc Try.func143 rfl Try.ntmps143 (hz := by simp only [zeroB,uIds,EZ,simprocAttr] <;> rfl) fun S Φ P0 wb ac h => ?_
 refine qs 2 [] [0,1,2] [(0,0)] h fun ac wd h => ?_
 obtain ⟨ha1,hD⟩ := iT hD
 obtain ⟨ha2,hD⟩ := iT hD
 obtain ⟨ha3,hD⟩ := iT hD
 have hle : (a0.length : Int) ≤ (a0.length : Int) := by omega
 refine qs 8 [] [0,1,2] [(0,0)] h fun ac wd h => ?_
 refine wp_seq ?_
 refine qs 11 [] [0,1,2,16] [(0,0)] h fun ac wd h => ?_
 rcases i2e hD with ⟨hb,hD⟩ | ⟨hb,hD⟩
 ·
  refine kT h ?_
  refine qs 13 [] [6] [(0,0)] h fun ac wd h => ?_
  refine wp_ret ?_
  injection hD with hD
  subst hD
  exact rO h [.tmp 6] [(0,0)]
 ·
  refine kF h ?_
  refine wp_skip ?_
  change Code.wp Try.prog _ _ _ _
  obtain ⟨ha4,hD⟩ := iT hD
  injection hD with hD
  refine qs 14 [] [0,1,2,7] [(0,0)] h fun ac wd h => ?_
  obtain ⟨k,hk⟩ : ∃ k,k = a1.toNat + (a0.length - a2.toNat) := ⟨_,rfl⟩
  obtain ⟨W,hW⟩ : ∃ W,W = a0.take a1.toNat ++ (a0.drop a2.toNat ++ a0.drop (a1.toNat + (a0.length - a2.toNat))) := ⟨_,rfl⟩
  have hkl : k < a0.length := by omega
  have hWl : W.length = a0.length := by rw [hW]; simp only [List.length_append,List.length_take,List.length_drop]; omega
  have hWr : W.take k = r := by
   rw [hW,← List.append_assoc,List.take_append_of_le_length (by simp only [List.length_append,List.length_take,List.length_drop]; omega),List.take_of_length_le (by simp only [List.length_append,List.length_take,List.length_drop]; omega)]
   exact hD
  have hrl : r.length = k := by rw [← hWr,List.length_take]; omega
  clear hD
  have hq0 : a1 ≤ (a0.length : Int) := by omega
  have hq1 : a2.toNat + (a0.length - a2.toNat) ≤ a0.length := by omega
  have hq2 : List.take (a0.length - a2.toNat) (List.drop a2.toNat a0) = List.drop a2.toNat a0 := List.take_of_length_le (by rw [List.length_drop]; omega)
  have hq3 : (List.drop a2.toNat a0).length = a0.length - a2.toNat := List.length_drop
  have hq4 : a1.toNat + (a0.length - a2.toNat) ≤ a0.length := by omega
  have hq5 : 0 ≤ a2 := by omega
  refine ds 22 [] [0,1,2,7] [(0,0)] h fun ac wd h => ?_
  have h := h.sm 22 [(0,.one (.own (0,0) k)),(7,.one (.d (.int .i64 (a0.length : Int))))] [((0,0),some (.row 59 2 (dat (List.map eTMsg W))))]
  clear hW hk hq0 hq1 hq2 hq3 hq4 hq5 ha1 ha2 ha3 ha4 hb
  have hq1 : ¬ a0.length = k := by omega
  have hq2 : k ≤ a0.length := by omega
  have hq3 : (k : Int) ≤ (a0.length : Int) := by omega
  have hq4 : ¬ (a0.length : Int) ≤ (k : Int) := by omega
  have hq5 : (k : Int) < (a0.length : Int) := by omega
  have hq6 : k + (a0.length - k) ≤ a0.length := by omega
  have hq7 : (List.take (a0.length - k) (List.drop k W)).length = a0.length - k := by rw [List.length_take,List.length_drop]; omega
  refine qs 28 [] [0] [(0,0)] h fun ac wd h => ?_
  have h := h.head (0,0) k rfl
  have ht : ∀ Y,(dat (List.map eTMsg r) ++ Y).take k = dat (List.map eTMsg r) := fun Y => by
   rw [List.take_append_of_le_length (by rw [e_dat4,List.length_map]; omega),List.take_of_length_le (by rw [e_dat4,List.length_map]; omega)]
  clear hWr
  have h := h.sm 28 [(0,.one (.own (0,0) k))] [((0,0),some (.row 59 2 (dat (List.map eTMsg r))))]
  refine qs 30 [] [6] [(0,0)] h fun ac wd h => ?_
  refine wp_ret ?_
  exact rO h [.tmp 6] [(0,0)]

end Go.Proofs.Ytabbejabdkkaiaa
