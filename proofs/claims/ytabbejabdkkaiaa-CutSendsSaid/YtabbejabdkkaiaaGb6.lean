/- Functions as typed ones,and that the program's functions answer as these do. No condition. -/
import Derived.Test.YtabbejabdkkaiaaGb5
import Derived.Test.YtabbejabdkkaiaaGd
set_option linter.unusedSimpArgs false
set_option linter.unusedVariables false
set_option maxRecDepth 20000
set_option maxHeartbeats 4000000
namespace Go.Proofs.Ytabbejabdkkaiaa
open Go.RowKit

theorem L_cut_Counts_own {a0 : TGraph} {a1 : (List TStep)} {r : (List Int)} (hD : L_cut_Counts a0 a1 = some r) :
  CallH Try.prog 39 [.agg (cTGraph a0),.one (.d (.sl (List.map eTStep a1)))] []
   (.one (.own (1,0) r.length)) [((1,0),some (.row 3 1 (dat (List.map eI r))))] := by
 unfold L_cut_Counts at hD
 refine rc Try.func39 rfl Try.ntmps39 fun S Φ P0 wb ac h => ?_
 refine qs 3 [] [1,2] [(1,0)] h fun ac wd h => ?_
 obtain ⟨aa,hD⟩ := iT hD
 obtain ⟨ab,hD⟩ := iT hD
 obtain ⟨ad,hD⟩ := iT hD
 refine qs 7 [] [1,2,5] [(1,0),(5,0)] h fun ac wd h => ?_
 refine wp_seq ?_
 refine qs 10 [] [2,5,12,13,14] [(1,0),(5,0)] h fun ac wd h => ?_
 refine wp_block ?_
 refine r_while (fun nf ac wd => ∃ (ae : Int) (af : List Int),L_cut_Counts_l1 a0 a1 nf ae af = some r ∧ SL ⟨wb,S,Φ,P0⟩ 31 50 [(2,.one (.ptr (1,0) 0)),(5,.one (.own (5,0) af.length)),(12,.one (.d (.sl (List.map eTStep a1)))),(13,.one (.d (.int .i64 (a1.length : Int)))),(14,.one (.d (.int .i64 ae)))] [((1,0),some (.box 25 (cTGraph a0))),((5,0),some (.row 3 1 (dat (List.map eI af))))] ac wd) (((a1.length : Int) - 0).toNat + 1) ⟨0,(List.replicate a0.N.toNat 0),hD,h.z⟩ (fun nf ac wd hJ => ?_)
 obtain ⟨ae,af,ag,h⟩ := hJ
 cases nf with
 | zero => rw [L_cut_Counts_l1] at ag; cases ag
 | succ nf =>
  rw [L_cut_Counts_l1] at ag
  refine qs 51 [] [2,5,12,13,14,15] [(1,0),(5,0)] h fun ac wd h => ?_
  refine wp_seq ?_
  rcases i2 ag with ⟨ah,ag⟩ | ⟨ah,ag⟩
  ·
   refine kT h ?_
   refine wp_skip ?_
   change Code.wp Try.prog _ _ _ _
   obtain ⟨ai,aj,ag⟩ := Option.bind_eq_some_iff.1 ag
   refine r_seqJ (fun ac wd => ∃ (ak : List Int),ak = ai ∧ SL ⟨wb,S,Φ,P0⟩ 31 68 [(2,.one (.ptr (1,0) 0)),(5,.one (.own (5,0) ak.length)),(12,.one (.d (.sl (List.map eTStep a1)))),(13,.one (.d (.int .i64 (a1.length : Int)))),(14,.one (.d (.int .i64 ae)))] [((1,0),some (.box 25 (cTGraph a0))),((5,0),some (.row 3 1 (dat (List.map eI ak))))] ac wd) ?_ ?_
   ·
    refine wp_block ?_
    obtain ⟨al,am,an,ao,ap,aj⟩ := aB aj
    refine qs 55 [] [2,5,7,12,13,14] [(1,0),(5,0),(53,0)] h fun ac wd h => ?_
    obtain ⟨aq,ar,aj⟩ := oB aj
    have au := L_cut_Where_ok ar
    refine qs 59 [factE 57 au] [2,5,8,12,13,14] [(1,0),(5,0)] h fun ac wd h => ?_
    refine qs 61 [] [2,5,8,12,13,14,22] [(1,0),(5,0)] h fun ac wd h => ?_
    rcases i2 aj with ⟨av,aj⟩ | ⟨av,aj⟩
    ·
     refine kT h ?_
     obtain ⟨aw,ax,ay,az,aA,aj⟩ := aB aj
     refine qe [] [2,5,12,13,14] [(1,0),(5,0)] h fun ac wd h => ?_
     injection aj with aj; subst aj
     exact ⟨(af.set aq.toNat (IntKind.wrap .i64 (aw + 1))),rfl,h.z⟩
    ·
     refine kF h ?_
     refine wp_skip ?_
     injection aj with aj; subst aj
     exact ⟨af,rfl,h.z⟩
   ·
    rintro ac wd ⟨ak,rfl,h⟩
    (try dsimp only at ag)
    refine qe [] [2,5,12,13,14] [(1,0),(5,0)] h fun ac wd h => ?_
    exact ⟨nf,Nat.lt_succ_self nf,(IntKind.wrap .i64 (ae + 1)),ak,ag,h.z⟩
  ·
   refine kF h ?_
   refine wp_exit ?_
   change Code.wp Try.prog _ _ _ _
   refine qs 53 [] [4] [(5,0)] h fun ac wd h => ?_
   refine wp_ret ?_
   have h := h.sw (1,0) (5,0) 53
   injection ag with ag
   subst ag
   exact rO h [.tmp 4] [(1,0)]
theorem L_cut_Counts_ok {a0 : TGraph} {a1 : (List TStep)} {r : (List Int)} (hD : L_cut_Counts a0 a1 = some r) :
  CallH Try.prog 39 [.agg (cTGraph a0),.one (.d (.sl (List.map eTStep a1)))] []
   (.one (.d (.sl (List.map eI r)))) [] :=
 (L_cut_Counts_own hD).fr

theorem L_ref01_Ints_ok {a0 : (List Int)} {a1 : (List Int)} {r : Bool} (hD : L_ref01_Ints a0 a1 = some r) :
  CallH Try.prog 28 [.one (.d (.sl (List.map eI a0))),.one (.d (.sl (List.map eI a1)))] []
   (.one (.d (.bool r))) [] := by
 unfold L_ref01_Ints at hD
 refine rc Try.func28 rfl Try.ntmps28 fun S Φ P0 wb ac h => ?_
 refine qs 2 [] [0,1] [] h fun ac wd h => ?_
 refine wp_seq ?_
 refine qs 7 [] [0,1,10] [] h fun ac wd h => ?_
 rcases i2e hD with ⟨aa,hD⟩ | ⟨aa,hD⟩
 ·
  refine kF h ?_
  refine wp_skip ?_
  change Code.wp Try.prog _ _ _ _
  refine wp_seq ?_
  refine qs 8 [] [0,1,5] [] h fun ac wd h => ?_
  refine wp_block ?_
  refine r_while (fun nf ac wd => ∃ (ab : Int),L_ref01_Ints_l1 a0 a1 nf ab = some r ∧ SL ⟨wb,S,Φ,P0⟩ 26 40 [(0,.one (.d (.sl (List.map eI a0)))),(1,.one (.d (.sl (List.map eI a1)))),(5,.one (.d (.int .i64 ab)))] [] ac wd) (((a0.length : Int) - 0).toNat + 1) ⟨0,hD,h.z⟩ (fun nf ac wd hJ => ?_)
  obtain ⟨ab,ad,h⟩ := hJ
  cases nf with
  | zero => rw [L_ref01_Ints_l1] at ad; cases ad
  | succ nf =>
   rw [L_ref01_Ints_l1] at ad
   refine wp_seq ?_
   refine qs 44 [] [0,1,5,14] [] h fun ac wd h => ?_
   rcases i2 ad with ⟨ae,ad⟩ | ⟨ae,ad⟩
   ·
    refine kT h ?_
    refine wp_skip ?_
    change Code.wp Try.prog _ _ _ _
    refine wp_seq ?_
    refine wp_block ?_
    obtain ⟨af,ag,ah,ai,aj,ad⟩ := aB ad
    obtain ⟨ak,al,am,an,ao,ad⟩ := aB ad
    refine ds 53 [] [0,1,5,25] [] h fun ac wd h => ?_
    rcases i2e ad with ⟨ap,ad⟩ | ⟨ap,ad⟩
    ·
     refine kF h ?_
     refine wp_skip ?_
     change Code.wp Try.prog _ _ _ _
     refine qe [] [0,1,5] [] h fun ac wd h => ?_
     exact ⟨nf,Nat.lt_succ_self nf,(IntKind.wrap .i64 (ab + 1)),ad,h.z⟩
    ·
     refine kT h ?_
     refine qs 54 [] [4] [] h fun ac wd h => ?_
     refine wp_ret ?_
     injection ad with ad
     subst ad
     exact rE h [.tmp 4]
   ·
    refine kF h ?_
    refine wp_exit ?_
    change Code.wp Try.prog _ _ _ _
    refine qs 45 [] [4] [] h fun ac wd h => ?_
    refine wp_ret ?_
    injection ad with ad
    subst ad
    exact rE h [.tmp 4]
 ·
  refine kT h ?_
  refine qs 8 [] [4] [] h fun ac wd h => ?_
  refine wp_ret ?_
  injection hD with hD
  subst hD
  exact rE h [.tmp 4]

theorem L_law05_Step_ok {a0 : TStep} {r : TStep} (hD : L_law05_Step a0 = some r) :
  CallH Try.prog 88 [.agg (cTStep a0)] []
   (.agg [.d (.int .i64 r.Kind),.d (.int .i64 r.Node),.d (.int .i64 r.K),.d (.int .i64 r.Link),.d (.int .i64 r.Seq)]) [] := by
 unfold L_law05_Step at hD
 refine rc Try.func88 rfl Try.ntmps88 fun S Φ P0 wb ac h => ?_
 refine qs 3 [] [1,2] [(1,0),(2,0)] h fun ac wd h => ?_
 refine qs 15 [] [2] [(2,0)] h fun ac wd h => ?_
 refine wp_ret ?_
 injection hD with hD
 subst hD
 exact rE h [.cell 2 175]

theorem L_law05_Steps_own {a0 : (List TStep)} {r : (List TStep)} (hD : L_law05_Steps a0 = some r) :
  CallH Try.prog 42 [.one (.d (.sl (List.map eTStep a0)))] []
   (.one (.own (1,0) r.length)) [((1,0),some (.row 175 5 (dat (List.map eTStep r))))] := by
 unfold L_law05_Steps at hD
 refine rc Try.func42 rfl Try.ntmps42 fun S Φ P0 wb ac h => ?_
 refine qs 2 [] [0] [] h fun ac wd h => ?_
 refine qs 4 [] [0,3] [(2,0)] h fun ac wd h => ?_
 refine wp_seq ?_
 refine qs 5 [] [0,3,4] [(2,0)] h fun ac wd h => ?_
 refine wp_block ?_
 refine r_while (fun nf ac wd => ∃ (aa : Int) (ab : List TStep),L_law05_Steps_l1 a0 nf aa ab = some r ∧ SL ⟨wb,S,Φ,P0⟩ 21 37 [(0,.one (.d (.sl (List.map eTStep a0)))),(3,.one (.own (2,0) ab.length)),(4,.one (.d (.int .i64 aa)))] [((2,0),some (.row 175 5 (dat (List.map eTStep ab))))] ac wd) (((a0.length : Int) - 0).toNat + 1) ⟨0,([] : List TStep),hD,h.z⟩ (fun nf ac wd hJ => ?_)
 obtain ⟨aa,ab,ad,h⟩ := hJ
 cases nf with
 | zero => rw [L_law05_Steps_l1] at ad; cases ad
 | succ nf =>
  rw [L_law05_Steps_l1] at ad
  refine wp_seq ?_
  refine qs 41 [] [0,3,4,9] [(2,0)] h fun ac wd h => ?_
  rcases i2 ad with ⟨ae,ad⟩ | ⟨ae,ad⟩
  ·
   refine kT h ?_
   refine wp_skip ?_
   change Code.wp Try.prog _ _ _ _
   refine wp_seq ?_
   refine wp_block ?_
   obtain ⟨af,ag,ah,ai,aj,ad⟩ := aB ad
   obtain ⟨ak,al,ad⟩ := oB ad
   obtain ⟨am,ad⟩ := iT ad
   have an := L_law05_Step_ok al
   refine qe [factE 46 an] [0,3,4] [(48,0)] h fun ac wd h => ?_
   change Code.wp Try.prog _ _ _ _
   refine qe [] [0,3,4] [(48,0)] h fun ac wd h => ?_
   have h := h.sw (2,0) (48,0) 53
   exact ⟨nf,Nat.lt_succ_self nf,(IntKind.wrap .i64 (aa + 1)),(ab ++ [ak]),ad,h.z⟩
  ·
   refine kF h ?_
   refine wp_exit ?_
   change Code.wp Try.prog _ _ _ _
   refine qs 43 [] [2] [(2,0)] h fun ac wd h => ?_
   refine wp_ret ?_
   have h := h.sw (1,0) (2,0) 43
   injection ad with ad
   subst ad
   exact rO h [.tmp 2] [(1,0)]
theorem L_law05_Steps_ok {a0 : (List TStep)} {r : (List TStep)} (hD : L_law05_Steps a0 = some r) :
  CallH Try.prog 42 [.one (.d (.sl (List.map eTStep a0)))] []
   (.one (.d (.sl (List.map eTStep r)))) [] :=
 (L_law05_Steps_own hD).fr

theorem L_ref05_Steps_ok {a0 : (List TStep)} {a1 : (List TStep)} {r : Bool} (hD : L_ref05_Steps a0 a1 = some r) :
  CallH Try.prog 43 [.one (.d (.sl (List.map eTStep a0))),.one (.d (.sl (List.map eTStep a1)))] []
   (.one (.d (.bool r))) [] := by
 unfold L_ref05_Steps at hD
 refine rc Try.func43 rfl Try.ntmps43 fun S Φ P0 wb ac h => ?_
 refine qs 2 [] [0,1] [] h fun ac wd h => ?_
 refine wp_seq ?_
 refine qs 7 [] [0,1,10] [] h fun ac wd h => ?_
 rcases i2e hD with ⟨aa,hD⟩ | ⟨aa,hD⟩
 ·
  refine kF h ?_
  refine wp_skip ?_
  change Code.wp Try.prog _ _ _ _
  refine wp_seq ?_
  refine qs 8 [] [0,1,5] [] h fun ac wd h => ?_
  refine wp_block ?_
  refine r_while (fun nf ac wd => ∃ (ab : Int),L_ref05_Steps_l1 a0 a1 nf ab = some r ∧ SL ⟨wb,S,Φ,P0⟩ 26 40 [(0,.one (.d (.sl (List.map eTStep a0)))),(1,.one (.d (.sl (List.map eTStep a1)))),(5,.one (.d (.int .i64 ab)))] [] ac wd) (((a0.length : Int) - 0).toNat + 1) ⟨0,hD,h.z⟩ (fun nf ac wd hJ => ?_)
  obtain ⟨ab,ad,h⟩ := hJ
  cases nf with
  | zero => rw [L_ref05_Steps_l1] at ad; cases ad
  | succ nf =>
   rw [L_ref05_Steps_l1] at ad
   refine wp_seq ?_
   refine qs 44 [] [0,1,5,14] [] h fun ac wd h => ?_
   rcases i2 ad with ⟨ae,ad⟩ | ⟨ae,ad⟩
   ·
    refine kT h ?_
    refine wp_skip ?_
    change Code.wp Try.prog _ _ _ _
    refine wp_seq ?_
    refine wp_block ?_
    obtain ⟨af,ag,ah,ai,aj,ad⟩ := aB ad
    obtain ⟨ak,al,am,an,ao,ad⟩ := aB ad
    have ap := eq_TStep_vv af ak
    refine ds 53 [] [0,1,5,25] [] h fun ac wd h => ?_
    rcases i2e ad with ⟨aq,ad⟩ | ⟨aq,ad⟩
    ·
     refine kF h ?_
     refine wp_skip ?_
     change Code.wp Try.prog _ _ _ _
     refine qe [] [0,1,5] [] h fun ac wd h => ?_
     exact ⟨nf,Nat.lt_succ_self nf,(IntKind.wrap .i64 (ab + 1)),ad,h.z⟩
    ·
     refine kT h ?_
     refine qs 54 [] [4] [] h fun ac wd h => ?_
     refine wp_ret ?_
     injection ad with ad
     subst ad
     exact rE h [.tmp 4]
   ·
    refine kF h ?_
    refine wp_exit ?_
    change Code.wp Try.prog _ _ _ _
    refine qs 45 [] [4] [] h fun ac wd h => ?_
    refine wp_ret ?_
    injection ad with ad
    subst ad
    exact rE h [.tmp 4]
 ·
  refine kT h ?_
  refine qs 8 [] [4] [] h fun ac wd h => ?_
  refine wp_ret ?_
  injection hD with hD
  subst hD
  exact rE h [.tmp 4]

theorem L_table_at_ok {a0 : (List TNode)} {a1 : Int} {a2 : Int} {r : TState × Bool} (hD : L_table_at a0 a1 a2 = some r) :
  CallH Try.prog 105 [.one (.d (.sl (List.map eTNode a0))),.one (.d (.int .i64 a1)),.one (.d (.int .i64 a2))] []
   (.tup [.inl [.d (.int .i64 r.1.Mode),.d (.sl (List.map eI r.1.Waits)),.d (.sl (List.map eTPick r.1.Picks)),.d (.sl (List.map eTTake r.1.Takes))],.inr (.d (.bool r.2))]) [] := by
 unfold L_table_at at hD
 refine rc Try.func105 rfl Try.ntmps105 fun S Φ P0 wb ac h => ?_
 refine qs 3 [] [0,1,2,6] [(1,0)] h fun ac wd h => ?_
 refine wp_seq ?_
 obtain ⟨aa,ab,hD⟩ := Option.bind_eq_some_iff.1 hD
 refine r_seqJ (fun ac wd => ∃ (ad : Bool),ad = aa ∧ SL ⟨wb,S,Φ,P0⟩ 39 25 [(0,.one (.d (.sl (List.map eTNode a0)))),(1,.one (.d (.int .i64 a1))),(2,.one (.d (.int .i64 a2))),(6,.one (.ptr (1,0) 0)),(29,.one (.d (.bool ad)))] [((1,0),some (.box 43 [.d (.int .i64 0),.nil,.nil,.nil]))] ac wd) ?_ ?_
 ·
  rcases i2 ab with ⟨ae,ab⟩ | ⟨ae,ab⟩
  ·
   refine qeg [] [none,none,none,some (some 10,false),some (some 10,false),some (some 10,false),some (some 10,false),none,none,some (some 16,false),some (some 16,false),none,none,some (some 20,false),some (some 20,false),some (some 20,false),some (some 20,false),some (some 20,false),some (some 20,false),some (some 20,false),some (some 20,false),none] [0,1,2,6,29] [(1,0)] h fun ac wd h => ?_
   injection ab with ab; subst ab
   exact ⟨true,rfl,h.z⟩
  ·
   rcases i2 ab with ⟨af,ab⟩ | ⟨af,ab⟩
   ·
    refine qeg [] [none,none,none,some (some 10,false),some (some 10,false),some (some 10,false),some (some 10,false),none,none,some (some 16,false),some (some 16,false),none,none,some (some 20,false),some (some 20,false),some (some 20,false),some (some 20,false),some (some 20,false),some (some 20,false),some (some 20,false),some (some 20,false),none] [0,1,2,6,29] [(1,0)] h fun ac wd h => ?_
    injection ab with ab; subst ab
    exact ⟨true,rfl,h.z⟩
   ·
    rcases i2 ab with ⟨ag,ab⟩ | ⟨ag,ab⟩
    ·
     refine qeg [] [none,none,none,some (some 10,false),some (some 10,false),some (some 10,false),some (some 10,false),none,none,some (some 16,false),some (some 16,false),none,none,some (some 20,false),some (some 20,false),some (some 20,false),some (some 20,false),some (some 20,false),some (some 20,false),some (some 20,false),some (some 20,false),none] [0,1,2,6,29] [(1,0)] h fun ac wd h => ?_
     injection ab with ab; subst ab
     exact ⟨true,rfl,h.z⟩
    ·
     obtain ⟨ah,ai,aj,ak,al,ab⟩ := aB ab
     refine qeg [] [none,none,none,some (some 10,false),some (some 10,false),some (some 10,false),some (some 10,false),none,none,some (some 16,false),some (some 16,false),none,none,some (some 20,false),some (some 20,false),some (some 20,false),some (some 20,false),some (some 20,false),some (some 20,false),some (some 20,false),some (some 20,false),none] [0,1,2,6,29] [(1,0)] h fun ac wd h => ?_
     injection ab with ab; subst ab
     exact ⟨decide (a2 ≥ (ah.States.length : Int)),rfl,h.z⟩
 ·
  rintro ac wd ⟨ad,rfl,h⟩
  (try dsimp only at hD)
  rcases i2b hD with ⟨am,hD⟩ | ⟨am,hD⟩
  ·
   refine kT h ?_
   refine qs 28 [] [6,7] [(1,0)] h fun ac wd h => ?_
   refine wp_ret ?_
   injection hD with hD
   subst hD
   exact rE h [.cell 6 43,.tmp 7]
  ·
   refine kF h ?_
   refine wp_skip ?_
   change Code.wp Try.prog _ _ _ _
   obtain ⟨an,ao,ap,aq,ar,hD⟩ := aB hD
   obtain ⟨au,av,aw,ax,ay,hD⟩ := aB hD
   refine qs 35 [] [6,7] [(1,0)] h fun ac wd h => ?_
   refine wp_ret ?_
   injection hD with hD
   subst hD
   exact rE h [.cell 6 43,.tmp 7]

theorem L_table_Mode_ok {a0 : (List TNode)} {a1 : Int} {a2 : Int} {r : Int} (hD : L_table_Mode a0 a1 a2 = some r) :
  CallH Try.prog 60 [.one (.d (.sl (List.map eTNode a0))),.one (.d (.int .i64 a1)),.one (.d (.int .i64 a2))] []
   (.one (.d (.int .i64 r))) [] := by
 unfold L_table_Mode at hD
 refine rc Try.func60 rfl Try.ntmps60 fun S Φ P0 wb ac h => ?_
 refine qs 2 [] [0,1,2] [] h fun ac wd h => ?_
 obtain ⟨r7,ab,hD⟩ := oB hD
 have ad := L_table_at_ok ab
 refine qs 12 [factE 5 ad] [7] [(9,0)] h fun ac wd h => ?_
 refine qs 15 [] [6] [] h fun ac wd h => ?_
 refine wp_ret ?_
 injection hD with hD
 subst hD
 exact rE h [.tmp 6]

theorem L_slices_Clone_table_Send_table_Send_own {a0 : (List TSend)} {r : (List TSend)} (hD : L_slices_Clone_table_Send_table_Send a0 = some r) :
  CallH Try.prog 106 [.one (.d (.sl (List.map eTSend a0)))] []
   (.one (.own (1,0) r.length)) [((1,0),some (.row 50 2 (dat (List.map eTSend r))))] := by
 unfold L_slices_Clone_table_Send_table_Send at hD
 refine rc Try.func106 rfl Try.ntmps106 fun S Φ P0 wb ac h => ?_
 refine qs 2 [] [0] [] h fun ac wd h => ?_
 refine wp_seq ?_
 refine qs 4 [] [0,4] [] h fun ac wd h => ?_
 refine r_condB h (by simp only [EZ,simprocAttr, *] <;> rfl) (fun aa => ?_) (fun aa => ?_)
 ·
  have aa := aa rfl
  obtain rfl : a0 = [] := List.eq_nil_of_length_eq_zero (by simpa using aa)
  have hD : (some []) = some r := by simpa using hD
  refine qs 5 [] [2] [] h fun ac wd h => ?_
  refine wp_ret ?_
  have h := SL.bornS h 2 50 2 (by simp only [EZ,simprocAttr, *] <;> rfl)
  have h := h.sw (1,0) (5,0) 6
  injection hD with hD
  subst hD
  exact rO h [.tmp 2] [(1,0)]
 ·
  refine wp_skip ?_
  change Code.wp Try.prog _ _ _ _
  obtain ⟨ab,hD⟩ := iT hD
  refine qs 8 [] [2] [(6,0)] h fun ac wd h => ?_
  refine wp_ret ?_
  have h := h.sw (1,0) (6,0) 8
  injection hD with hD
  subst hD
  exact rO h [.tmp 2] [(1,0)]
theorem L_slices_Clone_table_Send_table_Send_ok {a0 : (List TSend)} {r : (List TSend)} (hD : L_slices_Clone_table_Send_table_Send a0 = some r) :
  CallH Try.prog 106 [.one (.d (.sl (List.map eTSend a0)))] []
   (.one (.d (.sl (List.map eTSend r)))) [] :=
 (L_slices_Clone_table_Send_table_Send_own hD).fr

theorem L_table_Picked_own {a0 : (List TNode)} {a1 : Int} {a2 : Int} {a3 : Int} {r : TPick × Bool} (hD : L_table_Picked a0 a1 a2 a3 = some r) :
  CallH Try.prog 59 [.one (.d (.sl (List.map eTNode a0))),.one (.d (.int .i64 a1)),.one (.d (.int .i64 a2)),.one (.d (.int .i64 a3))] []
   (.tup [.inl [.d (.int .i64 r.1.Next),.own (1,0) r.1.Sends.length],.inr (.d (.bool r.2))]) [((1,0),some (.row 50 2 (dat (List.map eTSend r.1.Sends))))] := by
 unfold L_table_Picked at hD
 refine rc Try.func59 rfl Try.ntmps59 fun S Φ P0 wb ac h => ?_
 refine qs 3 [] [0,1,2,3,8] [(1,0)] h fun ac wd h => ?_
 obtain ⟨aa,ab,hD⟩ := oB hD
 have ad := L_table_at_ok ab
 refine qs 13 [factE 6 ad] [3,8,10] [(1,0),(10,0)] h fun ac wd h => ?_
 refine wp_seq ?_
 obtain ⟨ae,af,hD⟩ := Option.bind_eq_some_iff.1 hD
 refine r_seqJ (fun ac wd => ∃ (ag : Bool),ag = ae ∧ SL ⟨wb,S,Φ,P0⟩ 43 22 [(3,.one (.d (.int .i64 a3))),(8,.one (.ptr (1,0) 0)),(10,.one (.ptr (10,0) 0)),(27,.one (.d (.bool ag)))] [((1,0),some (.box 46 [.d (.int .i64 0),.nil])),((10,0),some (.box 43 [.d (.int .i64 aa.1.Mode),.d (.sl (List.map eI aa.1.Waits)),.d (.sl (List.map eTPick aa.1.Picks)),.d (.sl (List.map eTTake aa.1.Takes))]))] ac wd) ?_ ?_
 ·
  rcases i2 af with ⟨ah,af⟩ | ⟨ah,af⟩
  ·
   refine qeg [] [none,none,none,some (some 21,false),some (some 21,false),some (some 21,false),some (some 21,false),some (some 21,false),none] [3,8,10,27] [(1,0),(10,0)] h fun ac wd h => ?_
   injection af with af; subst af
   exact ⟨true,rfl,h.z⟩
  ·
   refine qeg [] [none,none,none,some (some 21,false),some (some 21,false),some (some 21,false),some (some 21,false),some (some 21,false),none] [3,8,10,27] [(1,0),(10,0)] h fun ac wd h => ?_
   injection af with af; subst af
   exact ⟨decide (a3 ≥ (aa.1.Picks.length : Int)),rfl,h.z⟩
 ·
  rintro ac wd ⟨ag,rfl,h⟩
  (try dsimp only at hD)
  rcases i2b hD with ⟨ai,hD⟩ | ⟨ai,hD⟩
  ·
   refine kT h ?_
   refine qs 25 [] [8,9] [(1,0)] h fun ac wd h => ?_
   refine wp_ret ?_
   have h := SL.bornB h (1,0) 1 50 2 (by simp only [EZ,simprocAttr, *] <;> rfl) (by simp only [EZ,simprocAttr, *] <;> rfl)
   have h := h.sw (1,0) (25,0) 26
   injection hD with hD
   subst hD
   exact rO h [.cell 8 46,.tmp 9] [(1,0)]
  ·
   refine kF h ?_
   refine wp_skip ?_
   change Code.wp Try.prog _ _ _ _
   obtain ⟨aj,ak,al,am,an,hD⟩ := aB hD
   obtain ⟨ao,ap,hD⟩ := oB hD
   have aq := ((L_slices_Clone_table_Send_table_Send_own ap).cls 34).z
   refine ds 38 [factO aq] [8,9] [(1,0),(34,0)] h fun ac wd h => ?_
   refine wp_ret ?_
   have h := h.sw (1,0) (34,0) 38
   injection hD with hD
   subst hD
   exact rO h [.cell 8 46,.tmp 9] [(1,0)]
theorem L_table_Picked_ok {a0 : (List TNode)} {a1 : Int} {a2 : Int} {a3 : Int} {r : TPick × Bool} (hD : L_table_Picked a0 a1 a2 a3 = some r) :
  CallH Try.prog 59 [.one (.d (.sl (List.map eTNode a0))),.one (.d (.int .i64 a1)),.one (.d (.int .i64 a2)),.one (.d (.int .i64 a3))] []
   (.tup [.inl [.d (.int .i64 r.1.Next),.d (.sl (List.map eTSend r.1.Sends))],.inr (.d (.bool r.2))]) [] :=
 (L_table_Picked_own hD).fr

theorem L_slices_Clone_api_Msg_api_Msg_own {a0 : (List TMsg)} {r : (List TMsg)} (hD : L_slices_Clone_api_Msg_api_Msg a0 = some r) :
  CallH Try.prog 121 [.one (.d (.sl (List.map eTMsg a0)))] []
   (.one (.own (1,0) r.length)) [((1,0),some (.row 59 2 (dat (List.map eTMsg r))))] := by
 unfold L_slices_Clone_api_Msg_api_Msg at hD
 refine rc Try.func121 rfl Try.ntmps121 fun S Φ P0 wb ac h => ?_
 refine qs 2 [] [0] [] h fun ac wd h => ?_
 refine wp_seq ?_
 refine qs 4 [] [0,4] [] h fun ac wd h => ?_
 refine r_condB h (by simp only [EZ,simprocAttr, *] <;> rfl) (fun aa => ?_) (fun aa => ?_)
 ·
  have aa := aa rfl
  obtain rfl : a0 = [] := List.eq_nil_of_length_eq_zero (by simpa using aa)
  have hD : (some []) = some r := by simpa using hD
  refine qs 5 [] [2] [] h fun ac wd h => ?_
  refine wp_ret ?_
  have h := SL.bornS h 2 59 2 (by simp only [EZ,simprocAttr, *] <;> rfl)
  have h := h.sw (1,0) (5,0) 6
  injection hD with hD
  subst hD
  exact rO h [.tmp 2] [(1,0)]
 ·
  refine wp_skip ?_
  change Code.wp Try.prog _ _ _ _
  obtain ⟨ab,hD⟩ := iT hD
  refine qs 8 [] [2] [(6,0)] h fun ac wd h => ?_
  refine wp_ret ?_
  have h := h.sw (1,0) (6,0) 8
  injection hD with hD
  subst hD
  exact rO h [.tmp 2] [(1,0)]
theorem L_slices_Clone_api_Msg_api_Msg_ok {a0 : (List TMsg)} {r : (List TMsg)} (hD : L_slices_Clone_api_Msg_api_Msg a0 = some r) :
  CallH Try.prog 121 [.one (.d (.sl (List.map eTMsg a0)))] []
   (.one (.d (.sl (List.map eTMsg r)))) [] :=
 (L_slices_Clone_api_Msg_api_Msg_own hD).fr

theorem L_plain_own_own {a0 : TConf} {r : TConf} (hD : L_plain_own a0 = some r) :
  CallH Try.prog 93 [.agg (cTConf a0)] []
   (.agg [.own (1,0) r.States.length,.own (1,1) r.Links.length,.own (1,2) r.Sent.length]) [((1,0),some (.row 3 1 (dat (List.map eI r.States)))),((1,1),some (.row 170 1 (openRows cols_170 (List.map (eL eTMsg) r.Links)))),((1,2),some (.row 3 1 (dat (List.map eI r.Sent))))] := by
 unfold L_plain_own at hD
 refine rc Try.func93 rfl Try.ntmps93 fun S Φ P0 wb ac h => ?_
 refine qs 3 [] [1,2] [(1,0),(2,0)] h fun ac wd h => ?_
 obtain ⟨aa,hD⟩ := iT hD
 obtain ⟨ab,hD⟩ := iT hD
 obtain ⟨ad,hD⟩ := iT hD
 obtain ⟨ae,hD⟩ := iT hD
 obtain ⟨af,hD⟩ := iT hD
 obtain ⟨ag,hD⟩ := iT hD
 refine ds 18 [] [1,2,3] [(1,0),(2,0),(6,0),(10,0),(14,0),(16,0)] h fun ac wd h => ?_
 have h := h.nilTr (10,0) (l := List.replicate a0.Links.length [.nil]) (l' := List.replicate a0.Links.length [.tr (.sl 59 2 (fun _ => .sc)) (.sl (List.map eTMsg []))]) (by simp only [EZ,simprocAttr, *] <;> rfl) (RowsTo.rep (RowTo.cons (.inr (.inr ⟨rfl,_,_,_,rfl⟩)) RowTo.nil) _)
 have h := h.sm 18 [(1,.one (.ptr (1,0) 0)),(2,.one (.ptr (2,0) 0)),(3,.one (.ptr (16,0) 0))]
  [((1,0),some (.box 104 (cTConf a0))),((2,0),some (.box 104 [.nil,.nil,.nil])),((6,0),some (.row 3 1 (dat (List.map eI (List.replicate a0.States.length 0))))),((10,0),some (.row 170 1 (List.replicate a0.Links.length [.tr (.sl 59 2 (fun _ => .sc)) (.sl (List.map eTMsg []))]))),((14,0),some (.row 3 1 (dat (List.map eI (List.replicate a0.Sent.length 0))))),((16,0),some (.box 104 [.own (6,0) a0.States.length,.own (10,0) a0.Links.length,.own (14,0) a0.Sent.length]))]
 obtain ⟨ah,ai,hD⟩ := vB hD
 have h := h.same [1,2,3] [(1,0),(2,0),(6,0),(10,0),(14,0),(16,0)] 18 [(1,.one (.ptr (1,0) 0)),(2,.one (.ptr (2,0) 0)),(3,.one (.ptr (16,0) 0))]
  [((1,0),some (.box 104 (cTConf a0))),((2,0),some (.box 104 [.nil,.nil,.nil])),((6,0),some (.row 3 1 (dat (List.map eI ah)))),((10,0),some (.row 170 1 (openRows cols_170 (List.map (eL eTMsg) (List.replicate a0.Links.length []))))),((14,0),some (.row 3 1 (dat (List.map eI (List.replicate a0.Sent.length 0))))),((16,0),some (.box 104 [.own (6,0) ah.length,.own (10,0) a0.Links.length,.own (14,0) a0.Sent.length]))]
  (by simp only [EZ,simprocAttr,aa,ab,ad,ae,af,ag,dat_open,← ai] <;> rfl)
 have aj : ((a0.States.take ah.length) ++ ah.drop (a0.States.take ah.length).length).length = ah.length := by simp only [List.append_assoc,List.length_append,List.length_take,List.length_drop]; omega
 simp only [List.append_assoc,List.length_append,List.length_take,List.length_drop] at aj
 refine qs 23 [] [1,2,3] [(1,0),(2,0),(6,0),(10,0),(14,0),(16,0)] h fun ac wd h => ?_
 obtain ⟨ak,al,hD⟩ := vB hD
 have h := h.same [1,2,3] [(1,0),(2,0),(6,0),(10,0),(14,0),(16,0)] 23 [(1,.one (.ptr (1,0) 0)),(2,.one (.ptr (2,0) 0)),(3,.one (.ptr (16,0) 0))]
  [((1,0),some (.box 104 (cTConf a0))),((2,0),some (.box 104 [.nil,.nil,.nil])),((6,0),some (.row 3 1 (dat (List.map eI ((a0.States.take ah.length) ++ ah.drop (a0.States.take ah.length).length))))),((10,0),some (.row 170 1 (openRows cols_170 (List.map (eL eTMsg) (List.replicate a0.Links.length []))))),((14,0),some (.row 3 1 (dat (List.map eI ak)))),((16,0),some (.box 104 [.own (6,0) ((min ah.length a0.States.length) + (ah.length - ((a0.States.take ah.length).length))),.own (10,0) a0.Links.length,.own (14,0) ak.length]))]
  (by simp only [EZ,simprocAttr,aa,ab,ad,ae,af,ag,aj,dat_open,← al] <;> rfl)
 have am : ((a0.Sent.take ak.length) ++ ak.drop (a0.Sent.take ak.length).length).length = ak.length := by simp only [List.append_assoc,List.length_append,List.length_take,List.length_drop]; omega
 simp only [List.append_assoc,List.length_append,List.length_take,List.length_drop] at am
 refine qs 28 [] [1,2,3] [(1,0),(2,0),(6,0),(10,0),(14,0),(16,0)] h fun ac wd h => ?_
 refine wp_seq ?_
 refine qs 32 [] [2,3,30,31,32] [(2,0),(6,0),(10,0),(14,0),(16,0)] h fun ac wd h => ?_
 refine wp_block ?_
 refine r_while (fun nf ac wd => ∃ (an : Int) (ao : List (List TMsg)),L_plain_own_l1 a0 ah ak nf an ao = some r ∧ SL ⟨wb,S,Φ,P0⟩ 45 62 [(2,.one (.ptr (2,0) 0)),(3,.one (.ptr (16,0) 0)),(30,.one (.d (.sl (List.map (eL eTMsg) a0.Links)))),(31,.one (.d (.int .i64 (a0.Links.length : Int)))),(32,.one (.d (.int .i64 an)))] [((2,0),some (.box 104 [.nil,.nil,.nil])),((6,0),some (.row 3 1 (dat (List.map eI ((a0.States.take ah.length) ++ ah.drop (a0.States.take ah.length).length))))),((10,0),some (.row 170 1 (openRows cols_170 (List.map (eL eTMsg) ao)))),((14,0),some (.row 3 1 (dat (List.map eI ((a0.Sent.take ak.length) ++ ak.drop (a0.Sent.take ak.length).length))))),((16,0),some (.box 104 [.own (6,0) ((min ah.length a0.States.length) + (ah.length - ((a0.States.take ah.length).length))),.own (10,0) ao.length,.own (14,0) ((min ak.length a0.Sent.length) + (ak.length - ((a0.Sent.take ak.length).length)))]))] ac wd) (((a0.Links.length : Int) - 0).toNat + 1) ⟨0,((List.replicate a0.Links.length []) : List (List TMsg)),hD,h.z⟩ (fun nf ac wd hJ => ?_)
 obtain ⟨an,ao,ap,h⟩ := hJ
 cases nf with
 | zero => rw [L_plain_own_l1] at ap; cases ap
 | succ nf =>
  rw [L_plain_own_l1] at ap
  refine qs 63 [] [2,3,30,31,32,33] [(2,0),(6,0),(10,0),(14,0),(16,0)] h fun ac wd h => ?_
  refine wp_seq ?_
  rcases i2 ap with ⟨aq,ap⟩ | ⟨aq,ap⟩
  ·
   refine kT h ?_
   refine wp_skip ?_
   change Code.wp Try.prog _ _ _ _
   refine wp_seq ?_
   refine wp_block ?_
   obtain ⟨ar,au,av,aw,ax,ap⟩ := aB ap
   refine qs 68 [] [2,3,4,5,30,31,32] [(2,0),(6,0),(10,0),(14,0),(16,0)] h fun ac wd h => ?_
   obtain ⟨ay,az,ap⟩ := oB ap
   obtain ⟨aA,aC,aD,aE,aF,ap⟩ := aB ap
   have aG := ((L_slices_Clone_api_Msg_api_Msg_own az).cls 72).z
   refine de [factO aG] [2,3,30,31,32] [(2,0),(6,0),(10,0),(14,0),(16,0),(72,0)] h fun ac wd h => ?_
   have h := h.fS (cols := (fun _ => .sc)) (10,0) (72,0) (openRows cols_170 (List.map (eL eTMsg) ao)) an.toNat [.own (72,0) ay.length] 0 (List.map eTMsg ay) (sc_59 _)
   have h := h.sm 75 [(2,.one (.ptr (2,0) 0)),(3,.one (.ptr (16,0) 0)),(30,.one (.d (.sl (List.map (eL eTMsg) a0.Links)))),(31,.one (.d (.int .i64 (a0.Links.length : Int)))),(32,.one (.d (.int .i64 an)))]
    [((2,0),some (.box 104 [.nil,.nil,.nil])),((6,0),some (.row 3 1 (dat (List.map eI ((a0.States.take ah.length) ++ ah.drop (a0.States.take ah.length).length))))),((10,0),some (.row 170 1 ((openRows cols_170 (List.map (eL eTMsg) ao)).set an.toNat [.tr (.sl 59 2 (fun _ => .sc)) (.sl (List.map eTMsg ay))]))),((14,0),some (.row 3 1 (dat (List.map eI ((a0.Sent.take ak.length) ++ ak.drop (a0.Sent.take ak.length).length))))),((16,0),some (.box 104 [.own (6,0) ((min ah.length a0.States.length) + (ah.length - ((a0.States.take ah.length).length))),.own (10,0) ao.length,.own (14,0) ((min ak.length a0.Sent.length) + (ak.length - ((a0.Sent.take ak.length).length)))]))]
   change Code.wp Try.prog _ _ _ _
   refine qe [] [2,3,30,31,32] [(2,0),(6,0),(10,0),(14,0),(16,0)] h fun ac wd h => ?_
   exact ⟨nf,Nat.lt_succ_self nf,(IntKind.wrap .i64 (an + 1)),(ao.set an.toNat ay),ap,h.z⟩
  ·
   refine kF h ?_
   refine wp_exit ?_
   change Code.wp Try.prog _ _ _ _
   refine qs 65 [] [2] [(2,0),(6,0),(10,0),(14,0)] h fun ac wd h => ?_
   refine wp_ret ?_
   have h := h.sw (1,0) (6,0) 65
   have h := h.sw (1,1) (10,0) 65
   have h := h.sw (1,2) (14,0) 65
   injection ap with ap
   subst ap
   exact rO h [.cell 2 104] [(1,0),(1,1),(1,2)]
theorem L_plain_own_ok {a0 : TConf} {r : TConf} (hD : L_plain_own a0 = some r) :
  CallH Try.prog 93 [.agg (cTConf a0)] []
   (.agg [.d (.sl (List.map eI r.States)),.d (.sl (List.map (eL eTMsg) r.Links)),.d (.sl (List.map eI r.Sent))]) [] :=
 (L_plain_own_own hD).fr

theorem L_plain_App_pick_own {a0 : TApp} {a1 : TConf} {a2 : TStep} {r : TConf × Int} (hD : L_plain_App_pick a0 a1 a2 = some r) :
  CallH Try.prog 119 [.agg (cTApp a0),.agg (cTConf a1),.agg (cTStep a2)] []
   (.tup [.inl [.own (1,0) r.1.States.length,.own (1,1) r.1.Links.length,.own (1,2) r.1.Sent.length],.inr (.d (.int .i64 r.2))]) [((1,0),some (.row 3 1 (dat (List.map eI r.1.States)))),((1,1),some (.row 170 1 (openRows cols_170 (List.map (eL eTMsg) r.1.Links)))),((1,2),some (.row 3 1 (dat (List.map eI r.1.Sent))))] := by
 unfold L_plain_App_pick at hD
 refine rc Try.func119 rfl Try.ntmps119 fun S Φ P0 wb ac h => ?_
 refine qs 6 [] [3,4,5,6] [(1,0),(2,0),(3,0),(4,0)] h fun ac wd h => ?_
 refine wp_seq ?_
 obtain ⟨aa,ab,hD⟩ := Option.bind_eq_some_iff.1 hD
 refine r_seqJ (fun ac wd => ∃ (ad : Bool),ad = aa ∧ SL ⟨wb,S,Φ,P0⟩ 113 17 [(3,.one (.ptr (1,0) 0)),(4,.one (.ptr (2,0) 0)),(5,.one (.ptr (3,0) 0)),(6,.one (.ptr (4,0) 0)),(25,.one (.d (.bool ad)))] [((1,0),some (.box 53 (cTApp a0))),((2,0),some (.box 104 (cTConf a1))),((3,0),some (.box 125 (cTStep a2))),((4,0),some (.box 104 [.nil,.nil,.nil]))] ac wd) ?_ ?_
 ·
  rcases i2 ab with ⟨ae,ab⟩ | ⟨ae,ab⟩
  ·
   refine qeg [] [none,none,none,none,some (some 18,false),some (some 18,false),some (some 18,false),some (some 18,false),some (some 18,false),some (some 18,false),none] [3,4,5,6,25] [(1,0),(2,0),(3,0),(4,0)] h fun ac wd h => ?_
   injection ab with ab; subst ab
   exact ⟨true,rfl,h.z⟩
  ·
   refine qeg [] [none,none,none,none,some (some 18,false),some (some 18,false),some (some 18,false),some (some 18,false),some (some 18,false),some (some 18,false),none] [3,4,5,6,25] [(1,0),(2,0),(3,0),(4,0)] h fun ac wd h => ?_
   injection ab with ab; subst ab
   exact ⟨decide (a2.Node ≥ a0.G.N),rfl,h.z⟩
 ·
  rintro ac wd ⟨ad,rfl,h⟩
  (try dsimp only at hD)
  rcases i2b hD with ⟨af,hD⟩ | ⟨af,hD⟩
  ·
   refine kT h ?_
   refine qs 20 [] [6,7] [(4,0)] h fun ac wd h => ?_
   refine wp_ret ?_
   have h := SL.bornB h (4,0) 0 3 1 (by simp only [EZ,simprocAttr, *] <;> rfl) (by simp only [EZ,simprocAttr, *] <;> rfl)
   have h := SL.bornB h (4,0) 1 170 1 (by simp only [EZ,simprocAttr, *] <;> rfl) (by simp only [EZ,simprocAttr, *] <;> rfl)
   have h := SL.bornB h (4,0) 2 3 1 (by simp only [EZ,simprocAttr, *] <;> rfl) (by simp only [EZ,simprocAttr, *] <;> rfl)
   have h := h.sw (1,0) (20,0) 23
   have h := h.sw (1,1) (21,0) 23
   have h := h.sw (1,2) (22,0) 23
   injection hD with hD
   subst hD
   exact rO h [.cell 6 104,.tmp 7] [(1,0),(1,1),(1,2)]
  ·
   refine kF h ?_
   refine wp_skip ?_
   change Code.wp Try.prog _ _ _ _
   obtain ⟨ag,ah,ai,aj,ak,hD⟩ := aB hD
   refine qs 24 [] [3,4,5,6,8] [(1,0),(2,0),(3,0),(4,0)] h fun ac wd h => ?_
   refine wp_seq ?_
   obtain ⟨al,am,hD⟩ := oB hD
   have an := L_table_Mode_ok am
   refine qs 31 [factE 29 an] [3,4,5,6,8,39] [(1,0),(2,0),(3,0),(4,0)] h fun ac wd h => ?_
   rcases i2e hD with ⟨ao,hD⟩ | ⟨ao,hD⟩
   ·
    refine kF h ?_
    refine wp_skip ?_
    change Code.wp Try.prog _ _ _ _
    obtain ⟨ap,aq,hD⟩ := oB hD
    have ar := L_table_Picked_ok aq
    refine qs 45 [factE 38 ar] [3,4,5,6,9,10] [(1,0),(2,0),(3,0),(4,0),(42,0)] h fun ac wd h => ?_
    refine wp_seq ?_
    refine qs 47 [] [3,4,5,6,9,53] [(1,0),(2,0),(3,0),(4,0),(42,0)] h fun ac wd h => ?_
    rcases i2b hD with ⟨au,hD⟩ | ⟨au,hD⟩
    ·
     refine kF h ?_
     refine wp_skip ?_
     change Code.wp Try.prog _ _ _ _
     obtain ⟨av,aw,hD⟩ := oB hD
     have ax := ((L_plain_own_own aw).cls 48).z
     refine qs 51 [factO ax] [3,5,6,9,11] [(1,0),(3,0),(4,0),(42,0),(48,0),(48,1),(48,2),(49,0)] h fun ac wd h => ?_
     obtain ⟨ay,az,aA,aC,aD,hD⟩ := aB hD
     refine qs 59 [] [3,5,6,9,11] [(1,0),(3,0),(4,0),(42,0),(48,0),(48,1),(48,2),(49,0)] h fun ac wd h => ?_
     refine wp_seq ?_
     refine qs 63 [] [3,5,6,11,65,66,67] [(1,0),(3,0),(4,0),(48,0),(48,1),(48,2),(49,0)] h fun ac wd h => ?_
     refine wp_block ?_
     refine r_while (fun nf ac wd => ∃ (aE : Int) (aF : List (List TMsg)) (aG : List Int),L_plain_App_pick_l1 a0 a2 ap av nf aE aF aG = some r ∧ SL ⟨wb,S,Φ,P0⟩ 113 163 [(3,.one (.ptr (1,0) 0)),(5,.one (.ptr (3,0) 0)),(6,.one (.ptr (4,0) 0)),(11,.one (.ptr (49,0) 0)),(65,.one (.d (.sl (List.map eTSend ap.1.Sends)))),(66,.one (.d (.int .i64 (ap.1.Sends.length : Int)))),(67,.one (.d (.int .i64 aE)))] [((1,0),some (.box 53 (cTApp a0))),((3,0),some (.box 125 (cTStep a2))),((4,0),some (.box 104 [.nil,.nil,.nil])),((48,0),some (.row 3 1 (dat (List.map eI (av.States.set a2.Node.toNat ap.1.Next))))),((48,1),some (.row 170 1 (openRows cols_170 (List.map (eL eTMsg) aF)))),((48,2),some (.row 3 1 (dat (List.map eI aG)))),((49,0),some (.box 104 [.own (48,0) av.States.length,.own (48,1) aF.length,.own (48,2) aG.length]))] ac wd) (((ap.1.Sends.length : Int) - 0).toNat + 1) ⟨0,av.Links,av.Sent,hD,h.z⟩ (fun nf ac wd hJ => ?_)
     obtain ⟨aE,aF,aG,aH,h⟩ := hJ
     cases nf with
     | zero => rw [L_plain_App_pick_l1] at aH; cases aH
     | succ nf =>
      rw [L_plain_App_pick_l1] at aH
      refine qs 164 [] [3,5,6,11,65,66,67,68] [(1,0),(3,0),(4,0),(48,0),(48,1),(48,2),(49,0)] h fun ac wd h => ?_
      refine wp_seq ?_
      rcases i2 aH with ⟨aI,aH⟩ | ⟨aI,aH⟩
      ·
       refine kT h ?_
       refine wp_skip ?_
       change Code.wp Try.prog _ _ _ _
       refine wp_seq ?_
       refine wp_block ?_
       obtain ⟨aJ,aK,aL,aM,aN,aH⟩ := aB aH
       refine qs 168 [] [3,5,6,11,13,65,66,67] [(1,0),(3,0),(4,0),(48,0),(48,1),(48,2),(49,0),(166,0)] h fun ac wd h => ?_
       obtain ⟨aO,aP,aH⟩ := oB aH
       have aQ := L_graph_Find_ok aP
       refine qs 176 [factE 174 aQ] [3,5,6,11,13,14,65,66,67] [(1,0),(3,0),(4,0),(48,0),(48,1),(48,2),(49,0),(166,0)] h fun ac wd h => ?_
       refine wp_seq ?_
       obtain ⟨aR,aS,aT,aU,aV,aH⟩ := aB aH
       refine qs 182 [] [3,5,6,11,13,14,65,66,67,83] [(1,0),(3,0),(4,0),(48,0),(48,1),(48,2),(49,0),(166,0)] h fun ac wd h => ?_
       rcases i2 aH with ⟨aW,aH⟩ | ⟨aW,aH⟩
       ·
        refine kT h ?_
        refine qs 185 [] [6,7] [(4,0)] h fun ac wd h => ?_
        refine wp_ret ?_
        have h := SL.bornB h (4,0) 0 3 1 (by simp only [EZ,simprocAttr, *] <;> rfl) (by simp only [EZ,simprocAttr, *] <;> rfl)
        have h := SL.bornB h (4,0) 1 170 1 (by simp only [EZ,simprocAttr, *] <;> rfl) (by simp only [EZ,simprocAttr, *] <;> rfl)
        have h := SL.bornB h (4,0) 2 3 1 (by simp only [EZ,simprocAttr, *] <;> rfl) (by simp only [EZ,simprocAttr, *] <;> rfl)
        have h := h.sw (1,0) (185,0) 188
        have h := h.sw (1,1) (186,0) 188
        have h := h.sw (1,2) (187,0) 188
        injection aH with aH
        subst aH
        exact rO h [.cell 6 104,.tmp 7] [(1,0),(1,1),(1,2)]
       ·
        refine kF h ?_
        refine wp_skip ?_
        change Code.wp Try.prog _ _ _ _
        refine qs 190 [] [3,5,6,11,13,14,65,66,67] [(1,0),(3,0),(4,0),(48,0),(48,1),(48,2),(49,0),(166,0)] h fun ac wd h => ?_
        obtain ⟨aX,aY,aZ,ba,bb,aH⟩ := aB aH
        have h := h.op (48,1) aO.toNat 0
        have h := h.sm 191 [(3,.one (.ptr (1,0) 0)),(5,.one (.ptr (3,0) 0)),(6,.one (.ptr (4,0) 0)),(11,.one (.ptr (49,0) 0)),(13,.one (.ptr (166,0) 0)),(14,.one (.d (.int .i64 aO))),(65,.one (.d (.sl (List.map eTSend ap.1.Sends)))),(66,.one (.d (.int .i64 (ap.1.Sends.length : Int)))),(67,.one (.d (.int .i64 aE)))]
         [((1,0),some (.box 53 (cTApp a0))),((3,0),some (.box 125 (cTStep a2))),((4,0),some (.box 104 [.nil,.nil,.nil])),((48,0),some (.row 3 1 (dat (List.map eI (av.States.set a2.Node.toNat ap.1.Next))))),((48,1),some (.row 170 1 ((openRows cols_170 (List.map (eL eTMsg) aF)).set aO.toNat [.own (190,0) aX.length]))),((48,2),some (.row 3 1 (dat (List.map eI (aG.set aO.toNat (IntKind.wrap .i64 (aR + 1))))))),((49,0),some (.box 104 [.own (48,0) av.States.length,.own (48,1) aF.length,.own (48,2) aG.length])),((166,0),some (.box 50 (cTSend aJ))),((190,0),some (.row 59 2 (dat (List.map eTMsg aX))))]
        obtain ⟨bc,bd,aH⟩ := vB aH
        have h := h.same [3,5,6,11,13,14,65,66,67] [(1,0),(3,0),(4,0),(48,0),(48,1),(48,2),(49,0),(166,0),(190,0)] 191 [(3,.one (.ptr (1,0) 0)),(5,.one (.ptr (3,0) 0)),(6,.one (.ptr (4,0) 0)),(11,.one (.ptr (49,0) 0)),(13,.one (.ptr (166,0) 0)),(14,.one (.d (.int .i64 aO))),(65,.one (.d (.sl (List.map eTSend ap.1.Sends)))),(66,.one (.d (.int .i64 (ap.1.Sends.length : Int)))),(67,.one (.d (.int .i64 aE)))]
         [((1,0),some (.box 53 (cTApp a0))),((3,0),some (.box 125 (cTStep a2))),((4,0),some (.box 104 [.nil,.nil,.nil])),((48,0),some (.row 3 1 (dat (List.map eI (av.States.set a2.Node.toNat ap.1.Next))))),((48,1),some (.row 170 1 ((openRows cols_170 (List.map (eL eTMsg) aF)).set aO.toNat [.own (190,0) aX.length]))),((48,2),some (.row 3 1 (dat (List.map eI bc)))),((49,0),some (.box 104 [.own (48,0) av.States.length,.own (48,1) aF.length,.own (48,2) bc.length])),((166,0),some (.box 50 (cTSend aJ))),((190,0),some (.row 59 2 (dat (List.map eTMsg aX))))]
         (by simp only [EZ,simprocAttr,af,ah,ai,aj,ak,ao,au,az,aA,aC,aD,aI,aK,aL,aM,aN,aS,aT,aU,aV,aW,aY,aZ,ba,bb,dat_open,← bd] <;> rfl)
        obtain ⟨be,bf,bg,bh,bi,aH⟩ := aB aH
        obtain ⟨bj,aH⟩ := iT aH
        refine de [] [3,5,6,11,65,66,67] [(1,0),(3,0),(4,0),(48,0),(48,1),(48,2),(49,0),(208,0)] h fun ac wd h => ?_
        have h := h.fS (cols := (fun _ => .sc)) (48,1) (208,0) (openRows cols_170 (List.map (eL eTMsg) aF)) aO.toNat [.own (208,0) (aX.length + 1)] 0 (List.map eTMsg (aX ++ [(TMsg.mk be aJ.Letter)])) (sc_59 _)
        have h := h.sm 211 [(3,.one (.ptr (1,0) 0)),(5,.one (.ptr (3,0) 0)),(6,.one (.ptr (4,0) 0)),(11,.one (.ptr (49,0) 0)),(65,.one (.d (.sl (List.map eTSend ap.1.Sends)))),(66,.one (.d (.int .i64 (ap.1.Sends.length : Int)))),(67,.one (.d (.int .i64 aE)))]
         [((1,0),some (.box 53 (cTApp a0))),((3,0),some (.box 125 (cTStep a2))),((4,0),some (.box 104 [.nil,.nil,.nil])),((48,0),some (.row 3 1 (dat (List.map eI (av.States.set a2.Node.toNat ap.1.Next))))),((48,1),some (.row 170 1 ((openRows cols_170 (List.map (eL eTMsg) aF)).set aO.toNat [.tr (.sl 59 2 (fun _ => .sc)) (.sl (List.map eTMsg (aX ++ [(TMsg.mk be aJ.Letter)])))]))),((48,2),some (.row 3 1 (dat (List.map eI bc)))),((49,0),some (.box 104 [.own (48,0) av.States.length,.own (48,1) aF.length,.own (48,2) bc.length]))]
        change Code.wp Try.prog _ _ _ _
        refine qe [] [3,5,6,11,65,66,67] [(1,0),(3,0),(4,0),(48,0),(48,1),(48,2),(49,0)] h fun ac wd h => ?_
        exact ⟨nf,Nat.lt_succ_self nf,(IntKind.wrap .i64 (aE + 1)),(aF.set aO.toNat (aX ++ [(TMsg.mk be aJ.Letter)])),bc,aH,h.z⟩
      ·
       refine kF h ?_
       refine wp_exit ?_
       change Code.wp Try.prog _ _ _ _
       refine qs 167 [] [6,7] [(4,0),(48,0),(48,1),(48,2)] h fun ac wd h => ?_
       refine wp_ret ?_
       have h := h.sw (1,0) (48,0) 167
       have h := h.sw (1,1) (48,1) 167
       have h := h.sw (1,2) (48,2) 167
       injection aH with aH
       subst aH
       exact rO h [.cell 6 104,.tmp 7] [(1,0),(1,1),(1,2)]
    ·
     refine kT h ?_
     refine qs 50 [] [6,7] [(4,0)] h fun ac wd h => ?_
     refine wp_ret ?_
     have h := SL.bornB h (4,0) 0 3 1 (by simp only [EZ,simprocAttr, *] <;> rfl) (by simp only [EZ,simprocAttr, *] <;> rfl)
     have h := SL.bornB h (4,0) 1 170 1 (by simp only [EZ,simprocAttr, *] <;> rfl) (by simp only [EZ,simprocAttr, *] <;> rfl)
     have h := SL.bornB h (4,0) 2 3 1 (by simp only [EZ,simprocAttr, *] <;> rfl) (by simp only [EZ,simprocAttr, *] <;> rfl)
     have h := h.sw (1,0) (50,0) 53
     have h := h.sw (1,1) (51,0) 53
     have h := h.sw (1,2) (52,0) 53
     injection hD with hD
     subst hD
     exact rO h [.cell 6 104,.tmp 7] [(1,0),(1,1),(1,2)]
   ·
    refine kT h ?_
    refine qs 34 [] [6,7] [(4,0)] h fun ac wd h => ?_
    refine wp_ret ?_
    have h := SL.bornB h (4,0) 0 3 1 (by simp only [EZ,simprocAttr, *] <;> rfl) (by simp only [EZ,simprocAttr, *] <;> rfl)
    have h := SL.bornB h (4,0) 1 170 1 (by simp only [EZ,simprocAttr, *] <;> rfl) (by simp only [EZ,simprocAttr, *] <;> rfl)
    have h := SL.bornB h (4,0) 2 3 1 (by simp only [EZ,simprocAttr, *] <;> rfl) (by simp only [EZ,simprocAttr, *] <;> rfl)
    have h := h.sw (1,0) (34,0) 37
    have h := h.sw (1,1) (35,0) 37
    have h := h.sw (1,2) (36,0) 37
    injection hD with hD
    subst hD
    exact rO h [.cell 6 104,.tmp 7] [(1,0),(1,1),(1,2)]
theorem L_plain_App_pick_ok {a0 : TApp} {a1 : TConf} {a2 : TStep} {r : TConf × Int} (hD : L_plain_App_pick a0 a1 a2 = some r) :
  CallH Try.prog 119 [.agg (cTApp a0),.agg (cTConf a1),.agg (cTStep a2)] []
   (.tup [.inl [.d (.sl (List.map eI r.1.States)),.d (.sl (List.map (eL eTMsg) r.1.Links)),.d (.sl (List.map eI r.1.Sent))],.inr (.d (.int .i64 r.2))]) [] :=
 (L_plain_App_pick_own hD).fr

theorem L_plain_App_deliver_1_own {a0 : TMsg} {a1 : TStep} {r : Bool × TStep} (hD : L_plain_App_deliver_1 a0 a1 = some r) :
  CallH Try.prog 142 [.agg (cTMsg a0),.one (.ptr (0,0) 0)] [((0,0),some (.box 125 (cTStep a1)))]
   (.one (.d (.bool r.1))) [((0,0),some (.box 125 (cTStep r.2)))] := by
 unfold L_plain_App_deliver_1 at hD
 refine rc Try.func142 rfl Try.ntmps142 fun S Φ P0 wb ac h => ?_
 refine qs 3 [] [1,2] [(0,0),(1,0)] h fun ac wd h => ?_
 refine qs 9 [] [3] [(0,0)] h fun ac wd h => ?_
 refine wp_ret ?_
 injection hD with hD
 subst hD
 exact rO h [.tmp 3] [(0,0)]

theorem L_slices_IndexFunc_api_Msg_api_Msg_own {a0 : (List TMsg)} {a1 : TStep} {r : Int × TStep} (hD : L_slices_IndexFunc_api_Msg_api_Msg a0 a1 = some r) :
  CallH Try.prog 141 [.one (.d (.sl (List.map eTMsg a0))),.one (.fnp 142 [((0,0),0)])] [((0,0),some (.box 125 (cTStep a1)))]
   (.one (.d (.int .i64 r.1))) [((0,0),some (.box 125 (cTStep r.2)))] := by
 unfold L_slices_IndexFunc_api_Msg_api_Msg at hD
 refine rc Try.func141 rfl Try.ntmps141 fun S Φ P0 wb ac h => ?_
 refine qs 2 [] [0,1] [(0,0)] h fun ac wd h => ?_
 refine wp_seq ?_
 refine qs 5 [] [0,1,7,8] [(0,0)] h fun ac wd h => ?_
 refine wp_block ?_
 refine r_while (fun nf ac wd => ∃ (aa : Int) (ab : TStep),L_slices_IndexFunc_api_Msg_api_Msg_l1 a0 nf aa ab = some r ∧ SL ⟨wb,S,Φ,P0⟩ 19 27 [(0,.one (.d (.sl (List.map eTMsg a0)))),(1,.one (.fnp 142 [((0,0),0)])),(7,.one (.d (.int .i64 (a0.length : Int)))),(8,.one (.d (.int .i64 aa)))] [((0,0),some (.box 125 (cTStep ab)))] ac wd) (((a0.length : Int) - 0).toNat + 1) ⟨0,a1,hD,h.z⟩ (fun nf ac wd hJ => ?_)
 obtain ⟨aa,ab,ad,h⟩ := hJ
 cases nf with
 | zero => rw [L_slices_IndexFunc_api_Msg_api_Msg_l1] at ad; cases ad
 | succ nf =>
  rw [L_slices_IndexFunc_api_Msg_api_Msg_l1] at ad
  refine qs 28 [] [0,1,7,8,9] [(0,0)] h fun ac wd h => ?_
  refine wp_seq ?_
  rcases i2 ad with ⟨ae,ad⟩ | ⟨ae,ad⟩
  ·
   refine kT h ?_
   refine wp_skip ?_
   change Code.wp Try.prog _ _ _ _
   refine wp_seq ?_
   refine wp_block ?_
   refine qs 30 [] [0,1,5,7,8] [(0,0)] h fun ac wd h => ?_
   obtain ⟨af,ag,ah,ai,aj,ad⟩ := aB ad
   obtain ⟨ak,al,ad⟩ := oB ad
   have am := ((L_plain_App_deliver_1_own al).cls 35).z
   refine qs 36 [factR am] [0,1,5,7,8,16] [(0,0)] h fun ac wd h => ?_
   rcases i2b ad with ⟨an,ad⟩ | ⟨an,ad⟩
   ·
    refine kT h ?_
    refine qs 38 [] [4] [(0,0)] h fun ac wd h => ?_
    refine wp_ret ?_
    injection ad with ad
    subst ad
    exact rO h [.tmp 4] [(0,0)]
   ·
    refine kF h ?_
    refine wp_skip ?_
    change Code.wp Try.prog _ _ _ _
    refine qe [] [0,1,7,8] [(0,0)] h fun ac wd h => ?_
    exact ⟨nf,Nat.lt_succ_self nf,(IntKind.wrap .i64 (aa + 1)),ak.2,ad,h.z⟩
  ·
   refine kF h ?_
   refine wp_exit ?_
   change Code.wp Try.prog _ _ _ _
   refine qs 29 [] [4] [(0,0)] h fun ac wd h => ?_
   refine wp_ret ?_
   injection ad with ad
   subst ad
   exact rO h [.tmp 4] [(0,0)]

theorem L_table_Taken_ok {a0 : (List TNode)} {a1 : Int} {a2 : Int} {a3 : Int} {a4 : Int} {r : Int} (hD : L_table_Taken a0 a1 a2 a3 a4 = some r) :
  CallH Try.prog 62 [.one (.d (.sl (List.map eTNode a0))),.one (.d (.int .i64 a1)),.one (.d (.int .i64 a2)),.one (.d (.int .i64 a3)),.one (.d (.int .i64 a4))] []
   (.one (.d (.int .i64 r))) [] := by
 unfold L_table_Taken at hD
 refine rc Try.func62 rfl Try.ntmps62 fun S Φ P0 wb ac h => ?_
 refine qs 2 [] [0,1,2,3,4] [] h fun ac wd h => ?_
 obtain ⟨aa,ab,hD⟩ := oB hD
 have ad := L_table_at_ok ab
 refine qs 12 [factE 5 ad] [2,3,4,11] [(9,0)] h fun ac wd h => ?_
 refine wp_seq ?_
 refine qs 16 [] [2,3,4,23,24,25] [] h fun ac wd h => ?_
 refine wp_block ?_
 refine r_while (fun nf ac wd => ∃ (ae : Int),L_table_Taken_l1 a2 a3 a4 aa nf ae = some r ∧ SL ⟨wb,S,Φ,P0⟩ 43 50 [(2,.one (.d (.int .i64 a2))),(3,.one (.d (.int .i64 a3))),(4,.one (.d (.int .i64 a4))),(23,.one (.d (.sl (List.map eTTake aa.1.Takes)))),(24,.one (.d (.int .i64 (aa.1.Takes.length : Int)))),(25,.one (.d (.int .i64 ae)))] [] ac wd) (((aa.1.Takes.length : Int) - 0).toNat + 1) ⟨0,hD,h.z⟩ (fun nf ac wd hJ => ?_)
 obtain ⟨ae,af,h⟩ := hJ
 cases nf with
 | zero => rw [L_table_Taken_l1] at af; cases af
 | succ nf =>
  rw [L_table_Taken_l1] at af
  refine qs 51 [] [2,3,4,23,24,25,26] [] h fun ac wd h => ?_
  refine wp_seq ?_
  rcases i2 af with ⟨ag,af⟩ | ⟨ag,af⟩
  ·
   refine kT h ?_
   refine wp_skip ?_
   change Code.wp Try.prog _ _ _ _
   refine wp_seq ?_
   refine wp_block ?_
   obtain ⟨ah,ai,aj,ak,al,af⟩ := aB af
   refine qs 55 [] [2,3,4,14,23,24,25] [(53,0)] h fun ac wd h => ?_
   obtain ⟨am,an,af⟩ := Option.bind_eq_some_iff.1 af
   refine r_seqJ (fun ac wd => ∃ (ao : Bool),ao = am ∧ SL ⟨wb,S,Φ,P0⟩ 43 65 [(2,.one (.d (.int .i64 a2))),(3,.one (.d (.int .i64 a3))),(4,.one (.d (.int .i64 a4))),(14,.one (.ptr (53,0) 0)),(23,.one (.d (.sl (List.map eTTake aa.1.Takes)))),(24,.one (.d (.int .i64 (aa.1.Takes.length : Int)))),(25,.one (.d (.int .i64 ae))),(38,.one (.d (.bool ao)))] [((53,0),some (.box 48 (cTTake ah)))] ac wd) ?_ ?_
   ·
    rcases i2e an with ⟨ap,an⟩ | ⟨ap,an⟩
    ·
     refine qeg [] [none,none,none,none,none,some (some 33,true),some (some 33,true),some (some 33,true),some (some 33,true),none] [2,3,4,14,23,24,25,38] [(53,0)] h fun ac wd h => ?_
     injection an with an; subst an
     exact ⟨decide (ah.Letter = a4),rfl,h.z⟩
    ·
     refine qeg [] [none,none,none,none,none,some (some 33,true),some (some 33,true),some (some 33,true),some (some 33,true),none] [2,3,4,14,23,24,25,38] [(53,0)] h fun ac wd h => ?_
     injection an with an; subst an
     exact ⟨false,rfl,h.z⟩
   ·
    rintro ac wd ⟨ao,rfl,h⟩
    (try dsimp only at af)
    rcases i2b af with ⟨aq,af⟩ | ⟨aq,af⟩
    ·
     refine kT h ?_
     refine qs 68 [] [10] [] h fun ac wd h => ?_
     refine wp_ret ?_
     injection af with af
     subst af
     exact rE h [.tmp 10]
    ·
     refine kF h ?_
     refine wp_skip ?_
     change Code.wp Try.prog _ _ _ _
     refine qe [] [2,3,4,23,24,25] [] h fun ac wd h => ?_
     exact ⟨nf,Nat.lt_succ_self nf,(IntKind.wrap .i64 (ae + 1)),af,h.z⟩
  ·
   refine kF h ?_
   refine wp_exit ?_
   change Code.wp Try.prog _ _ _ _
   refine qs 53 [] [10] [] h fun ac wd h => ?_
   refine wp_ret ?_
   injection af with af
   subst af
   exact rE h [.tmp 10]

theorem L_slices_Delete_api_Msg_api_Msg_own {a0 : (List TMsg)} {a1 : Int} {a2 : Int} {r : (List TMsg)} (hD : L_slices_Delete_api_Msg_api_Msg a0 a1 a2 = some r) :
  CallH Try.prog 143 [.one (.own (0,0) a0.length),.one (.d (.int .i64 a1)),.one (.d (.int .i64 a2))] [((0,0),some (.row 59 2 (dat (List.map eTMsg a0))))]
   (.one (.own (0,0) r.length)) [((0,0),some (.row 59 2 (dat (List.map eTMsg r))))] := by
 unfold L_slices_Delete_api_Msg_api_Msg at hD
 refine rc Try.func143 rfl Try.ntmps143 (hz := by simp only [zeroB,uIds,EZ,simprocAttr] <;> rfl) fun S Φ P0 wb ac h => ?_
 refine qs 2 [] [0,1,2] [(0,0)] h fun ac wd h => ?_
 obtain ⟨aa,hD⟩ := iT hD
 obtain ⟨ab,hD⟩ := iT hD
 obtain ⟨ad,hD⟩ := iT hD
 have hle : (a0.length : Int) ≤ (a0.length : Int) := by omega
 refine qs 8 [] [0,1,2] [(0,0)] h fun ac wd h => ?_
 refine wp_seq ?_
 refine qs 11 [] [0,1,2,16] [(0,0)] h fun ac wd h => ?_
 rcases i2e hD with ⟨hb,hD⟩ | ⟨hb,hD⟩
 ·
  refine kT h ?_
  refine qs 13 [] [6] [(0,0)] h fun ac wd h => ?_
  refine wp_ret ?_
  injection hD with hD
  subst hD
  exact rO h [.tmp 6] [(0,0)]
 ·
  refine kF h ?_
  refine wp_skip ?_
  change Code.wp Try.prog _ _ _ _
  obtain ⟨ae,hD⟩ := iT hD
  injection hD with hD
  refine qs 14 [] [0,1,2,7] [(0,0)] h fun ac wd h => ?_
  obtain ⟨k,hk⟩ : ∃ k,k = a1.toNat + (a0.length - a2.toNat) := ⟨_,rfl⟩
  obtain ⟨W,hW⟩ : ∃ W,W = a0.take a1.toNat ++ (a0.drop a2.toNat ++ a0.drop (a1.toNat + (a0.length - a2.toNat))) := ⟨_,rfl⟩
  have hkl : k < a0.length := by omega
  have hWl : W.length = a0.length := by rw [hW]; simp only [List.length_append,List.length_take,List.length_drop]; omega
  have hWr : W.take k = r := by
   rw [hW,← List.append_assoc,List.take_append_of_le_length (by simp only [List.length_append,List.length_take,List.length_drop]; omega),List.take_of_length_le (by simp only [List.length_append,List.length_take,List.length_drop]; omega)]
   exact hD
  have hrl : r.length = k := by rw [← hWr,List.length_take]; omega
  clear hD
  have af : a1 ≤ (a0.length : Int) := by omega
  have ag : a2.toNat + (a0.length - a2.toNat) ≤ a0.length := by omega
  have ah : List.take (a0.length - a2.toNat) (List.drop a2.toNat a0) = List.drop a2.toNat a0 := List.take_of_length_le (by rw [List.length_drop]; omega)
  have ai : (List.drop a2.toNat a0).length = a0.length - a2.toNat := List.length_drop
  have aj : a1.toNat + (a0.length - a2.toNat) ≤ a0.length := by omega
  have ak : 0 ≤ a2 := by omega
  refine ds 22 [] [0,1,2,7] [(0,0)] h fun ac wd h => ?_
  have h := h.sm 22 [(0,.one (.own (0,0) k)),(7,.one (.d (.int .i64 (a0.length : Int))))] [((0,0),some (.row 59 2 (dat (List.map eTMsg W))))]
  clear hW hk af ag ah ai aj ak aa ab ad ae hb
  have ag : ¬ a0.length = k := by omega
  have ah : k ≤ a0.length := by omega
  have ai : (k : Int) ≤ (a0.length : Int) := by omega
  have aj : ¬ (a0.length : Int) ≤ (k : Int) := by omega
  have ak : (k : Int) < (a0.length : Int) := by omega
  have al : k + (a0.length - k) ≤ a0.length := by omega
  have am : (List.take (a0.length - k) (List.drop k W)).length = a0.length - k := by rw [List.length_take,List.length_drop]; omega
  refine qs 28 [] [0] [(0,0)] h fun ac wd h => ?_
  have h := h.head (0,0) k rfl
  have ht : ∀ Y,(dat (List.map eTMsg r) ++ Y).take k = dat (List.map eTMsg r) := fun Y => by
   rw [List.take_append_of_le_length (by rw [e_dat4,List.length_map]; omega),List.take_of_length_le (by rw [e_dat4,List.length_map]; omega)]
  clear hWr
  have h := h.sm 28 [(0,.one (.own (0,0) k))] [((0,0),some (.row 59 2 (dat (List.map eTMsg r))))]
  refine qs 30 [] [6] [(0,0)] h fun ac wd h => ?_
  refine wp_ret ?_
  exact rO h [.tmp 6] [(0,0)]

end Go.Proofs.Ytabbejabdkkaiaa
