/- Functions as typed ones,and that the program's functions answer as these do. No condition. -/
import Derived.Test.YtabbejabdkkaiaaGreatGb6
import Derived.Test.YtabbejabdkkaiaaGreatGd
set_option linter.unusedSimpArgs false
set_option linter.unusedVariables false
set_option maxRecDepth 20000
set_option maxHeartbeats 4000000
namespace Go.Proofs.YtabbejabdkkaiaaGreat
open Go.RowKit

theorem L_probe_Hear_own {a0 : TApp} {a1 : THost} {a2 : (List Int)} {a3 : Int} {a4 : TFrame} {r : (List Int) × (List TOut) × (List Int)} (hD : L_probe_Hear a0 a1 a2 a3 a4 = some r) :
  CallH Tryz.prog 17 [.agg (cTApp a0),.agg (cTHost a1),.one (.d (.sl (List.map eI a2))),.one (.d (.int .i64 a3)),.agg (cTFrame a4)] []
   (.tup [.inr (.d (.sl (List.map eI r.1))),.inr (.own (1,0) r.2.1.length),.inr (.own (1,1) r.2.2.length)]) [((1,0),some (.row 90 10 (openRows cols_90 (List.map eTOut r.2.1)))),((1,1),some (.row 3 1 (dat (List.map eI r.2.2))))] := by
 unfold L_probe_Hear at hD
 refine rc Tryz.func17 rfl Tryz.ntmps17 fun S Φ P0 wb ac h => ?_
 refine qs 7 [] [2,3,5,6,9] [(1,0),(2,0),(3,0)] h fun ac wd h => ?_
 refine qs 12 [] [2,3,5,6,9,13] [(1,0),(2,0),(3,0),(10,0)] h fun ac wd h => ?_
 refine qs 15 [] [2,3,5,6,9,13,14] [(1,0),(2,0),(3,0),(10,0)] h fun ac wd h => ?_
 refine wp_seq ?_
 obtain ⟨aa,ab,hD⟩ := Option.bind_eq_some_iff.1 hD
 refine r_seqJ (fun ac wd => ∃ (ad : Bool),ad = aa ∧ SL ⟨wb,S,Φ,P0⟩ 89 40 [(2,.one (.d (.sl (List.map eI a2)))),(6,.one (.ptr (2,0) 0)),(9,.one (.ptr (3,0) 0)),(13,.one (.ptr (10,0) 0)),(45,.one (.d (.bool ad)))] [((2,0),some (.box 31 (cTHost a1))),((3,0),some (.box 37 (cTFrame a4))),((10,0),some (.box 116 (cTHost a1 ++ cTApp a0)))] ac wd) ?_ ?_
 ·
  obtain ⟨ae,af,ab⟩ := oB ab
  obtain ⟨ag,ah,ab⟩ := oB ab
  rcases i2b ab with ⟨ai,ab⟩ | ⟨ai,ab⟩
  ·
   obtain ⟨aj,ak,ab⟩ := oB ab
   rcases i2b ab with ⟨al,ab⟩ | ⟨al,ab⟩
   ·
    obtain ⟨am,an,ab⟩ := oB ab
    obtain ⟨ao,ap,ab⟩ := oB ab
    have aq := L_graph_In_ok af
    have ar := L_slices_Contains_int_int_ok ah
    have au := L_probe_seat_blocked_ok ak
    have av := L_graph_Back_ok an
    have aw := L_host_Gave_ok ap
    refine deg [factE 19 aq,factE 21 ar,factE 25 au,factE 34 av,factE 35 aw] [none,none,none,none,none,none,none,none,none,some (some 29,false),some (some 29,false),some (some 29,false),none,none,some (some 34,false),some (some 34,false),some (some 34,false),some (some 34,false),some (some 34,false),some (some 34,false),some (some 34,false),some (some 34,false),some (some 34,false),some (some 34,false),none] [2,6,9,13,45] [(2,0),(3,0),(10,0)] h fun ac wd h => ?_
    injection ab with ab; subst ab
    exact ⟨!(decide (ao = a4.Count)),rfl,h.z⟩
   ·
    have aq := L_graph_In_ok af
    have ar := L_slices_Contains_int_int_ok ah
    have au := L_probe_seat_blocked_ok ak
    refine deg [factE 19 aq,factE 21 ar,factE 25 au] [none,none,none,none,none,none,none,none,none,some (some 29,false),some (some 29,false),some (some 29,false),none,none,some (some 34,false),some (some 34,false),some (some 34,false),some (some 34,false),some (some 34,false),some (some 34,false),some (some 34,false),some (some 34,false),some (some 34,false),some (some 34,false),none] [2,6,9,13,45] [(2,0),(3,0),(10,0)] h fun ac wd h => ?_
    injection ab with ab; subst ab
    exact ⟨true,rfl,h.z⟩
  ·
   have aq := L_graph_In_ok af
   have ar := L_slices_Contains_int_int_ok ah
   refine deg [factE 19 aq,factE 21 ar] [none,none,none,none,none,none,none,none,none,some (some 29,false),some (some 29,false),some (some 29,false),none,none,some (some 34,false),some (some 34,false),some (some 34,false),some (some 34,false),some (some 34,false),some (some 34,false),some (some 34,false),some (some 34,false),some (some 34,false),some (some 34,false),none] [2,6,9,13,45] [(2,0),(3,0),(10,0)] h fun ac wd h => ?_
   injection ab with ab; subst ab
   exact ⟨true,rfl,h.z⟩
 ·
  rintro ac wd ⟨ad,rfl,h⟩
  (try dsimp only at hD)
  rcases i2b hD with ⟨ax,hD⟩ | ⟨ax,hD⟩
  ·
   refine kT h ?_
   refine qs 44 [] [10,11,12] [] h fun ac wd h => ?_
   refine wp_ret ?_
   have h := SL.bornS h 11 90 10 (by simp only [EZ,simprocAttr, *] <;> rfl)
   have h := SL.bornS h 12 3 1 (by simp only [EZ,simprocAttr, *] <;> rfl)
   have h := h.sw (1,0) (44,0) 46
   have h := h.sw (1,1) (45,0) 46
   injection hD with hD
   subst hD
   exact rO h [.tmp 10,.tmp 11,.tmp 12] [(1,0),(1,1)]
  ·
   refine kF h ?_
   refine wp_skip ?_
   change Code.wp Tryz.prog _ _ _ _
   refine wp_seq ?_
   refine qs 45 [] [2,9,13,51] [(3,0),(10,0)] h fun ac wd h => ?_
   rcases i2e hD with ⟨ay,hD⟩ | ⟨ay,hD⟩
   ·
    refine kT h ?_
    obtain ⟨az,aA,hD⟩ := oB hD
    have aC := ((L_slices_Clone_int_int_own aA).cls 48).z
    refine qs 52 [factO aC] [10,11,12] [(48,0)] h fun ac wd h => ?_
    refine wp_ret ?_
    have h := SL.bornS h 11 90 10 (by simp only [EZ,simprocAttr, *] <;> rfl)
    have h := h.sw (1,0) (52,0) 53
    have h := h.sw (1,1) (48,0) 53
    injection hD with hD
    subst hD
    exact rO h [.tmp 10,.tmp 11,.tmp 12] [(1,0),(1,1)]
   ·
    refine kF h ?_
    refine wp_skip ?_
    change Code.wp Tryz.prog _ _ _ _
    refine wp_seq ?_
    obtain ⟨aD,aE,hD⟩ := oB hD
    have aF := L_probe_last_ok aE
    refine ds 52 [factE 48 aF] [2,9,13,62] [(3,0),(10,0)] h fun ac wd h => ?_
    rcases i2 hD with ⟨aG,hD⟩ | ⟨aG,hD⟩
    ·
     refine kT h ?_
     refine qs 56 [] [10,11,12] [] h fun ac wd h => ?_
     refine wp_ret ?_
     have h := SL.bornS h 11 90 10 (by simp only [EZ,simprocAttr, *] <;> rfl)
     have h := SL.bornS h 12 3 1 (by simp only [EZ,simprocAttr, *] <;> rfl)
     have h := h.sw (1,0) (56,0) 58
     have h := h.sw (1,1) (57,0) 58
     injection hD with hD
     subst hD
     exact rO h [.tmp 10,.tmp 11,.tmp 12] [(1,0),(1,1)]
    ·
     refine kF h ?_
     refine wp_skip ?_
     change Code.wp Tryz.prog _ _ _ _
     obtain ⟨aH,hD⟩ := iT hD
     obtain ⟨aI,hD⟩ := iT hD
     obtain ⟨aJ,hD⟩ := iT hD
     refine qs 60 [] [2,9,13,15] [(3,0),(10,0),(58,0)] h fun ac wd h => ?_
     obtain ⟨aK,aL,hD⟩ := vB hD
     have h := h.same [2,9,13,15] [(3,0),(10,0),(58,0)] 60 [(2,.one (.d (.sl (List.map eI a2)))),(9,.one (.ptr (3,0) 0)),(13,.one (.ptr (10,0) 0)),(15,.one (.own (58,0) aK.length))]
      [((3,0),some (.box 37 (cTFrame a4))),((10,0),some (.box 116 (cTHost a1 ++ cTApp a0))),((58,0),some (.row 3 1 (dat (List.map eI aK))))]
      (by simp only [EZ,simprocAttr,ax,ay,aG,aH,aI,aJ,dat_open,← aL] <;> rfl)
     have aM : ((a2.take aK.length) ++ aK.drop (a2.take aK.length).length).length = aK.length := by simp only [List.append_assoc,List.length_append,List.length_take,List.length_drop]; omega
     simp only [List.append_assoc,List.length_append,List.length_take,List.length_drop] at aM
     refine qs 63 [] [9,13,15] [(3,0),(10,0),(58,0)] h fun ac wd h => ?_
     obtain ⟨aN,aO,hD⟩ := vB hD
     have h := h.same [9,13,15] [(3,0),(10,0),(58,0)] 63 [(9,.one (.ptr (3,0) 0)),(13,.one (.ptr (10,0) 0)),(15,.one (.own (58,0) aN.length))]
      [((3,0),some (.box 37 (cTFrame a4))),((10,0),some (.box 116 (cTHost a1 ++ cTApp a0))),((58,0),some (.row 3 1 (dat (List.map eI aN))))]
      (by simp only [EZ,simprocAttr,ax,ay,aG,aH,aI,aJ,aM,dat_open,← aO] <;> rfl)
     obtain ⟨aP,aQ,aR,aS,aT,hD⟩ := aB hD
     refine qs 70 [] [9,13,15] [(3,0),(10,0),(58,0)] h fun ac wd h => ?_
     obtain ⟨aU,aV,hD⟩ := oB hD
     have aW := ((L_probe_seat_probe_own aV).cls 78).z
     refine qs 82 [factO aW] [10,11,12] [(58,0),(78,0)] h fun ac wd h => ?_
     refine wp_ret ?_
     have h := h.fz [(58,0)]
     have h := SL.bornS h 12 3 1 (by simp only [EZ,simprocAttr, *] <;> rfl)
     have h := h.sw (1,0) (78,0) 83
     have h := h.sw (1,1) (82,0) 83
     injection hD with hD
     subst hD
     exact rO h [.tmp 10,.tmp 11,.tmp 12] [(1,0),(1,1)]
theorem L_probe_Hear_ok {a0 : TApp} {a1 : THost} {a2 : (List Int)} {a3 : Int} {a4 : TFrame} {r : (List Int) × (List TOut) × (List Int)} (hD : L_probe_Hear a0 a1 a2 a3 a4 = some r) :
  CallH Tryz.prog 17 [.agg (cTApp a0),.agg (cTHost a1),.one (.d (.sl (List.map eI a2))),.one (.d (.int .i64 a3)),.agg (cTFrame a4)] []
   (.tup [.inr (.d (.sl (List.map eI r.1))),.inr (.d (.sl (List.map eTOut r.2.1))),.inr (.d (.sl (List.map eI r.2.2)))]) [] :=
 (L_probe_Hear_own hD).fr

theorem L_law06_Ref_ok {a0 : TPiece} {r : TPiece} (hD : L_law06_Ref a0 = some r) :
  CallH Tryz.prog 77 [.agg (cTPiece a0)] []
   (.agg [.d (.int .i64 r.Node),.d (.int .i64 r.State),.d (.int .i64 r.Steps),.d (.sl (List.map eI r.Sent)),.d (.sl (List.map (eL eTMsg) r.In)),.d (.sl (List.map (eL eI) r.Out))]) [] := by
 unfold L_law06_Ref at hD
 refine rc Tryz.func77 rfl Tryz.ntmps77 fun S Φ P0 wb ac h => ?_
 refine qs 3 [] [1,2] [(1,0),(2,0)] h fun ac wd h => ?_
 refine qs 17 [] [2] [(2,0)] h fun ac wd h => ?_
 refine wp_ret ?_
 injection hD with hD
 subst hD
 exact rE h [.cell 2 109]

theorem L_law06_Refs_own {a0 : (List TPiece)} {r : (List TPiece)} (hD : L_law06_Refs a0 = some r) :
  CallH Tryz.prog 45 [.one (.d (.sl (List.map eTPiece a0)))] []
   (.one (.own (1,0) r.length)) [((1,0),some (.row 109 6 (dat (List.map eTPiece r))))] := by
 unfold L_law06_Refs at hD
 refine rc Tryz.func45 rfl Tryz.ntmps45 fun S Φ P0 wb ac h => ?_
 refine qs 2 [] [0] [] h fun ac wd h => ?_
 refine qs 4 [] [0,3] [(2,0)] h fun ac wd h => ?_
 refine wp_seq ?_
 refine qs 5 [] [0,3,4] [(2,0)] h fun ac wd h => ?_
 refine wp_block ?_
 refine r_while (fun nf ac wd => ∃ (aa : Int) (ab : List TPiece),L_law06_Refs_l1 a0 nf aa ab = some r ∧ SL ⟨wb,S,Φ,P0⟩ 21 37 [(0,.one (.d (.sl (List.map eTPiece a0)))),(3,.one (.own (2,0) ab.length)),(4,.one (.d (.int .i64 aa)))] [((2,0),some (.row 109 6 (dat (List.map eTPiece ab))))] ac wd) (((a0.length : Int) - 0).toNat + 1) ⟨0,([] : List TPiece),hD,h.z⟩ (fun nf ac wd hJ => ?_)
 obtain ⟨aa,ab,ad,h⟩ := hJ
 cases nf with
 | zero => rw [L_law06_Refs_l1] at ad; cases ad
 | succ nf =>
  rw [L_law06_Refs_l1] at ad
  refine wp_seq ?_
  refine qs 41 [] [0,3,4,9] [(2,0)] h fun ac wd h => ?_
  rcases i2 ad with ⟨ae,ad⟩ | ⟨ae,ad⟩
  ·
   refine kT h ?_
   refine wp_skip ?_
   change Code.wp Tryz.prog _ _ _ _
   refine wp_seq ?_
   refine wp_block ?_
   obtain ⟨af,ag,ah,ai,aj,ad⟩ := aB ad
   obtain ⟨ak,al,ad⟩ := oB ad
   obtain ⟨am,ad⟩ := iT ad
   have an := L_law06_Ref_ok al
   refine qe [factE 46 an] [0,3,4] [(48,0)] h fun ac wd h => ?_
   change Code.wp Tryz.prog _ _ _ _
   refine qe [] [0,3,4] [(48,0)] h fun ac wd h => ?_
   have h := h.sw (2,0) (48,0) 53
   exact ⟨nf,Nat.lt_succ_self nf,(IntKind.wrap .i64 (aa + 1)),(ab ++ [ak]),ad,h.z⟩
  ·
   refine kF h ?_
   refine wp_exit ?_
   change Code.wp Tryz.prog _ _ _ _
   refine qs 43 [] [2] [(2,0)] h fun ac wd h => ?_
   refine wp_ret ?_
   have h := h.sw (1,0) (2,0) 43
   injection ad with ad
   subst ad
   exact rO h [.tmp 2] [(1,0)]
theorem L_law06_Refs_ok {a0 : (List TPiece)} {r : (List TPiece)} (hD : L_law06_Refs a0 = some r) :
  CallH Tryz.prog 45 [.one (.d (.sl (List.map eTPiece a0)))] []
   (.one (.d (.sl (List.map eTPiece r)))) [] :=
 (L_law06_Refs_own hD).fr

theorem L_law07_Ref_own {a0 : TFrame} {r : TFrame} (hD : L_law07_Ref a0 = some r) :
  CallH Tryz.prog 16 [.agg (cTFrame a0)] []
   (.agg [.d (.int .i64 r.Kind),.d (.int .i64 r.Epoch),.d (.int .i64 r.M.Seq),.d (.int .i64 r.M.Letter),.own (1,0) r.Pieces.length,.d (.int .i64 r.Init),.d (.int .i64 r.Num),.d (.int .i64 r.Count),.d (.sl (List.map eI r.Path))]) [((1,0),some (.row 109 6 (dat (List.map eTPiece r.Pieces))))] := by
 unfold L_law07_Ref at hD
 refine rc Tryz.func16 rfl Tryz.ntmps16 fun S Φ P0 wb ac h => ?_
 refine qs 3 [] [1,2] [(1,0),(2,0)] h fun ac wd h => ?_
 obtain ⟨r7,ab,hD⟩ := oB hD
 have ad := ((L_law06_Refs_own ab).cls 11).z
 refine ds 22 [factO ad] [2] [(2,0),(11,0)] h fun ac wd h => ?_
 refine wp_ret ?_
 have h := h.sw (1,0) (11,0) 22
 injection hD with hD
 subst hD
 exact rO h [.cell 2 63] [(1,0)]
theorem L_law07_Ref_ok {a0 : TFrame} {r : TFrame} (hD : L_law07_Ref a0 = some r) :
  CallH Tryz.prog 16 [.agg (cTFrame a0)] []
   (.agg [.d (.int .i64 r.Kind),.d (.int .i64 r.Epoch),.d (.int .i64 r.M.Seq),.d (.int .i64 r.M.Letter),.d (.sl (List.map eTPiece r.Pieces)),.d (.int .i64 r.Init),.d (.int .i64 r.Num),.d (.int .i64 r.Count),.d (.sl (List.map eI r.Path))]) [] :=
 (L_law07_Ref_own hD).fr

theorem L_law16_Outs_own {a0 : (List TOut)} {r : (List TOut)} (hD : L_law16_Outs a0 = some r) :
  CallH Tryz.prog 14 [.one (.d (.sl (List.map eTOut a0)))] []
   (.one (.own (1,0) r.length)) [((1,0),some (.row 114 10 (dat (List.map eTOut r))))] := by
 unfold L_law16_Outs at hD
 refine rc Tryz.func14 rfl Tryz.ntmps14 fun S Φ P0 wb ac h => ?_
 refine qs 2 [] [0] [] h fun ac wd h => ?_
 refine qs 4 [] [0,3] [(2,0)] h fun ac wd h => ?_
 refine wp_seq ?_
 refine qs 5 [] [0,3,4] [(2,0)] h fun ac wd h => ?_
 refine wp_block ?_
 refine r_while (fun nf ac wd => ∃ (aa : Int) (ab : List TOut),L_law16_Outs_l1 a0 nf aa ab = some r ∧ SL ⟨wb,S,Φ,P0⟩ 28 51 [(0,.one (.d (.sl (List.map eTOut a0)))),(3,.one (.own (2,0) ab.length)),(4,.one (.d (.int .i64 aa)))] [((2,0),some (.row 114 10 (dat (List.map eTOut ab))))] ac wd) (((a0.length : Int) - 0).toNat + 1) ⟨0,([] : List TOut),hD,h.z⟩ (fun nf ac wd hJ => ?_)
 obtain ⟨aa,ab,ad,h⟩ := hJ
 cases nf with
 | zero => rw [L_law16_Outs_l1] at ad; cases ad
 | succ nf =>
  rw [L_law16_Outs_l1] at ad
  refine wp_seq ?_
  refine qs 55 [] [0,3,4,9] [(2,0)] h fun ac wd h => ?_
  rcases i2 ad with ⟨ae,ad⟩ | ⟨ae,ad⟩
  ·
   refine kT h ?_
   refine wp_skip ?_
   change Code.wp Tryz.prog _ _ _ _
   refine wp_seq ?_
   refine wp_block ?_
   obtain ⟨af,ag,ah,ai,aj,ad⟩ := aB ad
   obtain ⟨ak,al,ad⟩ := oB ad
   obtain ⟨am,ad⟩ := iT ad
   have an := L_law07_Ref_ok al
   refine de [factE 66 an] [0,3,4] [(69,0)] h fun ac wd h => ?_
   change Code.wp Tryz.prog _ _ _ _
   refine qe [] [0,3,4] [(69,0)] h fun ac wd h => ?_
   have h := h.sw (2,0) (69,0) 74
   exact ⟨nf,Nat.lt_succ_self nf,(IntKind.wrap .i64 (aa + 1)),(ab ++ [(TOut.mk af.Link ak)]),ad,h.z⟩
  ·
   refine kF h ?_
   refine wp_exit ?_
   change Code.wp Tryz.prog _ _ _ _
   refine qs 57 [] [2] [(2,0)] h fun ac wd h => ?_
   refine wp_ret ?_
   have h := h.sw (1,0) (2,0) 57
   injection ad with ad
   subst ad
   exact rO h [.tmp 2] [(1,0)]
theorem L_law16_Outs_ok {a0 : (List TOut)} {r : (List TOut)} (hD : L_law16_Outs a0 = some r) :
  CallH Tryz.prog 14 [.one (.d (.sl (List.map eTOut a0)))] []
   (.one (.d (.sl (List.map eTOut r)))) [] :=
 (L_law16_Outs_own hD).fr

theorem L_ref01_Ints_ok {a0 : (List Int)} {a1 : (List Int)} {r : Bool} (hD : L_ref01_Ints a0 a1 = some r) :
  CallH Tryz.prog 19 [.one (.d (.sl (List.map eI a0))),.one (.d (.sl (List.map eI a1)))] []
   (.one (.d (.bool r))) [] := by
 unfold L_ref01_Ints at hD
 refine rc Tryz.func19 rfl Tryz.ntmps19 fun S Φ P0 wb ac h => ?_
 refine qs 2 [] [0,1] [] h fun ac wd h => ?_
 refine wp_seq ?_
 refine qs 7 [] [0,1,10] [] h fun ac wd h => ?_
 rcases i2e hD with ⟨aa,hD⟩ | ⟨aa,hD⟩
 ·
  refine kF h ?_
  refine wp_skip ?_
  change Code.wp Tryz.prog _ _ _ _
  refine wp_seq ?_
  refine qs 8 [] [0,1,5] [] h fun ac wd h => ?_
  refine wp_block ?_
  refine r_while (fun nf ac wd => ∃ (ab : Int),L_ref01_Ints_l1 a0 a1 nf ab = some r ∧ SL ⟨wb,S,Φ,P0⟩ 26 40 [(0,.one (.d (.sl (List.map eI a0)))),(1,.one (.d (.sl (List.map eI a1)))),(5,.one (.d (.int .i64 ab)))] [] ac wd) (((a0.length : Int) - 0).toNat + 1) ⟨0,hD,h.z⟩ (fun nf ac wd hJ => ?_)
  obtain ⟨ab,ad,h⟩ := hJ
  cases nf with
  | zero => rw [L_ref01_Ints_l1] at ad; cases ad
  | succ nf =>
   rw [L_ref01_Ints_l1] at ad
   refine wp_seq ?_
   refine qs 44 [] [0,1,5,14] [] h fun ac wd h => ?_
   rcases i2 ad with ⟨ae,ad⟩ | ⟨ae,ad⟩
   ·
    refine kT h ?_
    refine wp_skip ?_
    change Code.wp Tryz.prog _ _ _ _
    refine wp_seq ?_
    refine wp_block ?_
    obtain ⟨af,ag,ah,ai,aj,ad⟩ := aB ad
    obtain ⟨ak,al,am,an,ao,ad⟩ := aB ad
    refine ds 53 [] [0,1,5,25] [] h fun ac wd h => ?_
    rcases i2e ad with ⟨ap,ad⟩ | ⟨ap,ad⟩
    ·
     refine kF h ?_
     refine wp_skip ?_
     change Code.wp Tryz.prog _ _ _ _
     refine qe [] [0,1,5] [] h fun ac wd h => ?_
     exact ⟨nf,Nat.lt_succ_self nf,(IntKind.wrap .i64 (ab + 1)),ad,h.z⟩
    ·
     refine kT h ?_
     refine qs 54 [] [4] [] h fun ac wd h => ?_
     refine wp_ret ?_
     injection ad with ad
     subst ad
     exact rE h [.tmp 4]
   ·
    refine kF h ?_
    refine wp_exit ?_
    change Code.wp Tryz.prog _ _ _ _
    refine qs 45 [] [4] [] h fun ac wd h => ?_
    refine wp_ret ?_
    injection ad with ad
    subst ad
    exact rE h [.tmp 4]
 ·
  refine kT h ?_
  refine qs 8 [] [4] [] h fun ac wd h => ?_
  refine wp_ret ?_
  injection hD with hD
  subst hD
  exact rE h [.tmp 4]

theorem L_ref05_Msgs_ok {a0 : (List TMsg)} {a1 : (List TMsg)} {r : Bool} (hD : L_ref05_Msgs a0 a1 = some r) :
  CallH Tryz.prog 100 [.one (.d (.sl (List.map eTMsg a0))),.one (.d (.sl (List.map eTMsg a1)))] []
   (.one (.d (.bool r))) [] := by
 unfold L_ref05_Msgs at hD
 refine rc Tryz.func100 rfl Tryz.ntmps100 fun S Φ P0 wb ac h => ?_
 refine qs 2 [] [0,1] [] h fun ac wd h => ?_
 refine wp_seq ?_
 refine qs 7 [] [0,1,10] [] h fun ac wd h => ?_
 rcases i2e hD with ⟨aa,hD⟩ | ⟨aa,hD⟩
 ·
  refine kF h ?_
  refine wp_skip ?_
  change Code.wp Tryz.prog _ _ _ _
  refine wp_seq ?_
  refine qs 8 [] [0,1,5] [] h fun ac wd h => ?_
  refine wp_block ?_
  refine r_while (fun nf ac wd => ∃ (ab : Int),L_ref05_Msgs_l1 a0 a1 nf ab = some r ∧ SL ⟨wb,S,Φ,P0⟩ 26 40 [(0,.one (.d (.sl (List.map eTMsg a0)))),(1,.one (.d (.sl (List.map eTMsg a1)))),(5,.one (.d (.int .i64 ab)))] [] ac wd) (((a0.length : Int) - 0).toNat + 1) ⟨0,hD,h.z⟩ (fun nf ac wd hJ => ?_)
  obtain ⟨ab,ad,h⟩ := hJ
  cases nf with
  | zero => rw [L_ref05_Msgs_l1] at ad; cases ad
  | succ nf =>
   rw [L_ref05_Msgs_l1] at ad
   refine wp_seq ?_
   refine qs 44 [] [0,1,5,14] [] h fun ac wd h => ?_
   rcases i2 ad with ⟨ae,ad⟩ | ⟨ae,ad⟩
   ·
    refine kT h ?_
    refine wp_skip ?_
    change Code.wp Tryz.prog _ _ _ _
    refine wp_seq ?_
    refine wp_block ?_
    obtain ⟨af,ag,ah,ai,aj,ad⟩ := aB ad
    obtain ⟨ak,al,am,an,ao,ad⟩ := aB ad
    have ap := eq_TMsg_vv af ak
    refine ds 53 [] [0,1,5,25] [] h fun ac wd h => ?_
    rcases i2e ad with ⟨aq,ad⟩ | ⟨aq,ad⟩
    ·
     refine kF h ?_
     refine wp_skip ?_
     change Code.wp Tryz.prog _ _ _ _
     refine qe [] [0,1,5] [] h fun ac wd h => ?_
     exact ⟨nf,Nat.lt_succ_self nf,(IntKind.wrap .i64 (ab + 1)),ad,h.z⟩
    ·
     refine kT h ?_
     refine qs 54 [] [4] [] h fun ac wd h => ?_
     refine wp_ret ?_
     injection ad with ad
     subst ad
     exact rE h [.tmp 4]
   ·
    refine kF h ?_
    refine wp_exit ?_
    change Code.wp Tryz.prog _ _ _ _
    refine qs 45 [] [4] [] h fun ac wd h => ?_
    refine wp_ret ?_
    injection ad with ad
    subst ad
    exact rE h [.tmp 4]
 ·
  refine kT h ?_
  refine qs 8 [] [4] [] h fun ac wd h => ?_
  refine wp_ret ?_
  injection hD with hD
  subst hD
  exact rE h [.tmp 4]

theorem L_ref06_Same_ok {a0 : TPiece} {a1 : TPiece} {r : Bool} (hD : L_ref06_Same a0 a1 = some r) :
  CallH Tryz.prog 90 [.agg (cTPiece a0),.agg (cTPiece a1)] []
   (.one (.d (.bool r))) [] := by
 unfold L_ref06_Same at hD
 refine rc Tryz.func90 rfl Tryz.ntmps90 fun S Φ P0 wb ac h => ?_
 refine qs 4 [] [2,3] [(1,0),(2,0)] h fun ac wd h => ?_
 refine wp_seq ?_
 obtain ⟨aa,ab,hD⟩ := Option.bind_eq_some_iff.1 hD
 refine r_seqJ (fun ac wd => ∃ (ad : Bool),ad = aa ∧ SL ⟨wb,S,Φ,P0⟩ 90 49 [(2,.one (.ptr (1,0) 0)),(3,.one (.ptr (2,0) 0)),(51,.one (.d (.bool ad)))] [((1,0),some (.box 109 (cTPiece a0))),((2,0),some (.box 109 (cTPiece a1)))] ac wd) ?_ ?_
 ·
  rcases i2e ab with ⟨ae,ab⟩ | ⟨ae,ab⟩
  ·
   rcases i2e ab with ⟨af,ab⟩ | ⟨af,ab⟩
   ·
    rcases i2e ab with ⟨ag,ab⟩ | ⟨ag,ab⟩
    ·
     obtain ⟨ah,ai,ab⟩ := oB ab
     rcases i2b ab with ⟨aj,ab⟩ | ⟨aj,ab⟩
     ·
      rcases i2e ab with ⟨ak,ab⟩ | ⟨ak,ab⟩
      ·
       have al := L_ref01_Ints_ok ai
       refine qeg [factE 28 al] [none,none,none,none,none,none,some (some 12,false),some (some 12,false),some (some 12,false),some (some 12,false),some (some 12,false),none,none,some (some 19,false),some (some 19,false),some (some 19,false),some (some 19,false),some (some 19,false),none,none,some (some 26,false),some (some 26,false),some (some 26,false),some (some 26,false),some (some 26,false),some (some 26,false),none,none,some (some 34,false),some (some 34,false),some (some 34,false),some (some 34,false),some (some 34,false),some (some 34,false),some (some 34,false),none,none,some (some 43,false),some (some 43,false),some (some 43,false),some (some 43,false),some (some 43,false),some (some 43,false),some (some 43,false),none] [2,3,51] [(1,0),(2,0)] h fun ac wd h => ?_
       injection ab with ab; subst ab
       exact ⟨!(decide ((a0.Out.length : Int) = (a1.Out.length : Int))),rfl,h.z⟩
      ·
       have al := L_ref01_Ints_ok ai
       refine qeg [factE 28 al] [none,none,none,none,none,none,some (some 12,false),some (some 12,false),some (some 12,false),some (some 12,false),some (some 12,false),none,none,some (some 19,false),some (some 19,false),some (some 19,false),some (some 19,false),some (some 19,false),none,none,some (some 26,false),some (some 26,false),some (some 26,false),some (some 26,false),some (some 26,false),some (some 26,false),none,none,some (some 34,false),some (some 34,false),some (some 34,false),some (some 34,false),some (some 34,false),some (some 34,false),some (some 34,false),none,none,some (some 43,false),some (some 43,false),some (some 43,false),some (some 43,false),some (some 43,false),some (some 43,false),some (some 43,false),none] [2,3,51] [(1,0),(2,0)] h fun ac wd h => ?_
       injection ab with ab; subst ab
       exact ⟨true,rfl,h.z⟩
     ·
      have al := L_ref01_Ints_ok ai
      refine qeg [factE 28 al] [none,none,none,none,none,none,some (some 12,false),some (some 12,false),some (some 12,false),some (some 12,false),some (some 12,false),none,none,some (some 19,false),some (some 19,false),some (some 19,false),some (some 19,false),some (some 19,false),none,none,some (some 26,false),some (some 26,false),some (some 26,false),some (some 26,false),some (some 26,false),some (some 26,false),none,none,some (some 34,false),some (some 34,false),some (some 34,false),some (some 34,false),some (some 34,false),some (some 34,false),some (some 34,false),none,none,some (some 43,false),some (some 43,false),some (some 43,false),some (some 43,false),some (some 43,false),some (some 43,false),some (some 43,false),none] [2,3,51] [(1,0),(2,0)] h fun ac wd h => ?_
      injection ab with ab; subst ab
      exact ⟨true,rfl,h.z⟩
    ·
     refine qeg [] [none,none,none,none,none,none,some (some 12,false),some (some 12,false),some (some 12,false),some (some 12,false),some (some 12,false),none,none,some (some 19,false),some (some 19,false),some (some 19,false),some (some 19,false),some (some 19,false),none,none,some (some 26,false),some (some 26,false),some (some 26,false),some (some 26,false),some (some 26,false),some (some 26,false),none,none,some (some 34,false),some (some 34,false),some (some 34,false),some (some 34,false),some (some 34,false),some (some 34,false),some (some 34,false),none,none,some (some 43,false),some (some 43,false),some (some 43,false),some (some 43,false),some (some 43,false),some (some 43,false),some (some 43,false),none] [2,3,51] [(1,0),(2,0)] h fun ac wd h => ?_
     injection ab with ab; subst ab
     exact ⟨true,rfl,h.z⟩
   ·
    refine qeg [] [none,none,none,none,none,none,some (some 12,false),some (some 12,false),some (some 12,false),some (some 12,false),some (some 12,false),none,none,some (some 19,false),some (some 19,false),some (some 19,false),some (some 19,false),some (some 19,false),none,none,some (some 26,false),some (some 26,false),some (some 26,false),some (some 26,false),some (some 26,false),some (some 26,false),none,none,some (some 34,false),some (some 34,false),some (some 34,false),some (some 34,false),some (some 34,false),some (some 34,false),some (some 34,false),none,none,some (some 43,false),some (some 43,false),some (some 43,false),some (some 43,false),some (some 43,false),some (some 43,false),some (some 43,false),none] [2,3,51] [(1,0),(2,0)] h fun ac wd h => ?_
    injection ab with ab; subst ab
    exact ⟨true,rfl,h.z⟩
  ·
   refine qeg [] [none,none,none,none,none,none,some (some 12,false),some (some 12,false),some (some 12,false),some (some 12,false),some (some 12,false),none,none,some (some 19,false),some (some 19,false),some (some 19,false),some (some 19,false),some (some 19,false),none,none,some (some 26,false),some (some 26,false),some (some 26,false),some (some 26,false),some (some 26,false),some (some 26,false),none,none,some (some 34,false),some (some 34,false),some (some 34,false),some (some 34,false),some (some 34,false),some (some 34,false),some (some 34,false),none,none,some (some 43,false),some (some 43,false),some (some 43,false),some (some 43,false),some (some 43,false),some (some 43,false),some (some 43,false),none] [2,3,51] [(1,0),(2,0)] h fun ac wd h => ?_
   injection ab with ab; subst ab
   exact ⟨true,rfl,h.z⟩
 ·
  rintro ac wd ⟨ad,rfl,h⟩
  (try dsimp only at hD)
  rcases i2b hD with ⟨am,hD⟩ | ⟨am,hD⟩
  ·
   refine kT h ?_
   refine qs 50 [] [4] [] h fun ac wd h => ?_
   refine wp_ret ?_
   injection hD with hD
   subst hD
   exact rE h [.tmp 4]
  ·
   refine kF h ?_
   refine wp_skip ?_
   change Code.wp Tryz.prog _ _ _ _
   refine wp_seq ?_
   refine qs 50 [] [2,3,5] [(1,0),(2,0)] h fun ac wd h => ?_
   obtain ⟨an,ao,hD⟩ := Option.bind_eq_some_iff.1 hD
   refine r_meet (fun ac wd => (.inl ()) = an ∧ SL ⟨wb,S,Φ,P0⟩ 90 95 [(2,.one (.ptr (1,0) 0)),(3,.one (.ptr (2,0) 0))] [((1,0),some (.box 109 (cTPiece a0))),((2,0),some (.box 109 (cTPiece a1)))] ac wd) ?_ ?_
   ·
    refine wp_block ?_
    refine r_while (fun nf ac wd => ∃ (ap : Int),L_ref06_Same_l1 a0 a1 nf ap = some an ∧ SL ⟨wb,S,Φ,P0⟩ 90 90 [(2,.one (.ptr (1,0) 0)),(3,.one (.ptr (2,0) 0)),(5,.one (.d (.int .i64 ap)))] [((1,0),some (.box 109 (cTPiece a0))),((2,0),some (.box 109 (cTPiece a1)))] ac wd) (((a0.In.length : Int) - 0).toNat + 1) ⟨0,ao,h.z⟩ (fun nf ac wd hJ => ?_)
    obtain ⟨ap,aq,h⟩ := hJ
    cases nf with
    | zero => rw [L_ref06_Same_l1] at aq; cases aq
    | succ nf =>
     rw [L_ref06_Same_l1] at aq
     refine wp_seq ?_
     refine qs 95 [] [2,3,5,56] [(1,0),(2,0)] h fun ac wd h => ?_
     rcases i2 aq with ⟨ar,aq⟩ | ⟨ar,aq⟩
     ·
      refine kT h ?_
      refine wp_skip ?_
      change Code.wp Tryz.prog _ _ _ _
      refine wp_seq ?_
      refine wp_block ?_
      obtain ⟨au,av,aw,ax,ay,aq⟩ := aB aq
      obtain ⟨az,aA,aC,aD,aE,aq⟩ := aB aq
      obtain ⟨aF,aG,aq⟩ := oB aq
      have aH := L_ref05_Msgs_ok aG
      refine ds 107 [factE 105 aH] [2,3,5,70] [(1,0),(2,0)] h fun ac wd h => ?_
      rcases i2b aq with ⟨aI,aq⟩ | ⟨aI,aq⟩
      ·
       refine kF h ?_
       refine wp_skip ?_
       change Code.wp Tryz.prog _ _ _ _
       refine qe [] [2,3,5] [(1,0),(2,0)] h fun ac wd h => ?_
       exact ⟨nf,Nat.lt_succ_self nf,(IntKind.wrap .i64 (ap + 1)),aq,h.z⟩
      ·
       refine kT h ?_
       refine qs 108 [] [4] [] h fun ac wd h => ?_
       refine wp_ret ?_
       injection aq with aq
       subst aq
       (try dsimp only at hD)
       injection hD with hD
       subst hD
       exact rE h [.tmp 4]
     ·
      refine kF h ?_
      refine wp_exit ?_
      injection aq with aq; subst aq
      exact ⟨rfl,h.z⟩
   ·
    rintro ac wd ⟨rfl,h⟩
    (try dsimp only at hD)
    refine wp_seq ?_
    refine qs 96 [] [2,3,6] [(1,0),(2,0)] h fun ac wd h => ?_
    refine wp_block ?_
    refine r_while (fun nf ac wd => ∃ (aJ : Int),L_ref06_Same_l2 a0 a1 nf aJ = some r ∧ SL ⟨wb,S,Φ,P0⟩ 90 136 [(2,.one (.ptr (1,0) 0)),(3,.one (.ptr (2,0) 0)),(6,.one (.d (.int .i64 aJ)))] [((1,0),some (.box 109 (cTPiece a0))),((2,0),some (.box 109 (cTPiece a1)))] ac wd) (((a0.Out.length : Int) - 0).toNat + 1) ⟨0,hD,h.z⟩ (fun nf ac wd hJ => ?_)
    obtain ⟨aJ,aK,h⟩ := hJ
    cases nf with
    | zero => rw [L_ref06_Same_l2] at aK; cases aK
    | succ nf =>
     rw [L_ref06_Same_l2] at aK
     refine wp_seq ?_
     refine qs 141 [] [2,3,6,75] [(1,0),(2,0)] h fun ac wd h => ?_
     rcases i2 aK with ⟨aL,aK⟩ | ⟨aL,aK⟩
     ·
      refine kT h ?_
      refine wp_skip ?_
      change Code.wp Tryz.prog _ _ _ _
      refine wp_seq ?_
      refine wp_block ?_
      obtain ⟨aM,aN,aO,aP,aQ,aK⟩ := aB aK
      obtain ⟨aR,aS,aT,aU,aV,aK⟩ := aB aK
      obtain ⟨aW,aX,aK⟩ := oB aK
      have aY := L_ref01_Ints_ok aX
      refine ds 153 [factE 151 aY] [2,3,6,89] [(1,0),(2,0)] h fun ac wd h => ?_
      rcases i2b aK with ⟨aZ,aK⟩ | ⟨aZ,aK⟩
      ·
       refine kF h ?_
       refine wp_skip ?_
       change Code.wp Tryz.prog _ _ _ _
       refine qe [] [2,3,6] [(1,0),(2,0)] h fun ac wd h => ?_
       exact ⟨nf,Nat.lt_succ_self nf,(IntKind.wrap .i64 (aJ + 1)),aK,h.z⟩
      ·
       refine kT h ?_
       refine qs 154 [] [4] [] h fun ac wd h => ?_
       refine wp_ret ?_
       injection aK with aK
       subst aK
       exact rE h [.tmp 4]
     ·
      refine kF h ?_
      refine wp_exit ?_
      change Code.wp Tryz.prog _ _ _ _
      refine qs 142 [] [4] [] h fun ac wd h => ?_
      refine wp_ret ?_
      injection aK with aK
      subst aK
      exact rE h [.tmp 4]

theorem L_ref06_All_ok {a0 : (List TPiece)} {a1 : (List TPiece)} {r : Bool} (hD : L_ref06_All a0 a1 = some r) :
  CallH Tryz.prog 76 [.one (.d (.sl (List.map eTPiece a0))),.one (.d (.sl (List.map eTPiece a1)))] []
   (.one (.d (.bool r))) [] := by
 unfold L_ref06_All at hD
 refine rc Tryz.func76 rfl Tryz.ntmps76 fun S Φ P0 wb ac h => ?_
 refine qs 2 [] [0,1] [] h fun ac wd h => ?_
 refine wp_seq ?_
 refine qs 7 [] [0,1,10] [] h fun ac wd h => ?_
 rcases i2e hD with ⟨aa,hD⟩ | ⟨aa,hD⟩
 ·
  refine kF h ?_
  refine wp_skip ?_
  change Code.wp Tryz.prog _ _ _ _
  refine wp_seq ?_
  refine qs 8 [] [0,1,5] [] h fun ac wd h => ?_
  refine wp_block ?_
  refine r_while (fun nf ac wd => ∃ (ab : Int),L_ref06_All_l1 a0 a1 nf ab = some r ∧ SL ⟨wb,S,Φ,P0⟩ 27 42 [(0,.one (.d (.sl (List.map eTPiece a0)))),(1,.one (.d (.sl (List.map eTPiece a1)))),(5,.one (.d (.int .i64 ab)))] [] ac wd) (((a0.length : Int) - 0).toNat + 1) ⟨0,hD,h.z⟩ (fun nf ac wd hJ => ?_)
  obtain ⟨ab,ad,h⟩ := hJ
  cases nf with
  | zero => rw [L_ref06_All_l1] at ad; cases ad
  | succ nf =>
   rw [L_ref06_All_l1] at ad
   refine wp_seq ?_
   refine qs 46 [] [0,1,5,14] [] h fun ac wd h => ?_
   rcases i2 ad with ⟨ae,ad⟩ | ⟨ae,ad⟩
   ·
    refine kT h ?_
    refine wp_skip ?_
    change Code.wp Tryz.prog _ _ _ _
    refine wp_seq ?_
    refine wp_block ?_
    obtain ⟨af,ag,ah,ai,aj,ad⟩ := aB ad
    obtain ⟨ak,al,am,an,ao,ad⟩ := aB ad
    obtain ⟨ap,aq,ad⟩ := oB ad
    have ar := L_ref06_Same_ok aq
    refine ds 56 [factE 54 ar] [0,1,5,26] [] h fun ac wd h => ?_
    rcases i2b ad with ⟨au,ad⟩ | ⟨au,ad⟩
    ·
     refine kF h ?_
     refine wp_skip ?_
     change Code.wp Tryz.prog _ _ _ _
     refine qe [] [0,1,5] [] h fun ac wd h => ?_
     exact ⟨nf,Nat.lt_succ_self nf,(IntKind.wrap .i64 (ab + 1)),ad,h.z⟩
    ·
     refine kT h ?_
     refine qs 57 [] [4] [] h fun ac wd h => ?_
     refine wp_ret ?_
     injection ad with ad
     subst ad
     exact rE h [.tmp 4]
   ·
    refine kF h ?_
    refine wp_exit ?_
    change Code.wp Tryz.prog _ _ _ _
    refine qs 47 [] [4] [] h fun ac wd h => ?_
    refine wp_ret ?_
    injection ad with ad
    subst ad
    exact rE h [.tmp 4]
 ·
  refine kT h ?_
  refine qs 8 [] [4] [] h fun ac wd h => ?_
  refine wp_ret ?_
  injection hD with hD
  subst hD
  exact rE h [.tmp 4]

theorem L_ref07_Same_ok {a0 : TFrame} {a1 : TFrame} {r : Bool} (hD : L_ref07_Same a0 a1 = some r) :
  CallH Tryz.prog 42 [.agg (cTFrame a0),.agg (cTFrame a1)] []
   (.one (.d (.bool r))) [] := by
 unfold L_ref07_Same at hD
 refine rc Tryz.func42 rfl Tryz.ntmps42 fun S Φ P0 wb ac h => ?_
 refine qs 4 [] [2,3] [(1,0),(2,0)] h fun ac wd h => ?_
 obtain ⟨aa,ab,hD⟩ := Option.bind_eq_some_iff.1 hD
 refine r_seqJ (fun ac wd => ∃ (ad : Bool),ad = aa ∧ SL ⟨wb,S,Φ,P0⟩ 59 59 [(4,.one (.d (.bool ad)))] [] ac wd) ?_ ?_
 ·
  rcases i2e ab with ⟨ae,ab⟩ | ⟨ae,ab⟩
  ·
   rcases i2e ab with ⟨af,ab⟩ | ⟨af,ab⟩
   ·
    rcases i2e ab with ⟨ag,ab⟩ | ⟨ag,ab⟩
    ·
     obtain ⟨ah,ai,ab⟩ := oB ab
     rcases i2b ab with ⟨aj,ab⟩ | ⟨aj,ab⟩
     ·
      rcases i2e ab with ⟨ak,ab⟩ | ⟨ak,ab⟩
      ·
       rcases i2e ab with ⟨al,ab⟩ | ⟨al,ab⟩
       ·
        rcases i2e ab with ⟨am,ab⟩ | ⟨am,ab⟩
        ·
         obtain ⟨an,ao,ab⟩ := oB ab
         have ap := eq_TMsg_vv a0.M a1.M
         have aq := L_ref06_All_ok ai
         have ar := L_ref01_Ints_ok ao
         refine qeg [factE 28 aq,factE 56 ar] [none,none,none,none,none,none,some (some 10,true),some (some 10,true),some (some 10,true),some (some 10,true),some (some 10,true),none,none,some (some 17,true),some (some 17,true),some (some 17,true),some (some 17,true),some (some 17,true),none,none,some (some 24,true),some (some 24,true),some (some 24,true),some (some 24,true),some (some 24,true),none,none,some (some 31,true),some (some 31,true),some (some 31,true),some (some 31,true),some (some 31,true),none,none,some (some 38,true),some (some 38,true),some (some 38,true),some (some 38,true),some (some 38,true),none,none,some (some 45,true),some (some 45,true),some (some 45,true),some (some 45,true),some (some 45,true),none,none,some (some 52,true),some (some 52,true),some (some 52,true),some (some 52,true),some (some 52,true),none,none] [4] [] h fun ac wd h => ?_
         injection ab with ab; subst ab
         exact ⟨an,rfl,h.z⟩
        ·
         have au := eq_TMsg_vv a0.M a1.M
         have aq := L_ref06_All_ok ai
         refine qeg [factE 28 aq] [none,none,none,none,none,none,some (some 10,true),some (some 10,true),some (some 10,true),some (some 10,true),some (some 10,true),none,none,some (some 17,true),some (some 17,true),some (some 17,true),some (some 17,true),some (some 17,true),none,none,some (some 24,true),some (some 24,true),some (some 24,true),some (some 24,true),some (some 24,true),none,none,some (some 31,true),some (some 31,true),some (some 31,true),some (some 31,true),some (some 31,true),none,none,some (some 38,true),some (some 38,true),some (some 38,true),some (some 38,true),some (some 38,true),none,none,some (some 45,true),some (some 45,true),some (some 45,true),some (some 45,true),some (some 45,true),none,none,some (some 52,true),some (some 52,true),some (some 52,true),some (some 52,true),some (some 52,true),none,none] [4] [] h fun ac wd h => ?_
         injection ab with ab; subst ab
         exact ⟨false,rfl,h.z⟩
       ·
        have av := eq_TMsg_vv a0.M a1.M
        have aq := L_ref06_All_ok ai
        refine qeg [factE 28 aq] [none,none,none,none,none,none,some (some 10,true),some (some 10,true),some (some 10,true),some (some 10,true),some (some 10,true),none,none,some (some 17,true),some (some 17,true),some (some 17,true),some (some 17,true),some (some 17,true),none,none,some (some 24,true),some (some 24,true),some (some 24,true),some (some 24,true),some (some 24,true),none,none,some (some 31,true),some (some 31,true),some (some 31,true),some (some 31,true),some (some 31,true),none,none,some (some 38,true),some (some 38,true),some (some 38,true),some (some 38,true),some (some 38,true),none,none,some (some 45,true),some (some 45,true),some (some 45,true),some (some 45,true),some (some 45,true),none,none,some (some 52,true),some (some 52,true),some (some 52,true),some (some 52,true),some (some 52,true),none,none] [4] [] h fun ac wd h => ?_
        injection ab with ab; subst ab
        exact ⟨false,rfl,h.z⟩
      ·
       have aw := eq_TMsg_vv a0.M a1.M
       have aq := L_ref06_All_ok ai
       refine qeg [factE 28 aq] [none,none,none,none,none,none,some (some 10,true),some (some 10,true),some (some 10,true),some (some 10,true),some (some 10,true),none,none,some (some 17,true),some (some 17,true),some (some 17,true),some (some 17,true),some (some 17,true),none,none,some (some 24,true),some (some 24,true),some (some 24,true),some (some 24,true),some (some 24,true),none,none,some (some 31,true),some (some 31,true),some (some 31,true),some (some 31,true),some (some 31,true),none,none,some (some 38,true),some (some 38,true),some (some 38,true),some (some 38,true),some (some 38,true),none,none,some (some 45,true),some (some 45,true),some (some 45,true),some (some 45,true),some (some 45,true),none,none,some (some 52,true),some (some 52,true),some (some 52,true),some (some 52,true),some (some 52,true),none,none] [4] [] h fun ac wd h => ?_
       injection ab with ab; subst ab
       exact ⟨false,rfl,h.z⟩
     ·
      have ax := eq_TMsg_vv a0.M a1.M
      have aq := L_ref06_All_ok ai
      refine qeg [factE 28 aq] [none,none,none,none,none,none,some (some 10,true),some (some 10,true),some (some 10,true),some (some 10,true),some (some 10,true),none,none,some (some 17,true),some (some 17,true),some (some 17,true),some (some 17,true),some (some 17,true),none,none,some (some 24,true),some (some 24,true),some (some 24,true),some (some 24,true),some (some 24,true),none,none,some (some 31,true),some (some 31,true),some (some 31,true),some (some 31,true),some (some 31,true),none,none,some (some 38,true),some (some 38,true),some (some 38,true),some (some 38,true),some (some 38,true),none,none,some (some 45,true),some (some 45,true),some (some 45,true),some (some 45,true),some (some 45,true),none,none,some (some 52,true),some (some 52,true),some (some 52,true),some (some 52,true),some (some 52,true),none,none] [4] [] h fun ac wd h => ?_
      injection ab with ab; subst ab
      exact ⟨false,rfl,h.z⟩
    ·
     have ay := eq_TMsg_vv a0.M a1.M
     refine qeg [] [none,none,none,none,none,none,some (some 10,true),some (some 10,true),some (some 10,true),some (some 10,true),some (some 10,true),none,none,some (some 17,true),some (some 17,true),some (some 17,true),some (some 17,true),some (some 17,true),none,none,some (some 24,true),some (some 24,true),some (some 24,true),some (some 24,true),some (some 24,true),none,none,some (some 31,true),some (some 31,true),some (some 31,true),some (some 31,true),some (some 31,true),none,none,some (some 38,true),some (some 38,true),some (some 38,true),some (some 38,true),some (some 38,true),none,none,some (some 45,true),some (some 45,true),some (some 45,true),some (some 45,true),some (some 45,true),none,none,some (some 52,true),some (some 52,true),some (some 52,true),some (some 52,true),some (some 52,true),none,none] [4] [] h fun ac wd h => ?_
     injection ab with ab; subst ab
     exact ⟨false,rfl,h.z⟩
   ·
    refine qeg [] [none,none,none,none,none,none,some (some 10,true),some (some 10,true),some (some 10,true),some (some 10,true),some (some 10,true),none,none,some (some 17,true),some (some 17,true),some (some 17,true),some (some 17,true),some (some 17,true),none,none,some (some 24,true),some (some 24,true),some (some 24,true),some (some 24,true),some (some 24,true),none,none,some (some 31,true),some (some 31,true),some (some 31,true),some (some 31,true),some (some 31,true),none,none,some (some 38,true),some (some 38,true),some (some 38,true),some (some 38,true),some (some 38,true),none,none,some (some 45,true),some (some 45,true),some (some 45,true),some (some 45,true),some (some 45,true),none,none,some (some 52,true),some (some 52,true),some (some 52,true),some (some 52,true),some (some 52,true),none,none] [4] [] h fun ac wd h => ?_
    injection ab with ab; subst ab
    exact ⟨false,rfl,h.z⟩
  ·
   refine qeg [] [none,none,none,none,none,none,some (some 10,true),some (some 10,true),some (some 10,true),some (some 10,true),some (some 10,true),none,none,some (some 17,true),some (some 17,true),some (some 17,true),some (some 17,true),some (some 17,true),none,none,some (some 24,true),some (some 24,true),some (some 24,true),some (some 24,true),some (some 24,true),none,none,some (some 31,true),some (some 31,true),some (some 31,true),some (some 31,true),some (some 31,true),none,none,some (some 38,true),some (some 38,true),some (some 38,true),some (some 38,true),some (some 38,true),none,none,some (some 45,true),some (some 45,true),some (some 45,true),some (some 45,true),some (some 45,true),none,none,some (some 52,true),some (some 52,true),some (some 52,true),some (some 52,true),some (some 52,true),none,none] [4] [] h fun ac wd h => ?_
   injection ab with ab; subst ab
   exact ⟨false,rfl,h.z⟩
 ·
  rintro ac wd ⟨ad,rfl,h⟩
  (try dsimp only at hD)
  refine wp_ret ?_
  injection hD with hD
  subst hD
  exact rE h [.tmp 4]

theorem L_ref16_Outs_ok {a0 : (List TOut)} {a1 : (List TOut)} {r : Bool} (hD : L_ref16_Outs a0 a1 = some r) :
  CallH Tryz.prog 13 [.one (.d (.sl (List.map eTOut a0))),.one (.d (.sl (List.map eTOut a1)))] []
   (.one (.d (.bool r))) [] := by
 unfold L_ref16_Outs at hD
 refine rc Tryz.func13 rfl Tryz.ntmps13 fun S Φ P0 wb ac h => ?_
 refine qs 2 [] [0,1] [] h fun ac wd h => ?_
 refine wp_seq ?_
 refine qs 7 [] [0,1,10] [] h fun ac wd h => ?_
 rcases i2e hD with ⟨aa,hD⟩ | ⟨aa,hD⟩
 ·
  refine kF h ?_
  refine wp_skip ?_
  change Code.wp Tryz.prog _ _ _ _
  refine wp_seq ?_
  refine qs 8 [] [0,1,5] [] h fun ac wd h => ?_
  refine wp_block ?_
  refine r_while (fun nf ac wd => ∃ (ab : Int),L_ref16_Outs_l1 a0 a1 nf ab = some r ∧ SL ⟨wb,S,Φ,P0⟩ 42 72 [(0,.one (.d (.sl (List.map eTOut a0)))),(1,.one (.d (.sl (List.map eTOut a1)))),(5,.one (.d (.int .i64 ab)))] [] ac wd) (((a0.length : Int) - 0).toNat + 1) ⟨0,hD,h.z⟩ (fun nf ac wd hJ => ?_)
  obtain ⟨ab,ad,h⟩ := hJ
  cases nf with
  | zero => rw [L_ref16_Outs_l1] at ad; cases ad
  | succ nf =>
   rw [L_ref16_Outs_l1] at ad
   refine wp_seq ?_
   refine qs 76 [] [0,1,5,14] [] h fun ac wd h => ?_
   rcases i2 ad with ⟨ae,ad⟩ | ⟨ae,ad⟩
   ·
    refine kT h ?_
    refine wp_skip ?_
    change Code.wp Tryz.prog _ _ _ _
    refine wp_seq ?_
    refine wp_block ?_
    obtain ⟨af,ag,ad⟩ := Option.bind_eq_some_iff.1 ad
    refine r_seqJ (fun ac wd => ∃ (ah : Bool),ah = af ∧ SL ⟨wb,S,Φ,P0⟩ 42 101 [(0,.one (.d (.sl (List.map eTOut a0)))),(1,.one (.d (.sl (List.map eTOut a1)))),(5,.one (.d (.int .i64 ab))),(41,.one (.d (.bool ah)))] [] ac wd) ?_ ?_
    ·
     obtain ⟨ai,aj,ak,al,am,ag⟩ := aB ag
     obtain ⟨an,ao,ap,aq,ar,ag⟩ := aB ag
     rcases i2e ag with ⟨au,ag⟩ | ⟨au,ag⟩
     ·
      obtain ⟨av,aw,ag⟩ := oB ag
      have ax := L_ref07_Same_ok aw
      refine deg [factE 98 ax] [none,none,none,none,none,none,none,none,none,none,none,none,some (some 28,false),some (some 28,false),some (some 28,false),some (some 28,false),some (some 28,false),some (some 28,false),some (some 28,false),some (some 28,false),some (some 28,false),some (some 28,false),some (some 28,false),some (some 28,false),none] [0,1,5,41] [] h fun ac wd h => ?_
      injection ag with ag; subst ag
      exact ⟨!(av),rfl,h.z⟩
     ·
      refine deg [] [none,none,none,none,none,none,none,none,none,none,none,none,some (some 28,false),some (some 28,false),some (some 28,false),some (some 28,false),some (some 28,false),some (some 28,false),some (some 28,false),some (some 28,false),some (some 28,false),some (some 28,false),some (some 28,false),some (some 28,false),none] [0,1,5,41] [] h fun ac wd h => ?_
      injection ag with ag; subst ag
      exact ⟨true,rfl,h.z⟩
    ·
     rintro ac wd ⟨ah,rfl,h⟩
     (try dsimp only at ad)
     rcases i2b ad with ⟨ay,ad⟩ | ⟨ay,ad⟩
     ·
      refine kT h ?_
      refine qs 102 [] [4] [] h fun ac wd h => ?_
      refine wp_ret ?_
      injection ad with ad
      subst ad
      exact rE h [.tmp 4]
     ·
      refine kF h ?_
      refine wp_skip ?_
      change Code.wp Tryz.prog _ _ _ _
      refine qe [] [0,1,5] [] h fun ac wd h => ?_
      exact ⟨nf,Nat.lt_succ_self nf,(IntKind.wrap .i64 (ab + 1)),ad,h.z⟩
   ·
    refine kF h ?_
    refine wp_exit ?_
    change Code.wp Tryz.prog _ _ _ _
    refine qs 77 [] [4] [] h fun ac wd h => ?_
    refine wp_ret ?_
    injection ad with ad
    subst ad
    exact rE h [.tmp 4]
 ·
  refine kT h ?_
  refine qs 8 [] [4] [] h fun ac wd h => ?_
  refine wp_ret ?_
  injection hD with hD
  subst hD
  exact rE h [.tmp 4]

theorem L_law16_fixed_ok {r : Bool} (hD : L_law16_fixed = some r) :
  CallH Tryz.prog 10 [] []
   (.one (.d (.bool r))) [] := by
 unfold L_law16_fixed at hD
 refine rc Tryz.func10 rfl Tryz.ntmps10 fun S Φ P0 wb ac h => ?_
 refine qs 2 [] [] [] h fun ac wd h => ?_
 obtain ⟨aa,ab,hD⟩ := oB hD
 have ad := L_law15_Dead_ok ab
 refine qs 5 [factE 2 ad] [1] [(3,0)] h fun ac wd h => ?_
 refine qs 8 [] [1,2] [(3,0),(6,0)] h fun ac wd h => ?_
 refine qs 10 [] [1,2] [(3,0),(6,0)] h fun ac wd h => ?_
 obtain ⟨ae,af,hD⟩ := oB hD
 obtain ⟨ag,ah,hD⟩ := oB hD
 have ai := L_host_New_ok af
 have aj := L_host_New_ok ah
 refine ds 18 [factE 11 ai,factE 13 aj] [1,2,3,4] [(3,0),(6,0),(14,0),(15,0)] h fun ac wd h => ?_
 refine wp_seq ?_
 obtain ⟨ak,al,hD⟩ := oB hD
 obtain ⟨am,hD⟩ := iT hD
 obtain ⟨an,ao,hD⟩ := oB hD
 have ap := L_host_Right_ok al
 have aq := L_host_Right_ok ao
 refine qsg 28 [factE 20 ap,factE 25 aq] [none,none,none,none,none,some (some 35,false),some (some 35,false),some (some 35,false),some (some 35,false),none] [1,2,3,4,40] [(3,0),(6,0),(14,0),(15,0)] h fun ac wd h => ?_
 obtain ⟨ar,hD⟩ := iT hD
 refine kF h ?_
 refine wp_skip ?_
 change Code.wp Tryz.prog _ _ _ _
 obtain ⟨au,av,hD⟩ := oB hD
 have aw := L_probe_Start_ok av
 refine qs 36 [factE 30 aw] [2,3,4,6] [(6,0),(14,0),(15,0)] h fun ac wd h => ?_
 obtain ⟨ax,ay,hD⟩ := oB hD
 have az := L_probe_Start_ok ay
 refine qs 44 [factE 38 az] [2,3,4,6,8] [(6,0),(14,0),(15,0)] h fun ac wd h => ?_
 obtain ⟨aA,aB,hD⟩ := oB hD
 have aC := L_probe_Start_ok aB
 refine qs 52 [factE 46 aC] [2,3,4,6,8,9,10] [(6,0),(14,0),(15,0)] h fun ac wd h => ?_
 refine wp_seq ?_
 obtain ⟨aD,hD⟩ := iTe hD
 refine qsg 59 [] [none,none,none,none,some (some 62,false),some (some 62,false),none] [2,3,4,6,8,9,65] [(6,0),(14,0),(15,0)] h fun ac wd h => ?_
 obtain ⟨aE,hD⟩ := iTe hD
 refine kF h ?_
 refine wp_skip ?_
 change Code.wp Tryz.prog _ _ _ _
 obtain ⟨aF,aG,aH,aI,aJ,hD⟩ := aN 0 hD
 obtain ⟨aK,aL,hD⟩ := oB hD
 have aM := L_probe_Hear_ok aL
 refine ds 73 [factE 65 aM] [2,3,4,6,8,9,11,12,13] [(6,0),(14,0),(15,0)] h fun ac wd h => ?_
 refine wp_seq ?_
 obtain ⟨aO,hD⟩ := iTe hD
 refine qsg 81 [] [none,none,none,none,some (some 80,false),some (some 80,false),some (some 80,false),none] [2,3,4,6,8,9,11,12,84] [(6,0),(14,0),(15,0)] h fun ac wd h => ?_
 obtain ⟨aP,hD⟩ := iTe hD
 refine kF h ?_
 refine wp_skip ?_
 change Code.wp Tryz.prog _ _ _ _
 obtain ⟨aQ,aR,aS,aT,aU,hD⟩ := aN 0 hD
 obtain ⟨aV,aW,hD⟩ := oB hD
 have aX := L_probe_Hear_ok aW
 refine ds 95 [factE 87 aX] [2,4,6,8,9,11,12,14,15,16] [(6,0),(15,0)] h fun ac wd h => ?_
 obtain ⟨aY,aZ,hD⟩ := oB hD
 have ba := L_probe_Hear_ok aZ
 refine ds 110 [factE 102 ba] [2,4,6,8,9,11,12,14,15,16,17,18,19] [(6,0),(15,0)] h fun ac wd h => ?_
 refine qs 116 [] [2,4,6,8,9,11,12,14,15,16,17,18,19,20] [(6,0),(15,0),(114,0)] h fun ac wd h => ?_
 refine qs 118 [] [2,4,6,8,9,11,12,14,15,16,17,18,19,20] [(6,0),(15,0),(114,0)] h fun ac wd h => ?_
 obtain ⟨bb,bc,hD⟩ := oB hD
 have bd := L_probe_Hear_ok bc
 refine qs 129 [factE 121 bd] [6,8,9,11,12,14,15,16,17,18,19,21,22,23] [] h fun ac wd h => ?_
 obtain ⟨be,hD⟩ := iTe hD
 obtain ⟨bf,hD⟩ := iTe hD
 obtain ⟨bg,bh,hD⟩ := oB hD
 obtain ⟨bi,bj,hD⟩ := oB hD
 obtain ⟨bk,hD⟩ := iT hD
 obtain ⟨bl,bm,hD⟩ := oB hD
 obtain ⟨bn,hD⟩ := iT hD
 obtain ⟨bo,bp,hD⟩ := oB hD
 obtain ⟨bq,br,hD⟩ := oB hD
 obtain ⟨bs,hD⟩ := iT hD
 obtain ⟨bt,hD⟩ := iTe hD
 obtain ⟨bu,hD⟩ := iTe hD
 obtain ⟨bv,bw,hD⟩ := oB hD
 obtain ⟨bx,hD⟩ := iT hD
 obtain ⟨bz,bA,hD⟩ := oB hD
 obtain ⟨bB,hD⟩ := iT hD
 obtain ⟨bC,hD⟩ := iTe hD
 obtain ⟨bD,hD⟩ := iTe hD
 obtain ⟨bE,hD⟩ := iTe hD
 obtain ⟨bF,hD⟩ := iTe hD
 have bG := L_law16_Outs_ok bh
 have bH := L_ref16_Outs_ok bj
 have bI := L_ref01_Ints_ok bm
 have bJ := L_law16_Outs_ok bp
 have bK := L_ref16_Outs_ok br
 have bL := L_ref01_Ints_ok bw
 have bM := L_ref01_Ints_ok bA
 refine qsg 204 [factE 137 bG,factE 142 bH,factE 147 bI,factE 151 bJ,factE 156 bK,factE 171 bL,factE 176 bM] [none,none,none,some (some 123,true),some (some 123,true),none,none,some (some 127,true),some (some 127,true),some (some 127,true),some (some 127,true),some (some 127,true),some (some 127,true),some (some 127,true),none,none,some (some 136,true),some (some 136,true),some (some 136,true),none,none,some (some 141,true),some (some 141,true),some (some 141,true),some (some 141,true),some (some 141,true),some (some 141,true),some (some 141,true),none,none,some (some 150,true),some (some 150,true),some (some 150,true),none,none,some (some 155,true),some (some 155,true),some (some 155,true),none,none,some (some 160,true),some (some 160,true),some (some 160,true),none,none,some (some 165,true),some (some 165,true),some (some 165,true),none,none,some (some 170,true),some (some 170,true),some (some 170,true),none,none,some (some 175,true),some (some 175,true),some (some 175,true),none,none,some (some 180,true),some (some 180,true),some (some 180,true),none,none,some (some 185,true),some (some 185,true),some (some 185,true),none,none,some (some 190,true),some (some 190,true),some (some 190,true),none,none] [0] [] h fun ac wd h => ?_
 refine wp_ret ?_
 injection hD with hD
 subst hD
 exact rE h [.tmp 0]

end Go.Proofs.YtabbejabdkkaiaaGreat
