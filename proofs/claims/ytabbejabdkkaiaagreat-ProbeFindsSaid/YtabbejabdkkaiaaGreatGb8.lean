/- Functions as typed ones,and that the program's functions answer as these do. No condition. -/
import Derived.Test.YtabbejabdkkaiaaGreatGb3
import Derived.Test.YtabbejabdkkaiaaGreatGd
set_option linter.unusedSimpArgs false
set_option linter.unusedVariables false
set_option maxRecDepth 20000
set_option maxHeartbeats 4000000
namespace Go.Proofs.YtabbejabdkkaiaaGreat
open Go.RowKit

theorem L_ref04_At_ok {a0 : (List TNode)} {a1 : Int} {a2 : Int} {r : TState} (hD : L_ref04_At a0 a1 a2 = some r) :
  CallH Tryz.prog 23 [.one (.d (.sl (List.map eTNode a0))),.one (.d (.int .i64 a1)),.one (.d (.int .i64 a2))] []
   (.agg [.d (.int .i64 r.Mode),.d (.sl (List.map eI r.Waits)),.d (.sl (List.map eTPick r.Picks)),.d (.sl (List.map eTTake r.Takes))]) [] := by
 unfold L_ref04_At at hD
 refine rc Tryz.func23 rfl Tryz.ntmps23 fun S Φ P0 wb ac h => ?_
 refine qs 2 [] [0,1,2,6] [(1,0)] h fun ac wd h => ?_
 refine wp_seq ?_
 obtain ⟨aa,ab,hD⟩ := Option.bind_eq_some_iff.1 hD
 refine r_seqJ (fun ac wd => ∃ (ad : Bool),ad = aa ∧ SL ⟨wb,S,Φ,P0⟩ 38 24 [(0,.one (.d (.sl (List.map eTNode a0)))),(1,.one (.d (.int .i64 a1))),(2,.one (.d (.int .i64 a2))),(6,.one (.ptr (1,0) 0)),(28,.one (.d (.bool ad)))] [((1,0),some (.box 86 [.d (.int .i64 0),.nil,.nil,.nil]))] ac wd) ?_ ?_
 ·
  rcases i2 ab with ⟨ae,ab⟩ | ⟨ae,ab⟩
  ·
   refine qeg [] [none,none,none,some (some 9,false),some (some 9,false),some (some 9,false),some (some 9,false),none,none,some (some 15,false),some (some 15,false),none,none,some (some 19,false),some (some 19,false),some (some 19,false),some (some 19,false),some (some 19,false),some (some 19,false),some (some 19,false),some (some 19,false),none] [0,1,2,6,28] [(1,0)] h fun ac wd h => ?_
   injection ab with ab; subst ab
   exact ⟨true,rfl,h.z⟩
  ·
   rcases i2 ab with ⟨af,ab⟩ | ⟨af,ab⟩
   ·
    refine qeg [] [none,none,none,some (some 9,false),some (some 9,false),some (some 9,false),some (some 9,false),none,none,some (some 15,false),some (some 15,false),none,none,some (some 19,false),some (some 19,false),some (some 19,false),some (some 19,false),some (some 19,false),some (some 19,false),some (some 19,false),some (some 19,false),none] [0,1,2,6,28] [(1,0)] h fun ac wd h => ?_
    injection ab with ab; subst ab
    exact ⟨true,rfl,h.z⟩
   ·
    rcases i2 ab with ⟨ag,ab⟩ | ⟨ag,ab⟩
    ·
     refine qeg [] [none,none,none,some (some 9,false),some (some 9,false),some (some 9,false),some (some 9,false),none,none,some (some 15,false),some (some 15,false),none,none,some (some 19,false),some (some 19,false),some (some 19,false),some (some 19,false),some (some 19,false),some (some 19,false),some (some 19,false),some (some 19,false),none] [0,1,2,6,28] [(1,0)] h fun ac wd h => ?_
     injection ab with ab; subst ab
     exact ⟨true,rfl,h.z⟩
    ·
     obtain ⟨ah,ai,aj,ak,al,ab⟩ := aB ab
     refine qeg [] [none,none,none,some (some 9,false),some (some 9,false),some (some 9,false),some (some 9,false),none,none,some (some 15,false),some (some 15,false),none,none,some (some 19,false),some (some 19,false),some (some 19,false),some (some 19,false),some (some 19,false),some (some 19,false),some (some 19,false),some (some 19,false),none] [0,1,2,6,28] [(1,0)] h fun ac wd h => ?_
     injection ab with ab; subst ab
     exact ⟨decide (a2 ≥ (ah.States.length : Int)),rfl,h.z⟩
 ·
  rintro ac wd ⟨ad,rfl,h⟩
  (try dsimp only at hD)
  rcases i2b hD with ⟨am,hD⟩ | ⟨am,hD⟩
  ·
   refine kT h ?_
   refine qs 26 [] [6] [(1,0)] h fun ac wd h => ?_
   refine wp_ret ?_
   injection hD with hD
   subst hD
   exact rE h [.cell 6 86]
  ·
   refine kF h ?_
   refine wp_skip ?_
   change Code.wp Tryz.prog _ _ _ _
   obtain ⟨an,ao,ap,aq,ar,hD⟩ := aB hD
   obtain ⟨au,av,aw,ax,ay,hD⟩ := aB hD
   refine qs 33 [] [6] [(1,0)] h fun ac wd h => ?_
   refine wp_ret ?_
   injection hD with hD
   subst hD
   exact rE h [.cell 6 86]

theorem L_ref09_Place_ok {a0 : (List Int)} {a1 : Int} {r : Int} (hD : L_ref09_Place a0 a1 = some r) :
  CallH Tryz.prog 52 [.one (.d (.sl (List.map eI a0))),.one (.d (.int .i64 a1))] []
   (.one (.d (.int .i64 r))) [] := by
 unfold L_ref09_Place at hD
 refine rc Tryz.func52 rfl Tryz.ntmps52 fun S Φ P0 wb ac h => ?_
 refine qs 2 [] [0,1] [] h fun ac wd h => ?_
 refine wp_seq ?_
 refine qs 3 [] [0,1,5] [] h fun ac wd h => ?_
 refine wp_block ?_
 refine r_while (fun nf ac wd => ∃ (aa : Int),L_ref09_Place_l1 a0 a1 nf aa = some r ∧ SL ⟨wb,S,Φ,P0⟩ 19 29 [(0,.one (.d (.sl (List.map eI a0)))),(1,.one (.d (.int .i64 a1))),(5,.one (.d (.int .i64 aa)))] [] ac wd) (((a0.length : Int) - 0).toNat + 1) ⟨0,hD,h.z⟩ (fun nf ac wd hJ => ?_)
 obtain ⟨aa,ab,h⟩ := hJ
 cases nf with
 | zero => rw [L_ref09_Place_l1] at ab; cases ab
 | succ nf =>
  rw [L_ref09_Place_l1] at ab
  refine wp_seq ?_
  refine qs 33 [] [0,1,5,9] [] h fun ac wd h => ?_
  rcases i2 ab with ⟨ad,ab⟩ | ⟨ad,ab⟩
  ·
   refine kT h ?_
   refine wp_skip ?_
   change Code.wp Tryz.prog _ _ _ _
   refine wp_seq ?_
   refine wp_block ?_
   obtain ⟨ae,af,ag,ah,ai,ab⟩ := aB ab
   refine qs 39 [] [0,1,5,17] [] h fun ac wd h => ?_
   rcases i2e ab with ⟨aj,ab⟩ | ⟨aj,ab⟩
   ·
    refine kT h ?_
    refine qs 41 [] [4] [] h fun ac wd h => ?_
    refine wp_ret ?_
    injection ab with ab
    subst ab
    exact rE h [.tmp 4]
   ·
    refine kF h ?_
    refine wp_skip ?_
    change Code.wp Tryz.prog _ _ _ _
    refine qe [] [0,1,5] [] h fun ac wd h => ?_
    exact ⟨nf,Nat.lt_succ_self nf,(IntKind.wrap .i64 (aa + 1)),ab,h.z⟩
  ·
   refine kF h ?_
   refine wp_exit ?_
   change Code.wp Tryz.prog _ _ _ _
   refine qs 34 [] [4] [] h fun ac wd h => ?_
   refine wp_ret ?_
   injection ab with ab
   subst ab
   exact rE h [.tmp 4]

theorem L_ref09_Got_ok {a0 : TApp} {a1 : THost} {a2 : Int} {r : Int} (hD : L_ref09_Got a0 a1 a2 = some r) :
  CallH Tryz.prog 74 [.agg (cTApp a0),.agg (cTHost a1),.one (.d (.int .i64 a2))] []
   (.one (.d (.int .i64 r))) [] := by
 unfold L_ref09_Got at hD
 refine rc Tryz.func74 rfl Tryz.ntmps74 fun S Φ P0 wb ac h => ?_
 refine qs 4 [] [2,3,4] [(1,0),(2,0)] h fun ac wd h => ?_
 obtain ⟨aa,ab,hD⟩ := oB hD
 obtain ⟨ad,ae,hD⟩ := oB hD
 have af := L_ref03_In_ok ab
 have ag := L_ref09_Place_ok ae
 refine qs 12 [factE 8 af,factE 10 ag] [4,7] [(2,0)] h fun ac wd h => ?_
 refine wp_seq ?_
 refine qs 14 [] [4,7,16] [(2,0)] h fun ac wd h => ?_
 rcases i2 hD with ⟨ah,hD⟩ | ⟨ah,hD⟩
 ·
  refine kT h ?_
  refine qs 15 [] [6] [] h fun ac wd h => ?_
  refine wp_ret ?_
  injection hD with hD
  subst hD
  exact rE h [.tmp 6]
 ·
  refine kF h ?_
  refine wp_skip ?_
  change Code.wp Tryz.prog _ _ _ _
  obtain ⟨ai,aj,ak,al,am,hD⟩ := aB hD
  refine qs 21 [] [6] [] h fun ac wd h => ?_
  refine wp_ret ?_
  injection hD with hD
  subst hD
  exact rE h [.tmp 6]

theorem L_ref16_send_own {a0 : TApp} {a1 : THost} {a2 : Int} {a3 : Int} {a4 : (List Int)} {r : (List TOut)} (hD : L_ref16_send a0 a1 a2 a3 a4 = some r) :
  CallH Tryz.prog 41 [.agg (cTApp a0),.agg (cTHost a1),.one (.d (.int .i64 a2)),.one (.d (.int .i64 a3)),.one (.d (.sl (List.map eI a4)))] []
   (.one (.own (1,0) r.length)) [((1,0),some (.row 114 10 (openRows cols_114 (List.map eTOut r))))] := by
 unfold L_ref16_send at hD
 refine rc Tryz.func41 rfl Tryz.ntmps41 fun S Φ P0 wb ac h => ?_
 refine qs 4 [] [2,3,4,5,6] [(1,0),(2,0)] h fun ac wd h => ?_
 obtain ⟨aa,ab,hD⟩ := oB hD
 have ad := L_ref04_At_ok ab
 refine qs 15 [factE 11 ad] [2,3,4,5,6,11,12] [(1,0),(2,0),(4,0)] h fun ac wd h => ?_
 refine wp_seq ?_
 refine qs 16 [] [2,3,4,5,6,11,12,13] [(1,0),(2,0),(4,0)] h fun ac wd h => ?_
 refine wp_block ?_
 refine r_while (fun nf ac wd => ∃ (ae : Int) (af : List TOut),L_ref16_send_l1 a0 a1 a2 a3 a4 aa nf ae af = some r ∧ SL ⟨wb,S,Φ,P0⟩ 70 114 [(2,.one (.d (.int .i64 a2))),(3,.one (.d (.int .i64 a3))),(4,.one (.d (.sl (List.map eI a4)))),(5,.one (.ptr (1,0) 0)),(6,.one (.ptr (2,0) 0)),(11,.one (.own (4,0) af.length)),(12,.one (.d (.sl (List.map eI aa.Waits)))),(13,.one (.d (.int .i64 ae)))] [((1,0),some (.box 44 (cTApp a0))),((2,0),some (.box 46 (cTHost a1))),((4,0),some (.row 114 10 (openRows cols_114 (List.map eTOut af))))] ac wd) (((aa.Waits.length : Int) - 0).toNat + 1) ⟨0,([] : List TOut),hD,h.z⟩ (fun nf ac wd hJ => ?_)
 obtain ⟨ae,af,ag,h⟩ := hJ
 cases nf with
 | zero => rw [L_ref16_send_l1] at ag; cases ag
 | succ nf =>
  rw [L_ref16_send_l1] at ag
  refine wp_seq ?_
  refine qs 118 [] [2,3,4,5,6,11,12,13,28] [(1,0),(2,0),(4,0)] h fun ac wd h => ?_
  rcases i2 ag with ⟨ah,ag⟩ | ⟨ah,ag⟩
  ·
   refine kT h ?_
   refine wp_skip ?_
   change Code.wp Tryz.prog _ _ _ _
   refine wp_seq ?_
   refine wp_block ?_
   obtain ⟨ai,ag⟩ := iT ag
   refine qs 122 [] [2,3,4,5,6,11,12,13,14] [(1,0),(2,0),(4,0),(120,0)] h fun ac wd h => ?_
   obtain ⟨aj,ag⟩ := iT ag
   refine qs 128 [] [2,3,4,5,6,11,12,13,14] [(1,0),(2,0),(4,0),(126,0)] h fun ac wd h => ?_
   obtain ⟨ak,al,am,an,ao,ag⟩ := aB ag
   obtain ⟨ap,aq,ag⟩ := oB ag
   obtain ⟨ar,au,ag⟩ := oB ag
   have av := L_ref03_Find_ok aq
   have aw := L_ref09_Got_ok au
   refine ds 141 [factE 138 av,factE 139 aw] [2,3,4,5,6,11,12,13,14,15] [(1,0),(2,0),(4,0),(126,0)] h fun ac wd h => ?_
   obtain ⟨ax,ay,ag⟩ := oB ag
   obtain ⟨az,ag⟩ := iT ag
   have aA := L_ref03_Find_ok ay
   refine de [factE 150 aA] [2,3,4,5,6,11,12,13] [(1,0),(2,0),(126,0),(158,0)] h fun ac wd h => ?_
   have h := h.nilTr (158,0) (l := (openRows cols_114 (List.map eTOut af) ++ [[.d (.int .i64 ax),.d (.int .i64 6),.d (.int .i64 0),.d (.int .i64 0),.d (.int .i64 0),.nil,.d (.int .i64 a2),.d (.int .i64 a3),.d (.int .i64 ar),.own (126,0) (a4.length + 1)]])) (l' := (openRows cols_114 (List.map eTOut af) ++ [[.d (.int .i64 ax),.d (.int .i64 6),.d (.int .i64 0),.d (.int .i64 0),.d (.int .i64 0),.tr (.sl 109 6 cols_109) (.sl (List.map eTPiece [])),.d (.int .i64 a2),.d (.int .i64 a3),.d (.int .i64 ar),.own (126,0) (a4.length + 1)]])) (by simp only [EZ,simprocAttr, *] <;> rfl) (RowsTo.append (RowsTo.refl _) (RowsTo.cons (RowTo.cons (.inl rfl) (RowTo.cons (.inl rfl) (RowTo.cons (.inl rfl) (RowTo.cons (.inl rfl) (RowTo.cons (.inl rfl) (RowTo.cons (.inr (.inr ⟨rfl,_,_,_,rfl⟩)) (RowTo.cons (.inl rfl) (RowTo.cons (.inl rfl) (RowTo.cons (.inl rfl) (RowTo.cons (.inl rfl) RowTo.nil)))))))))) (RowsTo.refl [])))
   have h := h.sm 160 [(2,.one (.d (.int .i64 a2))),(3,.one (.d (.int .i64 a3))),(4,.one (.d (.sl (List.map eI a4)))),(5,.one (.ptr (1,0) 0)),(6,.one (.ptr (2,0) 0)),(11,.one (.own (158,0) (af.length + 1))),(12,.one (.d (.sl (List.map eI aa.Waits)))),(13,.one (.d (.int .i64 ae)))]
    [((1,0),some (.box 44 (cTApp a0))),((2,0),some (.box 46 (cTHost a1))),((126,0),some (.row 3 1 (dat (List.map eI (a4 ++ [a1.Node]))))),((158,0),some (.row 114 10 ((openRows cols_114 (List.map eTOut af) ++ [[.d (.int .i64 ax),.d (.int .i64 6),.d (.int .i64 0),.d (.int .i64 0),.d (.int .i64 0),.tr (.sl 109 6 cols_109) (.sl (List.map eTPiece [])),.d (.int .i64 a2),.d (.int .i64 a3),.d (.int .i64 ar),.own (126,0) (a4.length + 1)]]))))]
   have h := h.fL (cols := (fun _ => .sc)) (158,0) (126,0) (openRows cols_114 (List.map eTOut af)) [.d (.int .i64 ax),.d (.int .i64 6),.d (.int .i64 0),.d (.int .i64 0),.d (.int .i64 0),.tr (.sl 109 6 cols_109) (.sl (List.map eTPiece [])),.d (.int .i64 a2),.d (.int .i64 a3),.d (.int .i64 ar),.own (126,0) (a4.length + 1)] 9 (List.map eI (a4 ++ [a1.Node])) (sc_3 _)
   have h := h.sm 160 [(2,.one (.d (.int .i64 a2))),(3,.one (.d (.int .i64 a3))),(4,.one (.d (.sl (List.map eI a4)))),(5,.one (.ptr (1,0) 0)),(6,.one (.ptr (2,0) 0)),(11,.one (.own (158,0) (af.length + 1))),(12,.one (.d (.sl (List.map eI aa.Waits)))),(13,.one (.d (.int .i64 ae)))]
    [((1,0),some (.box 44 (cTApp a0))),((2,0),some (.box 46 (cTHost a1))),((158,0),some (.row 114 10 ((openRows cols_114 (List.map eTOut af) ++ [[.d (.int .i64 ax),.d (.int .i64 6),.d (.int .i64 0),.d (.int .i64 0),.d (.int .i64 0),.tr (.sl 109 6 cols_109) (.sl (List.map eTPiece [])),.d (.int .i64 a2),.d (.int .i64 a3),.d (.int .i64 ar),.tr (.sl 3 1 (fun _ => .sc)) (.sl (List.map eI (a4 ++ [a1.Node])))]]))))]
   change Code.wp Tryz.prog _ _ _ _
   refine qe [] [2,3,4,5,6,11,12,13] [(1,0),(2,0),(158,0)] h fun ac wd h => ?_
   have h := h.sw (4,0) (158,0) 163
   exact ⟨nf,Nat.lt_succ_self nf,(IntKind.wrap .i64 (ae + 1)),((af ++ [(TOut.mk ax (TFrame.mk 6 0 (TMsg.mk 0 0) [] a2 a3 ar (a4 ++ [a1.Node])))]) : List TOut),ag,h.z⟩
  ·
   refine kF h ?_
   refine wp_exit ?_
   change Code.wp Tryz.prog _ _ _ _
   refine qs 120 [] [10] [(4,0)] h fun ac wd h => ?_
   refine wp_ret ?_
   have h := h.sw (1,0) (4,0) 120
   injection ag with ag
   subst ag
   exact rO h [.tmp 10] [(1,0)]
theorem L_ref16_send_ok {a0 : TApp} {a1 : THost} {a2 : Int} {a3 : Int} {a4 : (List Int)} {r : (List TOut)} (hD : L_ref16_send a0 a1 a2 a3 a4 = some r) :
  CallH Tryz.prog 41 [.agg (cTApp a0),.agg (cTHost a1),.one (.d (.int .i64 a2)),.one (.d (.int .i64 a3)),.one (.d (.sl (List.map eI a4)))] []
   (.one (.d (.sl (List.map eTOut r)))) [] :=
 (L_ref16_send_own hD).fr

theorem L_ref16_Start_own {a0 : TApp} {a1 : THost} {a2 : Int} {r : (List TOut) × Int} (hD : L_ref16_Start a0 a1 a2 = some r) :
  CallH Tryz.prog 12 [.agg (cTApp a0),.agg (cTHost a1),.one (.d (.int .i64 a2))] []
   (.tup [.inr (.own (1,0) r.1.length),.inr (.d (.int .i64 r.2))]) [((1,0),some (.row 114 10 (openRows cols_114 (List.map eTOut r.1))))] := by
 unfold L_ref16_Start at hD
 refine rc Tryz.func12 rfl Tryz.ntmps12 fun S Φ P0 wb ac h => ?_
 refine qs 5 [] [2,3,4] [(1,0),(2,0)] h fun ac wd h => ?_
 refine wp_seq ?_
 refine qs 8 [] [2,3,4,10] [(1,0),(2,0)] h fun ac wd h => ?_
 rcases i2b hD with ⟨aa,hD⟩ | ⟨aa,hD⟩
 ·
  refine kF h ?_
  refine wp_skip ?_
  change Code.wp Tryz.prog _ _ _ _
  refine wp_seq ?_
  obtain ⟨ab,ad,hD⟩ := Option.bind_eq_some_iff.1 hD
  refine r_seqJ (fun ac wd => ∃ (ae : Bool),ae = ab ∧ SL ⟨wb,S,Φ,P0⟩ 32 14 [(2,.one (.d (.int .i64 a2))),(3,.one (.ptr (1,0) 0)),(4,.one (.ptr (2,0) 0)),(16,.one (.d (.bool ae)))] [((1,0),some (.box 44 (cTApp a0))),((2,0),some (.box 46 (cTHost a1)))] ac wd) ?_ ?_
  ·
   rcases i2 ad with ⟨af,ad⟩ | ⟨af,ad⟩
   ·
    refine qeg [] [none,none,none,some (some 13,false),some (some 13,false),none] [2,3,4,16] [(1,0),(2,0)] h fun ac wd h => ?_
    injection ad with ad; subst ad
    exact ⟨true,rfl,h.z⟩
   ·
    refine qeg [] [none,none,none,some (some 13,false),some (some 13,false),none] [2,3,4,16] [(1,0),(2,0)] h fun ac wd h => ?_
    injection ad with ad; subst ad
    exact ⟨decide (a2 > 200),rfl,h.z⟩
  ·
   rintro ac wd ⟨ae,rfl,h⟩
   (try dsimp only at hD)
   rcases i2b hD with ⟨ag,hD⟩ | ⟨ag,hD⟩
   ·
    refine kT h ?_
    refine qs 16 [] [6,7] [] h fun ac wd h => ?_
    refine wp_ret ?_
    have h := SL.bornS h 6 114 10 (by simp only [EZ,simprocAttr, *] <;> rfl)
    have h := h.sw (1,0) (16,0) 17
    injection hD with hD
    subst hD
    exact rO h [.tmp 6,.tmp 7] [(1,0)]
   ·
    refine kF h ?_
    refine wp_skip ?_
    change Code.wp Tryz.prog _ _ _ _
    refine wp_seq ?_
    obtain ⟨ah,ai,hD⟩ := oB hD
    have aj := L_ref04_At_ok ai
    refine qs 23 [factE 20 aj] [2,3,4,25] [(1,0),(2,0)] h fun ac wd h => ?_
    rcases i2e hD with ⟨ak,hD⟩ | ⟨ak,hD⟩
    ·
     refine kF h ?_
     refine wp_skip ?_
     change Code.wp Tryz.prog _ _ _ _
     obtain ⟨al,am,hD⟩ := oB hD
     have an := ((L_ref16_send_own am).cls 28).z
     refine qs 31 [factO an] [6,7] [(28,0)] h fun ac wd h => ?_
     refine wp_ret ?_
     have h := h.sw (1,0) (28,0) 31
     injection hD with hD
     subst hD
     exact rO h [.tmp 6,.tmp 7] [(1,0)]
    ·
     refine kT h ?_
     refine qs 25 [] [6,7] [] h fun ac wd h => ?_
     refine wp_ret ?_
     have h := SL.bornS h 6 114 10 (by simp only [EZ,simprocAttr, *] <;> rfl)
     have h := h.sw (1,0) (25,0) 26
     injection hD with hD
     subst hD
     exact rO h [.tmp 6,.tmp 7] [(1,0)]
 ·
  refine kT h ?_
  refine qs 10 [] [6,7] [] h fun ac wd h => ?_
  refine wp_ret ?_
  have h := SL.bornS h 6 114 10 (by simp only [EZ,simprocAttr, *] <;> rfl)
  have h := h.sw (1,0) (10,0) 11
  injection hD with hD
  subst hD
  exact rO h [.tmp 6,.tmp 7] [(1,0)]
theorem L_ref16_Start_ok {a0 : TApp} {a1 : THost} {a2 : Int} {r : (List TOut) × Int} (hD : L_ref16_Start a0 a1 a2 = some r) :
  CallH Tryz.prog 12 [.agg (cTApp a0),.agg (cTHost a1),.one (.d (.int .i64 a2))] []
   (.tup [.inr (.d (.sl (List.map eTOut r.1))),.inr (.d (.int .i64 r.2))]) [] :=
 (L_ref16_Start_own hD).fr

theorem L_ref07_probe_ok {a0 : TFrame} {r : Bool} (hD : L_ref07_probe a0 = some r) :
  CallH Tryz.prog 43 [.agg (cTFrame a0)] []
   (.one (.d (.bool r))) [] := by
 unfold L_ref07_probe at hD
 refine rc Tryz.func43 rfl Tryz.ntmps43 fun S Φ P0 wb ac h => ?_
 refine qs 3 [] [1] [(1,0)] h fun ac wd h => ?_
 refine wp_seq ?_
 obtain ⟨aa,ab,hD⟩ := Option.bind_eq_some_iff.1 hD
 refine r_seqJ (fun ac wd => ∃ (ad : Bool),ad = aa ∧ SL ⟨wb,S,Φ,P0⟩ 82 60 [(1,.one (.ptr (1,0) 0)),(60,.one (.d (.bool ad)))] [((1,0),some (.box 63 (cTFrame a0)))] ac wd) ?_ ?_
 ·
  rcases i2e ab with ⟨ae,ab⟩ | ⟨ae,ab⟩
  ·
   rcases i2e ab with ⟨af,ab⟩ | ⟨af,ab⟩
   ·
    rcases i2 ab with ⟨ag,ab⟩ | ⟨ag,ab⟩
    ·
     have ah := eq_TMsg_vm a0.M 0 0
     refine qeg [] [none,none,none,none,some (some 7,false),some (some 7,false),some (some 7,false),some (some 7,false),none,none,some (some 13,false),some (some 13,false),some (some 13,false),some (some 13,false),none,none,some (some 19,false),some (some 19,false),some (some 19,false),none,none,some (some 24,false),some (some 24,false),some (some 24,false),none,none,some (some 29,false),some (some 29,false),some (some 29,false),none,none,some (some 34,false),some (some 34,false),some (some 34,false),none,none,some (some 39,false),some (some 39,false),some (some 39,false),none,none,some (some 44,false),some (some 44,false),some (some 44,false),none,none,some (some 49,false),some (some 49,false),some (some 49,false),some (some 49,false),none,none,some (some 55,false),some (some 55,false),some (some 55,false),some (some 55,false),none] [1,60] [(1,0)] h fun ac wd h => ?_
     injection ab with ab; subst ab
     exact ⟨true,rfl,h.z⟩
    ·
     rcases i2 ab with ⟨ai,ab⟩ | ⟨ai,ab⟩
     ·
      have aj := eq_TMsg_vm a0.M 0 0
      refine qeg [] [none,none,none,none,some (some 7,false),some (some 7,false),some (some 7,false),some (some 7,false),none,none,some (some 13,false),some (some 13,false),some (some 13,false),some (some 13,false),none,none,some (some 19,false),some (some 19,false),some (some 19,false),none,none,some (some 24,false),some (some 24,false),some (some 24,false),none,none,some (some 29,false),some (some 29,false),some (some 29,false),none,none,some (some 34,false),some (some 34,false),some (some 34,false),none,none,some (some 39,false),some (some 39,false),some (some 39,false),none,none,some (some 44,false),some (some 44,false),some (some 44,false),none,none,some (some 49,false),some (some 49,false),some (some 49,false),some (some 49,false),none,none,some (some 55,false),some (some 55,false),some (some 55,false),some (some 55,false),none] [1,60] [(1,0)] h fun ac wd h => ?_
      injection ab with ab; subst ab
      exact ⟨true,rfl,h.z⟩
     ·
      rcases i2 ab with ⟨ak,ab⟩ | ⟨ak,ab⟩
      ·
       have al := eq_TMsg_vm a0.M 0 0
       refine qeg [] [none,none,none,none,some (some 7,false),some (some 7,false),some (some 7,false),some (some 7,false),none,none,some (some 13,false),some (some 13,false),some (some 13,false),some (some 13,false),none,none,some (some 19,false),some (some 19,false),some (some 19,false),none,none,some (some 24,false),some (some 24,false),some (some 24,false),none,none,some (some 29,false),some (some 29,false),some (some 29,false),none,none,some (some 34,false),some (some 34,false),some (some 34,false),none,none,some (some 39,false),some (some 39,false),some (some 39,false),none,none,some (some 44,false),some (some 44,false),some (some 44,false),none,none,some (some 49,false),some (some 49,false),some (some 49,false),some (some 49,false),none,none,some (some 55,false),some (some 55,false),some (some 55,false),some (some 55,false),none] [1,60] [(1,0)] h fun ac wd h => ?_
       injection ab with ab; subst ab
       exact ⟨true,rfl,h.z⟩
      ·
       rcases i2 ab with ⟨am,ab⟩ | ⟨am,ab⟩
       ·
        have an := eq_TMsg_vm a0.M 0 0
        refine qeg [] [none,none,none,none,some (some 7,false),some (some 7,false),some (some 7,false),some (some 7,false),none,none,some (some 13,false),some (some 13,false),some (some 13,false),some (some 13,false),none,none,some (some 19,false),some (some 19,false),some (some 19,false),none,none,some (some 24,false),some (some 24,false),some (some 24,false),none,none,some (some 29,false),some (some 29,false),some (some 29,false),none,none,some (some 34,false),some (some 34,false),some (some 34,false),none,none,some (some 39,false),some (some 39,false),some (some 39,false),none,none,some (some 44,false),some (some 44,false),some (some 44,false),none,none,some (some 49,false),some (some 49,false),some (some 49,false),some (some 49,false),none,none,some (some 55,false),some (some 55,false),some (some 55,false),some (some 55,false),none] [1,60] [(1,0)] h fun ac wd h => ?_
        injection ab with ab; subst ab
        exact ⟨true,rfl,h.z⟩
       ·
        rcases i2 ab with ⟨ao,ab⟩ | ⟨ao,ab⟩
        ·
         have ap := eq_TMsg_vm a0.M 0 0
         refine qeg [] [none,none,none,none,some (some 7,false),some (some 7,false),some (some 7,false),some (some 7,false),none,none,some (some 13,false),some (some 13,false),some (some 13,false),some (some 13,false),none,none,some (some 19,false),some (some 19,false),some (some 19,false),none,none,some (some 24,false),some (some 24,false),some (some 24,false),none,none,some (some 29,false),some (some 29,false),some (some 29,false),none,none,some (some 34,false),some (some 34,false),some (some 34,false),none,none,some (some 39,false),some (some 39,false),some (some 39,false),none,none,some (some 44,false),some (some 44,false),some (some 44,false),none,none,some (some 49,false),some (some 49,false),some (some 49,false),some (some 49,false),none,none,some (some 55,false),some (some 55,false),some (some 55,false),some (some 55,false),none] [1,60] [(1,0)] h fun ac wd h => ?_
         injection ab with ab; subst ab
         exact ⟨true,rfl,h.z⟩
        ·
         rcases i2 ab with ⟨aq,ab⟩ | ⟨aq,ab⟩
         ·
          have ar := eq_TMsg_vm a0.M 0 0
          refine qeg [] [none,none,none,none,some (some 7,false),some (some 7,false),some (some 7,false),some (some 7,false),none,none,some (some 13,false),some (some 13,false),some (some 13,false),some (some 13,false),none,none,some (some 19,false),some (some 19,false),some (some 19,false),none,none,some (some 24,false),some (some 24,false),some (some 24,false),none,none,some (some 29,false),some (some 29,false),some (some 29,false),none,none,some (some 34,false),some (some 34,false),some (some 34,false),none,none,some (some 39,false),some (some 39,false),some (some 39,false),none,none,some (some 44,false),some (some 44,false),some (some 44,false),none,none,some (some 49,false),some (some 49,false),some (some 49,false),some (some 49,false),none,none,some (some 55,false),some (some 55,false),some (some 55,false),some (some 55,false),none] [1,60] [(1,0)] h fun ac wd h => ?_
          injection ab with ab; subst ab
          exact ⟨true,rfl,h.z⟩
         ·
          rcases i2 ab with ⟨au,ab⟩ | ⟨au,ab⟩
          ·
           have av := eq_TMsg_vm a0.M 0 0
           refine qeg [] [none,none,none,none,some (some 7,false),some (some 7,false),some (some 7,false),some (some 7,false),none,none,some (some 13,false),some (some 13,false),some (some 13,false),some (some 13,false),none,none,some (some 19,false),some (some 19,false),some (some 19,false),none,none,some (some 24,false),some (some 24,false),some (some 24,false),none,none,some (some 29,false),some (some 29,false),some (some 29,false),none,none,some (some 34,false),some (some 34,false),some (some 34,false),none,none,some (some 39,false),some (some 39,false),some (some 39,false),none,none,some (some 44,false),some (some 44,false),some (some 44,false),none,none,some (some 49,false),some (some 49,false),some (some 49,false),some (some 49,false),none,none,some (some 55,false),some (some 55,false),some (some 55,false),some (some 55,false),none] [1,60] [(1,0)] h fun ac wd h => ?_
           injection ab with ab; subst ab
           exact ⟨true,rfl,h.z⟩
          ·
           rcases i2 ab with ⟨aw,ab⟩ | ⟨aw,ab⟩
           ·
            have ax := eq_TMsg_vm a0.M 0 0
            refine qeg [] [none,none,none,none,some (some 7,false),some (some 7,false),some (some 7,false),some (some 7,false),none,none,some (some 13,false),some (some 13,false),some (some 13,false),some (some 13,false),none,none,some (some 19,false),some (some 19,false),some (some 19,false),none,none,some (some 24,false),some (some 24,false),some (some 24,false),none,none,some (some 29,false),some (some 29,false),some (some 29,false),none,none,some (some 34,false),some (some 34,false),some (some 34,false),none,none,some (some 39,false),some (some 39,false),some (some 39,false),none,none,some (some 44,false),some (some 44,false),some (some 44,false),none,none,some (some 49,false),some (some 49,false),some (some 49,false),some (some 49,false),none,none,some (some 55,false),some (some 55,false),some (some 55,false),some (some 55,false),none] [1,60] [(1,0)] h fun ac wd h => ?_
            injection ab with ab; subst ab
            exact ⟨true,rfl,h.z⟩
           ·
            have ay := eq_TMsg_vm a0.M 0 0
            refine qeg [] [none,none,none,none,some (some 7,false),some (some 7,false),some (some 7,false),some (some 7,false),none,none,some (some 13,false),some (some 13,false),some (some 13,false),some (some 13,false),none,none,some (some 19,false),some (some 19,false),some (some 19,false),none,none,some (some 24,false),some (some 24,false),some (some 24,false),none,none,some (some 29,false),some (some 29,false),some (some 29,false),none,none,some (some 34,false),some (some 34,false),some (some 34,false),none,none,some (some 39,false),some (some 39,false),some (some 39,false),none,none,some (some 44,false),some (some 44,false),some (some 44,false),none,none,some (some 49,false),some (some 49,false),some (some 49,false),some (some 49,false),none,none,some (some 55,false),some (some 55,false),some (some 55,false),some (some 55,false),none] [1,60] [(1,0)] h fun ac wd h => ?_
            injection ab with ab; subst ab
            exact ⟨decide ((a0.Path.length : Int) > 6),rfl,h.z⟩
   ·
    have az := eq_TMsg_vm a0.M 0 0
    refine qeg [] [none,none,none,none,some (some 7,false),some (some 7,false),some (some 7,false),some (some 7,false),none,none,some (some 13,false),some (some 13,false),some (some 13,false),some (some 13,false),none,none,some (some 19,false),some (some 19,false),some (some 19,false),none,none,some (some 24,false),some (some 24,false),some (some 24,false),none,none,some (some 29,false),some (some 29,false),some (some 29,false),none,none,some (some 34,false),some (some 34,false),some (some 34,false),none,none,some (some 39,false),some (some 39,false),some (some 39,false),none,none,some (some 44,false),some (some 44,false),some (some 44,false),none,none,some (some 49,false),some (some 49,false),some (some 49,false),some (some 49,false),none,none,some (some 55,false),some (some 55,false),some (some 55,false),some (some 55,false),none] [1,60] [(1,0)] h fun ac wd h => ?_
    injection ab with ab; subst ab
    exact ⟨true,rfl,h.z⟩
  ·
   refine qeg [] [none,none,none,none,some (some 7,false),some (some 7,false),some (some 7,false),some (some 7,false),none,none,some (some 13,false),some (some 13,false),some (some 13,false),some (some 13,false),none,none,some (some 19,false),some (some 19,false),some (some 19,false),none,none,some (some 24,false),some (some 24,false),some (some 24,false),none,none,some (some 29,false),some (some 29,false),some (some 29,false),none,none,some (some 34,false),some (some 34,false),some (some 34,false),none,none,some (some 39,false),some (some 39,false),some (some 39,false),none,none,some (some 44,false),some (some 44,false),some (some 44,false),none,none,some (some 49,false),some (some 49,false),some (some 49,false),some (some 49,false),none,none,some (some 55,false),some (some 55,false),some (some 55,false),some (some 55,false),none] [1,60] [(1,0)] h fun ac wd h => ?_
   injection ab with ab; subst ab
   exact ⟨true,rfl,h.z⟩
 ·
  rintro ac wd ⟨ad,rfl,h⟩
  (try dsimp only at hD)
  rcases i2b hD with ⟨aA,hD⟩ | ⟨aA,hD⟩
  ·
   refine kT h ?_
   refine qs 61 [] [2] [] h fun ac wd h => ?_
   refine wp_ret ?_
   injection hD with hD
   subst hD
   exact rE h [.tmp 2]
  ·
   refine kF h ?_
   refine wp_skip ?_
   change Code.wp Tryz.prog _ _ _ _
   refine wp_seq ?_
   refine qs 61 [] [1,3] [(1,0)] h fun ac wd h => ?_
   refine wp_block ?_
   refine r_while (fun nf ac wd => ∃ (aC : Int),L_ref07_probe_l1 a0 nf aC = some r ∧ SL ⟨wb,S,Φ,P0⟩ 82 105 [(1,.one (.ptr (1,0) 0)),(3,.one (.d (.int .i64 aC)))] [((1,0),some (.box 63 (cTFrame a0)))] ac wd) (((a0.Path.length : Int) - 0).toNat + 1) ⟨0,hD,h.z⟩ (fun nf ac wd hJ => ?_)
   obtain ⟨aC,aD,h⟩ := hJ
   cases nf with
   | zero => rw [L_ref07_probe_l1] at aD; cases aD
   | succ nf =>
    rw [L_ref07_probe_l1] at aD
    refine wp_seq ?_
    refine qs 110 [] [1,3,65] [(1,0)] h fun ac wd h => ?_
    rcases i2 aD with ⟨aE,aD⟩ | ⟨aE,aD⟩
    ·
     refine kT h ?_
     refine wp_skip ?_
     change Code.wp Tryz.prog _ _ _ _
     refine wp_seq ?_
     refine wp_block ?_
     obtain ⟨aF,aG,aD⟩ := Option.bind_eq_some_iff.1 aD
     refine r_seqJ (fun ac wd => ∃ (aH : Bool),aH = aF ∧ SL ⟨wb,S,Φ,P0⟩ 82 124 [(1,.one (.ptr (1,0) 0)),(3,.one (.d (.int .i64 aC))),(81,.one (.d (.bool aH)))] [((1,0),some (.box 63 (cTFrame a0)))] ac wd) ?_ ?_
     ·
      obtain ⟨aI,aJ,aK,aL,aM,aG⟩ := aB aG
      rcases i2 aG with ⟨aN,aG⟩ | ⟨aN,aG⟩
      ·
       refine qeg [] [none,none,none,none,none,none,none,some (some 74,false),some (some 74,false),some (some 74,false),some (some 74,false),some (some 74,false),some (some 74,false),none] [1,3,81] [(1,0)] h fun ac wd h => ?_
       injection aG with aG; subst aG
       exact ⟨true,rfl,h.z⟩
      ·
       refine qeg [] [none,none,none,none,none,none,none,some (some 74,false),some (some 74,false),some (some 74,false),some (some 74,false),some (some 74,false),some (some 74,false),none] [1,3,81] [(1,0)] h fun ac wd h => ?_
       injection aG with aG; subst aG
       exact ⟨decide (aI > 5),rfl,h.z⟩
     ·
      rintro ac wd ⟨aH,rfl,h⟩
      (try dsimp only at aD)
      rcases i2b aD with ⟨aO,aD⟩ | ⟨aO,aD⟩
      ·
       refine kT h ?_
       refine qs 125 [] [2] [] h fun ac wd h => ?_
       refine wp_ret ?_
       injection aD with aD
       subst aD
       exact rE h [.tmp 2]
      ·
       refine kF h ?_
       refine wp_skip ?_
       change Code.wp Tryz.prog _ _ _ _
       refine qe [] [1,3] [(1,0)] h fun ac wd h => ?_
       exact ⟨nf,Nat.lt_succ_self nf,(IntKind.wrap .i64 (aC + 1)),aD,h.z⟩
    ·
     refine kF h ?_
     refine wp_exit ?_
     change Code.wp Tryz.prog _ _ _ _
     refine qs 111 [] [2] [] h fun ac wd h => ?_
     refine wp_ret ?_
     injection aD with aD
     subst aD
     exact rE h [.tmp 2]

theorem L_ref07_bare_ok {a0 : TFrame} {r : Bool} (hD : L_ref07_bare a0 = some r) :
  CallH Tryz.prog 44 [.agg (cTFrame a0)] []
   (.one (.d (.bool r))) [] := by
 unfold L_ref07_bare at hD
 refine rc Tryz.func44 rfl Tryz.ntmps44 fun S Φ P0 wb ac h => ?_
 refine qs 3 [] [1] [(1,0)] h fun ac wd h => ?_
 obtain ⟨aa,ab,hD⟩ := Option.bind_eq_some_iff.1 hD
 refine r_seqJ (fun ac wd => ∃ (ad : Bool),ad = aa ∧ SL ⟨wb,S,Φ,P0⟩ 22 23 [(2,.one (.d (.bool ad)))] [] ac wd) ?_ ?_
 ·
  rcases i2e ab with ⟨ae,ab⟩ | ⟨ae,ab⟩
  ·
   rcases i2e ab with ⟨af,ab⟩ | ⟨af,ab⟩
   ·
    rcases i2e ab with ⟨ag,ab⟩ | ⟨ag,ab⟩
    ·
     refine qeg [] [none,none,none,none,some (some 6,true),some (some 6,true),some (some 6,true),none,none,some (some 11,true),some (some 11,true),some (some 11,true),none,none,some (some 16,true),some (some 16,true),some (some 16,true),some (some 16,true),none,none] [2] [] h fun ac wd h => ?_
     injection ab with ab; subst ab
     exact ⟨decide ((a0.Path.length : Int) = 0),rfl,h.z⟩
    ·
     refine qeg [] [none,none,none,none,some (some 6,true),some (some 6,true),some (some 6,true),none,none,some (some 11,true),some (some 11,true),some (some 11,true),none,none,some (some 16,true),some (some 16,true),some (some 16,true),some (some 16,true),none,none] [2] [] h fun ac wd h => ?_
     injection ab with ab; subst ab
     exact ⟨false,rfl,h.z⟩
   ·
    refine qeg [] [none,none,none,none,some (some 6,true),some (some 6,true),some (some 6,true),none,none,some (some 11,true),some (some 11,true),some (some 11,true),none,none,some (some 16,true),some (some 16,true),some (some 16,true),some (some 16,true),none,none] [2] [] h fun ac wd h => ?_
    injection ab with ab; subst ab
    exact ⟨false,rfl,h.z⟩
  ·
   refine qeg [] [none,none,none,none,some (some 6,true),some (some 6,true),some (some 6,true),none,none,some (some 11,true),some (some 11,true),some (some 11,true),none,none,some (some 16,true),some (some 16,true),some (some 16,true),some (some 16,true),none,none] [2] [] h fun ac wd h => ?_
   injection ab with ab; subst ab
   exact ⟨false,rfl,h.z⟩
 ·
  rintro ac wd ⟨ad,rfl,h⟩
  (try dsimp only at hD)
  refine wp_ret ?_
  injection hD with hD
  subst hD
  exact rE h [.tmp 2]

theorem L_ref07_Right_ok {a0 : TFrame} {r : Bool} (hD : L_ref07_Right a0 = some r) :
  CallH Tryz.prog 15 [.agg (cTFrame a0)] []
   (.one (.d (.bool r))) [] := by
 unfold L_ref07_Right at hD
 refine rc Tryz.func15 rfl Tryz.ntmps15 fun S Φ P0 wb ac h => ?_
 refine qs 3 [] [1] [(1,0)] h fun ac wd h => ?_
 refine wp_seq ?_
 refine qs 6 [] [1,6] [(1,0)] h fun ac wd h => ?_
 rcases i2e hD with ⟨aa,hD⟩ | ⟨aa,hD⟩
 ·
  refine kT h ?_
  obtain ⟨ab,ad,hD⟩ := oB hD
  have ae := L_ref07_probe_ok ad
  refine qs 9 [factE 7 ae] [2] [] h fun ac wd h => ?_
  refine wp_ret ?_
  injection hD with hD
  subst hD
  exact rE h [.tmp 2]
 ·
  refine kF h ?_
  refine wp_skip ?_
  change Code.wp Tryz.prog _ _ _ _
  refine wp_seq ?_
  obtain ⟨af,ag,hD⟩ := Option.bind_eq_some_iff.1 hD
  refine r_seqJ (fun ac wd => ∃ (ah : Bool),ah = af ∧ SL ⟨wb,S,Φ,P0⟩ 115 50 [(1,.one (.ptr (1,0) 0)),(52,.one (.d (.bool ah)))] [((1,0),some (.box 63 (cTFrame a0)))] ac wd) ?_ ?_
  ·
   rcases i2 ag with ⟨ai,ag⟩ | ⟨ai,ag⟩
   ·
    refine qeg [] [none,none,none,none,some (some 12,false),some (some 12,false),some (some 12,false),none,none,some (some 17,false),some (some 17,false),some (some 17,false),none,none,some (some 22,false),some (some 22,false),some (some 22,false),none,none,some (some 27,false),some (some 27,false),some (some 27,false),none,none,some (some 32,false),some (some 32,false),some (some 32,false),some (some 32,false),some (some 36,true),some (some 36,true),some (some 36,true),some (some 32,false),none,none,some (some 42,false),some (some 42,false),some (some 42,false),some (some 42,false),some (some 46,true),some (some 46,true),some (some 46,true),some (some 46,true),some (some 42,false),none] [1,52] [(1,0)] h fun ac wd h => ?_
    injection ag with ag; subst ag
    exact ⟨true,rfl,h.z⟩
   ·
    rcases i2 ag with ⟨aj,ag⟩ | ⟨aj,ag⟩
    ·
     refine qeg [] [none,none,none,none,some (some 12,false),some (some 12,false),some (some 12,false),none,none,some (some 17,false),some (some 17,false),some (some 17,false),none,none,some (some 22,false),some (some 22,false),some (some 22,false),none,none,some (some 27,false),some (some 27,false),some (some 27,false),none,none,some (some 32,false),some (some 32,false),some (some 32,false),some (some 32,false),some (some 36,true),some (some 36,true),some (some 36,true),some (some 32,false),none,none,some (some 42,false),some (some 42,false),some (some 42,false),some (some 42,false),some (some 46,true),some (some 46,true),some (some 46,true),some (some 46,true),some (some 42,false),none] [1,52] [(1,0)] h fun ac wd h => ?_
     injection ag with ag; subst ag
     exact ⟨true,rfl,h.z⟩
    ·
     obtain ⟨ak,al,ag⟩ := oB ag
     rcases i2b ag with ⟨am,ag⟩ | ⟨am,ag⟩
     ·
      rcases i2 ag with ⟨an,ag⟩ | ⟨an,ag⟩
      ·
       have ao := L_ref07_bare_ok al
       refine qeg [factE 16 ao] [none,none,none,none,some (some 12,false),some (some 12,false),some (some 12,false),none,none,some (some 17,false),some (some 17,false),some (some 17,false),none,none,some (some 22,false),some (some 22,false),some (some 22,false),none,none,some (some 27,false),some (some 27,false),some (some 27,false),none,none,some (some 32,false),some (some 32,false),some (some 32,false),some (some 32,false),some (some 36,true),some (some 36,true),some (some 36,true),some (some 32,false),none,none,some (some 42,false),some (some 42,false),some (some 42,false),some (some 42,false),some (some 46,true),some (some 46,true),some (some 46,true),some (some 46,true),some (some 42,false),none] [1,52] [(1,0)] h fun ac wd h => ?_
       injection ag with ag; subst ag
       exact ⟨true,rfl,h.z⟩
      ·
       rcases i2 ag with ⟨ap,ag⟩ | ⟨ap,ag⟩
       ·
        have ao := L_ref07_bare_ok al
        refine qeg [factE 16 ao] [none,none,none,none,some (some 12,false),some (some 12,false),some (some 12,false),none,none,some (some 17,false),some (some 17,false),some (some 17,false),none,none,some (some 22,false),some (some 22,false),some (some 22,false),none,none,some (some 27,false),some (some 27,false),some (some 27,false),none,none,some (some 32,false),some (some 32,false),some (some 32,false),some (some 32,false),some (some 36,true),some (some 36,true),some (some 36,true),some (some 32,false),none,none,some (some 42,false),some (some 42,false),some (some 42,false),some (some 42,false),some (some 46,true),some (some 46,true),some (some 46,true),some (some 46,true),some (some 42,false),none] [1,52] [(1,0)] h fun ac wd h => ?_
        injection ag with ag; subst ag
        exact ⟨true,rfl,h.z⟩
       ·
        rcases i2 ag with ⟨aq,ag⟩ | ⟨aq,ag⟩
        ·
         rcases i2 ag with ⟨ar,ag⟩ | ⟨ar,ag⟩
         ·
          have ao := L_ref07_bare_ok al
          refine qeg [factE 16 ao] [none,none,none,none,some (some 12,false),some (some 12,false),some (some 12,false),none,none,some (some 17,false),some (some 17,false),some (some 17,false),none,none,some (some 22,false),some (some 22,false),some (some 22,false),none,none,some (some 27,false),some (some 27,false),some (some 27,false),none,none,some (some 32,false),some (some 32,false),some (some 32,false),some (some 32,false),some (some 36,true),some (some 36,true),some (some 36,true),some (some 32,false),none,none,some (some 42,false),some (some 42,false),some (some 42,false),some (some 42,false),some (some 46,true),some (some 46,true),some (some 46,true),some (some 46,true),some (some 42,false),none] [1,52] [(1,0)] h fun ac wd h => ?_
          injection ag with ag; subst ag
          exact ⟨true,rfl,h.z⟩
         ·
          have ao := L_ref07_bare_ok al
          have au := eq_TMsg_vm a0.M 0 0
          refine qeg [factE 16 ao] [none,none,none,none,some (some 12,false),some (some 12,false),some (some 12,false),none,none,some (some 17,false),some (some 17,false),some (some 17,false),none,none,some (some 22,false),some (some 22,false),some (some 22,false),none,none,some (some 27,false),some (some 27,false),some (some 27,false),none,none,some (some 32,false),some (some 32,false),some (some 32,false),some (some 32,false),some (some 36,true),some (some 36,true),some (some 36,true),some (some 32,false),none,none,some (some 42,false),some (some 42,false),some (some 42,false),some (some 42,false),some (some 46,true),some (some 46,true),some (some 46,true),some (some 46,true),some (some 42,false),none] [1,52] [(1,0)] h fun ac wd h => ?_
          injection ag with ag; subst ag
          exact ⟨!(decide (a0.M = (TMsg.mk 0 0))),rfl,h.z⟩
        ·
         have ao := L_ref07_bare_ok al
         refine qeg [factE 16 ao] [none,none,none,none,some (some 12,false),some (some 12,false),some (some 12,false),none,none,some (some 17,false),some (some 17,false),some (some 17,false),none,none,some (some 22,false),some (some 22,false),some (some 22,false),none,none,some (some 27,false),some (some 27,false),some (some 27,false),none,none,some (some 32,false),some (some 32,false),some (some 32,false),some (some 32,false),some (some 36,true),some (some 36,true),some (some 36,true),some (some 32,false),none,none,some (some 42,false),some (some 42,false),some (some 42,false),some (some 42,false),some (some 46,true),some (some 46,true),some (some 46,true),some (some 46,true),some (some 42,false),none] [1,52] [(1,0)] h fun ac wd h => ?_
         injection ag with ag; subst ag
         exact ⟨false,rfl,h.z⟩
     ·
      have ao := L_ref07_bare_ok al
      refine qeg [factE 16 ao] [none,none,none,none,some (some 12,false),some (some 12,false),some (some 12,false),none,none,some (some 17,false),some (some 17,false),some (some 17,false),none,none,some (some 22,false),some (some 22,false),some (some 22,false),none,none,some (some 27,false),some (some 27,false),some (some 27,false),none,none,some (some 32,false),some (some 32,false),some (some 32,false),some (some 32,false),some (some 36,true),some (some 36,true),some (some 36,true),some (some 32,false),none,none,some (some 42,false),some (some 42,false),some (some 42,false),some (some 42,false),some (some 46,true),some (some 46,true),some (some 46,true),some (some 46,true),some (some 42,false),none] [1,52] [(1,0)] h fun ac wd h => ?_
      injection ag with ag; subst ag
      exact ⟨true,rfl,h.z⟩
  ·
   rintro ac wd ⟨ah,rfl,h⟩
   (try dsimp only at hD)
   rcases i2b hD with ⟨av,hD⟩ | ⟨av,hD⟩
   ·
    refine kT h ?_
    refine qs 51 [] [2] [] h fun ac wd h => ?_
    refine wp_ret ?_
    injection hD with hD
    subst hD
    exact rE h [.tmp 2]
   ·
    refine kF h ?_
    refine wp_skip ?_
    change Code.wp Tryz.prog _ _ _ _
    refine wp_seq ?_
    refine qs 53 [] [1,55] [(1,0)] h fun ac wd h => ?_
    rcases i2e hD with ⟨aw,hD⟩ | ⟨aw,hD⟩
    ·
     refine kT h ?_
     obtain ⟨ax,ay,hD⟩ := Option.bind_eq_some_iff.1 hD
     refine r_seqJ (fun ac wd => ∃ (az : Bool),az = ax ∧ SL ⟨wb,S,Φ,P0⟩ 115 82 [(2,.one (.d (.bool az)))] [] ac wd) ?_ ?_
     ·
      rcases i2e ay with ⟨aA,ay⟩ | ⟨aA,ay⟩
      ·
       rcases i2 ay with ⟨aC,ay⟩ | ⟨aC,ay⟩
       ·
        rcases i2 ay with ⟨aD,ay⟩ | ⟨aD,ay⟩
        ·
         rcases i2 ay with ⟨aE,ay⟩ | ⟨aE,ay⟩
         ·
          refine qeg [] [none,none,none,none,none,some (some 60,true),some (some 60,true),some (some 60,true),some (some 60,true),none,none,some (some 66,true),some (some 66,true),some (some 66,true),some (some 66,true),none,none,some (some 72,true),some (some 72,true),some (some 72,true),some (some 72,true),none,none,some (some 78,true),some (some 78,true),some (some 78,true),some (some 78,true),none,none] [2] [] h fun ac wd h => ?_
          injection ay with ay; subst ay
          exact ⟨decide (a0.M.Letter ≤ 3),rfl,h.z⟩
         ·
          refine qeg [] [none,none,none,none,none,some (some 60,true),some (some 60,true),some (some 60,true),some (some 60,true),none,none,some (some 66,true),some (some 66,true),some (some 66,true),some (some 66,true),none,none,some (some 72,true),some (some 72,true),some (some 72,true),some (some 72,true),none,none,some (some 78,true),some (some 78,true),some (some 78,true),some (some 78,true),none,none] [2] [] h fun ac wd h => ?_
          injection ay with ay; subst ay
          exact ⟨false,rfl,h.z⟩
        ·
         refine qeg [] [none,none,none,none,none,some (some 60,true),some (some 60,true),some (some 60,true),some (some 60,true),none,none,some (some 66,true),some (some 66,true),some (some 66,true),some (some 66,true),none,none,some (some 72,true),some (some 72,true),some (some 72,true),some (some 72,true),none,none,some (some 78,true),some (some 78,true),some (some 78,true),some (some 78,true),none,none] [2] [] h fun ac wd h => ?_
         injection ay with ay; subst ay
         exact ⟨false,rfl,h.z⟩
       ·
        refine qeg [] [none,none,none,none,none,some (some 60,true),some (some 60,true),some (some 60,true),some (some 60,true),none,none,some (some 66,true),some (some 66,true),some (some 66,true),some (some 66,true),none,none,some (some 72,true),some (some 72,true),some (some 72,true),some (some 72,true),none,none,some (some 78,true),some (some 78,true),some (some 78,true),some (some 78,true),none,none] [2] [] h fun ac wd h => ?_
        injection ay with ay; subst ay
        exact ⟨false,rfl,h.z⟩
      ·
       refine qeg [] [none,none,none,none,none,some (some 60,true),some (some 60,true),some (some 60,true),some (some 60,true),none,none,some (some 66,true),some (some 66,true),some (some 66,true),some (some 66,true),none,none,some (some 72,true),some (some 72,true),some (some 72,true),some (some 72,true),none,none,some (some 78,true),some (some 78,true),some (some 78,true),some (some 78,true),none,none] [2] [] h fun ac wd h => ?_
       injection ay with ay; subst ay
       exact ⟨false,rfl,h.z⟩
     ·
      rintro ac wd ⟨az,rfl,h⟩
      (try dsimp only at hD)
      refine wp_ret ?_
      injection hD with hD
      subst hD
      exact rE h [.tmp 2]
    ·
     refine kF h ?_
     refine wp_skip ?_
     change Code.wp Tryz.prog _ _ _ _
     refine wp_seq ?_
     refine qs 56 [] [1,86] [(1,0)] h fun ac wd h => ?_
     rcases i2e hD with ⟨aF,hD⟩ | ⟨aF,hD⟩
     ·
      refine kF h ?_
      refine wp_skip ?_
      change Code.wp Tryz.prog _ _ _ _
      refine wp_seq ?_
      refine qs 57 [] [1,3] [(1,0)] h fun ac wd h => ?_
      refine wp_block ?_
      refine r_while (fun nf ac wd => ∃ (aG : Int),L_ref07_Right_l1 a0 nf aG = some r ∧ SL ⟨wb,S,Φ,P0⟩ 115 87 [(1,.one (.ptr (1,0) 0)),(3,.one (.d (.int .i64 aG)))] [((1,0),some (.box 63 (cTFrame a0)))] ac wd) (((a0.Pieces.length : Int) - 0).toNat + 1) ⟨0,hD,h.z⟩ (fun nf ac wd hJ => ?_)
      obtain ⟨aG,aH,h⟩ := hJ
      cases nf with
      | zero => rw [L_ref07_Right_l1] at aH; cases aH
      | succ nf =>
       rw [L_ref07_Right_l1] at aH
       refine wp_seq ?_
       refine qs 92 [] [1,3,95] [(1,0)] h fun ac wd h => ?_
       rcases i2 aH with ⟨aI,aH⟩ | ⟨aI,aH⟩
       ·
        refine kT h ?_
        refine wp_skip ?_
        change Code.wp Tryz.prog _ _ _ _
        refine wp_seq ?_
        refine wp_block ?_
        obtain ⟨aJ,aK,aL,aM,aN,aH⟩ := aB aH
        obtain ⟨aO,aP,aH⟩ := oB aH
        have aQ := L_ref06_Right_ok aP
        refine qs 99 [factE 97 aQ] [1,3,104] [(1,0)] h fun ac wd h => ?_
        rcases i2b aH with ⟨aR,aH⟩ | ⟨aR,aH⟩
        ·
         refine kF h ?_
         refine wp_skip ?_
         change Code.wp Tryz.prog _ _ _ _
         refine qe [] [1,3] [(1,0)] h fun ac wd h => ?_
         exact ⟨nf,Nat.lt_succ_self nf,(IntKind.wrap .i64 (aG + 1)),aH,h.z⟩
        ·
         refine kT h ?_
         refine qs 100 [] [2] [] h fun ac wd h => ?_
         refine wp_ret ?_
         injection aH with aH
         subst aH
         exact rE h [.tmp 2]
       ·
        refine kF h ?_
        refine wp_exit ?_
        change Code.wp Tryz.prog _ _ _ _
        obtain ⟨aS,aT,aH⟩ := Option.bind_eq_some_iff.1 aH
        refine r_seqJ (fun ac wd => ∃ (aU : Bool),aU = aS ∧ SL ⟨wb,S,Φ,P0⟩ 115 103 [(2,.one (.d (.bool aU)))] [] ac wd) ?_ ?_
        ·
         rcases i2 aT with ⟨aV,aT⟩ | ⟨aV,aT⟩
         ·
          refine qeg [] [none,none,none,none,none,some (some 109,true),some (some 109,true),some (some 109,true),some (some 109,true),none,none] [2] [] h fun ac wd h => ?_
          injection aT with aT; subst aT
          exact ⟨decide ((a0.Pieces.length : Int) ≤ 6),rfl,h.z⟩
         ·
          refine qeg [] [none,none,none,none,none,some (some 109,true),some (some 109,true),some (some 109,true),some (some 109,true),none,none] [2] [] h fun ac wd h => ?_
          injection aT with aT; subst aT
          exact ⟨false,rfl,h.z⟩
        ·
         rintro ac wd ⟨aU,rfl,h⟩
         (try dsimp only at aH)
         refine wp_ret ?_
         injection aH with aH
         subst aH
         exact rE h [.tmp 2]
     ·
      refine kT h ?_
      refine qs 61 [] [2] [] h fun ac wd h => ?_
      refine wp_ret ?_
      injection hD with hD
      subst hD
      exact rE h [.tmp 2]

theorem L_ref03_Back_ok {a0 : TGraph} {a1 : Int} {r : Int} (hD : L_ref03_Back a0 a1 = some r) :
  CallH Tryz.prog 54 [.agg (cTGraph a0),.one (.d (.int .i64 a1))] []
   (.one (.d (.int .i64 r))) [] := by
 unfold L_ref03_Back at hD
 refine rc Tryz.func54 rfl Tryz.ntmps54 fun S Φ P0 wb ac h => ?_
 refine qs 3 [] [1,2] [(1,0)] h fun ac wd h => ?_
 refine wp_seq ?_
 obtain ⟨aa,ab,hD⟩ := Option.bind_eq_some_iff.1 hD
 refine r_seqJ (fun ac wd => ∃ (ad : Bool),ad = aa ∧ SL ⟨wb,S,Φ,P0⟩ 28 12 [(1,.one (.d (.int .i64 a1))),(2,.one (.ptr (1,0) 0)),(13,.one (.d (.bool ad)))] [((1,0),some (.box 41 (cTGraph a0)))] ac wd) ?_ ?_
 ·
  rcases i2 ab with ⟨ae,ab⟩ | ⟨ae,ab⟩
  ·
   refine qeg [] [none,none,none,some (some 7,false),some (some 7,false),some (some 7,false),some (some 7,false),some (some 7,false),none] [1,2,13] [(1,0)] h fun ac wd h => ?_
   injection ab with ab; subst ab
   exact ⟨true,rfl,h.z⟩
  ·
   refine qeg [] [none,none,none,some (some 7,false),some (some 7,false),some (some 7,false),some (some 7,false),some (some 7,false),none] [1,2,13] [(1,0)] h fun ac wd h => ?_
   injection ab with ab; subst ab
   exact ⟨decide (a1 ≥ (a0.Links.length : Int)),rfl,h.z⟩
 ·
  rintro ac wd ⟨ad,rfl,h⟩
  (try dsimp only at hD)
  rcases i2b hD with ⟨af,hD⟩ | ⟨af,hD⟩
  ·
   refine kT h ?_
   refine qs 13 [] [4] [] h fun ac wd h => ?_
   refine wp_ret ?_
   injection hD with hD
   subst hD
   exact rE h [.tmp 4]
  ·
   refine kF h ?_
   refine wp_skip ?_
   change Code.wp Tryz.prog _ _ _ _
   obtain ⟨ag,ah,ai,aj,ak,hD⟩ := aB hD
   obtain ⟨al,am,hD⟩ := oB hD
   have an := L_ref03_Find_ok am
   refine ds 27 [factE 25 an] [4] [] h fun ac wd h => ?_
   refine wp_ret ?_
   injection hD with hD
   subst hD
   exact rE h [.tmp 4]

theorem L_ref09_Gave_ok {a0 : TApp} {a1 : THost} {a2 : Int} {r : Int} (hD : L_ref09_Gave a0 a1 a2 = some r) :
  CallH Tryz.prog 53 [.agg (cTApp a0),.agg (cTHost a1),.one (.d (.int .i64 a2))] []
   (.one (.d (.int .i64 r))) [] := by
 unfold L_ref09_Gave at hD
 refine rc Tryz.func53 rfl Tryz.ntmps53 fun S Φ P0 wb ac h => ?_
 refine qs 4 [] [2,3,4] [(1,0),(2,0)] h fun ac wd h => ?_
 obtain ⟨aa,ab,hD⟩ := oB hD
 obtain ⟨ad,ae,hD⟩ := oB hD
 have af := L_ref03_Out_ok ab
 have ag := L_ref09_Place_ok ae
 refine qs 12 [factE 8 af,factE 10 ag] [4,7] [(2,0)] h fun ac wd h => ?_
 refine wp_seq ?_
 refine qs 14 [] [4,7,16] [(2,0)] h fun ac wd h => ?_
 rcases i2 hD with ⟨ah,hD⟩ | ⟨ah,hD⟩
 ·
  refine kT h ?_
  refine qs 15 [] [6] [] h fun ac wd h => ?_
  refine wp_ret ?_
  injection hD with hD
  subst hD
  exact rE h [.tmp 6]
 ·
  refine kF h ?_
  refine wp_skip ?_
  change Code.wp Tryz.prog _ _ _ _
  obtain ⟨ai,aj,ak,al,am,hD⟩ := aB hD
  refine qs 21 [] [6] [] h fun ac wd h => ?_
  refine wp_ret ?_
  injection hD with hD
  subst hD
  exact rE h [.tmp 6]

end Go.Proofs.YtabbejabdkkaiaaGreat
