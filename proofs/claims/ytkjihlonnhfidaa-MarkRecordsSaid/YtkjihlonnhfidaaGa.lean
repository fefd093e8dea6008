/- Functions as typed ones, and that the program's functions answer as these do. No condition. -/
import Derived.Test.YtkjihlonnhfidaaTy
import Derived.Test.YtkjihlonnhfidaaKz
set_option linter.unusedSimpArgs false
set_option linter.unusedVariables false
namespace Go.Proofs.Ytkjihlonnhfidaa
open Go.RowKit

structure TMsg where
  Seq : Int
  Letter : Int
def eTMsg (x : TMsg) : List C := [.int .i64 x.Seq, .int .i64 x.Letter]
instance : DecidableEq TMsg := fun x y => decidable_of_iff (x.Seq = y.Seq ∧ x.Letter = y.Letter) ⟨fun h => by cases x; cases y; simp_all, fun h => by subst h; simp⟩
theorem eq_TMsg_vv (x : TMsg) (y : TMsg) : (decide (x.Seq = y.Seq) && decide (x.Letter = y.Letter)) = decide (x = y) := by
  cases x; cases y; rw [Bool.eq_iff_iff]; simp
theorem eq_TMsg_vm (x : TMsg) (b0 b1 : Int) : (decide (x.Seq = b0) && decide (x.Letter = b1)) = decide (x = TMsg.mk b0 b1) := by
  cases x; rw [Bool.eq_iff_iff]; simp
theorem eq_TMsg_mv (a0 a1 : Int) (y : TMsg) : (decide (a0 = y.Seq) && decide (a1 = y.Letter)) = decide (TMsg.mk a0 a1 = y) := by
  cases y; rw [Bool.eq_iff_iff]; simp
theorem eq_TMsg_mm (a0 a1 : Int) (b0 b1 : Int) : (decide (a0 = b0) && decide (a1 = b1)) = decide (TMsg.mk a0 a1 = TMsg.mk b0 b1) := by
  rw [Bool.eq_iff_iff]; simp
structure TOp where
  Marker : Bool
  Epoch : Int
  At : Int
  M : TMsg
def eTOp (x : TOp) : List C := [.bool x.Marker, .int .i64 x.Epoch, .int .i64 x.At, .int .i64 x.M.Seq, .int .i64 x.M.Letter]
structure THost where
  Node : Int
  State : Int
  Steps : Int
  In : (List (List TMsg))
  Out : (List (List Int))
def eTHost (x : THost) : List C := [.int .i64 x.Node, .int .i64 x.State, .int .i64 x.Steps, .sl (x.In.map (eL eTMsg)), .sl (x.Out.map (eL eI))]
structure TPiece where
  Node : Int
  State : Int
  Steps : Int
  Sent : (List Int)
  In : (List (List TMsg))
  Out : (List (List Int))
def eTPiece (x : TPiece) : List C := [.int .i64 x.Node, .int .i64 x.State, .int .i64 x.Steps, .sl (x.Sent.map eI), .sl (x.In.map (eL eTMsg)), .sl (x.Out.map (eL eI))]
structure TMark where
  Epoch : Int
  Open : (List Bool)
  P : TPiece
def eTMark (x : TMark) : List C := [.int .i64 x.Epoch, .sl (x.Open.map eB), .int .i64 x.P.Node, .int .i64 x.P.State, .int .i64 x.P.Steps, .sl (x.P.Sent.map eI), .sl (x.P.In.map (eL eTMsg)), .sl (x.P.Out.map (eL eI))]
def cols_57 (j : Nat) : TD := if j = 0 then .sl 38 2 (fun _ => .sc) else .sc
theorem oset_57 (l : List (List C)) (i : Nat) (c0 : C) : (openRows cols_57 l).set i [.tr (.sl 38 2 (fun _ => .sc)) c0] = openRows cols_57 (l.set i [c0]) := by
  simp [openRows, List.map_set, cellsOf, cellOf, cols_57]
def cols_29 (j : Nat) : TD := if j = 0 then .sl 3 1 (fun _ => .sc) else .sc
theorem oset_29 (l : List (List C)) (i : Nat) (c0 : C) : (openRows cols_29 l).set i [.tr (.sl 3 1 (fun _ => .sc)) c0] = openRows cols_29 (l.set i [c0]) := by
  simp [openRows, List.map_set, cellsOf, cellOf, cols_29]
theorem sc_3 (l : List Int) : scRows (fun _ => .sc) (List.map eI l) := by
  intro r hr j c hj hc
  obtain ⟨x, _, rfl⟩ := List.mem_map.1 hr
  rcases j with _ | j <;> first | (simp [eI] at hj; subst hj; rfl) | (simp [eI] at hj; done) | (simp [hc] at hc; done)
theorem sc_38 (l : List TMsg) : scRows (fun _ => .sc) (List.map eTMsg l) := by
  intro r hr j c hj hc
  obtain ⟨x, _, rfl⟩ := List.mem_map.1 hr
  rcases j with _ | _ | j <;> first | (simp [eTMsg] at hj; subst hj; rfl) | (simp [eTMsg] at hj; done) | (simp [hc] at hc; done)
theorem EX : type_of% (And.intro (And.intro (And.intro (And.intro @EW @fE_g) (And.intro @fE_a (And.intro @fE_m @fE_f))) (And.intro (And.intro @fE_k @List.append_eq.{0}) (And.intro @eI.eq_1 (And.intro @eB.eq_1 @eS.eq_1)))) (And.intro (And.intro (And.intro @e_u8.eq_1 @eL.eq_1) (And.intro @eTMsg.eq_1 (And.intro @eTOp.eq_1 @eTHost.eq_1))) (And.intro (And.intro @eTPiece.eq_1 (And.intro @eTMark.eq_1 @cols_29.eq_1)) (And.intro @cols_57.eq_1 (And.intro @oset_29 @oset_57))))) := (And.intro (And.intro (And.intro (And.intro @EW @fE_g) (And.intro @fE_a (And.intro @fE_m @fE_f))) (And.intro (And.intro @fE_k @List.append_eq.{0}) (And.intro @eI.eq_1 (And.intro @eB.eq_1 @eS.eq_1)))) (And.intro (And.intro (And.intro @e_u8.eq_1 @eL.eq_1) (And.intro @eTMsg.eq_1 (And.intro @eTOp.eq_1 @eTHost.eq_1))) (And.intro (And.intro @eTPiece.eq_1 (And.intro @eTMark.eq_1 @cols_29.eq_1)) (And.intro @cols_57.eq_1 (And.intro @oset_29 @oset_57)))))
theorem tz_2 : type_of% (And.intro (And.intro ty_tShape_2 (And.intro ty_tZero_2 ty_tInt_2)) (And.intro ty_nCells_2 (And.intro ty_tFlat_2 ty_isBoolT_2))) := (And.intro (And.intro ty_tShape_2 (And.intro ty_tZero_2 ty_tInt_2)) (And.intro ty_nCells_2 (And.intro ty_tFlat_2 ty_isBoolT_2)))
theorem tz_3 : type_of% (And.intro (And.intro ty_tShape_3 (And.intro ty_tZero_3 ty_tInt_3)) (And.intro ty_nCells_3 (And.intro ty_tFlat_3 ty_isBoolT_3))) := (And.intro (And.intro ty_tShape_3 (And.intro ty_tZero_3 ty_tInt_3)) (And.intro ty_nCells_3 (And.intro ty_tFlat_3 ty_isBoolT_3)))
theorem tz_4 : type_of% (And.intro (And.intro ty_tShape_4 ty_tZero_4) (And.intro ty_nCells_4 (And.intro ty_tFlat_4 ty_isBoolT_4))) := (And.intro (And.intro ty_tShape_4 ty_tZero_4) (And.intro ty_nCells_4 (And.intro ty_tFlat_4 ty_isBoolT_4)))
theorem tz_5 : type_of% (And.intro (And.intro ty_tShape_5 (And.intro ty_tZero_5 ty_tInt_5)) (And.intro ty_nCells_5 (And.intro ty_tFlat_5 ty_isBoolT_5))) := (And.intro (And.intro ty_tShape_5 (And.intro ty_tZero_5 ty_tInt_5)) (And.intro ty_nCells_5 (And.intro ty_tFlat_5 ty_isBoolT_5)))
theorem tz_22 : type_of% (And.intro (And.intro ty_tShape_22 (And.intro ty_tZero_22 ty_tElt_22)) (And.intro ty_nCells_22 (And.intro ty_tFlat_22 ty_isBoolT_22))) := (And.intro (And.intro ty_tShape_22 (And.intro ty_tZero_22 ty_tElt_22)) (And.intro ty_nCells_22 (And.intro ty_tFlat_22 ty_isBoolT_22)))
theorem tz_23 : type_of% (And.intro (And.intro ty_tShape_23 (And.intro ty_tZero_23 ty_tElt_23)) (And.intro ty_nCells_23 (And.intro ty_tFlat_23 ty_isBoolT_23))) := (And.intro (And.intro ty_tShape_23 (And.intro ty_tZero_23 ty_tElt_23)) (And.intro ty_nCells_23 (And.intro ty_tFlat_23 ty_isBoolT_23)))
theorem tz_24 : type_of% (And.intro (And.intro ty_tShape_24 (And.intro ty_tZero_24 ty_tElt_24)) (And.intro ty_nCells_24 (And.intro ty_tFlat_24 ty_isBoolT_24))) := (And.intro (And.intro ty_tShape_24 (And.intro ty_tZero_24 ty_tElt_24)) (And.intro ty_nCells_24 (And.intro ty_tFlat_24 ty_isBoolT_24)))
theorem tz_25 : type_of% (And.intro (And.intro (And.intro (And.intro ty_tShape_25 ty_tZero_25) (And.intro ty_nCells_25 ty_tFlat_25)) (And.intro (And.intro ty_isBoolT_25 ty_tBuilt_25) (And.intro ty_tFld_25_0 ty_tFldV_25_0))) (And.intro (And.intro (And.intro ty_tFld_25_1 ty_tFldV_25_1) (And.intro ty_tFld_25_2 ty_tFldV_25_2)) (And.intro (And.intro ty_tFld_25_3 ty_tFldV_25_3) (And.intro ty_tFld_25_4 ty_tFldV_25_4)))) := (And.intro (And.intro (And.intro (And.intro ty_tShape_25 ty_tZero_25) (And.intro ty_nCells_25 ty_tFlat_25)) (And.intro (And.intro ty_isBoolT_25 ty_tBuilt_25) (And.intro ty_tFld_25_0 ty_tFldV_25_0))) (And.intro (And.intro (And.intro ty_tFld_25_1 ty_tFldV_25_1) (And.intro ty_tFld_25_2 ty_tFldV_25_2)) (And.intro (And.intro ty_tFld_25_3 ty_tFldV_25_3) (And.intro ty_tFld_25_4 ty_tFldV_25_4))))
theorem tz_26 : type_of% (And.intro (And.intro (And.intro (And.intro ty_tShape_26 ty_tZero_26) (And.intro ty_nCells_26 ty_tFlat_26)) (And.intro (And.intro ty_isBoolT_26 ty_tBuilt_26) (And.intro ty_tFld_26_0 ty_tFldV_26_0))) (And.intro (And.intro (And.intro ty_tFld_26_1 ty_tFldV_26_1) (And.intro ty_tFld_26_2 ty_tFldV_26_2)) (And.intro (And.intro ty_tFld_26_3 ty_tFldV_26_3) (And.intro ty_tFld_26_4 ty_tFldV_26_4)))) := (And.intro (And.intro (And.intro (And.intro ty_tShape_26 ty_tZero_26) (And.intro ty_nCells_26 ty_tFlat_26)) (And.intro (And.intro ty_isBoolT_26 ty_tBuilt_26) (And.intro ty_tFld_26_0 ty_tFldV_26_0))) (And.intro (And.intro (And.intro ty_tFld_26_1 ty_tFldV_26_1) (And.intro ty_tFld_26_2 ty_tFldV_26_2)) (And.intro (And.intro ty_tFld_26_3 ty_tFldV_26_3) (And.intro ty_tFld_26_4 ty_tFldV_26_4))))
theorem tz_28 : type_of% (And.intro (And.intro ty_tShape_28 (And.intro ty_tZero_28 ty_tElt_28)) (And.intro ty_nCells_28 (And.intro ty_tFlat_28 ty_isBoolT_28))) := (And.intro (And.intro ty_tShape_28 (And.intro ty_tZero_28 ty_tElt_28)) (And.intro ty_nCells_28 (And.intro ty_tFlat_28 ty_isBoolT_28)))
theorem tz_29 : type_of% (And.intro (And.intro ty_tShape_29 (And.intro ty_tZero_29 ty_tElt_29)) (And.intro ty_nCells_29 (And.intro ty_tFlat_29 ty_isBoolT_29))) := (And.intro (And.intro ty_tShape_29 (And.intro ty_tZero_29 ty_tElt_29)) (And.intro ty_nCells_29 (And.intro ty_tFlat_29 ty_isBoolT_29)))
theorem tz_31 : type_of% (And.intro (And.intro (And.intro (And.intro ty_tShape_31 ty_tZero_31) (And.intro ty_nCells_31 ty_tFlat_31)) (And.intro (And.intro ty_isBoolT_31 ty_tBuilt_31) (And.intro ty_tFld_31_0 (And.intro ty_tFldV_31_0 ty_tFld_31_1)))) (And.intro (And.intro (And.intro ty_tFldV_31_1 ty_tFld_31_2) (And.intro ty_tFldV_31_2 ty_tFld_31_3)) (And.intro (And.intro ty_tFldV_31_3 ty_tFld_31_4) (And.intro ty_tFldV_31_4 (And.intro ty_tFld_31_5 ty_tFldV_31_5))))) := (And.intro (And.intro (And.intro (And.intro ty_tShape_31 ty_tZero_31) (And.intro ty_nCells_31 ty_tFlat_31)) (And.intro (And.intro ty_isBoolT_31 ty_tBuilt_31) (And.intro ty_tFld_31_0 (And.intro ty_tFldV_31_0 ty_tFld_31_1)))) (And.intro (And.intro (And.intro ty_tFldV_31_1 ty_tFld_31_2) (And.intro ty_tFldV_31_2 ty_tFld_31_3)) (And.intro (And.intro ty_tFldV_31_3 ty_tFld_31_4) (And.intro ty_tFldV_31_4 (And.intro ty_tFld_31_5 ty_tFldV_31_5)))))
theorem tz_33 : type_of% (And.intro (And.intro (And.intro ty_tShape_33 (And.intro ty_tZero_33 ty_nCells_33)) (And.intro ty_tFlat_33 (And.intro ty_isBoolT_33 ty_tBuilt_33))) (And.intro (And.intro ty_tFld_33_0 (And.intro ty_tFldV_33_0 ty_tFld_33_1)) (And.intro ty_tFldV_33_1 (And.intro ty_tFld_33_2 ty_tFldV_33_2)))) := (And.intro (And.intro (And.intro ty_tShape_33 (And.intro ty_tZero_33 ty_nCells_33)) (And.intro ty_tFlat_33 (And.intro ty_isBoolT_33 ty_tBuilt_33))) (And.intro (And.intro ty_tFld_33_0 (And.intro ty_tFldV_33_0 ty_tFld_33_1)) (And.intro ty_tFldV_33_1 (And.intro ty_tFld_33_2 ty_tFldV_33_2))))
theorem tz_34 : type_of% (And.intro (And.intro (And.intro (And.intro ty_tShape_34 ty_tZero_34) (And.intro ty_nCells_34 ty_tFlat_34)) (And.intro (And.intro ty_isBoolT_34 ty_tBuilt_34) (And.intro ty_tFld_34_0 (And.intro ty_tFldV_34_0 ty_tFld_34_1)))) (And.intro (And.intro (And.intro ty_tFldV_34_1 ty_tFld_34_2) (And.intro ty_tFldV_34_2 ty_tFld_34_3)) (And.intro (And.intro ty_tFldV_34_3 ty_tFld_34_4) (And.intro ty_tFldV_34_4 (And.intro ty_tFld_34_5 ty_tFldV_34_5))))) := (And.intro (And.intro (And.intro (And.intro ty_tShape_34 ty_tZero_34) (And.intro ty_nCells_34 ty_tFlat_34)) (And.intro (And.intro ty_isBoolT_34 ty_tBuilt_34) (And.intro ty_tFld_34_0 (And.intro ty_tFldV_34_0 ty_tFld_34_1)))) (And.intro (And.intro (And.intro ty_tFldV_34_1 ty_tFld_34_2) (And.intro ty_tFldV_34_2 ty_tFld_34_3)) (And.intro (And.intro ty_tFldV_34_3 ty_tFld_34_4) (And.intro ty_tFldV_34_4 (And.intro ty_tFld_34_5 ty_tFldV_34_5)))))
theorem tz_36 : type_of% (And.intro (And.intro (And.intro ty_tShape_36 (And.intro ty_tZero_36 ty_nCells_36)) (And.intro ty_tFlat_36 (And.intro ty_isBoolT_36 ty_tBuilt_36))) (And.intro (And.intro ty_tFld_36_0 (And.intro ty_tFldV_36_0 ty_tFld_36_1)) (And.intro ty_tFldV_36_1 (And.intro ty_tFld_36_2 ty_tFldV_36_2)))) := (And.intro (And.intro (And.intro ty_tShape_36 (And.intro ty_tZero_36 ty_nCells_36)) (And.intro ty_tFlat_36 (And.intro ty_isBoolT_36 ty_tBuilt_36))) (And.intro (And.intro ty_tFld_36_0 (And.intro ty_tFldV_36_0 ty_tFld_36_1)) (And.intro ty_tFldV_36_1 (And.intro ty_tFld_36_2 ty_tFldV_36_2))))
theorem tz_38 : type_of% (And.intro (And.intro (And.intro ty_tShape_38 ty_tZero_38) (And.intro ty_nCells_38 (And.intro ty_tFlat_38 ty_isBoolT_38))) (And.intro (And.intro ty_tBuilt_38 ty_tFld_38_0) (And.intro ty_tFldV_38_0 (And.intro ty_tFld_38_1 ty_tFldV_38_1)))) := (And.intro (And.intro (And.intro ty_tShape_38 ty_tZero_38) (And.intro ty_nCells_38 (And.intro ty_tFlat_38 ty_isBoolT_38))) (And.intro (And.intro ty_tBuilt_38 ty_tFld_38_0) (And.intro ty_tFldV_38_0 (And.intro ty_tFld_38_1 ty_tFldV_38_1))))
theorem tz_40 : type_of% (And.intro (And.intro (And.intro ty_tShape_40 (And.intro ty_tZero_40 ty_nCells_40)) (And.intro (And.intro ty_tFlat_40 ty_isBoolT_40) (And.intro ty_tBuilt_40 ty_tFld_40_0))) (And.intro (And.intro ty_tFldV_40_0 (And.intro ty_tFld_40_1 ty_tFldV_40_1)) (And.intro (And.intro ty_tFld_40_2 ty_tFldV_40_2) (And.intro ty_tFld_40_3 ty_tFldV_40_3)))) := (And.intro (And.intro (And.intro ty_tShape_40 (And.intro ty_tZero_40 ty_nCells_40)) (And.intro (And.intro ty_tFlat_40 ty_isBoolT_40) (And.intro ty_tBuilt_40 ty_tFld_40_0))) (And.intro (And.intro ty_tFldV_40_0 (And.intro ty_tFld_40_1 ty_tFldV_40_1)) (And.intro (And.intro ty_tFld_40_2 ty_tFldV_40_2) (And.intro ty_tFld_40_3 ty_tFldV_40_3))))
theorem tz_45 : type_of% (And.intro (And.intro (And.intro (And.intro ty_tShape_45 ty_tZero_45) (And.intro ty_nCells_45 ty_tFlat_45)) (And.intro (And.intro ty_isBoolT_45 ty_tBuilt_45) (And.intro ty_tFld_45_0 ty_tFldV_45_0))) (And.intro (And.intro (And.intro ty_tFld_45_1 ty_tFldV_45_1) (And.intro ty_tFld_45_2 ty_tFldV_45_2)) (And.intro (And.intro ty_tFld_45_3 ty_tFldV_45_3) (And.intro ty_tFld_45_4 ty_tFldV_45_4)))) := (And.intro (And.intro (And.intro (And.intro ty_tShape_45 ty_tZero_45) (And.intro ty_nCells_45 ty_tFlat_45)) (And.intro (And.intro ty_isBoolT_45 ty_tBuilt_45) (And.intro ty_tFld_45_0 ty_tFldV_45_0))) (And.intro (And.intro (And.intro ty_tFld_45_1 ty_tFldV_45_1) (And.intro ty_tFld_45_2 ty_tFldV_45_2)) (And.intro (And.intro ty_tFld_45_3 ty_tFldV_45_3) (And.intro ty_tFld_45_4 ty_tFldV_45_4))))
theorem tz_57 : type_of% (And.intro (And.intro ty_tShape_57 (And.intro ty_tZero_57 ty_tElt_57)) (And.intro ty_nCells_57 (And.intro ty_tFlat_57 ty_isBoolT_57))) := (And.intro (And.intro ty_tShape_57 (And.intro ty_tZero_57 ty_tElt_57)) (And.intro ty_nCells_57 (And.intro ty_tFlat_57 ty_isBoolT_57)))
theorem tz_60 : type_of% (And.intro (And.intro ty_tShape_60 (And.intro ty_tZero_60 ty_tElt_60)) (And.intro ty_nCells_60 (And.intro ty_tFlat_60 ty_isBoolT_60))) := (And.intro (And.intro ty_tShape_60 (And.intro ty_tZero_60 ty_tElt_60)) (And.intro ty_nCells_60 (And.intro ty_tFlat_60 ty_isBoolT_60)))
theorem tz_75 : type_of% (And.intro (And.intro ty_tShape_75 (And.intro ty_tZero_75 ty_tInt_75)) (And.intro ty_nCells_75 (And.intro ty_tFlat_75 ty_isBoolT_75))) := (And.intro (And.intro ty_tShape_75 (And.intro ty_tZero_75 ty_tInt_75)) (And.intro ty_nCells_75 (And.intro ty_tFlat_75 ty_isBoolT_75)))
theorem tz_86 : type_of% (And.intro (And.intro ty_tShape_86 (And.intro ty_tZero_86 ty_tInt_86)) (And.intro ty_nCells_86 (And.intro ty_tFlat_86 ty_isBoolT_86))) := (And.intro (And.intro ty_tShape_86 (And.intro ty_tZero_86 ty_tInt_86)) (And.intro ty_nCells_86 (And.intro ty_tFlat_86 ty_isBoolT_86)))
end Go.Proofs.Ytkjihlonnhfidaa
