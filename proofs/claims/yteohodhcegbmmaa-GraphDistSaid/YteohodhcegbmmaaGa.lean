/- Functions as typed ones, and that the program's functions answer as these do. No condition. -/
import Derived.Test.YteohodhcegbmmaaTy
import Derived.Test.YteohodhcegbmmaaKzn
set_option linter.unusedSimpArgs false
set_option linter.unusedVariables false
namespace Go.Proofs.Yteohodhcegbmmaa
open Go.RowKit

structure A2I where
  a0 : Int
  a1 : Int
def eA2I (x : A2I) : List C := [.int .i64 x.a0, .int .i64 x.a1]
instance : DecidableEq A2I := fun x y => decidable_of_iff (x.a0 = y.a0 ∧ x.a1 = y.a1) ⟨fun h => by cases x; cases y; simp_all, fun h => by subst h; simp⟩
theorem eq_A2I_vv (x : A2I) (y : A2I) : (decide (x.a0 = y.a0) && decide (x.a1 = y.a1)) = decide (x = y) := by
  cases x; cases y; rw [Bool.eq_iff_iff]; simp
theorem eq_A2I_vm (x : A2I) (b0 b1 : Int) : (decide (x.a0 = b0) && decide (x.a1 = b1)) = decide (x = A2I.mk b0 b1) := by
  cases x; rw [Bool.eq_iff_iff]; simp
theorem eq_A2I_mv (a0 a1 : Int) (y : A2I) : (decide (a0 = y.a0) && decide (a1 = y.a1)) = decide (A2I.mk a0 a1 = y) := by
  cases y; rw [Bool.eq_iff_iff]; simp
theorem eq_A2I_mm (a0 a1 : Int) (b0 b1 : Int) : (decide (a0 = b0) && decide (a1 = b1)) = decide (A2I.mk a0 a1 = A2I.mk b0 b1) := by
  rw [Bool.eq_iff_iff]; simp
structure TGraph where
  N : Int
  Links : (List A2I)
def eTGraph (x : TGraph) : List C := [.int .i64 x.N, .sl (x.Links.map eA2I)]
structure A3I where
  a0 : Int
  a1 : Int
  a2 : Int
def eA3I (x : A3I) : List C := [.int .i64 x.a0, .int .i64 x.a1, .int .i64 x.a2]
theorem EX : type_of% (And.intro (And.intro (And.intro (And.intro @EW @EM) (And.intro @fE_g @fE_a)) (And.intro (And.intro @fE_m @fE_f) (And.intro @fE_k @List.append_eq.{0}))) (And.intro (And.intro (And.intro @eI.eq_1 @eB.eq_1) (And.intro @eS.eq_1 @e_u8.eq_1)) (And.intro (And.intro @eL.eq_1 @eA2I.eq_1) (And.intro @eTGraph.eq_1 @eA3I.eq_1)))) := (And.intro (And.intro (And.intro (And.intro @EW @EM) (And.intro @fE_g @fE_a)) (And.intro (And.intro @fE_m @fE_f) (And.intro @fE_k @List.append_eq.{0}))) (And.intro (And.intro (And.intro @eI.eq_1 @eB.eq_1) (And.intro @eS.eq_1 @e_u8.eq_1)) (And.intro (And.intro @eL.eq_1 @eA2I.eq_1) (And.intro @eTGraph.eq_1 @eA3I.eq_1))))
theorem tz_2 : type_of% (And.intro (And.intro ty_tShape_2 (And.intro ty_tZero_2 ty_tInt_2)) (And.intro ty_nCells_2 (And.intro ty_tFlat_2 ty_isBoolT_2))) := (And.intro (And.intro ty_tShape_2 (And.intro ty_tZero_2 ty_tInt_2)) (And.intro ty_nCells_2 (And.intro ty_tFlat_2 ty_isBoolT_2)))
theorem tz_3 : type_of% (And.intro (And.intro ty_tShape_3 (And.intro ty_tZero_3 ty_tInt_3)) (And.intro (And.intro ty_nCells_3 ty_tFlat_3) (And.intro ty_tZ1_3 ty_isBoolT_3))) := (And.intro (And.intro ty_tShape_3 (And.intro ty_tZero_3 ty_tInt_3)) (And.intro (And.intro ty_nCells_3 ty_tFlat_3) (And.intro ty_tZ1_3 ty_isBoolT_3)))
theorem tz_4 : type_of% (And.intro (And.intro ty_tShape_4 ty_tZero_4) (And.intro ty_nCells_4 (And.intro ty_tFlat_4 ty_isBoolT_4))) := (And.intro (And.intro ty_tShape_4 ty_tZero_4) (And.intro ty_nCells_4 (And.intro ty_tFlat_4 ty_isBoolT_4)))
theorem tz_22 : type_of% (And.intro (And.intro ty_tShape_22 (And.intro ty_tZero_22 ty_tElt_22)) (And.intro ty_nCells_22 (And.intro ty_tFlat_22 ty_isBoolT_22))) := (And.intro (And.intro ty_tShape_22 (And.intro ty_tZero_22 ty_tElt_22)) (And.intro ty_nCells_22 (And.intro ty_tFlat_22 ty_isBoolT_22)))
theorem tz_24 : type_of% (And.intro (And.intro (And.intro ty_tShape_24 ty_tZero_24) (And.intro ty_nCells_24 (And.intro ty_tFlat_24 ty_isBoolT_24))) (And.intro (And.intro ty_tBuilt_24 ty_tFld_24_0) (And.intro ty_tFldV_24_0 (And.intro ty_tFld_24_1 ty_tFldV_24_1)))) := (And.intro (And.intro (And.intro ty_tShape_24 ty_tZero_24) (And.intro ty_nCells_24 (And.intro ty_tFlat_24 ty_isBoolT_24))) (And.intro (And.intro ty_tBuilt_24 ty_tFld_24_0) (And.intro ty_tFldV_24_0 (And.intro ty_tFld_24_1 ty_tFldV_24_1))))
theorem tz_28 : type_of% (And.intro (And.intro (And.intro ty_tShape_28 ty_tZero_28) (And.intro ty_nCells_28 (And.intro ty_tFlat_28 ty_isBoolT_28))) (And.intro (And.intro ty_tBuilt_28 ty_tFld_28_0) (And.intro ty_tFldV_28_0 (And.intro ty_tFld_28_1 ty_tFldV_28_1)))) := (And.intro (And.intro (And.intro ty_tShape_28 ty_tZero_28) (And.intro ty_nCells_28 (And.intro ty_tFlat_28 ty_isBoolT_28))) (And.intro (And.intro ty_tBuilt_28 ty_tFld_28_0) (And.intro ty_tFldV_28_0 (And.intro ty_tFld_28_1 ty_tFldV_28_1))))
theorem tz_35 : type_of% (And.intro (And.intro ty_tShape_35 (And.intro ty_tZero_35 ty_tElt_35)) (And.intro ty_nCells_35 (And.intro ty_tFlat_35 ty_isBoolT_35))) := (And.intro (And.intro ty_tShape_35 (And.intro ty_tZero_35 ty_tElt_35)) (And.intro ty_nCells_35 (And.intro ty_tFlat_35 ty_isBoolT_35)))
theorem tz_43 : type_of% (And.intro (And.intro (And.intro ty_tShape_43 ty_tZero_43) (And.intro ty_tElt_43 ty_tArr_43)) (And.intro (And.intro ty_nCells_43 ty_tFlat_43) (And.intro ty_isBoolT_43 ty_tBuilt_43))) := (And.intro (And.intro (And.intro ty_tShape_43 ty_tZero_43) (And.intro ty_tElt_43 ty_tArr_43)) (And.intro (And.intro ty_nCells_43 ty_tFlat_43) (And.intro ty_isBoolT_43 ty_tBuilt_43)))
theorem tz_44 : type_of% (And.intro (And.intro ty_tShape_44 (And.intro ty_tZero_44 ty_tElt_44)) (And.intro ty_nCells_44 (And.intro ty_tFlat_44 ty_isBoolT_44))) := (And.intro (And.intro ty_tShape_44 (And.intro ty_tZero_44 ty_tElt_44)) (And.intro ty_nCells_44 (And.intro ty_tFlat_44 ty_isBoolT_44)))
theorem tz_45 : type_of% (And.intro (And.intro (And.intro ty_tShape_45 ty_tZero_45) (And.intro ty_tElt_45 ty_tArr_45)) (And.intro (And.intro ty_nCells_45 ty_tFlat_45) (And.intro ty_isBoolT_45 ty_tBuilt_45))) := (And.intro (And.intro (And.intro ty_tShape_45 ty_tZero_45) (And.intro ty_tElt_45 ty_tArr_45)) (And.intro (And.intro ty_nCells_45 ty_tFlat_45) (And.intro ty_isBoolT_45 ty_tBuilt_45)))
theorem tz_48 : type_of% (And.intro (And.intro ty_tShape_48 (And.intro ty_tZero_48 ty_nCells_48)) (And.intro ty_tFlat_48 (And.intro ty_tMap_48 ty_isBoolT_48))) := (And.intro (And.intro ty_tShape_48 (And.intro ty_tZero_48 ty_nCells_48)) (And.intro ty_tFlat_48 (And.intro ty_tMap_48 ty_isBoolT_48)))
theorem tz_55 : type_of% (And.intro (And.intro ty_tShape_55 (And.intro ty_tZero_55 ty_tInt_55)) (And.intro ty_nCells_55 (And.intro ty_tFlat_55 ty_isBoolT_55))) := (And.intro (And.intro ty_tShape_55 (And.intro ty_tZero_55 ty_tInt_55)) (And.intro ty_nCells_55 (And.intro ty_tFlat_55 ty_isBoolT_55)))
theorem tz_61 : type_of% (And.intro (And.intro ty_tShape_61 (And.intro ty_tZero_61 ty_tInt_61)) (And.intro ty_nCells_61 (And.intro ty_tFlat_61 ty_isBoolT_61))) := (And.intro (And.intro ty_tShape_61 (And.intro ty_tZero_61 ty_tInt_61)) (And.intro ty_nCells_61 (And.intro ty_tFlat_61 ty_isBoolT_61)))
end Go.Proofs.Yteohodhcegbmmaa
