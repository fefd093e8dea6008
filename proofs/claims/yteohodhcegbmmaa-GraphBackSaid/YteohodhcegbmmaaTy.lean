/- What the operations ask of the program's types, as facts. No condition. -/
import Derived.Test.YteohodhcegbmmaaKw
import Derived.Test.YteohodhcegbmmaaRows
namespace Go.Proofs.Yteohodhcegbmmaa
open Go.RowKit

theorem ty_tShape_0 : tShape Try.prog 0 = some none := by kernel_rfl
theorem ty_tZero_0 : tZero Try.prog 0 = some [Value.tuple #[]] := by kernel_rfl
theorem ty_nCells_0 : nCells Try.prog 0 = some 1 := by kernel_rfl
theorem ty_tFlat_0 : tFlat Try.prog 0 = none := by kernel_rfl
theorem ty_isBoolT_0 : isBoolT Try.prog 0 = false := by kernel_rfl
theorem ty_tShape_1 : tShape Try.prog 1 = some none := by kernel_rfl
theorem ty_tZero_1 : tZero Try.prog 1 = some [Value.nilFunc] := by kernel_rfl
theorem ty_nCells_1 : nCells Try.prog 1 = some 1 := by kernel_rfl
theorem ty_tFlat_1 : tFlat Try.prog 1 = none := by kernel_rfl
theorem ty_isBoolT_1 : isBoolT Try.prog 1 = false := by kernel_rfl
theorem ty_tShape_2 : tShape Try.prog 2 = some none := by kernel_rfl
theorem ty_tZero_2 : tZero Try.prog 2 = some [Value.int IntKind.i64 0] := by kernel_rfl
theorem ty_tInt_2 : tInt Try.prog 2 = some IntKind.i64 := by kernel_rfl
theorem ty_nCells_2 : nCells Try.prog 2 = some 1 := by kernel_rfl
theorem ty_tFlat_2 : tFlat Try.prog 2 = none := by kernel_rfl
theorem ty_isBoolT_2 : isBoolT Try.prog 2 = false := by kernel_rfl
theorem ty_tShape_3 : tShape Try.prog 3 = some none := by kernel_rfl
theorem ty_tZero_3 : tZero Try.prog 3 = some [Value.int IntKind.i64 0] := by kernel_rfl
theorem ty_tInt_3 : tInt Try.prog 3 = some IntKind.i64 := by kernel_rfl
theorem ty_nCells_3 : nCells Try.prog 3 = some 1 := by kernel_rfl
theorem ty_tFlat_3 : tFlat Try.prog 3 = none := by kernel_rfl
theorem ty_tZ1_3 : tZ1 Try.prog 3 = some (Value.int IntKind.i64 0) := by kernel_rfl
theorem ty_isBoolT_3 : isBoolT Try.prog 3 = false := by kernel_rfl
theorem ty_tShape_4 : tShape Try.prog 4 = some none := by kernel_rfl
theorem ty_tZero_4 : tZero Try.prog 4 = some [Value.bool false] := by kernel_rfl
theorem ty_nCells_4 : nCells Try.prog 4 = some 1 := by kernel_rfl
theorem ty_tFlat_4 : tFlat Try.prog 4 = none := by kernel_rfl
theorem ty_isBoolT_4 : isBoolT Try.prog 4 = true := by kernel_rfl
theorem ty_tShape_5 : tShape Try.prog 5 = some none := by kernel_rfl
theorem ty_tZero_5 : tZero Try.prog 5 = some [Value.int IntKind.u8 0] := by kernel_rfl
theorem ty_tInt_5 : tInt Try.prog 5 = some IntKind.u8 := by kernel_rfl
theorem ty_nCells_5 : nCells Try.prog 5 = some 1 := by kernel_rfl
theorem ty_tFlat_5 : tFlat Try.prog 5 = none := by kernel_rfl
theorem ty_isBoolT_5 : isBoolT Try.prog 5 = false := by kernel_rfl
theorem ty_tShape_6 : tShape Try.prog 6 = some none := by kernel_rfl
theorem ty_tZero_6 : tZero Try.prog 6 = some [Value.int IntKind.u8 0] := by kernel_rfl
theorem ty_tInt_6 : tInt Try.prog 6 = some IntKind.u8 := by kernel_rfl
theorem ty_nCells_6 : nCells Try.prog 6 = some 1 := by kernel_rfl
theorem ty_tFlat_6 : tFlat Try.prog 6 = none := by kernel_rfl
theorem ty_isBoolT_6 : isBoolT Try.prog 6 = false := by kernel_rfl
theorem ty_tShape_7 : tShape Try.prog 7 = some (some 4) := by kernel_rfl
theorem ty_tZero_7 : tZero Try.prog 7 = some [Value.int IntKind.i64 0, Value.int IntKind.i64 0, Value.bool false, Value.int IntKind.u8 0] := by kernel_rfl
theorem ty_nCells_7 : nCells Try.prog 7 = some 4 := by kernel_rfl
theorem ty_tFlat_7 : tFlat Try.prog 7 = none := by kernel_rfl
theorem ty_isBoolT_7 : isBoolT Try.prog 7 = false := by kernel_rfl
theorem ty_tBuilt_7 : tBuilt Try.prog 7 = some ([(0, 1), (1, 1), (2, 1), (3, 1)], [Value.int IntKind.i64 0, Value.int IntKind.i64 0, Value.bool false, Value.int IntKind.u8 0]) := by kernel_rfl
theorem ty_tFld_7_0 : tFld Try.prog 7 0 = some 0 := by kernel_rfl
theorem ty_tFldV_7_0 : tFldV Try.prog 7 0 = some (0, none) := by kernel_rfl
theorem ty_tFld_7_1 : tFld Try.prog 7 1 = some 1 := by kernel_rfl
theorem ty_tFldV_7_1 : tFldV Try.prog 7 1 = some (1, none) := by kernel_rfl
theorem ty_tFld_7_2 : tFld Try.prog 7 2 = some 2 := by kernel_rfl
theorem ty_tFldV_7_2 : tFldV Try.prog 7 2 = some (2, none) := by kernel_rfl
theorem ty_tFld_7_3 : tFld Try.prog 7 3 = some 3 := by kernel_rfl
theorem ty_tFldV_7_3 : tFldV Try.prog 7 3 = some (3, none) := by kernel_rfl
theorem ty_tShape_8 : tShape Try.prog 8 = some (some 4) := by kernel_rfl
theorem ty_tZero_8 : tZero Try.prog 8 = some [Value.int IntKind.i64 0, Value.int IntKind.i64 0, Value.bool false, Value.int IntKind.u8 0] := by kernel_rfl
theorem ty_nCells_8 : nCells Try.prog 8 = some 4 := by kernel_rfl
theorem ty_tFlat_8 : tFlat Try.prog 8 = none := by kernel_rfl
theorem ty_isBoolT_8 : isBoolT Try.prog 8 = false := by kernel_rfl
theorem ty_tBuilt_8 : tBuilt Try.prog 8 = some ([(0, 1), (1, 1), (2, 1), (3, 1)], [Value.int IntKind.i64 0, Value.int IntKind.i64 0, Value.bool false, Value.int IntKind.u8 0]) := by kernel_rfl
theorem ty_tFld_8_0 : tFld Try.prog 8 0 = some 0 := by kernel_rfl
theorem ty_tFldV_8_0 : tFldV Try.prog 8 0 = some (0, none) := by kernel_rfl
theorem ty_tFld_8_1 : tFld Try.prog 8 1 = some 1 := by kernel_rfl
theorem ty_tFldV_8_1 : tFldV Try.prog 8 1 = some (1, none) := by kernel_rfl
theorem ty_tFld_8_2 : tFld Try.prog 8 2 = some 2 := by kernel_rfl
theorem ty_tFldV_8_2 : tFldV Try.prog 8 2 = some (2, none) := by kernel_rfl
theorem ty_tFld_8_3 : tFld Try.prog 8 3 = some 3 := by kernel_rfl
theorem ty_tFldV_8_3 : tFldV Try.prog 8 3 = some (3, none) := by kernel_rfl
theorem ty_tShape_9 : tShape Try.prog 9 = some none := by kernel_rfl
theorem ty_tZero_9 : tZero Try.prog 9 = some [Value.string { data := #[] }] := by kernel_rfl
theorem ty_nCells_9 : nCells Try.prog 9 = some 1 := by kernel_rfl
theorem ty_tFlat_9 : tFlat Try.prog 9 = none := by kernel_rfl
theorem ty_isBoolT_9 : isBoolT Try.prog 9 = false := by kernel_rfl
theorem ty_tShape_10 : tShape Try.prog 10 = some none := by kernel_rfl
theorem ty_tZero_10 : tZero Try.prog 10 = some [Value.string { data := #[] }] := by kernel_rfl
theorem ty_nCells_10 : nCells Try.prog 10 = some 1 := by kernel_rfl
theorem ty_tFlat_10 : tFlat Try.prog 10 = none := by kernel_rfl
theorem ty_isBoolT_10 : isBoolT Try.prog 10 = false := by kernel_rfl
theorem ty_tShape_11 : tShape Try.prog 11 = some none := by kernel_rfl
theorem ty_tZero_11 : tZero Try.prog 11 = some [Value.string { data := #[] }] := by kernel_rfl
theorem ty_nCells_11 : nCells Try.prog 11 = some 1 := by kernel_rfl
theorem ty_tFlat_11 : tFlat Try.prog 11 = none := by kernel_rfl
theorem ty_isBoolT_11 : isBoolT Try.prog 11 = false := by kernel_rfl
theorem ty_tShape_12 : tShape Try.prog 12 = some none := by kernel_rfl
theorem ty_tZero_12 : tZero Try.prog 12 = some [Value.int IntKind.u64 0] := by kernel_rfl
theorem ty_tInt_12 : tInt Try.prog 12 = some IntKind.u64 := by kernel_rfl
theorem ty_nCells_12 : nCells Try.prog 12 = some 1 := by kernel_rfl
theorem ty_tFlat_12 : tFlat Try.prog 12 = none := by kernel_rfl
theorem ty_isBoolT_12 : isBoolT Try.prog 12 = false := by kernel_rfl
theorem ty_tShape_13 : tShape Try.prog 13 = some (some 2) := by kernel_rfl
theorem ty_tZero_13 : tZero Try.prog 13 = some [Value.string { data := #[] }, Value.int IntKind.u64 0] := by kernel_rfl
theorem ty_nCells_13 : nCells Try.prog 13 = some 2 := by kernel_rfl
theorem ty_tFlat_13 : tFlat Try.prog 13 = none := by kernel_rfl
theorem ty_isBoolT_13 : isBoolT Try.prog 13 = false := by kernel_rfl
theorem ty_tBuilt_13 : tBuilt Try.prog 13 = some ([(0, 1), (1, 1)], [Value.string { data := #[] }, Value.int IntKind.u64 0]) := by kernel_rfl
theorem ty_tFld_13_0 : tFld Try.prog 13 0 = some 0 := by kernel_rfl
theorem ty_tFldV_13_0 : tFldV Try.prog 13 0 = some (0, none) := by kernel_rfl
theorem ty_tFld_13_1 : tFld Try.prog 13 1 = some 1 := by kernel_rfl
theorem ty_tFldV_13_1 : tFldV Try.prog 13 1 = some (1, none) := by kernel_rfl
theorem ty_tShape_14 : tShape Try.prog 14 = some (some 2) := by kernel_rfl
theorem ty_tZero_14 : tZero Try.prog 14 = some [Value.string { data := #[] }, Value.int IntKind.u64 0] := by kernel_rfl
theorem ty_nCells_14 : nCells Try.prog 14 = some 2 := by kernel_rfl
theorem ty_tFlat_14 : tFlat Try.prog 14 = none := by kernel_rfl
theorem ty_isBoolT_14 : isBoolT Try.prog 14 = false := by kernel_rfl
theorem ty_tBuilt_14 : tBuilt Try.prog 14 = some ([(0, 1), (1, 1)], [Value.string { data := #[] }, Value.int IntKind.u64 0]) := by kernel_rfl
theorem ty_tFld_14_0 : tFld Try.prog 14 0 = some 0 := by kernel_rfl
theorem ty_tFldV_14_0 : tFldV Try.prog 14 0 = some (0, none) := by kernel_rfl
theorem ty_tFld_14_1 : tFld Try.prog 14 1 = some 1 := by kernel_rfl
theorem ty_tFldV_14_1 : tFldV Try.prog 14 1 = some (1, none) := by kernel_rfl
theorem ty_tShape_15 : tShape Try.prog 15 = some none := by kernel_rfl
theorem ty_tZero_15 : tZero Try.prog 15 = some [Value.pointer none] := by kernel_rfl
theorem ty_nCells_15 : nCells Try.prog 15 = some 1 := by kernel_rfl
theorem ty_tFlat_15 : tFlat Try.prog 15 = none := by kernel_rfl
theorem ty_isBoolT_15 : isBoolT Try.prog 15 = false := by kernel_rfl
theorem ty_tShape_16 : tShape Try.prog 16 = some none := by kernel_rfl
theorem ty_tZero_16 : tZero Try.prog 16 = some [Value.pointer none] := by kernel_rfl
theorem ty_nCells_16 : nCells Try.prog 16 = some 1 := by kernel_rfl
theorem ty_tFlat_16 : tFlat Try.prog 16 = none := by kernel_rfl
theorem ty_isBoolT_16 : isBoolT Try.prog 16 = false := by kernel_rfl
theorem ty_tShape_17 : tShape Try.prog 17 = some none := by kernel_rfl
theorem ty_tZero_17 : tZero Try.prog 17 = some [Value.pointer none] := by kernel_rfl
theorem ty_nCells_17 : nCells Try.prog 17 = some 1 := by kernel_rfl
theorem ty_tFlat_17 : tFlat Try.prog 17 = none := by kernel_rfl
theorem ty_isBoolT_17 : isBoolT Try.prog 17 = false := by kernel_rfl
theorem ty_tShape_18 : tShape Try.prog 18 = some (some 1) := by kernel_rfl
theorem ty_tZero_18 : tZero Try.prog 18 = some [Value.pointer none] := by kernel_rfl
theorem ty_nCells_18 : nCells Try.prog 18 = some 1 := by kernel_rfl
theorem ty_tFlat_18 : tFlat Try.prog 18 = none := by kernel_rfl
theorem ty_isBoolT_18 : isBoolT Try.prog 18 = false := by kernel_rfl
theorem ty_tBuilt_18 : tBuilt Try.prog 18 = some ([(0, 1)], [Value.pointer none]) := by kernel_rfl
theorem ty_tFld_18_0 : tFld Try.prog 18 0 = some 0 := by kernel_rfl
theorem ty_tFldV_18_0 : tFldV Try.prog 18 0 = some (0, none) := by kernel_rfl
theorem ty_tShape_19 : tShape Try.prog 19 = some (some 1) := by kernel_rfl
theorem ty_tZero_19 : tZero Try.prog 19 = some [Value.pointer none] := by kernel_rfl
theorem ty_nCells_19 : nCells Try.prog 19 = some 1 := by kernel_rfl
theorem ty_tFlat_19 : tFlat Try.prog 19 = none := by kernel_rfl
theorem ty_isBoolT_19 : isBoolT Try.prog 19 = false := by kernel_rfl
theorem ty_tBuilt_19 : tBuilt Try.prog 19 = some ([(0, 1)], [Value.pointer none]) := by kernel_rfl
theorem ty_tFld_19_0 : tFld Try.prog 19 0 = some 0 := by kernel_rfl
theorem ty_tFldV_19_0 : tFldV Try.prog 19 0 = some (0, none) := by kernel_rfl
theorem ty_tShape_20 : tShape Try.prog 20 = some none := by kernel_rfl
theorem ty_tZero_20 : tZero Try.prog 20 = some [Value.nilIface] := by kernel_rfl
theorem ty_nCells_20 : nCells Try.prog 20 = some 1 := by kernel_rfl
theorem ty_tFlat_20 : tFlat Try.prog 20 = none := by kernel_rfl
theorem ty_isBoolT_20 : isBoolT Try.prog 20 = false := by kernel_rfl
theorem ty_tShape_21 : tShape Try.prog 21 = some none := by kernel_rfl
theorem ty_tZero_21 : tZero Try.prog 21 = some [Value.int IntKind.i32 0] := by kernel_rfl
theorem ty_tInt_21 : tInt Try.prog 21 = some IntKind.i32 := by kernel_rfl
theorem ty_nCells_21 : nCells Try.prog 21 = some 1 := by kernel_rfl
theorem ty_tFlat_21 : tFlat Try.prog 21 = none := by kernel_rfl
theorem ty_isBoolT_21 : isBoolT Try.prog 21 = false := by kernel_rfl
theorem ty_tShape_22 : tShape Try.prog 22 = some none := by kernel_rfl
theorem ty_tZero_22 : tZero Try.prog 22 = some [Value.slice none 0 0] := by kernel_rfl
theorem ty_tElt_22 : tElt Try.prog 22 = some (43, 2, 16) := by kernel_rfl
theorem ty_nCells_22 : nCells Try.prog 22 = some 1 := by kernel_rfl
theorem ty_tFlat_22 : tFlat Try.prog 22 = none := by kernel_rfl
theorem ty_isBoolT_22 : isBoolT Try.prog 22 = false := by kernel_rfl
theorem ty_tShape_23 : tShape Try.prog 23 = some (some 2) := by kernel_rfl
theorem ty_tZero_23 : tZero Try.prog 23 = some [Value.int IntKind.i64 0, Value.slice none 0 0] := by kernel_rfl
theorem ty_nCells_23 : nCells Try.prog 23 = some 2 := by kernel_rfl
theorem ty_tFlat_23 : tFlat Try.prog 23 = none := by kernel_rfl
theorem ty_isBoolT_23 : isBoolT Try.prog 23 = false := by kernel_rfl
theorem ty_tBuilt_23 : tBuilt Try.prog 23 = some ([(0, 1), (1, 1)], [Value.int IntKind.i64 0, Value.slice none 0 0]) := by kernel_rfl
theorem ty_tFld_23_0 : tFld Try.prog 23 0 = some 0 := by kernel_rfl
theorem ty_tFldV_23_0 : tFldV Try.prog 23 0 = some (0, none) := by kernel_rfl
theorem ty_tFld_23_1 : tFld Try.prog 23 1 = some 1 := by kernel_rfl
theorem ty_tFldV_23_1 : tFldV Try.prog 23 1 = some (1, none) := by kernel_rfl
theorem ty_tShape_24 : tShape Try.prog 24 = some (some 2) := by kernel_rfl
theorem ty_tZero_24 : tZero Try.prog 24 = some [Value.int IntKind.i64 0, Value.slice none 0 0] := by kernel_rfl
theorem ty_nCells_24 : nCells Try.prog 24 = some 2 := by kernel_rfl
theorem ty_tFlat_24 : tFlat Try.prog 24 = none := by kernel_rfl
theorem ty_isBoolT_24 : isBoolT Try.prog 24 = false := by kernel_rfl
theorem ty_tBuilt_24 : tBuilt Try.prog 24 = some ([(0, 1), (1, 1)], [Value.int IntKind.i64 0, Value.slice none 0 0]) := by kernel_rfl
theorem ty_tFld_24_0 : tFld Try.prog 24 0 = some 0 := by kernel_rfl
theorem ty_tFldV_24_0 : tFldV Try.prog 24 0 = some (0, none) := by kernel_rfl
theorem ty_tFld_24_1 : tFld Try.prog 24 1 = some 1 := by kernel_rfl
theorem ty_tFldV_24_1 : tFldV Try.prog 24 1 = some (1, none) := by kernel_rfl
theorem ty_tShape_25 : tShape Try.prog 25 = some none := by kernel_rfl
theorem ty_tZero_25 : tZero Try.prog 25 = some [Value.nilFunc] := by kernel_rfl
theorem ty_nCells_25 : nCells Try.prog 25 = some 1 := by kernel_rfl
theorem ty_tFlat_25 : tFlat Try.prog 25 = none := by kernel_rfl
theorem ty_isBoolT_25 : isBoolT Try.prog 25 = false := by kernel_rfl
theorem ty_tShape_26 : tShape Try.prog 26 = some none := by kernel_rfl
theorem ty_tZero_26 : tZero Try.prog 26 = some [Value.nilFunc] := by kernel_rfl
theorem ty_nCells_26 : nCells Try.prog 26 = some 1 := by kernel_rfl
theorem ty_tFlat_26 : tFlat Try.prog 26 = none := by kernel_rfl
theorem ty_isBoolT_26 : isBoolT Try.prog 26 = false := by kernel_rfl
theorem ty_tShape_27 : tShape Try.prog 27 = some none := by kernel_rfl
theorem ty_tZero_27 : tZero Try.prog 27 = some [Value.nilFunc] := by kernel_rfl
theorem ty_nCells_27 : nCells Try.prog 27 = some 1 := by kernel_rfl
theorem ty_tFlat_27 : tFlat Try.prog 27 = none := by kernel_rfl
theorem ty_isBoolT_27 : isBoolT Try.prog 27 = false := by kernel_rfl
theorem ty_tShape_28 : tShape Try.prog 28 = some (some 2) := by kernel_rfl
theorem ty_tZero_28 : tZero Try.prog 28 = some [Value.int IntKind.i64 0, Value.slice none 0 0] := by kernel_rfl
theorem ty_nCells_28 : nCells Try.prog 28 = some 2 := by kernel_rfl
theorem ty_tFlat_28 : tFlat Try.prog 28 = none := by kernel_rfl
theorem ty_isBoolT_28 : isBoolT Try.prog 28 = false := by kernel_rfl
theorem ty_tBuilt_28 : tBuilt Try.prog 28 = some ([(0, 1), (1, 1)], [Value.int IntKind.i64 0, Value.slice none 0 0]) := by kernel_rfl
theorem ty_tFld_28_0 : tFld Try.prog 28 0 = some 0 := by kernel_rfl
theorem ty_tFldV_28_0 : tFldV Try.prog 28 0 = some (0, none) := by kernel_rfl
theorem ty_tFld_28_1 : tFld Try.prog 28 1 = some 1 := by kernel_rfl
theorem ty_tFldV_28_1 : tFldV Try.prog 28 1 = some (1, none) := by kernel_rfl
theorem ty_tShape_29 : tShape Try.prog 29 = some none := by kernel_rfl
theorem ty_tZero_29 : tZero Try.prog 29 = some [Value.nilFunc] := by kernel_rfl
theorem ty_nCells_29 : nCells Try.prog 29 = some 1 := by kernel_rfl
theorem ty_tFlat_29 : tFlat Try.prog 29 = none := by kernel_rfl
theorem ty_isBoolT_29 : isBoolT Try.prog 29 = false := by kernel_rfl
theorem ty_tShape_30 : tShape Try.prog 30 = some none := by kernel_rfl
theorem ty_tZero_30 : tZero Try.prog 30 = some [Value.nilFunc] := by kernel_rfl
theorem ty_nCells_30 : nCells Try.prog 30 = some 1 := by kernel_rfl
theorem ty_tFlat_30 : tFlat Try.prog 30 = none := by kernel_rfl
theorem ty_isBoolT_30 : isBoolT Try.prog 30 = false := by kernel_rfl
theorem ty_tShape_31 : tShape Try.prog 31 = some none := by kernel_rfl
theorem ty_tZero_31 : tZero Try.prog 31 = some [Value.nilFunc] := by kernel_rfl
theorem ty_nCells_31 : nCells Try.prog 31 = some 1 := by kernel_rfl
theorem ty_tFlat_31 : tFlat Try.prog 31 = none := by kernel_rfl
theorem ty_isBoolT_31 : isBoolT Try.prog 31 = false := by kernel_rfl
theorem ty_tShape_32 : tShape Try.prog 32 = some none := by kernel_rfl
theorem ty_tZero_32 : tZero Try.prog 32 = some [Value.nilFunc] := by kernel_rfl
theorem ty_nCells_32 : nCells Try.prog 32 = some 1 := by kernel_rfl
theorem ty_tFlat_32 : tFlat Try.prog 32 = none := by kernel_rfl
theorem ty_isBoolT_32 : isBoolT Try.prog 32 = false := by kernel_rfl
theorem ty_tShape_33 : tShape Try.prog 33 = some none := by kernel_rfl
theorem ty_tZero_33 : tZero Try.prog 33 = some [Value.nilFunc] := by kernel_rfl
theorem ty_nCells_33 : nCells Try.prog 33 = some 1 := by kernel_rfl
theorem ty_tFlat_33 : tFlat Try.prog 33 = none := by kernel_rfl
theorem ty_isBoolT_33 : isBoolT Try.prog 33 = false := by kernel_rfl
theorem ty_tShape_34 : tShape Try.prog 34 = some none := by kernel_rfl
theorem ty_tZero_34 : tZero Try.prog 34 = some [Value.nilFunc] := by kernel_rfl
theorem ty_nCells_34 : nCells Try.prog 34 = some 1 := by kernel_rfl
theorem ty_tFlat_34 : tFlat Try.prog 34 = none := by kernel_rfl
theorem ty_isBoolT_34 : isBoolT Try.prog 34 = false := by kernel_rfl
theorem ty_tShape_35 : tShape Try.prog 35 = some none := by kernel_rfl
theorem ty_tZero_35 : tZero Try.prog 35 = some [Value.slice none 0 0] := by kernel_rfl
theorem ty_tElt_35 : tElt Try.prog 35 = some (3, 1, 8) := by kernel_rfl
theorem ty_nCells_35 : nCells Try.prog 35 = some 1 := by kernel_rfl
theorem ty_tFlat_35 : tFlat Try.prog 35 = none := by kernel_rfl
theorem ty_isBoolT_35 : isBoolT Try.prog 35 = false := by kernel_rfl
theorem ty_tShape_36 : tShape Try.prog 36 = some none := by kernel_rfl
theorem ty_tZero_36 : tZero Try.prog 36 = some [Value.nilFunc] := by kernel_rfl
theorem ty_nCells_36 : nCells Try.prog 36 = some 1 := by kernel_rfl
theorem ty_tFlat_36 : tFlat Try.prog 36 = none := by kernel_rfl
theorem ty_isBoolT_36 : isBoolT Try.prog 36 = false := by kernel_rfl
theorem ty_tShape_37 : tShape Try.prog 37 = some none := by kernel_rfl
theorem ty_tZero_37 : tZero Try.prog 37 = some [Value.nilFunc] := by kernel_rfl
theorem ty_nCells_37 : nCells Try.prog 37 = some 1 := by kernel_rfl
theorem ty_tFlat_37 : tFlat Try.prog 37 = none := by kernel_rfl
theorem ty_isBoolT_37 : isBoolT Try.prog 37 = false := by kernel_rfl
theorem ty_tShape_38 : tShape Try.prog 38 = some none := by kernel_rfl
theorem ty_tZero_38 : tZero Try.prog 38 = some [Value.nilFunc] := by kernel_rfl
theorem ty_nCells_38 : nCells Try.prog 38 = some 1 := by kernel_rfl
theorem ty_tFlat_38 : tFlat Try.prog 38 = none := by kernel_rfl
theorem ty_isBoolT_38 : isBoolT Try.prog 38 = false := by kernel_rfl
theorem ty_tShape_39 : tShape Try.prog 39 = some none := by kernel_rfl
theorem ty_tZero_39 : tZero Try.prog 39 = some [Value.nilFunc] := by kernel_rfl
theorem ty_nCells_39 : nCells Try.prog 39 = some 1 := by kernel_rfl
theorem ty_tFlat_39 : tFlat Try.prog 39 = none := by kernel_rfl
theorem ty_isBoolT_39 : isBoolT Try.prog 39 = false := by kernel_rfl
theorem ty_tShape_40 : tShape Try.prog 40 = some none := by kernel_rfl
theorem ty_tZero_40 : tZero Try.prog 40 = some [Value.nilFunc] := by kernel_rfl
theorem ty_nCells_40 : nCells Try.prog 40 = some 1 := by kernel_rfl
theorem ty_tFlat_40 : tFlat Try.prog 40 = none := by kernel_rfl
theorem ty_isBoolT_40 : isBoolT Try.prog 40 = false := by kernel_rfl
theorem ty_tShape_41 : tShape Try.prog 41 = some none := by kernel_rfl
theorem ty_tZero_41 : tZero Try.prog 41 = some [Value.nilFunc] := by kernel_rfl
theorem ty_nCells_41 : nCells Try.prog 41 = some 1 := by kernel_rfl
theorem ty_tFlat_41 : tFlat Try.prog 41 = none := by kernel_rfl
theorem ty_isBoolT_41 : isBoolT Try.prog 41 = false := by kernel_rfl
theorem ty_tShape_42 : tShape Try.prog 42 = some none := by kernel_rfl
theorem ty_tZero_42 : tZero Try.prog 42 = some [Value.nilFunc] := by kernel_rfl
theorem ty_nCells_42 : nCells Try.prog 42 = some 1 := by kernel_rfl
theorem ty_tFlat_42 : tFlat Try.prog 42 = none := by kernel_rfl
theorem ty_isBoolT_42 : isBoolT Try.prog 42 = false := by kernel_rfl
theorem ty_tShape_43 : tShape Try.prog 43 = some (some 2) := by kernel_rfl
theorem ty_tZero_43 : tZero Try.prog 43 = some [Value.int IntKind.i64 0, Value.int IntKind.i64 0] := by kernel_rfl
theorem ty_tElt_43 : tElt Try.prog 43 = none := by kernel_rfl
theorem ty_tArr_43 : tArr Try.prog 43 = some (2, 1) := by kernel_rfl
theorem ty_nCells_43 : nCells Try.prog 43 = some 2 := by kernel_rfl
theorem ty_tFlat_43 : tFlat Try.prog 43 = some 2 := by kernel_rfl
theorem ty_isBoolT_43 : isBoolT Try.prog 43 = false := by kernel_rfl
theorem ty_tBuilt_43 : tBuilt Try.prog 43 = some ([(0, 1), (1, 1)], [Value.int IntKind.i64 0, Value.int IntKind.i64 0]) := by kernel_rfl
theorem ty_tShape_44 : tShape Try.prog 44 = some none := by kernel_rfl
theorem ty_tZero_44 : tZero Try.prog 44 = some [Value.slice none 0 0] := by kernel_rfl
theorem ty_tElt_44 : tElt Try.prog 44 = some (4, 1, 1) := by kernel_rfl
theorem ty_nCells_44 : nCells Try.prog 44 = some 1 := by kernel_rfl
theorem ty_tFlat_44 : tFlat Try.prog 44 = none := by kernel_rfl
theorem ty_isBoolT_44 : isBoolT Try.prog 44 = false := by kernel_rfl
theorem ty_tShape_45 : tShape Try.prog 45 = some (some 3) := by kernel_rfl
theorem ty_tZero_45 : tZero Try.prog 45 = some [Value.int IntKind.i64 0, Value.int IntKind.i64 0, Value.int IntKind.i64 0] := by kernel_rfl
theorem ty_tElt_45 : tElt Try.prog 45 = none := by kernel_rfl
theorem ty_tArr_45 : tArr Try.prog 45 = some (3, 1) := by kernel_rfl
theorem ty_nCells_45 : nCells Try.prog 45 = some 3 := by kernel_rfl
theorem ty_tFlat_45 : tFlat Try.prog 45 = some 3 := by kernel_rfl
theorem ty_isBoolT_45 : isBoolT Try.prog 45 = false := by kernel_rfl
theorem ty_tBuilt_45 : tBuilt Try.prog 45 = some ([(0, 1), (1, 1), (2, 1)], [Value.int IntKind.i64 0, Value.int IntKind.i64 0, Value.int IntKind.i64 0]) := by kernel_rfl
theorem ty_tShape_46 : tShape Try.prog 46 = some none := by kernel_rfl
theorem ty_tZero_46 : tZero Try.prog 46 = some [Value.nilFunc] := by kernel_rfl
theorem ty_nCells_46 : nCells Try.prog 46 = some 1 := by kernel_rfl
theorem ty_tFlat_46 : tFlat Try.prog 46 = none := by kernel_rfl
theorem ty_isBoolT_46 : isBoolT Try.prog 46 = false := by kernel_rfl
theorem ty_tShape_47 : tShape Try.prog 47 = some none := by kernel_rfl
theorem ty_tZero_47 : tZero Try.prog 47 = some [Value.nilFunc] := by kernel_rfl
theorem ty_nCells_47 : nCells Try.prog 47 = some 1 := by kernel_rfl
theorem ty_tFlat_47 : tFlat Try.prog 47 = none := by kernel_rfl
theorem ty_isBoolT_47 : isBoolT Try.prog 47 = false := by kernel_rfl
theorem ty_tShape_48 : tShape Try.prog 48 = some none := by kernel_rfl
theorem ty_tZero_48 : tZero Try.prog 48 = some [Value.map none] := by kernel_rfl
theorem ty_nCells_48 : nCells Try.prog 48 = some 1 := by kernel_rfl
theorem ty_tFlat_48 : tFlat Try.prog 48 = none := by kernel_rfl
theorem ty_tMap_48 : tMap Try.prog 48 = some (43, 3, true, 2) := by kernel_rfl
theorem ty_isBoolT_48 : isBoolT Try.prog 48 = false := by kernel_rfl
theorem ty_tShape_49 : tShape Try.prog 49 = some none := by kernel_rfl
theorem ty_tZero_49 : tZero Try.prog 49 = some [Value.nilFunc] := by kernel_rfl
theorem ty_nCells_49 : nCells Try.prog 49 = some 1 := by kernel_rfl
theorem ty_tFlat_49 : tFlat Try.prog 49 = none := by kernel_rfl
theorem ty_isBoolT_49 : isBoolT Try.prog 49 = false := by kernel_rfl
theorem ty_tShape_50 : tShape Try.prog 50 = some none := by kernel_rfl
theorem ty_tZero_50 : tZero Try.prog 50 = some [Value.nilFunc] := by kernel_rfl
theorem ty_nCells_50 : nCells Try.prog 50 = some 1 := by kernel_rfl
theorem ty_tFlat_50 : tFlat Try.prog 50 = none := by kernel_rfl
theorem ty_isBoolT_50 : isBoolT Try.prog 50 = false := by kernel_rfl
theorem ty_tShape_51 : tShape Try.prog 51 = some none := by kernel_rfl
theorem ty_tZero_51 : tZero Try.prog 51 = some [Value.nilFunc] := by kernel_rfl
theorem ty_nCells_51 : nCells Try.prog 51 = some 1 := by kernel_rfl
theorem ty_tFlat_51 : tFlat Try.prog 51 = none := by kernel_rfl
theorem ty_isBoolT_51 : isBoolT Try.prog 51 = false := by kernel_rfl
theorem ty_tShape_52 : tShape Try.prog 52 = some none := by kernel_rfl
theorem ty_tZero_52 : tZero Try.prog 52 = some [Value.nilFunc] := by kernel_rfl
theorem ty_nCells_52 : nCells Try.prog 52 = some 1 := by kernel_rfl
theorem ty_tFlat_52 : tFlat Try.prog 52 = none := by kernel_rfl
theorem ty_isBoolT_52 : isBoolT Try.prog 52 = false := by kernel_rfl
theorem ty_tShape_53 : tShape Try.prog 53 = some none := by kernel_rfl
theorem ty_tZero_53 : tZero Try.prog 53 = some [Value.nilFunc] := by kernel_rfl
theorem ty_nCells_53 : nCells Try.prog 53 = some 1 := by kernel_rfl
theorem ty_tFlat_53 : tFlat Try.prog 53 = none := by kernel_rfl
theorem ty_isBoolT_53 : isBoolT Try.prog 53 = false := by kernel_rfl
theorem ty_tShape_54 : tShape Try.prog 54 = some none := by kernel_rfl
theorem ty_tZero_54 : tZero Try.prog 54 = some [Value.nilFunc] := by kernel_rfl
theorem ty_nCells_54 : nCells Try.prog 54 = some 1 := by kernel_rfl
theorem ty_tFlat_54 : tFlat Try.prog 54 = none := by kernel_rfl
theorem ty_isBoolT_54 : isBoolT Try.prog 54 = false := by kernel_rfl
theorem ty_tShape_55 : tShape Try.prog 55 = some none := by kernel_rfl
theorem ty_tZero_55 : tZero Try.prog 55 = some [Value.int IntKind.u64 0] := by kernel_rfl
theorem ty_tInt_55 : tInt Try.prog 55 = some IntKind.u64 := by kernel_rfl
theorem ty_nCells_55 : nCells Try.prog 55 = some 1 := by kernel_rfl
theorem ty_tFlat_55 : tFlat Try.prog 55 = none := by kernel_rfl
theorem ty_isBoolT_55 : isBoolT Try.prog 55 = false := by kernel_rfl
theorem ty_tShape_56 : tShape Try.prog 56 = some none := by kernel_rfl
theorem ty_tZero_56 : tZero Try.prog 56 = some [Value.tuple { toList := [Value.int IntKind.u64 0, Value.int IntKind.u64 0] }] := by kernel_rfl
theorem ty_nCells_56 : nCells Try.prog 56 = some 1 := by kernel_rfl
theorem ty_tFlat_56 : tFlat Try.prog 56 = none := by kernel_rfl
theorem ty_isBoolT_56 : isBoolT Try.prog 56 = false := by kernel_rfl
theorem ty_tShape_57 : tShape Try.prog 57 = some none := by kernel_rfl
theorem ty_tZero_57 : tZero Try.prog 57 = some [Value.nilFunc] := by kernel_rfl
theorem ty_nCells_57 : nCells Try.prog 57 = some 1 := by kernel_rfl
theorem ty_tFlat_57 : tFlat Try.prog 57 = none := by kernel_rfl
theorem ty_isBoolT_57 : isBoolT Try.prog 57 = false := by kernel_rfl
theorem ty_tShape_58 : tShape Try.prog 58 = some none := by kernel_rfl
theorem ty_tZero_58 : tZero Try.prog 58 = some [Value.int IntKind.u32 0] := by kernel_rfl
theorem ty_tInt_58 : tInt Try.prog 58 = some IntKind.u32 := by kernel_rfl
theorem ty_nCells_58 : nCells Try.prog 58 = some 1 := by kernel_rfl
theorem ty_tFlat_58 : tFlat Try.prog 58 = none := by kernel_rfl
theorem ty_isBoolT_58 : isBoolT Try.prog 58 = false := by kernel_rfl
theorem ty_tShape_59 : tShape Try.prog 59 = some none := by kernel_rfl
theorem ty_tZero_59 : tZero Try.prog 59 = some [Value.tuple { toList := [Value.int IntKind.u32 0, Value.int IntKind.u32 0] }] := by kernel_rfl
theorem ty_nCells_59 : nCells Try.prog 59 = some 1 := by kernel_rfl
theorem ty_tFlat_59 : tFlat Try.prog 59 = none := by kernel_rfl
theorem ty_isBoolT_59 : isBoolT Try.prog 59 = false := by kernel_rfl
theorem ty_tShape_60 : tShape Try.prog 60 = some none := by kernel_rfl
theorem ty_tZero_60 : tZero Try.prog 60 = some [Value.nilFunc] := by kernel_rfl
theorem ty_nCells_60 : nCells Try.prog 60 = some 1 := by kernel_rfl
theorem ty_tFlat_60 : tFlat Try.prog 60 = none := by kernel_rfl
theorem ty_isBoolT_60 : isBoolT Try.prog 60 = false := by kernel_rfl
theorem ty_tShape_61 : tShape Try.prog 61 = some none := by kernel_rfl
theorem ty_tZero_61 : tZero Try.prog 61 = some [Value.int IntKind.u64 0] := by kernel_rfl
theorem ty_tInt_61 : tInt Try.prog 61 = some IntKind.u64 := by kernel_rfl
theorem ty_nCells_61 : nCells Try.prog 61 = some 1 := by kernel_rfl
theorem ty_tFlat_61 : tFlat Try.prog 61 = none := by kernel_rfl
theorem ty_isBoolT_61 : isBoolT Try.prog 61 = false := by kernel_rfl
theorem ty_tShape_62 : tShape Try.prog 62 = some none := by kernel_rfl
theorem ty_tZero_62 : tZero Try.prog 62 = some [Value.tuple { toList := [Value.int IntKind.u64 0, Value.int IntKind.u64 0] }] := by kernel_rfl
theorem ty_nCells_62 : nCells Try.prog 62 = some 1 := by kernel_rfl
theorem ty_tFlat_62 : tFlat Try.prog 62 = none := by kernel_rfl
theorem ty_isBoolT_62 : isBoolT Try.prog 62 = false := by kernel_rfl
theorem ty_tShape_63 : tShape Try.prog 63 = some none := by kernel_rfl
theorem ty_tZero_63 : tZero Try.prog 63 = some [Value.nilFunc] := by kernel_rfl
theorem ty_nCells_63 : nCells Try.prog 63 = some 1 := by kernel_rfl
theorem ty_tFlat_63 : tFlat Try.prog 63 = none := by kernel_rfl
theorem ty_isBoolT_63 : isBoolT Try.prog 63 = false := by kernel_rfl
theorem ty_tShape_64 : tShape Try.prog 64 = some none := by kernel_rfl
theorem ty_tZero_64 : tZero Try.prog 64 = some [Value.nilFunc] := by kernel_rfl
theorem ty_nCells_64 : nCells Try.prog 64 = some 1 := by kernel_rfl
theorem ty_tFlat_64 : tFlat Try.prog 64 = none := by kernel_rfl
theorem ty_isBoolT_64 : isBoolT Try.prog 64 = false := by kernel_rfl
theorem ty_tShape_65 : tShape Try.prog 65 = some (some 4) := by kernel_rfl
theorem ty_tZero_65 : tZero Try.prog 65 = some [Value.pointer none, Value.pointer none, Value.pointer none, Value.string { data := #[] }] := by kernel_rfl
theorem ty_nCells_65 : nCells Try.prog 65 = some 4 := by kernel_rfl
theorem ty_tFlat_65 : tFlat Try.prog 65 = none := by kernel_rfl
theorem ty_isBoolT_65 : isBoolT Try.prog 65 = false := by kernel_rfl
theorem ty_tBuilt_65 : tBuilt Try.prog 65 = some ([(0, 1), (1, 1), (2, 1), (3, 1)], [Value.pointer none, Value.pointer none, Value.pointer none, Value.string { data := #[] }]) := by kernel_rfl
theorem ty_tFld_65_0 : tFld Try.prog 65 0 = some 0 := by kernel_rfl
theorem ty_tFldV_65_0 : tFldV Try.prog 65 0 = some (0, none) := by kernel_rfl
theorem ty_tFld_65_1 : tFld Try.prog 65 1 = some 1 := by kernel_rfl
theorem ty_tFldV_65_1 : tFldV Try.prog 65 1 = some (1, none) := by kernel_rfl
theorem ty_tFld_65_2 : tFld Try.prog 65 2 = some 2 := by kernel_rfl
theorem ty_tFldV_65_2 : tFldV Try.prog 65 2 = some (2, none) := by kernel_rfl
theorem ty_tFld_65_3 : tFld Try.prog 65 3 = some 3 := by kernel_rfl
theorem ty_tFldV_65_3 : tFldV Try.prog 65 3 = some (3, none) := by kernel_rfl
theorem ty_tShape_66 : tShape Try.prog 66 = some (some 4) := by kernel_rfl
theorem ty_tZero_66 : tZero Try.prog 66 = some [Value.pointer none, Value.pointer none, Value.pointer none, Value.string { data := #[] }] := by kernel_rfl
theorem ty_nCells_66 : nCells Try.prog 66 = some 4 := by kernel_rfl
theorem ty_tFlat_66 : tFlat Try.prog 66 = none := by kernel_rfl
theorem ty_isBoolT_66 : isBoolT Try.prog 66 = false := by kernel_rfl
theorem ty_tBuilt_66 : tBuilt Try.prog 66 = some ([(0, 1), (1, 1), (2, 1), (3, 1)], [Value.pointer none, Value.pointer none, Value.pointer none, Value.string { data := #[] }]) := by kernel_rfl
theorem ty_tFld_66_0 : tFld Try.prog 66 0 = some 0 := by kernel_rfl
theorem ty_tFldV_66_0 : tFldV Try.prog 66 0 = some (0, none) := by kernel_rfl
theorem ty_tFld_66_1 : tFld Try.prog 66 1 = some 1 := by kernel_rfl
theorem ty_tFldV_66_1 : tFldV Try.prog 66 1 = some (1, none) := by kernel_rfl
theorem ty_tFld_66_2 : tFld Try.prog 66 2 = some 2 := by kernel_rfl
theorem ty_tFldV_66_2 : tFldV Try.prog 66 2 = some (2, none) := by kernel_rfl
theorem ty_tFld_66_3 : tFld Try.prog 66 3 = some 3 := by kernel_rfl
theorem ty_tFldV_66_3 : tFldV Try.prog 66 3 = some (3, none) := by kernel_rfl
theorem ty_tShape_67 : tShape Try.prog 67 = some (some 0) := by kernel_rfl
theorem ty_tZero_67 : tZero Try.prog 67 = some [] := by kernel_rfl
theorem ty_tElt_67 : tElt Try.prog 67 = none := by kernel_rfl
theorem ty_tArr_67 : tArr Try.prog 67 = some (0, 1) := by kernel_rfl
theorem ty_nCells_67 : nCells Try.prog 67 = some 0 := by kernel_rfl
theorem ty_tFlat_67 : tFlat Try.prog 67 = none := by kernel_rfl
theorem ty_isBoolT_67 : isBoolT Try.prog 67 = false := by kernel_rfl
theorem ty_tBuilt_67 : tBuilt Try.prog 67 = some ([], []) := by kernel_rfl
theorem ty_tShape_68 : tShape Try.prog 68 = some (some 0) := by kernel_rfl
theorem ty_tZero_68 : tZero Try.prog 68 = some [] := by kernel_rfl
theorem ty_nCells_68 : nCells Try.prog 68 = some 0 := by kernel_rfl
theorem ty_tFlat_68 : tFlat Try.prog 68 = none := by kernel_rfl
theorem ty_isBoolT_68 : isBoolT Try.prog 68 = false := by kernel_rfl
theorem ty_tBuilt_68 : tBuilt Try.prog 68 = some ([(0, 0)], []) := by kernel_rfl
theorem ty_tFldV_68_0 : tFldV Try.prog 68 0 = some (0, some 0) := by kernel_rfl
theorem ty_tShape_69 : tShape Try.prog 69 = some (some 0) := by kernel_rfl
theorem ty_tZero_69 : tZero Try.prog 69 = some [] := by kernel_rfl
theorem ty_nCells_69 : nCells Try.prog 69 = some 0 := by kernel_rfl
theorem ty_tFlat_69 : tFlat Try.prog 69 = none := by kernel_rfl
theorem ty_isBoolT_69 : isBoolT Try.prog 69 = false := by kernel_rfl
theorem ty_tBuilt_69 : tBuilt Try.prog 69 = some ([(0, 0)], []) := by kernel_rfl
theorem ty_tFldV_69_0 : tFldV Try.prog 69 0 = some (0, some 0) := by kernel_rfl
theorem ty_tShape_70 : tShape Try.prog 70 = some none := by kernel_rfl
theorem ty_tZero_70 : tZero Try.prog 70 = some [Value.nilFunc] := by kernel_rfl
theorem ty_nCells_70 : nCells Try.prog 70 = some 1 := by kernel_rfl
theorem ty_tFlat_70 : tFlat Try.prog 70 = none := by kernel_rfl
theorem ty_isBoolT_70 : isBoolT Try.prog 70 = false := by kernel_rfl
theorem ty_tShape_71 : tShape Try.prog 71 = some none := by kernel_rfl
theorem ty_tZero_71 : tZero Try.prog 71 = some [Value.int IntKind.u8 0] := by kernel_rfl
theorem ty_tInt_71 : tInt Try.prog 71 = some IntKind.u8 := by kernel_rfl
theorem ty_nCells_71 : nCells Try.prog 71 = some 1 := by kernel_rfl
theorem ty_tFlat_71 : tFlat Try.prog 71 = none := by kernel_rfl
theorem ty_isBoolT_71 : isBoolT Try.prog 71 = false := by kernel_rfl
theorem ty_tShape_72 : tShape Try.prog 72 = some none := by kernel_rfl
theorem ty_tZero_72 : tZero Try.prog 72 = some [Value.int IntKind.u8 0] := by kernel_rfl
theorem ty_tInt_72 : tInt Try.prog 72 = some IntKind.u8 := by kernel_rfl
theorem ty_nCells_72 : nCells Try.prog 72 = some 1 := by kernel_rfl
theorem ty_tFlat_72 : tFlat Try.prog 72 = none := by kernel_rfl
theorem ty_isBoolT_72 : isBoolT Try.prog 72 = false := by kernel_rfl
theorem ty_tShape_73 : tShape Try.prog 73 = some none := by kernel_rfl
theorem ty_tZero_73 : tZero Try.prog 73 = some [Value.nilFunc] := by kernel_rfl
theorem ty_nCells_73 : nCells Try.prog 73 = some 1 := by kernel_rfl
theorem ty_tFlat_73 : tFlat Try.prog 73 = none := by kernel_rfl
theorem ty_isBoolT_73 : isBoolT Try.prog 73 = false := by kernel_rfl
theorem ty_tShape_74 : tShape Try.prog 74 = some none := by kernel_rfl
theorem ty_tZero_74 : tZero Try.prog 74 = some [Value.pointer none] := by kernel_rfl
theorem ty_nCells_74 : nCells Try.prog 74 = some 1 := by kernel_rfl
theorem ty_tFlat_74 : tFlat Try.prog 74 = none := by kernel_rfl
theorem ty_isBoolT_74 : isBoolT Try.prog 74 = false := by kernel_rfl
theorem ty_tShape_75 : tShape Try.prog 75 = some none := by kernel_rfl
theorem ty_tZero_75 : tZero Try.prog 75 = some [Value.int IntKind.i32 0] := by kernel_rfl
theorem ty_tInt_75 : tInt Try.prog 75 = some IntKind.i32 := by kernel_rfl
theorem ty_nCells_75 : nCells Try.prog 75 = some 1 := by kernel_rfl
theorem ty_tFlat_75 : tFlat Try.prog 75 = none := by kernel_rfl
theorem ty_isBoolT_75 : isBoolT Try.prog 75 = false := by kernel_rfl
theorem ty_tShape_76 : tShape Try.prog 76 = some none := by kernel_rfl
theorem ty_tZero_76 : tZero Try.prog 76 = some [Value.int IntKind.i32 0] := by kernel_rfl
theorem ty_tInt_76 : tInt Try.prog 76 = some IntKind.i32 := by kernel_rfl
theorem ty_nCells_76 : nCells Try.prog 76 = some 1 := by kernel_rfl
theorem ty_tFlat_76 : tFlat Try.prog 76 = none := by kernel_rfl
theorem ty_isBoolT_76 : isBoolT Try.prog 76 = false := by kernel_rfl
theorem ty_tShape_77 : tShape Try.prog 77 = some (some 11) := by kernel_rfl
theorem ty_tZero_77 : tZero Try.prog 77 = some [Value.int IntKind.u64 0, Value.int IntKind.u64 0, Value.int IntKind.u32 0, Value.int IntKind.u8 0, Value.int IntKind.u8 0, Value.int IntKind.u8 0, Value.int IntKind.u8 0, Value.nilFunc, Value.pointer none, Value.int IntKind.i32 0, Value.int IntKind.i32 0] := by kernel_rfl
theorem ty_nCells_77 : nCells Try.prog 77 = some 11 := by kernel_rfl
theorem ty_tFlat_77 : tFlat Try.prog 77 = none := by kernel_rfl
theorem ty_isBoolT_77 : isBoolT Try.prog 77 = false := by kernel_rfl
theorem ty_tBuilt_77 : tBuilt Try.prog 77 = some ([(0, 1), (1, 1), (2, 1), (3, 1), (4, 1), (5, 1), (6, 1), (7, 1), (8, 1), (9, 1), (10, 1)], [Value.int IntKind.u64 0, Value.int IntKind.u64 0, Value.int IntKind.u32 0, Value.int IntKind.u8 0, Value.int IntKind.u8 0, Value.int IntKind.u8 0, Value.int IntKind.u8 0, Value.nilFunc, Value.pointer none, Value.int IntKind.i32 0, Value.int IntKind.i32 0]) := by kernel_rfl
theorem ty_tFld_77_0 : tFld Try.prog 77 0 = some 0 := by kernel_rfl
theorem ty_tFldV_77_0 : tFldV Try.prog 77 0 = some (0, none) := by kernel_rfl
theorem ty_tFld_77_1 : tFld Try.prog 77 1 = some 1 := by kernel_rfl
theorem ty_tFldV_77_1 : tFldV Try.prog 77 1 = some (1, none) := by kernel_rfl
theorem ty_tFld_77_2 : tFld Try.prog 77 2 = some 2 := by kernel_rfl
theorem ty_tFldV_77_2 : tFldV Try.prog 77 2 = some (2, none) := by kernel_rfl
theorem ty_tFld_77_3 : tFld Try.prog 77 3 = some 3 := by kernel_rfl
theorem ty_tFldV_77_3 : tFldV Try.prog 77 3 = some (3, none) := by kernel_rfl
theorem ty_tFld_77_4 : tFld Try.prog 77 4 = some 4 := by kernel_rfl
theorem ty_tFldV_77_4 : tFldV Try.prog 77 4 = some (4, none) := by kernel_rfl
theorem ty_tFld_77_5 : tFld Try.prog 77 5 = some 5 := by kernel_rfl
theorem ty_tFldV_77_5 : tFldV Try.prog 77 5 = some (5, none) := by kernel_rfl
theorem ty_tFld_77_6 : tFld Try.prog 77 6 = some 6 := by kernel_rfl
theorem ty_tFldV_77_6 : tFldV Try.prog 77 6 = some (6, none) := by kernel_rfl
theorem ty_tFld_77_7 : tFld Try.prog 77 7 = some 7 := by kernel_rfl
theorem ty_tFldV_77_7 : tFldV Try.prog 77 7 = some (7, none) := by kernel_rfl
theorem ty_tFld_77_8 : tFld Try.prog 77 8 = some 8 := by kernel_rfl
theorem ty_tFldV_77_8 : tFldV Try.prog 77 8 = some (8, none) := by kernel_rfl
theorem ty_tFld_77_9 : tFld Try.prog 77 9 = some 9 := by kernel_rfl
theorem ty_tFldV_77_9 : tFldV Try.prog 77 9 = some (9, none) := by kernel_rfl
theorem ty_tFld_77_10 : tFld Try.prog 77 10 = some 10 := by kernel_rfl
theorem ty_tFldV_77_10 : tFldV Try.prog 77 10 = some (10, none) := by kernel_rfl
theorem ty_tShape_78 : tShape Try.prog 78 = some (some 11) := by kernel_rfl
theorem ty_tZero_78 : tZero Try.prog 78 = some [Value.int IntKind.u64 0, Value.int IntKind.u64 0, Value.int IntKind.u32 0, Value.int IntKind.u8 0, Value.int IntKind.u8 0, Value.int IntKind.u8 0, Value.int IntKind.u8 0, Value.nilFunc, Value.pointer none, Value.int IntKind.i32 0, Value.int IntKind.i32 0] := by kernel_rfl
theorem ty_nCells_78 : nCells Try.prog 78 = some 11 := by kernel_rfl
theorem ty_tFlat_78 : tFlat Try.prog 78 = none := by kernel_rfl
theorem ty_isBoolT_78 : isBoolT Try.prog 78 = false := by kernel_rfl
theorem ty_tBuilt_78 : tBuilt Try.prog 78 = some ([(0, 1), (1, 1), (2, 1), (3, 1), (4, 1), (5, 1), (6, 1), (7, 1), (8, 1), (9, 1), (10, 1)], [Value.int IntKind.u64 0, Value.int IntKind.u64 0, Value.int IntKind.u32 0, Value.int IntKind.u8 0, Value.int IntKind.u8 0, Value.int IntKind.u8 0, Value.int IntKind.u8 0, Value.nilFunc, Value.pointer none, Value.int IntKind.i32 0, Value.int IntKind.i32 0]) := by kernel_rfl
theorem ty_tFld_78_0 : tFld Try.prog 78 0 = some 0 := by kernel_rfl
theorem ty_tFldV_78_0 : tFldV Try.prog 78 0 = some (0, none) := by kernel_rfl
theorem ty_tFld_78_1 : tFld Try.prog 78 1 = some 1 := by kernel_rfl
theorem ty_tFldV_78_1 : tFldV Try.prog 78 1 = some (1, none) := by kernel_rfl
theorem ty_tFld_78_2 : tFld Try.prog 78 2 = some 2 := by kernel_rfl
theorem ty_tFldV_78_2 : tFldV Try.prog 78 2 = some (2, none) := by kernel_rfl
theorem ty_tFld_78_3 : tFld Try.prog 78 3 = some 3 := by kernel_rfl
theorem ty_tFldV_78_3 : tFldV Try.prog 78 3 = some (3, none) := by kernel_rfl
theorem ty_tFld_78_4 : tFld Try.prog 78 4 = some 4 := by kernel_rfl
theorem ty_tFldV_78_4 : tFldV Try.prog 78 4 = some (4, none) := by kernel_rfl
theorem ty_tFld_78_5 : tFld Try.prog 78 5 = some 5 := by kernel_rfl
theorem ty_tFldV_78_5 : tFldV Try.prog 78 5 = some (5, none) := by kernel_rfl
theorem ty_tFld_78_6 : tFld Try.prog 78 6 = some 6 := by kernel_rfl
theorem ty_tFldV_78_6 : tFldV Try.prog 78 6 = some (6, none) := by kernel_rfl
theorem ty_tFld_78_7 : tFld Try.prog 78 7 = some 7 := by kernel_rfl
theorem ty_tFldV_78_7 : tFldV Try.prog 78 7 = some (7, none) := by kernel_rfl
theorem ty_tFld_78_8 : tFld Try.prog 78 8 = some 8 := by kernel_rfl
theorem ty_tFldV_78_8 : tFldV Try.prog 78 8 = some (8, none) := by kernel_rfl
theorem ty_tFld_78_9 : tFld Try.prog 78 9 = some 9 := by kernel_rfl
theorem ty_tFldV_78_9 : tFldV Try.prog 78 9 = some (9, none) := by kernel_rfl
theorem ty_tFld_78_10 : tFld Try.prog 78 10 = some 10 := by kernel_rfl
theorem ty_tFldV_78_10 : tFldV Try.prog 78 10 = some (10, none) := by kernel_rfl
theorem ty_tShape_79 : tShape Try.prog 79 = some none := by kernel_rfl
theorem ty_tZero_79 : tZero Try.prog 79 = some [Value.pointer none] := by kernel_rfl
theorem ty_nCells_79 : nCells Try.prog 79 = some 1 := by kernel_rfl
theorem ty_tFlat_79 : tFlat Try.prog 79 = none := by kernel_rfl
theorem ty_isBoolT_79 : isBoolT Try.prog 79 = false := by kernel_rfl
theorem ty_hm : Try.prog.follows .mixedOrders = true := by kernel_rfl
end Go.Proofs.Yteohodhcegbmmaa
