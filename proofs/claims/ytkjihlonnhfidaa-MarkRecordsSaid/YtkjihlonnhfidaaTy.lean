/- What the operations ask of the program's types, as facts. No condition. -/
import Derived.Test.YtkjihlonnhfidaaKw
import Derived.Test.YtkjihlonnhfidaaRows
namespace Go.Proofs.Ytkjihlonnhfidaa
open Go.RowKit

theorem ty_tShape_0 : tShape Try.prog 0 = some none := by kernel_rfl
theorem ty_tZero_0 : tZero Try.prog 0 = some [Value.tuple #[]] := by kernel_rfl
theorem ty_nCells_0 : nCells Try.prog 0 = some 1 := by kernel_rfl
theorem ty_tFlat_0 : tFlat Try.prog 0 = none := by kernel_rfl
theorem ty_isBoolT_0 : isBoolT Try.prog 0 = false := by kernel_rfl
theorem ty_tShape_1 : tShape Try.prog 1 = some none := by kernel_rfl
theorem ty_tZero_1 : tZero Try.prog 1 = some [Value.nilFunc] := by kernel_rfl
theorem ty_nCells_1 : nCells Try.prog 1 = some 1 := by kernel_rfl
theorem ty_tFlat_1 : tFlat Try.prog 1 = none := by kernel_rfl
theorem ty_isBoolT_1 : isBoolT Try.prog 1 = false := by kernel_rfl
theorem ty_tShape_2 : tShape Try.prog 2 = some none := by kernel_rfl
theorem ty_tZero_2 : tZero Try.prog 2 = some [Value.int IntKind.i64 0] := by kernel_rfl
theorem ty_tInt_2 : tInt Try.prog 2 = some IntKind.i64 := by kernel_rfl
theorem ty_nCells_2 : nCells Try.prog 2 = some 1 := by kernel_rfl
theorem ty_tFlat_2 : tFlat Try.prog 2 = none := by kernel_rfl
theorem ty_isBoolT_2 : isBoolT Try.prog 2 = false := by kernel_rfl
theorem ty_tShape_3 : tShape Try.prog 3 = some none := by kernel_rfl
theorem ty_tZero_3 : tZero Try.prog 3 = some [Value.int IntKind.i64 0] := by kernel_rfl
theorem ty_tInt_3 : tInt Try.prog 3 = some IntKind.i64 := by kernel_rfl
theorem ty_nCells_3 : nCells Try.prog 3 = some 1 := by kernel_rfl
theorem ty_tFlat_3 : tFlat Try.prog 3 = none := by kernel_rfl
theorem ty_isBoolT_3 : isBoolT Try.prog 3 = false := by kernel_rfl
theorem ty_tShape_4 : tShape Try.prog 4 = some none := by kernel_rfl
theorem ty_tZero_4 : tZero Try.prog 4 = some [Value.bool false] := by kernel_rfl
theorem ty_nCells_4 : nCells Try.prog 4 = some 1 := by kernel_rfl
theorem ty_tFlat_4 : tFlat Try.prog 4 = none := by kernel_rfl
theorem ty_isBoolT_4 : isBoolT Try.prog 4 = true := by kernel_rfl
theorem ty_tShape_5 : tShape Try.prog 5 = some none := by kernel_rfl
theorem ty_tZero_5 : tZero Try.prog 5 = some [Value.int IntKind.u8 0] := by kernel_rfl
theorem ty_tInt_5 : tInt Try.prog 5 = some IntKind.u8 := by kernel_rfl
theorem ty_nCells_5 : nCells Try.prog 5 = some 1 := by kernel_rfl
theorem ty_tFlat_5 : tFlat Try.prog 5 = none := by kernel_rfl
theorem ty_isBoolT_5 : isBoolT Try.prog 5 = false := by kernel_rfl
theorem ty_tShape_6 : tShape Try.prog 6 = some none := by kernel_rfl
theorem ty_tZero_6 : tZero Try.prog 6 = some [Value.int IntKind.u8 0] := by kernel_rfl
theorem ty_tInt_6 : tInt Try.prog 6 = some IntKind.u8 := by kernel_rfl
theorem ty_nCells_6 : nCells Try.prog 6 = some 1 := by kernel_rfl
theorem ty_tFlat_6 : tFlat Try.prog 6 = none := by kernel_rfl
theorem ty_isBoolT_6 : isBoolT Try.prog 6 = false := by kernel_rfl
theorem ty_tShape_7 : tShape Try.prog 7 = some (some 4) := by kernel_rfl
theorem ty_tZero_7 : tZero Try.prog 7 = some [Value.int IntKind.i64 0, Value.int IntKind.i64 0, Value.bool false, Value.int IntKind.u8 0] := by kernel_rfl
theorem ty_nCells_7 : nCells Try.prog 7 = some 4 := by kernel_rfl
theorem ty_tFlat_7 : tFlat Try.prog 7 = none := by kernel_rfl
theorem ty_isBoolT_7 : isBoolT Try.prog 7 = false := by kernel_rfl
theorem ty_tBuilt_7 : tBuilt Try.prog 7 = some ([(0, 1), (1, 1), (2, 1), (3, 1)], [Value.int IntKind.i64 0, Value.int IntKind.i64 0, Value.bool false, Value.int IntKind.u8 0]) := by kernel_rfl
theorem ty_tFld_7_0 : tFld Try.prog 7 0 = some 0 := by kernel_rfl
theorem ty_tFldV_7_0 : tFldV Try.prog 7 0 = some (0, none) := by kernel_rfl
theorem ty_tFld_7_1 : tFld Try.prog 7 1 = some 1 := by kernel_rfl
theorem ty_tFldV_7_1 : tFldV Try.prog 7 1 = some (1, none) := by kernel_rfl
theorem ty_tFld_7_2 : tFld Try.prog 7 2 = some 2 := by kernel_rfl
theorem ty_tFldV_7_2 : tFldV Try.prog 7 2 = some (2, none) := by kernel_rfl
theorem ty_tFld_7_3 : tFld Try.prog 7 3 = some 3 := by kernel_rfl
theorem ty_tFldV_7_3 : tFldV Try.prog 7 3 = some (3, none) := by kernel_rfl
theorem ty_tShape_8 : tShape Try.prog 8 = some (some 4) := by kernel_rfl
theorem ty_tZero_8 : tZero Try.prog 8 = some [Value.int IntKind.i64 0, Value.int IntKind.i64 0, Value.bool false, Value.int IntKind.u8 0] := by kernel_rfl
theorem ty_nCells_8 : nCells Try.prog 8 = some 4 := by kernel_rfl
theorem ty_tFlat_8 : tFlat Try.prog 8 = none := by kernel_rfl
theorem ty_isBoolT_8 : isBoolT Try.prog 8 = false := by kernel_rfl
theorem ty_tBuilt_8 : tBuilt Try.prog 8 = some ([(0, 1), (1, 1), (2, 1), (3, 1)], [Value.int IntKind.i64 0, Value.int IntKind.i64 0, Value.bool false, Value.int IntKind.u8 0]) := by kernel_rfl
theorem ty_tFld_8_0 : tFld Try.prog 8 0 = some 0 := by kernel_rfl
theorem ty_tFldV_8_0 : tFldV Try.prog 8 0 = some (0, none) := by kernel_rfl
theorem ty_tFld_8_1 : tFld Try.prog 8 1 = some 1 := by kernel_rfl
theorem ty_tFldV_8_1 : tFldV Try.prog 8 1 = some (1, none) := by kernel_rfl
theorem ty_tFld_8_2 : tFld Try.prog 8 2 = some 2 := by kernel_rfl
theorem ty_tFldV_8_2 : tFldV Try.prog 8 2 = some (2, none) := by kernel_rfl
theorem ty_tFld_8_3 : tFld Try.prog 8 3 = some 3 := by kernel_rfl
theorem ty_tFldV_8_3 : tFldV Try.prog 8 3 = some (3, none) := by kernel_rfl
theorem ty_tShape_9 : tShape Try.prog 9 = some none := by kernel_rfl
theorem ty_tZero_9 : tZero Try.prog 9 = some [Value.string { data := #[] }] := by kernel_rfl
theorem ty_nCells_9 : nCells Try.prog 9 = some 1 := by kernel_rfl
theorem ty_tFlat_9 : tFlat Try.prog 9 = none := by kernel_rfl
theorem ty_isBoolT_9 : isBoolT Try.prog 9 = false := by kernel_rfl
theorem ty_tShape_10 : tShape Try.prog 10 = some none := by kernel_rfl
theorem ty_tZero_10 : tZero Try.prog 10 = some [Value.string { data := #[] }] := by kernel_rfl
theorem ty_nCells_10 : nCells Try.prog 10 = some 1 := by kernel_rfl
theorem ty_tFlat_10 : tFlat Try.prog 10 = none := by kernel_rfl
theorem ty_isBoolT_10 : isBoolT Try.prog 10 = false := by kernel_rfl
theorem ty_tShape_11 : tShape Try.prog 11 = some none := by kernel_rfl
theorem ty_tZero_11 : tZero Try.prog 11 = some [Value.string { data := #[] }] := by kernel_rfl
theorem ty_nCells_11 : nCells Try.prog 11 = some 1 := by kernel_rfl
theorem ty_tFlat_11 : tFlat Try.prog 11 = none := by kernel_rfl
theorem ty_isBoolT_11 : isBoolT Try.prog 11 = false := by kernel_rfl
theorem ty_tShape_12 : tShape Try.prog 12 = some none := by kernel_rfl
theorem ty_tZero_12 : tZero Try.prog 12 = some [Value.int IntKind.u64 0] := by kernel_rfl
theorem ty_tInt_12 : tInt Try.prog 12 = some IntKind.u64 := by kernel_rfl
theorem ty_nCells_12 : nCells Try.prog 12 = some 1 := by kernel_rfl
theorem ty_tFlat_12 : tFlat Try.prog 12 = none := by kernel_rfl
theorem ty_isBoolT_12 : isBoolT Try.prog 12 = false := by kernel_rfl
theorem ty_tShape_13 : tShape Try.prog 13 = some (some 2) := by kernel_rfl
theorem ty_tZero_13 : tZero Try.prog 13 = some [Value.string { data := #[] }, Value.int IntKind.u64 0] := by kernel_rfl
theorem ty_nCells_13 : nCells Try.prog 13 = some 2 := by kernel_rfl
theorem ty_tFlat_13 : tFlat Try.prog 13 = none := by kernel_rfl
theorem ty_isBoolT_13 : isBoolT Try.prog 13 = false := by kernel_rfl
theorem ty_tBuilt_13 : tBuilt Try.prog 13 = some ([(0, 1), (1, 1)], [Value.string { data := #[] }, Value.int IntKind.u64 0]) := by kernel_rfl
theorem ty_tFld_13_0 : tFld Try.prog 13 0 = some 0 := by kernel_rfl
theorem ty_tFldV_13_0 : tFldV Try.prog 13 0 = some (0, none) := by kernel_rfl
theorem ty_tFld_13_1 : tFld Try.prog 13 1 = some 1 := by kernel_rfl
theorem ty_tFldV_13_1 : tFldV Try.prog 13 1 = some (1, none) := by kernel_rfl
theorem ty_tShape_14 : tShape Try.prog 14 = some (some 2) := by kernel_rfl
theorem ty_tZero_14 : tZero Try.prog 14 = some [Value.string { data := #[] }, Value.int IntKind.u64 0] := by kernel_rfl
theorem ty_nCells_14 : nCells Try.prog 14 = some 2 := by kernel_rfl
theorem ty_tFlat_14 : tFlat Try.prog 14 = none := by kernel_rfl
theorem ty_isBoolT_14 : isBoolT Try.prog 14 = false := by kernel_rfl
theorem ty_tBuilt_14 : tBuilt Try.prog 14 = some ([(0, 1), (1, 1)], [Value.string { data := #[] }, Value.int IntKind.u64 0]) := by kernel_rfl
theorem ty_tFld_14_0 : tFld Try.prog 14 0 = some 0 := by kernel_rfl
theorem ty_tFldV_14_0 : tFldV Try.prog 14 0 = some (0, none) := by kernel_rfl
theorem ty_tFld_14_1 : tFld Try.prog 14 1 = some 1 := by kernel_rfl
theorem ty_tFldV_14_1 : tFldV Try.prog 14 1 = some (1, none) := by kernel_rfl
theorem ty_tShape_15 : tShape Try.prog 15 = some none := by kernel_rfl
theorem ty_tZero_15 : tZero Try.prog 15 = some [Value.pointer none] := by kernel_rfl
theorem ty_nCells_15 : nCells Try.prog 15 = some 1 := by kernel_rfl
theorem ty_tFlat_15 : tFlat Try.prog 15 = none := by kernel_rfl
theorem ty_isBoolT_15 : isBoolT Try.prog 15 = false := by kernel_rfl
theorem ty_tShape_16 : tShape Try.prog 16 = some none := by kernel_rfl
theorem ty_tZero_16 : tZero Try.prog 16 = some [Value.pointer none] := by kernel_rfl
theorem ty_nCells_16 : nCells Try.prog 16 = some 1 := by kernel_rfl
theorem ty_tFlat_16 : tFlat Try.prog 16 = none := by kernel_rfl
theorem ty_isBoolT_16 : isBoolT Try.prog 16 = false := by kernel_rfl
theorem ty_tShape_17 : tShape Try.prog 17 = some none := by kernel_rfl
theorem ty_tZero_17 : tZero Try.prog 17 = some [Value.pointer none] := by kernel_rfl
theorem ty_nCells_17 : nCells Try.prog 17 = some 1 := by kernel_rfl
theorem ty_tFlat_17 : tFlat Try.prog 17 = none := by kernel_rfl
theorem ty_isBoolT_17 : isBoolT Try.prog 17 = false := by kernel_rfl
theorem ty_tShape_18 : tShape Try.prog 18 = some (some 1) := by kernel_rfl
theorem ty_tZero_18 : tZero Try.prog 18 = some [Value.pointer none] := by kernel_rfl
theorem ty_nCells_18 : nCells Try.prog 18 = some 1 := by kernel_rfl
theorem ty_tFlat_18 : tFlat Try.prog 18 = none := by kernel_rfl
theorem ty_isBoolT_18 : isBoolT Try.prog 18 = false := by kernel_rfl
theorem ty_tBuilt_18 : tBuilt Try.prog 18 = some ([(0, 1)], [Value.pointer none]) := by kernel_rfl
theorem ty_tFld_18_0 : tFld Try.prog 18 0 = some 0 := by kernel_rfl
theorem ty_tFldV_18_0 : tFldV Try.prog 18 0 = some (0, none) := by kernel_rfl
theorem ty_tShape_19 : tShape Try.prog 19 = some (some 1) := by kernel_rfl
theorem ty_tZero_19 : tZero Try.prog 19 = some [Value.pointer none] := by kernel_rfl
theorem ty_nCells_19 : nCells Try.prog 19 = some 1 := by kernel_rfl
theorem ty_tFlat_19 : tFlat Try.prog 19 = none := by kernel_rfl
theorem ty_isBoolT_19 : isBoolT Try.prog 19 = false := by kernel_rfl
theorem ty_tBuilt_19 : tBuilt Try.prog 19 = some ([(0, 1)], [Value.pointer none]) := by kernel_rfl
theorem ty_tFld_19_0 : tFld Try.prog 19 0 = some 0 := by kernel_rfl
theorem ty_tFldV_19_0 : tFldV Try.prog 19 0 = some (0, none) := by kernel_rfl
theorem ty_tShape_20 : tShape Try.prog 20 = some none := by kernel_rfl
theorem ty_tZero_20 : tZero Try.prog 20 = some [Value.nilIface] := by kernel_rfl
theorem ty_nCells_20 : nCells Try.prog 20 = some 1 := by kernel_rfl
theorem ty_tFlat_20 : tFlat Try.prog 20 = none := by kernel_rfl
theorem ty_isBoolT_20 : isBoolT Try.prog 20 = false := by kernel_rfl
theorem ty_tShape_21 : tShape Try.prog 21 = some none := by kernel_rfl
theorem ty_tZero_21 : tZero Try.prog 21 = some [Value.int IntKind.i32 0] := by kernel_rfl
theorem ty_tInt_21 : tInt Try.prog 21 = some IntKind.i32 := by kernel_rfl
theorem ty_nCells_21 : nCells Try.prog 21 = some 1 := by kernel_rfl
theorem ty_tFlat_21 : tFlat Try.prog 21 = none := by kernel_rfl
theorem ty_isBoolT_21 : isBoolT Try.prog 21 = false := by kernel_rfl
theorem ty_tShape_22 : tShape Try.prog 22 = some none := by kernel_rfl
theorem ty_tZero_22 : tZero Try.prog 22 = some [Value.slice none 0 0] := by kernel_rfl
theorem ty_tElt_22 : tElt Try.prog 22 = some (40, 5, 40) := by kernel_rfl
theorem ty_nCells_22 : nCells Try.prog 22 = some 1 := by kernel_rfl
theorem ty_tFlat_22 : tFlat Try.prog 22 = none := by kernel_rfl
theorem ty_isBoolT_22 : isBoolT Try.prog 22 = false := by kernel_rfl
theorem ty_tShape_23 : tShape Try.prog 23 = some none := by kernel_rfl
theorem ty_tZero_23 : tZero Try.prog 23 = some [Value.slice none 0 0] := by kernel_rfl
theorem ty_tElt_23 : tElt Try.prog 23 = some (57, 1, 24) := by kernel_rfl
theorem ty_nCells_23 : nCells Try.prog 23 = some 1 := by kernel_rfl
theorem ty_tFlat_23 : tFlat Try.prog 23 = none := by kernel_rfl
theorem ty_isBoolT_23 : isBoolT Try.prog 23 = false := by kernel_rfl
theorem ty_tShape_24 : tShape Try.prog 24 = some none := by kernel_rfl
theorem ty_tZero_24 : tZero Try.prog 24 = some [Value.slice none 0 0] := by kernel_rfl
theorem ty_tElt_24 : tElt Try.prog 24 = some (29, 1, 24) := by kernel_rfl
theorem ty_nCells_24 : nCells Try.prog 24 = some 1 := by kernel_rfl
theorem ty_tFlat_24 : tFlat Try.prog 24 = none := by kernel_rfl
theorem ty_isBoolT_24 : isBoolT Try.prog 24 = false := by kernel_rfl
theorem ty_tShape_25 : tShape Try.prog 25 = some (some 5) := by kernel_rfl
theorem ty_tZero_25 : tZero Try.prog 25 = some [Value.int IntKind.i64 0, Value.int IntKind.i64 0, Value.int IntKind.i64 0, Value.slice none 0 0, Value.slice none 0 0] := by kernel_rfl
theorem ty_nCells_25 : nCells Try.prog 25 = some 5 := by kernel_rfl
theorem ty_tFlat_25 : tFlat Try.prog 25 = none := by kernel_rfl
theorem ty_isBoolT_25 : isBoolT Try.prog 25 = false := by kernel_rfl
theorem ty_tBuilt_25 : tBuilt Try.prog 25 = some ([(0, 1), (1, 1), (2, 1), (3, 1), (4, 1)], [Value.int IntKind.i64 0, Value.int IntKind.i64 0, Value.int IntKind.i64 0, Value.slice none 0 0, Value.slice none 0 0]) := by kernel_rfl
theorem ty_tFld_25_0 : tFld Try.prog 25 0 = some 0 := by kernel_rfl
theorem ty_tFldV_25_0 : tFldV Try.prog 25 0 = some (0, none) := by kernel_rfl
theorem ty_tFld_25_1 : tFld Try.prog 25 1 = some 1 := by kernel_rfl
theorem ty_tFldV_25_1 : tFldV Try.prog 25 1 = some (1, none) := by kernel_rfl
theorem ty_tFld_25_2 : tFld Try.prog 25 2 = some 2 := by kernel_rfl
theorem ty_tFldV_25_2 : tFldV Try.prog 25 2 = some (2, none) := by kernel_rfl
theorem ty_tFld_25_3 : tFld Try.prog 25 3 = some 3 := by kernel_rfl
theorem ty_tFldV_25_3 : tFldV Try.prog 25 3 = some (3, none) := by kernel_rfl
theorem ty_tFld_25_4 : tFld Try.prog 25 4 = some 4 := by kernel_rfl
theorem ty_tFldV_25_4 : tFldV Try.prog 25 4 = some (4, none) := by kernel_rfl
theorem ty_tShape_26 : tShape Try.prog 26 = some (some 5) := by kernel_rfl
theorem ty_tZero_26 : tZero Try.prog 26 = some [Value.int IntKind.i64 0, Value.int IntKind.i64 0, Value.int IntKind.i64 0, Value.slice none 0 0, Value.slice none 0 0] := by kernel_rfl
theorem ty_nCells_26 : nCells Try.prog 26 = some 5 := by kernel_rfl
theorem ty_tFlat_26 : tFlat Try.prog 26 = none := by kernel_rfl
theorem ty_isBoolT_26 : isBoolT Try.prog 26 = false := by kernel_rfl
theorem ty_tBuilt_26 : tBuilt Try.prog 26 = some ([(0, 1), (1, 1), (2, 1), (3, 1), (4, 1)], [Value.int IntKind.i64 0, Value.int IntKind.i64 0, Value.int IntKind.i64 0, Value.slice none 0 0, Value.slice none 0 0]) := by kernel_rfl
theorem ty_tFld_26_0 : tFld Try.prog 26 0 = some 0 := by kernel_rfl
theorem ty_tFldV_26_0 : tFldV Try.prog 26 0 = some (0, none) := by kernel_rfl
theorem ty_tFld_26_1 : tFld Try.prog 26 1 = some 1 := by kernel_rfl
theorem ty_tFldV_26_1 : tFldV Try.prog 26 1 = some (1, none) := by kernel_rfl
theorem ty_tFld_26_2 : tFld Try.prog 26 2 = some 2 := by kernel_rfl
theorem ty_tFldV_26_2 : tFldV Try.prog 26 2 = some (2, none) := by kernel_rfl
theorem ty_tFld_26_3 : tFld Try.prog 26 3 = some 3 := by kernel_rfl
theorem ty_tFldV_26_3 : tFldV Try.prog 26 3 = some (3, none) := by kernel_rfl
theorem ty_tFld_26_4 : tFld Try.prog 26 4 = some 4 := by kernel_rfl
theorem ty_tFldV_26_4 : tFldV Try.prog 26 4 = some (4, none) := by kernel_rfl
theorem ty_tShape_27 : tShape Try.prog 27 = some none := by kernel_rfl
theorem ty_tZero_27 : tZero Try.prog 27 = some [Value.nilFunc] := by kernel_rfl
theorem ty_nCells_27 : nCells Try.prog 27 = some 1 := by kernel_rfl
theorem ty_tFlat_27 : tFlat Try.prog 27 = none := by kernel_rfl
theorem ty_isBoolT_27 : isBoolT Try.prog 27 = false := by kernel_rfl
theorem ty_tShape_28 : tShape Try.prog 28 = some none := by kernel_rfl
theorem ty_tZero_28 : tZero Try.prog 28 = some [Value.slice none 0 0] := by kernel_rfl
theorem ty_tElt_28 : tElt Try.prog 28 = some (4, 1, 1) := by kernel_rfl
theorem ty_nCells_28 : nCells Try.prog 28 = some 1 := by kernel_rfl
theorem ty_tFlat_28 : tFlat Try.prog 28 = none := by kernel_rfl
theorem ty_isBoolT_28 : isBoolT Try.prog 28 = false := by kernel_rfl
theorem ty_tShape_29 : tShape Try.prog 29 = some none := by kernel_rfl
theorem ty_tZero_29 : tZero Try.prog 29 = some [Value.slice none 0 0] := by kernel_rfl
theorem ty_tElt_29 : tElt Try.prog 29 = some (3, 1, 8) := by kernel_rfl
theorem ty_nCells_29 : nCells Try.prog 29 = some 1 := by kernel_rfl
theorem ty_tFlat_29 : tFlat Try.prog 29 = none := by kernel_rfl
theorem ty_isBoolT_29 : isBoolT Try.prog 29 = false := by kernel_rfl
theorem ty_tShape_30 : tShape Try.prog 30 = some (some 6) := by kernel_rfl
theorem ty_tZero_30 : tZero Try.prog 30 = some [Value.int IntKind.i64 0, Value.int IntKind.i64 0, Value.int IntKind.i64 0, Value.slice none 0 0, Value.slice none 0 0, Value.slice none 0 0] := by kernel_rfl
theorem ty_nCells_30 : nCells Try.prog 30 = some 6 := by kernel_rfl
theorem ty_tFlat_30 : tFlat Try.prog 30 = none := by kernel_rfl
theorem ty_isBoolT_30 : isBoolT Try.prog 30 = false := by kernel_rfl
theorem ty_tBuilt_30 : tBuilt Try.prog 30 = some ([(0, 1), (1, 1), (2, 1), (3, 1), (4, 1), (5, 1)], [Value.int IntKind.i64 0, Value.int IntKind.i64 0, Value.int IntKind.i64 0, Value.slice none 0 0, Value.slice none 0 0, Value.slice none 0 0]) := by kernel_rfl
theorem ty_tFld_30_0 : tFld Try.prog 30 0 = some 0 := by kernel_rfl
theorem ty_tFldV_30_0 : tFldV Try.prog 30 0 = some (0, none) := by kernel_rfl
theorem ty_tFld_30_1 : tFld Try.prog 30 1 = some 1 := by kernel_rfl
theorem ty_tFldV_30_1 : tFldV Try.prog 30 1 = some (1, none) := by kernel_rfl
theorem ty_tFld_30_2 : tFld Try.prog 30 2 = some 2 := by kernel_rfl
theorem ty_tFldV_30_2 : tFldV Try.prog 30 2 = some (2, none) := by kernel_rfl
theorem ty_tFld_30_3 : tFld Try.prog 30 3 = some 3 := by kernel_rfl
theorem ty_tFldV_30_3 : tFldV Try.prog 30 3 = some (3, none) := by kernel_rfl
theorem ty_tFld_30_4 : tFld Try.prog 30 4 = some 4 := by kernel_rfl
theorem ty_tFldV_30_4 : tFldV Try.prog 30 4 = some (4, none) := by kernel_rfl
theorem ty_tFld_30_5 : tFld Try.prog 30 5 = some 5 := by kernel_rfl
theorem ty_tFldV_30_5 : tFldV Try.prog 30 5 = some (5, none) := by kernel_rfl
theorem ty_tShape_31 : tShape Try.prog 31 = some (some 6) := by kernel_rfl
theorem ty_tZero_31 : tZero Try.prog 31 = some [Value.int IntKind.i64 0, Value.int IntKind.i64 0, Value.int IntKind.i64 0, Value.slice none 0 0, Value.slice none 0 0, Value.slice none 0 0] := by kernel_rfl
theorem ty_nCells_31 : nCells Try.prog 31 = some 6 := by kernel_rfl
theorem ty_tFlat_31 : tFlat Try.prog 31 = none := by kernel_rfl
theorem ty_isBoolT_31 : isBoolT Try.prog 31 = false := by kernel_rfl
theorem ty_tBuilt_31 : tBuilt Try.prog 31 = some ([(0, 1), (1, 1), (2, 1), (3, 1), (4, 1), (5, 1)], [Value.int IntKind.i64 0, Value.int IntKind.i64 0, Value.int IntKind.i64 0, Value.slice none 0 0, Value.slice none 0 0, Value.slice none 0 0]) := by kernel_rfl
theorem ty_tFld_31_0 : tFld Try.prog 31 0 = some 0 := by kernel_rfl
theorem ty_tFldV_31_0 : tFldV Try.prog 31 0 = some (0, none) := by kernel_rfl
theorem ty_tFld_31_1 : tFld Try.prog 31 1 = some 1 := by kernel_rfl
theorem ty_tFldV_31_1 : tFldV Try.prog 31 1 = some (1, none) := by kernel_rfl
theorem ty_tFld_31_2 : tFld Try.prog 31 2 = some 2 := by kernel_rfl
theorem ty_tFldV_31_2 : tFldV Try.prog 31 2 = some (2, none) := by kernel_rfl
theorem ty_tFld_31_3 : tFld Try.prog 31 3 = some 3 := by kernel_rfl
theorem ty_tFldV_31_3 : tFldV Try.prog 31 3 = some (3, none) := by kernel_rfl
theorem ty_tFld_31_4 : tFld Try.prog 31 4 = some 4 := by kernel_rfl
theorem ty_tFldV_31_4 : tFldV Try.prog 31 4 = some (4, none) := by kernel_rfl
theorem ty_tFld_31_5 : tFld Try.prog 31 5 = some 5 := by kernel_rfl
theorem ty_tFldV_31_5 : tFldV Try.prog 31 5 = some (5, none) := by kernel_rfl
theorem ty_tShape_32 : tShape Try.prog 32 = some (some 8) := by kernel_rfl
theorem ty_tZero_32 : tZero Try.prog 32 = some [Value.int IntKind.i64 0, Value.slice none 0 0, Value.int IntKind.i64 0, Value.int IntKind.i64 0, Value.int IntKind.i64 0, Value.slice none 0 0, Value.slice none 0 0, Value.slice none 0 0] := by kernel_rfl
theorem ty_nCells_32 : nCells Try.prog 32 = some 8 := by kernel_rfl
theorem ty_tFlat_32 : tFlat Try.prog 32 = none := by kernel_rfl
theorem ty_isBoolT_32 : isBoolT Try.prog 32 = false := by kernel_rfl
theorem ty_tBuilt_32 : tBuilt Try.prog 32 = some ([(0, 1), (1, 1), (2, 6)], [Value.int IntKind.i64 0, Value.slice none 0 0, Value.int IntKind.i64 0, Value.int IntKind.i64 0, Value.int IntKind.i64 0, Value.slice none 0 0, Value.slice none 0 0, Value.slice none 0 0]) := by kernel_rfl
theorem ty_tFld_32_0 : tFld Try.prog 32 0 = some 0 := by kernel_rfl
theorem ty_tFldV_32_0 : tFldV Try.prog 32 0 = some (0, none) := by kernel_rfl
theorem ty_tFld_32_1 : tFld Try.prog 32 1 = some 1 := by kernel_rfl
theorem ty_tFldV_32_1 : tFldV Try.prog 32 1 = some (1, none) := by kernel_rfl
theorem ty_tFld_32_2 : tFld Try.prog 32 2 = some 2 := by kernel_rfl
theorem ty_tFldV_32_2 : tFldV Try.prog 32 2 = some (2, some 6) := by kernel_rfl
theorem ty_tShape_33 : tShape Try.prog 33 = some (some 8) := by kernel_rfl
theorem ty_tZero_33 : tZero Try.prog 33 = some [Value.int IntKind.i64 0, Value.slice none 0 0, Value.int IntKind.i64 0, Value.int IntKind.i64 0, Value.int IntKind.i64 0, Value.slice none 0 0, Value.slice none 0 0, Value.slice none 0 0] := by kernel_rfl
theorem ty_nCells_33 : nCells Try.prog 33 = some 8 := by kernel_rfl
theorem ty_tFlat_33 : tFlat Try.prog 33 = none := by kernel_rfl
theorem ty_isBoolT_33 : isBoolT Try.prog 33 = false := by kernel_rfl
theorem ty_tBuilt_33 : tBuilt Try.prog 33 = some ([(0, 1), (1, 1), (2, 6)], [Value.int IntKind.i64 0, Value.slice none 0 0, Value.int IntKind.i64 0, Value.int IntKind.i64 0, Value.int IntKind.i64 0, Value.slice none 0 0, Value.slice none 0 0, Value.slice none 0 0]) := by kernel_rfl
theorem ty_tFld_33_0 : tFld Try.prog 33 0 = some 0 := by kernel_rfl
theorem ty_tFldV_33_0 : tFldV Try.prog 33 0 = some (0, none) := by kernel_rfl
theorem ty_tFld_33_1 : tFld Try.prog 33 1 = some 1 := by kernel_rfl
theorem ty_tFldV_33_1 : tFldV Try.prog 33 1 = some (1, none) := by kernel_rfl
theorem ty_tFld_33_2 : tFld Try.prog 33 2 = some 2 := by kernel_rfl
theorem ty_tFldV_33_2 : tFldV Try.prog 33 2 = some (2, some 6) := by kernel_rfl
theorem ty_tShape_34 : tShape Try.prog 34 = some (some 6) := by kernel_rfl
theorem ty_tZero_34 : tZero Try.prog 34 = some [Value.int IntKind.i64 0, Value.int IntKind.i64 0, Value.int IntKind.i64 0, Value.slice none 0 0, Value.slice none 0 0, Value.slice none 0 0] := by kernel_rfl
theorem ty_nCells_34 : nCells Try.prog 34 = some 6 := by kernel_rfl
theorem ty_tFlat_34 : tFlat Try.prog 34 = none := by kernel_rfl
theorem ty_isBoolT_34 : isBoolT Try.prog 34 = false := by kernel_rfl
theorem ty_tBuilt_34 : tBuilt Try.prog 34 = some ([(0, 1), (1, 1), (2, 1), (3, 1), (4, 1), (5, 1)], [Value.int IntKind.i64 0, Value.int IntKind.i64 0, Value.int IntKind.i64 0, Value.slice none 0 0, Value.slice none 0 0, Value.slice none 0 0]) := by kernel_rfl
theorem ty_tFld_34_0 : tFld Try.prog 34 0 = some 0 := by kernel_rfl
theorem ty_tFldV_34_0 : tFldV Try.prog 34 0 = some (0, none) := by kernel_rfl
theorem ty_tFld_34_1 : tFld Try.prog 34 1 = some 1 := by kernel_rfl
theorem ty_tFldV_34_1 : tFldV Try.prog 34 1 = some (1, none) := by kernel_rfl
theorem ty_tFld_34_2 : tFld Try.prog 34 2 = some 2 := by kernel_rfl
theorem ty_tFldV_34_2 : tFldV Try.prog 34 2 = some (2, none) := by kernel_rfl
theorem ty_tFld_34_3 : tFld Try.prog 34 3 = some 3 := by kernel_rfl
theorem ty_tFldV_34_3 : tFldV Try.prog 34 3 = some (3, none) := by kernel_rfl
theorem ty_tFld_34_4 : tFld Try.prog 34 4 = some 4 := by kernel_rfl
theorem ty_tFldV_34_4 : tFldV Try.prog 34 4 = some (4, none) := by kernel_rfl
theorem ty_tFld_34_5 : tFld Try.prog 34 5 = some 5 := by kernel_rfl
theorem ty_tFldV_34_5 : tFldV Try.prog 34 5 = some (5, none) := by kernel_rfl
theorem ty_tShape_35 : tShape Try.prog 35 = some (some 8) := by kernel_rfl
theorem ty_tZero_35 : tZero Try.prog 35 = some [Value.int IntKind.i64 0, Value.slice none 0 0, Value.int IntKind.i64 0, Value.int IntKind.i64 0, Value.int IntKind.i64 0, Value.slice none 0 0, Value.slice none 0 0, Value.slice none 0 0] := by kernel_rfl
theorem ty_nCells_35 : nCells Try.prog 35 = some 8 := by kernel_rfl
theorem ty_tFlat_35 : tFlat Try.prog 35 = none := by kernel_rfl
theorem ty_isBoolT_35 : isBoolT Try.prog 35 = false := by kernel_rfl
theorem ty_tBuilt_35 : tBuilt Try.prog 35 = some ([(0, 1), (1, 1), (2, 6)], [Value.int IntKind.i64 0, Value.slice none 0 0, Value.int IntKind.i64 0, Value.int IntKind.i64 0, Value.int IntKind.i64 0, Value.slice none 0 0, Value.slice none 0 0, Value.slice none 0 0]) := by kernel_rfl
theorem ty_tFld_35_0 : tFld Try.prog 35 0 = some 0 := by kernel_rfl
theorem ty_tFldV_35_0 : tFldV Try.prog 35 0 = some (0, none) := by kernel_rfl
theorem ty_tFld_35_1 : tFld Try.prog 35 1 = some 1 := by kernel_rfl
theorem ty_tFldV_35_1 : tFldV Try.prog 35 1 = some (1, none) := by kernel_rfl
theorem ty_tFld_35_2 : tFld Try.prog 35 2 = some 2 := by kernel_rfl
theorem ty_tFldV_35_2 : tFldV Try.prog 35 2 = some (2, some 6) := by kernel_rfl
theorem ty_tShape_36 : tShape Try.prog 36 = some (some 8) := by kernel_rfl
theorem ty_tZero_36 : tZero Try.prog 36 = some [Value.int IntKind.i64 0, Value.slice none 0 0, Value.int IntKind.i64 0, Value.int IntKind.i64 0, Value.int IntKind.i64 0, Value.slice none 0 0, Value.slice none 0 0, Value.slice none 0 0] := by kernel_rfl
theorem ty_nCells_36 : nCells Try.prog 36 = some 8 := by kernel_rfl
theorem ty_tFlat_36 : tFlat Try.prog 36 = none := by kernel_rfl
theorem ty_isBoolT_36 : isBoolT Try.prog 36 = false := by kernel_rfl
theorem ty_tBuilt_36 : tBuilt Try.prog 36 = some ([(0, 1), (1, 1), (2, 6)], [Value.int IntKind.i64 0, Value.slice none 0 0, Value.int IntKind.i64 0, Value.int IntKind.i64 0, Value.int IntKind.i64 0, Value.slice none 0 0, Value.slice none 0 0, Value.slice none 0 0]) := by kernel_rfl
theorem ty_tFld_36_0 : tFld Try.prog 36 0 = some 0 := by kernel_rfl
theorem ty_tFldV_36_0 : tFldV Try.prog 36 0 = some (0, none) := by kernel_rfl
theorem ty_tFld_36_1 : tFld Try.prog 36 1 = some 1 := by kernel_rfl
theorem ty_tFldV_36_1 : tFldV Try.prog 36 1 = some (1, none) := by kernel_rfl
theorem ty_tFld_36_2 : tFld Try.prog 36 2 = some 2 := by kernel_rfl
theorem ty_tFldV_36_2 : tFldV Try.prog 36 2 = some (2, some 6) := by kernel_rfl
theorem ty_tShape_37 : tShape Try.prog 37 = some (some 2) := by kernel_rfl
theorem ty_tZero_37 : tZero Try.prog 37 = some [Value.int IntKind.i64 0, Value.int IntKind.i64 0] := by kernel_rfl
theorem ty_nCells_37 : nCells Try.prog 37 = some 2 := by kernel_rfl
theorem ty_tFlat_37 : tFlat Try.prog 37 = some 2 := by kernel_rfl
theorem ty_isBoolT_37 : isBoolT Try.prog 37 = false := by kernel_rfl
theorem ty_tBuilt_37 : tBuilt Try.prog 37 = some ([(0, 1), (1, 1)], [Value.int IntKind.i64 0, Value.int IntKind.i64 0]) := by kernel_rfl
theorem ty_tFld_37_0 : tFld Try.prog 37 0 = some 0 := by kernel_rfl
theorem ty_tFldV_37_0 : tFldV Try.prog 37 0 = some (0, none) := by kernel_rfl
theorem ty_tFld_37_1 : tFld Try.prog 37 1 = some 1 := by kernel_rfl
theorem ty_tFldV_37_1 : tFldV Try.prog 37 1 = some (1, none) := by kernel_rfl
theorem ty_tShape_38 : tShape Try.prog 38 = some (some 2) := by kernel_rfl
theorem ty_tZero_38 : tZero Try.prog 38 = some [Value.int IntKind.i64 0, Value.int IntKind.i64 0] := by kernel_rfl
theorem ty_nCells_38 : nCells Try.prog 38 = some 2 := by kernel_rfl
theorem ty_tFlat_38 : tFlat Try.prog 38 = some 2 := by kernel_rfl
theorem ty_isBoolT_38 : isBoolT Try.prog 38 = false := by kernel_rfl
theorem ty_tBuilt_38 : tBuilt Try.prog 38 = some ([(0, 1), (1, 1)], [Value.int IntKind.i64 0, Value.int IntKind.i64 0]) := by kernel_rfl
theorem ty_tFld_38_0 : tFld Try.prog 38 0 = some 0 := by kernel_rfl
theorem ty_tFldV_38_0 : tFldV Try.prog 38 0 = some (0, none) := by kernel_rfl
theorem ty_tFld_38_1 : tFld Try.prog 38 1 = some 1 := by kernel_rfl
theorem ty_tFldV_38_1 : tFldV Try.prog 38 1 = some (1, none) := by kernel_rfl
theorem ty_tShape_39 : tShape Try.prog 39 = some (some 5) := by kernel_rfl
theorem ty_tZero_39 : tZero Try.prog 39 = some [Value.bool false, Value.int IntKind.i64 0, Value.int IntKind.i64 0, Value.int IntKind.i64 0, Value.int IntKind.i64 0] := by kernel_rfl
theorem ty_nCells_39 : nCells Try.prog 39 = some 5 := by kernel_rfl
theorem ty_tFlat_39 : tFlat Try.prog 39 = none := by kernel_rfl
theorem ty_isBoolT_39 : isBoolT Try.prog 39 = false := by kernel_rfl
theorem ty_tBuilt_39 : tBuilt Try.prog 39 = some ([(0, 1), (1, 1), (2, 1), (3, 2)], [Value.bool false, Value.int IntKind.i64 0, Value.int IntKind.i64 0, Value.int IntKind.i64 0, Value.int IntKind.i64 0]) := by kernel_rfl
theorem ty_tFld_39_0 : tFld Try.prog 39 0 = some 0 := by kernel_rfl
theorem ty_tFldV_39_0 : tFldV Try.prog 39 0 = some (0, none) := by kernel_rfl
theorem ty_tFld_39_1 : tFld Try.prog 39 1 = some 1 := by kernel_rfl
theorem ty_tFldV_39_1 : tFldV Try.prog 39 1 = some (1, none) := by kernel_rfl
theorem ty_tFld_39_2 : tFld Try.prog 39 2 = some 2 := by kernel_rfl
theorem ty_tFldV_39_2 : tFldV Try.prog 39 2 = some (2, none) := by kernel_rfl
theorem ty_tFld_39_3 : tFld Try.prog 39 3 = some 3 := by kernel_rfl
theorem ty_tFldV_39_3 : tFldV Try.prog 39 3 = some (3, some 2) := by kernel_rfl
theorem ty_tShape_40 : tShape Try.prog 40 = some (some 5) := by kernel_rfl
theorem ty_tZero_40 : tZero Try.prog 40 = some [Value.bool false, Value.int IntKind.i64 0, Value.int IntKind.i64 0, Value.int IntKind.i64 0, Value.int IntKind.i64 0] := by kernel_rfl
theorem ty_nCells_40 : nCells Try.prog 40 = some 5 := by kernel_rfl
theorem ty_tFlat_40 : tFlat Try.prog 40 = none := by kernel_rfl
theorem ty_isBoolT_40 : isBoolT Try.prog 40 = false := by kernel_rfl
theorem ty_tBuilt_40 : tBuilt Try.prog 40 = some ([(0, 1), (1, 1), (2, 1), (3, 2)], [Value.bool false, Value.int IntKind.i64 0, Value.int IntKind.i64 0, Value.int IntKind.i64 0, Value.int IntKind.i64 0]) := by kernel_rfl
theorem ty_tFld_40_0 : tFld Try.prog 40 0 = some 0 := by kernel_rfl
theorem ty_tFldV_40_0 : tFldV Try.prog 40 0 = some (0, none) := by kernel_rfl
theorem ty_tFld_40_1 : tFld Try.prog 40 1 = some 1 := by kernel_rfl
theorem ty_tFldV_40_1 : tFldV Try.prog 40 1 = some (1, none) := by kernel_rfl
theorem ty_tFld_40_2 : tFld Try.prog 40 2 = some 2 := by kernel_rfl
theorem ty_tFldV_40_2 : tFldV Try.prog 40 2 = some (2, none) := by kernel_rfl
theorem ty_tFld_40_3 : tFld Try.prog 40 3 = some 3 := by kernel_rfl
theorem ty_tFldV_40_3 : tFldV Try.prog 40 3 = some (3, some 2) := by kernel_rfl
theorem ty_tShape_41 : tShape Try.prog 41 = some none := by kernel_rfl
theorem ty_tZero_41 : tZero Try.prog 41 = some [Value.tuple { toList := [Value.agg { toList := [Value.int IntKind.i64 0, Value.slice none 0 0, Value.int IntKind.i64 0, Value.int IntKind.i64 0, Value.int IntKind.i64 0, Value.slice none 0 0, Value.slice none 0 0, Value.slice none 0 0] }, Value.bool false] }] := by kernel_rfl
theorem ty_nCells_41 : nCells Try.prog 41 = some 1 := by kernel_rfl
theorem ty_tFlat_41 : tFlat Try.prog 41 = none := by kernel_rfl
theorem ty_isBoolT_41 : isBoolT Try.prog 41 = false := by kernel_rfl
theorem ty_tShape_42 : tShape Try.prog 42 = some none := by kernel_rfl
theorem ty_tZero_42 : tZero Try.prog 42 = some [Value.nilFunc] := by kernel_rfl
theorem ty_nCells_42 : nCells Try.prog 42 = some 1 := by kernel_rfl
theorem ty_tFlat_42 : tFlat Try.prog 42 = none := by kernel_rfl
theorem ty_isBoolT_42 : isBoolT Try.prog 42 = false := by kernel_rfl
theorem ty_tShape_43 : tShape Try.prog 43 = some none := by kernel_rfl
theorem ty_tZero_43 : tZero Try.prog 43 = some [Value.tuple { toList := [Value.agg { toList := [Value.int IntKind.i64 0, Value.slice none 0 0, Value.int IntKind.i64 0, Value.int IntKind.i64 0, Value.int IntKind.i64 0, Value.slice none 0 0, Value.slice none 0 0, Value.slice none 0 0] }, Value.bool false] }] := by kernel_rfl
theorem ty_nCells_43 : nCells Try.prog 43 = some 1 := by kernel_rfl
theorem ty_tFlat_43 : tFlat Try.prog 43 = none := by kernel_rfl
theorem ty_isBoolT_43 : isBoolT Try.prog 43 = false := by kernel_rfl
theorem ty_tShape_44 : tShape Try.prog 44 = some none := by kernel_rfl
theorem ty_tZero_44 : tZero Try.prog 44 = some [Value.nilFunc] := by kernel_rfl
theorem ty_nCells_44 : nCells Try.prog 44 = some 1 := by kernel_rfl
theorem ty_tFlat_44 : tFlat Try.prog 44 = none := by kernel_rfl
theorem ty_isBoolT_44 : isBoolT Try.prog 44 = false := by kernel_rfl
theorem ty_tShape_45 : tShape Try.prog 45 = some (some 5) := by kernel_rfl
theorem ty_tZero_45 : tZero Try.prog 45 = some [Value.int IntKind.i64 0, Value.int IntKind.i64 0, Value.int IntKind.i64 0, Value.slice none 0 0, Value.slice none 0 0] := by kernel_rfl
theorem ty_nCells_45 : nCells Try.prog 45 = some 5 := by kernel_rfl
theorem ty_tFlat_45 : tFlat Try.prog 45 = none := by kernel_rfl
theorem ty_isBoolT_45 : isBoolT Try.prog 45 = false := by kernel_rfl
theorem ty_tBuilt_45 : tBuilt Try.prog 45 = some ([(0, 1), (1, 1), (2, 1), (3, 1), (4, 1)], [Value.int IntKind.i64 0, Value.int IntKind.i64 0, Value.int IntKind.i64 0, Value.slice none 0 0, Value.slice none 0 0]) := by kernel_rfl
theorem ty_tFld_45_0 : tFld Try.prog 45 0 = some 0 := by kernel_rfl
theorem ty_tFldV_45_0 : tFldV Try.prog 45 0 = some (0, none) := by kernel_rfl
theorem ty_tFld_45_1 : tFld Try.prog 45 1 = some 1 := by kernel_rfl
theorem ty_tFldV_45_1 : tFldV Try.prog 45 1 = some (1, none) := by kernel_rfl
theorem ty_tFld_45_2 : tFld Try.prog 45 2 = some 2 := by kernel_rfl
theorem ty_tFldV_45_2 : tFldV Try.prog 45 2 = some (2, none) := by kernel_rfl
theorem ty_tFld_45_3 : tFld Try.prog 45 3 = some 3 := by kernel_rfl
theorem ty_tFldV_45_3 : tFldV Try.prog 45 3 = some (3, none) := by kernel_rfl
theorem ty_tFld_45_4 : tFld Try.prog 45 4 = some 4 := by kernel_rfl
theorem ty_tFldV_45_4 : tFldV Try.prog 45 4 = some (4, none) := by kernel_rfl
theorem ty_tShape_46 : tShape Try.prog 46 = some none := by kernel_rfl
theorem ty_tZero_46 : tZero Try.prog 46 = some [Value.nilFunc] := by kernel_rfl
theorem ty_nCells_46 : nCells Try.prog 46 = some 1 := by kernel_rfl
theorem ty_tFlat_46 : tFlat Try.prog 46 = none := by kernel_rfl
theorem ty_isBoolT_46 : isBoolT Try.prog 46 = false := by kernel_rfl
theorem ty_tShape_47 : tShape Try.prog 47 = some none := by kernel_rfl
theorem ty_tZero_47 : tZero Try.prog 47 = some [Value.nilFunc] := by kernel_rfl
theorem ty_nCells_47 : nCells Try.prog 47 = some 1 := by kernel_rfl
theorem ty_tFlat_47 : tFlat Try.prog 47 = none := by kernel_rfl
theorem ty_isBoolT_47 : isBoolT Try.prog 47 = false := by kernel_rfl
theorem ty_tShape_48 : tShape Try.prog 48 = some none := by kernel_rfl
theorem ty_tZero_48 : tZero Try.prog 48 = some [Value.nilFunc] := by kernel_rfl
theorem ty_nCells_48 : nCells Try.prog 48 = some 1 := by kernel_rfl
theorem ty_tFlat_48 : tFlat Try.prog 48 = none := by kernel_rfl
theorem ty_isBoolT_48 : isBoolT Try.prog 48 = false := by kernel_rfl
theorem ty_tShape_49 : tShape Try.prog 49 = some none := by kernel_rfl
theorem ty_tZero_49 : tZero Try.prog 49 = some [Value.nilFunc] := by kernel_rfl
theorem ty_nCells_49 : nCells Try.prog 49 = some 1 := by kernel_rfl
theorem ty_tFlat_49 : tFlat Try.prog 49 = none := by kernel_rfl
theorem ty_isBoolT_49 : isBoolT Try.prog 49 = false := by kernel_rfl
theorem ty_tShape_50 : tShape Try.prog 50 = some none := by kernel_rfl
theorem ty_tZero_50 : tZero Try.prog 50 = some [Value.nilFunc] := by kernel_rfl
theorem ty_nCells_50 : nCells Try.prog 50 = some 1 := by kernel_rfl
theorem ty_tFlat_50 : tFlat Try.prog 50 = none := by kernel_rfl
theorem ty_isBoolT_50 : isBoolT Try.prog 50 = false := by kernel_rfl
theorem ty_tShape_51 : tShape Try.prog 51 = some none := by kernel_rfl
theorem ty_tZero_51 : tZero Try.prog 51 = some [Value.nilFunc] := by kernel_rfl
theorem ty_nCells_51 : nCells Try.prog 51 = some 1 := by kernel_rfl
theorem ty_tFlat_51 : tFlat Try.prog 51 = none := by kernel_rfl
theorem ty_isBoolT_51 : isBoolT Try.prog 51 = false := by kernel_rfl
theorem ty_tShape_52 : tShape Try.prog 52 = some none := by kernel_rfl
theorem ty_tZero_52 : tZero Try.prog 52 = some [Value.nilFunc] := by kernel_rfl
theorem ty_nCells_52 : nCells Try.prog 52 = some 1 := by kernel_rfl
theorem ty_tFlat_52 : tFlat Try.prog 52 = none := by kernel_rfl
theorem ty_isBoolT_52 : isBoolT Try.prog 52 = false := by kernel_rfl
theorem ty_tShape_53 : tShape Try.prog 53 = some none := by kernel_rfl
theorem ty_tZero_53 : tZero Try.prog 53 = some [Value.nilFunc] := by kernel_rfl
theorem ty_nCells_53 : nCells Try.prog 53 = some 1 := by kernel_rfl
theorem ty_tFlat_53 : tFlat Try.prog 53 = none := by kernel_rfl
theorem ty_isBoolT_53 : isBoolT Try.prog 53 = false := by kernel_rfl
theorem ty_tShape_54 : tShape Try.prog 54 = some none := by kernel_rfl
theorem ty_tZero_54 : tZero Try.prog 54 = some [Value.nilFunc] := by kernel_rfl
theorem ty_nCells_54 : nCells Try.prog 54 = some 1 := by kernel_rfl
theorem ty_tFlat_54 : tFlat Try.prog 54 = none := by kernel_rfl
theorem ty_isBoolT_54 : isBoolT Try.prog 54 = false := by kernel_rfl
theorem ty_tShape_55 : tShape Try.prog 55 = some none := by kernel_rfl
theorem ty_tZero_55 : tZero Try.prog 55 = some [Value.nilFunc] := by kernel_rfl
theorem ty_nCells_55 : nCells Try.prog 55 = some 1 := by kernel_rfl
theorem ty_tFlat_55 : tFlat Try.prog 55 = none := by kernel_rfl
theorem ty_isBoolT_55 : isBoolT Try.prog 55 = false := by kernel_rfl
theorem ty_tShape_56 : tShape Try.prog 56 = some none := by kernel_rfl
theorem ty_tZero_56 : tZero Try.prog 56 = some [Value.nilFunc] := by kernel_rfl
theorem ty_nCells_56 : nCells Try.prog 56 = some 1 := by kernel_rfl
theorem ty_tFlat_56 : tFlat Try.prog 56 = none := by kernel_rfl
theorem ty_isBoolT_56 : isBoolT Try.prog 56 = false := by kernel_rfl
theorem ty_tShape_57 : tShape Try.prog 57 = some none := by kernel_rfl
theorem ty_tZero_57 : tZero Try.prog 57 = some [Value.slice none 0 0] := by kernel_rfl
theorem ty_tElt_57 : tElt Try.prog 57 = some (38, 2, 16) := by kernel_rfl
theorem ty_nCells_57 : nCells Try.prog 57 = some 1 := by kernel_rfl
theorem ty_tFlat_57 : tFlat Try.prog 57 = none := by kernel_rfl
theorem ty_isBoolT_57 : isBoolT Try.prog 57 = false := by kernel_rfl
theorem ty_tShape_58 : tShape Try.prog 58 = some none := by kernel_rfl
theorem ty_tZero_58 : tZero Try.prog 58 = some [Value.nilFunc] := by kernel_rfl
theorem ty_nCells_58 : nCells Try.prog 58 = some 1 := by kernel_rfl
theorem ty_tFlat_58 : tFlat Try.prog 58 = none := by kernel_rfl
theorem ty_isBoolT_58 : isBoolT Try.prog 58 = false := by kernel_rfl
theorem ty_tShape_59 : tShape Try.prog 59 = some none := by kernel_rfl
theorem ty_tZero_59 : tZero Try.prog 59 = some [Value.nilFunc] := by kernel_rfl
theorem ty_nCells_59 : nCells Try.prog 59 = some 1 := by kernel_rfl
theorem ty_tFlat_59 : tFlat Try.prog 59 = none := by kernel_rfl
theorem ty_isBoolT_59 : isBoolT Try.prog 59 = false := by kernel_rfl
theorem ty_tShape_60 : tShape Try.prog 60 = some none := by kernel_rfl
theorem ty_tZero_60 : tZero Try.prog 60 = some [Value.slice none 0 0] := by kernel_rfl
theorem ty_tElt_60 : tElt Try.prog 60 = some (5, 1, 1) := by kernel_rfl
theorem ty_nCells_60 : nCells Try.prog 60 = some 1 := by kernel_rfl
theorem ty_tFlat_60 : tFlat Try.prog 60 = none := by kernel_rfl
theorem ty_isBoolT_60 : isBoolT Try.prog 60 = false := by kernel_rfl
theorem ty_tShape_61 : tShape Try.prog 61 = some none := by kernel_rfl
theorem ty_tZero_61 : tZero Try.prog 61 = some [Value.nilFunc] := by kernel_rfl
theorem ty_nCells_61 : nCells Try.prog 61 = some 1 := by kernel_rfl
theorem ty_tFlat_61 : tFlat Try.prog 61 = none := by kernel_rfl
theorem ty_isBoolT_61 : isBoolT Try.prog 61 = false := by kernel_rfl
theorem ty_tShape_62 : tShape Try.prog 62 = some none := by kernel_rfl
theorem ty_tZero_62 : tZero Try.prog 62 = some [Value.nilFunc] := by kernel_rfl
theorem ty_nCells_62 : nCells Try.prog 62 = some 1 := by kernel_rfl
theorem ty_tFlat_62 : tFlat Try.prog 62 = none := by kernel_rfl
theorem ty_isBoolT_62 : isBoolT Try.prog 62 = false := by kernel_rfl
theorem ty_tShape_63 : tShape Try.prog 63 = some none := by kernel_rfl
theorem ty_tZero_63 : tZero Try.prog 63 = some [Value.nilFunc] := by kernel_rfl
theorem ty_nCells_63 : nCells Try.prog 63 = some 1 := by kernel_rfl
theorem ty_tFlat_63 : tFlat Try.prog 63 = none := by kernel_rfl
theorem ty_isBoolT_63 : isBoolT Try.prog 63 = false := by kernel_rfl
theorem ty_tShape_64 : tShape Try.prog 64 = some none := by kernel_rfl
theorem ty_tZero_64 : tZero Try.prog 64 = some [Value.nilFunc] := by kernel_rfl
theorem ty_nCells_64 : nCells Try.prog 64 = some 1 := by kernel_rfl
theorem ty_tFlat_64 : tFlat Try.prog 64 = none := by kernel_rfl
theorem ty_isBoolT_64 : isBoolT Try.prog 64 = false := by kernel_rfl
theorem ty_tShape_65 : tShape Try.prog 65 = some none := by kernel_rfl
theorem ty_tZero_65 : tZero Try.prog 65 = some [Value.nilFunc] := by kernel_rfl
theorem ty_nCells_65 : nCells Try.prog 65 = some 1 := by kernel_rfl
theorem ty_tFlat_65 : tFlat Try.prog 65 = none := by kernel_rfl
theorem ty_isBoolT_65 : isBoolT Try.prog 65 = false := by kernel_rfl
theorem ty_tShape_66 : tShape Try.prog 66 = some none := by kernel_rfl
theorem ty_tZero_66 : tZero Try.prog 66 = some [Value.nilFunc] := by kernel_rfl
theorem ty_nCells_66 : nCells Try.prog 66 = some 1 := by kernel_rfl
theorem ty_tFlat_66 : tFlat Try.prog 66 = none := by kernel_rfl
theorem ty_isBoolT_66 : isBoolT Try.prog 66 = false := by kernel_rfl
theorem ty_tShape_67 : tShape Try.prog 67 = some none := by kernel_rfl
theorem ty_tZero_67 : tZero Try.prog 67 = some [Value.nilFunc] := by kernel_rfl
theorem ty_nCells_67 : nCells Try.prog 67 = some 1 := by kernel_rfl
theorem ty_tFlat_67 : tFlat Try.prog 67 = none := by kernel_rfl
theorem ty_isBoolT_67 : isBoolT Try.prog 67 = false := by kernel_rfl
theorem ty_tShape_68 : tShape Try.prog 68 = some none := by kernel_rfl
theorem ty_tZero_68 : tZero Try.prog 68 = some [Value.nilFunc] := by kernel_rfl
theorem ty_nCells_68 : nCells Try.prog 68 = some 1 := by kernel_rfl
theorem ty_tFlat_68 : tFlat Try.prog 68 = none := by kernel_rfl
theorem ty_isBoolT_68 : isBoolT Try.prog 68 = false := by kernel_rfl
theorem ty_tShape_69 : tShape Try.prog 69 = some none := by kernel_rfl
theorem ty_tZero_69 : tZero Try.prog 69 = some [Value.nilFunc] := by kernel_rfl
theorem ty_nCells_69 : nCells Try.prog 69 = some 1 := by kernel_rfl
theorem ty_tFlat_69 : tFlat Try.prog 69 = none := by kernel_rfl
theorem ty_isBoolT_69 : isBoolT Try.prog 69 = false := by kernel_rfl
theorem ty_tShape_70 : tShape Try.prog 70 = some none := by kernel_rfl
theorem ty_tZero_70 : tZero Try.prog 70 = some [Value.nilFunc] := by kernel_rfl
theorem ty_nCells_70 : nCells Try.prog 70 = some 1 := by kernel_rfl
theorem ty_tFlat_70 : tFlat Try.prog 70 = none := by kernel_rfl
theorem ty_isBoolT_70 : isBoolT Try.prog 70 = false := by kernel_rfl
theorem ty_tShape_71 : tShape Try.prog 71 = some none := by kernel_rfl
theorem ty_tZero_71 : tZero Try.prog 71 = some [Value.nilFunc] := by kernel_rfl
theorem ty_nCells_71 : nCells Try.prog 71 = some 1 := by kernel_rfl
theorem ty_tFlat_71 : tFlat Try.prog 71 = none := by kernel_rfl
theorem ty_isBoolT_71 : isBoolT Try.prog 71 = false := by kernel_rfl
theorem ty_tShape_72 : tShape Try.prog 72 = some none := by kernel_rfl
theorem ty_tZero_72 : tZero Try.prog 72 = some [Value.nilFunc] := by kernel_rfl
theorem ty_nCells_72 : nCells Try.prog 72 = some 1 := by kernel_rfl
theorem ty_tFlat_72 : tFlat Try.prog 72 = none := by kernel_rfl
theorem ty_isBoolT_72 : isBoolT Try.prog 72 = false := by kernel_rfl
theorem ty_tShape_73 : tShape Try.prog 73 = some none := by kernel_rfl
theorem ty_tZero_73 : tZero Try.prog 73 = some [Value.nilFunc] := by kernel_rfl
theorem ty_nCells_73 : nCells Try.prog 73 = some 1 := by kernel_rfl
theorem ty_tFlat_73 : tFlat Try.prog 73 = none := by kernel_rfl
theorem ty_isBoolT_73 : isBoolT Try.prog 73 = false := by kernel_rfl
theorem ty_tShape_74 : tShape Try.prog 74 = some none := by kernel_rfl
theorem ty_tZero_74 : tZero Try.prog 74 = some [Value.nilFunc] := by kernel_rfl
theorem ty_nCells_74 : nCells Try.prog 74 = some 1 := by kernel_rfl
theorem ty_tFlat_74 : tFlat Try.prog 74 = none := by kernel_rfl
theorem ty_isBoolT_74 : isBoolT Try.prog 74 = false := by kernel_rfl
theorem ty_tShape_75 : tShape Try.prog 75 = some none := by kernel_rfl
theorem ty_tZero_75 : tZero Try.prog 75 = some [Value.int IntKind.u64 0] := by kernel_rfl
theorem ty_tInt_75 : tInt Try.prog 75 = some IntKind.u64 := by kernel_rfl
theorem ty_nCells_75 : nCells Try.prog 75 = some 1 := by kernel_rfl
theorem ty_tFlat_75 : tFlat Try.prog 75 = none := by kernel_rfl
theorem ty_isBoolT_75 : isBoolT Try.prog 75 = false := by kernel_rfl
theorem ty_tShape_76 : tShape Try.prog 76 = some none := by kernel_rfl
theorem ty_tZero_76 : tZero Try.prog 76 = some [Value.tuple { toList := [Value.int IntKind.u64 0, Value.int IntKind.u64 0] }] := by kernel_rfl
theorem ty_nCells_76 : nCells Try.prog 76 = some 1 := by kernel_rfl
theorem ty_tFlat_76 : tFlat Try.prog 76 = none := by kernel_rfl
theorem ty_isBoolT_76 : isBoolT Try.prog 76 = false := by kernel_rfl
theorem ty_tShape_77 : tShape Try.prog 77 = some none := by kernel_rfl
theorem ty_tZero_77 : tZero Try.prog 77 = some [Value.nilFunc] := by kernel_rfl
theorem ty_nCells_77 : nCells Try.prog 77 = some 1 := by kernel_rfl
theorem ty_tFlat_77 : tFlat Try.prog 77 = none := by kernel_rfl
theorem ty_isBoolT_77 : isBoolT Try.prog 77 = false := by kernel_rfl
theorem ty_tShape_78 : tShape Try.prog 78 = some none := by kernel_rfl
theorem ty_tZero_78 : tZero Try.prog 78 = some [Value.nilFunc] := by kernel_rfl
theorem ty_nCells_78 : nCells Try.prog 78 = some 1 := by kernel_rfl
theorem ty_tFlat_78 : tFlat Try.prog 78 = none := by kernel_rfl
theorem ty_isBoolT_78 : isBoolT Try.prog 78 = false := by kernel_rfl
theorem ty_tShape_79 : tShape Try.prog 79 = some none := by kernel_rfl
theorem ty_tZero_79 : tZero Try.prog 79 = some [Value.nilFunc] := by kernel_rfl
theorem ty_nCells_79 : nCells Try.prog 79 = some 1 := by kernel_rfl
theorem ty_tFlat_79 : tFlat Try.prog 79 = none := by kernel_rfl
theorem ty_isBoolT_79 : isBoolT Try.prog 79 = false := by kernel_rfl
theorem ty_tShape_80 : tShape Try.prog 80 = some none := by kernel_rfl
theorem ty_tZero_80 : tZero Try.prog 80 = some [Value.nilFunc] := by kernel_rfl
theorem ty_nCells_80 : nCells Try.prog 80 = some 1 := by kernel_rfl
theorem ty_tFlat_80 : tFlat Try.prog 80 = none := by kernel_rfl
theorem ty_isBoolT_80 : isBoolT Try.prog 80 = false := by kernel_rfl
theorem ty_tShape_81 : tShape Try.prog 81 = some none := by kernel_rfl
theorem ty_tZero_81 : tZero Try.prog 81 = some [Value.nilFunc] := by kernel_rfl
theorem ty_nCells_81 : nCells Try.prog 81 = some 1 := by kernel_rfl
theorem ty_tFlat_81 : tFlat Try.prog 81 = none := by kernel_rfl
theorem ty_isBoolT_81 : isBoolT Try.prog 81 = false := by kernel_rfl
theorem ty_tShape_82 : tShape Try.prog 82 = some none := by kernel_rfl
theorem ty_tZero_82 : tZero Try.prog 82 = some [Value.nilFunc] := by kernel_rfl
theorem ty_nCells_82 : nCells Try.prog 82 = some 1 := by kernel_rfl
theorem ty_tFlat_82 : tFlat Try.prog 82 = none := by kernel_rfl
theorem ty_isBoolT_82 : isBoolT Try.prog 82 = false := by kernel_rfl
theorem ty_tShape_83 : tShape Try.prog 83 = some none := by kernel_rfl
theorem ty_tZero_83 : tZero Try.prog 83 = some [Value.int IntKind.u32 0] := by kernel_rfl
theorem ty_tInt_83 : tInt Try.prog 83 = some IntKind.u32 := by kernel_rfl
theorem ty_nCells_83 : nCells Try.prog 83 = some 1 := by kernel_rfl
theorem ty_tFlat_83 : tFlat Try.prog 83 = none := by kernel_rfl
theorem ty_isBoolT_83 : isBoolT Try.prog 83 = false := by kernel_rfl
theorem ty_tShape_84 : tShape Try.prog 84 = some none := by kernel_rfl
theorem ty_tZero_84 : tZero Try.prog 84 = some [Value.tuple { toList := [Value.int IntKind.u32 0, Value.int IntKind.u32 0] }] := by kernel_rfl
theorem ty_nCells_84 : nCells Try.prog 84 = some 1 := by kernel_rfl
theorem ty_tFlat_84 : tFlat Try.prog 84 = none := by kernel_rfl
theorem ty_isBoolT_84 : isBoolT Try.prog 84 = false := by kernel_rfl
theorem ty_tShape_85 : tShape Try.prog 85 = some none := by kernel_rfl
theorem ty_tZero_85 : tZero Try.prog 85 = some [Value.nilFunc] := by kernel_rfl
theorem ty_nCells_85 : nCells Try.prog 85 = some 1 := by kernel_rfl
theorem ty_tFlat_85 : tFlat Try.prog 85 = none := by kernel_rfl
theorem ty_isBoolT_85 : isBoolT Try.prog 85 = false := by kernel_rfl
theorem ty_tShape_86 : tShape Try.prog 86 = some none := by kernel_rfl
theorem ty_tZero_86 : tZero Try.prog 86 = some [Value.int IntKind.u64 0] := by kernel_rfl
theorem ty_tInt_86 : tInt Try.prog 86 = some IntKind.u64 := by kernel_rfl
theorem ty_nCells_86 : nCells Try.prog 86 = some 1 := by kernel_rfl
theorem ty_tFlat_86 : tFlat Try.prog 86 = none := by kernel_rfl
theorem ty_isBoolT_86 : isBoolT Try.prog 86 = false := by kernel_rfl
theorem ty_tShape_87 : tShape Try.prog 87 = some none := by kernel_rfl
theorem ty_tZero_87 : tZero Try.prog 87 = some [Value.tuple { toList := [Value.int IntKind.u64 0, Value.int IntKind.u64 0] }] := by kernel_rfl
theorem ty_nCells_87 : nCells Try.prog 87 = some 1 := by kernel_rfl
theorem ty_tFlat_87 : tFlat Try.prog 87 = none := by kernel_rfl
theorem ty_isBoolT_87 : isBoolT Try.prog 87 = false := by kernel_rfl
theorem ty_tShape_88 : tShape Try.prog 88 = some none := by kernel_rfl
theorem ty_tZero_88 : tZero Try.prog 88 = some [Value.nilFunc] := by kernel_rfl
theorem ty_nCells_88 : nCells Try.prog 88 = some 1 := by kernel_rfl
theorem ty_tFlat_88 : tFlat Try.prog 88 = none := by kernel_rfl
theorem ty_isBoolT_88 : isBoolT Try.prog 88 = false := by kernel_rfl
theorem ty_tShape_89 : tShape Try.prog 89 = some none := by kernel_rfl
theorem ty_tZero_89 : tZero Try.prog 89 = some [Value.nilFunc] := by kernel_rfl
theorem ty_nCells_89 : nCells Try.prog 89 = some 1 := by kernel_rfl
theorem ty_tFlat_89 : tFlat Try.prog 89 = none := by kernel_rfl
theorem ty_isBoolT_89 : isBoolT Try.prog 89 = false := by kernel_rfl
theorem ty_tShape_90 : tShape Try.prog 90 = some none := by kernel_rfl
theorem ty_tZero_90 : tZero Try.prog 90 = some [Value.nilFunc] := by kernel_rfl
theorem ty_nCells_90 : nCells Try.prog 90 = some 1 := by kernel_rfl
theorem ty_tFlat_90 : tFlat Try.prog 90 = none := by kernel_rfl
theorem ty_isBoolT_90 : isBoolT Try.prog 90 = false := by kernel_rfl
theorem ty_tShape_91 : tShape Try.prog 91 = some none := by kernel_rfl
theorem ty_tZero_91 : tZero Try.prog 91 = some [Value.nilFunc] := by kernel_rfl
theorem ty_nCells_91 : nCells Try.prog 91 = some 1 := by kernel_rfl
theorem ty_tFlat_91 : tFlat Try.prog 91 = none := by kernel_rfl
theorem ty_isBoolT_91 : isBoolT Try.prog 91 = false := by kernel_rfl
theorem ty_tShape_92 : tShape Try.prog 92 = some none := by kernel_rfl
theorem ty_tZero_92 : tZero Try.prog 92 = some [Value.nilFunc] := by kernel_rfl
theorem ty_nCells_92 : nCells Try.prog 92 = some 1 := by kernel_rfl
theorem ty_tFlat_92 : tFlat Try.prog 92 = none := by kernel_rfl
theorem ty_isBoolT_92 : isBoolT Try.prog 92 = false := by kernel_rfl
theorem ty_tShape_93 : tShape Try.prog 93 = some none := by kernel_rfl
theorem ty_tZero_93 : tZero Try.prog 93 = some [Value.nilFunc] := by kernel_rfl
theorem ty_nCells_93 : nCells Try.prog 93 = some 1 := by kernel_rfl
theorem ty_tFlat_93 : tFlat Try.prog 93 = none := by kernel_rfl
theorem ty_isBoolT_93 : isBoolT Try.prog 93 = false := by kernel_rfl
theorem ty_tShape_94 : tShape Try.prog 94 = some none := by kernel_rfl
theorem ty_tZero_94 : tZero Try.prog 94 = some [Value.nilFunc] := by kernel_rfl
theorem ty_nCells_94 : nCells Try.prog 94 = some 1 := by kernel_rfl
theorem ty_tFlat_94 : tFlat Try.prog 94 = none := by kernel_rfl
theorem ty_isBoolT_94 : isBoolT Try.prog 94 = false := by kernel_rfl
theorem ty_tShape_95 : tShape Try.prog 95 = some (some 4) := by kernel_rfl
theorem ty_tZero_95 : tZero Try.prog 95 = some [Value.pointer none, Value.pointer none, Value.pointer none, Value.string { data := #[] }] := by kernel_rfl
theorem ty_nCells_95 : nCells Try.prog 95 = some 4 := by kernel_rfl
theorem ty_tFlat_95 : tFlat Try.prog 95 = none := by kernel_rfl
theorem ty_isBoolT_95 : isBoolT Try.prog 95 = false := by kernel_rfl
theorem ty_tBuilt_95 : tBuilt Try.prog 95 = some ([(0, 1), (1, 1), (2, 1), (3, 1)], [Value.pointer none, Value.pointer none, Value.pointer none, Value.string { data := #[] }]) := by kernel_rfl
theorem ty_tFld_95_0 : tFld Try.prog 95 0 = some 0 := by kernel_rfl
theorem ty_tFldV_95_0 : tFldV Try.prog 95 0 = some (0, none) := by kernel_rfl
theorem ty_tFld_95_1 : tFld Try.prog 95 1 = some 1 := by kernel_rfl
theorem ty_tFldV_95_1 : tFldV Try.prog 95 1 = some (1, none) := by kernel_rfl
theorem ty_tFld_95_2 : tFld Try.prog 95 2 = some 2 := by kernel_rfl
theorem ty_tFldV_95_2 : tFldV Try.prog 95 2 = some (2, none) := by kernel_rfl
theorem ty_tFld_95_3 : tFld Try.prog 95 3 = some 3 := by kernel_rfl
theorem ty_tFldV_95_3 : tFldV Try.prog 95 3 = some (3, none) := by kernel_rfl
theorem ty_tShape_96 : tShape Try.prog 96 = some (some 4) := by kernel_rfl
theorem ty_tZero_96 : tZero Try.prog 96 = some [Value.pointer none, Value.pointer none, Value.pointer none, Value.string { data := #[] }] := by kernel_rfl
theorem ty_nCells_96 : nCells Try.prog 96 = some 4 := by kernel_rfl
theorem ty_tFlat_96 : tFlat Try.prog 96 = none := by kernel_rfl
theorem ty_isBoolT_96 : isBoolT Try.prog 96 = false := by kernel_rfl
theorem ty_tBuilt_96 : tBuilt Try.prog 96 = some ([(0, 1), (1, 1), (2, 1), (3, 1)], [Value.pointer none, Value.pointer none, Value.pointer none, Value.string { data := #[] }]) := by kernel_rfl
theorem ty_tFld_96_0 : tFld Try.prog 96 0 = some 0 := by kernel_rfl
theorem ty_tFldV_96_0 : tFldV Try.prog 96 0 = some (0, none) := by kernel_rfl
theorem ty_tFld_96_1 : tFld Try.prog 96 1 = some 1 := by kernel_rfl
theorem ty_tFldV_96_1 : tFldV Try.prog 96 1 = some (1, none) := by kernel_rfl
theorem ty_tFld_96_2 : tFld Try.prog 96 2 = some 2 := by kernel_rfl
theorem ty_tFldV_96_2 : tFldV Try.prog 96 2 = some (2, none) := by kernel_rfl
theorem ty_tFld_96_3 : tFld Try.prog 96 3 = some 3 := by kernel_rfl
theorem ty_tFldV_96_3 : tFldV Try.prog 96 3 = some (3, none) := by kernel_rfl
theorem ty_tShape_97 : tShape Try.prog 97 = some (some 0) := by kernel_rfl
theorem ty_tZero_97 : tZero Try.prog 97 = some [] := by kernel_rfl
theorem ty_tElt_97 : tElt Try.prog 97 = none := by kernel_rfl
theorem ty_tArr_97 : tArr Try.prog 97 = some (0, 1) := by kernel_rfl
theorem ty_nCells_97 : nCells Try.prog 97 = some 0 := by kernel_rfl
theorem ty_tFlat_97 : tFlat Try.prog 97 = none := by kernel_rfl
theorem ty_isBoolT_97 : isBoolT Try.prog 97 = false := by kernel_rfl
theorem ty_tBuilt_97 : tBuilt Try.prog 97 = some ([], []) := by kernel_rfl
theorem ty_tShape_98 : tShape Try.prog 98 = some (some 0) := by kernel_rfl
theorem ty_tZero_98 : tZero Try.prog 98 = some [] := by kernel_rfl
theorem ty_nCells_98 : nCells Try.prog 98 = some 0 := by kernel_rfl
theorem ty_tFlat_98 : tFlat Try.prog 98 = none := by kernel_rfl
theorem ty_isBoolT_98 : isBoolT Try.prog 98 = false := by kernel_rfl
theorem ty_tBuilt_98 : tBuilt Try.prog 98 = some ([(0, 0)], []) := by kernel_rfl
theorem ty_tFldV_98_0 : tFldV Try.prog 98 0 = some (0, some 0) := by kernel_rfl
theorem ty_tShape_99 : tShape Try.prog 99 = some (some 0) := by kernel_rfl
theorem ty_tZero_99 : tZero Try.prog 99 = some [] := by kernel_rfl
theorem ty_nCells_99 : nCells Try.prog 99 = some 0 := by kernel_rfl
theorem ty_tFlat_99 : tFlat Try.prog 99 = none := by kernel_rfl
theorem ty_isBoolT_99 : isBoolT Try.prog 99 = false := by kernel_rfl
theorem ty_tBuilt_99 : tBuilt Try.prog 99 = some ([(0, 0)], []) := by kernel_rfl
theorem ty_tFldV_99_0 : tFldV Try.prog 99 0 = some (0, some 0) := by kernel_rfl
theorem ty_tShape_100 : tShape Try.prog 100 = some none := by kernel_rfl
theorem ty_tZero_100 : tZero Try.prog 100 = some [Value.nilFunc] := by kernel_rfl
theorem ty_nCells_100 : nCells Try.prog 100 = some 1 := by kernel_rfl
theorem ty_tFlat_100 : tFlat Try.prog 100 = none := by kernel_rfl
theorem ty_isBoolT_100 : isBoolT Try.prog 100 = false := by kernel_rfl
theorem ty_tShape_101 : tShape Try.prog 101 = some none := by kernel_rfl
theorem ty_tZero_101 : tZero Try.prog 101 = some [Value.int IntKind.u8 0] := by kernel_rfl
theorem ty_tInt_101 : tInt Try.prog 101 = some IntKind.u8 := by kernel_rfl
theorem ty_nCells_101 : nCells Try.prog 101 = some 1 := by kernel_rfl
theorem ty_tFlat_101 : tFlat Try.prog 101 = none := by kernel_rfl
theorem ty_isBoolT_101 : isBoolT Try.prog 101 = false := by kernel_rfl
theorem ty_tShape_102 : tShape Try.prog 102 = some none := by kernel_rfl
theorem ty_tZero_102 : tZero Try.prog 102 = some [Value.int IntKind.u8 0] := by kernel_rfl
theorem ty_tInt_102 : tInt Try.prog 102 = some IntKind.u8 := by kernel_rfl
theorem ty_nCells_102 : nCells Try.prog 102 = some 1 := by kernel_rfl
theorem ty_tFlat_102 : tFlat Try.prog 102 = none := by kernel_rfl
theorem ty_isBoolT_102 : isBoolT Try.prog 102 = false := by kernel_rfl
theorem ty_tShape_103 : tShape Try.prog 103 = some none := by kernel_rfl
theorem ty_tZero_103 : tZero Try.prog 103 = some [Value.nilFunc] := by kernel_rfl
theorem ty_nCells_103 : nCells Try.prog 103 = some 1 := by kernel_rfl
theorem ty_tFlat_103 : tFlat Try.prog 103 = none := by kernel_rfl
theorem ty_isBoolT_103 : isBoolT Try.prog 103 = false := by kernel_rfl
theorem ty_tShape_104 : tShape Try.prog 104 = some none := by kernel_rfl
theorem ty_tZero_104 : tZero Try.prog 104 = some [Value.pointer none] := by kernel_rfl
theorem ty_nCells_104 : nCells Try.prog 104 = some 1 := by kernel_rfl
theorem ty_tFlat_104 : tFlat Try.prog 104 = none := by kernel_rfl
theorem ty_isBoolT_104 : isBoolT Try.prog 104 = false := by kernel_rfl
theorem ty_tShape_105 : tShape Try.prog 105 = some none := by kernel_rfl
theorem ty_tZero_105 : tZero Try.prog 105 = some [Value.int IntKind.i32 0] := by kernel_rfl
theorem ty_tInt_105 : tInt Try.prog 105 = some IntKind.i32 := by kernel_rfl
theorem ty_nCells_105 : nCells Try.prog 105 = some 1 := by kernel_rfl
theorem ty_tFlat_105 : tFlat Try.prog 105 = none := by kernel_rfl
theorem ty_isBoolT_105 : isBoolT Try.prog 105 = false := by kernel_rfl
theorem ty_tShape_106 : tShape Try.prog 106 = some none := by kernel_rfl
theorem ty_tZero_106 : tZero Try.prog 106 = some [Value.int IntKind.i32 0] := by kernel_rfl
theorem ty_tInt_106 : tInt Try.prog 106 = some IntKind.i32 := by kernel_rfl
theorem ty_nCells_106 : nCells Try.prog 106 = some 1 := by kernel_rfl
theorem ty_tFlat_106 : tFlat Try.prog 106 = none := by kernel_rfl
theorem ty_isBoolT_106 : isBoolT Try.prog 106 = false := by kernel_rfl
theorem ty_tShape_107 : tShape Try.prog 107 = some (some 11) := by kernel_rfl
theorem ty_tZero_107 : tZero Try.prog 107 = some [Value.int IntKind.u64 0, Value.int IntKind.u64 0, Value.int IntKind.u32 0, Value.int IntKind.u8 0, Value.int IntKind.u8 0, Value.int IntKind.u8 0, Value.int IntKind.u8 0, Value.nilFunc, Value.pointer none, Value.int IntKind.i32 0, Value.int IntKind.i32 0] := by kernel_rfl
theorem ty_nCells_107 : nCells Try.prog 107 = some 11 := by kernel_rfl
theorem ty_tFlat_107 : tFlat Try.prog 107 = none := by kernel_rfl
theorem ty_isBoolT_107 : isBoolT Try.prog 107 = false := by kernel_rfl
theorem ty_tBuilt_107 : tBuilt Try.prog 107 = some ([(0, 1), (1, 1), (2, 1), (3, 1), (4, 1), (5, 1), (6, 1), (7, 1), (8, 1), (9, 1), (10, 1)], [Value.int IntKind.u64 0, Value.int IntKind.u64 0, Value.int IntKind.u32 0, Value.int IntKind.u8 0, Value.int IntKind.u8 0, Value.int IntKind.u8 0, Value.int IntKind.u8 0, Value.nilFunc, Value.pointer none, Value.int IntKind.i32 0, Value.int IntKind.i32 0]) := by kernel_rfl
theorem ty_tFld_107_0 : tFld Try.prog 107 0 = some 0 := by kernel_rfl
theorem ty_tFldV_107_0 : tFldV Try.prog 107 0 = some (0, none) := by kernel_rfl
theorem ty_tFld_107_1 : tFld Try.prog 107 1 = some 1 := by kernel_rfl
theorem ty_tFldV_107_1 : tFldV Try.prog 107 1 = some (1, none) := by kernel_rfl
theorem ty_tFld_107_2 : tFld Try.prog 107 2 = some 2 := by kernel_rfl
theorem ty_tFldV_107_2 : tFldV Try.prog 107 2 = some (2, none) := by kernel_rfl
theorem ty_tFld_107_3 : tFld Try.prog 107 3 = some 3 := by kernel_rfl
theorem ty_tFldV_107_3 : tFldV Try.prog 107 3 = some (3, none) := by kernel_rfl
theorem ty_tFld_107_4 : tFld Try.prog 107 4 = some 4 := by kernel_rfl
theorem ty_tFldV_107_4 : tFldV Try.prog 107 4 = some (4, none) := by kernel_rfl
theorem ty_tFld_107_5 : tFld Try.prog 107 5 = some 5 := by kernel_rfl
theorem ty_tFldV_107_5 : tFldV Try.prog 107 5 = some (5, none) := by kernel_rfl
theorem ty_tFld_107_6 : tFld Try.prog 107 6 = some 6 := by kernel_rfl
theorem ty_tFldV_107_6 : tFldV Try.prog 107 6 = some (6, none) := by kernel_rfl
theorem ty_tFld_107_7 : tFld Try.prog 107 7 = some 7 := by kernel_rfl
theorem ty_tFldV_107_7 : tFldV Try.prog 107 7 = some (7, none) := by kernel_rfl
theorem ty_tFld_107_8 : tFld Try.prog 107 8 = some 8 := by kernel_rfl
theorem ty_tFldV_107_8 : tFldV Try.prog 107 8 = some (8, none) := by kernel_rfl
theorem ty_tFld_107_9 : tFld Try.prog 107 9 = some 9 := by kernel_rfl
theorem ty_tFldV_107_9 : tFldV Try.prog 107 9 = some (9, none) := by kernel_rfl
theorem ty_tFld_107_10 : tFld Try.prog 107 10 = some 10 := by kernel_rfl
theorem ty_tFldV_107_10 : tFldV Try.prog 107 10 = some (10, none) := by kernel_rfl
theorem ty_tShape_108 : tShape Try.prog 108 = some (some 11) := by kernel_rfl
theorem ty_tZero_108 : tZero Try.prog 108 = some [Value.int IntKind.u64 0, Value.int IntKind.u64 0, Value.int IntKind.u32 0, Value.int IntKind.u8 0, Value.int IntKind.u8 0, Value.int IntKind.u8 0, Value.int IntKind.u8 0, Value.nilFunc, Value.pointer none, Value.int IntKind.i32 0, Value.int IntKind.i32 0] := by kernel_rfl
theorem ty_nCells_108 : nCells Try.prog 108 = some 11 := by kernel_rfl
theorem ty_tFlat_108 : tFlat Try.prog 108 = none := by kernel_rfl
theorem ty_isBoolT_108 : isBoolT Try.prog 108 = false := by kernel_rfl
theorem ty_tBuilt_108 : tBuilt Try.prog 108 = some ([(0, 1), (1, 1), (2, 1), (3, 1), (4, 1), (5, 1), (6, 1), (7, 1), (8, 1), (9, 1), (10, 1)], [Value.int IntKind.u64 0, Value.int IntKind.u64 0, Value.int IntKind.u32 0, Value.int IntKind.u8 0, Value.int IntKind.u8 0, Value.int IntKind.u8 0, Value.int IntKind.u8 0, Value.nilFunc, Value.pointer none, Value.int IntKind.i32 0, Value.int IntKind.i32 0]) := by kernel_rfl
theorem ty_tFld_108_0 : tFld Try.prog 108 0 = some 0 := by kernel_rfl
theorem ty_tFldV_108_0 : tFldV Try.prog 108 0 = some (0, none) := by kernel_rfl
theorem ty_tFld_108_1 : tFld Try.prog 108 1 = some 1 := by kernel_rfl
theorem ty_tFldV_108_1 : tFldV Try.prog 108 1 = some (1, none) := by kernel_rfl
theorem ty_tFld_108_2 : tFld Try.prog 108 2 = some 2 := by kernel_rfl
theorem ty_tFldV_108_2 : tFldV Try.prog 108 2 = some (2, none) := by kernel_rfl
theorem ty_tFld_108_3 : tFld Try.prog 108 3 = some 3 := by kernel_rfl
theorem ty_tFldV_108_3 : tFldV Try.prog 108 3 = some (3, none) := by kernel_rfl
theorem ty_tFld_108_4 : tFld Try.prog 108 4 = some 4 := by kernel_rfl
theorem ty_tFldV_108_4 : tFldV Try.prog 108 4 = some (4, none) := by kernel_rfl
theorem ty_tFld_108_5 : tFld Try.prog 108 5 = some 5 := by kernel_rfl
theorem ty_tFldV_108_5 : tFldV Try.prog 108 5 = some (5, none) := by kernel_rfl
theorem ty_tFld_108_6 : tFld Try.prog 108 6 = some 6 := by kernel_rfl
theorem ty_tFldV_108_6 : tFldV Try.prog 108 6 = some (6, none) := by kernel_rfl
theorem ty_tFld_108_7 : tFld Try.prog 108 7 = some 7 := by kernel_rfl
theorem ty_tFldV_108_7 : tFldV Try.prog 108 7 = some (7, none) := by kernel_rfl
theorem ty_tFld_108_8 : tFld Try.prog 108 8 = some 8 := by kernel_rfl
theorem ty_tFldV_108_8 : tFldV Try.prog 108 8 = some (8, none) := by kernel_rfl
theorem ty_tFld_108_9 : tFld Try.prog 108 9 = some 9 := by kernel_rfl
theorem ty_tFldV_108_9 : tFldV Try.prog 108 9 = some (9, none) := by kernel_rfl
theorem ty_tFld_108_10 : tFld Try.prog 108 10 = some 10 := by kernel_rfl
theorem ty_tFldV_108_10 : tFldV Try.prog 108 10 = some (10, none) := by kernel_rfl
theorem ty_tShape_109 : tShape Try.prog 109 = some none := by kernel_rfl
theorem ty_tZero_109 : tZero Try.prog 109 = some [Value.nilFunc] := by kernel_rfl
theorem ty_nCells_109 : nCells Try.prog 109 = some 1 := by kernel_rfl
theorem ty_tFlat_109 : tFlat Try.prog 109 = none := by kernel_rfl
theorem ty_isBoolT_109 : isBoolT Try.prog 109 = false := by kernel_rfl
theorem ty_tShape_110 : tShape Try.prog 110 = some none := by kernel_rfl
theorem ty_tZero_110 : tZero Try.prog 110 = some [Value.pointer none] := by kernel_rfl
theorem ty_nCells_110 : nCells Try.prog 110 = some 1 := by kernel_rfl
theorem ty_tFlat_110 : tFlat Try.prog 110 = none := by kernel_rfl
theorem ty_isBoolT_110 : isBoolT Try.prog 110 = false := by kernel_rfl
theorem ty_hm : Try.prog.follows .mixedOrders = true := by kernel_rfl
end Go.Proofs.Ytkjihlonnhfidaa
