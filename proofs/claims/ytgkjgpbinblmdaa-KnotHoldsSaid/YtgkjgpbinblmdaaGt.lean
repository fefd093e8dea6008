/- What the operations ask of the program's types, as facts. No condition. -/
import Derived.Test.YtgkjgpbinblmdaaKG
import Derived.Test.YtgkjgpbinblmdaaRows
namespace Go.Proofs.Ytgkjgpbinblmdaa
open Go.RowKit

theorem ty_tShape_1 : tShape Try.prog 1 = some none := by kernel_rfl
theorem ty_tZero_1 : tZero Try.prog 1 = some [Value.nilFunc] := by kernel_rfl
theorem ty_nCells_1 : nCells Try.prog 1 = some 1 := by kernel_rfl
theorem ty_tFlat_1 : tFlat Try.prog 1 = none := by kernel_rfl
theorem ty_isBoolT_1 : isBoolT Try.prog 1 = false := by kernel_rfl
theorem ty_tShape_2 : tShape Try.prog 2 = some none := by kernel_rfl
theorem ty_tZero_2 : tZero Try.prog 2 = some [Value.int IntKind.i64 0] := by kernel_rfl
theorem ty_tInt_2 : tInt Try.prog 2 = some IntKind.i64 := by kernel_rfl
theorem ty_nCells_2 : nCells Try.prog 2 = some 1 := by kernel_rfl
theorem ty_tFlat_2 : tFlat Try.prog 2 = none := by kernel_rfl
theorem ty_isBoolT_2 : isBoolT Try.prog 2 = false := by kernel_rfl
theorem ty_tShape_3 : tShape Try.prog 3 = some none := by kernel_rfl
theorem ty_tZero_3 : tZero Try.prog 3 = some [Value.int IntKind.i64 0] := by kernel_rfl
theorem ty_tInt_3 : tInt Try.prog 3 = some IntKind.i64 := by kernel_rfl
theorem ty_nCells_3 : nCells Try.prog 3 = some 1 := by kernel_rfl
theorem ty_tFlat_3 : tFlat Try.prog 3 = none := by kernel_rfl
theorem ty_tZ1_3 : tZ1 Try.prog 3 = some (Value.int IntKind.i64 0) := by kernel_rfl
theorem ty_isBoolT_3 : isBoolT Try.prog 3 = false := by kernel_rfl
theorem ty_tShape_4 : tShape Try.prog 4 = some none := by kernel_rfl
theorem ty_tZero_4 : tZero Try.prog 4 = some [Value.bool false] := by kernel_rfl
theorem ty_nCells_4 : nCells Try.prog 4 = some 1 := by kernel_rfl
theorem ty_tFlat_4 : tFlat Try.prog 4 = none := by kernel_rfl
theorem ty_isBoolT_4 : isBoolT Try.prog 4 = true := by kernel_rfl
theorem ty_tShape_5 : tShape Try.prog 5 = some none := by kernel_rfl
theorem ty_tZero_5 : tZero Try.prog 5 = some [Value.int IntKind.u8 0] := by kernel_rfl
theorem ty_tInt_5 : tInt Try.prog 5 = some IntKind.u8 := by kernel_rfl
theorem ty_nCells_5 : nCells Try.prog 5 = some 1 := by kernel_rfl
theorem ty_tFlat_5 : tFlat Try.prog 5 = none := by kernel_rfl
theorem ty_isBoolT_5 : isBoolT Try.prog 5 = false := by kernel_rfl
theorem ty_tShape_6 : tShape Try.prog 6 = some none := by kernel_rfl
theorem ty_tZero_6 : tZero Try.prog 6 = some [Value.int IntKind.u8 0] := by kernel_rfl
theorem ty_tInt_6 : tInt Try.prog 6 = some IntKind.u8 := by kernel_rfl
theorem ty_nCells_6 : nCells Try.prog 6 = some 1 := by kernel_rfl
theorem ty_tFlat_6 : tFlat Try.prog 6 = none := by kernel_rfl
theorem ty_isBoolT_6 : isBoolT Try.prog 6 = false := by kernel_rfl
theorem ty_tShape_22 : tShape Try.prog 22 = some none := by kernel_rfl
theorem ty_tZero_22 : tZero Try.prog 22 = some [Value.slice none 0 0] := by kernel_rfl
theorem ty_tElt_22 : tElt Try.prog 22 = some (55, 2, 16) := by kernel_rfl
theorem ty_nCells_22 : nCells Try.prog 22 = some 1 := by kernel_rfl
theorem ty_tFlat_22 : tFlat Try.prog 22 = none := by kernel_rfl
theorem ty_isBoolT_22 : isBoolT Try.prog 22 = false := by kernel_rfl
theorem ty_tShape_24 : tShape Try.prog 24 = some (some 2) := by kernel_rfl
theorem ty_tZero_24 : tZero Try.prog 24 = some [Value.int IntKind.i64 0, Value.slice none 0 0] := by kernel_rfl
theorem ty_nCells_24 : nCells Try.prog 24 = some 2 := by kernel_rfl
theorem ty_tFlat_24 : tFlat Try.prog 24 = none := by kernel_rfl
theorem ty_isBoolT_24 : isBoolT Try.prog 24 = false := by kernel_rfl
theorem ty_tBuilt_24 : tBuilt Try.prog 24 = some ([(0, 1), (1, 1)], [Value.int IntKind.i64 0, Value.slice none 0 0]) := by kernel_rfl
theorem ty_tFld_24_0 : tFld Try.prog 24 0 = some 0 := by kernel_rfl
theorem ty_tFldV_24_0 : tFldV Try.prog 24 0 = some (0, none) := by kernel_rfl
theorem ty_tFld_24_1 : tFld Try.prog 24 1 = some 1 := by kernel_rfl
theorem ty_tFldV_24_1 : tFldV Try.prog 24 1 = some (1, none) := by kernel_rfl
theorem ty_tShape_25 : tShape Try.prog 25 = some none := by kernel_rfl
theorem ty_tZero_25 : tZero Try.prog 25 = some [Value.slice none 0 0] := by kernel_rfl
theorem ty_tElt_25 : tElt Try.prog 25 = some (107, 2, 32) := by kernel_rfl
theorem ty_nCells_25 : nCells Try.prog 25 = some 1 := by kernel_rfl
theorem ty_tFlat_25 : tFlat Try.prog 25 = none := by kernel_rfl
theorem ty_isBoolT_25 : isBoolT Try.prog 25 = false := by kernel_rfl
theorem ty_tShape_27 : tShape Try.prog 27 = some (some 4) := by kernel_rfl
theorem ty_tZero_27 : tZero Try.prog 27 = some [Value.int IntKind.i64 0, Value.slice none 0 0, Value.slice none 0 0, Value.bool false] := by kernel_rfl
theorem ty_nCells_27 : nCells Try.prog 27 = some 4 := by kernel_rfl
theorem ty_tFlat_27 : tFlat Try.prog 27 = none := by kernel_rfl
theorem ty_isBoolT_27 : isBoolT Try.prog 27 = false := by kernel_rfl
theorem ty_tBuilt_27 : tBuilt Try.prog 27 = some ([(0, 2), (2, 1), (3, 1)], [Value.int IntKind.i64 0, Value.slice none 0 0, Value.slice none 0 0, Value.bool false]) := by kernel_rfl
theorem ty_tFld_27_0 : tFld Try.prog 27 0 = some 0 := by kernel_rfl
theorem ty_tFldV_27_0 : tFldV Try.prog 27 0 = some (0, some 2) := by kernel_rfl
theorem ty_tFld_27_1 : tFld Try.prog 27 1 = some 2 := by kernel_rfl
theorem ty_tFldV_27_1 : tFldV Try.prog 27 1 = some (2, none) := by kernel_rfl
theorem ty_tFld_27_2 : tFld Try.prog 27 2 = some 3 := by kernel_rfl
theorem ty_tFldV_27_2 : tFldV Try.prog 27 2 = some (3, none) := by kernel_rfl
theorem ty_tShape_28 : tShape Try.prog 28 = some none := by kernel_rfl
theorem ty_tZero_28 : tZero Try.prog 28 = some [Value.slice none 0 0] := by kernel_rfl
theorem ty_tElt_28 : tElt Try.prog 28 = some (3, 1, 8) := by kernel_rfl
theorem ty_nCells_28 : nCells Try.prog 28 = some 1 := by kernel_rfl
theorem ty_tFlat_28 : tFlat Try.prog 28 = none := by kernel_rfl
theorem ty_isBoolT_28 : isBoolT Try.prog 28 = false := by kernel_rfl
theorem ty_tShape_29 : tShape Try.prog 29 = some none := by kernel_rfl
theorem ty_tZero_29 : tZero Try.prog 29 = some [Value.slice none 0 0] := by kernel_rfl
theorem ty_tElt_29 : tElt Try.prog 29 = some (63, 1, 24) := by kernel_rfl
theorem ty_nCells_29 : nCells Try.prog 29 = some 1 := by kernel_rfl
theorem ty_tFlat_29 : tFlat Try.prog 29 = none := by kernel_rfl
theorem ty_isBoolT_29 : isBoolT Try.prog 29 = false := by kernel_rfl
theorem ty_tShape_31 : tShape Try.prog 31 = some (some 3) := by kernel_rfl
theorem ty_tZero_31 : tZero Try.prog 31 = some [Value.slice none 0 0, Value.slice none 0 0, Value.slice none 0 0] := by kernel_rfl
theorem ty_nCells_31 : nCells Try.prog 31 = some 3 := by kernel_rfl
theorem ty_tFlat_31 : tFlat Try.prog 31 = none := by kernel_rfl
theorem ty_isBoolT_31 : isBoolT Try.prog 31 = false := by kernel_rfl
theorem ty_tBuilt_31 : tBuilt Try.prog 31 = some ([(0, 1), (1, 1), (2, 1)], [Value.slice none 0 0, Value.slice none 0 0, Value.slice none 0 0]) := by kernel_rfl
theorem ty_tFld_31_0 : tFld Try.prog 31 0 = some 0 := by kernel_rfl
theorem ty_tFldV_31_0 : tFldV Try.prog 31 0 = some (0, none) := by kernel_rfl
theorem ty_tFld_31_1 : tFld Try.prog 31 1 = some 1 := by kernel_rfl
theorem ty_tFldV_31_1 : tFldV Try.prog 31 1 = some (1, none) := by kernel_rfl
theorem ty_tFld_31_2 : tFld Try.prog 31 2 = some 2 := by kernel_rfl
theorem ty_tFldV_31_2 : tFldV Try.prog 31 2 = some (2, none) := by kernel_rfl
theorem ty_tShape_34 : tShape Try.prog 34 = some (some 2) := by kernel_rfl
theorem ty_tZero_34 : tZero Try.prog 34 = some [Value.int IntKind.i64 0, Value.slice none 0 0] := by kernel_rfl
theorem ty_nCells_34 : nCells Try.prog 34 = some 2 := by kernel_rfl
theorem ty_tFlat_34 : tFlat Try.prog 34 = none := by kernel_rfl
theorem ty_isBoolT_34 : isBoolT Try.prog 34 = false := by kernel_rfl
theorem ty_tBuilt_34 : tBuilt Try.prog 34 = some ([(0, 1), (1, 1)], [Value.int IntKind.i64 0, Value.slice none 0 0]) := by kernel_rfl
theorem ty_tFld_34_0 : tFld Try.prog 34 0 = some 0 := by kernel_rfl
theorem ty_tFldV_34_0 : tFldV Try.prog 34 0 = some (0, none) := by kernel_rfl
theorem ty_tFld_34_1 : tFld Try.prog 34 1 = some 1 := by kernel_rfl
theorem ty_tFldV_34_1 : tFldV Try.prog 34 1 = some (1, none) := by kernel_rfl
theorem ty_tShape_35 : tShape Try.prog 35 = some none := by kernel_rfl
theorem ty_tZero_35 : tZero Try.prog 35 = some [Value.slice none 0 0] := by kernel_rfl
theorem ty_tElt_35 : tElt Try.prog 35 = some (103, 2, 32) := by kernel_rfl
theorem ty_nCells_35 : nCells Try.prog 35 = some 1 := by kernel_rfl
theorem ty_tFlat_35 : tFlat Try.prog 35 = none := by kernel_rfl
theorem ty_isBoolT_35 : isBoolT Try.prog 35 = false := by kernel_rfl
theorem ty_tShape_37 : tShape Try.prog 37 = some (some 4) := by kernel_rfl
theorem ty_tZero_37 : tZero Try.prog 37 = some [Value.int IntKind.i64 0, Value.slice none 0 0, Value.slice none 0 0, Value.bool false] := by kernel_rfl
theorem ty_nCells_37 : nCells Try.prog 37 = some 4 := by kernel_rfl
theorem ty_tFlat_37 : tFlat Try.prog 37 = none := by kernel_rfl
theorem ty_isBoolT_37 : isBoolT Try.prog 37 = false := by kernel_rfl
theorem ty_tBuilt_37 : tBuilt Try.prog 37 = some ([(0, 2), (2, 1), (3, 1)], [Value.int IntKind.i64 0, Value.slice none 0 0, Value.slice none 0 0, Value.bool false]) := by kernel_rfl
theorem ty_tFld_37_0 : tFld Try.prog 37 0 = some 0 := by kernel_rfl
theorem ty_tFldV_37_0 : tFldV Try.prog 37 0 = some (0, some 2) := by kernel_rfl
theorem ty_tFld_37_1 : tFld Try.prog 37 1 = some 2 := by kernel_rfl
theorem ty_tFldV_37_1 : tFldV Try.prog 37 1 = some (2, none) := by kernel_rfl
theorem ty_tFld_37_2 : tFld Try.prog 37 2 = some 3 := by kernel_rfl
theorem ty_tFldV_37_2 : tFldV Try.prog 37 2 = some (3, none) := by kernel_rfl
theorem ty_tShape_39 : tShape Try.prog 39 = some (some 3) := by kernel_rfl
theorem ty_tZero_39 : tZero Try.prog 39 = some [Value.slice none 0 0, Value.slice none 0 0, Value.slice none 0 0] := by kernel_rfl
theorem ty_nCells_39 : nCells Try.prog 39 = some 3 := by kernel_rfl
theorem ty_tFlat_39 : tFlat Try.prog 39 = none := by kernel_rfl
theorem ty_isBoolT_39 : isBoolT Try.prog 39 = false := by kernel_rfl
theorem ty_tBuilt_39 : tBuilt Try.prog 39 = some ([(0, 1), (1, 1), (2, 1)], [Value.slice none 0 0, Value.slice none 0 0, Value.slice none 0 0]) := by kernel_rfl
theorem ty_tFld_39_0 : tFld Try.prog 39 0 = some 0 := by kernel_rfl
theorem ty_tFldV_39_0 : tFldV Try.prog 39 0 = some (0, none) := by kernel_rfl
theorem ty_tFld_39_1 : tFld Try.prog 39 1 = some 1 := by kernel_rfl
theorem ty_tFldV_39_1 : tFldV Try.prog 39 1 = some (1, none) := by kernel_rfl
theorem ty_tFld_39_2 : tFld Try.prog 39 2 = some 2 := by kernel_rfl
theorem ty_tFldV_39_2 : tFldV Try.prog 39 2 = some (2, none) := by kernel_rfl
theorem ty_tShape_43 : tShape Try.prog 43 = some none := by kernel_rfl
theorem ty_tZero_43 : tZero Try.prog 43 = some [Value.nilFunc] := by kernel_rfl
theorem ty_nCells_43 : nCells Try.prog 43 = some 1 := by kernel_rfl
theorem ty_tFlat_43 : tFlat Try.prog 43 = none := by kernel_rfl
theorem ty_isBoolT_43 : isBoolT Try.prog 43 = false := by kernel_rfl
theorem ty_tShape_52 : tShape Try.prog 52 = some (some 2) := by kernel_rfl
theorem ty_tZero_52 : tZero Try.prog 52 = some [Value.slice none 0 0, Value.slice none 0 0] := by kernel_rfl
theorem ty_tElt_52 : tElt Try.prog 52 = none := by kernel_rfl
theorem ty_tArr_52 : tArr Try.prog 52 = some (2, 1) := by kernel_rfl
theorem ty_nCells_52 : nCells Try.prog 52 = some 2 := by kernel_rfl
theorem ty_tFlat_52 : tFlat Try.prog 52 = none := by kernel_rfl
theorem ty_isBoolT_52 : isBoolT Try.prog 52 = false := by kernel_rfl
theorem ty_tBuilt_52 : tBuilt Try.prog 52 = some ([(0, 1), (1, 1)], [Value.slice none 0 0, Value.slice none 0 0]) := by kernel_rfl
theorem ty_tShape_55 : tShape Try.prog 55 = some (some 2) := by kernel_rfl
theorem ty_tZero_55 : tZero Try.prog 55 = some [Value.int IntKind.i64 0, Value.int IntKind.i64 0] := by kernel_rfl
theorem ty_tElt_55 : tElt Try.prog 55 = none := by kernel_rfl
theorem ty_tArr_55 : tArr Try.prog 55 = some (2, 1) := by kernel_rfl
theorem ty_nCells_55 : nCells Try.prog 55 = some 2 := by kernel_rfl
theorem ty_tFlat_55 : tFlat Try.prog 55 = some 2 := by kernel_rfl
theorem ty_isBoolT_55 : isBoolT Try.prog 55 = false := by kernel_rfl
theorem ty_tBuilt_55 : tBuilt Try.prog 55 = some ([(0, 1), (1, 1)], [Value.int IntKind.i64 0, Value.int IntKind.i64 0]) := by kernel_rfl
theorem ty_tShape_59 : tShape Try.prog 59 = some (some 2) := by kernel_rfl
theorem ty_tZero_59 : tZero Try.prog 59 = some [Value.slice none 0 0, Value.slice none 0 0] := by kernel_rfl
theorem ty_nCells_59 : nCells Try.prog 59 = some 2 := by kernel_rfl
theorem ty_tFlat_59 : tFlat Try.prog 59 = none := by kernel_rfl
theorem ty_isBoolT_59 : isBoolT Try.prog 59 = false := by kernel_rfl
theorem ty_tBuilt_59 : tBuilt Try.prog 59 = some ([(0, 1), (1, 1)], [Value.slice none 0 0, Value.slice none 0 0]) := by kernel_rfl
theorem ty_tFld_59_0 : tFld Try.prog 59 0 = some 0 := by kernel_rfl
theorem ty_tFldV_59_0 : tFldV Try.prog 59 0 = some (0, none) := by kernel_rfl
theorem ty_tFld_59_1 : tFld Try.prog 59 1 = some 1 := by kernel_rfl
theorem ty_tFldV_59_1 : tFldV Try.prog 59 1 = some (1, none) := by kernel_rfl
theorem ty_tShape_62 : tShape Try.prog 62 = some none := by kernel_rfl
theorem ty_tZero_62 : tZero Try.prog 62 = some [Value.nilFunc] := by kernel_rfl
theorem ty_nCells_62 : nCells Try.prog 62 = some 1 := by kernel_rfl
theorem ty_tFlat_62 : tFlat Try.prog 62 = none := by kernel_rfl
theorem ty_isBoolT_62 : isBoolT Try.prog 62 = false := by kernel_rfl
theorem ty_tShape_63 : tShape Try.prog 63 = some none := by kernel_rfl
theorem ty_tZero_63 : tZero Try.prog 63 = some [Value.slice none 0 0] := by kernel_rfl
theorem ty_tElt_63 : tElt Try.prog 63 = some (65, 2, 16) := by kernel_rfl
theorem ty_nCells_63 : nCells Try.prog 63 = some 1 := by kernel_rfl
theorem ty_tFlat_63 : tFlat Try.prog 63 = none := by kernel_rfl
theorem ty_isBoolT_63 : isBoolT Try.prog 63 = false := by kernel_rfl
theorem ty_tShape_64 : tShape Try.prog 64 = some (some 2) := by kernel_rfl
theorem ty_tZero_64 : tZero Try.prog 64 = some [Value.int IntKind.i64 0, Value.int IntKind.i64 0] := by kernel_rfl
theorem ty_nCells_64 : nCells Try.prog 64 = some 2 := by kernel_rfl
theorem ty_tFlat_64 : tFlat Try.prog 64 = some 2 := by kernel_rfl
theorem ty_isBoolT_64 : isBoolT Try.prog 64 = false := by kernel_rfl
theorem ty_tBuilt_64 : tBuilt Try.prog 64 = some ([(0, 1), (1, 1)], [Value.int IntKind.i64 0, Value.int IntKind.i64 0]) := by kernel_rfl
theorem ty_tFld_64_0 : tFld Try.prog 64 0 = some 0 := by kernel_rfl
theorem ty_tFldV_64_0 : tFldV Try.prog 64 0 = some (0, none) := by kernel_rfl
theorem ty_tFld_64_1 : tFld Try.prog 64 1 = some 1 := by kernel_rfl
theorem ty_tFldV_64_1 : tFldV Try.prog 64 1 = some (1, none) := by kernel_rfl
theorem ty_tShape_65 : tShape Try.prog 65 = some (some 2) := by kernel_rfl
theorem ty_tZero_65 : tZero Try.prog 65 = some [Value.int IntKind.i64 0, Value.int IntKind.i64 0] := by kernel_rfl
theorem ty_nCells_65 : nCells Try.prog 65 = some 2 := by kernel_rfl
theorem ty_tFlat_65 : tFlat Try.prog 65 = some 2 := by kernel_rfl
theorem ty_isBoolT_65 : isBoolT Try.prog 65 = false := by kernel_rfl
theorem ty_tBuilt_65 : tBuilt Try.prog 65 = some ([(0, 1), (1, 1)], [Value.int IntKind.i64 0, Value.int IntKind.i64 0]) := by kernel_rfl
theorem ty_tFld_65_0 : tFld Try.prog 65 0 = some 0 := by kernel_rfl
theorem ty_tFldV_65_0 : tFldV Try.prog 65 0 = some (0, none) := by kernel_rfl
theorem ty_tFld_65_1 : tFld Try.prog 65 1 = some 1 := by kernel_rfl
theorem ty_tFldV_65_1 : tFldV Try.prog 65 1 = some (1, none) := by kernel_rfl
theorem ty_tShape_101 : tShape Try.prog 101 = some none := by kernel_rfl
theorem ty_tZero_101 : tZero Try.prog 101 = some [Value.slice none 0 0] := by kernel_rfl
theorem ty_tElt_101 : tElt Try.prog 101 = some (123, 4, 80) := by kernel_rfl
theorem ty_nCells_101 : nCells Try.prog 101 = some 1 := by kernel_rfl
theorem ty_tFlat_101 : tFlat Try.prog 101 = none := by kernel_rfl
theorem ty_isBoolT_101 : isBoolT Try.prog 101 = false := by kernel_rfl
theorem ty_tShape_103 : tShape Try.prog 103 = some (some 2) := by kernel_rfl
theorem ty_tZero_103 : tZero Try.prog 103 = some [Value.int IntKind.i64 0, Value.slice none 0 0] := by kernel_rfl
theorem ty_nCells_103 : nCells Try.prog 103 = some 2 := by kernel_rfl
theorem ty_tFlat_103 : tFlat Try.prog 103 = none := by kernel_rfl
theorem ty_isBoolT_103 : isBoolT Try.prog 103 = false := by kernel_rfl
theorem ty_tBuilt_103 : tBuilt Try.prog 103 = some ([(0, 1), (1, 1)], [Value.int IntKind.i64 0, Value.slice none 0 0]) := by kernel_rfl
theorem ty_tFld_103_0 : tFld Try.prog 103 0 = some 0 := by kernel_rfl
theorem ty_tFldV_103_0 : tFldV Try.prog 103 0 = some (0, none) := by kernel_rfl
theorem ty_tFld_103_1 : tFld Try.prog 103 1 = some 1 := by kernel_rfl
theorem ty_tFldV_103_1 : tFldV Try.prog 103 1 = some (1, none) := by kernel_rfl
theorem ty_tShape_105 : tShape Try.prog 105 = some none := by kernel_rfl
theorem ty_tZero_105 : tZero Try.prog 105 = some [Value.slice none 0 0] := by kernel_rfl
theorem ty_tElt_105 : tElt Try.prog 105 = some (129, 4, 80) := by kernel_rfl
theorem ty_nCells_105 : nCells Try.prog 105 = some 1 := by kernel_rfl
theorem ty_tFlat_105 : tFlat Try.prog 105 = none := by kernel_rfl
theorem ty_isBoolT_105 : isBoolT Try.prog 105 = false := by kernel_rfl
theorem ty_tShape_107 : tShape Try.prog 107 = some (some 2) := by kernel_rfl
theorem ty_tZero_107 : tZero Try.prog 107 = some [Value.int IntKind.i64 0, Value.slice none 0 0] := by kernel_rfl
theorem ty_nCells_107 : nCells Try.prog 107 = some 2 := by kernel_rfl
theorem ty_tFlat_107 : tFlat Try.prog 107 = none := by kernel_rfl
theorem ty_isBoolT_107 : isBoolT Try.prog 107 = false := by kernel_rfl
theorem ty_tBuilt_107 : tBuilt Try.prog 107 = some ([(0, 1), (1, 1)], [Value.int IntKind.i64 0, Value.slice none 0 0]) := by kernel_rfl
theorem ty_tFld_107_0 : tFld Try.prog 107 0 = some 0 := by kernel_rfl
theorem ty_tFldV_107_0 : tFldV Try.prog 107 0 = some (0, none) := by kernel_rfl
theorem ty_tFld_107_1 : tFld Try.prog 107 1 = some 1 := by kernel_rfl
theorem ty_tFldV_107_1 : tFldV Try.prog 107 1 = some (1, none) := by kernel_rfl
theorem ty_tShape_111 : tShape Try.prog 111 = some (some 6) := by kernel_rfl
theorem ty_tZero_111 : tZero Try.prog 111 = some [Value.bool false, Value.bool false, Value.bool false, Value.bool false, Value.bool false, Value.bool false] := by kernel_rfl
theorem ty_tElt_111 : tElt Try.prog 111 = none := by kernel_rfl
theorem ty_tArr_111 : tArr Try.prog 111 = some (6, 1) := by kernel_rfl
theorem ty_nCells_111 : nCells Try.prog 111 = some 6 := by kernel_rfl
theorem ty_tFlat_111 : tFlat Try.prog 111 = none := by kernel_rfl
theorem ty_isBoolT_111 : isBoolT Try.prog 111 = false := by kernel_rfl
theorem ty_tBuilt_111 : tBuilt Try.prog 111 = some ([(0, 1), (1, 1), (2, 1), (3, 1), (4, 1), (5, 1)], [Value.bool false, Value.bool false, Value.bool false, Value.bool false, Value.bool false, Value.bool false]) := by kernel_rfl
theorem ty_tShape_112 : tShape Try.prog 112 = some (some 36) := by kernel_rfl
theorem ty_tZero_112 : tZero Try.prog 112 = some [Value.bool false, Value.bool false, Value.bool false, Value.bool false, Value.bool false, Value.bool false, Value.bool false, Value.bool false, Value.bool false, Value.bool false, Value.bool false, Value.bool false, Value.bool false, Value.bool false, Value.bool false, Value.bool false, Value.bool false, Value.bool false, Value.bool false, Value.bool false, Value.bool false, Value.bool false, Value.bool false, Value.bool false, Value.bool false, Value.bool false, Value.bool false, Value.bool false, Value.bool false, Value.bool false, Value.bool false, Value.bool false, Value.bool false, Value.bool false, Value.bool false, Value.bool false] := by kernel_rfl
theorem ty_tElt_112 : tElt Try.prog 112 = none := by kernel_rfl
theorem ty_tArr_112 : tArr Try.prog 112 = some (6, 6) := by kernel_rfl
theorem ty_nCells_112 : nCells Try.prog 112 = some 36 := by kernel_rfl
theorem ty_tFlat_112 : tFlat Try.prog 112 = none := by kernel_rfl
theorem ty_isBoolT_112 : isBoolT Try.prog 112 = false := by kernel_rfl
theorem ty_tBuilt_112 : tBuilt Try.prog 112 = some ([(0, 6), (6, 6), (12, 6), (18, 6), (24, 6), (30, 6)], [Value.bool false, Value.bool false, Value.bool false, Value.bool false, Value.bool false, Value.bool false, Value.bool false, Value.bool false, Value.bool false, Value.bool false, Value.bool false, Value.bool false, Value.bool false, Value.bool false, Value.bool false, Value.bool false, Value.bool false, Value.bool false, Value.bool false, Value.bool false, Value.bool false, Value.bool false, Value.bool false, Value.bool false, Value.bool false, Value.bool false, Value.bool false, Value.bool false, Value.bool false, Value.bool false, Value.bool false, Value.bool false, Value.bool false, Value.bool false, Value.bool false, Value.bool false]) := by kernel_rfl
theorem ty_tShape_113 : tShape Try.prog 113 = some none := by kernel_rfl
theorem ty_tZero_113 : tZero Try.prog 113 = some [Value.slice none 0 0] := by kernel_rfl
theorem ty_tElt_113 : tElt Try.prog 113 = some (4, 1, 1) := by kernel_rfl
theorem ty_nCells_113 : nCells Try.prog 113 = some 1 := by kernel_rfl
theorem ty_tFlat_113 : tFlat Try.prog 113 = none := by kernel_rfl
theorem ty_isBoolT_113 : isBoolT Try.prog 113 = false := by kernel_rfl
theorem ty_tShape_114 : tShape Try.prog 114 = some none := by kernel_rfl
theorem ty_tZero_114 : tZero Try.prog 114 = some [Value.nilFunc] := by kernel_rfl
theorem ty_nCells_114 : nCells Try.prog 114 = some 1 := by kernel_rfl
theorem ty_tFlat_114 : tFlat Try.prog 114 = none := by kernel_rfl
theorem ty_isBoolT_114 : isBoolT Try.prog 114 = false := by kernel_rfl
theorem ty_tShape_115 : tShape Try.prog 115 = some none := by kernel_rfl
theorem ty_tZero_115 : tZero Try.prog 115 = some [Value.nilFunc] := by kernel_rfl
theorem ty_nCells_115 : nCells Try.prog 115 = some 1 := by kernel_rfl
theorem ty_tFlat_115 : tFlat Try.prog 115 = none := by kernel_rfl
theorem ty_isBoolT_115 : isBoolT Try.prog 115 = false := by kernel_rfl
theorem ty_tShape_116 : tShape Try.prog 116 = some none := by kernel_rfl
theorem ty_tZero_116 : tZero Try.prog 116 = some [Value.nilFunc] := by kernel_rfl
theorem ty_nCells_116 : nCells Try.prog 116 = some 1 := by kernel_rfl
theorem ty_tFlat_116 : tFlat Try.prog 116 = none := by kernel_rfl
theorem ty_isBoolT_116 : isBoolT Try.prog 116 = false := by kernel_rfl
theorem ty_tShape_117 : tShape Try.prog 117 = some none := by kernel_rfl
theorem ty_tZero_117 : tZero Try.prog 117 = some [Value.nilFunc] := by kernel_rfl
theorem ty_nCells_117 : nCells Try.prog 117 = some 1 := by kernel_rfl
theorem ty_tFlat_117 : tFlat Try.prog 117 = none := by kernel_rfl
theorem ty_isBoolT_117 : isBoolT Try.prog 117 = false := by kernel_rfl
theorem ty_tShape_120 : tShape Try.prog 120 = some none := by kernel_rfl
theorem ty_tZero_120 : tZero Try.prog 120 = some [Value.slice none 0 0] := by kernel_rfl
theorem ty_tElt_120 : tElt Try.prog 120 = some (168, 2, 32) := by kernel_rfl
theorem ty_nCells_120 : nCells Try.prog 120 = some 1 := by kernel_rfl
theorem ty_tFlat_120 : tFlat Try.prog 120 = none := by kernel_rfl
theorem ty_isBoolT_120 : isBoolT Try.prog 120 = false := by kernel_rfl
theorem ty_tShape_121 : tShape Try.prog 121 = some none := by kernel_rfl
theorem ty_tZero_121 : tZero Try.prog 121 = some [Value.slice none 0 0] := by kernel_rfl
theorem ty_tElt_121 : tElt Try.prog 121 = some (171, 3, 24) := by kernel_rfl
theorem ty_nCells_121 : nCells Try.prog 121 = some 1 := by kernel_rfl
theorem ty_tFlat_121 : tFlat Try.prog 121 = none := by kernel_rfl
theorem ty_isBoolT_121 : isBoolT Try.prog 121 = false := by kernel_rfl
theorem ty_tShape_123 : tShape Try.prog 123 = some (some 4) := by kernel_rfl
theorem ty_tZero_123 : tZero Try.prog 123 = some [Value.int IntKind.i64 0, Value.slice none 0 0, Value.slice none 0 0, Value.slice none 0 0] := by kernel_rfl
theorem ty_nCells_123 : nCells Try.prog 123 = some 4 := by kernel_rfl
theorem ty_tFlat_123 : tFlat Try.prog 123 = none := by kernel_rfl
theorem ty_isBoolT_123 : isBoolT Try.prog 123 = false := by kernel_rfl
theorem ty_tBuilt_123 : tBuilt Try.prog 123 = some ([(0, 1), (1, 1), (2, 1), (3, 1)], [Value.int IntKind.i64 0, Value.slice none 0 0, Value.slice none 0 0, Value.slice none 0 0]) := by kernel_rfl
theorem ty_tFld_123_0 : tFld Try.prog 123 0 = some 0 := by kernel_rfl
theorem ty_tFldV_123_0 : tFldV Try.prog 123 0 = some (0, none) := by kernel_rfl
theorem ty_tFld_123_1 : tFld Try.prog 123 1 = some 1 := by kernel_rfl
theorem ty_tFldV_123_1 : tFldV Try.prog 123 1 = some (1, none) := by kernel_rfl
theorem ty_tFld_123_2 : tFld Try.prog 123 2 = some 2 := by kernel_rfl
theorem ty_tFldV_123_2 : tFldV Try.prog 123 2 = some (2, none) := by kernel_rfl
theorem ty_tFld_123_3 : tFld Try.prog 123 3 = some 3 := by kernel_rfl
theorem ty_tFldV_123_3 : tFldV Try.prog 123 3 = some (3, none) := by kernel_rfl
theorem ty_tShape_124 : tShape Try.prog 124 = some none := by kernel_rfl
theorem ty_tZero_124 : tZero Try.prog 124 = some [Value.nilFunc] := by kernel_rfl
theorem ty_nCells_124 : nCells Try.prog 124 = some 1 := by kernel_rfl
theorem ty_tFlat_124 : tFlat Try.prog 124 = none := by kernel_rfl
theorem ty_isBoolT_124 : isBoolT Try.prog 124 = false := by kernel_rfl
theorem ty_tShape_126 : tShape Try.prog 126 = some none := by kernel_rfl
theorem ty_tZero_126 : tZero Try.prog 126 = some [Value.slice none 0 0] := by kernel_rfl
theorem ty_tElt_126 : tElt Try.prog 126 = some (156, 2, 32) := by kernel_rfl
theorem ty_nCells_126 : nCells Try.prog 126 = some 1 := by kernel_rfl
theorem ty_tFlat_126 : tFlat Try.prog 126 = none := by kernel_rfl
theorem ty_isBoolT_126 : isBoolT Try.prog 126 = false := by kernel_rfl
theorem ty_tShape_127 : tShape Try.prog 127 = some none := by kernel_rfl
theorem ty_tZero_127 : tZero Try.prog 127 = some [Value.slice none 0 0] := by kernel_rfl
theorem ty_tElt_127 : tElt Try.prog 127 = some (173, 3, 24) := by kernel_rfl
theorem ty_nCells_127 : nCells Try.prog 127 = some 1 := by kernel_rfl
theorem ty_tFlat_127 : tFlat Try.prog 127 = none := by kernel_rfl
theorem ty_isBoolT_127 : isBoolT Try.prog 127 = false := by kernel_rfl
theorem ty_tShape_129 : tShape Try.prog 129 = some (some 4) := by kernel_rfl
theorem ty_tZero_129 : tZero Try.prog 129 = some [Value.int IntKind.i64 0, Value.slice none 0 0, Value.slice none 0 0, Value.slice none 0 0] := by kernel_rfl
theorem ty_nCells_129 : nCells Try.prog 129 = some 4 := by kernel_rfl
theorem ty_tFlat_129 : tFlat Try.prog 129 = none := by kernel_rfl
theorem ty_isBoolT_129 : isBoolT Try.prog 129 = false := by kernel_rfl
theorem ty_tBuilt_129 : tBuilt Try.prog 129 = some ([(0, 1), (1, 1), (2, 1), (3, 1)], [Value.int IntKind.i64 0, Value.slice none 0 0, Value.slice none 0 0, Value.slice none 0 0]) := by kernel_rfl
theorem ty_tFld_129_0 : tFld Try.prog 129 0 = some 0 := by kernel_rfl
theorem ty_tFldV_129_0 : tFldV Try.prog 129 0 = some (0, none) := by kernel_rfl
theorem ty_tFld_129_1 : tFld Try.prog 129 1 = some 1 := by kernel_rfl
theorem ty_tFldV_129_1 : tFldV Try.prog 129 1 = some (1, none) := by kernel_rfl
theorem ty_tFld_129_2 : tFld Try.prog 129 2 = some 2 := by kernel_rfl
theorem ty_tFldV_129_2 : tFldV Try.prog 129 2 = some (2, none) := by kernel_rfl
theorem ty_tFld_129_3 : tFld Try.prog 129 3 = some 3 := by kernel_rfl
theorem ty_tFldV_129_3 : tFldV Try.prog 129 3 = some (3, none) := by kernel_rfl
theorem ty_tShape_146 : tShape Try.prog 146 = some (some 9) := by kernel_rfl
theorem ty_tZero_146 : tZero Try.prog 146 = some [Value.int IntKind.i64 0, Value.slice none 0 0, Value.slice none 0 0, Value.slice none 0 0, Value.int IntKind.i64 0, Value.int IntKind.i64 0, Value.slice none 0 0, Value.int IntKind.i64 0, Value.slice none 0 0] := by kernel_rfl
theorem ty_nCells_146 : nCells Try.prog 146 = some 9 := by kernel_rfl
theorem ty_tFlat_146 : tFlat Try.prog 146 = none := by kernel_rfl
theorem ty_isBoolT_146 : isBoolT Try.prog 146 = false := by kernel_rfl
theorem ty_tBuilt_146 : tBuilt Try.prog 146 = some ([(0, 4), (4, 1), (5, 2), (7, 2)], [Value.int IntKind.i64 0, Value.slice none 0 0, Value.slice none 0 0, Value.slice none 0 0, Value.int IntKind.i64 0, Value.int IntKind.i64 0, Value.slice none 0 0, Value.int IntKind.i64 0, Value.slice none 0 0]) := by kernel_rfl
theorem ty_tFld_146_0 : tFld Try.prog 146 0 = some 0 := by kernel_rfl
theorem ty_tFldV_146_0 : tFldV Try.prog 146 0 = some (0, some 4) := by kernel_rfl
theorem ty_tFld_146_1 : tFld Try.prog 146 1 = some 4 := by kernel_rfl
theorem ty_tFldV_146_1 : tFldV Try.prog 146 1 = some (4, none) := by kernel_rfl
theorem ty_tFld_146_2 : tFld Try.prog 146 2 = some 5 := by kernel_rfl
theorem ty_tFldV_146_2 : tFldV Try.prog 146 2 = some (5, some 2) := by kernel_rfl
theorem ty_tFld_146_3 : tFld Try.prog 146 3 = some 7 := by kernel_rfl
theorem ty_tFldV_146_3 : tFldV Try.prog 146 3 = some (7, some 2) := by kernel_rfl
theorem ty_tShape_154 : tShape Try.prog 154 = some none := by kernel_rfl
theorem ty_tZero_154 : tZero Try.prog 154 = some [Value.slice none 0 0] := by kernel_rfl
theorem ty_tElt_154 : tElt Try.prog 154 = some (160, 2, 16) := by kernel_rfl
theorem ty_nCells_154 : nCells Try.prog 154 = some 1 := by kernel_rfl
theorem ty_tFlat_154 : tFlat Try.prog 154 = none := by kernel_rfl
theorem ty_isBoolT_154 : isBoolT Try.prog 154 = false := by kernel_rfl
theorem ty_tShape_156 : tShape Try.prog 156 = some (some 2) := by kernel_rfl
theorem ty_tZero_156 : tZero Try.prog 156 = some [Value.int IntKind.i64 0, Value.slice none 0 0] := by kernel_rfl
theorem ty_nCells_156 : nCells Try.prog 156 = some 2 := by kernel_rfl
theorem ty_tFlat_156 : tFlat Try.prog 156 = none := by kernel_rfl
theorem ty_isBoolT_156 : isBoolT Try.prog 156 = false := by kernel_rfl
theorem ty_tBuilt_156 : tBuilt Try.prog 156 = some ([(0, 1), (1, 1)], [Value.int IntKind.i64 0, Value.slice none 0 0]) := by kernel_rfl
theorem ty_tFld_156_0 : tFld Try.prog 156 0 = some 0 := by kernel_rfl
theorem ty_tFldV_156_0 : tFldV Try.prog 156 0 = some (0, none) := by kernel_rfl
theorem ty_tFld_156_1 : tFld Try.prog 156 1 = some 1 := by kernel_rfl
theorem ty_tFldV_156_1 : tFldV Try.prog 156 1 = some (1, none) := by kernel_rfl
theorem ty_tShape_160 : tShape Try.prog 160 = some (some 2) := by kernel_rfl
theorem ty_tZero_160 : tZero Try.prog 160 = some [Value.int IntKind.i64 0, Value.int IntKind.i64 0] := by kernel_rfl
theorem ty_nCells_160 : nCells Try.prog 160 = some 2 := by kernel_rfl
theorem ty_tFlat_160 : tFlat Try.prog 160 = some 2 := by kernel_rfl
theorem ty_isBoolT_160 : isBoolT Try.prog 160 = false := by kernel_rfl
theorem ty_tBuilt_160 : tBuilt Try.prog 160 = some ([(0, 1), (1, 1)], [Value.int IntKind.i64 0, Value.int IntKind.i64 0]) := by kernel_rfl
theorem ty_tFld_160_0 : tFld Try.prog 160 0 = some 0 := by kernel_rfl
theorem ty_tFldV_160_0 : tFldV Try.prog 160 0 = some (0, none) := by kernel_rfl
theorem ty_tFld_160_1 : tFld Try.prog 160 1 = some 1 := by kernel_rfl
theorem ty_tFldV_160_1 : tFldV Try.prog 160 1 = some (1, none) := by kernel_rfl
theorem ty_tShape_166 : tShape Try.prog 166 = some none := by kernel_rfl
theorem ty_tZero_166 : tZero Try.prog 166 = some [Value.slice none 0 0] := by kernel_rfl
theorem ty_tElt_166 : tElt Try.prog 166 = some (169, 2, 16) := by kernel_rfl
theorem ty_nCells_166 : nCells Try.prog 166 = some 1 := by kernel_rfl
theorem ty_tFlat_166 : tFlat Try.prog 166 = none := by kernel_rfl
theorem ty_isBoolT_166 : isBoolT Try.prog 166 = false := by kernel_rfl
theorem ty_tShape_168 : tShape Try.prog 168 = some (some 2) := by kernel_rfl
theorem ty_tZero_168 : tZero Try.prog 168 = some [Value.int IntKind.i64 0, Value.slice none 0 0] := by kernel_rfl
theorem ty_nCells_168 : nCells Try.prog 168 = some 2 := by kernel_rfl
theorem ty_tFlat_168 : tFlat Try.prog 168 = none := by kernel_rfl
theorem ty_isBoolT_168 : isBoolT Try.prog 168 = false := by kernel_rfl
theorem ty_tBuilt_168 : tBuilt Try.prog 168 = some ([(0, 1), (1, 1)], [Value.int IntKind.i64 0, Value.slice none 0 0]) := by kernel_rfl
theorem ty_tFld_168_0 : tFld Try.prog 168 0 = some 0 := by kernel_rfl
theorem ty_tFldV_168_0 : tFldV Try.prog 168 0 = some (0, none) := by kernel_rfl
theorem ty_tFld_168_1 : tFld Try.prog 168 1 = some 1 := by kernel_rfl
theorem ty_tFldV_168_1 : tFldV Try.prog 168 1 = some (1, none) := by kernel_rfl
theorem ty_tShape_169 : tShape Try.prog 169 = some (some 2) := by kernel_rfl
theorem ty_tZero_169 : tZero Try.prog 169 = some [Value.int IntKind.i64 0, Value.int IntKind.i64 0] := by kernel_rfl
theorem ty_nCells_169 : nCells Try.prog 169 = some 2 := by kernel_rfl
theorem ty_tFlat_169 : tFlat Try.prog 169 = some 2 := by kernel_rfl
theorem ty_isBoolT_169 : isBoolT Try.prog 169 = false := by kernel_rfl
theorem ty_tBuilt_169 : tBuilt Try.prog 169 = some ([(0, 1), (1, 1)], [Value.int IntKind.i64 0, Value.int IntKind.i64 0]) := by kernel_rfl
theorem ty_tFld_169_0 : tFld Try.prog 169 0 = some 0 := by kernel_rfl
theorem ty_tFldV_169_0 : tFldV Try.prog 169 0 = some (0, none) := by kernel_rfl
theorem ty_tFld_169_1 : tFld Try.prog 169 1 = some 1 := by kernel_rfl
theorem ty_tFldV_169_1 : tFldV Try.prog 169 1 = some (1, none) := by kernel_rfl
theorem ty_tShape_171 : tShape Try.prog 171 = some (some 3) := by kernel_rfl
theorem ty_tZero_171 : tZero Try.prog 171 = some [Value.int IntKind.i64 0, Value.int IntKind.i64 0, Value.int IntKind.i64 0] := by kernel_rfl
theorem ty_nCells_171 : nCells Try.prog 171 = some 3 := by kernel_rfl
theorem ty_tFlat_171 : tFlat Try.prog 171 = some 3 := by kernel_rfl
theorem ty_isBoolT_171 : isBoolT Try.prog 171 = false := by kernel_rfl
theorem ty_tBuilt_171 : tBuilt Try.prog 171 = some ([(0, 1), (1, 1), (2, 1)], [Value.int IntKind.i64 0, Value.int IntKind.i64 0, Value.int IntKind.i64 0]) := by kernel_rfl
theorem ty_tFld_171_0 : tFld Try.prog 171 0 = some 0 := by kernel_rfl
theorem ty_tFldV_171_0 : tFldV Try.prog 171 0 = some (0, none) := by kernel_rfl
theorem ty_tFld_171_1 : tFld Try.prog 171 1 = some 1 := by kernel_rfl
theorem ty_tFldV_171_1 : tFldV Try.prog 171 1 = some (1, none) := by kernel_rfl
theorem ty_tFld_171_2 : tFld Try.prog 171 2 = some 2 := by kernel_rfl
theorem ty_tFldV_171_2 : tFldV Try.prog 171 2 = some (2, none) := by kernel_rfl
theorem ty_tShape_173 : tShape Try.prog 173 = some (some 3) := by kernel_rfl
theorem ty_tZero_173 : tZero Try.prog 173 = some [Value.int IntKind.i64 0, Value.int IntKind.i64 0, Value.int IntKind.i64 0] := by kernel_rfl
theorem ty_nCells_173 : nCells Try.prog 173 = some 3 := by kernel_rfl
theorem ty_tFlat_173 : tFlat Try.prog 173 = some 3 := by kernel_rfl
theorem ty_isBoolT_173 : isBoolT Try.prog 173 = false := by kernel_rfl
theorem ty_tBuilt_173 : tBuilt Try.prog 173 = some ([(0, 1), (1, 1), (2, 1)], [Value.int IntKind.i64 0, Value.int IntKind.i64 0, Value.int IntKind.i64 0]) := by kernel_rfl
theorem ty_tFld_173_0 : tFld Try.prog 173 0 = some 0 := by kernel_rfl
theorem ty_tFldV_173_0 : tFldV Try.prog 173 0 = some (0, none) := by kernel_rfl
theorem ty_tFld_173_1 : tFld Try.prog 173 1 = some 1 := by kernel_rfl
theorem ty_tFldV_173_1 : tFldV Try.prog 173 1 = some (1, none) := by kernel_rfl
theorem ty_tFld_173_2 : tFld Try.prog 173 2 = some 2 := by kernel_rfl
theorem ty_tFldV_173_2 : tFldV Try.prog 173 2 = some (2, none) := by kernel_rfl
theorem ty_tShape_179 : tShape Try.prog 179 = some none := by kernel_rfl
theorem ty_tZero_179 : tZero Try.prog 179 = some [Value.map none] := by kernel_rfl
theorem ty_nCells_179 : nCells Try.prog 179 = some 1 := by kernel_rfl
theorem ty_tFlat_179 : tFlat Try.prog 179 = none := by kernel_rfl
theorem ty_tMap_179 : tMap Try.prog 179 = some (55, 3, true, 2) := by kernel_rfl
theorem ty_isBoolT_179 : isBoolT Try.prog 179 = false := by kernel_rfl
theorem ty_tShape_183 : tShape Try.prog 183 = some (some 1) := by kernel_rfl
theorem ty_tZero_183 : tZero Try.prog 183 = some [Value.nilFunc] := by kernel_rfl
theorem ty_nCells_183 : nCells Try.prog 183 = some 1 := by kernel_rfl
theorem ty_tFlat_183 : tFlat Try.prog 183 = none := by kernel_rfl
theorem ty_isBoolT_183 : isBoolT Try.prog 183 = false := by kernel_rfl
theorem ty_tBuilt_183 : tBuilt Try.prog 183 = some ([(0, 1)], [Value.nilFunc]) := by kernel_rfl
theorem ty_tFld_183_0 : tFld Try.prog 183 0 = some 0 := by kernel_rfl
theorem ty_tFldV_183_0 : tFldV Try.prog 183 0 = some (0, none) := by kernel_rfl
theorem ty_tShape_184 : tShape Try.prog 184 = some none := by kernel_rfl
theorem ty_tZero_184 : tZero Try.prog 184 = some [Value.slice none 0 0] := by kernel_rfl
theorem ty_tElt_184 : tElt Try.prog 184 = some (183, 1, 8) := by kernel_rfl
theorem ty_nCells_184 : nCells Try.prog 184 = some 1 := by kernel_rfl
theorem ty_tFlat_184 : tFlat Try.prog 184 = none := by kernel_rfl
theorem ty_isBoolT_184 : isBoolT Try.prog 184 = false := by kernel_rfl
theorem ty_tShape_187 : tShape Try.prog 187 = some none := by kernel_rfl
theorem ty_tZero_187 : tZero Try.prog 187 = some [Value.nilFunc] := by kernel_rfl
theorem ty_nCells_187 : nCells Try.prog 187 = some 1 := by kernel_rfl
theorem ty_tFlat_187 : tFlat Try.prog 187 = none := by kernel_rfl
theorem ty_isBoolT_187 : isBoolT Try.prog 187 = false := by kernel_rfl
theorem ty_tShape_189 : tShape Try.prog 189 = some none := by kernel_rfl
theorem ty_tZero_189 : tZero Try.prog 189 = some [Value.nilFunc] := by kernel_rfl
theorem ty_nCells_189 : nCells Try.prog 189 = some 1 := by kernel_rfl
theorem ty_tFlat_189 : tFlat Try.prog 189 = none := by kernel_rfl
theorem ty_isBoolT_189 : isBoolT Try.prog 189 = false := by kernel_rfl
theorem ty_tShape_191 : tShape Try.prog 191 = some none := by kernel_rfl
theorem ty_tZero_191 : tZero Try.prog 191 = some [Value.int IntKind.u64 0] := by kernel_rfl
theorem ty_tInt_191 : tInt Try.prog 191 = some IntKind.u64 := by kernel_rfl
theorem ty_nCells_191 : nCells Try.prog 191 = some 1 := by kernel_rfl
theorem ty_tFlat_191 : tFlat Try.prog 191 = none := by kernel_rfl
theorem ty_isBoolT_191 : isBoolT Try.prog 191 = false := by kernel_rfl
theorem ty_tShape_200 : tShape Try.prog 200 = some none := by kernel_rfl
theorem ty_tZero_200 : tZero Try.prog 200 = some [Value.int IntKind.u64 0] := by kernel_rfl
theorem ty_tInt_200 : tInt Try.prog 200 = some IntKind.u64 := by kernel_rfl
theorem ty_nCells_200 : nCells Try.prog 200 = some 1 := by kernel_rfl
theorem ty_tFlat_200 : tFlat Try.prog 200 = none := by kernel_rfl
theorem ty_isBoolT_200 : isBoolT Try.prog 200 = false := by kernel_rfl
theorem ty_hm : Try.prog.follows .mixedOrders = true := by kernel_rfl
end Go.Proofs.Ytgkjgpbinblmdaa

