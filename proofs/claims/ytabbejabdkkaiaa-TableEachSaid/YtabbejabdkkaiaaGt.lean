/- What the operations ask of the program's types,as facts. No condition. -/
import Derived.Test.YtabbejabdkkaiaaKG
import Derived.Test.YtabbejabdkkaiaaRows
namespace Go.Proofs.Ytabbejabdkkaiaa
open Go.RowKit

theorem ty_tShape_1 : tShape Try.prog 1 = some none := by kernel_rfl
theorem ty_tZero_1 : tZero Try.prog 1 = some [Value.nilFunc] := by kernel_rfl
theorem ty_nCells_1 : nCells Try.prog 1 = some 1 := by kernel_rfl
theorem ty_tFlat_1 : tFlat Try.prog 1 = none := by kernel_rfl
theorem ty_isBoolT_1 : isBoolT Try.prog 1 = false := by kernel_rfl
theorem ty_tShape_2 : tShape Try.prog 2 = some none := by kernel_rfl
theorem ty_tZero_2 : tZero Try.prog 2 = some [Value.int IntKind.i64 0] := by kernel_rfl
theorem ty_tInt_2 : tInt Try.prog 2 = some IntKind.i64 := by kernel_rfl
theorem ty_nCells_2 : nCells Try.prog 2 = some 1 := by kernel_rfl
theorem ty_tFlat_2 : tFlat Try.prog 2 = none := by kernel_rfl
theorem ty_isBoolT_2 : isBoolT Try.prog 2 = false := by kernel_rfl
theorem ty_tShape_3 : tShape Try.prog 3 = some none := by kernel_rfl
theorem ty_tZero_3 : tZero Try.prog 3 = some [Value.int IntKind.i64 0] := by kernel_rfl
theorem ty_tInt_3 : tInt Try.prog 3 = some IntKind.i64 := by kernel_rfl
theorem ty_nCells_3 : nCells Try.prog 3 = some 1 := by kernel_rfl
theorem ty_tFlat_3 : tFlat Try.prog 3 = none := by kernel_rfl
theorem ty_tZ1_3 : tZ1 Try.prog 3 = some (Value.int IntKind.i64 0) := by kernel_rfl
theorem ty_isBoolT_3 : isBoolT Try.prog 3 = false := by kernel_rfl
theorem ty_tShape_4 : tShape Try.prog 4 = some none := by kernel_rfl
theorem ty_tZero_4 : tZero Try.prog 4 = some [Value.bool false] := by kernel_rfl
theorem ty_nCells_4 : nCells Try.prog 4 = some 1 := by kernel_rfl
theorem ty_tFlat_4 : tFlat Try.prog 4 = none := by kernel_rfl
theorem ty_isBoolT_4 : isBoolT Try.prog 4 = true := by kernel_rfl
theorem ty_tShape_5 : tShape Try.prog 5 = some none := by kernel_rfl
theorem ty_tZero_5 : tZero Try.prog 5 = some [Value.int IntKind.u8 0] := by kernel_rfl
theorem ty_tInt_5 : tInt Try.prog 5 = some IntKind.u8 := by kernel_rfl
theorem ty_nCells_5 : nCells Try.prog 5 = some 1 := by kernel_rfl
theorem ty_tFlat_5 : tFlat Try.prog 5 = none := by kernel_rfl
theorem ty_isBoolT_5 : isBoolT Try.prog 5 = false := by kernel_rfl
theorem ty_tShape_22 : tShape Try.prog 22 = some none := by kernel_rfl
theorem ty_tZero_22 : tZero Try.prog 22 = some [Value.slice none 0 0] := by kernel_rfl
theorem ty_tElt_22 : tElt Try.prog 22 = some (38,2,32) := by kernel_rfl
theorem ty_nCells_22 : nCells Try.prog 22 = some 1 := by kernel_rfl
theorem ty_tFlat_22 : tFlat Try.prog 22 = none := by kernel_rfl
theorem ty_isBoolT_22 : isBoolT Try.prog 22 = false := by kernel_rfl
theorem ty_tShape_23 : tShape Try.prog 23 = some none := by kernel_rfl
theorem ty_tZero_23 : tZero Try.prog 23 = some [Value.slice none 0 0] := by kernel_rfl
theorem ty_tElt_23 : tElt Try.prog 23 = some (126,2,16) := by kernel_rfl
theorem ty_nCells_23 : nCells Try.prog 23 = some 1 := by kernel_rfl
theorem ty_tFlat_23 : tFlat Try.prog 23 = none := by kernel_rfl
theorem ty_isBoolT_23 : isBoolT Try.prog 23 = false := by kernel_rfl
theorem ty_tShape_25 : tShape Try.prog 25 = some (some 2) := by kernel_rfl
theorem ty_tZero_25 : tZero Try.prog 25 = some [Value.int IntKind.i64 0,Value.slice none 0 0] := by kernel_rfl
theorem ty_nCells_25 : nCells Try.prog 25 = some 2 := by kernel_rfl
theorem ty_tFlat_25 : tFlat Try.prog 25 = none := by kernel_rfl
theorem ty_isBoolT_25 : isBoolT Try.prog 25 = false := by kernel_rfl
theorem ty_tBuilt_25 : tBuilt Try.prog 25 = some ([(0,1),(1,1)],[Value.int IntKind.i64 0,Value.slice none 0 0]) := by kernel_rfl
theorem ty_tFld_25_0 : tFld Try.prog 25 0 = some 0 := by kernel_rfl
theorem ty_tFldV_25_0 : tFldV Try.prog 25 0 = some (0,none) := by kernel_rfl
theorem ty_tFld_25_1 : tFld Try.prog 25 1 = some 1 := by kernel_rfl
theorem ty_tFldV_25_1 : tFldV Try.prog 25 1 = some (1,none) := by kernel_rfl
theorem ty_tShape_26 : tShape Try.prog 26 = some (some 3) := by kernel_rfl
theorem ty_tZero_26 : tZero Try.prog 26 = some [Value.int IntKind.i64 0,Value.int IntKind.i64 0,Value.int IntKind.i64 0] := by kernel_rfl
theorem ty_tElt_26 : tElt Try.prog 26 = none := by kernel_rfl
theorem ty_tArr_26 : tArr Try.prog 26 = some (3,1) := by kernel_rfl
theorem ty_nCells_26 : nCells Try.prog 26 = some 3 := by kernel_rfl
theorem ty_tFlat_26 : tFlat Try.prog 26 = some 3 := by kernel_rfl
theorem ty_isBoolT_26 : isBoolT Try.prog 26 = false := by kernel_rfl
theorem ty_tBuilt_26 : tBuilt Try.prog 26 = some ([(0,1),(1,1),(2,1)],[Value.int IntKind.i64 0,Value.int IntKind.i64 0,Value.int IntKind.i64 0]) := by kernel_rfl
theorem ty_tShape_30 : tShape Try.prog 30 = some none := by kernel_rfl
theorem ty_tZero_30 : tZero Try.prog 30 = some [Value.slice none 0 0] := by kernel_rfl
theorem ty_tElt_30 : tElt Try.prog 30 = some (132,2,32) := by kernel_rfl
theorem ty_nCells_30 : nCells Try.prog 30 = some 1 := by kernel_rfl
theorem ty_tFlat_30 : tFlat Try.prog 30 = none := by kernel_rfl
theorem ty_isBoolT_30 : isBoolT Try.prog 30 = false := by kernel_rfl
theorem ty_tShape_32 : tShape Try.prog 32 = some (some 2) := by kernel_rfl
theorem ty_tZero_32 : tZero Try.prog 32 = some [Value.int IntKind.i64 0,Value.slice none 0 0] := by kernel_rfl
theorem ty_nCells_32 : nCells Try.prog 32 = some 2 := by kernel_rfl
theorem ty_tFlat_32 : tFlat Try.prog 32 = none := by kernel_rfl
theorem ty_isBoolT_32 : isBoolT Try.prog 32 = false := by kernel_rfl
theorem ty_tBuilt_32 : tBuilt Try.prog 32 = some ([(0,1),(1,1)],[Value.int IntKind.i64 0,Value.slice none 0 0]) := by kernel_rfl
theorem ty_tFld_32_0 : tFld Try.prog 32 0 = some 0 := by kernel_rfl
theorem ty_tFldV_32_0 : tFldV Try.prog 32 0 = some (0,none) := by kernel_rfl
theorem ty_tFld_32_1 : tFld Try.prog 32 1 = some 1 := by kernel_rfl
theorem ty_tFldV_32_1 : tFldV Try.prog 32 1 = some (1,none) := by kernel_rfl
theorem ty_tShape_35 : tShape Try.prog 35 = some none := by kernel_rfl
theorem ty_tZero_35 : tZero Try.prog 35 = some [Value.nilFunc] := by kernel_rfl
theorem ty_nCells_35 : nCells Try.prog 35 = some 1 := by kernel_rfl
theorem ty_tFlat_35 : tFlat Try.prog 35 = none := by kernel_rfl
theorem ty_isBoolT_35 : isBoolT Try.prog 35 = false := by kernel_rfl
theorem ty_tShape_36 : tShape Try.prog 36 = some none := by kernel_rfl
theorem ty_tZero_36 : tZero Try.prog 36 = some [Value.slice none 0 0] := by kernel_rfl
theorem ty_tElt_36 : tElt Try.prog 36 = some (43,4,80) := by kernel_rfl
theorem ty_nCells_36 : nCells Try.prog 36 = some 1 := by kernel_rfl
theorem ty_tFlat_36 : tFlat Try.prog 36 = none := by kernel_rfl
theorem ty_isBoolT_36 : isBoolT Try.prog 36 = false := by kernel_rfl
theorem ty_tShape_38 : tShape Try.prog 38 = some (some 2) := by kernel_rfl
theorem ty_tZero_38 : tZero Try.prog 38 = some [Value.int IntKind.i64 0,Value.slice none 0 0] := by kernel_rfl
theorem ty_nCells_38 : nCells Try.prog 38 = some 2 := by kernel_rfl
theorem ty_tFlat_38 : tFlat Try.prog 38 = none := by kernel_rfl
theorem ty_isBoolT_38 : isBoolT Try.prog 38 = false := by kernel_rfl
theorem ty_tBuilt_38 : tBuilt Try.prog 38 = some ([(0,1),(1,1)],[Value.int IntKind.i64 0,Value.slice none 0 0]) := by kernel_rfl
theorem ty_tFld_38_0 : tFld Try.prog 38 0 = some 0 := by kernel_rfl
theorem ty_tFldV_38_0 : tFldV Try.prog 38 0 = some (0,none) := by kernel_rfl
theorem ty_tFld_38_1 : tFld Try.prog 38 1 = some 1 := by kernel_rfl
theorem ty_tFldV_38_1 : tFldV Try.prog 38 1 = some (1,none) := by kernel_rfl
theorem ty_tShape_39 : tShape Try.prog 39 = some none := by kernel_rfl
theorem ty_tZero_39 : tZero Try.prog 39 = some [Value.slice none 0 0] := by kernel_rfl
theorem ty_tElt_39 : tElt Try.prog 39 = some (3,1,8) := by kernel_rfl
theorem ty_nCells_39 : nCells Try.prog 39 = some 1 := by kernel_rfl
theorem ty_tFlat_39 : tFlat Try.prog 39 = none := by kernel_rfl
theorem ty_isBoolT_39 : isBoolT Try.prog 39 = false := by kernel_rfl
theorem ty_tShape_40 : tShape Try.prog 40 = some none := by kernel_rfl
theorem ty_tZero_40 : tZero Try.prog 40 = some [Value.slice none 0 0] := by kernel_rfl
theorem ty_tElt_40 : tElt Try.prog 40 = some (46,2,32) := by kernel_rfl
theorem ty_nCells_40 : nCells Try.prog 40 = some 1 := by kernel_rfl
theorem ty_tFlat_40 : tFlat Try.prog 40 = none := by kernel_rfl
theorem ty_isBoolT_40 : isBoolT Try.prog 40 = false := by kernel_rfl
theorem ty_tShape_41 : tShape Try.prog 41 = some none := by kernel_rfl
theorem ty_tZero_41 : tZero Try.prog 41 = some [Value.slice none 0 0] := by kernel_rfl
theorem ty_tElt_41 : tElt Try.prog 41 = some (48,3,24) := by kernel_rfl
theorem ty_nCells_41 : nCells Try.prog 41 = some 1 := by kernel_rfl
theorem ty_tFlat_41 : tFlat Try.prog 41 = none := by kernel_rfl
theorem ty_isBoolT_41 : isBoolT Try.prog 41 = false := by kernel_rfl
theorem ty_tShape_43 : tShape Try.prog 43 = some (some 4) := by kernel_rfl
theorem ty_tZero_43 : tZero Try.prog 43 = some [Value.int IntKind.i64 0,Value.slice none 0 0,Value.slice none 0 0,Value.slice none 0 0] := by kernel_rfl
theorem ty_nCells_43 : nCells Try.prog 43 = some 4 := by kernel_rfl
theorem ty_tFlat_43 : tFlat Try.prog 43 = none := by kernel_rfl
theorem ty_isBoolT_43 : isBoolT Try.prog 43 = false := by kernel_rfl
theorem ty_tBuilt_43 : tBuilt Try.prog 43 = some ([(0,1),(1,1),(2,1),(3,1)],[Value.int IntKind.i64 0,Value.slice none 0 0,Value.slice none 0 0,Value.slice none 0 0]) := by kernel_rfl
theorem ty_tFld_43_0 : tFld Try.prog 43 0 = some 0 := by kernel_rfl
theorem ty_tFldV_43_0 : tFldV Try.prog 43 0 = some (0,none) := by kernel_rfl
theorem ty_tFld_43_1 : tFld Try.prog 43 1 = some 1 := by kernel_rfl
theorem ty_tFldV_43_1 : tFldV Try.prog 43 1 = some (1,none) := by kernel_rfl
theorem ty_tFld_43_2 : tFld Try.prog 43 2 = some 2 := by kernel_rfl
theorem ty_tFldV_43_2 : tFldV Try.prog 43 2 = some (2,none) := by kernel_rfl
theorem ty_tFld_43_3 : tFld Try.prog 43 3 = some 3 := by kernel_rfl
theorem ty_tFldV_43_3 : tFldV Try.prog 43 3 = some (3,none) := by kernel_rfl
theorem ty_tShape_44 : tShape Try.prog 44 = some none := by kernel_rfl
theorem ty_tZero_44 : tZero Try.prog 44 = some [Value.slice none 0 0] := by kernel_rfl
theorem ty_tElt_44 : tElt Try.prog 44 = some (50,2,16) := by kernel_rfl
theorem ty_nCells_44 : nCells Try.prog 44 = some 1 := by kernel_rfl
theorem ty_tFlat_44 : tFlat Try.prog 44 = none := by kernel_rfl
theorem ty_isBoolT_44 : isBoolT Try.prog 44 = false := by kernel_rfl
theorem ty_tShape_46 : tShape Try.prog 46 = some (some 2) := by kernel_rfl
theorem ty_tZero_46 : tZero Try.prog 46 = some [Value.int IntKind.i64 0,Value.slice none 0 0] := by kernel_rfl
theorem ty_nCells_46 : nCells Try.prog 46 = some 2 := by kernel_rfl
theorem ty_tFlat_46 : tFlat Try.prog 46 = none := by kernel_rfl
theorem ty_isBoolT_46 : isBoolT Try.prog 46 = false := by kernel_rfl
theorem ty_tBuilt_46 : tBuilt Try.prog 46 = some ([(0,1),(1,1)],[Value.int IntKind.i64 0,Value.slice none 0 0]) := by kernel_rfl
theorem ty_tFld_46_0 : tFld Try.prog 46 0 = some 0 := by kernel_rfl
theorem ty_tFldV_46_0 : tFldV Try.prog 46 0 = some (0,none) := by kernel_rfl
theorem ty_tFld_46_1 : tFld Try.prog 46 1 = some 1 := by kernel_rfl
theorem ty_tFldV_46_1 : tFldV Try.prog 46 1 = some (1,none) := by kernel_rfl
theorem ty_tShape_48 : tShape Try.prog 48 = some (some 3) := by kernel_rfl
theorem ty_tZero_48 : tZero Try.prog 48 = some [Value.int IntKind.i64 0,Value.int IntKind.i64 0,Value.int IntKind.i64 0] := by kernel_rfl
theorem ty_nCells_48 : nCells Try.prog 48 = some 3 := by kernel_rfl
theorem ty_tFlat_48 : tFlat Try.prog 48 = some 3 := by kernel_rfl
theorem ty_isBoolT_48 : isBoolT Try.prog 48 = false := by kernel_rfl
theorem ty_tBuilt_48 : tBuilt Try.prog 48 = some ([(0,1),(1,1),(2,1)],[Value.int IntKind.i64 0,Value.int IntKind.i64 0,Value.int IntKind.i64 0]) := by kernel_rfl
theorem ty_tFld_48_0 : tFld Try.prog 48 0 = some 0 := by kernel_rfl
theorem ty_tFldV_48_0 : tFldV Try.prog 48 0 = some (0,none) := by kernel_rfl
theorem ty_tFld_48_1 : tFld Try.prog 48 1 = some 1 := by kernel_rfl
theorem ty_tFldV_48_1 : tFldV Try.prog 48 1 = some (1,none) := by kernel_rfl
theorem ty_tFld_48_2 : tFld Try.prog 48 2 = some 2 := by kernel_rfl
theorem ty_tFldV_48_2 : tFldV Try.prog 48 2 = some (2,none) := by kernel_rfl
theorem ty_tShape_50 : tShape Try.prog 50 = some (some 2) := by kernel_rfl
theorem ty_tZero_50 : tZero Try.prog 50 = some [Value.int IntKind.i64 0,Value.int IntKind.i64 0] := by kernel_rfl
theorem ty_nCells_50 : nCells Try.prog 50 = some 2 := by kernel_rfl
theorem ty_tFlat_50 : tFlat Try.prog 50 = some 2 := by kernel_rfl
theorem ty_isBoolT_50 : isBoolT Try.prog 50 = false := by kernel_rfl
theorem ty_tBuilt_50 : tBuilt Try.prog 50 = some ([(0,1),(1,1)],[Value.int IntKind.i64 0,Value.int IntKind.i64 0]) := by kernel_rfl
theorem ty_tFld_50_0 : tFld Try.prog 50 0 = some 0 := by kernel_rfl
theorem ty_tFldV_50_0 : tFldV Try.prog 50 0 = some (0,none) := by kernel_rfl
theorem ty_tFld_50_1 : tFld Try.prog 50 1 = some 1 := by kernel_rfl
theorem ty_tFldV_50_1 : tFldV Try.prog 50 1 = some (1,none) := by kernel_rfl
theorem ty_tShape_87 : tShape Try.prog 87 = some none := by kernel_rfl
theorem ty_tZero_87 : tZero Try.prog 87 = some [Value.slice none 0 0] := by kernel_rfl
theorem ty_tElt_87 : tElt Try.prog 87 = some (189,2,32) := by kernel_rfl
theorem ty_nCells_87 : nCells Try.prog 87 = some 1 := by kernel_rfl
theorem ty_tFlat_87 : tFlat Try.prog 87 = none := by kernel_rfl
theorem ty_isBoolT_87 : isBoolT Try.prog 87 = false := by kernel_rfl
theorem ty_tShape_88 : tShape Try.prog 88 = some none := by kernel_rfl
theorem ty_tZero_88 : tZero Try.prog 88 = some [Value.slice none 0 0] := by kernel_rfl
theorem ty_tElt_88 : tElt Try.prog 88 = some (191,3,24) := by kernel_rfl
theorem ty_nCells_88 : nCells Try.prog 88 = some 1 := by kernel_rfl
theorem ty_tFlat_88 : tFlat Try.prog 88 = none := by kernel_rfl
theorem ty_isBoolT_88 : isBoolT Try.prog 88 = false := by kernel_rfl
theorem ty_tShape_90 : tShape Try.prog 90 = some (some 4) := by kernel_rfl
theorem ty_tZero_90 : tZero Try.prog 90 = some [Value.int IntKind.i64 0,Value.slice none 0 0,Value.slice none 0 0,Value.slice none 0 0] := by kernel_rfl
theorem ty_nCells_90 : nCells Try.prog 90 = some 4 := by kernel_rfl
theorem ty_tFlat_90 : tFlat Try.prog 90 = none := by kernel_rfl
theorem ty_isBoolT_90 : isBoolT Try.prog 90 = false := by kernel_rfl
theorem ty_tBuilt_90 : tBuilt Try.prog 90 = some ([(0,1),(1,1),(2,1),(3,1)],[Value.int IntKind.i64 0,Value.slice none 0 0,Value.slice none 0 0,Value.slice none 0 0]) := by kernel_rfl
theorem ty_tFld_90_0 : tFld Try.prog 90 0 = some 0 := by kernel_rfl
theorem ty_tFldV_90_0 : tFldV Try.prog 90 0 = some (0,none) := by kernel_rfl
theorem ty_tFld_90_1 : tFld Try.prog 90 1 = some 1 := by kernel_rfl
theorem ty_tFldV_90_1 : tFldV Try.prog 90 1 = some (1,none) := by kernel_rfl
theorem ty_tFld_90_2 : tFld Try.prog 90 2 = some 2 := by kernel_rfl
theorem ty_tFldV_90_2 : tFldV Try.prog 90 2 = some (2,none) := by kernel_rfl
theorem ty_tFld_90_3 : tFld Try.prog 90 3 = some 3 := by kernel_rfl
theorem ty_tFldV_90_3 : tFldV Try.prog 90 3 = some (3,none) := by kernel_rfl
theorem ty_tShape_100 : tShape Try.prog 100 = some (some 3) := by kernel_rfl
theorem ty_tZero_100 : tZero Try.prog 100 = some [Value.slice none 0 0,Value.slice none 0 0,Value.slice none 0 0] := by kernel_rfl
theorem ty_nCells_100 : nCells Try.prog 100 = some 3 := by kernel_rfl
theorem ty_tFlat_100 : tFlat Try.prog 100 = none := by kernel_rfl
theorem ty_isBoolT_100 : isBoolT Try.prog 100 = false := by kernel_rfl
theorem ty_tBuilt_100 : tBuilt Try.prog 100 = some ([(0,1),(1,1),(2,1)],[Value.slice none 0 0,Value.slice none 0 0,Value.slice none 0 0]) := by kernel_rfl
theorem ty_tFld_100_0 : tFld Try.prog 100 0 = some 0 := by kernel_rfl
theorem ty_tFldV_100_0 : tFldV Try.prog 100 0 = some (0,none) := by kernel_rfl
theorem ty_tFld_100_1 : tFld Try.prog 100 1 = some 1 := by kernel_rfl
theorem ty_tFldV_100_1 : tFldV Try.prog 100 1 = some (1,none) := by kernel_rfl
theorem ty_tFld_100_2 : tFld Try.prog 100 2 = some 2 := by kernel_rfl
theorem ty_tFldV_100_2 : tFldV Try.prog 100 2 = some (2,none) := by kernel_rfl
theorem ty_tShape_101 : tShape Try.prog 101 = some (some 3) := by kernel_rfl
theorem ty_tZero_101 : tZero Try.prog 101 = some [Value.slice none 0 0,Value.slice none 0 0,Value.slice none 0 0] := by kernel_rfl
theorem ty_nCells_101 : nCells Try.prog 101 = some 3 := by kernel_rfl
theorem ty_tFlat_101 : tFlat Try.prog 101 = none := by kernel_rfl
theorem ty_isBoolT_101 : isBoolT Try.prog 101 = false := by kernel_rfl
theorem ty_tBuilt_101 : tBuilt Try.prog 101 = some ([(0,1),(1,1),(2,1)],[Value.slice none 0 0,Value.slice none 0 0,Value.slice none 0 0]) := by kernel_rfl
theorem ty_tFld_101_0 : tFld Try.prog 101 0 = some 0 := by kernel_rfl
theorem ty_tFldV_101_0 : tFldV Try.prog 101 0 = some (0,none) := by kernel_rfl
theorem ty_tFld_101_1 : tFld Try.prog 101 1 = some 1 := by kernel_rfl
theorem ty_tFldV_101_1 : tFldV Try.prog 101 1 = some (1,none) := by kernel_rfl
theorem ty_tFld_101_2 : tFld Try.prog 101 2 = some 2 := by kernel_rfl
theorem ty_tFldV_101_2 : tFldV Try.prog 101 2 = some (2,none) := by kernel_rfl
theorem ty_tShape_102 : tShape Try.prog 102 = some none := by kernel_rfl
theorem ty_tZero_102 : tZero Try.prog 102 = some [Value.nilFunc] := by kernel_rfl
theorem ty_nCells_102 : nCells Try.prog 102 = some 1 := by kernel_rfl
theorem ty_tFlat_102 : tFlat Try.prog 102 = none := by kernel_rfl
theorem ty_isBoolT_102 : isBoolT Try.prog 102 = false := by kernel_rfl
theorem ty_tShape_103 : tShape Try.prog 103 = some none := by kernel_rfl
theorem ty_tZero_103 : tZero Try.prog 103 = some [Value.nilFunc] := by kernel_rfl
theorem ty_nCells_103 : nCells Try.prog 103 = some 1 := by kernel_rfl
theorem ty_tFlat_103 : tFlat Try.prog 103 = none := by kernel_rfl
theorem ty_isBoolT_103 : isBoolT Try.prog 103 = false := by kernel_rfl
theorem ty_tShape_104 : tShape Try.prog 104 = some (some 3) := by kernel_rfl
theorem ty_tZero_104 : tZero Try.prog 104 = some [Value.slice none 0 0,Value.slice none 0 0,Value.slice none 0 0] := by kernel_rfl
theorem ty_nCells_104 : nCells Try.prog 104 = some 3 := by kernel_rfl
theorem ty_tFlat_104 : tFlat Try.prog 104 = none := by kernel_rfl
theorem ty_isBoolT_104 : isBoolT Try.prog 104 = false := by kernel_rfl
theorem ty_tBuilt_104 : tBuilt Try.prog 104 = some ([(0,1),(1,1),(2,1)],[Value.slice none 0 0,Value.slice none 0 0,Value.slice none 0 0]) := by kernel_rfl
theorem ty_tFld_104_0 : tFld Try.prog 104 0 = some 0 := by kernel_rfl
theorem ty_tFldV_104_0 : tFldV Try.prog 104 0 = some (0,none) := by kernel_rfl
theorem ty_tFld_104_1 : tFld Try.prog 104 1 = some 1 := by kernel_rfl
theorem ty_tFldV_104_1 : tFldV Try.prog 104 1 = some (1,none) := by kernel_rfl
theorem ty_tFld_104_2 : tFld Try.prog 104 2 = some 2 := by kernel_rfl
theorem ty_tFldV_104_2 : tFldV Try.prog 104 2 = some (2,none) := by kernel_rfl
theorem ty_tShape_125 : tShape Try.prog 125 = some (some 5) := by kernel_rfl
theorem ty_tZero_125 : tZero Try.prog 125 = some [Value.int IntKind.i64 0,Value.int IntKind.i64 0,Value.int IntKind.i64 0,Value.int IntKind.i64 0,Value.int IntKind.i64 0] := by kernel_rfl
theorem ty_nCells_125 : nCells Try.prog 125 = some 5 := by kernel_rfl
theorem ty_tFlat_125 : tFlat Try.prog 125 = some 5 := by kernel_rfl
theorem ty_isBoolT_125 : isBoolT Try.prog 125 = false := by kernel_rfl
theorem ty_tBuilt_125 : tBuilt Try.prog 125 = some ([(0,1),(1,1),(2,1),(3,1),(4,1)],[Value.int IntKind.i64 0,Value.int IntKind.i64 0,Value.int IntKind.i64 0,Value.int IntKind.i64 0,Value.int IntKind.i64 0]) := by kernel_rfl
theorem ty_tFld_125_0 : tFld Try.prog 125 0 = some 0 := by kernel_rfl
theorem ty_tFldV_125_0 : tFldV Try.prog 125 0 = some (0,none) := by kernel_rfl
theorem ty_tFld_125_1 : tFld Try.prog 125 1 = some 1 := by kernel_rfl
theorem ty_tFldV_125_1 : tFldV Try.prog 125 1 = some (1,none) := by kernel_rfl
theorem ty_tFld_125_2 : tFld Try.prog 125 2 = some 2 := by kernel_rfl
theorem ty_tFldV_125_2 : tFldV Try.prog 125 2 = some (2,none) := by kernel_rfl
theorem ty_tFld_125_3 : tFld Try.prog 125 3 = some 3 := by kernel_rfl
theorem ty_tFldV_125_3 : tFldV Try.prog 125 3 = some (3,none) := by kernel_rfl
theorem ty_tFld_125_4 : tFld Try.prog 125 4 = some 4 := by kernel_rfl
theorem ty_tFldV_125_4 : tFldV Try.prog 125 4 = some (4,none) := by kernel_rfl
theorem ty_tShape_126 : tShape Try.prog 126 = some (some 2) := by kernel_rfl
theorem ty_tZero_126 : tZero Try.prog 126 = some [Value.int IntKind.i64 0,Value.int IntKind.i64 0] := by kernel_rfl
theorem ty_tElt_126 : tElt Try.prog 126 = none := by kernel_rfl
theorem ty_tArr_126 : tArr Try.prog 126 = some (2,1) := by kernel_rfl
theorem ty_nCells_126 : nCells Try.prog 126 = some 2 := by kernel_rfl
theorem ty_tFlat_126 : tFlat Try.prog 126 = some 2 := by kernel_rfl
theorem ty_isBoolT_126 : isBoolT Try.prog 126 = false := by kernel_rfl
theorem ty_tBuilt_126 : tBuilt Try.prog 126 = some ([(0,1),(1,1)],[Value.int IntKind.i64 0,Value.int IntKind.i64 0]) := by kernel_rfl
theorem ty_tShape_129 : tShape Try.prog 129 = some none := by kernel_rfl
theorem ty_tZero_129 : tZero Try.prog 129 = some [Value.nilFunc] := by kernel_rfl
theorem ty_nCells_129 : nCells Try.prog 129 = some 1 := by kernel_rfl
theorem ty_tFlat_129 : tFlat Try.prog 129 = none := by kernel_rfl
theorem ty_isBoolT_129 : isBoolT Try.prog 129 = false := by kernel_rfl
theorem ty_tShape_130 : tShape Try.prog 130 = some none := by kernel_rfl
theorem ty_tZero_130 : tZero Try.prog 130 = some [Value.slice none 0 0] := by kernel_rfl
theorem ty_tElt_130 : tElt Try.prog 130 = some (90,4,80) := by kernel_rfl
theorem ty_nCells_130 : nCells Try.prog 130 = some 1 := by kernel_rfl
theorem ty_tFlat_130 : tFlat Try.prog 130 = none := by kernel_rfl
theorem ty_isBoolT_130 : isBoolT Try.prog 130 = false := by kernel_rfl
theorem ty_tShape_132 : tShape Try.prog 132 = some (some 2) := by kernel_rfl
theorem ty_tZero_132 : tZero Try.prog 132 = some [Value.int IntKind.i64 0,Value.slice none 0 0] := by kernel_rfl
theorem ty_nCells_132 : nCells Try.prog 132 = some 2 := by kernel_rfl
theorem ty_tFlat_132 : tFlat Try.prog 132 = none := by kernel_rfl
theorem ty_isBoolT_132 : isBoolT Try.prog 132 = false := by kernel_rfl
theorem ty_tBuilt_132 : tBuilt Try.prog 132 = some ([(0,1),(1,1)],[Value.int IntKind.i64 0,Value.slice none 0 0]) := by kernel_rfl
theorem ty_tFld_132_0 : tFld Try.prog 132 0 = some 0 := by kernel_rfl
theorem ty_tFldV_132_0 : tFldV Try.prog 132 0 = some (0,none) := by kernel_rfl
theorem ty_tFld_132_1 : tFld Try.prog 132 1 = some 1 := by kernel_rfl
theorem ty_tFldV_132_1 : tFldV Try.prog 132 1 = some (1,none) := by kernel_rfl
theorem ty_tShape_139 : tShape Try.prog 139 = some (some 9) := by kernel_rfl
theorem ty_tZero_139 : tZero Try.prog 139 = some [Value.int IntKind.i64 0,Value.slice none 0 0,Value.slice none 0 0,Value.slice none 0 0,Value.int IntKind.i64 0,Value.int IntKind.i64 0,Value.slice none 0 0,Value.int IntKind.i64 0,Value.slice none 0 0] := by kernel_rfl
theorem ty_nCells_139 : nCells Try.prog 139 = some 9 := by kernel_rfl
theorem ty_tFlat_139 : tFlat Try.prog 139 = none := by kernel_rfl
theorem ty_isBoolT_139 : isBoolT Try.prog 139 = false := by kernel_rfl
theorem ty_tBuilt_139 : tBuilt Try.prog 139 = some ([(0,4),(4,1),(5,2),(7,2)],[Value.int IntKind.i64 0,Value.slice none 0 0,Value.slice none 0 0,Value.slice none 0 0,Value.int IntKind.i64 0,Value.int IntKind.i64 0,Value.slice none 0 0,Value.int IntKind.i64 0,Value.slice none 0 0]) := by kernel_rfl
theorem ty_tFld_139_0 : tFld Try.prog 139 0 = some 0 := by kernel_rfl
theorem ty_tFldV_139_0 : tFldV Try.prog 139 0 = some (0,some 4) := by kernel_rfl
theorem ty_tFld_139_1 : tFld Try.prog 139 1 = some 4 := by kernel_rfl
theorem ty_tFldV_139_1 : tFldV Try.prog 139 1 = some (4,none) := by kernel_rfl
theorem ty_tFld_139_2 : tFld Try.prog 139 2 = some 5 := by kernel_rfl
theorem ty_tFldV_139_2 : tFldV Try.prog 139 2 = some (5,some 2) := by kernel_rfl
theorem ty_tFld_139_3 : tFld Try.prog 139 3 = some 7 := by kernel_rfl
theorem ty_tFldV_139_3 : tFldV Try.prog 139 3 = some (7,some 2) := by kernel_rfl
theorem ty_tShape_187 : tShape Try.prog 187 = some none := by kernel_rfl
theorem ty_tZero_187 : tZero Try.prog 187 = some [Value.slice none 0 0] := by kernel_rfl
theorem ty_tElt_187 : tElt Try.prog 187 = some (190,2,16) := by kernel_rfl
theorem ty_nCells_187 : nCells Try.prog 187 = some 1 := by kernel_rfl
theorem ty_tFlat_187 : tFlat Try.prog 187 = none := by kernel_rfl
theorem ty_isBoolT_187 : isBoolT Try.prog 187 = false := by kernel_rfl
theorem ty_tShape_189 : tShape Try.prog 189 = some (some 2) := by kernel_rfl
theorem ty_tZero_189 : tZero Try.prog 189 = some [Value.int IntKind.i64 0,Value.slice none 0 0] := by kernel_rfl
theorem ty_nCells_189 : nCells Try.prog 189 = some 2 := by kernel_rfl
theorem ty_tFlat_189 : tFlat Try.prog 189 = none := by kernel_rfl
theorem ty_isBoolT_189 : isBoolT Try.prog 189 = false := by kernel_rfl
theorem ty_tBuilt_189 : tBuilt Try.prog 189 = some ([(0,1),(1,1)],[Value.int IntKind.i64 0,Value.slice none 0 0]) := by kernel_rfl
theorem ty_tFld_189_0 : tFld Try.prog 189 0 = some 0 := by kernel_rfl
theorem ty_tFldV_189_0 : tFldV Try.prog 189 0 = some (0,none) := by kernel_rfl
theorem ty_tFld_189_1 : tFld Try.prog 189 1 = some 1 := by kernel_rfl
theorem ty_tFldV_189_1 : tFldV Try.prog 189 1 = some (1,none) := by kernel_rfl
theorem ty_tShape_190 : tShape Try.prog 190 = some (some 2) := by kernel_rfl
theorem ty_tZero_190 : tZero Try.prog 190 = some [Value.int IntKind.i64 0,Value.int IntKind.i64 0] := by kernel_rfl
theorem ty_nCells_190 : nCells Try.prog 190 = some 2 := by kernel_rfl
theorem ty_tFlat_190 : tFlat Try.prog 190 = some 2 := by kernel_rfl
theorem ty_isBoolT_190 : isBoolT Try.prog 190 = false := by kernel_rfl
theorem ty_tBuilt_190 : tBuilt Try.prog 190 = some ([(0,1),(1,1)],[Value.int IntKind.i64 0,Value.int IntKind.i64 0]) := by kernel_rfl
theorem ty_tFld_190_0 : tFld Try.prog 190 0 = some 0 := by kernel_rfl
theorem ty_tFldV_190_0 : tFldV Try.prog 190 0 = some (0,none) := by kernel_rfl
theorem ty_tFld_190_1 : tFld Try.prog 190 1 = some 1 := by kernel_rfl
theorem ty_tFldV_190_1 : tFldV Try.prog 190 1 = some (1,none) := by kernel_rfl
theorem ty_tShape_191 : tShape Try.prog 191 = some (some 3) := by kernel_rfl
theorem ty_tZero_191 : tZero Try.prog 191 = some [Value.int IntKind.i64 0,Value.int IntKind.i64 0,Value.int IntKind.i64 0] := by kernel_rfl
theorem ty_nCells_191 : nCells Try.prog 191 = some 3 := by kernel_rfl
theorem ty_tFlat_191 : tFlat Try.prog 191 = some 3 := by kernel_rfl
theorem ty_isBoolT_191 : isBoolT Try.prog 191 = false := by kernel_rfl
theorem ty_tBuilt_191 : tBuilt Try.prog 191 = some ([(0,1),(1,1),(2,1)],[Value.int IntKind.i64 0,Value.int IntKind.i64 0,Value.int IntKind.i64 0]) := by kernel_rfl
theorem ty_tFld_191_0 : tFld Try.prog 191 0 = some 0 := by kernel_rfl
theorem ty_tFldV_191_0 : tFldV Try.prog 191 0 = some (0,none) := by kernel_rfl
theorem ty_tFld_191_1 : tFld Try.prog 191 1 = some 1 := by kernel_rfl
theorem ty_tFldV_191_1 : tFldV Try.prog 191 1 = some (1,none) := by kernel_rfl
theorem ty_tFld_191_2 : tFld Try.prog 191 2 = some 2 := by kernel_rfl
theorem ty_tFldV_191_2 : tFldV Try.prog 191 2 = some (2,none) := by kernel_rfl
theorem ty_tShape_193 : tShape Try.prog 193 = some none := by kernel_rfl
theorem ty_tZero_193 : tZero Try.prog 193 = some [Value.map none] := by kernel_rfl
theorem ty_nCells_193 : nCells Try.prog 193 = some 1 := by kernel_rfl
theorem ty_tFlat_193 : tFlat Try.prog 193 = none := by kernel_rfl
theorem ty_tMap_193 : tMap Try.prog 193 = some (126,3,true,2) := by kernel_rfl
theorem ty_isBoolT_193 : isBoolT Try.prog 193 = false := by kernel_rfl
theorem ty_tShape_197 : tShape Try.prog 197 = some (some 1) := by kernel_rfl
theorem ty_tZero_197 : tZero Try.prog 197 = some [Value.nilFunc] := by kernel_rfl
theorem ty_nCells_197 : nCells Try.prog 197 = some 1 := by kernel_rfl
theorem ty_tFlat_197 : tFlat Try.prog 197 = none := by kernel_rfl
theorem ty_isBoolT_197 : isBoolT Try.prog 197 = false := by kernel_rfl
theorem ty_tBuilt_197 : tBuilt Try.prog 197 = some ([(0,1)],[Value.nilFunc]) := by kernel_rfl
theorem ty_tFld_197_0 : tFld Try.prog 197 0 = some 0 := by kernel_rfl
theorem ty_tFldV_197_0 : tFldV Try.prog 197 0 = some (0,none) := by kernel_rfl
theorem ty_tShape_198 : tShape Try.prog 198 = some none := by kernel_rfl
theorem ty_tZero_198 : tZero Try.prog 198 = some [Value.slice none 0 0] := by kernel_rfl
theorem ty_tElt_198 : tElt Try.prog 198 = some (197,1,8) := by kernel_rfl
theorem ty_nCells_198 : nCells Try.prog 198 = some 1 := by kernel_rfl
theorem ty_tFlat_198 : tFlat Try.prog 198 = none := by kernel_rfl
theorem ty_isBoolT_198 : isBoolT Try.prog 198 = false := by kernel_rfl
theorem ty_tShape_215 : tShape Try.prog 215 = some none := by kernel_rfl
theorem ty_tZero_215 : tZero Try.prog 215 = some [Value.nilFunc] := by kernel_rfl
theorem ty_nCells_215 : nCells Try.prog 215 = some 1 := by kernel_rfl
theorem ty_tFlat_215 : tFlat Try.prog 215 = none := by kernel_rfl
theorem ty_isBoolT_215 : isBoolT Try.prog 215 = false := by kernel_rfl
theorem ty_tShape_217 : tShape Try.prog 217 = some none := by kernel_rfl
theorem ty_tZero_217 : tZero Try.prog 217 = some [Value.nilFunc] := by kernel_rfl
theorem ty_nCells_217 : nCells Try.prog 217 = some 1 := by kernel_rfl
theorem ty_tFlat_217 : tFlat Try.prog 217 = none := by kernel_rfl
theorem ty_isBoolT_217 : isBoolT Try.prog 217 = false := by kernel_rfl
theorem ty_tShape_231 : tShape Try.prog 231 = some none := by kernel_rfl
theorem ty_tZero_231 : tZero Try.prog 231 = some [Value.int IntKind.u64 0] := by kernel_rfl
theorem ty_tInt_231 : tInt Try.prog 231 = some IntKind.u64 := by kernel_rfl
theorem ty_nCells_231 : nCells Try.prog 231 = some 1 := by kernel_rfl
theorem ty_tFlat_231 : tFlat Try.prog 231 = none := by kernel_rfl
theorem ty_isBoolT_231 : isBoolT Try.prog 231 = false := by kernel_rfl
theorem ty_tShape_241 : tShape Try.prog 241 = some none := by kernel_rfl
theorem ty_tZero_241 : tZero Try.prog 241 = some [Value.int IntKind.u64 0] := by kernel_rfl
theorem ty_tInt_241 : tInt Try.prog 241 = some IntKind.u64 := by kernel_rfl
theorem ty_nCells_241 : nCells Try.prog 241 = some 1 := by kernel_rfl
theorem ty_tFlat_241 : tFlat Try.prog 241 = none := by kernel_rfl
theorem ty_isBoolT_241 : isBoolT Try.prog 241 = false := by kernel_rfl
theorem ty_hm : Try.prog.follows .mixedOrders = true := by kernel_rfl
end Go.Proofs.Ytabbejabdkkaiaa

