/- What the operations ask of the program's types,as facts. No condition. -/
import Derived.Test.YtabbejabdkkaiaaGreatKG
import Derived.Test.YtabbejabdkkaiaaGreatRows
namespace Go.Proofs.YtabbejabdkkaiaaGreat
open Go.RowKit

theorem ty_tShape_1 : tShape Tryz.prog 1 = some none := by kernel_rfl
theorem ty_tZero_1 : tZero Tryz.prog 1 = some [Value.nilFunc] := by kernel_rfl
theorem ty_nCells_1 : nCells Tryz.prog 1 = some 1 := by kernel_rfl
theorem ty_tFlat_1 : tFlat Tryz.prog 1 = none := by kernel_rfl
theorem ty_isBoolT_1 : isBoolT Tryz.prog 1 = false := by kernel_rfl
theorem ty_tShape_2 : tShape Tryz.prog 2 = some none := by kernel_rfl
theorem ty_tZero_2 : tZero Tryz.prog 2 = some [Value.int IntKind.i64 0] := by kernel_rfl
theorem ty_tInt_2 : tInt Tryz.prog 2 = some IntKind.i64 := by kernel_rfl
theorem ty_nCells_2 : nCells Tryz.prog 2 = some 1 := by kernel_rfl
theorem ty_tFlat_2 : tFlat Tryz.prog 2 = none := by kernel_rfl
theorem ty_isBoolT_2 : isBoolT Tryz.prog 2 = false := by kernel_rfl
theorem ty_tShape_3 : tShape Tryz.prog 3 = some none := by kernel_rfl
theorem ty_tZero_3 : tZero Tryz.prog 3 = some [Value.int IntKind.i64 0] := by kernel_rfl
theorem ty_tInt_3 : tInt Tryz.prog 3 = some IntKind.i64 := by kernel_rfl
theorem ty_nCells_3 : nCells Tryz.prog 3 = some 1 := by kernel_rfl
theorem ty_tFlat_3 : tFlat Tryz.prog 3 = none := by kernel_rfl
theorem ty_tZ1_3 : tZ1 Tryz.prog 3 = some (Value.int IntKind.i64 0) := by kernel_rfl
theorem ty_isBoolT_3 : isBoolT Tryz.prog 3 = false := by kernel_rfl
theorem ty_tShape_4 : tShape Tryz.prog 4 = some none := by kernel_rfl
theorem ty_tZero_4 : tZero Tryz.prog 4 = some [Value.bool false] := by kernel_rfl
theorem ty_nCells_4 : nCells Tryz.prog 4 = some 1 := by kernel_rfl
theorem ty_tFlat_4 : tFlat Tryz.prog 4 = none := by kernel_rfl
theorem ty_isBoolT_4 : isBoolT Tryz.prog 4 = true := by kernel_rfl
theorem ty_tShape_5 : tShape Tryz.prog 5 = some none := by kernel_rfl
theorem ty_tZero_5 : tZero Tryz.prog 5 = some [Value.int IntKind.u8 0] := by kernel_rfl
theorem ty_tInt_5 : tInt Tryz.prog 5 = some IntKind.u8 := by kernel_rfl
theorem ty_nCells_5 : nCells Tryz.prog 5 = some 1 := by kernel_rfl
theorem ty_tFlat_5 : tFlat Tryz.prog 5 = none := by kernel_rfl
theorem ty_isBoolT_5 : isBoolT Tryz.prog 5 = false := by kernel_rfl
theorem ty_tShape_6 : tShape Tryz.prog 6 = some none := by kernel_rfl
theorem ty_tZero_6 : tZero Tryz.prog 6 = some [Value.int IntKind.u8 0] := by kernel_rfl
theorem ty_tInt_6 : tInt Tryz.prog 6 = some IntKind.u8 := by kernel_rfl
theorem ty_nCells_6 : nCells Tryz.prog 6 = some 1 := by kernel_rfl
theorem ty_tFlat_6 : tFlat Tryz.prog 6 = none := by kernel_rfl
theorem ty_isBoolT_6 : isBoolT Tryz.prog 6 = false := by kernel_rfl
theorem ty_tShape_7 : tShape Tryz.prog 7 = some (some 4) := by kernel_rfl
theorem ty_tZero_7 : tZero Tryz.prog 7 = some [Value.int IntKind.i64 0,Value.int IntKind.i64 0,Value.bool false,Value.int IntKind.u8 0] := by kernel_rfl
theorem ty_nCells_7 : nCells Tryz.prog 7 = some 4 := by kernel_rfl
theorem ty_tFlat_7 : tFlat Tryz.prog 7 = none := by kernel_rfl
theorem ty_isBoolT_7 : isBoolT Tryz.prog 7 = false := by kernel_rfl
theorem ty_tBuilt_7 : tBuilt Tryz.prog 7 = some ([(0,1),(1,1),(2,1),(3,1)],[Value.int IntKind.i64 0,Value.int IntKind.i64 0,Value.bool false,Value.int IntKind.u8 0]) := by kernel_rfl
theorem ty_tFld_7_0 : tFld Tryz.prog 7 0 = some 0 := by kernel_rfl
theorem ty_tFldV_7_0 : tFldV Tryz.prog 7 0 = some (0,none) := by kernel_rfl
theorem ty_tFld_7_1 : tFld Tryz.prog 7 1 = some 1 := by kernel_rfl
theorem ty_tFldV_7_1 : tFldV Tryz.prog 7 1 = some (1,none) := by kernel_rfl
theorem ty_tFld_7_2 : tFld Tryz.prog 7 2 = some 2 := by kernel_rfl
theorem ty_tFldV_7_2 : tFldV Tryz.prog 7 2 = some (2,none) := by kernel_rfl
theorem ty_tFld_7_3 : tFld Tryz.prog 7 3 = some 3 := by kernel_rfl
theorem ty_tFldV_7_3 : tFldV Tryz.prog 7 3 = some (3,none) := by kernel_rfl
theorem ty_tShape_22 : tShape Tryz.prog 22 = some none := by kernel_rfl
theorem ty_tZero_22 : tZero Tryz.prog 22 = some [Value.slice none 0 0] := by kernel_rfl
theorem ty_tElt_22 : tElt Tryz.prog 22 = some (91,2,16) := by kernel_rfl
theorem ty_nCells_22 : nCells Tryz.prog 22 = some 1 := by kernel_rfl
theorem ty_tFlat_22 : tFlat Tryz.prog 22 = none := by kernel_rfl
theorem ty_isBoolT_22 : isBoolT Tryz.prog 22 = false := by kernel_rfl
theorem ty_tShape_24 : tShape Tryz.prog 24 = some (some 2) := by kernel_rfl
theorem ty_tZero_24 : tZero Tryz.prog 24 = some [Value.int IntKind.i64 0,Value.slice none 0 0] := by kernel_rfl
theorem ty_nCells_24 : nCells Tryz.prog 24 = some 2 := by kernel_rfl
theorem ty_tFlat_24 : tFlat Tryz.prog 24 = none := by kernel_rfl
theorem ty_isBoolT_24 : isBoolT Tryz.prog 24 = false := by kernel_rfl
theorem ty_tBuilt_24 : tBuilt Tryz.prog 24 = some ([(0,1),(1,1)],[Value.int IntKind.i64 0,Value.slice none 0 0]) := by kernel_rfl
theorem ty_tFld_24_0 : tFld Tryz.prog 24 0 = some 0 := by kernel_rfl
theorem ty_tFldV_24_0 : tFldV Tryz.prog 24 0 = some (0,none) := by kernel_rfl
theorem ty_tFld_24_1 : tFld Tryz.prog 24 1 = some 1 := by kernel_rfl
theorem ty_tFldV_24_1 : tFldV Tryz.prog 24 1 = some (1,none) := by kernel_rfl
theorem ty_tShape_25 : tShape Tryz.prog 25 = some none := by kernel_rfl
theorem ty_tZero_25 : tZero Tryz.prog 25 = some [Value.slice none 0 0] := by kernel_rfl
theorem ty_tElt_25 : tElt Tryz.prog 25 = some (80,2,32) := by kernel_rfl
theorem ty_nCells_25 : nCells Tryz.prog 25 = some 1 := by kernel_rfl
theorem ty_tFlat_25 : tFlat Tryz.prog 25 = none := by kernel_rfl
theorem ty_isBoolT_25 : isBoolT Tryz.prog 25 = false := by kernel_rfl
theorem ty_tShape_27 : tShape Tryz.prog 27 = some (some 4) := by kernel_rfl
theorem ty_tZero_27 : tZero Tryz.prog 27 = some [Value.int IntKind.i64 0,Value.slice none 0 0,Value.slice none 0 0,Value.bool false] := by kernel_rfl
theorem ty_nCells_27 : nCells Tryz.prog 27 = some 4 := by kernel_rfl
theorem ty_tFlat_27 : tFlat Tryz.prog 27 = none := by kernel_rfl
theorem ty_isBoolT_27 : isBoolT Tryz.prog 27 = false := by kernel_rfl
theorem ty_tBuilt_27 : tBuilt Tryz.prog 27 = some ([(0,2),(2,1),(3,1)],[Value.int IntKind.i64 0,Value.slice none 0 0,Value.slice none 0 0,Value.bool false]) := by kernel_rfl
theorem ty_tFld_27_0 : tFld Tryz.prog 27 0 = some 0 := by kernel_rfl
theorem ty_tFldV_27_0 : tFldV Tryz.prog 27 0 = some (0,some 2) := by kernel_rfl
theorem ty_tFld_27_1 : tFld Tryz.prog 27 1 = some 2 := by kernel_rfl
theorem ty_tFldV_27_1 : tFldV Tryz.prog 27 1 = some (2,none) := by kernel_rfl
theorem ty_tFld_27_2 : tFld Tryz.prog 27 2 = some 3 := by kernel_rfl
theorem ty_tFldV_27_2 : tFldV Tryz.prog 27 2 = some (3,none) := by kernel_rfl
theorem ty_tShape_28 : tShape Tryz.prog 28 = some none := by kernel_rfl
theorem ty_tZero_28 : tZero Tryz.prog 28 = some [Value.slice none 0 0] := by kernel_rfl
theorem ty_tElt_28 : tElt Tryz.prog 28 = some (141,1,24) := by kernel_rfl
theorem ty_nCells_28 : nCells Tryz.prog 28 = some 1 := by kernel_rfl
theorem ty_tFlat_28 : tFlat Tryz.prog 28 = none := by kernel_rfl
theorem ty_isBoolT_28 : isBoolT Tryz.prog 28 = false := by kernel_rfl
theorem ty_tShape_29 : tShape Tryz.prog 29 = some none := by kernel_rfl
theorem ty_tZero_29 : tZero Tryz.prog 29 = some [Value.slice none 0 0] := by kernel_rfl
theorem ty_tElt_29 : tElt Tryz.prog 29 = some (32,1,24) := by kernel_rfl
theorem ty_nCells_29 : nCells Tryz.prog 29 = some 1 := by kernel_rfl
theorem ty_tFlat_29 : tFlat Tryz.prog 29 = none := by kernel_rfl
theorem ty_isBoolT_29 : isBoolT Tryz.prog 29 = false := by kernel_rfl
theorem ty_tShape_31 : tShape Tryz.prog 31 = some (some 5) := by kernel_rfl
theorem ty_tZero_31 : tZero Tryz.prog 31 = some [Value.int IntKind.i64 0,Value.int IntKind.i64 0,Value.int IntKind.i64 0,Value.slice none 0 0,Value.slice none 0 0] := by kernel_rfl
theorem ty_nCells_31 : nCells Tryz.prog 31 = some 5 := by kernel_rfl
theorem ty_tFlat_31 : tFlat Tryz.prog 31 = none := by kernel_rfl
theorem ty_isBoolT_31 : isBoolT Tryz.prog 31 = false := by kernel_rfl
theorem ty_tBuilt_31 : tBuilt Tryz.prog 31 = some ([(0,1),(1,1),(2,1),(3,1),(4,1)],[Value.int IntKind.i64 0,Value.int IntKind.i64 0,Value.int IntKind.i64 0,Value.slice none 0 0,Value.slice none 0 0]) := by kernel_rfl
theorem ty_tFld_31_0 : tFld Tryz.prog 31 0 = some 0 := by kernel_rfl
theorem ty_tFldV_31_0 : tFldV Tryz.prog 31 0 = some (0,none) := by kernel_rfl
theorem ty_tFld_31_1 : tFld Tryz.prog 31 1 = some 1 := by kernel_rfl
theorem ty_tFldV_31_1 : tFldV Tryz.prog 31 1 = some (1,none) := by kernel_rfl
theorem ty_tFld_31_2 : tFld Tryz.prog 31 2 = some 2 := by kernel_rfl
theorem ty_tFldV_31_2 : tFldV Tryz.prog 31 2 = some (2,none) := by kernel_rfl
theorem ty_tFld_31_3 : tFld Tryz.prog 31 3 = some 3 := by kernel_rfl
theorem ty_tFldV_31_3 : tFldV Tryz.prog 31 3 = some (3,none) := by kernel_rfl
theorem ty_tFld_31_4 : tFld Tryz.prog 31 4 = some 4 := by kernel_rfl
theorem ty_tFldV_31_4 : tFldV Tryz.prog 31 4 = some (4,none) := by kernel_rfl
theorem ty_tShape_32 : tShape Tryz.prog 32 = some none := by kernel_rfl
theorem ty_tZero_32 : tZero Tryz.prog 32 = some [Value.slice none 0 0] := by kernel_rfl
theorem ty_tElt_32 : tElt Tryz.prog 32 = some (3,1,8) := by kernel_rfl
theorem ty_nCells_32 : nCells Tryz.prog 32 = some 1 := by kernel_rfl
theorem ty_tFlat_32 : tFlat Tryz.prog 32 = none := by kernel_rfl
theorem ty_isBoolT_32 : isBoolT Tryz.prog 32 = false := by kernel_rfl
theorem ty_tShape_34 : tShape Tryz.prog 34 = some (some 2) := by kernel_rfl
theorem ty_tZero_34 : tZero Tryz.prog 34 = some [Value.int IntKind.i64 0,Value.int IntKind.i64 0] := by kernel_rfl
theorem ty_nCells_34 : nCells Tryz.prog 34 = some 2 := by kernel_rfl
theorem ty_tFlat_34 : tFlat Tryz.prog 34 = some 2 := by kernel_rfl
theorem ty_isBoolT_34 : isBoolT Tryz.prog 34 = false := by kernel_rfl
theorem ty_tBuilt_34 : tBuilt Tryz.prog 34 = some ([(0,1),(1,1)],[Value.int IntKind.i64 0,Value.int IntKind.i64 0]) := by kernel_rfl
theorem ty_tFld_34_0 : tFld Tryz.prog 34 0 = some 0 := by kernel_rfl
theorem ty_tFldV_34_0 : tFldV Tryz.prog 34 0 = some (0,none) := by kernel_rfl
theorem ty_tFld_34_1 : tFld Tryz.prog 34 1 = some 1 := by kernel_rfl
theorem ty_tFldV_34_1 : tFldV Tryz.prog 34 1 = some (1,none) := by kernel_rfl
theorem ty_tShape_35 : tShape Tryz.prog 35 = some none := by kernel_rfl
theorem ty_tZero_35 : tZero Tryz.prog 35 = some [Value.slice none 0 0] := by kernel_rfl
theorem ty_tElt_35 : tElt Tryz.prog 35 = some (102,6,96) := by kernel_rfl
theorem ty_nCells_35 : nCells Tryz.prog 35 = some 1 := by kernel_rfl
theorem ty_tFlat_35 : tFlat Tryz.prog 35 = none := by kernel_rfl
theorem ty_isBoolT_35 : isBoolT Tryz.prog 35 = false := by kernel_rfl
theorem ty_tShape_37 : tShape Tryz.prog 37 = some (some 9) := by kernel_rfl
theorem ty_tZero_37 : tZero Tryz.prog 37 = some [Value.int IntKind.i64 0,Value.int IntKind.i64 0,Value.int IntKind.i64 0,Value.int IntKind.i64 0,Value.slice none 0 0,Value.int IntKind.i64 0,Value.int IntKind.i64 0,Value.int IntKind.i64 0,Value.slice none 0 0] := by kernel_rfl
theorem ty_nCells_37 : nCells Tryz.prog 37 = some 9 := by kernel_rfl
theorem ty_tFlat_37 : tFlat Tryz.prog 37 = none := by kernel_rfl
theorem ty_isBoolT_37 : isBoolT Tryz.prog 37 = false := by kernel_rfl
theorem ty_tBuilt_37 : tBuilt Tryz.prog 37 = some ([(0,1),(1,1),(2,2),(4,1),(5,1),(6,1),(7,1),(8,1)],[Value.int IntKind.i64 0,Value.int IntKind.i64 0,Value.int IntKind.i64 0,Value.int IntKind.i64 0,Value.slice none 0 0,Value.int IntKind.i64 0,Value.int IntKind.i64 0,Value.int IntKind.i64 0,Value.slice none 0 0]) := by kernel_rfl
theorem ty_tFld_37_0 : tFld Tryz.prog 37 0 = some 0 := by kernel_rfl
theorem ty_tFldV_37_0 : tFldV Tryz.prog 37 0 = some (0,none) := by kernel_rfl
theorem ty_tFld_37_1 : tFld Tryz.prog 37 1 = some 1 := by kernel_rfl
theorem ty_tFldV_37_1 : tFldV Tryz.prog 37 1 = some (1,none) := by kernel_rfl
theorem ty_tFld_37_2 : tFld Tryz.prog 37 2 = some 2 := by kernel_rfl
theorem ty_tFldV_37_2 : tFldV Tryz.prog 37 2 = some (2,some 2) := by kernel_rfl
theorem ty_tFld_37_3 : tFld Tryz.prog 37 3 = some 4 := by kernel_rfl
theorem ty_tFldV_37_3 : tFldV Tryz.prog 37 3 = some (4,none) := by kernel_rfl
theorem ty_tFld_37_4 : tFld Tryz.prog 37 4 = some 5 := by kernel_rfl
theorem ty_tFldV_37_4 : tFldV Tryz.prog 37 4 = some (5,none) := by kernel_rfl
theorem ty_tFld_37_5 : tFld Tryz.prog 37 5 = some 6 := by kernel_rfl
theorem ty_tFldV_37_5 : tFldV Tryz.prog 37 5 = some (6,none) := by kernel_rfl
theorem ty_tFld_37_6 : tFld Tryz.prog 37 6 = some 7 := by kernel_rfl
theorem ty_tFldV_37_6 : tFldV Tryz.prog 37 6 = some (7,none) := by kernel_rfl
theorem ty_tFld_37_7 : tFld Tryz.prog 37 7 = some 8 := by kernel_rfl
theorem ty_tFldV_37_7 : tFldV Tryz.prog 37 7 = some (8,none) := by kernel_rfl
theorem ty_tShape_39 : tShape Tryz.prog 39 = some (some 12) := by kernel_rfl
theorem ty_tZero_39 : tZero Tryz.prog 39 = some [Value.int IntKind.i64 0,Value.int IntKind.i64 0,Value.slice none 0 0,Value.int IntKind.i64 0,Value.int IntKind.i64 0,Value.int IntKind.i64 0,Value.int IntKind.i64 0,Value.slice none 0 0,Value.int IntKind.i64 0,Value.int IntKind.i64 0,Value.int IntKind.i64 0,Value.slice none 0 0] := by kernel_rfl
theorem ty_nCells_39 : nCells Tryz.prog 39 = some 12 := by kernel_rfl
theorem ty_tFlat_39 : tFlat Tryz.prog 39 = none := by kernel_rfl
theorem ty_isBoolT_39 : isBoolT Tryz.prog 39 = false := by kernel_rfl
theorem ty_tBuilt_39 : tBuilt Tryz.prog 39 = some ([(0,1),(1,1),(2,1),(3,9)],[Value.int IntKind.i64 0,Value.int IntKind.i64 0,Value.slice none 0 0,Value.int IntKind.i64 0,Value.int IntKind.i64 0,Value.int IntKind.i64 0,Value.int IntKind.i64 0,Value.slice none 0 0,Value.int IntKind.i64 0,Value.int IntKind.i64 0,Value.int IntKind.i64 0,Value.slice none 0 0]) := by kernel_rfl
theorem ty_tFld_39_0 : tFld Tryz.prog 39 0 = some 0 := by kernel_rfl
theorem ty_tFldV_39_0 : tFldV Tryz.prog 39 0 = some (0,none) := by kernel_rfl
theorem ty_tFld_39_1 : tFld Tryz.prog 39 1 = some 1 := by kernel_rfl
theorem ty_tFldV_39_1 : tFldV Tryz.prog 39 1 = some (1,none) := by kernel_rfl
theorem ty_tFld_39_2 : tFld Tryz.prog 39 2 = some 2 := by kernel_rfl
theorem ty_tFldV_39_2 : tFldV Tryz.prog 39 2 = some (2,none) := by kernel_rfl
theorem ty_tFld_39_3 : tFld Tryz.prog 39 3 = some 3 := by kernel_rfl
theorem ty_tFldV_39_3 : tFldV Tryz.prog 39 3 = some (3,some 9) := by kernel_rfl
theorem ty_tShape_41 : tShape Tryz.prog 41 = some (some 2) := by kernel_rfl
theorem ty_tZero_41 : tZero Tryz.prog 41 = some [Value.int IntKind.i64 0,Value.slice none 0 0] := by kernel_rfl
theorem ty_nCells_41 : nCells Tryz.prog 41 = some 2 := by kernel_rfl
theorem ty_tFlat_41 : tFlat Tryz.prog 41 = none := by kernel_rfl
theorem ty_isBoolT_41 : isBoolT Tryz.prog 41 = false := by kernel_rfl
theorem ty_tBuilt_41 : tBuilt Tryz.prog 41 = some ([(0,1),(1,1)],[Value.int IntKind.i64 0,Value.slice none 0 0]) := by kernel_rfl
theorem ty_tFld_41_0 : tFld Tryz.prog 41 0 = some 0 := by kernel_rfl
theorem ty_tFldV_41_0 : tFldV Tryz.prog 41 0 = some (0,none) := by kernel_rfl
theorem ty_tFld_41_1 : tFld Tryz.prog 41 1 = some 1 := by kernel_rfl
theorem ty_tFldV_41_1 : tFldV Tryz.prog 41 1 = some (1,none) := by kernel_rfl
theorem ty_tShape_42 : tShape Tryz.prog 42 = some none := by kernel_rfl
theorem ty_tZero_42 : tZero Tryz.prog 42 = some [Value.slice none 0 0] := by kernel_rfl
theorem ty_tElt_42 : tElt Tryz.prog 42 = some (106,2,32) := by kernel_rfl
theorem ty_nCells_42 : nCells Tryz.prog 42 = some 1 := by kernel_rfl
theorem ty_tFlat_42 : tFlat Tryz.prog 42 = none := by kernel_rfl
theorem ty_isBoolT_42 : isBoolT Tryz.prog 42 = false := by kernel_rfl
theorem ty_tShape_44 : tShape Tryz.prog 44 = some (some 4) := by kernel_rfl
theorem ty_tZero_44 : tZero Tryz.prog 44 = some [Value.int IntKind.i64 0,Value.slice none 0 0,Value.slice none 0 0,Value.bool false] := by kernel_rfl
theorem ty_nCells_44 : nCells Tryz.prog 44 = some 4 := by kernel_rfl
theorem ty_tFlat_44 : tFlat Tryz.prog 44 = none := by kernel_rfl
theorem ty_isBoolT_44 : isBoolT Tryz.prog 44 = false := by kernel_rfl
theorem ty_tBuilt_44 : tBuilt Tryz.prog 44 = some ([(0,2),(2,1),(3,1)],[Value.int IntKind.i64 0,Value.slice none 0 0,Value.slice none 0 0,Value.bool false]) := by kernel_rfl
theorem ty_tFld_44_0 : tFld Tryz.prog 44 0 = some 0 := by kernel_rfl
theorem ty_tFldV_44_0 : tFldV Tryz.prog 44 0 = some (0,some 2) := by kernel_rfl
theorem ty_tFld_44_1 : tFld Tryz.prog 44 1 = some 2 := by kernel_rfl
theorem ty_tFldV_44_1 : tFldV Tryz.prog 44 1 = some (2,none) := by kernel_rfl
theorem ty_tFld_44_2 : tFld Tryz.prog 44 2 = some 3 := by kernel_rfl
theorem ty_tFldV_44_2 : tFldV Tryz.prog 44 2 = some (3,none) := by kernel_rfl
theorem ty_tShape_46 : tShape Tryz.prog 46 = some (some 5) := by kernel_rfl
theorem ty_tZero_46 : tZero Tryz.prog 46 = some [Value.int IntKind.i64 0,Value.int IntKind.i64 0,Value.int IntKind.i64 0,Value.slice none 0 0,Value.slice none 0 0] := by kernel_rfl
theorem ty_nCells_46 : nCells Tryz.prog 46 = some 5 := by kernel_rfl
theorem ty_tFlat_46 : tFlat Tryz.prog 46 = none := by kernel_rfl
theorem ty_isBoolT_46 : isBoolT Tryz.prog 46 = false := by kernel_rfl
theorem ty_tBuilt_46 : tBuilt Tryz.prog 46 = some ([(0,1),(1,1),(2,1),(3,1),(4,1)],[Value.int IntKind.i64 0,Value.int IntKind.i64 0,Value.int IntKind.i64 0,Value.slice none 0 0,Value.slice none 0 0]) := by kernel_rfl
theorem ty_tFld_46_0 : tFld Tryz.prog 46 0 = some 0 := by kernel_rfl
theorem ty_tFldV_46_0 : tFldV Tryz.prog 46 0 = some (0,none) := by kernel_rfl
theorem ty_tFld_46_1 : tFld Tryz.prog 46 1 = some 1 := by kernel_rfl
theorem ty_tFldV_46_1 : tFldV Tryz.prog 46 1 = some (1,none) := by kernel_rfl
theorem ty_tFld_46_2 : tFld Tryz.prog 46 2 = some 2 := by kernel_rfl
theorem ty_tFldV_46_2 : tFldV Tryz.prog 46 2 = some (2,none) := by kernel_rfl
theorem ty_tFld_46_3 : tFld Tryz.prog 46 3 = some 3 := by kernel_rfl
theorem ty_tFldV_46_3 : tFldV Tryz.prog 46 3 = some (3,none) := by kernel_rfl
theorem ty_tFld_46_4 : tFld Tryz.prog 46 4 = some 4 := by kernel_rfl
theorem ty_tFldV_46_4 : tFldV Tryz.prog 46 4 = some (4,none) := by kernel_rfl
theorem ty_tShape_50 : tShape Tryz.prog 50 = some none := by kernel_rfl
theorem ty_tZero_50 : tZero Tryz.prog 50 = some [Value.nilFunc] := by kernel_rfl
theorem ty_nCells_50 : nCells Tryz.prog 50 = some 1 := by kernel_rfl
theorem ty_tFlat_50 : tFlat Tryz.prog 50 = none := by kernel_rfl
theorem ty_isBoolT_50 : isBoolT Tryz.prog 50 = false := by kernel_rfl
theorem ty_tShape_51 : tShape Tryz.prog 51 = some none := by kernel_rfl
theorem ty_tZero_51 : tZero Tryz.prog 51 = some [Value.slice none 0 0] := by kernel_rfl
theorem ty_tElt_51 : tElt Tryz.prog 51 = some (90,10,112) := by kernel_rfl
theorem ty_nCells_51 : nCells Tryz.prog 51 = some 1 := by kernel_rfl
theorem ty_tFlat_51 : tFlat Tryz.prog 51 = none := by kernel_rfl
theorem ty_isBoolT_51 : isBoolT Tryz.prog 51 = false := by kernel_rfl
theorem ty_tShape_52 : tShape Tryz.prog 52 = some none := by kernel_rfl
theorem ty_tZero_52 : tZero Tryz.prog 52 = some [Value.int IntKind.i64 0] := by kernel_rfl
theorem ty_tInt_52 : tInt Tryz.prog 52 = some IntKind.i64 := by kernel_rfl
theorem ty_nCells_52 : nCells Tryz.prog 52 = some 1 := by kernel_rfl
theorem ty_tFlat_52 : tFlat Tryz.prog 52 = none := by kernel_rfl
theorem ty_isBoolT_52 : isBoolT Tryz.prog 52 = false := by kernel_rfl
theorem ty_tShape_55 : tShape Tryz.prog 55 = some none := by kernel_rfl
theorem ty_tZero_55 : tZero Tryz.prog 55 = some [Value.slice none 0 0] := by kernel_rfl
theorem ty_tElt_55 : tElt Tryz.prog 55 = some (114,10,112) := by kernel_rfl
theorem ty_nCells_55 : nCells Tryz.prog 55 = some 1 := by kernel_rfl
theorem ty_tFlat_55 : tFlat Tryz.prog 55 = none := by kernel_rfl
theorem ty_isBoolT_55 : isBoolT Tryz.prog 55 = false := by kernel_rfl
theorem ty_tShape_61 : tShape Tryz.prog 61 = some none := by kernel_rfl
theorem ty_tZero_61 : tZero Tryz.prog 61 = some [Value.slice none 0 0] := by kernel_rfl
theorem ty_tElt_61 : tElt Tryz.prog 61 = some (109,6,96) := by kernel_rfl
theorem ty_nCells_61 : nCells Tryz.prog 61 = some 1 := by kernel_rfl
theorem ty_tFlat_61 : tFlat Tryz.prog 61 = none := by kernel_rfl
theorem ty_isBoolT_61 : isBoolT Tryz.prog 61 = false := by kernel_rfl
theorem ty_tShape_63 : tShape Tryz.prog 63 = some (some 9) := by kernel_rfl
theorem ty_tZero_63 : tZero Tryz.prog 63 = some [Value.int IntKind.i64 0,Value.int IntKind.i64 0,Value.int IntKind.i64 0,Value.int IntKind.i64 0,Value.slice none 0 0,Value.int IntKind.i64 0,Value.int IntKind.i64 0,Value.int IntKind.i64 0,Value.slice none 0 0] := by kernel_rfl
theorem ty_nCells_63 : nCells Tryz.prog 63 = some 9 := by kernel_rfl
theorem ty_tFlat_63 : tFlat Tryz.prog 63 = none := by kernel_rfl
theorem ty_isBoolT_63 : isBoolT Tryz.prog 63 = false := by kernel_rfl
theorem ty_tBuilt_63 : tBuilt Tryz.prog 63 = some ([(0,1),(1,1),(2,2),(4,1),(5,1),(6,1),(7,1),(8,1)],[Value.int IntKind.i64 0,Value.int IntKind.i64 0,Value.int IntKind.i64 0,Value.int IntKind.i64 0,Value.slice none 0 0,Value.int IntKind.i64 0,Value.int IntKind.i64 0,Value.int IntKind.i64 0,Value.slice none 0 0]) := by kernel_rfl
theorem ty_tFld_63_0 : tFld Tryz.prog 63 0 = some 0 := by kernel_rfl
theorem ty_tFldV_63_0 : tFldV Tryz.prog 63 0 = some (0,none) := by kernel_rfl
theorem ty_tFld_63_1 : tFld Tryz.prog 63 1 = some 1 := by kernel_rfl
theorem ty_tFldV_63_1 : tFldV Tryz.prog 63 1 = some (1,none) := by kernel_rfl
theorem ty_tFld_63_2 : tFld Tryz.prog 63 2 = some 2 := by kernel_rfl
theorem ty_tFldV_63_2 : tFldV Tryz.prog 63 2 = some (2,some 2) := by kernel_rfl
theorem ty_tFld_63_3 : tFld Tryz.prog 63 3 = some 4 := by kernel_rfl
theorem ty_tFldV_63_3 : tFldV Tryz.prog 63 3 = some (4,none) := by kernel_rfl
theorem ty_tFld_63_4 : tFld Tryz.prog 63 4 = some 5 := by kernel_rfl
theorem ty_tFldV_63_4 : tFldV Tryz.prog 63 4 = some (5,none) := by kernel_rfl
theorem ty_tFld_63_5 : tFld Tryz.prog 63 5 = some 6 := by kernel_rfl
theorem ty_tFldV_63_5 : tFldV Tryz.prog 63 5 = some (6,none) := by kernel_rfl
theorem ty_tFld_63_6 : tFld Tryz.prog 63 6 = some 7 := by kernel_rfl
theorem ty_tFldV_63_6 : tFldV Tryz.prog 63 6 = some (7,none) := by kernel_rfl
theorem ty_tFld_63_7 : tFld Tryz.prog 63 7 = some 8 := by kernel_rfl
theorem ty_tFldV_63_7 : tFldV Tryz.prog 63 7 = some (8,none) := by kernel_rfl
theorem ty_tShape_71 : tShape Tryz.prog 71 = some none := by kernel_rfl
theorem ty_tZero_71 : tZero Tryz.prog 71 = some [Value.slice none 0 0] := by kernel_rfl
theorem ty_tElt_71 : tElt Tryz.prog 71 = some (88,1,2) := by kernel_rfl
theorem ty_nCells_71 : nCells Tryz.prog 71 = some 1 := by kernel_rfl
theorem ty_tFlat_71 : tFlat Tryz.prog 71 = none := by kernel_rfl
theorem ty_isBoolT_71 : isBoolT Tryz.prog 71 = false := by kernel_rfl
theorem ty_tShape_73 : tShape Tryz.prog 73 = some (some 3) := by kernel_rfl
theorem ty_tZero_73 : tZero Tryz.prog 73 = some [Value.slice none 0 0,Value.int IntKind.i64 0,Value.slice none 0 0] := by kernel_rfl
theorem ty_nCells_73 : nCells Tryz.prog 73 = some 3 := by kernel_rfl
theorem ty_tFlat_73 : tFlat Tryz.prog 73 = none := by kernel_rfl
theorem ty_isBoolT_73 : isBoolT Tryz.prog 73 = false := by kernel_rfl
theorem ty_tBuilt_73 : tBuilt Tryz.prog 73 = some ([(0,1),(1,1),(2,1)],[Value.slice none 0 0,Value.int IntKind.i64 0,Value.slice none 0 0]) := by kernel_rfl
theorem ty_tFld_73_0 : tFld Tryz.prog 73 0 = some 0 := by kernel_rfl
theorem ty_tFldV_73_0 : tFldV Tryz.prog 73 0 = some (0,none) := by kernel_rfl
theorem ty_tFld_73_1 : tFld Tryz.prog 73 1 = some 1 := by kernel_rfl
theorem ty_tFldV_73_1 : tFldV Tryz.prog 73 1 = some (1,none) := by kernel_rfl
theorem ty_tFld_73_2 : tFld Tryz.prog 73 2 = some 2 := by kernel_rfl
theorem ty_tFldV_73_2 : tFldV Tryz.prog 73 2 = some (2,none) := by kernel_rfl
theorem ty_tShape_76 : tShape Tryz.prog 76 = some (some 3) := by kernel_rfl
theorem ty_tZero_76 : tZero Tryz.prog 76 = some [Value.slice none 0 0,Value.slice none 0 0,Value.slice none 0 0] := by kernel_rfl
theorem ty_nCells_76 : nCells Tryz.prog 76 = some 3 := by kernel_rfl
theorem ty_tFlat_76 : tFlat Tryz.prog 76 = none := by kernel_rfl
theorem ty_isBoolT_76 : isBoolT Tryz.prog 76 = false := by kernel_rfl
theorem ty_tBuilt_76 : tBuilt Tryz.prog 76 = some ([(0,1),(1,1),(2,1)],[Value.slice none 0 0,Value.slice none 0 0,Value.slice none 0 0]) := by kernel_rfl
theorem ty_tFld_76_0 : tFld Tryz.prog 76 0 = some 0 := by kernel_rfl
theorem ty_tFldV_76_0 : tFldV Tryz.prog 76 0 = some (0,none) := by kernel_rfl
theorem ty_tFld_76_1 : tFld Tryz.prog 76 1 = some 1 := by kernel_rfl
theorem ty_tFldV_76_1 : tFldV Tryz.prog 76 1 = some (1,none) := by kernel_rfl
theorem ty_tFld_76_2 : tFld Tryz.prog 76 2 = some 2 := by kernel_rfl
theorem ty_tFldV_76_2 : tFldV Tryz.prog 76 2 = some (2,none) := by kernel_rfl
theorem ty_tShape_78 : tShape Tryz.prog 78 = some none := by kernel_rfl
theorem ty_tZero_78 : tZero Tryz.prog 78 = some [Value.slice none 0 0] := by kernel_rfl
theorem ty_tElt_78 : tElt Tryz.prog 78 = some (138,4,80) := by kernel_rfl
theorem ty_nCells_78 : nCells Tryz.prog 78 = some 1 := by kernel_rfl
theorem ty_tFlat_78 : tFlat Tryz.prog 78 = none := by kernel_rfl
theorem ty_isBoolT_78 : isBoolT Tryz.prog 78 = false := by kernel_rfl
theorem ty_tShape_80 : tShape Tryz.prog 80 = some (some 2) := by kernel_rfl
theorem ty_tZero_80 : tZero Tryz.prog 80 = some [Value.int IntKind.i64 0,Value.slice none 0 0] := by kernel_rfl
theorem ty_nCells_80 : nCells Tryz.prog 80 = some 2 := by kernel_rfl
theorem ty_tFlat_80 : tFlat Tryz.prog 80 = none := by kernel_rfl
theorem ty_isBoolT_80 : isBoolT Tryz.prog 80 = false := by kernel_rfl
theorem ty_tBuilt_80 : tBuilt Tryz.prog 80 = some ([(0,1),(1,1)],[Value.int IntKind.i64 0,Value.slice none 0 0]) := by kernel_rfl
theorem ty_tFld_80_0 : tFld Tryz.prog 80 0 = some 0 := by kernel_rfl
theorem ty_tFldV_80_0 : tFldV Tryz.prog 80 0 = some (0,none) := by kernel_rfl
theorem ty_tFld_80_1 : tFld Tryz.prog 80 1 = some 1 := by kernel_rfl
theorem ty_tFldV_80_1 : tFldV Tryz.prog 80 1 = some (1,none) := by kernel_rfl
theorem ty_tShape_81 : tShape Tryz.prog 81 = some none := by kernel_rfl
theorem ty_tZero_81 : tZero Tryz.prog 81 = some [Value.slice none 0 0] := by kernel_rfl
theorem ty_tElt_81 : tElt Tryz.prog 81 = some (31,5,72) := by kernel_rfl
theorem ty_nCells_81 : nCells Tryz.prog 81 = some 1 := by kernel_rfl
theorem ty_tFlat_81 : tFlat Tryz.prog 81 = none := by kernel_rfl
theorem ty_isBoolT_81 : isBoolT Tryz.prog 81 = false := by kernel_rfl
theorem ty_tShape_83 : tShape Tryz.prog 83 = some none := by kernel_rfl
theorem ty_tZero_83 : tZero Tryz.prog 83 = some [Value.slice none 0 0] := by kernel_rfl
theorem ty_tElt_83 : tElt Tryz.prog 83 = some (157,2,32) := by kernel_rfl
theorem ty_nCells_83 : nCells Tryz.prog 83 = some 1 := by kernel_rfl
theorem ty_tFlat_83 : tFlat Tryz.prog 83 = none := by kernel_rfl
theorem ty_isBoolT_83 : isBoolT Tryz.prog 83 = false := by kernel_rfl
theorem ty_tShape_84 : tShape Tryz.prog 84 = some none := by kernel_rfl
theorem ty_tZero_84 : tZero Tryz.prog 84 = some [Value.slice none 0 0] := by kernel_rfl
theorem ty_tElt_84 : tElt Tryz.prog 84 = some (161,3,24) := by kernel_rfl
theorem ty_nCells_84 : nCells Tryz.prog 84 = some 1 := by kernel_rfl
theorem ty_tFlat_84 : tFlat Tryz.prog 84 = none := by kernel_rfl
theorem ty_isBoolT_84 : isBoolT Tryz.prog 84 = false := by kernel_rfl
theorem ty_tShape_86 : tShape Tryz.prog 86 = some (some 4) := by kernel_rfl
theorem ty_tZero_86 : tZero Tryz.prog 86 = some [Value.int IntKind.i64 0,Value.slice none 0 0,Value.slice none 0 0,Value.slice none 0 0] := by kernel_rfl
theorem ty_nCells_86 : nCells Tryz.prog 86 = some 4 := by kernel_rfl
theorem ty_tFlat_86 : tFlat Tryz.prog 86 = none := by kernel_rfl
theorem ty_isBoolT_86 : isBoolT Tryz.prog 86 = false := by kernel_rfl
theorem ty_tBuilt_86 : tBuilt Tryz.prog 86 = some ([(0,1),(1,1),(2,1),(3,1)],[Value.int IntKind.i64 0,Value.slice none 0 0,Value.slice none 0 0,Value.slice none 0 0]) := by kernel_rfl
theorem ty_tFld_86_0 : tFld Tryz.prog 86 0 = some 0 := by kernel_rfl
theorem ty_tFldV_86_0 : tFldV Tryz.prog 86 0 = some (0,none) := by kernel_rfl
theorem ty_tFld_86_1 : tFld Tryz.prog 86 1 = some 1 := by kernel_rfl
theorem ty_tFldV_86_1 : tFldV Tryz.prog 86 1 = some (1,none) := by kernel_rfl
theorem ty_tFld_86_2 : tFld Tryz.prog 86 2 = some 2 := by kernel_rfl
theorem ty_tFldV_86_2 : tFldV Tryz.prog 86 2 = some (2,none) := by kernel_rfl
theorem ty_tFld_86_3 : tFld Tryz.prog 86 3 = some 3 := by kernel_rfl
theorem ty_tFldV_86_3 : tFldV Tryz.prog 86 3 = some (3,none) := by kernel_rfl
theorem ty_tShape_88 : tShape Tryz.prog 88 = some none := by kernel_rfl
theorem ty_tZero_88 : tZero Tryz.prog 88 = some [Value.int IntKind.u16 0] := by kernel_rfl
theorem ty_tInt_88 : tInt Tryz.prog 88 = some IntKind.u16 := by kernel_rfl
theorem ty_nCells_88 : nCells Tryz.prog 88 = some 1 := by kernel_rfl
theorem ty_tFlat_88 : tFlat Tryz.prog 88 = none := by kernel_rfl
theorem ty_isBoolT_88 : isBoolT Tryz.prog 88 = false := by kernel_rfl
theorem ty_tShape_90 : tShape Tryz.prog 90 = some (some 10) := by kernel_rfl
theorem ty_tZero_90 : tZero Tryz.prog 90 = some [Value.int IntKind.i64 0,Value.int IntKind.i64 0,Value.int IntKind.i64 0,Value.int IntKind.i64 0,Value.int IntKind.i64 0,Value.slice none 0 0,Value.int IntKind.i64 0,Value.int IntKind.i64 0,Value.int IntKind.i64 0,Value.slice none 0 0] := by kernel_rfl
theorem ty_nCells_90 : nCells Tryz.prog 90 = some 10 := by kernel_rfl
theorem ty_tFlat_90 : tFlat Tryz.prog 90 = none := by kernel_rfl
theorem ty_isBoolT_90 : isBoolT Tryz.prog 90 = false := by kernel_rfl
theorem ty_tBuilt_90 : tBuilt Tryz.prog 90 = some ([(0,1),(1,9)],[Value.int IntKind.i64 0,Value.int IntKind.i64 0,Value.int IntKind.i64 0,Value.int IntKind.i64 0,Value.int IntKind.i64 0,Value.slice none 0 0,Value.int IntKind.i64 0,Value.int IntKind.i64 0,Value.int IntKind.i64 0,Value.slice none 0 0]) := by kernel_rfl
theorem ty_tFld_90_0 : tFld Tryz.prog 90 0 = some 0 := by kernel_rfl
theorem ty_tFldV_90_0 : tFldV Tryz.prog 90 0 = some (0,none) := by kernel_rfl
theorem ty_tFld_90_1 : tFld Tryz.prog 90 1 = some 1 := by kernel_rfl
theorem ty_tFldV_90_1 : tFldV Tryz.prog 90 1 = some (1,some 9) := by kernel_rfl
theorem ty_tShape_91 : tShape Tryz.prog 91 = some (some 2) := by kernel_rfl
theorem ty_tZero_91 : tZero Tryz.prog 91 = some [Value.int IntKind.i64 0,Value.int IntKind.i64 0] := by kernel_rfl
theorem ty_tElt_91 : tElt Tryz.prog 91 = none := by kernel_rfl
theorem ty_tArr_91 : tArr Tryz.prog 91 = some (2,1) := by kernel_rfl
theorem ty_nCells_91 : nCells Tryz.prog 91 = some 2 := by kernel_rfl
theorem ty_tFlat_91 : tFlat Tryz.prog 91 = some 2 := by kernel_rfl
theorem ty_isBoolT_91 : isBoolT Tryz.prog 91 = false := by kernel_rfl
theorem ty_tBuilt_91 : tBuilt Tryz.prog 91 = some ([(0,1),(1,1)],[Value.int IntKind.i64 0,Value.int IntKind.i64 0]) := by kernel_rfl
theorem ty_tShape_94 : tShape Tryz.prog 94 = some none := by kernel_rfl
theorem ty_tZero_94 : tZero Tryz.prog 94 = some [Value.nilFunc] := by kernel_rfl
theorem ty_nCells_94 : nCells Tryz.prog 94 = some 1 := by kernel_rfl
theorem ty_tFlat_94 : tFlat Tryz.prog 94 = none := by kernel_rfl
theorem ty_isBoolT_94 : isBoolT Tryz.prog 94 = false := by kernel_rfl
theorem ty_tShape_95 : tShape Tryz.prog 95 = some none := by kernel_rfl
theorem ty_tZero_95 : tZero Tryz.prog 95 = some [Value.nilFunc] := by kernel_rfl
theorem ty_nCells_95 : nCells Tryz.prog 95 = some 1 := by kernel_rfl
theorem ty_tFlat_95 : tFlat Tryz.prog 95 = none := by kernel_rfl
theorem ty_isBoolT_95 : isBoolT Tryz.prog 95 = false := by kernel_rfl
theorem ty_tShape_96 : tShape Tryz.prog 96 = some none := by kernel_rfl
theorem ty_tZero_96 : tZero Tryz.prog 96 = some [Value.nilFunc] := by kernel_rfl
theorem ty_nCells_96 : nCells Tryz.prog 96 = some 1 := by kernel_rfl
theorem ty_tFlat_96 : tFlat Tryz.prog 96 = none := by kernel_rfl
theorem ty_isBoolT_96 : isBoolT Tryz.prog 96 = false := by kernel_rfl
theorem ty_tShape_97 : tShape Tryz.prog 97 = some none := by kernel_rfl
theorem ty_tZero_97 : tZero Tryz.prog 97 = some [Value.nilFunc] := by kernel_rfl
theorem ty_nCells_97 : nCells Tryz.prog 97 = some 1 := by kernel_rfl
theorem ty_tFlat_97 : tFlat Tryz.prog 97 = none := by kernel_rfl
theorem ty_isBoolT_97 : isBoolT Tryz.prog 97 = false := by kernel_rfl
theorem ty_tShape_98 : tShape Tryz.prog 98 = some none := by kernel_rfl
theorem ty_tZero_98 : tZero Tryz.prog 98 = some [Value.nilFunc] := by kernel_rfl
theorem ty_nCells_98 : nCells Tryz.prog 98 = some 1 := by kernel_rfl
theorem ty_tFlat_98 : tFlat Tryz.prog 98 = none := by kernel_rfl
theorem ty_isBoolT_98 : isBoolT Tryz.prog 98 = false := by kernel_rfl
theorem ty_tShape_102 : tShape Tryz.prog 102 = some (some 6) := by kernel_rfl
theorem ty_tZero_102 : tZero Tryz.prog 102 = some [Value.int IntKind.i64 0,Value.int IntKind.i64 0,Value.int IntKind.i64 0,Value.slice none 0 0,Value.slice none 0 0,Value.slice none 0 0] := by kernel_rfl
theorem ty_nCells_102 : nCells Tryz.prog 102 = some 6 := by kernel_rfl
theorem ty_tFlat_102 : tFlat Tryz.prog 102 = none := by kernel_rfl
theorem ty_isBoolT_102 : isBoolT Tryz.prog 102 = false := by kernel_rfl
theorem ty_tBuilt_102 : tBuilt Tryz.prog 102 = some ([(0,1),(1,1),(2,1),(3,1),(4,1),(5,1)],[Value.int IntKind.i64 0,Value.int IntKind.i64 0,Value.int IntKind.i64 0,Value.slice none 0 0,Value.slice none 0 0,Value.slice none 0 0]) := by kernel_rfl
theorem ty_tFld_102_0 : tFld Tryz.prog 102 0 = some 0 := by kernel_rfl
theorem ty_tFldV_102_0 : tFldV Tryz.prog 102 0 = some (0,none) := by kernel_rfl
theorem ty_tFld_102_1 : tFld Tryz.prog 102 1 = some 1 := by kernel_rfl
theorem ty_tFldV_102_1 : tFldV Tryz.prog 102 1 = some (1,none) := by kernel_rfl
theorem ty_tFld_102_2 : tFld Tryz.prog 102 2 = some 2 := by kernel_rfl
theorem ty_tFldV_102_2 : tFldV Tryz.prog 102 2 = some (2,none) := by kernel_rfl
theorem ty_tFld_102_3 : tFld Tryz.prog 102 3 = some 3 := by kernel_rfl
theorem ty_tFldV_102_3 : tFldV Tryz.prog 102 3 = some (3,none) := by kernel_rfl
theorem ty_tFld_102_4 : tFld Tryz.prog 102 4 = some 4 := by kernel_rfl
theorem ty_tFldV_102_4 : tFldV Tryz.prog 102 4 = some (4,none) := by kernel_rfl
theorem ty_tFld_102_5 : tFld Tryz.prog 102 5 = some 5 := by kernel_rfl
theorem ty_tFldV_102_5 : tFldV Tryz.prog 102 5 = some (5,none) := by kernel_rfl
theorem ty_tShape_103 : tShape Tryz.prog 103 = some none := by kernel_rfl
theorem ty_tZero_103 : tZero Tryz.prog 103 = some [Value.nilFunc] := by kernel_rfl
theorem ty_nCells_103 : nCells Tryz.prog 103 = some 1 := by kernel_rfl
theorem ty_tFlat_103 : tFlat Tryz.prog 103 = none := by kernel_rfl
theorem ty_isBoolT_103 : isBoolT Tryz.prog 103 = false := by kernel_rfl
theorem ty_tShape_104 : tShape Tryz.prog 104 = some none := by kernel_rfl
theorem ty_tZero_104 : tZero Tryz.prog 104 = some [Value.slice none 0 0] := by kernel_rfl
theorem ty_tElt_104 : tElt Tryz.prog 104 = some (86,4,80) := by kernel_rfl
theorem ty_nCells_104 : nCells Tryz.prog 104 = some 1 := by kernel_rfl
theorem ty_tFlat_104 : tFlat Tryz.prog 104 = none := by kernel_rfl
theorem ty_isBoolT_104 : isBoolT Tryz.prog 104 = false := by kernel_rfl
theorem ty_tShape_106 : tShape Tryz.prog 106 = some (some 2) := by kernel_rfl
theorem ty_tZero_106 : tZero Tryz.prog 106 = some [Value.int IntKind.i64 0,Value.slice none 0 0] := by kernel_rfl
theorem ty_nCells_106 : nCells Tryz.prog 106 = some 2 := by kernel_rfl
theorem ty_tFlat_106 : tFlat Tryz.prog 106 = none := by kernel_rfl
theorem ty_isBoolT_106 : isBoolT Tryz.prog 106 = false := by kernel_rfl
theorem ty_tBuilt_106 : tBuilt Tryz.prog 106 = some ([(0,1),(1,1)],[Value.int IntKind.i64 0,Value.slice none 0 0]) := by kernel_rfl
theorem ty_tFld_106_0 : tFld Tryz.prog 106 0 = some 0 := by kernel_rfl
theorem ty_tFldV_106_0 : tFldV Tryz.prog 106 0 = some (0,none) := by kernel_rfl
theorem ty_tFld_106_1 : tFld Tryz.prog 106 1 = some 1 := by kernel_rfl
theorem ty_tFldV_106_1 : tFldV Tryz.prog 106 1 = some (1,none) := by kernel_rfl
theorem ty_tShape_107 : tShape Tryz.prog 107 = some none := by kernel_rfl
theorem ty_tZero_107 : tZero Tryz.prog 107 = some [Value.nilFunc] := by kernel_rfl
theorem ty_nCells_107 : nCells Tryz.prog 107 = some 1 := by kernel_rfl
theorem ty_tFlat_107 : tFlat Tryz.prog 107 = none := by kernel_rfl
theorem ty_isBoolT_107 : isBoolT Tryz.prog 107 = false := by kernel_rfl
theorem ty_tShape_109 : tShape Tryz.prog 109 = some (some 6) := by kernel_rfl
theorem ty_tZero_109 : tZero Tryz.prog 109 = some [Value.int IntKind.i64 0,Value.int IntKind.i64 0,Value.int IntKind.i64 0,Value.slice none 0 0,Value.slice none 0 0,Value.slice none 0 0] := by kernel_rfl
theorem ty_nCells_109 : nCells Tryz.prog 109 = some 6 := by kernel_rfl
theorem ty_tFlat_109 : tFlat Tryz.prog 109 = none := by kernel_rfl
theorem ty_isBoolT_109 : isBoolT Tryz.prog 109 = false := by kernel_rfl
theorem ty_tBuilt_109 : tBuilt Tryz.prog 109 = some ([(0,1),(1,1),(2,1),(3,1),(4,1),(5,1)],[Value.int IntKind.i64 0,Value.int IntKind.i64 0,Value.int IntKind.i64 0,Value.slice none 0 0,Value.slice none 0 0,Value.slice none 0 0]) := by kernel_rfl
theorem ty_tFld_109_0 : tFld Tryz.prog 109 0 = some 0 := by kernel_rfl
theorem ty_tFldV_109_0 : tFldV Tryz.prog 109 0 = some (0,none) := by kernel_rfl
theorem ty_tFld_109_1 : tFld Tryz.prog 109 1 = some 1 := by kernel_rfl
theorem ty_tFldV_109_1 : tFldV Tryz.prog 109 1 = some (1,none) := by kernel_rfl
theorem ty_tFld_109_2 : tFld Tryz.prog 109 2 = some 2 := by kernel_rfl
theorem ty_tFldV_109_2 : tFldV Tryz.prog 109 2 = some (2,none) := by kernel_rfl
theorem ty_tFld_109_3 : tFld Tryz.prog 109 3 = some 3 := by kernel_rfl
theorem ty_tFldV_109_3 : tFldV Tryz.prog 109 3 = some (3,none) := by kernel_rfl
theorem ty_tFld_109_4 : tFld Tryz.prog 109 4 = some 4 := by kernel_rfl
theorem ty_tFldV_109_4 : tFldV Tryz.prog 109 4 = some (4,none) := by kernel_rfl
theorem ty_tFld_109_5 : tFld Tryz.prog 109 5 = some 5 := by kernel_rfl
theorem ty_tFldV_109_5 : tFldV Tryz.prog 109 5 = some (5,none) := by kernel_rfl
theorem ty_tShape_114 : tShape Tryz.prog 114 = some (some 10) := by kernel_rfl
theorem ty_tZero_114 : tZero Tryz.prog 114 = some [Value.int IntKind.i64 0,Value.int IntKind.i64 0,Value.int IntKind.i64 0,Value.int IntKind.i64 0,Value.int IntKind.i64 0,Value.slice none 0 0,Value.int IntKind.i64 0,Value.int IntKind.i64 0,Value.int IntKind.i64 0,Value.slice none 0 0] := by kernel_rfl
theorem ty_nCells_114 : nCells Tryz.prog 114 = some 10 := by kernel_rfl
theorem ty_tFlat_114 : tFlat Tryz.prog 114 = none := by kernel_rfl
theorem ty_isBoolT_114 : isBoolT Tryz.prog 114 = false := by kernel_rfl
theorem ty_tBuilt_114 : tBuilt Tryz.prog 114 = some ([(0,1),(1,9)],[Value.int IntKind.i64 0,Value.int IntKind.i64 0,Value.int IntKind.i64 0,Value.int IntKind.i64 0,Value.int IntKind.i64 0,Value.slice none 0 0,Value.int IntKind.i64 0,Value.int IntKind.i64 0,Value.int IntKind.i64 0,Value.slice none 0 0]) := by kernel_rfl
theorem ty_tFld_114_0 : tFld Tryz.prog 114 0 = some 0 := by kernel_rfl
theorem ty_tFldV_114_0 : tFldV Tryz.prog 114 0 = some (0,none) := by kernel_rfl
theorem ty_tFld_114_1 : tFld Tryz.prog 114 1 = some 1 := by kernel_rfl
theorem ty_tFldV_114_1 : tFldV Tryz.prog 114 1 = some (1,some 9) := by kernel_rfl
theorem ty_tShape_116 : tShape Tryz.prog 116 = some (some 9) := by kernel_rfl
theorem ty_tZero_116 : tZero Tryz.prog 116 = some [Value.int IntKind.i64 0,Value.int IntKind.i64 0,Value.int IntKind.i64 0,Value.slice none 0 0,Value.slice none 0 0,Value.int IntKind.i64 0,Value.slice none 0 0,Value.slice none 0 0,Value.bool false] := by kernel_rfl
theorem ty_nCells_116 : nCells Tryz.prog 116 = some 9 := by kernel_rfl
theorem ty_tFlat_116 : tFlat Tryz.prog 116 = none := by kernel_rfl
theorem ty_isBoolT_116 : isBoolT Tryz.prog 116 = false := by kernel_rfl
theorem ty_tBuilt_116 : tBuilt Tryz.prog 116 = some ([(0,5),(5,4)],[Value.int IntKind.i64 0,Value.int IntKind.i64 0,Value.int IntKind.i64 0,Value.slice none 0 0,Value.slice none 0 0,Value.int IntKind.i64 0,Value.slice none 0 0,Value.slice none 0 0,Value.bool false]) := by kernel_rfl
theorem ty_tFld_116_0 : tFld Tryz.prog 116 0 = some 0 := by kernel_rfl
theorem ty_tFldV_116_0 : tFldV Tryz.prog 116 0 = some (0,some 5) := by kernel_rfl
theorem ty_tFld_116_1 : tFld Tryz.prog 116 1 = some 5 := by kernel_rfl
theorem ty_tFldV_116_1 : tFldV Tryz.prog 116 1 = some (5,some 4) := by kernel_rfl
theorem ty_tShape_133 : tShape Tryz.prog 133 = some none := by kernel_rfl
theorem ty_tZero_133 : tZero Tryz.prog 133 = some [Value.slice none 0 0] := by kernel_rfl
theorem ty_tElt_133 : tElt Tryz.prog 133 = some (4,1,1) := by kernel_rfl
theorem ty_nCells_133 : nCells Tryz.prog 133 = some 1 := by kernel_rfl
theorem ty_tFlat_133 : tFlat Tryz.prog 133 = none := by kernel_rfl
theorem ty_isBoolT_133 : isBoolT Tryz.prog 133 = false := by kernel_rfl
theorem ty_tShape_135 : tShape Tryz.prog 135 = some none := by kernel_rfl
theorem ty_tZero_135 : tZero Tryz.prog 135 = some [Value.slice none 0 0] := by kernel_rfl
theorem ty_tElt_135 : tElt Tryz.prog 135 = some (165,2,32) := by kernel_rfl
theorem ty_nCells_135 : nCells Tryz.prog 135 = some 1 := by kernel_rfl
theorem ty_tFlat_135 : tFlat Tryz.prog 135 = none := by kernel_rfl
theorem ty_isBoolT_135 : isBoolT Tryz.prog 135 = false := by kernel_rfl
theorem ty_tShape_136 : tShape Tryz.prog 136 = some none := by kernel_rfl
theorem ty_tZero_136 : tZero Tryz.prog 136 = some [Value.slice none 0 0] := by kernel_rfl
theorem ty_tElt_136 : tElt Tryz.prog 136 = some (166,3,24) := by kernel_rfl
theorem ty_nCells_136 : nCells Tryz.prog 136 = some 1 := by kernel_rfl
theorem ty_tFlat_136 : tFlat Tryz.prog 136 = none := by kernel_rfl
theorem ty_isBoolT_136 : isBoolT Tryz.prog 136 = false := by kernel_rfl
theorem ty_tShape_138 : tShape Tryz.prog 138 = some (some 4) := by kernel_rfl
theorem ty_tZero_138 : tZero Tryz.prog 138 = some [Value.int IntKind.i64 0,Value.slice none 0 0,Value.slice none 0 0,Value.slice none 0 0] := by kernel_rfl
theorem ty_nCells_138 : nCells Tryz.prog 138 = some 4 := by kernel_rfl
theorem ty_tFlat_138 : tFlat Tryz.prog 138 = none := by kernel_rfl
theorem ty_isBoolT_138 : isBoolT Tryz.prog 138 = false := by kernel_rfl
theorem ty_tBuilt_138 : tBuilt Tryz.prog 138 = some ([(0,1),(1,1),(2,1),(3,1)],[Value.int IntKind.i64 0,Value.slice none 0 0,Value.slice none 0 0,Value.slice none 0 0]) := by kernel_rfl
theorem ty_tFld_138_0 : tFld Tryz.prog 138 0 = some 0 := by kernel_rfl
theorem ty_tFldV_138_0 : tFldV Tryz.prog 138 0 = some (0,none) := by kernel_rfl
theorem ty_tFld_138_1 : tFld Tryz.prog 138 1 = some 1 := by kernel_rfl
theorem ty_tFldV_138_1 : tFldV Tryz.prog 138 1 = some (1,none) := by kernel_rfl
theorem ty_tFld_138_2 : tFld Tryz.prog 138 2 = some 2 := by kernel_rfl
theorem ty_tFldV_138_2 : tFldV Tryz.prog 138 2 = some (2,none) := by kernel_rfl
theorem ty_tFld_138_3 : tFld Tryz.prog 138 3 = some 3 := by kernel_rfl
theorem ty_tFldV_138_3 : tFldV Tryz.prog 138 3 = some (3,none) := by kernel_rfl
theorem ty_tShape_141 : tShape Tryz.prog 141 = some none := by kernel_rfl
theorem ty_tZero_141 : tZero Tryz.prog 141 = some [Value.slice none 0 0] := by kernel_rfl
theorem ty_tElt_141 : tElt Tryz.prog 141 = some (34,2,16) := by kernel_rfl
theorem ty_nCells_141 : nCells Tryz.prog 141 = some 1 := by kernel_rfl
theorem ty_tFlat_141 : tFlat Tryz.prog 141 = none := by kernel_rfl
theorem ty_isBoolT_141 : isBoolT Tryz.prog 141 = false := by kernel_rfl
theorem ty_tShape_155 : tShape Tryz.prog 155 = some none := by kernel_rfl
theorem ty_tZero_155 : tZero Tryz.prog 155 = some [Value.slice none 0 0] := by kernel_rfl
theorem ty_tElt_155 : tElt Tryz.prog 155 = some (159,2,16) := by kernel_rfl
theorem ty_nCells_155 : nCells Tryz.prog 155 = some 1 := by kernel_rfl
theorem ty_tFlat_155 : tFlat Tryz.prog 155 = none := by kernel_rfl
theorem ty_isBoolT_155 : isBoolT Tryz.prog 155 = false := by kernel_rfl
theorem ty_tShape_157 : tShape Tryz.prog 157 = some (some 2) := by kernel_rfl
theorem ty_tZero_157 : tZero Tryz.prog 157 = some [Value.int IntKind.i64 0,Value.slice none 0 0] := by kernel_rfl
theorem ty_nCells_157 : nCells Tryz.prog 157 = some 2 := by kernel_rfl
theorem ty_tFlat_157 : tFlat Tryz.prog 157 = none := by kernel_rfl
theorem ty_isBoolT_157 : isBoolT Tryz.prog 157 = false := by kernel_rfl
theorem ty_tBuilt_157 : tBuilt Tryz.prog 157 = some ([(0,1),(1,1)],[Value.int IntKind.i64 0,Value.slice none 0 0]) := by kernel_rfl
theorem ty_tFld_157_0 : tFld Tryz.prog 157 0 = some 0 := by kernel_rfl
theorem ty_tFldV_157_0 : tFldV Tryz.prog 157 0 = some (0,none) := by kernel_rfl
theorem ty_tFld_157_1 : tFld Tryz.prog 157 1 = some 1 := by kernel_rfl
theorem ty_tFldV_157_1 : tFldV Tryz.prog 157 1 = some (1,none) := by kernel_rfl
theorem ty_tShape_159 : tShape Tryz.prog 159 = some (some 2) := by kernel_rfl
theorem ty_tZero_159 : tZero Tryz.prog 159 = some [Value.int IntKind.i64 0,Value.int IntKind.i64 0] := by kernel_rfl
theorem ty_nCells_159 : nCells Tryz.prog 159 = some 2 := by kernel_rfl
theorem ty_tFlat_159 : tFlat Tryz.prog 159 = some 2 := by kernel_rfl
theorem ty_isBoolT_159 : isBoolT Tryz.prog 159 = false := by kernel_rfl
theorem ty_tBuilt_159 : tBuilt Tryz.prog 159 = some ([(0,1),(1,1)],[Value.int IntKind.i64 0,Value.int IntKind.i64 0]) := by kernel_rfl
theorem ty_tFld_159_0 : tFld Tryz.prog 159 0 = some 0 := by kernel_rfl
theorem ty_tFldV_159_0 : tFldV Tryz.prog 159 0 = some (0,none) := by kernel_rfl
theorem ty_tFld_159_1 : tFld Tryz.prog 159 1 = some 1 := by kernel_rfl
theorem ty_tFldV_159_1 : tFldV Tryz.prog 159 1 = some (1,none) := by kernel_rfl
theorem ty_tShape_161 : tShape Tryz.prog 161 = some (some 3) := by kernel_rfl
theorem ty_tZero_161 : tZero Tryz.prog 161 = some [Value.int IntKind.i64 0,Value.int IntKind.i64 0,Value.int IntKind.i64 0] := by kernel_rfl
theorem ty_nCells_161 : nCells Tryz.prog 161 = some 3 := by kernel_rfl
theorem ty_tFlat_161 : tFlat Tryz.prog 161 = some 3 := by kernel_rfl
theorem ty_isBoolT_161 : isBoolT Tryz.prog 161 = false := by kernel_rfl
theorem ty_tBuilt_161 : tBuilt Tryz.prog 161 = some ([(0,1),(1,1),(2,1)],[Value.int IntKind.i64 0,Value.int IntKind.i64 0,Value.int IntKind.i64 0]) := by kernel_rfl
theorem ty_tFld_161_0 : tFld Tryz.prog 161 0 = some 0 := by kernel_rfl
theorem ty_tFldV_161_0 : tFldV Tryz.prog 161 0 = some (0,none) := by kernel_rfl
theorem ty_tFld_161_1 : tFld Tryz.prog 161 1 = some 1 := by kernel_rfl
theorem ty_tFldV_161_1 : tFldV Tryz.prog 161 1 = some (1,none) := by kernel_rfl
theorem ty_tFld_161_2 : tFld Tryz.prog 161 2 = some 2 := by kernel_rfl
theorem ty_tFldV_161_2 : tFldV Tryz.prog 161 2 = some (2,none) := by kernel_rfl
theorem ty_tShape_163 : tShape Tryz.prog 163 = some none := by kernel_rfl
theorem ty_tZero_163 : tZero Tryz.prog 163 = some [Value.slice none 0 0] := by kernel_rfl
theorem ty_tElt_163 : tElt Tryz.prog 163 = some (167,2,16) := by kernel_rfl
theorem ty_nCells_163 : nCells Tryz.prog 163 = some 1 := by kernel_rfl
theorem ty_tFlat_163 : tFlat Tryz.prog 163 = none := by kernel_rfl
theorem ty_isBoolT_163 : isBoolT Tryz.prog 163 = false := by kernel_rfl
theorem ty_tShape_165 : tShape Tryz.prog 165 = some (some 2) := by kernel_rfl
theorem ty_tZero_165 : tZero Tryz.prog 165 = some [Value.int IntKind.i64 0,Value.slice none 0 0] := by kernel_rfl
theorem ty_nCells_165 : nCells Tryz.prog 165 = some 2 := by kernel_rfl
theorem ty_tFlat_165 : tFlat Tryz.prog 165 = none := by kernel_rfl
theorem ty_isBoolT_165 : isBoolT Tryz.prog 165 = false := by kernel_rfl
theorem ty_tBuilt_165 : tBuilt Tryz.prog 165 = some ([(0,1),(1,1)],[Value.int IntKind.i64 0,Value.slice none 0 0]) := by kernel_rfl
theorem ty_tFld_165_0 : tFld Tryz.prog 165 0 = some 0 := by kernel_rfl
theorem ty_tFldV_165_0 : tFldV Tryz.prog 165 0 = some (0,none) := by kernel_rfl
theorem ty_tFld_165_1 : tFld Tryz.prog 165 1 = some 1 := by kernel_rfl
theorem ty_tFldV_165_1 : tFldV Tryz.prog 165 1 = some (1,none) := by kernel_rfl
theorem ty_tShape_166 : tShape Tryz.prog 166 = some (some 3) := by kernel_rfl
theorem ty_tZero_166 : tZero Tryz.prog 166 = some [Value.int IntKind.i64 0,Value.int IntKind.i64 0,Value.int IntKind.i64 0] := by kernel_rfl
theorem ty_nCells_166 : nCells Tryz.prog 166 = some 3 := by kernel_rfl
theorem ty_tFlat_166 : tFlat Tryz.prog 166 = some 3 := by kernel_rfl
theorem ty_isBoolT_166 : isBoolT Tryz.prog 166 = false := by kernel_rfl
theorem ty_tBuilt_166 : tBuilt Tryz.prog 166 = some ([(0,1),(1,1),(2,1)],[Value.int IntKind.i64 0,Value.int IntKind.i64 0,Value.int IntKind.i64 0]) := by kernel_rfl
theorem ty_tFld_166_0 : tFld Tryz.prog 166 0 = some 0 := by kernel_rfl
theorem ty_tFldV_166_0 : tFldV Tryz.prog 166 0 = some (0,none) := by kernel_rfl
theorem ty_tFld_166_1 : tFld Tryz.prog 166 1 = some 1 := by kernel_rfl
theorem ty_tFldV_166_1 : tFldV Tryz.prog 166 1 = some (1,none) := by kernel_rfl
theorem ty_tFld_166_2 : tFld Tryz.prog 166 2 = some 2 := by kernel_rfl
theorem ty_tFldV_166_2 : tFldV Tryz.prog 166 2 = some (2,none) := by kernel_rfl
theorem ty_tShape_167 : tShape Tryz.prog 167 = some (some 2) := by kernel_rfl
theorem ty_tZero_167 : tZero Tryz.prog 167 = some [Value.int IntKind.i64 0,Value.int IntKind.i64 0] := by kernel_rfl
theorem ty_nCells_167 : nCells Tryz.prog 167 = some 2 := by kernel_rfl
theorem ty_tFlat_167 : tFlat Tryz.prog 167 = some 2 := by kernel_rfl
theorem ty_isBoolT_167 : isBoolT Tryz.prog 167 = false := by kernel_rfl
theorem ty_tBuilt_167 : tBuilt Tryz.prog 167 = some ([(0,1),(1,1)],[Value.int IntKind.i64 0,Value.int IntKind.i64 0]) := by kernel_rfl
theorem ty_tFld_167_0 : tFld Tryz.prog 167 0 = some 0 := by kernel_rfl
theorem ty_tFldV_167_0 : tFldV Tryz.prog 167 0 = some (0,none) := by kernel_rfl
theorem ty_tFld_167_1 : tFld Tryz.prog 167 1 = some 1 := by kernel_rfl
theorem ty_tFldV_167_1 : tFldV Tryz.prog 167 1 = some (1,none) := by kernel_rfl
theorem ty_tShape_170 : tShape Tryz.prog 170 = some (some 9) := by kernel_rfl
theorem ty_tZero_170 : tZero Tryz.prog 170 = some [Value.int IntKind.i64 0,Value.slice none 0 0,Value.slice none 0 0,Value.slice none 0 0,Value.int IntKind.i64 0,Value.int IntKind.i64 0,Value.slice none 0 0,Value.int IntKind.i64 0,Value.slice none 0 0] := by kernel_rfl
theorem ty_nCells_170 : nCells Tryz.prog 170 = some 9 := by kernel_rfl
theorem ty_tFlat_170 : tFlat Tryz.prog 170 = none := by kernel_rfl
theorem ty_isBoolT_170 : isBoolT Tryz.prog 170 = false := by kernel_rfl
theorem ty_tBuilt_170 : tBuilt Tryz.prog 170 = some ([(0,4),(4,1),(5,2),(7,2)],[Value.int IntKind.i64 0,Value.slice none 0 0,Value.slice none 0 0,Value.slice none 0 0,Value.int IntKind.i64 0,Value.int IntKind.i64 0,Value.slice none 0 0,Value.int IntKind.i64 0,Value.slice none 0 0]) := by kernel_rfl
theorem ty_tFld_170_0 : tFld Tryz.prog 170 0 = some 0 := by kernel_rfl
theorem ty_tFldV_170_0 : tFldV Tryz.prog 170 0 = some (0,some 4) := by kernel_rfl
theorem ty_tFld_170_1 : tFld Tryz.prog 170 1 = some 4 := by kernel_rfl
theorem ty_tFldV_170_1 : tFldV Tryz.prog 170 1 = some (4,none) := by kernel_rfl
theorem ty_tFld_170_2 : tFld Tryz.prog 170 2 = some 5 := by kernel_rfl
theorem ty_tFldV_170_2 : tFldV Tryz.prog 170 2 = some (5,some 2) := by kernel_rfl
theorem ty_tFld_170_3 : tFld Tryz.prog 170 3 = some 7 := by kernel_rfl
theorem ty_tFldV_170_3 : tFldV Tryz.prog 170 3 = some (7,some 2) := by kernel_rfl
theorem ty_tShape_173 : tShape Tryz.prog 173 = some none := by kernel_rfl
theorem ty_tZero_173 : tZero Tryz.prog 173 = some [Value.nilFunc] := by kernel_rfl
theorem ty_nCells_173 : nCells Tryz.prog 173 = some 1 := by kernel_rfl
theorem ty_tFlat_173 : tFlat Tryz.prog 173 = none := by kernel_rfl
theorem ty_isBoolT_173 : isBoolT Tryz.prog 173 = false := by kernel_rfl
theorem ty_tShape_179 : tShape Tryz.prog 179 = some none := by kernel_rfl
theorem ty_tZero_179 : tZero Tryz.prog 179 = some [Value.map none] := by kernel_rfl
theorem ty_nCells_179 : nCells Tryz.prog 179 = some 1 := by kernel_rfl
theorem ty_tFlat_179 : tFlat Tryz.prog 179 = none := by kernel_rfl
theorem ty_tMap_179 : tMap Tryz.prog 179 = some (91,3,true,2) := by kernel_rfl
theorem ty_isBoolT_179 : isBoolT Tryz.prog 179 = false := by kernel_rfl
theorem ty_tShape_182 : tShape Tryz.prog 182 = some (some 1) := by kernel_rfl
theorem ty_tZero_182 : tZero Tryz.prog 182 = some [Value.nilFunc] := by kernel_rfl
theorem ty_nCells_182 : nCells Tryz.prog 182 = some 1 := by kernel_rfl
theorem ty_tFlat_182 : tFlat Tryz.prog 182 = none := by kernel_rfl
theorem ty_isBoolT_182 : isBoolT Tryz.prog 182 = false := by kernel_rfl
theorem ty_tBuilt_182 : tBuilt Tryz.prog 182 = some ([(0,1)],[Value.nilFunc]) := by kernel_rfl
theorem ty_tFld_182_0 : tFld Tryz.prog 182 0 = some 0 := by kernel_rfl
theorem ty_tFldV_182_0 : tFldV Tryz.prog 182 0 = some (0,none) := by kernel_rfl
theorem ty_tShape_183 : tShape Tryz.prog 183 = some none := by kernel_rfl
theorem ty_tZero_183 : tZero Tryz.prog 183 = some [Value.slice none 0 0] := by kernel_rfl
theorem ty_tElt_183 : tElt Tryz.prog 183 = some (182,1,8) := by kernel_rfl
theorem ty_nCells_183 : nCells Tryz.prog 183 = some 1 := by kernel_rfl
theorem ty_tFlat_183 : tFlat Tryz.prog 183 = none := by kernel_rfl
theorem ty_isBoolT_183 : isBoolT Tryz.prog 183 = false := by kernel_rfl
theorem ty_tShape_186 : tShape Tryz.prog 186 = some none := by kernel_rfl
theorem ty_tZero_186 : tZero Tryz.prog 186 = some [Value.nilFunc] := by kernel_rfl
theorem ty_nCells_186 : nCells Tryz.prog 186 = some 1 := by kernel_rfl
theorem ty_tFlat_186 : tFlat Tryz.prog 186 = none := by kernel_rfl
theorem ty_isBoolT_186 : isBoolT Tryz.prog 186 = false := by kernel_rfl
theorem ty_tShape_188 : tShape Tryz.prog 188 = some none := by kernel_rfl
theorem ty_tZero_188 : tZero Tryz.prog 188 = some [Value.nilFunc] := by kernel_rfl
theorem ty_nCells_188 : nCells Tryz.prog 188 = some 1 := by kernel_rfl
theorem ty_tFlat_188 : tFlat Tryz.prog 188 = none := by kernel_rfl
theorem ty_isBoolT_188 : isBoolT Tryz.prog 188 = false := by kernel_rfl
theorem ty_tShape_190 : tShape Tryz.prog 190 = some none := by kernel_rfl
theorem ty_tZero_190 : tZero Tryz.prog 190 = some [Value.int IntKind.u64 0] := by kernel_rfl
theorem ty_tInt_190 : tInt Tryz.prog 190 = some IntKind.u64 := by kernel_rfl
theorem ty_nCells_190 : nCells Tryz.prog 190 = some 1 := by kernel_rfl
theorem ty_tFlat_190 : tFlat Tryz.prog 190 = none := by kernel_rfl
theorem ty_isBoolT_190 : isBoolT Tryz.prog 190 = false := by kernel_rfl
theorem ty_tShape_198 : tShape Tryz.prog 198 = some none := by kernel_rfl
theorem ty_tZero_198 : tZero Tryz.prog 198 = some [Value.int IntKind.u64 0] := by kernel_rfl
theorem ty_tInt_198 : tInt Tryz.prog 198 = some IntKind.u64 := by kernel_rfl
theorem ty_nCells_198 : nCells Tryz.prog 198 = some 1 := by kernel_rfl
theorem ty_tFlat_198 : tFlat Tryz.prog 198 = none := by kernel_rfl
theorem ty_isBoolT_198 : isBoolT Tryz.prog 198 = false := by kernel_rfl
theorem ty_hm : Tryz.prog.follows .mixedOrders = true := by kernel_rfl
end Go.Proofs.YtabbejabdkkaiaaGreat

