/- What the operations ask of the program's types,as facts. No condition. -/
import Derived.Test.YtifcbecpemaieaaKG
import Derived.Test.YtifcbecpemaieaaRows
namespace Go.Proofs.Ytifcbecpemaieaa
open Go.RowKit

theorem ty_tShape_1 : tShape Try.prog 1 = some none := by kernel_rfl
theorem ty_tZero_1 : tZero Try.prog 1 = some [Value.nilFunc] := by kernel_rfl
theorem ty_nCells_1 : nCells Try.prog 1 = some 1 := by kernel_rfl
theorem ty_tFlat_1 : tFlat Try.prog 1 = none := by kernel_rfl
theorem ty_isBoolT_1 : isBoolT Try.prog 1 = false := by kernel_rfl
theorem ty_tShape_2 : tShape Try.prog 2 = some none := by kernel_rfl
theorem ty_tZero_2 : tZero Try.prog 2 = some [Value.int IntKind.i64 0] := by kernel_rfl
theorem ty_tInt_2 : tInt Try.prog 2 = some IntKind.i64 := by kernel_rfl
theorem ty_nCells_2 : nCells Try.prog 2 = some 1 := by kernel_rfl
theorem ty_tFlat_2 : tFlat Try.prog 2 = none := by kernel_rfl
theorem ty_isBoolT_2 : isBoolT Try.prog 2 = false := by kernel_rfl
theorem ty_tShape_3 : tShape Try.prog 3 = some none := by kernel_rfl
theorem ty_tZero_3 : tZero Try.prog 3 = some [Value.int IntKind.i64 0] := by kernel_rfl
theorem ty_tInt_3 : tInt Try.prog 3 = some IntKind.i64 := by kernel_rfl
theorem ty_nCells_3 : nCells Try.prog 3 = some 1 := by kernel_rfl
theorem ty_tFlat_3 : tFlat Try.prog 3 = none := by kernel_rfl
theorem ty_tZ1_3 : tZ1 Try.prog 3 = some (Value.int IntKind.i64 0) := by kernel_rfl
theorem ty_isBoolT_3 : isBoolT Try.prog 3 = false := by kernel_rfl
theorem ty_tShape_4 : tShape Try.prog 4 = some none := by kernel_rfl
theorem ty_tZero_4 : tZero Try.prog 4 = some [Value.bool false] := by kernel_rfl
theorem ty_nCells_4 : nCells Try.prog 4 = some 1 := by kernel_rfl
theorem ty_tFlat_4 : tFlat Try.prog 4 = none := by kernel_rfl
theorem ty_isBoolT_4 : isBoolT Try.prog 4 = true := by kernel_rfl
theorem ty_tShape_5 : tShape Try.prog 5 = some none := by kernel_rfl
theorem ty_tZero_5 : tZero Try.prog 5 = some [Value.int IntKind.u8 0] := by kernel_rfl
theorem ty_tInt_5 : tInt Try.prog 5 = some IntKind.u8 := by kernel_rfl
theorem ty_nCells_5 : nCells Try.prog 5 = some 1 := by kernel_rfl
theorem ty_tFlat_5 : tFlat Try.prog 5 = none := by kernel_rfl
theorem ty_isBoolT_5 : isBoolT Try.prog 5 = false := by kernel_rfl
theorem ty_tShape_22 : tShape Try.prog 22 = some none := by kernel_rfl
theorem ty_tZero_22 : tZero Try.prog 22 = some [Value.slice none 0 0] := by kernel_rfl
theorem ty_tElt_22 : tElt Try.prog 22 = some (97,2,16) := by kernel_rfl
theorem ty_nCells_22 : nCells Try.prog 22 = some 1 := by kernel_rfl
theorem ty_tFlat_22 : tFlat Try.prog 22 = none := by kernel_rfl
theorem ty_isBoolT_22 : isBoolT Try.prog 22 = false := by kernel_rfl
theorem ty_tShape_24 : tShape Try.prog 24 = some (some 2) := by kernel_rfl
theorem ty_tZero_24 : tZero Try.prog 24 = some [Value.int IntKind.i64 0,Value.slice none 0 0] := by kernel_rfl
theorem ty_nCells_24 : nCells Try.prog 24 = some 2 := by kernel_rfl
theorem ty_tFlat_24 : tFlat Try.prog 24 = none := by kernel_rfl
theorem ty_isBoolT_24 : isBoolT Try.prog 24 = false := by kernel_rfl
theorem ty_tBuilt_24 : tBuilt Try.prog 24 = some ([(0,1),(1,1)],[Value.int IntKind.i64 0,Value.slice none 0 0]) := by kernel_rfl
theorem ty_tFld_24_0 : tFld Try.prog 24 0 = some 0 := by kernel_rfl
theorem ty_tFldV_24_0 : tFldV Try.prog 24 0 = some (0,none) := by kernel_rfl
theorem ty_tFld_24_1 : tFld Try.prog 24 1 = some 1 := by kernel_rfl
theorem ty_tFldV_24_1 : tFldV Try.prog 24 1 = some (1,none) := by kernel_rfl
theorem ty_tShape_25 : tShape Try.prog 25 = some none := by kernel_rfl
theorem ty_tZero_25 : tZero Try.prog 25 = some [Value.slice none 0 0] := by kernel_rfl
theorem ty_tElt_25 : tElt Try.prog 25 = some (120,2,32) := by kernel_rfl
theorem ty_nCells_25 : nCells Try.prog 25 = some 1 := by kernel_rfl
theorem ty_tFlat_25 : tFlat Try.prog 25 = none := by kernel_rfl
theorem ty_isBoolT_25 : isBoolT Try.prog 25 = false := by kernel_rfl
theorem ty_tShape_27 : tShape Try.prog 27 = some (some 4) := by kernel_rfl
theorem ty_tZero_27 : tZero Try.prog 27 = some [Value.int IntKind.i64 0,Value.slice none 0 0,Value.slice none 0 0,Value.bool false] := by kernel_rfl
theorem ty_nCells_27 : nCells Try.prog 27 = some 4 := by kernel_rfl
theorem ty_tFlat_27 : tFlat Try.prog 27 = none := by kernel_rfl
theorem ty_isBoolT_27 : isBoolT Try.prog 27 = false := by kernel_rfl
theorem ty_tBuilt_27 : tBuilt Try.prog 27 = some ([(0,2),(2,1),(3,1)],[Value.int IntKind.i64 0,Value.slice none 0 0,Value.slice none 0 0,Value.bool false]) := by kernel_rfl
theorem ty_tFld_27_0 : tFld Try.prog 27 0 = some 0 := by kernel_rfl
theorem ty_tFldV_27_0 : tFldV Try.prog 27 0 = some (0,some 2) := by kernel_rfl
theorem ty_tFld_27_1 : tFld Try.prog 27 1 = some 2 := by kernel_rfl
theorem ty_tFldV_27_1 : tFldV Try.prog 27 1 = some (2,none) := by kernel_rfl
theorem ty_tFld_27_2 : tFld Try.prog 27 2 = some 3 := by kernel_rfl
theorem ty_tFldV_27_2 : tFldV Try.prog 27 2 = some (3,none) := by kernel_rfl
theorem ty_tShape_28 : tShape Try.prog 28 = some none := by kernel_rfl
theorem ty_tZero_28 : tZero Try.prog 28 = some [Value.slice none 0 0] := by kernel_rfl
theorem ty_tElt_28 : tElt Try.prog 28 = some (3,1,8) := by kernel_rfl
theorem ty_nCells_28 : nCells Try.prog 28 = some 1 := by kernel_rfl
theorem ty_tFlat_28 : tFlat Try.prog 28 = none := by kernel_rfl
theorem ty_isBoolT_28 : isBoolT Try.prog 28 = false := by kernel_rfl
theorem ty_tShape_29 : tShape Try.prog 29 = some none := by kernel_rfl
theorem ty_tZero_29 : tZero Try.prog 29 = some [Value.slice none 0 0] := by kernel_rfl
theorem ty_tElt_29 : tElt Try.prog 29 = some (43,1,24) := by kernel_rfl
theorem ty_nCells_29 : nCells Try.prog 29 = some 1 := by kernel_rfl
theorem ty_tFlat_29 : tFlat Try.prog 29 = none := by kernel_rfl
theorem ty_isBoolT_29 : isBoolT Try.prog 29 = false := by kernel_rfl
theorem ty_tShape_31 : tShape Try.prog 31 = some (some 3) := by kernel_rfl
theorem ty_tZero_31 : tZero Try.prog 31 = some [Value.slice none 0 0,Value.slice none 0 0,Value.slice none 0 0] := by kernel_rfl
theorem ty_nCells_31 : nCells Try.prog 31 = some 3 := by kernel_rfl
theorem ty_tFlat_31 : tFlat Try.prog 31 = none := by kernel_rfl
theorem ty_isBoolT_31 : isBoolT Try.prog 31 = false := by kernel_rfl
theorem ty_tBuilt_31 : tBuilt Try.prog 31 = some ([(0,1),(1,1),(2,1)],[Value.slice none 0 0,Value.slice none 0 0,Value.slice none 0 0]) := by kernel_rfl
theorem ty_tFld_31_0 : tFld Try.prog 31 0 = some 0 := by kernel_rfl
theorem ty_tFldV_31_0 : tFldV Try.prog 31 0 = some (0,none) := by kernel_rfl
theorem ty_tFld_31_1 : tFld Try.prog 31 1 = some 1 := by kernel_rfl
theorem ty_tFldV_31_1 : tFldV Try.prog 31 1 = some (1,none) := by kernel_rfl
theorem ty_tFld_31_2 : tFld Try.prog 31 2 = some 2 := by kernel_rfl
theorem ty_tFldV_31_2 : tFldV Try.prog 31 2 = some (2,none) := by kernel_rfl
theorem ty_tShape_35 : tShape Try.prog 35 = some (some 2) := by kernel_rfl
theorem ty_tZero_35 : tZero Try.prog 35 = some [Value.int IntKind.i64 0,Value.slice none 0 0] := by kernel_rfl
theorem ty_nCells_35 : nCells Try.prog 35 = some 2 := by kernel_rfl
theorem ty_tFlat_35 : tFlat Try.prog 35 = none := by kernel_rfl
theorem ty_isBoolT_35 : isBoolT Try.prog 35 = false := by kernel_rfl
theorem ty_tBuilt_35 : tBuilt Try.prog 35 = some ([(0,1),(1,1)],[Value.int IntKind.i64 0,Value.slice none 0 0]) := by kernel_rfl
theorem ty_tFld_35_0 : tFld Try.prog 35 0 = some 0 := by kernel_rfl
theorem ty_tFldV_35_0 : tFldV Try.prog 35 0 = some (0,none) := by kernel_rfl
theorem ty_tFld_35_1 : tFld Try.prog 35 1 = some 1 := by kernel_rfl
theorem ty_tFldV_35_1 : tFldV Try.prog 35 1 = some (1,none) := by kernel_rfl
theorem ty_tShape_36 : tShape Try.prog 36 = some none := by kernel_rfl
theorem ty_tZero_36 : tZero Try.prog 36 = some [Value.slice none 0 0] := by kernel_rfl
theorem ty_tElt_36 : tElt Try.prog 36 = some (108,2,32) := by kernel_rfl
theorem ty_nCells_36 : nCells Try.prog 36 = some 1 := by kernel_rfl
theorem ty_tFlat_36 : tFlat Try.prog 36 = none := by kernel_rfl
theorem ty_isBoolT_36 : isBoolT Try.prog 36 = false := by kernel_rfl
theorem ty_tShape_38 : tShape Try.prog 38 = some (some 4) := by kernel_rfl
theorem ty_tZero_38 : tZero Try.prog 38 = some [Value.int IntKind.i64 0,Value.slice none 0 0,Value.slice none 0 0,Value.bool false] := by kernel_rfl
theorem ty_nCells_38 : nCells Try.prog 38 = some 4 := by kernel_rfl
theorem ty_tFlat_38 : tFlat Try.prog 38 = none := by kernel_rfl
theorem ty_isBoolT_38 : isBoolT Try.prog 38 = false := by kernel_rfl
theorem ty_tBuilt_38 : tBuilt Try.prog 38 = some ([(0,2),(2,1),(3,1)],[Value.int IntKind.i64 0,Value.slice none 0 0,Value.slice none 0 0,Value.bool false]) := by kernel_rfl
theorem ty_tFld_38_0 : tFld Try.prog 38 0 = some 0 := by kernel_rfl
theorem ty_tFldV_38_0 : tFldV Try.prog 38 0 = some (0,some 2) := by kernel_rfl
theorem ty_tFld_38_1 : tFld Try.prog 38 1 = some 2 := by kernel_rfl
theorem ty_tFldV_38_1 : tFldV Try.prog 38 1 = some (2,none) := by kernel_rfl
theorem ty_tFld_38_2 : tFld Try.prog 38 2 = some 3 := by kernel_rfl
theorem ty_tFldV_38_2 : tFldV Try.prog 38 2 = some (3,none) := by kernel_rfl
theorem ty_tShape_40 : tShape Try.prog 40 = some (some 3) := by kernel_rfl
theorem ty_tZero_40 : tZero Try.prog 40 = some [Value.slice none 0 0,Value.slice none 0 0,Value.slice none 0 0] := by kernel_rfl
theorem ty_nCells_40 : nCells Try.prog 40 = some 3 := by kernel_rfl
theorem ty_tFlat_40 : tFlat Try.prog 40 = none := by kernel_rfl
theorem ty_isBoolT_40 : isBoolT Try.prog 40 = false := by kernel_rfl
theorem ty_tBuilt_40 : tBuilt Try.prog 40 = some ([(0,1),(1,1),(2,1)],[Value.slice none 0 0,Value.slice none 0 0,Value.slice none 0 0]) := by kernel_rfl
theorem ty_tFld_40_0 : tFld Try.prog 40 0 = some 0 := by kernel_rfl
theorem ty_tFldV_40_0 : tFldV Try.prog 40 0 = some (0,none) := by kernel_rfl
theorem ty_tFld_40_1 : tFld Try.prog 40 1 = some 1 := by kernel_rfl
theorem ty_tFldV_40_1 : tFldV Try.prog 40 1 = some (1,none) := by kernel_rfl
theorem ty_tFld_40_2 : tFld Try.prog 40 2 = some 2 := by kernel_rfl
theorem ty_tFldV_40_2 : tFldV Try.prog 40 2 = some (2,none) := by kernel_rfl
theorem ty_tShape_42 : tShape Try.prog 42 = some none := by kernel_rfl
theorem ty_tZero_42 : tZero Try.prog 42 = some [Value.nilFunc] := by kernel_rfl
theorem ty_nCells_42 : nCells Try.prog 42 = some 1 := by kernel_rfl
theorem ty_tFlat_42 : tFlat Try.prog 42 = none := by kernel_rfl
theorem ty_isBoolT_42 : isBoolT Try.prog 42 = false := by kernel_rfl
theorem ty_tShape_43 : tShape Try.prog 43 = some none := by kernel_rfl
theorem ty_tZero_43 : tZero Try.prog 43 = some [Value.slice none 0 0] := by kernel_rfl
theorem ty_tElt_43 : tElt Try.prog 43 = some (70,2,16) := by kernel_rfl
theorem ty_nCells_43 : nCells Try.prog 43 = some 1 := by kernel_rfl
theorem ty_tFlat_43 : tFlat Try.prog 43 = none := by kernel_rfl
theorem ty_isBoolT_43 : isBoolT Try.prog 43 = false := by kernel_rfl
theorem ty_tShape_50 : tShape Try.prog 50 = some none := by kernel_rfl
theorem ty_tZero_50 : tZero Try.prog 50 = some [Value.slice none 0 0] := by kernel_rfl
theorem ty_tElt_50 : tElt Try.prog 50 = some (57,5,40) := by kernel_rfl
theorem ty_nCells_50 : nCells Try.prog 50 = some 1 := by kernel_rfl
theorem ty_tFlat_50 : tFlat Try.prog 50 = none := by kernel_rfl
theorem ty_isBoolT_50 : isBoolT Try.prog 50 = false := by kernel_rfl
theorem ty_tShape_53 : tShape Try.prog 53 = some none := by kernel_rfl
theorem ty_tZero_53 : tZero Try.prog 53 = some [Value.int IntKind.i64 0] := by kernel_rfl
theorem ty_tInt_53 : tInt Try.prog 53 = some IntKind.i64 := by kernel_rfl
theorem ty_nCells_53 : nCells Try.prog 53 = some 1 := by kernel_rfl
theorem ty_tFlat_53 : tFlat Try.prog 53 = none := by kernel_rfl
theorem ty_isBoolT_53 : isBoolT Try.prog 53 = false := by kernel_rfl
theorem ty_tShape_55 : tShape Try.prog 55 = some none := by kernel_rfl
theorem ty_tZero_55 : tZero Try.prog 55 = some [Value.nilFunc] := by kernel_rfl
theorem ty_nCells_55 : nCells Try.prog 55 = some 1 := by kernel_rfl
theorem ty_tFlat_55 : tFlat Try.prog 55 = none := by kernel_rfl
theorem ty_tZ1_55 : tZ1 Try.prog 55 = some Value.nilFunc := by kernel_rfl
theorem ty_isBoolT_55 : isBoolT Try.prog 55 = false := by kernel_rfl
theorem ty_tShape_57 : tShape Try.prog 57 = some (some 5) := by kernel_rfl
theorem ty_tZero_57 : tZero Try.prog 57 = some [Value.int IntKind.i64 0,Value.int IntKind.i64 0,Value.int IntKind.i64 0,Value.int IntKind.i64 0,Value.int IntKind.i64 0] := by kernel_rfl
theorem ty_nCells_57 : nCells Try.prog 57 = some 5 := by kernel_rfl
theorem ty_tFlat_57 : tFlat Try.prog 57 = some 5 := by kernel_rfl
theorem ty_isBoolT_57 : isBoolT Try.prog 57 = false := by kernel_rfl
theorem ty_tBuilt_57 : tBuilt Try.prog 57 = some ([(0,1),(1,1),(2,1),(3,1),(4,1)],[Value.int IntKind.i64 0,Value.int IntKind.i64 0,Value.int IntKind.i64 0,Value.int IntKind.i64 0,Value.int IntKind.i64 0]) := by kernel_rfl
theorem ty_tFld_57_0 : tFld Try.prog 57 0 = some 0 := by kernel_rfl
theorem ty_tFldV_57_0 : tFldV Try.prog 57 0 = some (0,none) := by kernel_rfl
theorem ty_tFld_57_1 : tFld Try.prog 57 1 = some 1 := by kernel_rfl
theorem ty_tFldV_57_1 : tFldV Try.prog 57 1 = some (1,none) := by kernel_rfl
theorem ty_tFld_57_2 : tFld Try.prog 57 2 = some 2 := by kernel_rfl
theorem ty_tFldV_57_2 : tFldV Try.prog 57 2 = some (2,none) := by kernel_rfl
theorem ty_tFld_57_3 : tFld Try.prog 57 3 = some 3 := by kernel_rfl
theorem ty_tFldV_57_3 : tFldV Try.prog 57 3 = some (3,none) := by kernel_rfl
theorem ty_tFld_57_4 : tFld Try.prog 57 4 = some 4 := by kernel_rfl
theorem ty_tFldV_57_4 : tFldV Try.prog 57 4 = some (4,none) := by kernel_rfl
theorem ty_tShape_63 : tShape Try.prog 63 = some none := by kernel_rfl
theorem ty_tZero_63 : tZero Try.prog 63 = some [Value.slice none 0 0] := by kernel_rfl
theorem ty_tElt_63 : tElt Try.prog 63 = some (157,2,32) := by kernel_rfl
theorem ty_nCells_63 : nCells Try.prog 63 = some 1 := by kernel_rfl
theorem ty_tFlat_63 : tFlat Try.prog 63 = none := by kernel_rfl
theorem ty_isBoolT_63 : isBoolT Try.prog 63 = false := by kernel_rfl
theorem ty_tShape_64 : tShape Try.prog 64 = some none := by kernel_rfl
theorem ty_tZero_64 : tZero Try.prog 64 = some [Value.slice none 0 0] := by kernel_rfl
theorem ty_tElt_64 : tElt Try.prog 64 = some (159,3,24) := by kernel_rfl
theorem ty_nCells_64 : nCells Try.prog 64 = some 1 := by kernel_rfl
theorem ty_tFlat_64 : tFlat Try.prog 64 = none := by kernel_rfl
theorem ty_isBoolT_64 : isBoolT Try.prog 64 = false := by kernel_rfl
theorem ty_tShape_66 : tShape Try.prog 66 = some (some 4) := by kernel_rfl
theorem ty_tZero_66 : tZero Try.prog 66 = some [Value.int IntKind.i64 0,Value.slice none 0 0,Value.slice none 0 0,Value.slice none 0 0] := by kernel_rfl
theorem ty_nCells_66 : nCells Try.prog 66 = some 4 := by kernel_rfl
theorem ty_tFlat_66 : tFlat Try.prog 66 = none := by kernel_rfl
theorem ty_isBoolT_66 : isBoolT Try.prog 66 = false := by kernel_rfl
theorem ty_tBuilt_66 : tBuilt Try.prog 66 = some ([(0,1),(1,1),(2,1),(3,1)],[Value.int IntKind.i64 0,Value.slice none 0 0,Value.slice none 0 0,Value.slice none 0 0]) := by kernel_rfl
theorem ty_tFld_66_0 : tFld Try.prog 66 0 = some 0 := by kernel_rfl
theorem ty_tFldV_66_0 : tFldV Try.prog 66 0 = some (0,none) := by kernel_rfl
theorem ty_tFld_66_1 : tFld Try.prog 66 1 = some 1 := by kernel_rfl
theorem ty_tFldV_66_1 : tFldV Try.prog 66 1 = some (1,none) := by kernel_rfl
theorem ty_tFld_66_2 : tFld Try.prog 66 2 = some 2 := by kernel_rfl
theorem ty_tFldV_66_2 : tFldV Try.prog 66 2 = some (2,none) := by kernel_rfl
theorem ty_tFld_66_3 : tFld Try.prog 66 3 = some 3 := by kernel_rfl
theorem ty_tFldV_66_3 : tFldV Try.prog 66 3 = some (3,none) := by kernel_rfl
theorem ty_tShape_68 : tShape Try.prog 68 = some none := by kernel_rfl
theorem ty_tZero_68 : tZero Try.prog 68 = some [Value.slice none 0 0] := by kernel_rfl
theorem ty_tElt_68 : tElt Try.prog 68 = some (71,1,2) := by kernel_rfl
theorem ty_nCells_68 : nCells Try.prog 68 = some 1 := by kernel_rfl
theorem ty_tFlat_68 : tFlat Try.prog 68 = none := by kernel_rfl
theorem ty_isBoolT_68 : isBoolT Try.prog 68 = false := by kernel_rfl
theorem ty_tShape_70 : tShape Try.prog 70 = some (some 2) := by kernel_rfl
theorem ty_tZero_70 : tZero Try.prog 70 = some [Value.int IntKind.i64 0,Value.int IntKind.i64 0] := by kernel_rfl
theorem ty_nCells_70 : nCells Try.prog 70 = some 2 := by kernel_rfl
theorem ty_tFlat_70 : tFlat Try.prog 70 = some 2 := by kernel_rfl
theorem ty_isBoolT_70 : isBoolT Try.prog 70 = false := by kernel_rfl
theorem ty_tBuilt_70 : tBuilt Try.prog 70 = some ([(0,1),(1,1)],[Value.int IntKind.i64 0,Value.int IntKind.i64 0]) := by kernel_rfl
theorem ty_tFld_70_0 : tFld Try.prog 70 0 = some 0 := by kernel_rfl
theorem ty_tFldV_70_0 : tFldV Try.prog 70 0 = some (0,none) := by kernel_rfl
theorem ty_tFld_70_1 : tFld Try.prog 70 1 = some 1 := by kernel_rfl
theorem ty_tFldV_70_1 : tFldV Try.prog 70 1 = some (1,none) := by kernel_rfl
theorem ty_tShape_71 : tShape Try.prog 71 = some none := by kernel_rfl
theorem ty_tZero_71 : tZero Try.prog 71 = some [Value.int IntKind.u16 0] := by kernel_rfl
theorem ty_tInt_71 : tInt Try.prog 71 = some IntKind.u16 := by kernel_rfl
theorem ty_nCells_71 : nCells Try.prog 71 = some 1 := by kernel_rfl
theorem ty_tFlat_71 : tFlat Try.prog 71 = none := by kernel_rfl
theorem ty_isBoolT_71 : isBoolT Try.prog 71 = false := by kernel_rfl
theorem ty_tShape_97 : tShape Try.prog 97 = some (some 2) := by kernel_rfl
theorem ty_tZero_97 : tZero Try.prog 97 = some [Value.int IntKind.i64 0,Value.int IntKind.i64 0] := by kernel_rfl
theorem ty_tElt_97 : tElt Try.prog 97 = none := by kernel_rfl
theorem ty_tArr_97 : tArr Try.prog 97 = some (2,1) := by kernel_rfl
theorem ty_nCells_97 : nCells Try.prog 97 = some 2 := by kernel_rfl
theorem ty_tFlat_97 : tFlat Try.prog 97 = some 2 := by kernel_rfl
theorem ty_isBoolT_97 : isBoolT Try.prog 97 = false := by kernel_rfl
theorem ty_tBuilt_97 : tBuilt Try.prog 97 = some ([(0,1),(1,1)],[Value.int IntKind.i64 0,Value.int IntKind.i64 0]) := by kernel_rfl
theorem ty_tShape_106 : tShape Try.prog 106 = some none := by kernel_rfl
theorem ty_tZero_106 : tZero Try.prog 106 = some [Value.slice none 0 0] := by kernel_rfl
theorem ty_tElt_106 : tElt Try.prog 106 = some (66,4,80) := by kernel_rfl
theorem ty_nCells_106 : nCells Try.prog 106 = some 1 := by kernel_rfl
theorem ty_tFlat_106 : tFlat Try.prog 106 = none := by kernel_rfl
theorem ty_isBoolT_106 : isBoolT Try.prog 106 = false := by kernel_rfl
theorem ty_tShape_108 : tShape Try.prog 108 = some (some 2) := by kernel_rfl
theorem ty_tZero_108 : tZero Try.prog 108 = some [Value.int IntKind.i64 0,Value.slice none 0 0] := by kernel_rfl
theorem ty_nCells_108 : nCells Try.prog 108 = some 2 := by kernel_rfl
theorem ty_tFlat_108 : tFlat Try.prog 108 = none := by kernel_rfl
theorem ty_isBoolT_108 : isBoolT Try.prog 108 = false := by kernel_rfl
theorem ty_tBuilt_108 : tBuilt Try.prog 108 = some ([(0,1),(1,1)],[Value.int IntKind.i64 0,Value.slice none 0 0]) := by kernel_rfl
theorem ty_tFld_108_0 : tFld Try.prog 108 0 = some 0 := by kernel_rfl
theorem ty_tFldV_108_0 : tFldV Try.prog 108 0 = some (0,none) := by kernel_rfl
theorem ty_tFld_108_1 : tFld Try.prog 108 1 = some 1 := by kernel_rfl
theorem ty_tFldV_108_1 : tFldV Try.prog 108 1 = some (1,none) := by kernel_rfl
theorem ty_tShape_117 : tShape Try.prog 117 = some none := by kernel_rfl
theorem ty_tZero_117 : tZero Try.prog 117 = some [Value.nilFunc] := by kernel_rfl
theorem ty_nCells_117 : nCells Try.prog 117 = some 1 := by kernel_rfl
theorem ty_tFlat_117 : tFlat Try.prog 117 = none := by kernel_rfl
theorem ty_isBoolT_117 : isBoolT Try.prog 117 = false := by kernel_rfl
theorem ty_tShape_118 : tShape Try.prog 118 = some none := by kernel_rfl
theorem ty_tZero_118 : tZero Try.prog 118 = some [Value.slice none 0 0] := by kernel_rfl
theorem ty_tElt_118 : tElt Try.prog 118 = some (141,4,80) := by kernel_rfl
theorem ty_nCells_118 : nCells Try.prog 118 = some 1 := by kernel_rfl
theorem ty_tFlat_118 : tFlat Try.prog 118 = none := by kernel_rfl
theorem ty_isBoolT_118 : isBoolT Try.prog 118 = false := by kernel_rfl
theorem ty_tShape_119 : tShape Try.prog 119 = some (some 2) := by kernel_rfl
theorem ty_tZero_119 : tZero Try.prog 119 = some [Value.int IntKind.i64 0,Value.slice none 0 0] := by kernel_rfl
theorem ty_nCells_119 : nCells Try.prog 119 = some 2 := by kernel_rfl
theorem ty_tFlat_119 : tFlat Try.prog 119 = none := by kernel_rfl
theorem ty_isBoolT_119 : isBoolT Try.prog 119 = false := by kernel_rfl
theorem ty_tBuilt_119 : tBuilt Try.prog 119 = some ([(0,1),(1,1)],[Value.int IntKind.i64 0,Value.slice none 0 0]) := by kernel_rfl
theorem ty_tFld_119_0 : tFld Try.prog 119 0 = some 0 := by kernel_rfl
theorem ty_tFldV_119_0 : tFldV Try.prog 119 0 = some (0,none) := by kernel_rfl
theorem ty_tFld_119_1 : tFld Try.prog 119 1 = some 1 := by kernel_rfl
theorem ty_tFldV_119_1 : tFldV Try.prog 119 1 = some (1,none) := by kernel_rfl
theorem ty_tShape_120 : tShape Try.prog 120 = some (some 2) := by kernel_rfl
theorem ty_tZero_120 : tZero Try.prog 120 = some [Value.int IntKind.i64 0,Value.slice none 0 0] := by kernel_rfl
theorem ty_nCells_120 : nCells Try.prog 120 = some 2 := by kernel_rfl
theorem ty_tFlat_120 : tFlat Try.prog 120 = none := by kernel_rfl
theorem ty_isBoolT_120 : isBoolT Try.prog 120 = false := by kernel_rfl
theorem ty_tBuilt_120 : tBuilt Try.prog 120 = some ([(0,1),(1,1)],[Value.int IntKind.i64 0,Value.slice none 0 0]) := by kernel_rfl
theorem ty_tFld_120_0 : tFld Try.prog 120 0 = some 0 := by kernel_rfl
theorem ty_tFldV_120_0 : tFldV Try.prog 120 0 = some (0,none) := by kernel_rfl
theorem ty_tFld_120_1 : tFld Try.prog 120 1 = some 1 := by kernel_rfl
theorem ty_tFldV_120_1 : tFldV Try.prog 120 1 = some (1,none) := by kernel_rfl
theorem ty_tShape_123 : tShape Try.prog 123 = some none := by kernel_rfl
theorem ty_tZero_123 : tZero Try.prog 123 = some [Value.map none] := by kernel_rfl
theorem ty_nCells_123 : nCells Try.prog 123 = some 1 := by kernel_rfl
theorem ty_tFlat_123 : tFlat Try.prog 123 = none := by kernel_rfl
theorem ty_tMap_123 : tMap Try.prog 123 = some (3,55,false,1) := by kernel_rfl
theorem ty_isBoolT_123 : isBoolT Try.prog 123 = false := by kernel_rfl
theorem ty_tShape_126 : tShape Try.prog 126 = some none := by kernel_rfl
theorem ty_tZero_126 : tZero Try.prog 126 = some [Value.nilFunc] := by kernel_rfl
theorem ty_nCells_126 : nCells Try.prog 126 = some 1 := by kernel_rfl
theorem ty_tFlat_126 : tFlat Try.prog 126 = none := by kernel_rfl
theorem ty_isBoolT_126 : isBoolT Try.prog 126 = false := by kernel_rfl
theorem ty_tShape_130 : tShape Try.prog 130 = some none := by kernel_rfl
theorem ty_tZero_130 : tZero Try.prog 130 = some [Value.nilFunc] := by kernel_rfl
theorem ty_nCells_130 : nCells Try.prog 130 = some 1 := by kernel_rfl
theorem ty_tFlat_130 : tFlat Try.prog 130 = none := by kernel_rfl
theorem ty_isBoolT_130 : isBoolT Try.prog 130 = false := by kernel_rfl
theorem ty_tShape_138 : tShape Try.prog 138 = some none := by kernel_rfl
theorem ty_tZero_138 : tZero Try.prog 138 = some [Value.slice none 0 0] := by kernel_rfl
theorem ty_tElt_138 : tElt Try.prog 138 = some (149,2,32) := by kernel_rfl
theorem ty_nCells_138 : nCells Try.prog 138 = some 1 := by kernel_rfl
theorem ty_tFlat_138 : tFlat Try.prog 138 = none := by kernel_rfl
theorem ty_isBoolT_138 : isBoolT Try.prog 138 = false := by kernel_rfl
theorem ty_tShape_139 : tShape Try.prog 139 = some none := by kernel_rfl
theorem ty_tZero_139 : tZero Try.prog 139 = some [Value.slice none 0 0] := by kernel_rfl
theorem ty_tElt_139 : tElt Try.prog 139 = some (151,3,24) := by kernel_rfl
theorem ty_nCells_139 : nCells Try.prog 139 = some 1 := by kernel_rfl
theorem ty_tFlat_139 : tFlat Try.prog 139 = none := by kernel_rfl
theorem ty_isBoolT_139 : isBoolT Try.prog 139 = false := by kernel_rfl
theorem ty_tShape_141 : tShape Try.prog 141 = some (some 4) := by kernel_rfl
theorem ty_tZero_141 : tZero Try.prog 141 = some [Value.int IntKind.i64 0,Value.slice none 0 0,Value.slice none 0 0,Value.slice none 0 0] := by kernel_rfl
theorem ty_nCells_141 : nCells Try.prog 141 = some 4 := by kernel_rfl
theorem ty_tFlat_141 : tFlat Try.prog 141 = none := by kernel_rfl
theorem ty_isBoolT_141 : isBoolT Try.prog 141 = false := by kernel_rfl
theorem ty_tBuilt_141 : tBuilt Try.prog 141 = some ([(0,1),(1,1),(2,1),(3,1)],[Value.int IntKind.i64 0,Value.slice none 0 0,Value.slice none 0 0,Value.slice none 0 0]) := by kernel_rfl
theorem ty_tFld_141_0 : tFld Try.prog 141 0 = some 0 := by kernel_rfl
theorem ty_tFldV_141_0 : tFldV Try.prog 141 0 = some (0,none) := by kernel_rfl
theorem ty_tFld_141_1 : tFld Try.prog 141 1 = some 1 := by kernel_rfl
theorem ty_tFldV_141_1 : tFldV Try.prog 141 1 = some (1,none) := by kernel_rfl
theorem ty_tFld_141_2 : tFld Try.prog 141 2 = some 2 := by kernel_rfl
theorem ty_tFldV_141_2 : tFldV Try.prog 141 2 = some (2,none) := by kernel_rfl
theorem ty_tFld_141_3 : tFld Try.prog 141 3 = some 3 := by kernel_rfl
theorem ty_tFldV_141_3 : tFldV Try.prog 141 3 = some (3,none) := by kernel_rfl
theorem ty_tShape_146 : tShape Try.prog 146 = some (some 2) := by kernel_rfl
theorem ty_tZero_146 : tZero Try.prog 146 = some [Value.int IntKind.i64 0,Value.int IntKind.i64 0] := by kernel_rfl
theorem ty_nCells_146 : nCells Try.prog 146 = some 2 := by kernel_rfl
theorem ty_tFlat_146 : tFlat Try.prog 146 = some 2 := by kernel_rfl
theorem ty_isBoolT_146 : isBoolT Try.prog 146 = false := by kernel_rfl
theorem ty_tBuilt_146 : tBuilt Try.prog 146 = some ([(0,1),(1,1)],[Value.int IntKind.i64 0,Value.int IntKind.i64 0]) := by kernel_rfl
theorem ty_tFld_146_0 : tFld Try.prog 146 0 = some 0 := by kernel_rfl
theorem ty_tFldV_146_0 : tFldV Try.prog 146 0 = some (0,none) := by kernel_rfl
theorem ty_tFld_146_1 : tFld Try.prog 146 1 = some 1 := by kernel_rfl
theorem ty_tFldV_146_1 : tFldV Try.prog 146 1 = some (1,none) := by kernel_rfl
theorem ty_tShape_147 : tShape Try.prog 147 = some none := by kernel_rfl
theorem ty_tZero_147 : tZero Try.prog 147 = some [Value.slice none 0 0] := by kernel_rfl
theorem ty_tElt_147 : tElt Try.prog 147 = some (146,2,16) := by kernel_rfl
theorem ty_nCells_147 : nCells Try.prog 147 = some 1 := by kernel_rfl
theorem ty_tFlat_147 : tFlat Try.prog 147 = none := by kernel_rfl
theorem ty_isBoolT_147 : isBoolT Try.prog 147 = false := by kernel_rfl
theorem ty_tShape_149 : tShape Try.prog 149 = some (some 2) := by kernel_rfl
theorem ty_tZero_149 : tZero Try.prog 149 = some [Value.int IntKind.i64 0,Value.slice none 0 0] := by kernel_rfl
theorem ty_nCells_149 : nCells Try.prog 149 = some 2 := by kernel_rfl
theorem ty_tFlat_149 : tFlat Try.prog 149 = none := by kernel_rfl
theorem ty_isBoolT_149 : isBoolT Try.prog 149 = false := by kernel_rfl
theorem ty_tBuilt_149 : tBuilt Try.prog 149 = some ([(0,1),(1,1)],[Value.int IntKind.i64 0,Value.slice none 0 0]) := by kernel_rfl
theorem ty_tFld_149_0 : tFld Try.prog 149 0 = some 0 := by kernel_rfl
theorem ty_tFldV_149_0 : tFldV Try.prog 149 0 = some (0,none) := by kernel_rfl
theorem ty_tFld_149_1 : tFld Try.prog 149 1 = some 1 := by kernel_rfl
theorem ty_tFldV_149_1 : tFldV Try.prog 149 1 = some (1,none) := by kernel_rfl
theorem ty_tShape_151 : tShape Try.prog 151 = some (some 3) := by kernel_rfl
theorem ty_tZero_151 : tZero Try.prog 151 = some [Value.int IntKind.i64 0,Value.int IntKind.i64 0,Value.int IntKind.i64 0] := by kernel_rfl
theorem ty_nCells_151 : nCells Try.prog 151 = some 3 := by kernel_rfl
theorem ty_tFlat_151 : tFlat Try.prog 151 = some 3 := by kernel_rfl
theorem ty_isBoolT_151 : isBoolT Try.prog 151 = false := by kernel_rfl
theorem ty_tBuilt_151 : tBuilt Try.prog 151 = some ([(0,1),(1,1),(2,1)],[Value.int IntKind.i64 0,Value.int IntKind.i64 0,Value.int IntKind.i64 0]) := by kernel_rfl
theorem ty_tFld_151_0 : tFld Try.prog 151 0 = some 0 := by kernel_rfl
theorem ty_tFldV_151_0 : tFldV Try.prog 151 0 = some (0,none) := by kernel_rfl
theorem ty_tFld_151_1 : tFld Try.prog 151 1 = some 1 := by kernel_rfl
theorem ty_tFldV_151_1 : tFldV Try.prog 151 1 = some (1,none) := by kernel_rfl
theorem ty_tFld_151_2 : tFld Try.prog 151 2 = some 2 := by kernel_rfl
theorem ty_tFldV_151_2 : tFldV Try.prog 151 2 = some (2,none) := by kernel_rfl
theorem ty_tShape_155 : tShape Try.prog 155 = some none := by kernel_rfl
theorem ty_tZero_155 : tZero Try.prog 155 = some [Value.slice none 0 0] := by kernel_rfl
theorem ty_tElt_155 : tElt Try.prog 155 = some (158,2,16) := by kernel_rfl
theorem ty_nCells_155 : nCells Try.prog 155 = some 1 := by kernel_rfl
theorem ty_tFlat_155 : tFlat Try.prog 155 = none := by kernel_rfl
theorem ty_isBoolT_155 : isBoolT Try.prog 155 = false := by kernel_rfl
theorem ty_tShape_157 : tShape Try.prog 157 = some (some 2) := by kernel_rfl
theorem ty_tZero_157 : tZero Try.prog 157 = some [Value.int IntKind.i64 0,Value.slice none 0 0] := by kernel_rfl
theorem ty_nCells_157 : nCells Try.prog 157 = some 2 := by kernel_rfl
theorem ty_tFlat_157 : tFlat Try.prog 157 = none := by kernel_rfl
theorem ty_isBoolT_157 : isBoolT Try.prog 157 = false := by kernel_rfl
theorem ty_tBuilt_157 : tBuilt Try.prog 157 = some ([(0,1),(1,1)],[Value.int IntKind.i64 0,Value.slice none 0 0]) := by kernel_rfl
theorem ty_tFld_157_0 : tFld Try.prog 157 0 = some 0 := by kernel_rfl
theorem ty_tFldV_157_0 : tFldV Try.prog 157 0 = some (0,none) := by kernel_rfl
theorem ty_tFld_157_1 : tFld Try.prog 157 1 = some 1 := by kernel_rfl
theorem ty_tFldV_157_1 : tFldV Try.prog 157 1 = some (1,none) := by kernel_rfl
theorem ty_tShape_158 : tShape Try.prog 158 = some (some 2) := by kernel_rfl
theorem ty_tZero_158 : tZero Try.prog 158 = some [Value.int IntKind.i64 0,Value.int IntKind.i64 0] := by kernel_rfl
theorem ty_nCells_158 : nCells Try.prog 158 = some 2 := by kernel_rfl
theorem ty_tFlat_158 : tFlat Try.prog 158 = some 2 := by kernel_rfl
theorem ty_isBoolT_158 : isBoolT Try.prog 158 = false := by kernel_rfl
theorem ty_tBuilt_158 : tBuilt Try.prog 158 = some ([(0,1),(1,1)],[Value.int IntKind.i64 0,Value.int IntKind.i64 0]) := by kernel_rfl
theorem ty_tFld_158_0 : tFld Try.prog 158 0 = some 0 := by kernel_rfl
theorem ty_tFldV_158_0 : tFldV Try.prog 158 0 = some (0,none) := by kernel_rfl
theorem ty_tFld_158_1 : tFld Try.prog 158 1 = some 1 := by kernel_rfl
theorem ty_tFldV_158_1 : tFldV Try.prog 158 1 = some (1,none) := by kernel_rfl
theorem ty_tShape_159 : tShape Try.prog 159 = some (some 3) := by kernel_rfl
theorem ty_tZero_159 : tZero Try.prog 159 = some [Value.int IntKind.i64 0,Value.int IntKind.i64 0,Value.int IntKind.i64 0] := by kernel_rfl
theorem ty_nCells_159 : nCells Try.prog 159 = some 3 := by kernel_rfl
theorem ty_tFlat_159 : tFlat Try.prog 159 = some 3 := by kernel_rfl
theorem ty_isBoolT_159 : isBoolT Try.prog 159 = false := by kernel_rfl
theorem ty_tBuilt_159 : tBuilt Try.prog 159 = some ([(0,1),(1,1),(2,1)],[Value.int IntKind.i64 0,Value.int IntKind.i64 0,Value.int IntKind.i64 0]) := by kernel_rfl
theorem ty_tFld_159_0 : tFld Try.prog 159 0 = some 0 := by kernel_rfl
theorem ty_tFldV_159_0 : tFldV Try.prog 159 0 = some (0,none) := by kernel_rfl
theorem ty_tFld_159_1 : tFld Try.prog 159 1 = some 1 := by kernel_rfl
theorem ty_tFldV_159_1 : tFldV Try.prog 159 1 = some (1,none) := by kernel_rfl
theorem ty_tFld_159_2 : tFld Try.prog 159 2 = some 2 := by kernel_rfl
theorem ty_tFldV_159_2 : tFldV Try.prog 159 2 = some (2,none) := by kernel_rfl
theorem ty_tShape_165 : tShape Try.prog 165 = some none := by kernel_rfl
theorem ty_tZero_165 : tZero Try.prog 165 = some [Value.nilFunc] := by kernel_rfl
theorem ty_nCells_165 : nCells Try.prog 165 = some 1 := by kernel_rfl
theorem ty_tFlat_165 : tFlat Try.prog 165 = none := by kernel_rfl
theorem ty_isBoolT_165 : isBoolT Try.prog 165 = false := by kernel_rfl
theorem ty_tShape_170 : tShape Try.prog 170 = some (some 9) := by kernel_rfl
theorem ty_tZero_170 : tZero Try.prog 170 = some [Value.int IntKind.i64 0,Value.slice none 0 0,Value.slice none 0 0,Value.slice none 0 0,Value.int IntKind.i64 0,Value.int IntKind.i64 0,Value.slice none 0 0,Value.int IntKind.i64 0,Value.slice none 0 0] := by kernel_rfl
theorem ty_nCells_170 : nCells Try.prog 170 = some 9 := by kernel_rfl
theorem ty_tFlat_170 : tFlat Try.prog 170 = none := by kernel_rfl
theorem ty_isBoolT_170 : isBoolT Try.prog 170 = false := by kernel_rfl
theorem ty_tBuilt_170 : tBuilt Try.prog 170 = some ([(0,4),(4,1),(5,2),(7,2)],[Value.int IntKind.i64 0,Value.slice none 0 0,Value.slice none 0 0,Value.slice none 0 0,Value.int IntKind.i64 0,Value.int IntKind.i64 0,Value.slice none 0 0,Value.int IntKind.i64 0,Value.slice none 0 0]) := by kernel_rfl
theorem ty_tFld_170_0 : tFld Try.prog 170 0 = some 0 := by kernel_rfl
theorem ty_tFldV_170_0 : tFldV Try.prog 170 0 = some (0,some 4) := by kernel_rfl
theorem ty_tFld_170_1 : tFld Try.prog 170 1 = some 4 := by kernel_rfl
theorem ty_tFldV_170_1 : tFldV Try.prog 170 1 = some (4,none) := by kernel_rfl
theorem ty_tFld_170_2 : tFld Try.prog 170 2 = some 5 := by kernel_rfl
theorem ty_tFldV_170_2 : tFldV Try.prog 170 2 = some (5,some 2) := by kernel_rfl
theorem ty_tFld_170_3 : tFld Try.prog 170 3 = some 7 := by kernel_rfl
theorem ty_tFldV_170_3 : tFldV Try.prog 170 3 = some (7,some 2) := by kernel_rfl
theorem ty_tShape_185 : tShape Try.prog 185 = some none := by kernel_rfl
theorem ty_tZero_185 : tZero Try.prog 185 = some [Value.map none] := by kernel_rfl
theorem ty_nCells_185 : nCells Try.prog 185 = some 1 := by kernel_rfl
theorem ty_tFlat_185 : tFlat Try.prog 185 = none := by kernel_rfl
theorem ty_tMap_185 : tMap Try.prog 185 = some (97,3,true,2) := by kernel_rfl
theorem ty_isBoolT_185 : isBoolT Try.prog 185 = false := by kernel_rfl
theorem ty_tShape_189 : tShape Try.prog 189 = some (some 1) := by kernel_rfl
theorem ty_tZero_189 : tZero Try.prog 189 = some [Value.nilFunc] := by kernel_rfl
theorem ty_nCells_189 : nCells Try.prog 189 = some 1 := by kernel_rfl
theorem ty_tFlat_189 : tFlat Try.prog 189 = none := by kernel_rfl
theorem ty_isBoolT_189 : isBoolT Try.prog 189 = false := by kernel_rfl
theorem ty_tBuilt_189 : tBuilt Try.prog 189 = some ([(0,1)],[Value.nilFunc]) := by kernel_rfl
theorem ty_tFld_189_0 : tFld Try.prog 189 0 = some 0 := by kernel_rfl
theorem ty_tFldV_189_0 : tFldV Try.prog 189 0 = some (0,none) := by kernel_rfl
theorem ty_tShape_190 : tShape Try.prog 190 = some none := by kernel_rfl
theorem ty_tZero_190 : tZero Try.prog 190 = some [Value.slice none 0 0] := by kernel_rfl
theorem ty_tElt_190 : tElt Try.prog 190 = some (189,1,8) := by kernel_rfl
theorem ty_nCells_190 : nCells Try.prog 190 = some 1 := by kernel_rfl
theorem ty_tFlat_190 : tFlat Try.prog 190 = none := by kernel_rfl
theorem ty_isBoolT_190 : isBoolT Try.prog 190 = false := by kernel_rfl
theorem ty_tShape_193 : tShape Try.prog 193 = some none := by kernel_rfl
theorem ty_tZero_193 : tZero Try.prog 193 = some [Value.nilFunc] := by kernel_rfl
theorem ty_nCells_193 : nCells Try.prog 193 = some 1 := by kernel_rfl
theorem ty_tFlat_193 : tFlat Try.prog 193 = none := by kernel_rfl
theorem ty_isBoolT_193 : isBoolT Try.prog 193 = false := by kernel_rfl
theorem ty_tShape_195 : tShape Try.prog 195 = some none := by kernel_rfl
theorem ty_tZero_195 : tZero Try.prog 195 = some [Value.nilFunc] := by kernel_rfl
theorem ty_nCells_195 : nCells Try.prog 195 = some 1 := by kernel_rfl
theorem ty_tFlat_195 : tFlat Try.prog 195 = none := by kernel_rfl
theorem ty_isBoolT_195 : isBoolT Try.prog 195 = false := by kernel_rfl
theorem ty_tShape_197 : tShape Try.prog 197 = some none := by kernel_rfl
theorem ty_tZero_197 : tZero Try.prog 197 = some [Value.int IntKind.u64 0] := by kernel_rfl
theorem ty_tInt_197 : tInt Try.prog 197 = some IntKind.u64 := by kernel_rfl
theorem ty_nCells_197 : nCells Try.prog 197 = some 1 := by kernel_rfl
theorem ty_tFlat_197 : tFlat Try.prog 197 = none := by kernel_rfl
theorem ty_isBoolT_197 : isBoolT Try.prog 197 = false := by kernel_rfl
theorem ty_tShape_206 : tShape Try.prog 206 = some none := by kernel_rfl
theorem ty_tZero_206 : tZero Try.prog 206 = some [Value.int IntKind.u64 0] := by kernel_rfl
theorem ty_tInt_206 : tInt Try.prog 206 = some IntKind.u64 := by kernel_rfl
theorem ty_nCells_206 : nCells Try.prog 206 = some 1 := by kernel_rfl
theorem ty_tFlat_206 : tFlat Try.prog 206 = none := by kernel_rfl
theorem ty_isBoolT_206 : isBoolT Try.prog 206 = false := by kernel_rfl
theorem ty_hm : Try.prog.follows .mixedOrders = true := by kernel_rfl
end Go.Proofs.Ytifcbecpemaieaa

