/- What the operations ask of the program's types, as facts. No condition. -/
import Derived.Test.YtkfahinbpmhcgaaKG
import Derived.Test.YtkfahinbpmhcgaaRows
namespace Go.Proofs.Ytkfahinbpmhcgaa
open Go.RowKit

theorem ty_tShape_1 : tShape Try.prog 1 = some none := by kernel_rfl
theorem ty_tZero_1 : tZero Try.prog 1 = some [Value.nilFunc] := by kernel_rfl
theorem ty_nCells_1 : nCells Try.prog 1 = some 1 := by kernel_rfl
theorem ty_tFlat_1 : tFlat Try.prog 1 = none := by kernel_rfl
theorem ty_isBoolT_1 : isBoolT Try.prog 1 = false := by kernel_rfl
theorem ty_tShape_2 : tShape Try.prog 2 = some none := by kernel_rfl
theorem ty_tZero_2 : tZero Try.prog 2 = some [Value.int IntKind.i64 0] := by kernel_rfl
theorem ty_tInt_2 : tInt Try.prog 2 = some IntKind.i64 := by kernel_rfl
theorem ty_nCells_2 : nCells Try.prog 2 = some 1 := by kernel_rfl
theorem ty_tFlat_2 : tFlat Try.prog 2 = none := by kernel_rfl
theorem ty_isBoolT_2 : isBoolT Try.prog 2 = false := by kernel_rfl
theorem ty_tShape_3 : tShape Try.prog 3 = some none := by kernel_rfl
theorem ty_tZero_3 : tZero Try.prog 3 = some [Value.int IntKind.i64 0] := by kernel_rfl
theorem ty_tInt_3 : tInt Try.prog 3 = some IntKind.i64 := by kernel_rfl
theorem ty_nCells_3 : nCells Try.prog 3 = some 1 := by kernel_rfl
theorem ty_tFlat_3 : tFlat Try.prog 3 = none := by kernel_rfl
theorem ty_tZ1_3 : tZ1 Try.prog 3 = some (Value.int IntKind.i64 0) := by kernel_rfl
theorem ty_isBoolT_3 : isBoolT Try.prog 3 = false := by kernel_rfl
theorem ty_tShape_4 : tShape Try.prog 4 = some none := by kernel_rfl
theorem ty_tZero_4 : tZero Try.prog 4 = some [Value.bool false] := by kernel_rfl
theorem ty_nCells_4 : nCells Try.prog 4 = some 1 := by kernel_rfl
theorem ty_tFlat_4 : tFlat Try.prog 4 = none := by kernel_rfl
theorem ty_isBoolT_4 : isBoolT Try.prog 4 = true := by kernel_rfl
theorem ty_tShape_5 : tShape Try.prog 5 = some none := by kernel_rfl
theorem ty_tZero_5 : tZero Try.prog 5 = some [Value.int IntKind.u8 0] := by kernel_rfl
theorem ty_tInt_5 : tInt Try.prog 5 = some IntKind.u8 := by kernel_rfl
theorem ty_nCells_5 : nCells Try.prog 5 = some 1 := by kernel_rfl
theorem ty_tFlat_5 : tFlat Try.prog 5 = none := by kernel_rfl
theorem ty_isBoolT_5 : isBoolT Try.prog 5 = false := by kernel_rfl
theorem ty_tShape_22 : tShape Try.prog 22 = some none := by kernel_rfl
theorem ty_tZero_22 : tZero Try.prog 22 = some [Value.slice none 0 0] := by kernel_rfl
theorem ty_tElt_22 : tElt Try.prog 22 = some (134, 2, 16) := by kernel_rfl
theorem ty_nCells_22 : nCells Try.prog 22 = some 1 := by kernel_rfl
theorem ty_tFlat_22 : tFlat Try.prog 22 = none := by kernel_rfl
theorem ty_isBoolT_22 : isBoolT Try.prog 22 = false := by kernel_rfl
theorem ty_tShape_24 : tShape Try.prog 24 = some (some 2) := by kernel_rfl
theorem ty_tZero_24 : tZero Try.prog 24 = some [Value.int IntKind.i64 0, Value.slice none 0 0] := by kernel_rfl
theorem ty_nCells_24 : nCells Try.prog 24 = some 2 := by kernel_rfl
theorem ty_tFlat_24 : tFlat Try.prog 24 = none := by kernel_rfl
theorem ty_isBoolT_24 : isBoolT Try.prog 24 = false := by kernel_rfl
theorem ty_tBuilt_24 : tBuilt Try.prog 24 = some ([(0, 1), (1, 1)], [Value.int IntKind.i64 0, Value.slice none 0 0]) := by kernel_rfl
theorem ty_tFld_24_0 : tFld Try.prog 24 0 = some 0 := by kernel_rfl
theorem ty_tFldV_24_0 : tFldV Try.prog 24 0 = some (0, none) := by kernel_rfl
theorem ty_tFld_24_1 : tFld Try.prog 24 1 = some 1 := by kernel_rfl
theorem ty_tFldV_24_1 : tFldV Try.prog 24 1 = some (1, none) := by kernel_rfl
theorem ty_tShape_25 : tShape Try.prog 25 = some none := by kernel_rfl
theorem ty_tZero_25 : tZero Try.prog 25 = some [Value.slice none 0 0] := by kernel_rfl
theorem ty_tElt_25 : tElt Try.prog 25 = some (68, 2, 32) := by kernel_rfl
theorem ty_nCells_25 : nCells Try.prog 25 = some 1 := by kernel_rfl
theorem ty_tFlat_25 : tFlat Try.prog 25 = none := by kernel_rfl
theorem ty_isBoolT_25 : isBoolT Try.prog 25 = false := by kernel_rfl
theorem ty_tShape_28 : tShape Try.prog 28 = some none := by kernel_rfl
theorem ty_tZero_28 : tZero Try.prog 28 = some [Value.slice none 0 0] := by kernel_rfl
theorem ty_tElt_28 : tElt Try.prog 28 = some (3, 1, 8) := by kernel_rfl
theorem ty_nCells_28 : nCells Try.prog 28 = some 1 := by kernel_rfl
theorem ty_tFlat_28 : tFlat Try.prog 28 = none := by kernel_rfl
theorem ty_isBoolT_28 : isBoolT Try.prog 28 = false := by kernel_rfl
theorem ty_tShape_35 : tShape Try.prog 35 = some (some 2) := by kernel_rfl
theorem ty_tZero_35 : tZero Try.prog 35 = some [Value.int IntKind.i64 0, Value.slice none 0 0] := by kernel_rfl
theorem ty_nCells_35 : nCells Try.prog 35 = some 2 := by kernel_rfl
theorem ty_tFlat_35 : tFlat Try.prog 35 = none := by kernel_rfl
theorem ty_isBoolT_35 : isBoolT Try.prog 35 = false := by kernel_rfl
theorem ty_tBuilt_35 : tBuilt Try.prog 35 = some ([(0, 1), (1, 1)], [Value.int IntKind.i64 0, Value.slice none 0 0]) := by kernel_rfl
theorem ty_tFld_35_0 : tFld Try.prog 35 0 = some 0 := by kernel_rfl
theorem ty_tFldV_35_0 : tFldV Try.prog 35 0 = some (0, none) := by kernel_rfl
theorem ty_tFld_35_1 : tFld Try.prog 35 1 = some 1 := by kernel_rfl
theorem ty_tFldV_35_1 : tFldV Try.prog 35 1 = some (1, none) := by kernel_rfl
theorem ty_tShape_36 : tShape Try.prog 36 = some none := by kernel_rfl
theorem ty_tZero_36 : tZero Try.prog 36 = some [Value.slice none 0 0] := by kernel_rfl
theorem ty_tElt_36 : tElt Try.prog 36 = some (113, 2, 32) := by kernel_rfl
theorem ty_nCells_36 : nCells Try.prog 36 = some 1 := by kernel_rfl
theorem ty_tFlat_36 : tFlat Try.prog 36 = none := by kernel_rfl
theorem ty_isBoolT_36 : isBoolT Try.prog 36 = false := by kernel_rfl
theorem ty_tShape_42 : tShape Try.prog 42 = some none := by kernel_rfl
theorem ty_tZero_42 : tZero Try.prog 42 = some [Value.nilFunc] := by kernel_rfl
theorem ty_nCells_42 : nCells Try.prog 42 = some 1 := by kernel_rfl
theorem ty_tFlat_42 : tFlat Try.prog 42 = none := by kernel_rfl
theorem ty_isBoolT_42 : isBoolT Try.prog 42 = false := by kernel_rfl
theorem ty_tShape_60 : tShape Try.prog 60 = some (some 4) := by kernel_rfl
theorem ty_tZero_60 : tZero Try.prog 60 = some [Value.int IntKind.i64 0, Value.int IntKind.i64 0, Value.int IntKind.i64 0, Value.slice none 0 0] := by kernel_rfl
theorem ty_nCells_60 : nCells Try.prog 60 = some 4 := by kernel_rfl
theorem ty_tFlat_60 : tFlat Try.prog 60 = none := by kernel_rfl
theorem ty_isBoolT_60 : isBoolT Try.prog 60 = false := by kernel_rfl
theorem ty_tBuilt_60 : tBuilt Try.prog 60 = some ([(0, 1), (1, 1), (2, 1), (3, 1)], [Value.int IntKind.i64 0, Value.int IntKind.i64 0, Value.int IntKind.i64 0, Value.slice none 0 0]) := by kernel_rfl
theorem ty_tFld_60_0 : tFld Try.prog 60 0 = some 0 := by kernel_rfl
theorem ty_tFldV_60_0 : tFldV Try.prog 60 0 = some (0, none) := by kernel_rfl
theorem ty_tFld_60_1 : tFld Try.prog 60 1 = some 1 := by kernel_rfl
theorem ty_tFldV_60_1 : tFldV Try.prog 60 1 = some (1, none) := by kernel_rfl
theorem ty_tFld_60_2 : tFld Try.prog 60 2 = some 2 := by kernel_rfl
theorem ty_tFldV_60_2 : tFldV Try.prog 60 2 = some (2, none) := by kernel_rfl
theorem ty_tFld_60_3 : tFld Try.prog 60 3 = some 3 := by kernel_rfl
theorem ty_tFldV_60_3 : tFldV Try.prog 60 3 = some (3, none) := by kernel_rfl
theorem ty_tShape_66 : tShape Try.prog 66 = some none := by kernel_rfl
theorem ty_tZero_66 : tZero Try.prog 66 = some [Value.slice none 0 0] := by kernel_rfl
theorem ty_tElt_66 : tElt Try.prog 66 = some (86, 4, 80) := by kernel_rfl
theorem ty_nCells_66 : nCells Try.prog 66 = some 1 := by kernel_rfl
theorem ty_tFlat_66 : tFlat Try.prog 66 = none := by kernel_rfl
theorem ty_isBoolT_66 : isBoolT Try.prog 66 = false := by kernel_rfl
theorem ty_tShape_68 : tShape Try.prog 68 = some (some 2) := by kernel_rfl
theorem ty_tZero_68 : tZero Try.prog 68 = some [Value.int IntKind.i64 0, Value.slice none 0 0] := by kernel_rfl
theorem ty_nCells_68 : nCells Try.prog 68 = some 2 := by kernel_rfl
theorem ty_tFlat_68 : tFlat Try.prog 68 = none := by kernel_rfl
theorem ty_isBoolT_68 : isBoolT Try.prog 68 = false := by kernel_rfl
theorem ty_tBuilt_68 : tBuilt Try.prog 68 = some ([(0, 1), (1, 1)], [Value.int IntKind.i64 0, Value.slice none 0 0]) := by kernel_rfl
theorem ty_tFld_68_0 : tFld Try.prog 68 0 = some 0 := by kernel_rfl
theorem ty_tFldV_68_0 : tFldV Try.prog 68 0 = some (0, none) := by kernel_rfl
theorem ty_tFld_68_1 : tFld Try.prog 68 1 = some 1 := by kernel_rfl
theorem ty_tFldV_68_1 : tFldV Try.prog 68 1 = some (1, none) := by kernel_rfl
theorem ty_tShape_72 : tShape Try.prog 72 = some none := by kernel_rfl
theorem ty_tZero_72 : tZero Try.prog 72 = some [Value.slice none 0 0] := by kernel_rfl
theorem ty_tElt_72 : tElt Try.prog 72 = some (81, 2, 16) := by kernel_rfl
theorem ty_nCells_72 : nCells Try.prog 72 = some 1 := by kernel_rfl
theorem ty_tFlat_72 : tFlat Try.prog 72 = none := by kernel_rfl
theorem ty_isBoolT_72 : isBoolT Try.prog 72 = false := by kernel_rfl
theorem ty_tShape_74 : tShape Try.prog 74 = some (some 2) := by kernel_rfl
theorem ty_tZero_74 : tZero Try.prog 74 = some [Value.int IntKind.i64 0, Value.slice none 0 0] := by kernel_rfl
theorem ty_nCells_74 : nCells Try.prog 74 = some 2 := by kernel_rfl
theorem ty_tFlat_74 : tFlat Try.prog 74 = none := by kernel_rfl
theorem ty_isBoolT_74 : isBoolT Try.prog 74 = false := by kernel_rfl
theorem ty_tBuilt_74 : tBuilt Try.prog 74 = some ([(0, 1), (1, 1)], [Value.int IntKind.i64 0, Value.slice none 0 0]) := by kernel_rfl
theorem ty_tFld_74_0 : tFld Try.prog 74 0 = some 0 := by kernel_rfl
theorem ty_tFldV_74_0 : tFldV Try.prog 74 0 = some (0, none) := by kernel_rfl
theorem ty_tFld_74_1 : tFld Try.prog 74 1 = some 1 := by kernel_rfl
theorem ty_tFldV_74_1 : tFldV Try.prog 74 1 = some (1, none) := by kernel_rfl
theorem ty_tShape_78 : tShape Try.prog 78 = some none := by kernel_rfl
theorem ty_tZero_78 : tZero Try.prog 78 = some [Value.nilFunc] := by kernel_rfl
theorem ty_nCells_78 : nCells Try.prog 78 = some 1 := by kernel_rfl
theorem ty_tFlat_78 : tFlat Try.prog 78 = none := by kernel_rfl
theorem ty_isBoolT_78 : isBoolT Try.prog 78 = false := by kernel_rfl
theorem ty_tShape_79 : tShape Try.prog 79 = some none := by kernel_rfl
theorem ty_tZero_79 : tZero Try.prog 79 = some [Value.nilFunc] := by kernel_rfl
theorem ty_nCells_79 : nCells Try.prog 79 = some 1 := by kernel_rfl
theorem ty_tFlat_79 : tFlat Try.prog 79 = none := by kernel_rfl
theorem ty_isBoolT_79 : isBoolT Try.prog 79 = false := by kernel_rfl
theorem ty_tShape_80 : tShape Try.prog 80 = some (some 2) := by kernel_rfl
theorem ty_tZero_80 : tZero Try.prog 80 = some [Value.int IntKind.i64 0, Value.int IntKind.i64 0] := by kernel_rfl
theorem ty_nCells_80 : nCells Try.prog 80 = some 2 := by kernel_rfl
theorem ty_tFlat_80 : tFlat Try.prog 80 = some 2 := by kernel_rfl
theorem ty_isBoolT_80 : isBoolT Try.prog 80 = false := by kernel_rfl
theorem ty_tBuilt_80 : tBuilt Try.prog 80 = some ([(0, 1), (1, 1)], [Value.int IntKind.i64 0, Value.int IntKind.i64 0]) := by kernel_rfl
theorem ty_tFld_80_0 : tFld Try.prog 80 0 = some 0 := by kernel_rfl
theorem ty_tFldV_80_0 : tFldV Try.prog 80 0 = some (0, none) := by kernel_rfl
theorem ty_tFld_80_1 : tFld Try.prog 80 1 = some 1 := by kernel_rfl
theorem ty_tFldV_80_1 : tFldV Try.prog 80 1 = some (1, none) := by kernel_rfl
theorem ty_tShape_81 : tShape Try.prog 81 = some (some 2) := by kernel_rfl
theorem ty_tZero_81 : tZero Try.prog 81 = some [Value.int IntKind.i64 0, Value.int IntKind.i64 0] := by kernel_rfl
theorem ty_nCells_81 : nCells Try.prog 81 = some 2 := by kernel_rfl
theorem ty_tFlat_81 : tFlat Try.prog 81 = some 2 := by kernel_rfl
theorem ty_isBoolT_81 : isBoolT Try.prog 81 = false := by kernel_rfl
theorem ty_tBuilt_81 : tBuilt Try.prog 81 = some ([(0, 1), (1, 1)], [Value.int IntKind.i64 0, Value.int IntKind.i64 0]) := by kernel_rfl
theorem ty_tFld_81_0 : tFld Try.prog 81 0 = some 0 := by kernel_rfl
theorem ty_tFldV_81_0 : tFldV Try.prog 81 0 = some (0, none) := by kernel_rfl
theorem ty_tFld_81_1 : tFld Try.prog 81 1 = some 1 := by kernel_rfl
theorem ty_tFldV_81_1 : tFldV Try.prog 81 1 = some (1, none) := by kernel_rfl
theorem ty_tShape_82 : tShape Try.prog 82 = some (some 3) := by kernel_rfl
theorem ty_tZero_82 : tZero Try.prog 82 = some [Value.int IntKind.i64 0, Value.int IntKind.i64 0, Value.int IntKind.i64 0] := by kernel_rfl
theorem ty_tElt_82 : tElt Try.prog 82 = none := by kernel_rfl
theorem ty_tArr_82 : tArr Try.prog 82 = some (3, 1) := by kernel_rfl
theorem ty_nCells_82 : nCells Try.prog 82 = some 3 := by kernel_rfl
theorem ty_tFlat_82 : tFlat Try.prog 82 = some 3 := by kernel_rfl
theorem ty_isBoolT_82 : isBoolT Try.prog 82 = false := by kernel_rfl
theorem ty_tBuilt_82 : tBuilt Try.prog 82 = some ([(0, 1), (1, 1), (2, 1)], [Value.int IntKind.i64 0, Value.int IntKind.i64 0, Value.int IntKind.i64 0]) := by kernel_rfl
theorem ty_tShape_83 : tShape Try.prog 83 = some none := by kernel_rfl
theorem ty_tZero_83 : tZero Try.prog 83 = some [Value.slice none 0 0] := by kernel_rfl
theorem ty_tElt_83 : tElt Try.prog 83 = some (74, 2, 32) := by kernel_rfl
theorem ty_nCells_83 : nCells Try.prog 83 = some 1 := by kernel_rfl
theorem ty_tFlat_83 : tFlat Try.prog 83 = none := by kernel_rfl
theorem ty_isBoolT_83 : isBoolT Try.prog 83 = false := by kernel_rfl
theorem ty_tShape_84 : tShape Try.prog 84 = some none := by kernel_rfl
theorem ty_tZero_84 : tZero Try.prog 84 = some [Value.slice none 0 0] := by kernel_rfl
theorem ty_tElt_84 : tElt Try.prog 84 = some (88, 3, 24) := by kernel_rfl
theorem ty_nCells_84 : nCells Try.prog 84 = some 1 := by kernel_rfl
theorem ty_tFlat_84 : tFlat Try.prog 84 = none := by kernel_rfl
theorem ty_isBoolT_84 : isBoolT Try.prog 84 = false := by kernel_rfl
theorem ty_tShape_86 : tShape Try.prog 86 = some (some 4) := by kernel_rfl
theorem ty_tZero_86 : tZero Try.prog 86 = some [Value.int IntKind.i64 0, Value.slice none 0 0, Value.slice none 0 0, Value.slice none 0 0] := by kernel_rfl
theorem ty_nCells_86 : nCells Try.prog 86 = some 4 := by kernel_rfl
theorem ty_tFlat_86 : tFlat Try.prog 86 = none := by kernel_rfl
theorem ty_isBoolT_86 : isBoolT Try.prog 86 = false := by kernel_rfl
theorem ty_tBuilt_86 : tBuilt Try.prog 86 = some ([(0, 1), (1, 1), (2, 1), (3, 1)], [Value.int IntKind.i64 0, Value.slice none 0 0, Value.slice none 0 0, Value.slice none 0 0]) := by kernel_rfl
theorem ty_tFld_86_0 : tFld Try.prog 86 0 = some 0 := by kernel_rfl
theorem ty_tFldV_86_0 : tFldV Try.prog 86 0 = some (0, none) := by kernel_rfl
theorem ty_tFld_86_1 : tFld Try.prog 86 1 = some 1 := by kernel_rfl
theorem ty_tFldV_86_1 : tFldV Try.prog 86 1 = some (1, none) := by kernel_rfl
theorem ty_tFld_86_2 : tFld Try.prog 86 2 = some 2 := by kernel_rfl
theorem ty_tFldV_86_2 : tFldV Try.prog 86 2 = some (2, none) := by kernel_rfl
theorem ty_tFld_86_3 : tFld Try.prog 86 3 = some 3 := by kernel_rfl
theorem ty_tFldV_86_3 : tFldV Try.prog 86 3 = some (3, none) := by kernel_rfl
theorem ty_tShape_88 : tShape Try.prog 88 = some (some 3) := by kernel_rfl
theorem ty_tZero_88 : tZero Try.prog 88 = some [Value.int IntKind.i64 0, Value.int IntKind.i64 0, Value.int IntKind.i64 0] := by kernel_rfl
theorem ty_nCells_88 : nCells Try.prog 88 = some 3 := by kernel_rfl
theorem ty_tFlat_88 : tFlat Try.prog 88 = some 3 := by kernel_rfl
theorem ty_isBoolT_88 : isBoolT Try.prog 88 = false := by kernel_rfl
theorem ty_tBuilt_88 : tBuilt Try.prog 88 = some ([(0, 1), (1, 1), (2, 1)], [Value.int IntKind.i64 0, Value.int IntKind.i64 0, Value.int IntKind.i64 0]) := by kernel_rfl
theorem ty_tFld_88_0 : tFld Try.prog 88 0 = some 0 := by kernel_rfl
theorem ty_tFldV_88_0 : tFldV Try.prog 88 0 = some (0, none) := by kernel_rfl
theorem ty_tFld_88_1 : tFld Try.prog 88 1 = some 1 := by kernel_rfl
theorem ty_tFldV_88_1 : tFldV Try.prog 88 1 = some (1, none) := by kernel_rfl
theorem ty_tFld_88_2 : tFld Try.prog 88 2 = some 2 := by kernel_rfl
theorem ty_tFldV_88_2 : tFldV Try.prog 88 2 = some (2, none) := by kernel_rfl
theorem ty_tShape_91 : tShape Try.prog 91 = some (some 5) := by kernel_rfl
theorem ty_tZero_91 : tZero Try.prog 91 = some [Value.int IntKind.i64 0, Value.int IntKind.i64 0, Value.int IntKind.i64 0, Value.int IntKind.i64 0, Value.int IntKind.i64 0] := by kernel_rfl
theorem ty_tElt_91 : tElt Try.prog 91 = none := by kernel_rfl
theorem ty_tArr_91 : tArr Try.prog 91 = some (5, 1) := by kernel_rfl
theorem ty_nCells_91 : nCells Try.prog 91 = some 5 := by kernel_rfl
theorem ty_tFlat_91 : tFlat Try.prog 91 = some 5 := by kernel_rfl
theorem ty_isBoolT_91 : isBoolT Try.prog 91 = false := by kernel_rfl
theorem ty_tBuilt_91 : tBuilt Try.prog 91 = some ([(0, 1), (1, 1), (2, 1), (3, 1), (4, 1)], [Value.int IntKind.i64 0, Value.int IntKind.i64 0, Value.int IntKind.i64 0, Value.int IntKind.i64 0, Value.int IntKind.i64 0]) := by kernel_rfl
theorem ty_tShape_92 : tShape Try.prog 92 = some none := by kernel_rfl
theorem ty_tZero_92 : tZero Try.prog 92 = some [Value.nilFunc] := by kernel_rfl
theorem ty_nCells_92 : nCells Try.prog 92 = some 1 := by kernel_rfl
theorem ty_tFlat_92 : tFlat Try.prog 92 = none := by kernel_rfl
theorem ty_isBoolT_92 : isBoolT Try.prog 92 = false := by kernel_rfl
theorem ty_tShape_93 : tShape Try.prog 93 = some none := by kernel_rfl
theorem ty_tZero_93 : tZero Try.prog 93 = some [Value.slice none 0 0] := by kernel_rfl
theorem ty_tElt_93 : tElt Try.prog 93 = some (4, 1, 1) := by kernel_rfl
theorem ty_nCells_93 : nCells Try.prog 93 = some 1 := by kernel_rfl
theorem ty_tFlat_93 : tFlat Try.prog 93 = none := by kernel_rfl
theorem ty_isBoolT_93 : isBoolT Try.prog 93 = false := by kernel_rfl
theorem ty_tShape_99 : tShape Try.prog 99 = some none := by kernel_rfl
theorem ty_tZero_99 : tZero Try.prog 99 = some [Value.slice none 0 0] := by kernel_rfl
theorem ty_tElt_99 : tElt Try.prog 99 = some (140, 2, 32) := by kernel_rfl
theorem ty_nCells_99 : nCells Try.prog 99 = some 1 := by kernel_rfl
theorem ty_tFlat_99 : tFlat Try.prog 99 = none := by kernel_rfl
theorem ty_isBoolT_99 : isBoolT Try.prog 99 = false := by kernel_rfl
theorem ty_tShape_100 : tShape Try.prog 100 = some none := by kernel_rfl
theorem ty_tZero_100 : tZero Try.prog 100 = some [Value.slice none 0 0] := by kernel_rfl
theorem ty_tElt_100 : tElt Try.prog 100 = some (142, 3, 24) := by kernel_rfl
theorem ty_nCells_100 : nCells Try.prog 100 = some 1 := by kernel_rfl
theorem ty_tFlat_100 : tFlat Try.prog 100 = none := by kernel_rfl
theorem ty_isBoolT_100 : isBoolT Try.prog 100 = false := by kernel_rfl
theorem ty_tShape_102 : tShape Try.prog 102 = some (some 4) := by kernel_rfl
theorem ty_tZero_102 : tZero Try.prog 102 = some [Value.int IntKind.i64 0, Value.slice none 0 0, Value.slice none 0 0, Value.slice none 0 0] := by kernel_rfl
theorem ty_nCells_102 : nCells Try.prog 102 = some 4 := by kernel_rfl
theorem ty_tFlat_102 : tFlat Try.prog 102 = none := by kernel_rfl
theorem ty_isBoolT_102 : isBoolT Try.prog 102 = false := by kernel_rfl
theorem ty_tBuilt_102 : tBuilt Try.prog 102 = some ([(0, 1), (1, 1), (2, 1), (3, 1)], [Value.int IntKind.i64 0, Value.slice none 0 0, Value.slice none 0 0, Value.slice none 0 0]) := by kernel_rfl
theorem ty_tFld_102_0 : tFld Try.prog 102 0 = some 0 := by kernel_rfl
theorem ty_tFldV_102_0 : tFldV Try.prog 102 0 = some (0, none) := by kernel_rfl
theorem ty_tFld_102_1 : tFld Try.prog 102 1 = some 1 := by kernel_rfl
theorem ty_tFldV_102_1 : tFldV Try.prog 102 1 = some (1, none) := by kernel_rfl
theorem ty_tFld_102_2 : tFld Try.prog 102 2 = some 2 := by kernel_rfl
theorem ty_tFldV_102_2 : tFldV Try.prog 102 2 = some (2, none) := by kernel_rfl
theorem ty_tFld_102_3 : tFld Try.prog 102 3 = some 3 := by kernel_rfl
theorem ty_tFldV_102_3 : tFldV Try.prog 102 3 = some (3, none) := by kernel_rfl
theorem ty_tShape_111 : tShape Try.prog 111 = some none := by kernel_rfl
theorem ty_tZero_111 : tZero Try.prog 111 = some [Value.slice none 0 0] := by kernel_rfl
theorem ty_tElt_111 : tElt Try.prog 111 = some (102, 4, 80) := by kernel_rfl
theorem ty_nCells_111 : nCells Try.prog 111 = some 1 := by kernel_rfl
theorem ty_tFlat_111 : tFlat Try.prog 111 = none := by kernel_rfl
theorem ty_isBoolT_111 : isBoolT Try.prog 111 = false := by kernel_rfl
theorem ty_tShape_113 : tShape Try.prog 113 = some (some 2) := by kernel_rfl
theorem ty_tZero_113 : tZero Try.prog 113 = some [Value.int IntKind.i64 0, Value.slice none 0 0] := by kernel_rfl
theorem ty_nCells_113 : nCells Try.prog 113 = some 2 := by kernel_rfl
theorem ty_tFlat_113 : tFlat Try.prog 113 = none := by kernel_rfl
theorem ty_isBoolT_113 : isBoolT Try.prog 113 = false := by kernel_rfl
theorem ty_tBuilt_113 : tBuilt Try.prog 113 = some ([(0, 1), (1, 1)], [Value.int IntKind.i64 0, Value.slice none 0 0]) := by kernel_rfl
theorem ty_tFld_113_0 : tFld Try.prog 113 0 = some 0 := by kernel_rfl
theorem ty_tFldV_113_0 : tFldV Try.prog 113 0 = some (0, none) := by kernel_rfl
theorem ty_tFld_113_1 : tFld Try.prog 113 1 = some 1 := by kernel_rfl
theorem ty_tFldV_113_1 : tFldV Try.prog 113 1 = some (1, none) := by kernel_rfl
theorem ty_tShape_127 : tShape Try.prog 127 = some (some 9) := by kernel_rfl
theorem ty_tZero_127 : tZero Try.prog 127 = some [Value.int IntKind.i64 0, Value.slice none 0 0, Value.slice none 0 0, Value.slice none 0 0, Value.int IntKind.i64 0, Value.int IntKind.i64 0, Value.slice none 0 0, Value.int IntKind.i64 0, Value.slice none 0 0] := by kernel_rfl
theorem ty_nCells_127 : nCells Try.prog 127 = some 9 := by kernel_rfl
theorem ty_tFlat_127 : tFlat Try.prog 127 = none := by kernel_rfl
theorem ty_isBoolT_127 : isBoolT Try.prog 127 = false := by kernel_rfl
theorem ty_tBuilt_127 : tBuilt Try.prog 127 = some ([(0, 4), (4, 1), (5, 2), (7, 2)], [Value.int IntKind.i64 0, Value.slice none 0 0, Value.slice none 0 0, Value.slice none 0 0, Value.int IntKind.i64 0, Value.int IntKind.i64 0, Value.slice none 0 0, Value.int IntKind.i64 0, Value.slice none 0 0]) := by kernel_rfl
theorem ty_tFld_127_0 : tFld Try.prog 127 0 = some 0 := by kernel_rfl
theorem ty_tFldV_127_0 : tFldV Try.prog 127 0 = some (0, some 4) := by kernel_rfl
theorem ty_tFld_127_1 : tFld Try.prog 127 1 = some 4 := by kernel_rfl
theorem ty_tFldV_127_1 : tFldV Try.prog 127 1 = some (4, none) := by kernel_rfl
theorem ty_tFld_127_2 : tFld Try.prog 127 2 = some 5 := by kernel_rfl
theorem ty_tFldV_127_2 : tFldV Try.prog 127 2 = some (5, some 2) := by kernel_rfl
theorem ty_tFld_127_3 : tFld Try.prog 127 3 = some 7 := by kernel_rfl
theorem ty_tFldV_127_3 : tFldV Try.prog 127 3 = some (7, some 2) := by kernel_rfl
theorem ty_tShape_134 : tShape Try.prog 134 = some (some 2) := by kernel_rfl
theorem ty_tZero_134 : tZero Try.prog 134 = some [Value.int IntKind.i64 0, Value.int IntKind.i64 0] := by kernel_rfl
theorem ty_tElt_134 : tElt Try.prog 134 = none := by kernel_rfl
theorem ty_tArr_134 : tArr Try.prog 134 = some (2, 1) := by kernel_rfl
theorem ty_nCells_134 : nCells Try.prog 134 = some 2 := by kernel_rfl
theorem ty_tFlat_134 : tFlat Try.prog 134 = some 2 := by kernel_rfl
theorem ty_isBoolT_134 : isBoolT Try.prog 134 = false := by kernel_rfl
theorem ty_tBuilt_134 : tBuilt Try.prog 134 = some ([(0, 1), (1, 1)], [Value.int IntKind.i64 0, Value.int IntKind.i64 0]) := by kernel_rfl
theorem ty_tShape_138 : tShape Try.prog 138 = some none := by kernel_rfl
theorem ty_tZero_138 : tZero Try.prog 138 = some [Value.slice none 0 0] := by kernel_rfl
theorem ty_tElt_138 : tElt Try.prog 138 = some (141, 2, 16) := by kernel_rfl
theorem ty_nCells_138 : nCells Try.prog 138 = some 1 := by kernel_rfl
theorem ty_tFlat_138 : tFlat Try.prog 138 = none := by kernel_rfl
theorem ty_isBoolT_138 : isBoolT Try.prog 138 = false := by kernel_rfl
theorem ty_tShape_140 : tShape Try.prog 140 = some (some 2) := by kernel_rfl
theorem ty_tZero_140 : tZero Try.prog 140 = some [Value.int IntKind.i64 0, Value.slice none 0 0] := by kernel_rfl
theorem ty_nCells_140 : nCells Try.prog 140 = some 2 := by kernel_rfl
theorem ty_tFlat_140 : tFlat Try.prog 140 = none := by kernel_rfl
theorem ty_isBoolT_140 : isBoolT Try.prog 140 = false := by kernel_rfl
theorem ty_tBuilt_140 : tBuilt Try.prog 140 = some ([(0, 1), (1, 1)], [Value.int IntKind.i64 0, Value.slice none 0 0]) := by kernel_rfl
theorem ty_tFld_140_0 : tFld Try.prog 140 0 = some 0 := by kernel_rfl
theorem ty_tFldV_140_0 : tFldV Try.prog 140 0 = some (0, none) := by kernel_rfl
theorem ty_tFld_140_1 : tFld Try.prog 140 1 = some 1 := by kernel_rfl
theorem ty_tFldV_140_1 : tFldV Try.prog 140 1 = some (1, none) := by kernel_rfl
theorem ty_tShape_141 : tShape Try.prog 141 = some (some 2) := by kernel_rfl
theorem ty_tZero_141 : tZero Try.prog 141 = some [Value.int IntKind.i64 0, Value.int IntKind.i64 0] := by kernel_rfl
theorem ty_nCells_141 : nCells Try.prog 141 = some 2 := by kernel_rfl
theorem ty_tFlat_141 : tFlat Try.prog 141 = some 2 := by kernel_rfl
theorem ty_isBoolT_141 : isBoolT Try.prog 141 = false := by kernel_rfl
theorem ty_tBuilt_141 : tBuilt Try.prog 141 = some ([(0, 1), (1, 1)], [Value.int IntKind.i64 0, Value.int IntKind.i64 0]) := by kernel_rfl
theorem ty_tFld_141_0 : tFld Try.prog 141 0 = some 0 := by kernel_rfl
theorem ty_tFldV_141_0 : tFldV Try.prog 141 0 = some (0, none) := by kernel_rfl
theorem ty_tFld_141_1 : tFld Try.prog 141 1 = some 1 := by kernel_rfl
theorem ty_tFldV_141_1 : tFldV Try.prog 141 1 = some (1, none) := by kernel_rfl
theorem ty_tShape_142 : tShape Try.prog 142 = some (some 3) := by kernel_rfl
theorem ty_tZero_142 : tZero Try.prog 142 = some [Value.int IntKind.i64 0, Value.int IntKind.i64 0, Value.int IntKind.i64 0] := by kernel_rfl
theorem ty_nCells_142 : nCells Try.prog 142 = some 3 := by kernel_rfl
theorem ty_tFlat_142 : tFlat Try.prog 142 = some 3 := by kernel_rfl
theorem ty_isBoolT_142 : isBoolT Try.prog 142 = false := by kernel_rfl
theorem ty_tBuilt_142 : tBuilt Try.prog 142 = some ([(0, 1), (1, 1), (2, 1)], [Value.int IntKind.i64 0, Value.int IntKind.i64 0, Value.int IntKind.i64 0]) := by kernel_rfl
theorem ty_tFld_142_0 : tFld Try.prog 142 0 = some 0 := by kernel_rfl
theorem ty_tFldV_142_0 : tFldV Try.prog 142 0 = some (0, none) := by kernel_rfl
theorem ty_tFld_142_1 : tFld Try.prog 142 1 = some 1 := by kernel_rfl
theorem ty_tFldV_142_1 : tFldV Try.prog 142 1 = some (1, none) := by kernel_rfl
theorem ty_tFld_142_2 : tFld Try.prog 142 2 = some 2 := by kernel_rfl
theorem ty_tFldV_142_2 : tFldV Try.prog 142 2 = some (2, none) := by kernel_rfl
theorem ty_tShape_148 : tShape Try.prog 148 = some none := by kernel_rfl
theorem ty_tZero_148 : tZero Try.prog 148 = some [Value.map none] := by kernel_rfl
theorem ty_nCells_148 : nCells Try.prog 148 = some 1 := by kernel_rfl
theorem ty_tFlat_148 : tFlat Try.prog 148 = none := by kernel_rfl
theorem ty_tMap_148 : tMap Try.prog 148 = some (134, 3, true, 2) := by kernel_rfl
theorem ty_isBoolT_148 : isBoolT Try.prog 148 = false := by kernel_rfl
theorem ty_tShape_152 : tShape Try.prog 152 = some (some 1) := by kernel_rfl
theorem ty_tZero_152 : tZero Try.prog 152 = some [Value.nilFunc] := by kernel_rfl
theorem ty_nCells_152 : nCells Try.prog 152 = some 1 := by kernel_rfl
theorem ty_tFlat_152 : tFlat Try.prog 152 = none := by kernel_rfl
theorem ty_isBoolT_152 : isBoolT Try.prog 152 = false := by kernel_rfl
theorem ty_tBuilt_152 : tBuilt Try.prog 152 = some ([(0, 1)], [Value.nilFunc]) := by kernel_rfl
theorem ty_tFld_152_0 : tFld Try.prog 152 0 = some 0 := by kernel_rfl
theorem ty_tFldV_152_0 : tFldV Try.prog 152 0 = some (0, none) := by kernel_rfl
theorem ty_tShape_153 : tShape Try.prog 153 = some none := by kernel_rfl
theorem ty_tZero_153 : tZero Try.prog 153 = some [Value.slice none 0 0] := by kernel_rfl
theorem ty_tElt_153 : tElt Try.prog 153 = some (152, 1, 8) := by kernel_rfl
theorem ty_nCells_153 : nCells Try.prog 153 = some 1 := by kernel_rfl
theorem ty_tFlat_153 : tFlat Try.prog 153 = none := by kernel_rfl
theorem ty_isBoolT_153 : isBoolT Try.prog 153 = false := by kernel_rfl
theorem ty_tShape_157 : tShape Try.prog 157 = some none := by kernel_rfl
theorem ty_tZero_157 : tZero Try.prog 157 = some [Value.nilFunc] := by kernel_rfl
theorem ty_nCells_157 : nCells Try.prog 157 = some 1 := by kernel_rfl
theorem ty_tFlat_157 : tFlat Try.prog 157 = none := by kernel_rfl
theorem ty_isBoolT_157 : isBoolT Try.prog 157 = false := by kernel_rfl
theorem ty_tShape_159 : tShape Try.prog 159 = some none := by kernel_rfl
theorem ty_tZero_159 : tZero Try.prog 159 = some [Value.nilFunc] := by kernel_rfl
theorem ty_nCells_159 : nCells Try.prog 159 = some 1 := by kernel_rfl
theorem ty_tFlat_159 : tFlat Try.prog 159 = none := by kernel_rfl
theorem ty_isBoolT_159 : isBoolT Try.prog 159 = false := by kernel_rfl
theorem ty_tShape_161 : tShape Try.prog 161 = some none := by kernel_rfl
theorem ty_tZero_161 : tZero Try.prog 161 = some [Value.int IntKind.u64 0] := by kernel_rfl
theorem ty_tInt_161 : tInt Try.prog 161 = some IntKind.u64 := by kernel_rfl
theorem ty_nCells_161 : nCells Try.prog 161 = some 1 := by kernel_rfl
theorem ty_tFlat_161 : tFlat Try.prog 161 = none := by kernel_rfl
theorem ty_isBoolT_161 : isBoolT Try.prog 161 = false := by kernel_rfl
theorem ty_tShape_170 : tShape Try.prog 170 = some none := by kernel_rfl
theorem ty_tZero_170 : tZero Try.prog 170 = some [Value.int IntKind.u64 0] := by kernel_rfl
theorem ty_tInt_170 : tInt Try.prog 170 = some IntKind.u64 := by kernel_rfl
theorem ty_nCells_170 : nCells Try.prog 170 = some 1 := by kernel_rfl
theorem ty_tFlat_170 : tFlat Try.prog 170 = none := by kernel_rfl
theorem ty_isBoolT_170 : isBoolT Try.prog 170 = false := by kernel_rfl
theorem ty_hm : Try.prog.follows .mixedOrders = true := by kernel_rfl
end Go.Proofs.Ytkfahinbpmhcgaa

