/- How many cells a value of each type has. -/
import Derived.Test.YtaegdaimjhhgpaaRows
import Derived.Test.YtaegdaimjhhgpaaFlowE
import Derived.Test.YtaegdaimjhhgpaaBase
import Derived.Test.YtaegdaimjhhgpaaLoops
import Derived.WalkKit
import Derived.WalkSpells
import Derived.KernelRfl
namespace Go.Proofs.Ytaegdaimjhhgpaa
open Go.RowKit
set_option linter.unusedVariables false
set_option linter.unusedSimpArgs false

theorem cells_1 : Try.prog.cellsOf 1 = 1 := by kernel_rfl

theorem zeroOk_1 : zeroOk Try.prog 1 = true := by kernel_rfl

theorem bytes_1 : Try.prog.bytesOf 1 = 8 := by kernel_rfl

theorem cells_2 : Try.prog.cellsOf 2 = 1 := by kernel_rfl

theorem zeroOk_2 : zeroOk Try.prog 2 = true := by kernel_rfl

theorem bytes_2 : Try.prog.bytesOf 2 = 8 := by kernel_rfl

theorem zeroV_2 : zeroV Try.prog 2 = [Value.int .i64 0] := by kernel_rfl

theorem cells_3 : Try.prog.cellsOf 3 = 1 := by kernel_rfl

theorem zeroOk_3 : zeroOk Try.prog 3 = true := by kernel_rfl

theorem bytes_3 : Try.prog.bytesOf 3 = 8 := by kernel_rfl

theorem zeroV_3 : zeroV Try.prog 3 = [Value.int .i64 0] := by kernel_rfl

theorem cells_4 : Try.prog.cellsOf 4 = 1 := by kernel_rfl

theorem zeroOk_4 : zeroOk Try.prog 4 = true := by kernel_rfl

theorem bytes_4 : Try.prog.bytesOf 4 = 1 := by kernel_rfl

theorem zeroV_4 : zeroV Try.prog 4 = [Value.bool false] := by kernel_rfl

theorem cells_5 : Try.prog.cellsOf 5 = 1 := by kernel_rfl

theorem zeroOk_5 : zeroOk Try.prog 5 = true := by kernel_rfl

theorem bytes_5 : Try.prog.bytesOf 5 = 1 := by kernel_rfl

theorem zeroV_5 : zeroV Try.prog 5 = [Value.int .u8 0] := by kernel_rfl

theorem cells_6 : Try.prog.cellsOf 6 = 1 := by kernel_rfl

theorem zeroOk_6 : zeroOk Try.prog 6 = true := by kernel_rfl

theorem bytes_6 : Try.prog.bytesOf 6 = 1 := by kernel_rfl

theorem zeroV_6 : zeroV Try.prog 6 = [Value.int .u8 0] := by kernel_rfl

theorem cells_7 : Try.prog.cellsOf 7 = 4 := by kernel_rfl

theorem zeroOk_7 : zeroOk Try.prog 7 = true := by kernel_rfl

theorem bytes_7 : Try.prog.bytesOf 7 = 24 := by kernel_rfl

theorem zeroV_7 : zeroV Try.prog 7 = [Value.int .i64 0, Value.int .i64 0, Value.bool false, Value.int .u8 0] := by kernel_rfl

theorem cells_8 : Try.prog.cellsOf 8 = 4 := by kernel_rfl

theorem zeroOk_8 : zeroOk Try.prog 8 = true := by kernel_rfl

theorem bytes_8 : Try.prog.bytesOf 8 = 24 := by kernel_rfl

theorem zeroV_8 : zeroV Try.prog 8 = [Value.int .i64 0, Value.int .i64 0, Value.bool false, Value.int .u8 0] := by kernel_rfl

theorem cells_9 : Try.prog.cellsOf 9 = 1 := by kernel_rfl

theorem zeroOk_9 : zeroOk Try.prog 9 = true := by kernel_rfl

theorem bytes_9 : Try.prog.bytesOf 9 = 16 := by kernel_rfl

theorem zeroV_9 : zeroV Try.prog 9 = [Value.string ⟨#[]⟩] := by kernel_rfl

theorem cells_10 : Try.prog.cellsOf 10 = 1 := by kernel_rfl

theorem zeroOk_10 : zeroOk Try.prog 10 = true := by kernel_rfl

theorem bytes_10 : Try.prog.bytesOf 10 = 16 := by kernel_rfl

theorem zeroV_10 : zeroV Try.prog 10 = [Value.string ⟨#[]⟩] := by kernel_rfl

theorem cells_11 : Try.prog.cellsOf 11 = 1 := by kernel_rfl

theorem zeroOk_11 : zeroOk Try.prog 11 = true := by kernel_rfl

theorem bytes_11 : Try.prog.bytesOf 11 = 16 := by kernel_rfl

theorem zeroV_11 : zeroV Try.prog 11 = [Value.string ⟨#[]⟩] := by kernel_rfl

theorem cells_12 : Try.prog.cellsOf 12 = 1 := by kernel_rfl

theorem zeroOk_12 : zeroOk Try.prog 12 = true := by kernel_rfl

theorem bytes_12 : Try.prog.bytesOf 12 = 8 := by kernel_rfl

theorem zeroV_12 : zeroV Try.prog 12 = [Value.int .u64 0] := by kernel_rfl

theorem cells_13 : Try.prog.cellsOf 13 = 2 := by kernel_rfl

theorem zeroOk_13 : zeroOk Try.prog 13 = true := by kernel_rfl

theorem bytes_13 : Try.prog.bytesOf 13 = 24 := by kernel_rfl

theorem zeroV_13 : zeroV Try.prog 13 = [Value.string ⟨#[]⟩, Value.int .u64 0] := by kernel_rfl

theorem cells_14 : Try.prog.cellsOf 14 = 2 := by kernel_rfl

theorem zeroOk_14 : zeroOk Try.prog 14 = true := by kernel_rfl

theorem bytes_14 : Try.prog.bytesOf 14 = 24 := by kernel_rfl

theorem zeroV_14 : zeroV Try.prog 14 = [Value.string ⟨#[]⟩, Value.int .u64 0] := by kernel_rfl

theorem cells_15 : Try.prog.cellsOf 15 = 1 := by kernel_rfl

theorem zeroOk_15 : zeroOk Try.prog 15 = true := by kernel_rfl

theorem bytes_15 : Try.prog.bytesOf 15 = 8 := by kernel_rfl

theorem zeroV_15 : zeroV Try.prog 15 = [Value.pointer none] := by kernel_rfl

theorem cells_16 : Try.prog.cellsOf 16 = 1 := by kernel_rfl

theorem zeroOk_16 : zeroOk Try.prog 16 = true := by kernel_rfl

theorem bytes_16 : Try.prog.bytesOf 16 = 8 := by kernel_rfl

theorem zeroV_16 : zeroV Try.prog 16 = [Value.pointer none] := by kernel_rfl

theorem cells_17 : Try.prog.cellsOf 17 = 1 := by kernel_rfl

theorem zeroOk_17 : zeroOk Try.prog 17 = true := by kernel_rfl

theorem bytes_17 : Try.prog.bytesOf 17 = 8 := by kernel_rfl

theorem zeroV_17 : zeroV Try.prog 17 = [Value.pointer none] := by kernel_rfl

theorem cells_18 : Try.prog.cellsOf 18 = 1 := by kernel_rfl

theorem zeroOk_18 : zeroOk Try.prog 18 = true := by kernel_rfl

theorem bytes_18 : Try.prog.bytesOf 18 = 8 := by kernel_rfl

theorem zeroV_18 : zeroV Try.prog 18 = [Value.pointer none] := by kernel_rfl

theorem cells_19 : Try.prog.cellsOf 19 = 1 := by kernel_rfl

theorem zeroOk_19 : zeroOk Try.prog 19 = true := by kernel_rfl

theorem bytes_19 : Try.prog.bytesOf 19 = 8 := by kernel_rfl

theorem zeroV_19 : zeroV Try.prog 19 = [Value.pointer none] := by kernel_rfl

theorem cells_21 : Try.prog.cellsOf 21 = 1 := by kernel_rfl

theorem zeroOk_21 : zeroOk Try.prog 21 = true := by kernel_rfl

theorem bytes_21 : Try.prog.bytesOf 21 = 4 := by kernel_rfl

theorem zeroV_21 : zeroV Try.prog 21 = [Value.int .i32 0] := by kernel_rfl

theorem cells_22 : Try.prog.cellsOf 22 = 4 := by kernel_rfl

theorem zeroOk_22 : zeroOk Try.prog 22 = true := by kernel_rfl

theorem bytes_22 : Try.prog.bytesOf 22 = 32 := by kernel_rfl

theorem zeroV_22 : zeroV Try.prog 22 = [Value.int .i64 0, Value.int .i64 0, Value.int .i64 0, Value.int .i64 0] := by kernel_rfl

theorem cells_23 : Try.prog.cellsOf 23 = 4 := by kernel_rfl

theorem zeroOk_23 : zeroOk Try.prog 23 = true := by kernel_rfl

theorem bytes_23 : Try.prog.bytesOf 23 = 32 := by kernel_rfl

theorem zeroV_23 : zeroV Try.prog 23 = [Value.int .i64 0, Value.int .i64 0, Value.int .i64 0, Value.int .i64 0] := by kernel_rfl

theorem cells_24 : Try.prog.cellsOf 24 = 1 := by kernel_rfl

theorem zeroOk_24 : zeroOk Try.prog 24 = true := by kernel_rfl

theorem bytes_24 : Try.prog.bytesOf 24 = 24 := by kernel_rfl

theorem zeroV_24 : zeroV Try.prog 24 = [Value.slice none 0 0] := by kernel_rfl

theorem cells_26 : Try.prog.cellsOf 26 = 1 := by kernel_rfl

theorem zeroOk_26 : zeroOk Try.prog 26 = true := by kernel_rfl

theorem bytes_26 : Try.prog.bytesOf 26 = 8 := by kernel_rfl

theorem cells_27 : Try.prog.cellsOf 27 = 4 := by kernel_rfl

theorem zeroOk_27 : zeroOk Try.prog 27 = true := by kernel_rfl

theorem bytes_27 : Try.prog.bytesOf 27 = 32 := by kernel_rfl

theorem zeroV_27 : zeroV Try.prog 27 = [Value.int .i64 0, Value.int .i64 0, Value.int .i64 0, Value.int .i64 0] := by kernel_rfl

theorem cells_28 : Try.prog.cellsOf 28 = 1 := by kernel_rfl

theorem zeroOk_28 : zeroOk Try.prog 28 = true := by kernel_rfl

theorem bytes_28 : Try.prog.bytesOf 28 = 8 := by kernel_rfl

theorem cells_29 : Try.prog.cellsOf 29 = 1 := by kernel_rfl

theorem zeroOk_29 : zeroOk Try.prog 29 = true := by kernel_rfl

theorem bytes_29 : Try.prog.bytesOf 29 = 8 := by kernel_rfl

theorem cells_30 : Try.prog.cellsOf 30 = 1 := by kernel_rfl

theorem zeroOk_30 : zeroOk Try.prog 30 = true := by kernel_rfl

theorem bytes_30 : Try.prog.bytesOf 30 = 8 := by kernel_rfl

theorem cells_31 : Try.prog.cellsOf 31 = 1 := by kernel_rfl

theorem zeroOk_31 : zeroOk Try.prog 31 = true := by kernel_rfl

theorem bytes_31 : Try.prog.bytesOf 31 = 8 := by kernel_rfl

theorem cells_32 : Try.prog.cellsOf 32 = 1 := by kernel_rfl

theorem zeroOk_32 : zeroOk Try.prog 32 = true := by kernel_rfl

theorem bytes_32 : Try.prog.bytesOf 32 = 24 := by kernel_rfl

theorem zeroV_32 : zeroV Try.prog 32 = [Value.slice none 0 0] := by kernel_rfl

theorem cells_33 : Try.prog.cellsOf 33 = 1 := by kernel_rfl

theorem zeroOk_33 : zeroOk Try.prog 33 = true := by kernel_rfl

theorem bytes_33 : Try.prog.bytesOf 33 = 24 := by kernel_rfl

theorem zeroV_33 : zeroV Try.prog 33 = [Value.slice none 0 0] := by kernel_rfl

theorem cells_34 : Try.prog.cellsOf 34 = 1 := by kernel_rfl

theorem zeroOk_34 : zeroOk Try.prog 34 = true := by kernel_rfl

theorem bytes_34 : Try.prog.bytesOf 34 = 24 := by kernel_rfl

theorem zeroV_34 : zeroV Try.prog 34 = [Value.slice none 0 0] := by kernel_rfl

theorem cells_35 : Try.prog.cellsOf 35 = 1 := by kernel_rfl

theorem zeroOk_35 : zeroOk Try.prog 35 = true := by kernel_rfl

theorem bytes_35 : Try.prog.bytesOf 35 = 8 := by kernel_rfl

theorem cells_37 : Try.prog.cellsOf 37 = 1 := by kernel_rfl

theorem zeroOk_37 : zeroOk Try.prog 37 = true := by kernel_rfl

theorem bytes_37 : Try.prog.bytesOf 37 = 8 := by kernel_rfl

theorem cells_38 : Try.prog.cellsOf 38 = 1 := by kernel_rfl

theorem zeroOk_38 : zeroOk Try.prog 38 = true := by kernel_rfl

theorem bytes_38 : Try.prog.bytesOf 38 = 24 := by kernel_rfl

theorem zeroV_38 : zeroV Try.prog 38 = [Value.slice none 0 0] := by kernel_rfl

theorem cells_39 : Try.prog.cellsOf 39 = 1 := by kernel_rfl

theorem zeroOk_39 : zeroOk Try.prog 39 = true := by kernel_rfl

theorem bytes_39 : Try.prog.bytesOf 39 = 8 := by kernel_rfl

theorem cells_40 : Try.prog.cellsOf 40 = 1 := by kernel_rfl

theorem zeroOk_40 : zeroOk Try.prog 40 = true := by kernel_rfl

theorem bytes_40 : Try.prog.bytesOf 40 = 8 := by kernel_rfl

theorem cells_41 : Try.prog.cellsOf 41 = 1 := by kernel_rfl

theorem zeroOk_41 : zeroOk Try.prog 41 = true := by kernel_rfl

theorem bytes_41 : Try.prog.bytesOf 41 = 8 := by kernel_rfl

theorem cells_43 : Try.prog.cellsOf 43 = 1 := by kernel_rfl

theorem zeroOk_43 : zeroOk Try.prog 43 = true := by kernel_rfl

theorem bytes_43 : Try.prog.bytesOf 43 = 8 := by kernel_rfl

theorem cells_44 : Try.prog.cellsOf 44 = 1 := by kernel_rfl

theorem zeroOk_44 : zeroOk Try.prog 44 = true := by kernel_rfl

theorem bytes_44 : Try.prog.bytesOf 44 = 8 := by kernel_rfl

theorem cells_45 : Try.prog.cellsOf 45 = 1 := by kernel_rfl

theorem zeroOk_45 : zeroOk Try.prog 45 = true := by kernel_rfl

theorem bytes_45 : Try.prog.bytesOf 45 = 8 := by kernel_rfl

theorem cells_46 : Try.prog.cellsOf 46 = 1 := by kernel_rfl

theorem zeroOk_46 : zeroOk Try.prog 46 = true := by kernel_rfl

theorem bytes_46 : Try.prog.bytesOf 46 = 8 := by kernel_rfl

theorem cells_47 : Try.prog.cellsOf 47 = 1 := by kernel_rfl

theorem zeroOk_47 : zeroOk Try.prog 47 = true := by kernel_rfl

theorem bytes_47 : Try.prog.bytesOf 47 = 8 := by kernel_rfl

theorem cells_48 : Try.prog.cellsOf 48 = 1 := by kernel_rfl

theorem zeroOk_48 : zeroOk Try.prog 48 = true := by kernel_rfl

theorem bytes_48 : Try.prog.bytesOf 48 = 8 := by kernel_rfl

theorem cells_49 : Try.prog.cellsOf 49 = 1 := by kernel_rfl

theorem zeroOk_49 : zeroOk Try.prog 49 = true := by kernel_rfl

theorem bytes_49 : Try.prog.bytesOf 49 = 8 := by kernel_rfl

theorem cells_50 : Try.prog.cellsOf 50 = 4 := by kernel_rfl

theorem zeroOk_50 : zeroOk Try.prog 50 = true := by kernel_rfl

theorem bytes_50 : Try.prog.bytesOf 50 = 32 := by kernel_rfl

theorem zeroV_50 : zeroV Try.prog 50 = [Value.int .i64 0, Value.int .i64 0, Value.int .i64 0, Value.int .i64 0] := by kernel_rfl

theorem cells_51 : Try.prog.cellsOf 51 = 4 := by kernel_rfl

theorem zeroOk_51 : zeroOk Try.prog 51 = true := by kernel_rfl

theorem bytes_51 : Try.prog.bytesOf 51 = 32 := by kernel_rfl

theorem zeroV_51 : zeroV Try.prog 51 = [Value.int .i64 0, Value.int .i64 0, Value.int .i64 0, Value.int .i64 0] := by kernel_rfl

theorem cells_52 : Try.prog.cellsOf 52 = 15 := by kernel_rfl

theorem zeroOk_52 : zeroOk Try.prog 52 = true := by kernel_rfl

theorem bytes_52 : Try.prog.bytesOf 52 = 120 := by kernel_rfl

theorem zeroV_52 : zeroV Try.prog 52 = [Value.int .i64 0, Value.int .i64 0, Value.int .i64 0, Value.int .i64 0, Value.int .i64 0, Value.int .i64 0, Value.int .i64 0, Value.int .i64 0, Value.int .i64 0, Value.int .i64 0, Value.int .i64 0, Value.int .i64 0, Value.int .i64 0, Value.int .i64 0, Value.int .i64 0] := by kernel_rfl

theorem cells_53 : Try.prog.cellsOf 53 = 15 := by kernel_rfl

theorem zeroOk_53 : zeroOk Try.prog 53 = true := by kernel_rfl

theorem bytes_53 : Try.prog.bytesOf 53 = 120 := by kernel_rfl

theorem zeroV_53 : zeroV Try.prog 53 = [Value.int .i64 0, Value.int .i64 0, Value.int .i64 0, Value.int .i64 0, Value.int .i64 0, Value.int .i64 0, Value.int .i64 0, Value.int .i64 0, Value.int .i64 0, Value.int .i64 0, Value.int .i64 0, Value.int .i64 0, Value.int .i64 0, Value.int .i64 0, Value.int .i64 0] := by kernel_rfl

theorem cells_54 : Try.prog.cellsOf 54 = 1 := by kernel_rfl

theorem zeroOk_54 : zeroOk Try.prog 54 = true := by kernel_rfl

theorem bytes_54 : Try.prog.bytesOf 54 = 24 := by kernel_rfl

theorem zeroV_54 : zeroV Try.prog 54 = [Value.slice none 0 0] := by kernel_rfl

theorem cells_56 : Try.prog.cellsOf 56 = 1 := by kernel_rfl

theorem zeroOk_56 : zeroOk Try.prog 56 = true := by kernel_rfl

theorem bytes_56 : Try.prog.bytesOf 56 = 8 := by kernel_rfl

theorem cells_57 : Try.prog.cellsOf 57 = 4 := by kernel_rfl

theorem zeroOk_57 : zeroOk Try.prog 57 = true := by kernel_rfl

theorem bytes_57 : Try.prog.bytesOf 57 = 32 := by kernel_rfl

theorem zeroV_57 : zeroV Try.prog 57 = [Value.int .i64 0, Value.int .i64 0, Value.int .i64 0, Value.int .i64 0] := by kernel_rfl

theorem cells_58 : Try.prog.cellsOf 58 = 15 := by kernel_rfl

theorem zeroOk_58 : zeroOk Try.prog 58 = true := by kernel_rfl

theorem bytes_58 : Try.prog.bytesOf 58 = 120 := by kernel_rfl

theorem zeroV_58 : zeroV Try.prog 58 = [Value.int .i64 0, Value.int .i64 0, Value.int .i64 0, Value.int .i64 0, Value.int .i64 0, Value.int .i64 0, Value.int .i64 0, Value.int .i64 0, Value.int .i64 0, Value.int .i64 0, Value.int .i64 0, Value.int .i64 0, Value.int .i64 0, Value.int .i64 0, Value.int .i64 0] := by kernel_rfl

theorem cells_59 : Try.prog.cellsOf 59 = 15 := by kernel_rfl

theorem zeroOk_59 : zeroOk Try.prog 59 = true := by kernel_rfl

theorem bytes_59 : Try.prog.bytesOf 59 = 120 := by kernel_rfl

theorem zeroV_59 : zeroV Try.prog 59 = [Value.int .i64 0, Value.int .i64 0, Value.int .i64 0, Value.int .i64 0, Value.int .i64 0, Value.int .i64 0, Value.int .i64 0, Value.int .i64 0, Value.int .i64 0, Value.int .i64 0, Value.int .i64 0, Value.int .i64 0, Value.int .i64 0, Value.int .i64 0, Value.int .i64 0] := by kernel_rfl

theorem cells_60 : Try.prog.cellsOf 60 = 1 := by kernel_rfl

theorem zeroOk_60 : zeroOk Try.prog 60 = true := by kernel_rfl

theorem bytes_60 : Try.prog.bytesOf 60 = 8 := by kernel_rfl

theorem cells_61 : Try.prog.cellsOf 61 = 1 := by kernel_rfl

theorem zeroOk_61 : zeroOk Try.prog 61 = true := by kernel_rfl

theorem bytes_61 : Try.prog.bytesOf 61 = 8 := by kernel_rfl

theorem cells_62 : Try.prog.cellsOf 62 = 1 := by kernel_rfl

theorem zeroOk_62 : zeroOk Try.prog 62 = true := by kernel_rfl

theorem bytes_62 : Try.prog.bytesOf 62 = 8 := by kernel_rfl

theorem cells_63 : Try.prog.cellsOf 63 = 1 := by kernel_rfl

theorem zeroOk_63 : zeroOk Try.prog 63 = true := by kernel_rfl

theorem bytes_63 : Try.prog.bytesOf 63 = 8 := by kernel_rfl

theorem cells_64 : Try.prog.cellsOf 64 = 1 := by kernel_rfl

theorem zeroOk_64 : zeroOk Try.prog 64 = true := by kernel_rfl

theorem bytes_64 : Try.prog.bytesOf 64 = 8 := by kernel_rfl

theorem cells_65 : Try.prog.cellsOf 65 = 1 := by kernel_rfl

theorem zeroOk_65 : zeroOk Try.prog 65 = true := by kernel_rfl

theorem bytes_65 : Try.prog.bytesOf 65 = 8 := by kernel_rfl

theorem cells_67 : Try.prog.cellsOf 67 = 1 := by kernel_rfl

theorem zeroOk_67 : zeroOk Try.prog 67 = true := by kernel_rfl

theorem bytes_67 : Try.prog.bytesOf 67 = 8 := by kernel_rfl

theorem cells_68 : Try.prog.cellsOf 68 = 1 := by kernel_rfl

theorem zeroOk_68 : zeroOk Try.prog 68 = true := by kernel_rfl

theorem bytes_68 : Try.prog.bytesOf 68 = 8 := by kernel_rfl

theorem cells_69 : Try.prog.cellsOf 69 = 1 := by kernel_rfl

theorem zeroOk_69 : zeroOk Try.prog 69 = true := by kernel_rfl

theorem bytes_69 : Try.prog.bytesOf 69 = 8 := by kernel_rfl

theorem cells_71 : Try.prog.cellsOf 71 = 1 := by kernel_rfl

theorem zeroOk_71 : zeroOk Try.prog 71 = true := by kernel_rfl

theorem bytes_71 : Try.prog.bytesOf 71 = 8 := by kernel_rfl

theorem cells_72 : Try.prog.cellsOf 72 = 1 := by kernel_rfl

theorem zeroOk_72 : zeroOk Try.prog 72 = true := by kernel_rfl

theorem bytes_72 : Try.prog.bytesOf 72 = 8 := by kernel_rfl

theorem cells_73 : Try.prog.cellsOf 73 = 1 := by kernel_rfl

theorem zeroOk_73 : zeroOk Try.prog 73 = true := by kernel_rfl

theorem bytes_73 : Try.prog.bytesOf 73 = 8 := by kernel_rfl

theorem cells_74 : Try.prog.cellsOf 74 = 1 := by kernel_rfl

theorem zeroOk_74 : zeroOk Try.prog 74 = true := by kernel_rfl

theorem bytes_74 : Try.prog.bytesOf 74 = 8 := by kernel_rfl

theorem cells_75 : Try.prog.cellsOf 75 = 1 := by kernel_rfl

theorem zeroOk_75 : zeroOk Try.prog 75 = true := by kernel_rfl

theorem bytes_75 : Try.prog.bytesOf 75 = 8 := by kernel_rfl

theorem cells_76 : Try.prog.cellsOf 76 = 1 := by kernel_rfl

theorem zeroOk_76 : zeroOk Try.prog 76 = true := by kernel_rfl

theorem bytes_76 : Try.prog.bytesOf 76 = 8 := by kernel_rfl

theorem cells_77 : Try.prog.cellsOf 77 = 1 := by kernel_rfl

theorem zeroOk_77 : zeroOk Try.prog 77 = true := by kernel_rfl

theorem bytes_77 : Try.prog.bytesOf 77 = 8 := by kernel_rfl

theorem cells_78 : Try.prog.cellsOf 78 = 1 := by kernel_rfl

theorem zeroOk_78 : zeroOk Try.prog 78 = true := by kernel_rfl

theorem bytes_78 : Try.prog.bytesOf 78 = 8 := by kernel_rfl

theorem cells_79 : Try.prog.cellsOf 79 = 1 := by kernel_rfl

theorem zeroOk_79 : zeroOk Try.prog 79 = true := by kernel_rfl

theorem bytes_79 : Try.prog.bytesOf 79 = 8 := by kernel_rfl

theorem cells_80 : Try.prog.cellsOf 80 = 1 := by kernel_rfl

theorem zeroOk_80 : zeroOk Try.prog 80 = true := by kernel_rfl

theorem bytes_80 : Try.prog.bytesOf 80 = 8 := by kernel_rfl

theorem cells_81 : Try.prog.cellsOf 81 = 1 := by kernel_rfl

theorem zeroOk_81 : zeroOk Try.prog 81 = true := by kernel_rfl

theorem bytes_81 : Try.prog.bytesOf 81 = 8 := by kernel_rfl

theorem cells_82 : Try.prog.cellsOf 82 = 1 := by kernel_rfl

theorem zeroOk_82 : zeroOk Try.prog 82 = true := by kernel_rfl

theorem bytes_82 : Try.prog.bytesOf 82 = 8 := by kernel_rfl

theorem cells_83 : Try.prog.cellsOf 83 = 1 := by kernel_rfl

theorem zeroOk_83 : zeroOk Try.prog 83 = true := by kernel_rfl

theorem bytes_83 : Try.prog.bytesOf 83 = 8 := by kernel_rfl

theorem cells_84 : Try.prog.cellsOf 84 = 1 := by kernel_rfl

theorem zeroOk_84 : zeroOk Try.prog 84 = true := by kernel_rfl

theorem bytes_84 : Try.prog.bytesOf 84 = 8 := by kernel_rfl

theorem cells_85 : Try.prog.cellsOf 85 = 1 := by kernel_rfl

theorem zeroOk_85 : zeroOk Try.prog 85 = true := by kernel_rfl

theorem bytes_85 : Try.prog.bytesOf 85 = 8 := by kernel_rfl

theorem cells_86 : Try.prog.cellsOf 86 = 1 := by kernel_rfl

theorem zeroOk_86 : zeroOk Try.prog 86 = true := by kernel_rfl

theorem bytes_86 : Try.prog.bytesOf 86 = 8 := by kernel_rfl

theorem cells_87 : Try.prog.cellsOf 87 = 1 := by kernel_rfl

theorem zeroOk_87 : zeroOk Try.prog 87 = true := by kernel_rfl

theorem bytes_87 : Try.prog.bytesOf 87 = 8 := by kernel_rfl

theorem cells_88 : Try.prog.cellsOf 88 = 1 := by kernel_rfl

theorem zeroOk_88 : zeroOk Try.prog 88 = true := by kernel_rfl

theorem bytes_88 : Try.prog.bytesOf 88 = 24 := by kernel_rfl

theorem zeroV_88 : zeroV Try.prog 88 = [Value.slice none 0 0] := by kernel_rfl

theorem cells_89 : Try.prog.cellsOf 89 = 1 := by kernel_rfl

theorem zeroOk_89 : zeroOk Try.prog 89 = true := by kernel_rfl

theorem bytes_89 : Try.prog.bytesOf 89 = 8 := by kernel_rfl

theorem cells_90 : Try.prog.cellsOf 90 = 2 := by kernel_rfl

theorem zeroOk_90 : zeroOk Try.prog 90 = true := by kernel_rfl

theorem bytes_90 : Try.prog.bytesOf 90 = 16 := by kernel_rfl

theorem zeroV_90 : zeroV Try.prog 90 = [Value.int .i64 0, Value.int .i64 0] := by kernel_rfl

theorem cells_91 : Try.prog.cellsOf 91 = 1 := by kernel_rfl

theorem zeroOk_91 : zeroOk Try.prog 91 = true := by kernel_rfl

theorem bytes_91 : Try.prog.bytesOf 91 = 8 := by kernel_rfl

theorem cells_92 : Try.prog.cellsOf 92 = 1 := by kernel_rfl

theorem zeroOk_92 : zeroOk Try.prog 92 = true := by kernel_rfl

theorem bytes_92 : Try.prog.bytesOf 92 = 8 := by kernel_rfl

theorem cells_93 : Try.prog.cellsOf 93 = 1 := by kernel_rfl

theorem zeroOk_93 : zeroOk Try.prog 93 = true := by kernel_rfl

theorem bytes_93 : Try.prog.bytesOf 93 = 8 := by kernel_rfl

theorem cells_94 : Try.prog.cellsOf 94 = 1 := by kernel_rfl

theorem zeroOk_94 : zeroOk Try.prog 94 = true := by kernel_rfl

theorem bytes_94 : Try.prog.bytesOf 94 = 8 := by kernel_rfl

theorem cells_96 : Try.prog.cellsOf 96 = 1 := by kernel_rfl

theorem zeroOk_96 : zeroOk Try.prog 96 = true := by kernel_rfl

theorem bytes_96 : Try.prog.bytesOf 96 = 8 := by kernel_rfl

theorem cells_97 : Try.prog.cellsOf 97 = 1 := by kernel_rfl

theorem zeroOk_97 : zeroOk Try.prog 97 = true := by kernel_rfl

theorem bytes_97 : Try.prog.bytesOf 97 = 8 := by kernel_rfl

theorem cells_98 : Try.prog.cellsOf 98 = 3 := by kernel_rfl

theorem zeroOk_98 : zeroOk Try.prog 98 = true := by kernel_rfl

theorem bytes_98 : Try.prog.bytesOf 98 = 24 := by kernel_rfl

theorem zeroV_98 : zeroV Try.prog 98 = [Value.int .i64 0, Value.int .i64 0, Value.int .i64 0] := by kernel_rfl

theorem cells_99 : Try.prog.cellsOf 99 = 3 := by kernel_rfl

theorem zeroOk_99 : zeroOk Try.prog 99 = true := by kernel_rfl

theorem bytes_99 : Try.prog.bytesOf 99 = 24 := by kernel_rfl

theorem zeroV_99 : zeroV Try.prog 99 = [Value.int .i64 0, Value.int .i64 0, Value.int .i64 0] := by kernel_rfl

theorem cells_100 : Try.prog.cellsOf 100 = 1 := by kernel_rfl

theorem zeroOk_100 : zeroOk Try.prog 100 = true := by kernel_rfl

theorem bytes_100 : Try.prog.bytesOf 100 = 8 := by kernel_rfl

theorem cells_101 : Try.prog.cellsOf 101 = 1 := by kernel_rfl

theorem zeroOk_101 : zeroOk Try.prog 101 = true := by kernel_rfl

theorem bytes_101 : Try.prog.bytesOf 101 = 8 := by kernel_rfl

theorem cells_103 : Try.prog.cellsOf 103 = 1 := by kernel_rfl

theorem zeroOk_103 : zeroOk Try.prog 103 = true := by kernel_rfl

theorem bytes_103 : Try.prog.bytesOf 103 = 8 := by kernel_rfl

theorem cells_104 : Try.prog.cellsOf 104 = 1 := by kernel_rfl

theorem zeroOk_104 : zeroOk Try.prog 104 = true := by kernel_rfl

theorem bytes_104 : Try.prog.bytesOf 104 = 8 := by kernel_rfl

theorem cells_105 : Try.prog.cellsOf 105 = 1 := by kernel_rfl

theorem zeroOk_105 : zeroOk Try.prog 105 = true := by kernel_rfl

theorem bytes_105 : Try.prog.bytesOf 105 = 8 := by kernel_rfl

theorem cells_106 : Try.prog.cellsOf 106 = 1 := by kernel_rfl

theorem zeroOk_106 : zeroOk Try.prog 106 = true := by kernel_rfl

theorem bytes_106 : Try.prog.bytesOf 106 = 8 := by kernel_rfl

theorem cells_107 : Try.prog.cellsOf 107 = 1 := by kernel_rfl

theorem zeroOk_107 : zeroOk Try.prog 107 = true := by kernel_rfl

theorem bytes_107 : Try.prog.bytesOf 107 = 8 := by kernel_rfl

theorem cells_108 : Try.prog.cellsOf 108 = 1 := by kernel_rfl

theorem zeroOk_108 : zeroOk Try.prog 108 = true := by kernel_rfl

theorem bytes_108 : Try.prog.bytesOf 108 = 8 := by kernel_rfl

theorem cells_109 : Try.prog.cellsOf 109 = 1 := by kernel_rfl

theorem zeroOk_109 : zeroOk Try.prog 109 = true := by kernel_rfl

theorem bytes_109 : Try.prog.bytesOf 109 = 8 := by kernel_rfl

theorem cells_110 : Try.prog.cellsOf 110 = 1 := by kernel_rfl

theorem zeroOk_110 : zeroOk Try.prog 110 = true := by kernel_rfl

theorem bytes_110 : Try.prog.bytesOf 110 = 8 := by kernel_rfl

theorem cells_111 : Try.prog.cellsOf 111 = 1 := by kernel_rfl

theorem zeroOk_111 : zeroOk Try.prog 111 = true := by kernel_rfl

theorem bytes_111 : Try.prog.bytesOf 111 = 8 := by kernel_rfl

theorem cells_112 : Try.prog.cellsOf 112 = 1 := by kernel_rfl

theorem zeroOk_112 : zeroOk Try.prog 112 = true := by kernel_rfl

theorem bytes_112 : Try.prog.bytesOf 112 = 8 := by kernel_rfl

theorem cells_113 : Try.prog.cellsOf 113 = 1 := by kernel_rfl

theorem zeroOk_113 : zeroOk Try.prog 113 = true := by kernel_rfl

theorem bytes_113 : Try.prog.bytesOf 113 = 8 := by kernel_rfl

theorem cells_114 : Try.prog.cellsOf 114 = 1 := by kernel_rfl

theorem zeroOk_114 : zeroOk Try.prog 114 = true := by kernel_rfl

theorem bytes_114 : Try.prog.bytesOf 114 = 8 := by kernel_rfl

theorem cells_115 : Try.prog.cellsOf 115 = 1 := by kernel_rfl

theorem zeroOk_115 : zeroOk Try.prog 115 = true := by kernel_rfl

theorem bytes_115 : Try.prog.bytesOf 115 = 8 := by kernel_rfl

theorem zeroV_115 : zeroV Try.prog 115 = [Value.int .u64 0] := by kernel_rfl

theorem cells_116 : Try.prog.cellsOf 116 = 1 := by kernel_rfl

theorem zeroOk_116 : zeroOk Try.prog 116 = true := by kernel_rfl

theorem bytes_116 : Try.prog.bytesOf 116 = 8 := by kernel_rfl

theorem cells_117 : Try.prog.cellsOf 117 = 1 := by kernel_rfl

theorem zeroOk_117 : zeroOk Try.prog 117 = true := by kernel_rfl

theorem bytes_117 : Try.prog.bytesOf 117 = 8 := by kernel_rfl

theorem cells_118 : Try.prog.cellsOf 118 = 1 := by kernel_rfl

theorem zeroOk_118 : zeroOk Try.prog 118 = true := by kernel_rfl

theorem bytes_118 : Try.prog.bytesOf 118 = 8 := by kernel_rfl

theorem cells_119 : Try.prog.cellsOf 119 = 1 := by kernel_rfl

theorem zeroOk_119 : zeroOk Try.prog 119 = true := by kernel_rfl

theorem bytes_119 : Try.prog.bytesOf 119 = 8 := by kernel_rfl

theorem cells_120 : Try.prog.cellsOf 120 = 1 := by kernel_rfl

theorem zeroOk_120 : zeroOk Try.prog 120 = true := by kernel_rfl

theorem bytes_120 : Try.prog.bytesOf 120 = 8 := by kernel_rfl

theorem cells_121 : Try.prog.cellsOf 121 = 1 := by kernel_rfl

theorem zeroOk_121 : zeroOk Try.prog 121 = true := by kernel_rfl

theorem bytes_121 : Try.prog.bytesOf 121 = 24 := by kernel_rfl

theorem zeroV_121 : zeroV Try.prog 121 = [Value.slice none 0 0] := by kernel_rfl

theorem cells_122 : Try.prog.cellsOf 122 = 1 := by kernel_rfl

theorem zeroOk_122 : zeroOk Try.prog 122 = true := by kernel_rfl

theorem bytes_122 : Try.prog.bytesOf 122 = 24 := by kernel_rfl

theorem zeroV_122 : zeroV Try.prog 122 = [Value.slice none 0 0] := by kernel_rfl

theorem cells_123 : Try.prog.cellsOf 123 = 1 := by kernel_rfl

theorem zeroOk_123 : zeroOk Try.prog 123 = true := by kernel_rfl

theorem bytes_123 : Try.prog.bytesOf 123 = 8 := by kernel_rfl

theorem cells_124 : Try.prog.cellsOf 124 = 1 := by kernel_rfl

theorem zeroOk_124 : zeroOk Try.prog 124 = true := by kernel_rfl

theorem bytes_124 : Try.prog.bytesOf 124 = 8 := by kernel_rfl

theorem cells_125 : Try.prog.cellsOf 125 = 1 := by kernel_rfl

theorem zeroOk_125 : zeroOk Try.prog 125 = true := by kernel_rfl

theorem bytes_125 : Try.prog.bytesOf 125 = 8 := by kernel_rfl

theorem cells_126 : Try.prog.cellsOf 126 = 1 := by kernel_rfl

theorem zeroOk_126 : zeroOk Try.prog 126 = true := by kernel_rfl

theorem bytes_126 : Try.prog.bytesOf 126 = 8 := by kernel_rfl

theorem cells_127 : Try.prog.cellsOf 127 = 1 := by kernel_rfl

theorem zeroOk_127 : zeroOk Try.prog 127 = true := by kernel_rfl

theorem bytes_127 : Try.prog.bytesOf 127 = 8 := by kernel_rfl

theorem cells_128 : Try.prog.cellsOf 128 = 1 := by kernel_rfl

theorem zeroOk_128 : zeroOk Try.prog 128 = true := by kernel_rfl

theorem bytes_128 : Try.prog.bytesOf 128 = 8 := by kernel_rfl

theorem cells_129 : Try.prog.cellsOf 129 = 1 := by kernel_rfl

theorem zeroOk_129 : zeroOk Try.prog 129 = true := by kernel_rfl

theorem bytes_129 : Try.prog.bytesOf 129 = 8 := by kernel_rfl

theorem cells_130 : Try.prog.cellsOf 130 = 1 := by kernel_rfl

theorem zeroOk_130 : zeroOk Try.prog 130 = true := by kernel_rfl

theorem bytes_130 : Try.prog.bytesOf 130 = 4 := by kernel_rfl

theorem zeroV_130 : zeroV Try.prog 130 = [Value.int .u32 0] := by kernel_rfl

theorem cells_131 : Try.prog.cellsOf 131 = 1 := by kernel_rfl

theorem zeroOk_131 : zeroOk Try.prog 131 = true := by kernel_rfl

theorem bytes_131 : Try.prog.bytesOf 131 = 8 := by kernel_rfl

theorem cells_132 : Try.prog.cellsOf 132 = 1 := by kernel_rfl

theorem zeroOk_132 : zeroOk Try.prog 132 = true := by kernel_rfl

theorem bytes_132 : Try.prog.bytesOf 132 = 8 := by kernel_rfl

theorem zeroV_132 : zeroV Try.prog 132 = [Value.int .u64 0] := by kernel_rfl

theorem cells_133 : Try.prog.cellsOf 133 = 1 := by kernel_rfl

theorem zeroOk_133 : zeroOk Try.prog 133 = true := by kernel_rfl

theorem bytes_133 : Try.prog.bytesOf 133 = 8 := by kernel_rfl

theorem cells_134 : Try.prog.cellsOf 134 = 1 := by kernel_rfl

theorem zeroOk_134 : zeroOk Try.prog 134 = true := by kernel_rfl

theorem bytes_134 : Try.prog.bytesOf 134 = 8 := by kernel_rfl

theorem cells_135 : Try.prog.cellsOf 135 = 1 := by kernel_rfl

theorem zeroOk_135 : zeroOk Try.prog 135 = true := by kernel_rfl

theorem bytes_135 : Try.prog.bytesOf 135 = 24 := by kernel_rfl

theorem zeroV_135 : zeroV Try.prog 135 = [Value.slice none 0 0] := by kernel_rfl

theorem cells_136 : Try.prog.cellsOf 136 = 1 := by kernel_rfl

theorem zeroOk_136 : zeroOk Try.prog 136 = true := by kernel_rfl

theorem bytes_136 : Try.prog.bytesOf 136 = 8 := by kernel_rfl

theorem cells_137 : Try.prog.cellsOf 137 = 1 := by kernel_rfl

theorem zeroOk_137 : zeroOk Try.prog 137 = true := by kernel_rfl

theorem bytes_137 : Try.prog.bytesOf 137 = 8 := by kernel_rfl

theorem cells_138 : Try.prog.cellsOf 138 = 4 := by kernel_rfl

theorem zeroOk_138 : zeroOk Try.prog 138 = true := by kernel_rfl

theorem bytes_138 : Try.prog.bytesOf 138 = 40 := by kernel_rfl

theorem zeroV_138 : zeroV Try.prog 138 = [Value.pointer none, Value.pointer none, Value.pointer none, Value.string ⟨#[]⟩] := by kernel_rfl

theorem cells_139 : Try.prog.cellsOf 139 = 4 := by kernel_rfl

theorem zeroOk_139 : zeroOk Try.prog 139 = true := by kernel_rfl

theorem bytes_139 : Try.prog.bytesOf 139 = 40 := by kernel_rfl

theorem zeroV_139 : zeroV Try.prog 139 = [Value.pointer none, Value.pointer none, Value.pointer none, Value.string ⟨#[]⟩] := by kernel_rfl

theorem cells_140 : Try.prog.cellsOf 140 = 0 := by kernel_rfl

theorem zeroOk_140 : zeroOk Try.prog 140 = true := by kernel_rfl

theorem bytes_140 : Try.prog.bytesOf 140 = 0 := by kernel_rfl

theorem zeroV_140 : zeroV Try.prog 140 = [] := by kernel_rfl

theorem cells_141 : Try.prog.cellsOf 141 = 0 := by kernel_rfl

theorem zeroOk_141 : zeroOk Try.prog 141 = true := by kernel_rfl

theorem bytes_141 : Try.prog.bytesOf 141 = 0 := by kernel_rfl

theorem zeroV_141 : zeroV Try.prog 141 = [] := by kernel_rfl

theorem cells_142 : Try.prog.cellsOf 142 = 0 := by kernel_rfl

theorem zeroOk_142 : zeroOk Try.prog 142 = true := by kernel_rfl

theorem bytes_142 : Try.prog.bytesOf 142 = 0 := by kernel_rfl

theorem zeroV_142 : zeroV Try.prog 142 = [] := by kernel_rfl

theorem cells_143 : Try.prog.cellsOf 143 = 1 := by kernel_rfl

theorem zeroOk_143 : zeroOk Try.prog 143 = true := by kernel_rfl

theorem bytes_143 : Try.prog.bytesOf 143 = 1 := by kernel_rfl

theorem zeroV_143 : zeroV Try.prog 143 = [Value.int .u8 0] := by kernel_rfl

theorem cells_144 : Try.prog.cellsOf 144 = 1 := by kernel_rfl

theorem zeroOk_144 : zeroOk Try.prog 144 = true := by kernel_rfl

theorem bytes_144 : Try.prog.bytesOf 144 = 1 := by kernel_rfl

theorem zeroV_144 : zeroV Try.prog 144 = [Value.int .u8 0] := by kernel_rfl

theorem cells_145 : Try.prog.cellsOf 145 = 1 := by kernel_rfl

theorem zeroOk_145 : zeroOk Try.prog 145 = true := by kernel_rfl

theorem bytes_145 : Try.prog.bytesOf 145 = 8 := by kernel_rfl

theorem cells_146 : Try.prog.cellsOf 146 = 1 := by kernel_rfl

theorem zeroOk_146 : zeroOk Try.prog 146 = true := by kernel_rfl

theorem bytes_146 : Try.prog.bytesOf 146 = 8 := by kernel_rfl

theorem zeroV_146 : zeroV Try.prog 146 = [Value.pointer none] := by kernel_rfl

theorem cells_147 : Try.prog.cellsOf 147 = 1 := by kernel_rfl

theorem zeroOk_147 : zeroOk Try.prog 147 = true := by kernel_rfl

theorem bytes_147 : Try.prog.bytesOf 147 = 4 := by kernel_rfl

theorem zeroV_147 : zeroV Try.prog 147 = [Value.int .i32 0] := by kernel_rfl

theorem cells_148 : Try.prog.cellsOf 148 = 1 := by kernel_rfl

theorem zeroOk_148 : zeroOk Try.prog 148 = true := by kernel_rfl

theorem bytes_148 : Try.prog.bytesOf 148 = 4 := by kernel_rfl

theorem zeroV_148 : zeroV Try.prog 148 = [Value.int .i32 0] := by kernel_rfl

theorem cells_149 : Try.prog.cellsOf 149 = 11 := by kernel_rfl

theorem zeroOk_149 : zeroOk Try.prog 149 = true := by kernel_rfl

theorem bytes_149 : Try.prog.bytesOf 149 = 48 := by kernel_rfl

theorem cells_150 : Try.prog.cellsOf 150 = 11 := by kernel_rfl

theorem zeroOk_150 : zeroOk Try.prog 150 = true := by kernel_rfl

theorem bytes_150 : Try.prog.bytesOf 150 = 48 := by kernel_rfl

theorem seq_27 : StructEq Try.prog 27 4 = True := eq_true (structEq_of (by kernel_rfl) (by kernel_rfl) (by kernel_rfl) (by kernel_rfl))

theorem seq_57 : StructEq Try.prog 57 4 = True := eq_true (structEq_of (by kernel_rfl) (by kernel_rfl) (by kernel_rfl) (by kernel_rfl))

theorem seq_59 : StructEq Try.prog 59 15 = True := eq_true (structEq_of (by kernel_rfl) (by kernel_rfl) (by kernel_rfl) (by kernel_rfl))

theorem seq_99 : StructEq Try.prog 99 3 = True := eq_true (structEq_of (by kernel_rfl) (by kernel_rfl) (by kernel_rfl) (by kernel_rfl))

end Go.Proofs.Ytaegdaimjhhgpaa
