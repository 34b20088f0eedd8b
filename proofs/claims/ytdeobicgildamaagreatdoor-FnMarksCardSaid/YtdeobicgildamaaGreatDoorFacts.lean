/- How many cells a value of each type has. -/
import Derived.Test.YtdeobicgildamaaGreatDoorRows
import Derived.Test.YtdeobicgildamaaGreatDoorFlowS
import Derived.Test.YtdeobicgildamaaGreatDoorGlob
import Derived.WalkKit
import Derived.WalkSpells
import Derived.KernelRfl
namespace Go.Proofs.YtdeobicgildamaaGreatDoor
open Go.RowKit
set_option linter.unusedVariables false
set_option linter.unusedSimpArgs false

theorem cells_1 : Tryz.prog.cellsOf 1 = 1 := by kernel_rfl

theorem zeroOk_1 : zeroOk Tryz.prog 1 = true := by kernel_rfl

theorem bytes_1 : Tryz.prog.bytesOf 1 = 8 := by kernel_rfl

theorem cells_2 : Tryz.prog.cellsOf 2 = 1 := by kernel_rfl

theorem zeroOk_2 : zeroOk Tryz.prog 2 = true := by kernel_rfl

theorem bytes_2 : Tryz.prog.bytesOf 2 = 8 := by kernel_rfl

theorem zeroOf_2 : zeroOf Tryz.prog 2 = some (Value.int .i64 0) := by kernel_rfl

theorem zeroV_2 : zeroV Tryz.prog 2 = [Value.int .i64 0] := by kernel_rfl

theorem cells_3 : Tryz.prog.cellsOf 3 = 1 := by kernel_rfl

theorem zeroOk_3 : zeroOk Tryz.prog 3 = true := by kernel_rfl

theorem bytes_3 : Tryz.prog.bytesOf 3 = 8 := by kernel_rfl

theorem zeroOf_3 : zeroOf Tryz.prog 3 = some (Value.int .i64 0) := by kernel_rfl

theorem zeroV_3 : zeroV Tryz.prog 3 = [Value.int .i64 0] := by kernel_rfl

theorem cells_4 : Tryz.prog.cellsOf 4 = 1 := by kernel_rfl

theorem zeroOk_4 : zeroOk Tryz.prog 4 = true := by kernel_rfl

theorem bytes_4 : Tryz.prog.bytesOf 4 = 1 := by kernel_rfl

theorem zeroOf_4 : zeroOf Tryz.prog 4 = some (Value.bool false) := by kernel_rfl

theorem zeroV_4 : zeroV Tryz.prog 4 = [Value.bool false] := by kernel_rfl

theorem cells_5 : Tryz.prog.cellsOf 5 = 1 := by kernel_rfl

theorem zeroOk_5 : zeroOk Tryz.prog 5 = true := by kernel_rfl

theorem bytes_5 : Tryz.prog.bytesOf 5 = 1 := by kernel_rfl

theorem zeroOf_5 : zeroOf Tryz.prog 5 = some (Value.int .u8 0) := by kernel_rfl

theorem zeroV_5 : zeroV Tryz.prog 5 = [Value.int .u8 0] := by kernel_rfl

theorem cells_6 : Tryz.prog.cellsOf 6 = 1 := by kernel_rfl

theorem zeroOk_6 : zeroOk Tryz.prog 6 = true := by kernel_rfl

theorem bytes_6 : Tryz.prog.bytesOf 6 = 1 := by kernel_rfl

theorem zeroV_6 : zeroV Tryz.prog 6 = [Value.int .u8 0] := by kernel_rfl

theorem cells_7 : Tryz.prog.cellsOf 7 = 4 := by kernel_rfl

theorem zeroOk_7 : zeroOk Tryz.prog 7 = true := by kernel_rfl

theorem bytes_7 : Tryz.prog.bytesOf 7 = 24 := by kernel_rfl

theorem zeroV_7 : zeroV Tryz.prog 7 = [Value.int .i64 0, Value.int .i64 0, Value.bool false, Value.int .u8 0] := by kernel_rfl

theorem cells_8 : Tryz.prog.cellsOf 8 = 4 := by kernel_rfl

theorem zeroOk_8 : zeroOk Tryz.prog 8 = true := by kernel_rfl

theorem bytes_8 : Tryz.prog.bytesOf 8 = 24 := by kernel_rfl

theorem zeroV_8 : zeroV Tryz.prog 8 = [Value.int .i64 0, Value.int .i64 0, Value.bool false, Value.int .u8 0] := by kernel_rfl

theorem cells_9 : Tryz.prog.cellsOf 9 = 1 := by kernel_rfl

theorem zeroOk_9 : zeroOk Tryz.prog 9 = true := by kernel_rfl

theorem bytes_9 : Tryz.prog.bytesOf 9 = 16 := by kernel_rfl

theorem zeroV_9 : zeroV Tryz.prog 9 = [Value.string ⟨#[]⟩] := by kernel_rfl

theorem cells_10 : Tryz.prog.cellsOf 10 = 1 := by kernel_rfl

theorem zeroOk_10 : zeroOk Tryz.prog 10 = true := by kernel_rfl

theorem bytes_10 : Tryz.prog.bytesOf 10 = 16 := by kernel_rfl

theorem zeroV_10 : zeroV Tryz.prog 10 = [Value.string ⟨#[]⟩] := by kernel_rfl

theorem cells_11 : Tryz.prog.cellsOf 11 = 1 := by kernel_rfl

theorem zeroOk_11 : zeroOk Tryz.prog 11 = true := by kernel_rfl

theorem bytes_11 : Tryz.prog.bytesOf 11 = 16 := by kernel_rfl

theorem zeroV_11 : zeroV Tryz.prog 11 = [Value.string ⟨#[]⟩] := by kernel_rfl

theorem cells_12 : Tryz.prog.cellsOf 12 = 1 := by kernel_rfl

theorem zeroOk_12 : zeroOk Tryz.prog 12 = true := by kernel_rfl

theorem bytes_12 : Tryz.prog.bytesOf 12 = 8 := by kernel_rfl

theorem zeroOf_12 : zeroOf Tryz.prog 12 = some (Value.int .u64 0) := by kernel_rfl

theorem zeroV_12 : zeroV Tryz.prog 12 = [Value.int .u64 0] := by kernel_rfl

theorem cells_13 : Tryz.prog.cellsOf 13 = 2 := by kernel_rfl

theorem zeroOk_13 : zeroOk Tryz.prog 13 = true := by kernel_rfl

theorem bytes_13 : Tryz.prog.bytesOf 13 = 24 := by kernel_rfl

theorem zeroV_13 : zeroV Tryz.prog 13 = [Value.string ⟨#[]⟩, Value.int .u64 0] := by kernel_rfl

theorem cells_14 : Tryz.prog.cellsOf 14 = 2 := by kernel_rfl

theorem zeroOk_14 : zeroOk Tryz.prog 14 = true := by kernel_rfl

theorem bytes_14 : Tryz.prog.bytesOf 14 = 24 := by kernel_rfl

theorem zeroV_14 : zeroV Tryz.prog 14 = [Value.string ⟨#[]⟩, Value.int .u64 0] := by kernel_rfl

theorem cells_15 : Tryz.prog.cellsOf 15 = 1 := by kernel_rfl

theorem zeroOk_15 : zeroOk Tryz.prog 15 = true := by kernel_rfl

theorem bytes_15 : Tryz.prog.bytesOf 15 = 8 := by kernel_rfl

theorem zeroV_15 : zeroV Tryz.prog 15 = [Value.pointer none] := by kernel_rfl

theorem cells_16 : Tryz.prog.cellsOf 16 = 1 := by kernel_rfl

theorem zeroOk_16 : zeroOk Tryz.prog 16 = true := by kernel_rfl

theorem bytes_16 : Tryz.prog.bytesOf 16 = 8 := by kernel_rfl

theorem zeroV_16 : zeroV Tryz.prog 16 = [Value.pointer none] := by kernel_rfl

theorem cells_17 : Tryz.prog.cellsOf 17 = 1 := by kernel_rfl

theorem zeroOk_17 : zeroOk Tryz.prog 17 = true := by kernel_rfl

theorem bytes_17 : Tryz.prog.bytesOf 17 = 8 := by kernel_rfl

theorem zeroV_17 : zeroV Tryz.prog 17 = [Value.pointer none] := by kernel_rfl

theorem cells_18 : Tryz.prog.cellsOf 18 = 1 := by kernel_rfl

theorem zeroOk_18 : zeroOk Tryz.prog 18 = true := by kernel_rfl

theorem bytes_18 : Tryz.prog.bytesOf 18 = 8 := by kernel_rfl

theorem zeroV_18 : zeroV Tryz.prog 18 = [Value.pointer none] := by kernel_rfl

theorem cells_19 : Tryz.prog.cellsOf 19 = 1 := by kernel_rfl

theorem zeroOk_19 : zeroOk Tryz.prog 19 = true := by kernel_rfl

theorem bytes_19 : Tryz.prog.bytesOf 19 = 8 := by kernel_rfl

theorem zeroV_19 : zeroV Tryz.prog 19 = [Value.pointer none] := by kernel_rfl

theorem cells_21 : Tryz.prog.cellsOf 21 = 1 := by kernel_rfl

theorem zeroOk_21 : zeroOk Tryz.prog 21 = true := by kernel_rfl

theorem bytes_21 : Tryz.prog.bytesOf 21 = 4 := by kernel_rfl

theorem zeroOf_21 : zeroOf Tryz.prog 21 = some (Value.int .i32 0) := by kernel_rfl

theorem zeroV_21 : zeroV Tryz.prog 21 = [Value.int .i32 0] := by kernel_rfl

theorem cells_22 : Tryz.prog.cellsOf 22 = 1 := by kernel_rfl

theorem zeroOk_22 : zeroOk Tryz.prog 22 = true := by kernel_rfl

theorem bytes_22 : Tryz.prog.bytesOf 22 = 24 := by kernel_rfl

theorem zeroV_22 : zeroV Tryz.prog 22 = [Value.slice none 0 0] := by kernel_rfl

theorem cells_23 : Tryz.prog.cellsOf 23 = 1 := by kernel_rfl

theorem zeroOk_23 : zeroOk Tryz.prog 23 = true := by kernel_rfl

theorem bytes_23 : Tryz.prog.bytesOf 23 = 8 := by kernel_rfl

theorem cells_24 : Tryz.prog.cellsOf 24 = 1 := by kernel_rfl

theorem zeroOk_24 : zeroOk Tryz.prog 24 = true := by kernel_rfl

theorem bytes_24 : Tryz.prog.bytesOf 24 = 24 := by kernel_rfl

theorem zeroV_24 : zeroV Tryz.prog 24 = [Value.slice none 0 0] := by kernel_rfl

theorem cells_25 : Tryz.prog.cellsOf 25 = 1 := by kernel_rfl

theorem zeroOk_25 : zeroOk Tryz.prog 25 = true := by kernel_rfl

theorem bytes_25 : Tryz.prog.bytesOf 25 = 8 := by kernel_rfl

theorem cells_27 : Tryz.prog.cellsOf 27 = 1 := by kernel_rfl

theorem zeroOk_27 : zeroOk Tryz.prog 27 = true := by kernel_rfl

theorem bytes_27 : Tryz.prog.bytesOf 27 = 8 := by kernel_rfl

theorem cells_29 : Tryz.prog.cellsOf 29 = 1 := by kernel_rfl

theorem zeroOk_29 : zeroOk Tryz.prog 29 = true := by kernel_rfl

theorem bytes_29 : Tryz.prog.bytesOf 29 = 8 := by kernel_rfl

theorem cells_30 : Tryz.prog.cellsOf 30 = 1 := by kernel_rfl

theorem zeroOk_30 : zeroOk Tryz.prog 30 = true := by kernel_rfl

theorem bytes_30 : Tryz.prog.bytesOf 30 = 8 := by kernel_rfl

theorem cells_31 : Tryz.prog.cellsOf 31 = 1 := by kernel_rfl

theorem zeroOk_31 : zeroOk Tryz.prog 31 = true := by kernel_rfl

theorem bytes_31 : Tryz.prog.bytesOf 31 = 8 := by kernel_rfl

theorem cells_32 : Tryz.prog.cellsOf 32 = 1 := by kernel_rfl

theorem zeroOk_32 : zeroOk Tryz.prog 32 = true := by kernel_rfl

theorem bytes_32 : Tryz.prog.bytesOf 32 = 24 := by kernel_rfl

theorem zeroV_32 : zeroV Tryz.prog 32 = [Value.slice none 0 0] := by kernel_rfl

theorem cells_33 : Tryz.prog.cellsOf 33 = 1 := by kernel_rfl

theorem zeroOk_33 : zeroOk Tryz.prog 33 = true := by kernel_rfl

theorem bytes_33 : Tryz.prog.bytesOf 33 = 24 := by kernel_rfl

theorem zeroV_33 : zeroV Tryz.prog 33 = [Value.slice none 0 0] := by kernel_rfl

theorem cells_34 : Tryz.prog.cellsOf 34 = 1 := by kernel_rfl

theorem zeroOk_34 : zeroOk Tryz.prog 34 = true := by kernel_rfl

theorem bytes_34 : Tryz.prog.bytesOf 34 = 24 := by kernel_rfl

theorem zeroV_34 : zeroV Tryz.prog 34 = [Value.slice none 0 0] := by kernel_rfl

theorem cells_36 : Tryz.prog.cellsOf 36 = 1 := by kernel_rfl

theorem zeroOk_36 : zeroOk Tryz.prog 36 = true := by kernel_rfl

theorem bytes_36 : Tryz.prog.bytesOf 36 = 8 := by kernel_rfl

theorem cells_37 : Tryz.prog.cellsOf 37 = 1 := by kernel_rfl

theorem zeroOk_37 : zeroOk Tryz.prog 37 = true := by kernel_rfl

theorem bytes_37 : Tryz.prog.bytesOf 37 = 8 := by kernel_rfl

theorem cells_38 : Tryz.prog.cellsOf 38 = 1 := by kernel_rfl

theorem zeroOk_38 : zeroOk Tryz.prog 38 = true := by kernel_rfl

theorem bytes_38 : Tryz.prog.bytesOf 38 = 8 := by kernel_rfl

theorem cells_40 : Tryz.prog.cellsOf 40 = 1 := by kernel_rfl

theorem zeroOk_40 : zeroOk Tryz.prog 40 = true := by kernel_rfl

theorem bytes_40 : Tryz.prog.bytesOf 40 = 8 := by kernel_rfl

theorem cells_41 : Tryz.prog.cellsOf 41 = 1 := by kernel_rfl

theorem zeroOk_41 : zeroOk Tryz.prog 41 = true := by kernel_rfl

theorem bytes_41 : Tryz.prog.bytesOf 41 = 8 := by kernel_rfl

theorem zeroV_41 : zeroV Tryz.prog 41 = [Value.pointer none] := by kernel_rfl

theorem cells_42 : Tryz.prog.cellsOf 42 = 1 := by kernel_rfl

theorem zeroOk_42 : zeroOk Tryz.prog 42 = true := by kernel_rfl

theorem bytes_42 : Tryz.prog.bytesOf 42 = 8 := by kernel_rfl

theorem zeroOf_42 : zeroOf Tryz.prog 42 = some (Value.int .u64 0) := by kernel_rfl

theorem zeroV_42 : zeroV Tryz.prog 42 = [Value.int .u64 0] := by kernel_rfl

theorem cells_43 : Tryz.prog.cellsOf 43 = 3 := by kernel_rfl

theorem zeroOk_43 : zeroOk Tryz.prog 43 = true := by kernel_rfl

theorem bytes_43 : Tryz.prog.bytesOf 43 = 40 := by kernel_rfl

theorem cells_44 : Tryz.prog.cellsOf 44 = 3 := by kernel_rfl

theorem zeroOk_44 : zeroOk Tryz.prog 44 = true := by kernel_rfl

theorem bytes_44 : Tryz.prog.bytesOf 44 = 40 := by kernel_rfl

theorem cells_45 : Tryz.prog.cellsOf 45 = 1 := by kernel_rfl

theorem zeroOk_45 : zeroOk Tryz.prog 45 = true := by kernel_rfl

theorem bytes_45 : Tryz.prog.bytesOf 45 = 8 := by kernel_rfl

theorem cells_46 : Tryz.prog.cellsOf 46 = 1 := by kernel_rfl

theorem zeroOk_46 : zeroOk Tryz.prog 46 = true := by kernel_rfl

theorem bytes_46 : Tryz.prog.bytesOf 46 = 8 := by kernel_rfl

theorem cells_47 : Tryz.prog.cellsOf 47 = 1 := by kernel_rfl

theorem zeroOk_47 : zeroOk Tryz.prog 47 = true := by kernel_rfl

theorem bytes_47 : Tryz.prog.bytesOf 47 = 8 := by kernel_rfl

theorem cells_48 : Tryz.prog.cellsOf 48 = 1 := by kernel_rfl

theorem zeroOk_48 : zeroOk Tryz.prog 48 = true := by kernel_rfl

theorem bytes_48 : Tryz.prog.bytesOf 48 = 24 := by kernel_rfl

theorem zeroV_48 : zeroV Tryz.prog 48 = [Value.slice none 0 0] := by kernel_rfl

theorem cells_49 : Tryz.prog.cellsOf 49 = 1 := by kernel_rfl

theorem zeroOk_49 : zeroOk Tryz.prog 49 = true := by kernel_rfl

theorem bytes_49 : Tryz.prog.bytesOf 49 = 8 := by kernel_rfl

theorem cells_50 : Tryz.prog.cellsOf 50 = 1 := by kernel_rfl

theorem zeroOk_50 : zeroOk Tryz.prog 50 = true := by kernel_rfl

theorem bytes_50 : Tryz.prog.bytesOf 50 = 8 := by kernel_rfl

theorem cells_51 : Tryz.prog.cellsOf 51 = 1 := by kernel_rfl

theorem zeroOk_51 : zeroOk Tryz.prog 51 = true := by kernel_rfl

theorem bytes_51 : Tryz.prog.bytesOf 51 = 8 := by kernel_rfl

theorem cells_52 : Tryz.prog.cellsOf 52 = 1 := by kernel_rfl

theorem zeroOk_52 : zeroOk Tryz.prog 52 = true := by kernel_rfl

theorem bytes_52 : Tryz.prog.bytesOf 52 = 8 := by kernel_rfl

theorem cells_53 : Tryz.prog.cellsOf 53 = 1 := by kernel_rfl

theorem zeroOk_53 : zeroOk Tryz.prog 53 = true := by kernel_rfl

theorem bytes_53 : Tryz.prog.bytesOf 53 = 8 := by kernel_rfl

theorem cells_54 : Tryz.prog.cellsOf 54 = 1 := by kernel_rfl

theorem zeroOk_54 : zeroOk Tryz.prog 54 = true := by kernel_rfl

theorem bytes_54 : Tryz.prog.bytesOf 54 = 8 := by kernel_rfl

theorem cells_55 : Tryz.prog.cellsOf 55 = 1 := by kernel_rfl

theorem zeroOk_55 : zeroOk Tryz.prog 55 = true := by kernel_rfl

theorem bytes_55 : Tryz.prog.bytesOf 55 = 8 := by kernel_rfl

theorem cells_56 : Tryz.prog.cellsOf 56 = 1 := by kernel_rfl

theorem zeroOk_56 : zeroOk Tryz.prog 56 = true := by kernel_rfl

theorem bytes_56 : Tryz.prog.bytesOf 56 = 8 := by kernel_rfl

theorem cells_57 : Tryz.prog.cellsOf 57 = 1 := by kernel_rfl

theorem zeroOk_57 : zeroOk Tryz.prog 57 = true := by kernel_rfl

theorem bytes_57 : Tryz.prog.bytesOf 57 = 8 := by kernel_rfl

theorem cells_58 : Tryz.prog.cellsOf 58 = 5 := by kernel_rfl

theorem zeroOk_58 : zeroOk Tryz.prog 58 = true := by kernel_rfl

theorem bytes_58 : Tryz.prog.bytesOf 58 = 40 := by kernel_rfl

theorem zeroV_58 : zeroV Tryz.prog 58 = [Value.int .i64 0, Value.int .i64 0, Value.int .i64 0, Value.int .i64 0, Value.int .i64 0] := by kernel_rfl

theorem cells_59 : Tryz.prog.cellsOf 59 = 5 := by kernel_rfl

theorem zeroOk_59 : zeroOk Tryz.prog 59 = true := by kernel_rfl

theorem bytes_59 : Tryz.prog.bytesOf 59 = 40 := by kernel_rfl

theorem zeroV_59 : zeroV Tryz.prog 59 = [Value.int .i64 0, Value.int .i64 0, Value.int .i64 0, Value.int .i64 0, Value.int .i64 0] := by kernel_rfl

theorem cells_60 : Tryz.prog.cellsOf 60 = 1 := by kernel_rfl

theorem zeroOk_60 : zeroOk Tryz.prog 60 = true := by kernel_rfl

theorem bytes_60 : Tryz.prog.bytesOf 60 = 8 := by kernel_rfl

theorem cells_61 : Tryz.prog.cellsOf 61 = 1 := by kernel_rfl

theorem zeroOk_61 : zeroOk Tryz.prog 61 = true := by kernel_rfl

theorem bytes_61 : Tryz.prog.bytesOf 61 = 8 := by kernel_rfl

theorem cells_62 : Tryz.prog.cellsOf 62 = 1 := by kernel_rfl

theorem zeroOk_62 : zeroOk Tryz.prog 62 = true := by kernel_rfl

theorem bytes_62 : Tryz.prog.bytesOf 62 = 8 := by kernel_rfl

theorem cells_63 : Tryz.prog.cellsOf 63 = 1 := by kernel_rfl

theorem zeroOk_63 : zeroOk Tryz.prog 63 = true := by kernel_rfl

theorem bytes_63 : Tryz.prog.bytesOf 63 = 8 := by kernel_rfl

theorem cells_64 : Tryz.prog.cellsOf 64 = 1 := by kernel_rfl

theorem zeroOk_64 : zeroOk Tryz.prog 64 = true := by kernel_rfl

theorem bytes_64 : Tryz.prog.bytesOf 64 = 8 := by kernel_rfl

theorem cells_65 : Tryz.prog.cellsOf 65 = 1 := by kernel_rfl

theorem zeroOk_65 : zeroOk Tryz.prog 65 = true := by kernel_rfl

theorem bytes_65 : Tryz.prog.bytesOf 65 = 8 := by kernel_rfl

theorem cells_66 : Tryz.prog.cellsOf 66 = 1 := by kernel_rfl

theorem zeroOk_66 : zeroOk Tryz.prog 66 = true := by kernel_rfl

theorem bytes_66 : Tryz.prog.bytesOf 66 = 8 := by kernel_rfl

theorem zeroV_66 : zeroV Tryz.prog 66 = [Value.pointer none] := by kernel_rfl

theorem cells_67 : Tryz.prog.cellsOf 67 = 2 := by kernel_rfl

theorem zeroOk_67 : zeroOk Tryz.prog 67 = true := by kernel_rfl

theorem bytes_67 : Tryz.prog.bytesOf 67 = 32 := by kernel_rfl

theorem zeroV_67 : zeroV Tryz.prog 67 = [Value.pointer none, Value.slice none 0 0] := by kernel_rfl

theorem cells_68 : Tryz.prog.cellsOf 68 = 2 := by kernel_rfl

theorem zeroOk_68 : zeroOk Tryz.prog 68 = true := by kernel_rfl

theorem bytes_68 : Tryz.prog.bytesOf 68 = 32 := by kernel_rfl

theorem zeroV_68 : zeroV Tryz.prog 68 = [Value.pointer none, Value.slice none 0 0] := by kernel_rfl

theorem cells_69 : Tryz.prog.cellsOf 69 = 1 := by kernel_rfl

theorem zeroOk_69 : zeroOk Tryz.prog 69 = true := by kernel_rfl

theorem bytes_69 : Tryz.prog.bytesOf 69 = 8 := by kernel_rfl

theorem cells_71 : Tryz.prog.cellsOf 71 = 1 := by kernel_rfl

theorem zeroOk_71 : zeroOk Tryz.prog 71 = true := by kernel_rfl

theorem bytes_71 : Tryz.prog.bytesOf 71 = 16 := by kernel_rfl

theorem cells_73 : Tryz.prog.cellsOf 73 = 1 := by kernel_rfl

theorem zeroOk_73 : zeroOk Tryz.prog 73 = true := by kernel_rfl

theorem bytes_73 : Tryz.prog.bytesOf 73 = 8 := by kernel_rfl

theorem cells_74 : Tryz.prog.cellsOf 74 = 1 := by kernel_rfl

theorem zeroOk_74 : zeroOk Tryz.prog 74 = true := by kernel_rfl

theorem bytes_74 : Tryz.prog.bytesOf 74 = 8 := by kernel_rfl

theorem cells_75 : Tryz.prog.cellsOf 75 = 1 := by kernel_rfl

theorem zeroOk_75 : zeroOk Tryz.prog 75 = true := by kernel_rfl

theorem bytes_75 : Tryz.prog.bytesOf 75 = 8 := by kernel_rfl

theorem cells_76 : Tryz.prog.cellsOf 76 = 1 := by kernel_rfl

theorem zeroOk_76 : zeroOk Tryz.prog 76 = true := by kernel_rfl

theorem bytes_76 : Tryz.prog.bytesOf 76 = 8 := by kernel_rfl

theorem cells_77 : Tryz.prog.cellsOf 77 = 1 := by kernel_rfl

theorem zeroOk_77 : zeroOk Tryz.prog 77 = true := by kernel_rfl

theorem bytes_77 : Tryz.prog.bytesOf 77 = 8 := by kernel_rfl

theorem cells_78 : Tryz.prog.cellsOf 78 = 1 := by kernel_rfl

theorem zeroOk_78 : zeroOk Tryz.prog 78 = true := by kernel_rfl

theorem bytes_78 : Tryz.prog.bytesOf 78 = 8 := by kernel_rfl

theorem cells_79 : Tryz.prog.cellsOf 79 = 1 := by kernel_rfl

theorem zeroOk_79 : zeroOk Tryz.prog 79 = true := by kernel_rfl

theorem bytes_79 : Tryz.prog.bytesOf 79 = 8 := by kernel_rfl

theorem cells_80 : Tryz.prog.cellsOf 80 = 1 := by kernel_rfl

theorem zeroOk_80 : zeroOk Tryz.prog 80 = true := by kernel_rfl

theorem bytes_80 : Tryz.prog.bytesOf 80 = 8 := by kernel_rfl

theorem cells_81 : Tryz.prog.cellsOf 81 = 1 := by kernel_rfl

theorem zeroOk_81 : zeroOk Tryz.prog 81 = true := by kernel_rfl

theorem bytes_81 : Tryz.prog.bytesOf 81 = 8 := by kernel_rfl

theorem cells_82 : Tryz.prog.cellsOf 82 = 1 := by kernel_rfl

theorem zeroOk_82 : zeroOk Tryz.prog 82 = true := by kernel_rfl

theorem bytes_82 : Tryz.prog.bytesOf 82 = 8 := by kernel_rfl

theorem cells_83 : Tryz.prog.cellsOf 83 = 1 := by kernel_rfl

theorem zeroOk_83 : zeroOk Tryz.prog 83 = true := by kernel_rfl

theorem bytes_83 : Tryz.prog.bytesOf 83 = 8 := by kernel_rfl

theorem cells_84 : Tryz.prog.cellsOf 84 = 1 := by kernel_rfl

theorem zeroOk_84 : zeroOk Tryz.prog 84 = true := by kernel_rfl

theorem bytes_84 : Tryz.prog.bytesOf 84 = 8 := by kernel_rfl

theorem cells_85 : Tryz.prog.cellsOf 85 = 1 := by kernel_rfl

theorem zeroOk_85 : zeroOk Tryz.prog 85 = true := by kernel_rfl

theorem bytes_85 : Tryz.prog.bytesOf 85 = 8 := by kernel_rfl

theorem cells_86 : Tryz.prog.cellsOf 86 = 1 := by kernel_rfl

theorem zeroOk_86 : zeroOk Tryz.prog 86 = true := by kernel_rfl

theorem bytes_86 : Tryz.prog.bytesOf 86 = 8 := by kernel_rfl

theorem zeroOf_86 : zeroOf Tryz.prog 86 = some (Value.int .u64 0) := by kernel_rfl

theorem zeroV_86 : zeroV Tryz.prog 86 = [Value.int .u64 0] := by kernel_rfl

theorem cells_87 : Tryz.prog.cellsOf 87 = 1 := by kernel_rfl

theorem zeroOk_87 : zeroOk Tryz.prog 87 = true := by kernel_rfl

theorem bytes_87 : Tryz.prog.bytesOf 87 = 8 := by kernel_rfl

theorem zeroV_87 : zeroV Tryz.prog 87 = [Value.pointer none] := by kernel_rfl

theorem cells_88 : Tryz.prog.cellsOf 88 = 1 := by kernel_rfl

theorem zeroOk_88 : zeroOk Tryz.prog 88 = true := by kernel_rfl

theorem bytes_88 : Tryz.prog.bytesOf 88 = 8 := by kernel_rfl

theorem cells_89 : Tryz.prog.cellsOf 89 = 1 := by kernel_rfl

theorem zeroOk_89 : zeroOk Tryz.prog 89 = true := by kernel_rfl

theorem bytes_89 : Tryz.prog.bytesOf 89 = 8 := by kernel_rfl

theorem cells_90 : Tryz.prog.cellsOf 90 = 1 := by kernel_rfl

theorem zeroOk_90 : zeroOk Tryz.prog 90 = true := by kernel_rfl

theorem bytes_90 : Tryz.prog.bytesOf 90 = 8 := by kernel_rfl

theorem cells_91 : Tryz.prog.cellsOf 91 = 1 := by kernel_rfl

theorem zeroOk_91 : zeroOk Tryz.prog 91 = true := by kernel_rfl

theorem bytes_91 : Tryz.prog.bytesOf 91 = 8 := by kernel_rfl

theorem cells_92 : Tryz.prog.cellsOf 92 = 1 := by kernel_rfl

theorem zeroOk_92 : zeroOk Tryz.prog 92 = true := by kernel_rfl

theorem bytes_92 : Tryz.prog.bytesOf 92 = 8 := by kernel_rfl

theorem cells_93 : Tryz.prog.cellsOf 93 = 1 := by kernel_rfl

theorem zeroOk_93 : zeroOk Tryz.prog 93 = true := by kernel_rfl

theorem bytes_93 : Tryz.prog.bytesOf 93 = 8 := by kernel_rfl

theorem cells_94 : Tryz.prog.cellsOf 94 = 1 := by kernel_rfl

theorem zeroOk_94 : zeroOk Tryz.prog 94 = true := by kernel_rfl

theorem bytes_94 : Tryz.prog.bytesOf 94 = 8 := by kernel_rfl

theorem cells_95 : Tryz.prog.cellsOf 95 = 1 := by kernel_rfl

theorem zeroOk_95 : zeroOk Tryz.prog 95 = true := by kernel_rfl

theorem bytes_95 : Tryz.prog.bytesOf 95 = 8 := by kernel_rfl

theorem cells_96 : Tryz.prog.cellsOf 96 = 1 := by kernel_rfl

theorem zeroOk_96 : zeroOk Tryz.prog 96 = true := by kernel_rfl

theorem bytes_96 : Tryz.prog.bytesOf 96 = 8 := by kernel_rfl

theorem cells_97 : Tryz.prog.cellsOf 97 = 1 := by kernel_rfl

theorem zeroOk_97 : zeroOk Tryz.prog 97 = true := by kernel_rfl

theorem bytes_97 : Tryz.prog.bytesOf 97 = 8 := by kernel_rfl

theorem cells_98 : Tryz.prog.cellsOf 98 = 1 := by kernel_rfl

theorem zeroOk_98 : zeroOk Tryz.prog 98 = true := by kernel_rfl

theorem bytes_98 : Tryz.prog.bytesOf 98 = 8 := by kernel_rfl

theorem cells_100 : Tryz.prog.cellsOf 100 = 1 := by kernel_rfl

theorem zeroOk_100 : zeroOk Tryz.prog 100 = true := by kernel_rfl

theorem bytes_100 : Tryz.prog.bytesOf 100 = 8 := by kernel_rfl

theorem cells_101 : Tryz.prog.cellsOf 101 = 1 := by kernel_rfl

theorem zeroOk_101 : zeroOk Tryz.prog 101 = true := by kernel_rfl

theorem bytes_101 : Tryz.prog.bytesOf 101 = 8 := by kernel_rfl

theorem cells_102 : Tryz.prog.cellsOf 102 = 1 := by kernel_rfl

theorem zeroOk_102 : zeroOk Tryz.prog 102 = true := by kernel_rfl

theorem bytes_102 : Tryz.prog.bytesOf 102 = 8 := by kernel_rfl

theorem cells_104 : Tryz.prog.cellsOf 104 = 1 := by kernel_rfl

theorem zeroOk_104 : zeroOk Tryz.prog 104 = true := by kernel_rfl

theorem bytes_104 : Tryz.prog.bytesOf 104 = 8 := by kernel_rfl

theorem cells_105 : Tryz.prog.cellsOf 105 = 1 := by kernel_rfl

theorem zeroOk_105 : zeroOk Tryz.prog 105 = true := by kernel_rfl

theorem bytes_105 : Tryz.prog.bytesOf 105 = 8 := by kernel_rfl

theorem cells_106 : Tryz.prog.cellsOf 106 = 1 := by kernel_rfl

theorem zeroOk_106 : zeroOk Tryz.prog 106 = true := by kernel_rfl

theorem bytes_106 : Tryz.prog.bytesOf 106 = 8 := by kernel_rfl

theorem cells_107 : Tryz.prog.cellsOf 107 = 1 := by kernel_rfl

theorem zeroOk_107 : zeroOk Tryz.prog 107 = true := by kernel_rfl

theorem bytes_107 : Tryz.prog.bytesOf 107 = 8 := by kernel_rfl

theorem cells_108 : Tryz.prog.cellsOf 108 = 1 := by kernel_rfl

theorem zeroOk_108 : zeroOk Tryz.prog 108 = true := by kernel_rfl

theorem bytes_108 : Tryz.prog.bytesOf 108 = 8 := by kernel_rfl

theorem cells_109 : Tryz.prog.cellsOf 109 = 1 := by kernel_rfl

theorem zeroOk_109 : zeroOk Tryz.prog 109 = true := by kernel_rfl

theorem bytes_109 : Tryz.prog.bytesOf 109 = 8 := by kernel_rfl

theorem cells_110 : Tryz.prog.cellsOf 110 = 1 := by kernel_rfl

theorem zeroOk_110 : zeroOk Tryz.prog 110 = true := by kernel_rfl

theorem bytes_110 : Tryz.prog.bytesOf 110 = 8 := by kernel_rfl

theorem cells_111 : Tryz.prog.cellsOf 111 = 1 := by kernel_rfl

theorem zeroOk_111 : zeroOk Tryz.prog 111 = true := by kernel_rfl

theorem bytes_111 : Tryz.prog.bytesOf 111 = 8 := by kernel_rfl

theorem cells_112 : Tryz.prog.cellsOf 112 = 1 := by kernel_rfl

theorem zeroOk_112 : zeroOk Tryz.prog 112 = true := by kernel_rfl

theorem bytes_112 : Tryz.prog.bytesOf 112 = 8 := by kernel_rfl

theorem cells_113 : Tryz.prog.cellsOf 113 = 1 := by kernel_rfl

theorem zeroOk_113 : zeroOk Tryz.prog 113 = true := by kernel_rfl

theorem bytes_113 : Tryz.prog.bytesOf 113 = 8 := by kernel_rfl

theorem cells_114 : Tryz.prog.cellsOf 114 = 256 := by kernel_rfl

theorem zeroOk_114 : zeroOk Tryz.prog 114 = true := by kernel_rfl

theorem bytes_114 : Tryz.prog.bytesOf 114 = 256 := by kernel_rfl

theorem zeroV_114 : zeroV Tryz.prog 114 = [Value.int .u8 0, Value.int .u8 0, Value.int .u8 0, Value.int .u8 0, Value.int .u8 0, Value.int .u8 0, Value.int .u8 0, Value.int .u8 0, Value.int .u8 0, Value.int .u8 0, Value.int .u8 0, Value.int .u8 0, Value.int .u8 0, Value.int .u8 0, Value.int .u8 0, Value.int .u8 0, Value.int .u8 0, Value.int .u8 0, Value.int .u8 0, Value.int .u8 0, Value.int .u8 0, Value.int .u8 0, Value.int .u8 0, Value.int .u8 0, Value.int .u8 0, Value.int .u8 0, Value.int .u8 0, Value.int .u8 0, Value.int .u8 0, Value.int .u8 0, Value.int .u8 0, Value.int .u8 0, Value.int .u8 0, Value.int .u8 0, Value.int .u8 0, Value.int .u8 0, Value.int .u8 0, Value.int .u8 0, Value.int .u8 0, Value.int .u8 0, Value.int .u8 0, Value.int .u8 0, Value.int .u8 0, Value.int .u8 0, Value.int .u8 0, Value.int .u8 0, Value.int .u8 0, Value.int .u8 0, Value.int .u8 0, Value.int .u8 0, Value.int .u8 0, Value.int .u8 0, Value.int .u8 0, Value.int .u8 0, Value.int .u8 0, Value.int .u8 0, Value.int .u8 0, Value.int .u8 0, Value.int .u8 0, Value.int .u8 0, Value.int .u8 0, Value.int .u8 0, Value.int .u8 0, Value.int .u8 0, Value.int .u8 0, Value.int .u8 0, Value.int .u8 0, Value.int .u8 0, Value.int .u8 0, Value.int .u8 0, Value.int .u8 0, Value.int .u8 0, Value.int .u8 0, Value.int .u8 0, Value.int .u8 0, Value.int .u8 0, Value.int .u8 0, Value.int .u8 0, Value.int .u8 0, Value.int .u8 0, Value.int .u8 0, Value.int .u8 0, Value.int .u8 0, Value.int .u8 0, Value.int .u8 0, Value.int .u8 0, Value.int .u8 0, Value.int .u8 0, Value.int .u8 0, Value.int .u8 0, Value.int .u8 0, Value.int .u8 0, Value.int .u8 0, Value.int .u8 0, Value.int .u8 0, Value.int .u8 0, Value.int .u8 0, Value.int .u8 0, Value.int .u8 0, Value.int .u8 0, Value.int .u8 0, Value.int .u8 0, Value.int .u8 0, Value.int .u8 0, Value.int .u8 0, Value.int .u8 0, Value.int .u8 0, Value.int .u8 0, Value.int .u8 0, Value.int .u8 0, Value.int .u8 0, Value.int .u8 0, Value.int .u8 0, Value.int .u8 0, Value.int .u8 0, Value.int .u8 0, Value.int .u8 0, Value.int .u8 0, Value.int .u8 0, Value.int .u8 0, Value.int .u8 0, Value.int .u8 0, Value.int .u8 0, Value.int .u8 0, Value.int .u8 0, Value.int .u8 0, Value.int .u8 0, Value.int .u8 0, Value.int .u8 0, Value.int .u8 0, Value.int .u8 0, Value.int .u8 0, Value.int .u8 0, Value.int .u8 0, Value.int .u8 0, Value.int .u8 0, Value.int .u8 0, Value.int .u8 0, Value.int .u8 0, Value.int .u8 0, Value.int .u8 0, Value.int .u8 0, Value.int .u8 0, Value.int .u8 0, Value.int .u8 0, Value.int .u8 0, Value.int .u8 0, Value.int .u8 0, Value.int .u8 0, Value.int .u8 0, Value.int .u8 0, Value.int .u8 0, Value.int .u8 0, Value.int .u8 0, Value.int .u8 0, Value.int .u8 0, Value.int .u8 0, Value.int .u8 0, Value.int .u8 0, Value.int .u8 0, Value.int .u8 0, Value.int .u8 0, Value.int .u8 0, Value.int .u8 0, Value.int .u8 0, Value.int .u8 0, Value.int .u8 0, Value.int .u8 0, Value.int .u8 0, Value.int .u8 0, Value.int .u8 0, Value.int .u8 0, Value.int .u8 0, Value.int .u8 0, Value.int .u8 0, Value.int .u8 0, Value.int .u8 0, Value.int .u8 0, Value.int .u8 0, Value.int .u8 0, Value.int .u8 0, Value.int .u8 0, Value.int .u8 0, Value.int .u8 0, Value.int .u8 0, Value.int .u8 0, Value.int .u8 0, Value.int .u8 0, Value.int .u8 0, Value.int .u8 0, Value.int .u8 0, Value.int .u8 0, Value.int .u8 0, Value.int .u8 0, Value.int .u8 0, Value.int .u8 0, Value.int .u8 0, Value.int .u8 0, Value.int .u8 0, Value.int .u8 0, Value.int .u8 0, Value.int .u8 0, Value.int .u8 0, Value.int .u8 0, Value.int .u8 0, Value.int .u8 0, Value.int .u8 0, Value.int .u8 0, Value.int .u8 0, Value.int .u8 0, Value.int .u8 0, Value.int .u8 0, Value.int .u8 0, Value.int .u8 0, Value.int .u8 0, Value.int .u8 0, Value.int .u8 0, Value.int .u8 0, Value.int .u8 0, Value.int .u8 0, Value.int .u8 0, Value.int .u8 0, Value.int .u8 0, Value.int .u8 0, Value.int .u8 0, Value.int .u8 0, Value.int .u8 0, Value.int .u8 0, Value.int .u8 0, Value.int .u8 0, Value.int .u8 0, Value.int .u8 0, Value.int .u8 0, Value.int .u8 0, Value.int .u8 0, Value.int .u8 0, Value.int .u8 0, Value.int .u8 0, Value.int .u8 0, Value.int .u8 0, Value.int .u8 0, Value.int .u8 0, Value.int .u8 0, Value.int .u8 0, Value.int .u8 0, Value.int .u8 0, Value.int .u8 0, Value.int .u8 0, Value.int .u8 0, Value.int .u8 0, Value.int .u8 0, Value.int .u8 0, Value.int .u8 0, Value.int .u8 0, Value.int .u8 0, Value.int .u8 0] := by kernel_rfl

theorem cells_115 : Tryz.prog.cellsOf 115 = 2 := by kernel_rfl

theorem zeroOk_115 : zeroOk Tryz.prog 115 = true := by kernel_rfl

theorem bytes_115 : Tryz.prog.bytesOf 115 = 2 := by kernel_rfl

theorem zeroV_115 : zeroV Tryz.prog 115 = [Value.int .u8 0, Value.int .u8 0] := by kernel_rfl

theorem cells_116 : Tryz.prog.cellsOf 116 = 2 := by kernel_rfl

theorem zeroOk_116 : zeroOk Tryz.prog 116 = true := by kernel_rfl

theorem bytes_116 : Tryz.prog.bytesOf 116 = 2 := by kernel_rfl

theorem zeroV_116 : zeroV Tryz.prog 116 = [Value.int .u8 0, Value.int .u8 0] := by kernel_rfl

theorem cells_117 : Tryz.prog.cellsOf 117 = 32 := by kernel_rfl

theorem zeroOk_117 : zeroOk Tryz.prog 117 = true := by kernel_rfl

theorem bytes_117 : Tryz.prog.bytesOf 117 = 32 := by kernel_rfl

theorem zeroV_117 : zeroV Tryz.prog 117 = [Value.int .u8 0, Value.int .u8 0, Value.int .u8 0, Value.int .u8 0, Value.int .u8 0, Value.int .u8 0, Value.int .u8 0, Value.int .u8 0, Value.int .u8 0, Value.int .u8 0, Value.int .u8 0, Value.int .u8 0, Value.int .u8 0, Value.int .u8 0, Value.int .u8 0, Value.int .u8 0, Value.int .u8 0, Value.int .u8 0, Value.int .u8 0, Value.int .u8 0, Value.int .u8 0, Value.int .u8 0, Value.int .u8 0, Value.int .u8 0, Value.int .u8 0, Value.int .u8 0, Value.int .u8 0, Value.int .u8 0, Value.int .u8 0, Value.int .u8 0, Value.int .u8 0, Value.int .u8 0] := by kernel_rfl

theorem cells_118 : Tryz.prog.cellsOf 118 = 1 := by kernel_rfl

theorem zeroOk_118 : zeroOk Tryz.prog 118 = true := by kernel_rfl

theorem bytes_118 : Tryz.prog.bytesOf 118 = 4 := by kernel_rfl

theorem zeroOf_118 : zeroOf Tryz.prog 118 = some (Value.int .u32 0) := by kernel_rfl

theorem zeroV_118 : zeroV Tryz.prog 118 = [Value.int .u32 0] := by kernel_rfl

theorem cells_120 : Tryz.prog.cellsOf 120 = 1 := by kernel_rfl

theorem zeroOk_120 : zeroOk Tryz.prog 120 = true := by kernel_rfl

theorem bytes_120 : Tryz.prog.bytesOf 120 = 8 := by kernel_rfl

theorem cells_121 : Tryz.prog.cellsOf 121 = 4 := by kernel_rfl

theorem zeroOk_121 : zeroOk Tryz.prog 121 = true := by kernel_rfl

theorem bytes_121 : Tryz.prog.bytesOf 121 = 40 := by kernel_rfl

theorem zeroV_121 : zeroV Tryz.prog 121 = [Value.pointer none, Value.pointer none, Value.pointer none, Value.string ⟨#[]⟩] := by kernel_rfl

theorem cells_122 : Tryz.prog.cellsOf 122 = 4 := by kernel_rfl

theorem zeroOk_122 : zeroOk Tryz.prog 122 = true := by kernel_rfl

theorem bytes_122 : Tryz.prog.bytesOf 122 = 40 := by kernel_rfl

theorem zeroV_122 : zeroV Tryz.prog 122 = [Value.pointer none, Value.pointer none, Value.pointer none, Value.string ⟨#[]⟩] := by kernel_rfl

theorem cells_123 : Tryz.prog.cellsOf 123 = 0 := by kernel_rfl

theorem zeroOk_123 : zeroOk Tryz.prog 123 = true := by kernel_rfl

theorem bytes_123 : Tryz.prog.bytesOf 123 = 0 := by kernel_rfl

theorem zeroV_123 : zeroV Tryz.prog 123 = [] := by kernel_rfl

theorem cells_124 : Tryz.prog.cellsOf 124 = 0 := by kernel_rfl

theorem zeroOk_124 : zeroOk Tryz.prog 124 = true := by kernel_rfl

theorem bytes_124 : Tryz.prog.bytesOf 124 = 0 := by kernel_rfl

theorem zeroV_124 : zeroV Tryz.prog 124 = [] := by kernel_rfl

theorem cells_125 : Tryz.prog.cellsOf 125 = 0 := by kernel_rfl

theorem zeroOk_125 : zeroOk Tryz.prog 125 = true := by kernel_rfl

theorem bytes_125 : Tryz.prog.bytesOf 125 = 0 := by kernel_rfl

theorem zeroV_125 : zeroV Tryz.prog 125 = [] := by kernel_rfl

theorem cells_126 : Tryz.prog.cellsOf 126 = 1 := by kernel_rfl

theorem zeroOk_126 : zeroOk Tryz.prog 126 = true := by kernel_rfl

theorem bytes_126 : Tryz.prog.bytesOf 126 = 1 := by kernel_rfl

theorem zeroV_126 : zeroV Tryz.prog 126 = [Value.int .u8 0] := by kernel_rfl

theorem cells_127 : Tryz.prog.cellsOf 127 = 1 := by kernel_rfl

theorem zeroOk_127 : zeroOk Tryz.prog 127 = true := by kernel_rfl

theorem bytes_127 : Tryz.prog.bytesOf 127 = 1 := by kernel_rfl

theorem zeroV_127 : zeroV Tryz.prog 127 = [Value.int .u8 0] := by kernel_rfl

theorem cells_128 : Tryz.prog.cellsOf 128 = 1 := by kernel_rfl

theorem zeroOk_128 : zeroOk Tryz.prog 128 = true := by kernel_rfl

theorem bytes_128 : Tryz.prog.bytesOf 128 = 8 := by kernel_rfl

theorem cells_129 : Tryz.prog.cellsOf 129 = 1 := by kernel_rfl

theorem zeroOk_129 : zeroOk Tryz.prog 129 = true := by kernel_rfl

theorem bytes_129 : Tryz.prog.bytesOf 129 = 4 := by kernel_rfl

theorem zeroV_129 : zeroV Tryz.prog 129 = [Value.int .i32 0] := by kernel_rfl

theorem cells_130 : Tryz.prog.cellsOf 130 = 1 := by kernel_rfl

theorem zeroOk_130 : zeroOk Tryz.prog 130 = true := by kernel_rfl

theorem bytes_130 : Tryz.prog.bytesOf 130 = 4 := by kernel_rfl

theorem zeroV_130 : zeroV Tryz.prog 130 = [Value.int .i32 0] := by kernel_rfl

theorem cells_131 : Tryz.prog.cellsOf 131 = 11 := by kernel_rfl

theorem zeroOk_131 : zeroOk Tryz.prog 131 = true := by kernel_rfl

theorem bytes_131 : Tryz.prog.bytesOf 131 = 48 := by kernel_rfl

theorem cells_132 : Tryz.prog.cellsOf 132 = 11 := by kernel_rfl

theorem zeroOk_132 : zeroOk Tryz.prog 132 = true := by kernel_rfl

theorem bytes_132 : Tryz.prog.bytesOf 132 = 48 := by kernel_rfl

theorem keyT_3 : KeyT Tryz.prog 3 1 = True := eq_true (keyT_int Tryz.underlying3)

theorem seq_59 : StructEq Tryz.prog 59 5 = True := eq_true (structEq_of (by kernel_rfl) (by kernel_rfl) (by kernel_rfl) (by kernel_rfl))

attribute [go_sem] rvk rv_fin rv_dead rv_still rv_calc rv_one rav_some ruk ru_fin ru_pure ru_still ru_calc calc_b calc_fa intAV_int ru_one rau_some rs_n rs_t rs_c rs_k jr_1 jr_2 jr_3 jr_4 ps_r ps_n px_r px_n St.after killSs killOs newN dropO killN allU fillP rn_build listT rap_some rp_one rp_pure rp_fin rpk guard_ud ck_t ck_f rik Int.toNat_natCast drop_at kx_r kx_e in_n in_r in_e po_n po_r rn_nil rn_guard guard_tt guard_ff guard_tf guard_ft guard_un next_some rn_call rn_move rn_assign rn_pick rn_alloc rn_box rn_buildSlice rn_load rn_store rn_nilCheck rn_binOp rn_unOp rn_convert rn_makeFunc rn_makeSlice rn_slice rn_fieldAddr rn_field rn_indexAddr rn_index rn_extract rn_lookup rn_entry rn_makeMap rn_range rn_mapUpdate rn_insert rn_next keyD keyI lookD_mpI setKV_mpI setKV_nil keysAre_mpI keysAre_nil mpI_len keyB_int rn_builtin stepOp actOp pureOp St.ev look AV.split AV.one St.new St.puto St.put put killS killO lookO putO delO AV.refs AV.refsL OB.refs St.adopt adoptL loadD loadA tAgg guardOf binD unD pick_t pick_f pick_b one_s one_i one_b one_l one_p rc_eq rc_some AV.pack allD storeOb fillA denseA buildA obCells srcCells OB.fill OB.join obOf zeroD kx_n ri_nil ri_cons ra_some inB eqInts Bool.false_eq_true Bool.or_false Bool.or_self List.drop_succ_cons List.drop_zero List.take_succ_cons List.take_zero List.take_nil List.drop_nil List.getD_cons_zero List.getD_cons_succ ne_eq not_false_eq_true Nat.zero_add Nat.add_zero Bool.not_true Bool.not_false cond_true cond_false true_and and_true List.map_cons List.map_nil List.length_cons List.length_nil List.getElem?_toArray List.getElem?_cons_zero List.getElem?_cons_succ Option.map_some Option.map_none Option.isSome_some List.nil_append List.cons_append List.append_nil Int.toNat_zero Nat.zero_mul Nat.mul_one cells_1 cells_2 cells_3 cells_4 cells_5 cells_6 cells_7 cells_8 cells_9 cells_10 cells_11 cells_12 cells_13 cells_14 cells_15 cells_16 cells_17 cells_18 cells_19 cells_21 cells_22 cells_23 cells_24 cells_25 cells_27 cells_29 cells_30 cells_31 cells_32 cells_33 cells_34 cells_36 cells_37 cells_38 cells_40 cells_41 cells_42 cells_43 cells_44 cells_45 cells_46 cells_47 cells_48 cells_49 cells_50 cells_51 cells_52 cells_53 cells_54 cells_55 cells_56 cells_57 cells_58 cells_59 cells_60 cells_61 cells_62 cells_63 cells_64 cells_65 cells_66 cells_67 cells_68 cells_69 cells_71 cells_73 cells_74 cells_75 cells_76 cells_77 cells_78 cells_79 cells_80 cells_81 cells_82 cells_83 cells_84 cells_85 cells_86 cells_87 cells_88 cells_89 cells_90 cells_91 cells_92 cells_93 cells_94 cells_95 cells_96 cells_97 cells_98 cells_100 cells_101 cells_102 cells_104 cells_105 cells_106 cells_107 cells_108 cells_109 cells_110 cells_111 cells_112 cells_113 cells_114 cells_115 cells_116 cells_117 cells_118 cells_120 cells_121 cells_122 cells_123 cells_124 cells_125 cells_126 cells_127 cells_128 cells_129 cells_130 cells_131 cells_132 zeroOk_1 bytes_1 zeroOk_2 bytes_2 zeroOf_2 zeroV_2 zeroOk_3 bytes_3 zeroOf_3 zeroV_3 zeroOk_4 bytes_4 zeroOf_4 zeroV_4 zeroOk_5 bytes_5 zeroOf_5 zeroV_5 zeroOk_6 bytes_6 zeroV_6 zeroOk_7 bytes_7 zeroV_7 zeroOk_8 bytes_8 zeroV_8 zeroOk_9 bytes_9 zeroV_9 zeroOk_10 bytes_10 zeroV_10 zeroOk_11 bytes_11 zeroV_11 zeroOk_12 bytes_12 zeroOf_12 zeroV_12 zeroOk_13 bytes_13 zeroV_13 zeroOk_14 bytes_14 zeroV_14 zeroOk_15 bytes_15 zeroV_15 zeroOk_16 bytes_16 zeroV_16 zeroOk_17 bytes_17 zeroV_17 zeroOk_18 bytes_18 zeroV_18 zeroOk_19 bytes_19 zeroV_19 zeroOk_21 bytes_21 zeroOf_21 zeroV_21 zeroOk_22 bytes_22 zeroV_22 zeroOk_23 bytes_23 zeroOk_24 bytes_24 zeroV_24 zeroOk_25 bytes_25 zeroOk_27 bytes_27 zeroOk_29 bytes_29 zeroOk_30 bytes_30 zeroOk_31 bytes_31 zeroOk_32 bytes_32 zeroV_32 zeroOk_33 bytes_33 zeroV_33 zeroOk_34 bytes_34 zeroV_34 zeroOk_36 bytes_36 zeroOk_37 bytes_37 zeroOk_38 bytes_38 zeroOk_40 bytes_40 zeroOk_41 bytes_41 zeroV_41 zeroOk_42 bytes_42 zeroOf_42 zeroV_42 zeroOk_43 bytes_43 zeroOk_44 bytes_44 zeroOk_45 bytes_45 zeroOk_46 bytes_46 zeroOk_47 bytes_47 zeroOk_48 bytes_48 zeroV_48 zeroOk_49 bytes_49 zeroOk_50 bytes_50 zeroOk_51 bytes_51 zeroOk_52 bytes_52 zeroOk_53 bytes_53 zeroOk_54 bytes_54 zeroOk_55 bytes_55 zeroOk_56 bytes_56 zeroOk_57 bytes_57 zeroOk_58 bytes_58 zeroV_58 zeroOk_59 bytes_59 zeroV_59 zeroOk_60 bytes_60 zeroOk_61 bytes_61 zeroOk_62 bytes_62 zeroOk_63 bytes_63 zeroOk_64 bytes_64 zeroOk_65 bytes_65 zeroOk_66 bytes_66 zeroV_66 zeroOk_67 bytes_67 zeroV_67 zeroOk_68 bytes_68 zeroV_68 zeroOk_69 bytes_69 zeroOk_71 bytes_71 zeroOk_73 bytes_73 zeroOk_74 bytes_74 zeroOk_75 bytes_75 zeroOk_76 bytes_76 zeroOk_77 bytes_77 zeroOk_78 bytes_78 zeroOk_79 bytes_79 zeroOk_80 bytes_80 zeroOk_81 bytes_81 zeroOk_82 bytes_82 zeroOk_83 bytes_83 zeroOk_84 bytes_84 zeroOk_85 bytes_85 zeroOk_86 bytes_86 zeroOf_86 zeroV_86 zeroOk_87 bytes_87 zeroV_87 zeroOk_88 bytes_88 zeroOk_89 bytes_89 zeroOk_90 bytes_90 zeroOk_91 bytes_91 zeroOk_92 bytes_92 zeroOk_93 bytes_93 zeroOk_94 bytes_94 zeroOk_95 bytes_95 zeroOk_96 bytes_96 zeroOk_97 bytes_97 zeroOk_98 bytes_98 zeroOk_100 bytes_100 zeroOk_101 bytes_101 zeroOk_102 bytes_102 zeroOk_104 bytes_104 zeroOk_105 bytes_105 zeroOk_106 bytes_106 zeroOk_107 bytes_107 zeroOk_108 bytes_108 zeroOk_109 bytes_109 zeroOk_110 bytes_110 zeroOk_111 bytes_111 zeroOk_112 bytes_112 zeroOk_113 bytes_113 zeroOk_114 bytes_114 zeroV_114 zeroOk_115 bytes_115 zeroV_115 zeroOk_116 bytes_116 zeroV_116 zeroOk_117 bytes_117 zeroV_117 zeroOk_118 bytes_118 zeroOf_118 zeroV_118 zeroOk_120 bytes_120 zeroOk_121 bytes_121 zeroV_121 zeroOk_122 bytes_122 zeroV_122 zeroOk_123 bytes_123 zeroV_123 zeroOk_124 bytes_124 zeroV_124 zeroOk_125 bytes_125 zeroV_125 zeroOk_126 bytes_126 zeroV_126 zeroOk_127 bytes_127 zeroV_127 zeroOk_128 bytes_128 zeroOk_129 bytes_129 zeroV_129 zeroOk_130 bytes_130 zeroV_130 zeroOk_131 bytes_131 zeroOk_132 bytes_132 keyT_3 seq_59 Tryz.underlying1 Tryz.underlying2 Tryz.underlying3 Tryz.underlying4 Tryz.underlying5 Tryz.underlying6 Tryz.underlying7 Tryz.underlying8 Tryz.underlying9 Tryz.underlying10 Tryz.underlying11 Tryz.underlying12 Tryz.underlying13 Tryz.underlying14 Tryz.underlying15 Tryz.underlying16 Tryz.underlying17 Tryz.underlying18 Tryz.underlying19 Tryz.underlying21 Tryz.underlying22 Tryz.underlying23 Tryz.underlying24 Tryz.underlying25 Tryz.underlying27 Tryz.underlying29 Tryz.underlying30 Tryz.underlying31 Tryz.underlying32 Tryz.underlying33 Tryz.underlying34 Tryz.underlying36 Tryz.underlying37 Tryz.underlying38 Tryz.underlying40 Tryz.underlying41 Tryz.underlying42 Tryz.underlying43 Tryz.underlying44 Tryz.underlying45 Tryz.underlying46 Tryz.underlying47 Tryz.underlying48 Tryz.underlying49 Tryz.underlying50 Tryz.underlying51 Tryz.underlying52 Tryz.underlying53 Tryz.underlying54 Tryz.underlying55 Tryz.underlying56 Tryz.underlying57 Tryz.underlying58 Tryz.underlying59 Tryz.underlying60 Tryz.underlying61 Tryz.underlying62 Tryz.underlying63 Tryz.underlying64 Tryz.underlying65 Tryz.underlying66 Tryz.underlying67 Tryz.underlying68 Tryz.underlying69 Tryz.underlying71 Tryz.underlying73 Tryz.underlying74 Tryz.underlying75 Tryz.underlying76 Tryz.underlying77 Tryz.underlying78 Tryz.underlying79 Tryz.underlying80 Tryz.underlying81 Tryz.underlying82 Tryz.underlying83 Tryz.underlying84 Tryz.underlying85 Tryz.underlying86 Tryz.underlying87 Tryz.underlying88 Tryz.underlying89 Tryz.underlying90 Tryz.underlying91 Tryz.underlying92 Tryz.underlying93 Tryz.underlying94 Tryz.underlying95 Tryz.underlying96 Tryz.underlying97 Tryz.underlying98 Tryz.underlying100 Tryz.underlying101 Tryz.underlying102 Tryz.underlying104 Tryz.underlying105 Tryz.underlying106 Tryz.underlying107 Tryz.underlying108 Tryz.underlying109 Tryz.underlying110 Tryz.underlying111 Tryz.underlying112 Tryz.underlying113 Tryz.underlying114 Tryz.underlying115 Tryz.underlying116 Tryz.underlying117 Tryz.underlying118 Tryz.underlying120 Tryz.underlying121 Tryz.underlying122 Tryz.underlying123 Tryz.underlying124 Tryz.underlying125 Tryz.underlying126 Tryz.underlying127 Tryz.underlying128 Tryz.underlying129 Tryz.underlying130 Tryz.underlying131 Tryz.underlying132

end Go.Proofs.YtdeobicgildamaaGreatDoor
