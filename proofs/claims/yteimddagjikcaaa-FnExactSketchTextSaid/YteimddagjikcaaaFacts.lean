/- How many cells a value of each type has. -/
import Derived.Test.YteimddagjikcaaaRows
import Derived.Test.YteimddagjikcaaaFlowS
import Derived.Test.YteimddagjikcaaaBase
import Derived.Test.YteimddagjikcaaaLoops
import Derived.WalkKit
import Derived.WalkSpells
import Derived.KernelRfl
namespace Go.Proofs.Yteimddagjikcaaa
open Go.RowKit
set_option linter.unusedVariables false
set_option linter.unusedSimpArgs false

theorem cells_1 : Try.prog.cellsOf 1 = 1 := by kernel_rfl

theorem zeroOk_1 : zeroOk Try.prog 1 = true := by kernel_rfl

theorem bytes_1 : Try.prog.bytesOf 1 = 8 := by kernel_rfl

theorem cells_2 : Try.prog.cellsOf 2 = 1 := by kernel_rfl

theorem zeroOk_2 : zeroOk Try.prog 2 = true := by kernel_rfl

theorem bytes_2 : Try.prog.bytesOf 2 = 8 := by kernel_rfl

theorem zeroOf_2 : zeroOf Try.prog 2 = some (Value.int .i64 0) := by kernel_rfl

theorem zeroV_2 : zeroV Try.prog 2 = [Value.int .i64 0] := by kernel_rfl

theorem cells_3 : Try.prog.cellsOf 3 = 1 := by kernel_rfl

theorem zeroOk_3 : zeroOk Try.prog 3 = true := by kernel_rfl

theorem bytes_3 : Try.prog.bytesOf 3 = 8 := by kernel_rfl

theorem zeroOf_3 : zeroOf Try.prog 3 = some (Value.int .i64 0) := by kernel_rfl

theorem zeroV_3 : zeroV Try.prog 3 = [Value.int .i64 0] := by kernel_rfl

theorem cells_4 : Try.prog.cellsOf 4 = 1 := by kernel_rfl

theorem zeroOk_4 : zeroOk Try.prog 4 = true := by kernel_rfl

theorem bytes_4 : Try.prog.bytesOf 4 = 1 := by kernel_rfl

theorem zeroOf_4 : zeroOf Try.prog 4 = some (Value.bool false) := by kernel_rfl

theorem zeroV_4 : zeroV Try.prog 4 = [Value.bool false] := by kernel_rfl

theorem cells_5 : Try.prog.cellsOf 5 = 1 := by kernel_rfl

theorem zeroOk_5 : zeroOk Try.prog 5 = true := by kernel_rfl

theorem bytes_5 : Try.prog.bytesOf 5 = 1 := by kernel_rfl

theorem zeroOf_5 : zeroOf Try.prog 5 = some (Value.int .u8 0) := by kernel_rfl

theorem zeroV_5 : zeroV Try.prog 5 = [Value.int .u8 0] := by kernel_rfl

theorem cells_6 : Try.prog.cellsOf 6 = 1 := by kernel_rfl

theorem zeroOk_6 : zeroOk Try.prog 6 = true := by kernel_rfl

theorem bytes_6 : Try.prog.bytesOf 6 = 1 := by kernel_rfl

theorem zeroV_6 : zeroV Try.prog 6 = [Value.int .u8 0] := by kernel_rfl

theorem cells_7 : Try.prog.cellsOf 7 = 4 := by kernel_rfl

theorem zeroOk_7 : zeroOk Try.prog 7 = true := by kernel_rfl

theorem bytes_7 : Try.prog.bytesOf 7 = 24 := by kernel_rfl

theorem zeroV_7 : zeroV Try.prog 7 = [Value.int .i64 0, Value.int .i64 0, Value.bool false, Value.int .u8 0] := by kernel_rfl

theorem cells_8 : Try.prog.cellsOf 8 = 4 := by kernel_rfl

theorem zeroOk_8 : zeroOk Try.prog 8 = true := by kernel_rfl

theorem bytes_8 : Try.prog.bytesOf 8 = 24 := by kernel_rfl

theorem zeroV_8 : zeroV Try.prog 8 = [Value.int .i64 0, Value.int .i64 0, Value.bool false, Value.int .u8 0] := by kernel_rfl

theorem cells_9 : Try.prog.cellsOf 9 = 1 := by kernel_rfl

theorem zeroOk_9 : zeroOk Try.prog 9 = true := by kernel_rfl

theorem bytes_9 : Try.prog.bytesOf 9 = 16 := by kernel_rfl

theorem zeroV_9 : zeroV Try.prog 9 = [Value.string ⟨#[]⟩] := by kernel_rfl

theorem cells_10 : Try.prog.cellsOf 10 = 1 := by kernel_rfl

theorem zeroOk_10 : zeroOk Try.prog 10 = true := by kernel_rfl

theorem bytes_10 : Try.prog.bytesOf 10 = 16 := by kernel_rfl

theorem zeroV_10 : zeroV Try.prog 10 = [Value.string ⟨#[]⟩] := by kernel_rfl

theorem cells_11 : Try.prog.cellsOf 11 = 1 := by kernel_rfl

theorem zeroOk_11 : zeroOk Try.prog 11 = true := by kernel_rfl

theorem bytes_11 : Try.prog.bytesOf 11 = 16 := by kernel_rfl

theorem zeroV_11 : zeroV Try.prog 11 = [Value.string ⟨#[]⟩] := by kernel_rfl

theorem cells_12 : Try.prog.cellsOf 12 = 1 := by kernel_rfl

theorem zeroOk_12 : zeroOk Try.prog 12 = true := by kernel_rfl

theorem bytes_12 : Try.prog.bytesOf 12 = 8 := by kernel_rfl

theorem zeroOf_12 : zeroOf Try.prog 12 = some (Value.int .u64 0) := by kernel_rfl

theorem zeroV_12 : zeroV Try.prog 12 = [Value.int .u64 0] := by kernel_rfl

theorem cells_13 : Try.prog.cellsOf 13 = 2 := by kernel_rfl

theorem zeroOk_13 : zeroOk Try.prog 13 = true := by kernel_rfl

theorem bytes_13 : Try.prog.bytesOf 13 = 24 := by kernel_rfl

theorem zeroV_13 : zeroV Try.prog 13 = [Value.string ⟨#[]⟩, Value.int .u64 0] := by kernel_rfl

theorem cells_14 : Try.prog.cellsOf 14 = 2 := by kernel_rfl

theorem zeroOk_14 : zeroOk Try.prog 14 = true := by kernel_rfl

theorem bytes_14 : Try.prog.bytesOf 14 = 24 := by kernel_rfl

theorem zeroV_14 : zeroV Try.prog 14 = [Value.string ⟨#[]⟩, Value.int .u64 0] := by kernel_rfl

theorem cells_15 : Try.prog.cellsOf 15 = 1 := by kernel_rfl

theorem zeroOk_15 : zeroOk Try.prog 15 = true := by kernel_rfl

theorem bytes_15 : Try.prog.bytesOf 15 = 8 := by kernel_rfl

theorem zeroV_15 : zeroV Try.prog 15 = [Value.pointer none] := by kernel_rfl

theorem cells_16 : Try.prog.cellsOf 16 = 1 := by kernel_rfl

theorem zeroOk_16 : zeroOk Try.prog 16 = true := by kernel_rfl

theorem bytes_16 : Try.prog.bytesOf 16 = 8 := by kernel_rfl

theorem zeroV_16 : zeroV Try.prog 16 = [Value.pointer none] := by kernel_rfl

theorem cells_17 : Try.prog.cellsOf 17 = 1 := by kernel_rfl

theorem zeroOk_17 : zeroOk Try.prog 17 = true := by kernel_rfl

theorem bytes_17 : Try.prog.bytesOf 17 = 8 := by kernel_rfl

theorem zeroV_17 : zeroV Try.prog 17 = [Value.pointer none] := by kernel_rfl

theorem cells_18 : Try.prog.cellsOf 18 = 1 := by kernel_rfl

theorem zeroOk_18 : zeroOk Try.prog 18 = true := by kernel_rfl

theorem bytes_18 : Try.prog.bytesOf 18 = 8 := by kernel_rfl

theorem zeroV_18 : zeroV Try.prog 18 = [Value.pointer none] := by kernel_rfl

theorem cells_19 : Try.prog.cellsOf 19 = 1 := by kernel_rfl

theorem zeroOk_19 : zeroOk Try.prog 19 = true := by kernel_rfl

theorem bytes_19 : Try.prog.bytesOf 19 = 8 := by kernel_rfl

theorem zeroV_19 : zeroV Try.prog 19 = [Value.pointer none] := by kernel_rfl

theorem cells_21 : Try.prog.cellsOf 21 = 1 := by kernel_rfl

theorem zeroOk_21 : zeroOk Try.prog 21 = true := by kernel_rfl

theorem bytes_21 : Try.prog.bytesOf 21 = 4 := by kernel_rfl

theorem zeroOf_21 : zeroOf Try.prog 21 = some (Value.int .i32 0) := by kernel_rfl

theorem zeroV_21 : zeroV Try.prog 21 = [Value.int .i32 0] := by kernel_rfl

theorem cells_22 : Try.prog.cellsOf 22 = 4 := by kernel_rfl

theorem zeroOk_22 : zeroOk Try.prog 22 = true := by kernel_rfl

theorem bytes_22 : Try.prog.bytesOf 22 = 32 := by kernel_rfl

theorem zeroV_22 : zeroV Try.prog 22 = [Value.int .i64 0, Value.int .i64 0, Value.int .i64 0, Value.int .i64 0] := by kernel_rfl

theorem cells_23 : Try.prog.cellsOf 23 = 4 := by kernel_rfl

theorem zeroOk_23 : zeroOk Try.prog 23 = true := by kernel_rfl

theorem bytes_23 : Try.prog.bytesOf 23 = 32 := by kernel_rfl

theorem zeroV_23 : zeroV Try.prog 23 = [Value.int .i64 0, Value.int .i64 0, Value.int .i64 0, Value.int .i64 0] := by kernel_rfl

theorem cells_25 : Try.prog.cellsOf 25 = 1 := by kernel_rfl

theorem zeroOk_25 : zeroOk Try.prog 25 = true := by kernel_rfl

theorem bytes_25 : Try.prog.bytesOf 25 = 8 := by kernel_rfl

theorem cells_26 : Try.prog.cellsOf 26 = 4 := by kernel_rfl

theorem zeroOk_26 : zeroOk Try.prog 26 = true := by kernel_rfl

theorem bytes_26 : Try.prog.bytesOf 26 = 32 := by kernel_rfl

theorem zeroV_26 : zeroV Try.prog 26 = [Value.int .i64 0, Value.int .i64 0, Value.int .i64 0, Value.int .i64 0] := by kernel_rfl

theorem cells_27 : Try.prog.cellsOf 27 = 1 := by kernel_rfl

theorem zeroOk_27 : zeroOk Try.prog 27 = true := by kernel_rfl

theorem bytes_27 : Try.prog.bytesOf 27 = 8 := by kernel_rfl

theorem cells_28 : Try.prog.cellsOf 28 = 1 := by kernel_rfl

theorem zeroOk_28 : zeroOk Try.prog 28 = true := by kernel_rfl

theorem bytes_28 : Try.prog.bytesOf 28 = 8 := by kernel_rfl

theorem cells_29 : Try.prog.cellsOf 29 = 4 := by kernel_rfl

theorem zeroOk_29 : zeroOk Try.prog 29 = true := by kernel_rfl

theorem bytes_29 : Try.prog.bytesOf 29 = 32 := by kernel_rfl

theorem zeroV_29 : zeroV Try.prog 29 = [Value.int .i64 0, Value.int .i64 0, Value.int .i64 0, Value.int .i64 0] := by kernel_rfl

theorem cells_30 : Try.prog.cellsOf 30 = 4 := by kernel_rfl

theorem zeroOk_30 : zeroOk Try.prog 30 = true := by kernel_rfl

theorem bytes_30 : Try.prog.bytesOf 30 = 32 := by kernel_rfl

theorem zeroV_30 : zeroV Try.prog 30 = [Value.int .i64 0, Value.int .i64 0, Value.int .i64 0, Value.int .i64 0] := by kernel_rfl

theorem cells_31 : Try.prog.cellsOf 31 = 1 := by kernel_rfl

theorem zeroOk_31 : zeroOk Try.prog 31 = true := by kernel_rfl

theorem bytes_31 : Try.prog.bytesOf 31 = 8 := by kernel_rfl

theorem cells_32 : Try.prog.cellsOf 32 = 4 := by kernel_rfl

theorem zeroOk_32 : zeroOk Try.prog 32 = true := by kernel_rfl

theorem bytes_32 : Try.prog.bytesOf 32 = 32 := by kernel_rfl

theorem zeroV_32 : zeroV Try.prog 32 = [Value.int .i64 0, Value.int .i64 0, Value.int .i64 0, Value.int .i64 0] := by kernel_rfl

theorem cells_33 : Try.prog.cellsOf 33 = 1 := by kernel_rfl

theorem zeroOk_33 : zeroOk Try.prog 33 = true := by kernel_rfl

theorem bytes_33 : Try.prog.bytesOf 33 = 8 := by kernel_rfl

theorem cells_34 : Try.prog.cellsOf 34 = 1 := by kernel_rfl

theorem zeroOk_34 : zeroOk Try.prog 34 = true := by kernel_rfl

theorem bytes_34 : Try.prog.bytesOf 34 = 8 := by kernel_rfl

theorem cells_36 : Try.prog.cellsOf 36 = 1 := by kernel_rfl

theorem zeroOk_36 : zeroOk Try.prog 36 = true := by kernel_rfl

theorem bytes_36 : Try.prog.bytesOf 36 = 8 := by kernel_rfl

theorem cells_37 : Try.prog.cellsOf 37 = 1 := by kernel_rfl

theorem zeroOk_37 : zeroOk Try.prog 37 = true := by kernel_rfl

theorem bytes_37 : Try.prog.bytesOf 37 = 8 := by kernel_rfl

theorem cells_38 : Try.prog.cellsOf 38 = 1 := by kernel_rfl

theorem zeroOk_38 : zeroOk Try.prog 38 = true := by kernel_rfl

theorem bytes_38 : Try.prog.bytesOf 38 = 8 := by kernel_rfl

theorem cells_39 : Try.prog.cellsOf 39 = 15 := by kernel_rfl

theorem zeroOk_39 : zeroOk Try.prog 39 = true := by kernel_rfl

theorem bytes_39 : Try.prog.bytesOf 39 = 120 := by kernel_rfl

theorem zeroV_39 : zeroV Try.prog 39 = [Value.int .i64 0, Value.int .i64 0, Value.int .i64 0, Value.int .i64 0, Value.int .i64 0, Value.int .i64 0, Value.int .i64 0, Value.int .i64 0, Value.int .i64 0, Value.int .i64 0, Value.int .i64 0, Value.int .i64 0, Value.int .i64 0, Value.int .i64 0, Value.int .i64 0] := by kernel_rfl

theorem cells_40 : Try.prog.cellsOf 40 = 15 := by kernel_rfl

theorem zeroOk_40 : zeroOk Try.prog 40 = true := by kernel_rfl

theorem bytes_40 : Try.prog.bytesOf 40 = 120 := by kernel_rfl

theorem zeroV_40 : zeroV Try.prog 40 = [Value.int .i64 0, Value.int .i64 0, Value.int .i64 0, Value.int .i64 0, Value.int .i64 0, Value.int .i64 0, Value.int .i64 0, Value.int .i64 0, Value.int .i64 0, Value.int .i64 0, Value.int .i64 0, Value.int .i64 0, Value.int .i64 0, Value.int .i64 0, Value.int .i64 0] := by kernel_rfl

theorem cells_42 : Try.prog.cellsOf 42 = 1 := by kernel_rfl

theorem zeroOk_42 : zeroOk Try.prog 42 = true := by kernel_rfl

theorem bytes_42 : Try.prog.bytesOf 42 = 8 := by kernel_rfl

theorem cells_43 : Try.prog.cellsOf 43 = 15 := by kernel_rfl

theorem zeroOk_43 : zeroOk Try.prog 43 = true := by kernel_rfl

theorem bytes_43 : Try.prog.bytesOf 43 = 120 := by kernel_rfl

theorem zeroV_43 : zeroV Try.prog 43 = [Value.int .i64 0, Value.int .i64 0, Value.int .i64 0, Value.int .i64 0, Value.int .i64 0, Value.int .i64 0, Value.int .i64 0, Value.int .i64 0, Value.int .i64 0, Value.int .i64 0, Value.int .i64 0, Value.int .i64 0, Value.int .i64 0, Value.int .i64 0, Value.int .i64 0] := by kernel_rfl

theorem cells_44 : Try.prog.cellsOf 44 = 15 := by kernel_rfl

theorem zeroOk_44 : zeroOk Try.prog 44 = true := by kernel_rfl

theorem bytes_44 : Try.prog.bytesOf 44 = 120 := by kernel_rfl

theorem zeroV_44 : zeroV Try.prog 44 = [Value.int .i64 0, Value.int .i64 0, Value.int .i64 0, Value.int .i64 0, Value.int .i64 0, Value.int .i64 0, Value.int .i64 0, Value.int .i64 0, Value.int .i64 0, Value.int .i64 0, Value.int .i64 0, Value.int .i64 0, Value.int .i64 0, Value.int .i64 0, Value.int .i64 0] := by kernel_rfl

theorem cells_45 : Try.prog.cellsOf 45 = 1 := by kernel_rfl

theorem zeroOk_45 : zeroOk Try.prog 45 = true := by kernel_rfl

theorem bytes_45 : Try.prog.bytesOf 45 = 8 := by kernel_rfl

theorem cells_46 : Try.prog.cellsOf 46 = 1 := by kernel_rfl

theorem zeroOk_46 : zeroOk Try.prog 46 = true := by kernel_rfl

theorem bytes_46 : Try.prog.bytesOf 46 = 8 := by kernel_rfl

theorem cells_47 : Try.prog.cellsOf 47 = 1 := by kernel_rfl

theorem zeroOk_47 : zeroOk Try.prog 47 = true := by kernel_rfl

theorem bytes_47 : Try.prog.bytesOf 47 = 8 := by kernel_rfl

theorem cells_48 : Try.prog.cellsOf 48 = 1 := by kernel_rfl

theorem zeroOk_48 : zeroOk Try.prog 48 = true := by kernel_rfl

theorem bytes_48 : Try.prog.bytesOf 48 = 8 := by kernel_rfl

theorem cells_49 : Try.prog.cellsOf 49 = 1 := by kernel_rfl

theorem zeroOk_49 : zeroOk Try.prog 49 = true := by kernel_rfl

theorem bytes_49 : Try.prog.bytesOf 49 = 24 := by kernel_rfl

theorem zeroV_49 : zeroV Try.prog 49 = [Value.slice none 0 0] := by kernel_rfl

theorem cells_51 : Try.prog.cellsOf 51 = 1 := by kernel_rfl

theorem zeroOk_51 : zeroOk Try.prog 51 = true := by kernel_rfl

theorem bytes_51 : Try.prog.bytesOf 51 = 8 := by kernel_rfl

theorem cells_52 : Try.prog.cellsOf 52 = 1 := by kernel_rfl

theorem zeroOk_52 : zeroOk Try.prog 52 = true := by kernel_rfl

theorem bytes_52 : Try.prog.bytesOf 52 = 8 := by kernel_rfl

theorem cells_53 : Try.prog.cellsOf 53 = 1 := by kernel_rfl

theorem zeroOk_53 : zeroOk Try.prog 53 = true := by kernel_rfl

theorem bytes_53 : Try.prog.bytesOf 53 = 8 := by kernel_rfl

theorem cells_55 : Try.prog.cellsOf 55 = 1 := by kernel_rfl

theorem zeroOk_55 : zeroOk Try.prog 55 = true := by kernel_rfl

theorem bytes_55 : Try.prog.bytesOf 55 = 8 := by kernel_rfl

theorem cells_56 : Try.prog.cellsOf 56 = 1 := by kernel_rfl

theorem zeroOk_56 : zeroOk Try.prog 56 = true := by kernel_rfl

theorem bytes_56 : Try.prog.bytesOf 56 = 24 := by kernel_rfl

theorem zeroV_56 : zeroV Try.prog 56 = [Value.slice none 0 0] := by kernel_rfl

theorem cells_57 : Try.prog.cellsOf 57 = 16 := by kernel_rfl

theorem zeroOk_57 : zeroOk Try.prog 57 = true := by kernel_rfl

theorem bytes_57 : Try.prog.bytesOf 57 = 144 := by kernel_rfl

theorem zeroV_57 : zeroV Try.prog 57 = [Value.int .i64 0, Value.int .i64 0, Value.int .i64 0, Value.int .i64 0, Value.int .i64 0, Value.int .i64 0, Value.int .i64 0, Value.int .i64 0, Value.int .i64 0, Value.int .i64 0, Value.int .i64 0, Value.int .i64 0, Value.int .i64 0, Value.int .i64 0, Value.int .i64 0, Value.slice none 0 0] := by kernel_rfl

theorem cells_58 : Try.prog.cellsOf 58 = 16 := by kernel_rfl

theorem zeroOk_58 : zeroOk Try.prog 58 = true := by kernel_rfl

theorem bytes_58 : Try.prog.bytesOf 58 = 144 := by kernel_rfl

theorem zeroV_58 : zeroV Try.prog 58 = [Value.int .i64 0, Value.int .i64 0, Value.int .i64 0, Value.int .i64 0, Value.int .i64 0, Value.int .i64 0, Value.int .i64 0, Value.int .i64 0, Value.int .i64 0, Value.int .i64 0, Value.int .i64 0, Value.int .i64 0, Value.int .i64 0, Value.int .i64 0, Value.int .i64 0, Value.slice none 0 0] := by kernel_rfl

theorem cells_59 : Try.prog.cellsOf 59 = 1 := by kernel_rfl

theorem zeroOk_59 : zeroOk Try.prog 59 = true := by kernel_rfl

theorem bytes_59 : Try.prog.bytesOf 59 = 8 := by kernel_rfl

theorem cells_60 : Try.prog.cellsOf 60 = 1 := by kernel_rfl

theorem zeroOk_60 : zeroOk Try.prog 60 = true := by kernel_rfl

theorem bytes_60 : Try.prog.bytesOf 60 = 8 := by kernel_rfl

theorem cells_61 : Try.prog.cellsOf 61 = 1 := by kernel_rfl

theorem zeroOk_61 : zeroOk Try.prog 61 = true := by kernel_rfl

theorem bytes_61 : Try.prog.bytesOf 61 = 24 := by kernel_rfl

theorem zeroV_61 : zeroV Try.prog 61 = [Value.slice none 0 0] := by kernel_rfl

theorem cells_62 : Try.prog.cellsOf 62 = 16 := by kernel_rfl

theorem zeroOk_62 : zeroOk Try.prog 62 = true := by kernel_rfl

theorem bytes_62 : Try.prog.bytesOf 62 = 144 := by kernel_rfl

theorem zeroV_62 : zeroV Try.prog 62 = [Value.int .i64 0, Value.int .i64 0, Value.int .i64 0, Value.int .i64 0, Value.int .i64 0, Value.int .i64 0, Value.int .i64 0, Value.int .i64 0, Value.int .i64 0, Value.int .i64 0, Value.int .i64 0, Value.int .i64 0, Value.int .i64 0, Value.int .i64 0, Value.int .i64 0, Value.slice none 0 0] := by kernel_rfl

theorem cells_63 : Try.prog.cellsOf 63 = 16 := by kernel_rfl

theorem zeroOk_63 : zeroOk Try.prog 63 = true := by kernel_rfl

theorem bytes_63 : Try.prog.bytesOf 63 = 144 := by kernel_rfl

theorem zeroV_63 : zeroV Try.prog 63 = [Value.int .i64 0, Value.int .i64 0, Value.int .i64 0, Value.int .i64 0, Value.int .i64 0, Value.int .i64 0, Value.int .i64 0, Value.int .i64 0, Value.int .i64 0, Value.int .i64 0, Value.int .i64 0, Value.int .i64 0, Value.int .i64 0, Value.int .i64 0, Value.int .i64 0, Value.slice none 0 0] := by kernel_rfl

theorem cells_64 : Try.prog.cellsOf 64 = 1 := by kernel_rfl

theorem zeroOk_64 : zeroOk Try.prog 64 = true := by kernel_rfl

theorem bytes_64 : Try.prog.bytesOf 64 = 8 := by kernel_rfl

theorem cells_65 : Try.prog.cellsOf 65 = 1 := by kernel_rfl

theorem zeroOk_65 : zeroOk Try.prog 65 = true := by kernel_rfl

theorem bytes_65 : Try.prog.bytesOf 65 = 8 := by kernel_rfl

theorem cells_66 : Try.prog.cellsOf 66 = 1 := by kernel_rfl

theorem zeroOk_66 : zeroOk Try.prog 66 = true := by kernel_rfl

theorem bytes_66 : Try.prog.bytesOf 66 = 8 := by kernel_rfl

theorem cells_67 : Try.prog.cellsOf 67 = 1 := by kernel_rfl

theorem zeroOk_67 : zeroOk Try.prog 67 = true := by kernel_rfl

theorem bytes_67 : Try.prog.bytesOf 67 = 8 := by kernel_rfl

theorem cells_68 : Try.prog.cellsOf 68 = 1 := by kernel_rfl

theorem zeroOk_68 : zeroOk Try.prog 68 = true := by kernel_rfl

theorem bytes_68 : Try.prog.bytesOf 68 = 8 := by kernel_rfl

theorem cells_69 : Try.prog.cellsOf 69 = 1 := by kernel_rfl

theorem zeroOk_69 : zeroOk Try.prog 69 = true := by kernel_rfl

theorem bytes_69 : Try.prog.bytesOf 69 = 8 := by kernel_rfl

theorem cells_70 : Try.prog.cellsOf 70 = 1 := by kernel_rfl

theorem zeroOk_70 : zeroOk Try.prog 70 = true := by kernel_rfl

theorem bytes_70 : Try.prog.bytesOf 70 = 8 := by kernel_rfl

theorem cells_71 : Try.prog.cellsOf 71 = 1 := by kernel_rfl

theorem zeroOk_71 : zeroOk Try.prog 71 = true := by kernel_rfl

theorem bytes_71 : Try.prog.bytesOf 71 = 8 := by kernel_rfl

theorem cells_72 : Try.prog.cellsOf 72 = 1 := by kernel_rfl

theorem zeroOk_72 : zeroOk Try.prog 72 = true := by kernel_rfl

theorem bytes_72 : Try.prog.bytesOf 72 = 8 := by kernel_rfl

theorem cells_73 : Try.prog.cellsOf 73 = 1 := by kernel_rfl

theorem zeroOk_73 : zeroOk Try.prog 73 = true := by kernel_rfl

theorem bytes_73 : Try.prog.bytesOf 73 = 8 := by kernel_rfl

theorem cells_75 : Try.prog.cellsOf 75 = 1 := by kernel_rfl

theorem zeroOk_75 : zeroOk Try.prog 75 = true := by kernel_rfl

theorem bytes_75 : Try.prog.bytesOf 75 = 8 := by kernel_rfl

theorem cells_77 : Try.prog.cellsOf 77 = 1 := by kernel_rfl

theorem zeroOk_77 : zeroOk Try.prog 77 = true := by kernel_rfl

theorem bytes_77 : Try.prog.bytesOf 77 = 8 := by kernel_rfl

theorem cells_78 : Try.prog.cellsOf 78 = 1 := by kernel_rfl

theorem zeroOk_78 : zeroOk Try.prog 78 = true := by kernel_rfl

theorem bytes_78 : Try.prog.bytesOf 78 = 8 := by kernel_rfl

theorem cells_79 : Try.prog.cellsOf 79 = 1 := by kernel_rfl

theorem zeroOk_79 : zeroOk Try.prog 79 = true := by kernel_rfl

theorem bytes_79 : Try.prog.bytesOf 79 = 8 := by kernel_rfl

theorem cells_80 : Try.prog.cellsOf 80 = 1 := by kernel_rfl

theorem zeroOk_80 : zeroOk Try.prog 80 = true := by kernel_rfl

theorem bytes_80 : Try.prog.bytesOf 80 = 8 := by kernel_rfl

theorem cells_81 : Try.prog.cellsOf 81 = 1 := by kernel_rfl

theorem zeroOk_81 : zeroOk Try.prog 81 = true := by kernel_rfl

theorem bytes_81 : Try.prog.bytesOf 81 = 8 := by kernel_rfl

theorem cells_82 : Try.prog.cellsOf 82 = 1 := by kernel_rfl

theorem zeroOk_82 : zeroOk Try.prog 82 = true := by kernel_rfl

theorem bytes_82 : Try.prog.bytesOf 82 = 8 := by kernel_rfl

theorem cells_83 : Try.prog.cellsOf 83 = 5 := by kernel_rfl

theorem zeroOk_83 : zeroOk Try.prog 83 = true := by kernel_rfl

theorem bytes_83 : Try.prog.bytesOf 83 = 72 := by kernel_rfl

theorem zeroV_83 : zeroV Try.prog 83 = [Value.string ⟨#[]⟩, Value.string ⟨#[]⟩, Value.string ⟨#[]⟩, Value.string ⟨#[]⟩, Value.bool false] := by kernel_rfl

theorem cells_84 : Try.prog.cellsOf 84 = 5 := by kernel_rfl

theorem zeroOk_84 : zeroOk Try.prog 84 = true := by kernel_rfl

theorem bytes_84 : Try.prog.bytesOf 84 = 72 := by kernel_rfl

theorem zeroV_84 : zeroV Try.prog 84 = [Value.string ⟨#[]⟩, Value.string ⟨#[]⟩, Value.string ⟨#[]⟩, Value.string ⟨#[]⟩, Value.bool false] := by kernel_rfl

theorem cells_85 : Try.prog.cellsOf 85 = 1 := by kernel_rfl

theorem zeroOk_85 : zeroOk Try.prog 85 = true := by kernel_rfl

theorem bytes_85 : Try.prog.bytesOf 85 = 8 := by kernel_rfl

theorem cells_86 : Try.prog.cellsOf 86 = 1 := by kernel_rfl

theorem zeroOk_86 : zeroOk Try.prog 86 = true := by kernel_rfl

theorem bytes_86 : Try.prog.bytesOf 86 = 8 := by kernel_rfl

theorem cells_87 : Try.prog.cellsOf 87 = 1 := by kernel_rfl

theorem zeroOk_87 : zeroOk Try.prog 87 = true := by kernel_rfl

theorem bytes_87 : Try.prog.bytesOf 87 = 8 := by kernel_rfl

theorem cells_88 : Try.prog.cellsOf 88 = 1 := by kernel_rfl

theorem zeroOk_88 : zeroOk Try.prog 88 = true := by kernel_rfl

theorem bytes_88 : Try.prog.bytesOf 88 = 8 := by kernel_rfl

theorem cells_89 : Try.prog.cellsOf 89 = 1 := by kernel_rfl

theorem zeroOk_89 : zeroOk Try.prog 89 = true := by kernel_rfl

theorem bytes_89 : Try.prog.bytesOf 89 = 8 := by kernel_rfl

theorem cells_90 : Try.prog.cellsOf 90 = 1 := by kernel_rfl

theorem zeroOk_90 : zeroOk Try.prog 90 = true := by kernel_rfl

theorem bytes_90 : Try.prog.bytesOf 90 = 8 := by kernel_rfl

theorem cells_91 : Try.prog.cellsOf 91 = 1 := by kernel_rfl

theorem zeroOk_91 : zeroOk Try.prog 91 = true := by kernel_rfl

theorem bytes_91 : Try.prog.bytesOf 91 = 8 := by kernel_rfl

theorem cells_92 : Try.prog.cellsOf 92 = 1 := by kernel_rfl

theorem zeroOk_92 : zeroOk Try.prog 92 = true := by kernel_rfl

theorem bytes_92 : Try.prog.bytesOf 92 = 8 := by kernel_rfl

theorem cells_93 : Try.prog.cellsOf 93 = 1 := by kernel_rfl

theorem zeroOk_93 : zeroOk Try.prog 93 = true := by kernel_rfl

theorem bytes_93 : Try.prog.bytesOf 93 = 8 := by kernel_rfl

theorem cells_94 : Try.prog.cellsOf 94 = 1 := by kernel_rfl

theorem zeroOk_94 : zeroOk Try.prog 94 = true := by kernel_rfl

theorem bytes_94 : Try.prog.bytesOf 94 = 8 := by kernel_rfl

theorem cells_95 : Try.prog.cellsOf 95 = 1 := by kernel_rfl

theorem zeroOk_95 : zeroOk Try.prog 95 = true := by kernel_rfl

theorem bytes_95 : Try.prog.bytesOf 95 = 8 := by kernel_rfl

theorem cells_96 : Try.prog.cellsOf 96 = 1 := by kernel_rfl

theorem zeroOk_96 : zeroOk Try.prog 96 = true := by kernel_rfl

theorem bytes_96 : Try.prog.bytesOf 96 = 8 := by kernel_rfl

theorem cells_97 : Try.prog.cellsOf 97 = 1 := by kernel_rfl

theorem zeroOk_97 : zeroOk Try.prog 97 = true := by kernel_rfl

theorem bytes_97 : Try.prog.bytesOf 97 = 8 := by kernel_rfl

theorem cells_98 : Try.prog.cellsOf 98 = 1 := by kernel_rfl

theorem zeroOk_98 : zeroOk Try.prog 98 = true := by kernel_rfl

theorem bytes_98 : Try.prog.bytesOf 98 = 8 := by kernel_rfl

theorem cells_99 : Try.prog.cellsOf 99 = 1 := by kernel_rfl

theorem zeroOk_99 : zeroOk Try.prog 99 = true := by kernel_rfl

theorem bytes_99 : Try.prog.bytesOf 99 = 8 := by kernel_rfl

theorem cells_100 : Try.prog.cellsOf 100 = 1 := by kernel_rfl

theorem zeroOk_100 : zeroOk Try.prog 100 = true := by kernel_rfl

theorem bytes_100 : Try.prog.bytesOf 100 = 8 := by kernel_rfl

theorem cells_101 : Try.prog.cellsOf 101 = 1 := by kernel_rfl

theorem zeroOk_101 : zeroOk Try.prog 101 = true := by kernel_rfl

theorem bytes_101 : Try.prog.bytesOf 101 = 8 := by kernel_rfl

theorem cells_102 : Try.prog.cellsOf 102 = 1 := by kernel_rfl

theorem zeroOk_102 : zeroOk Try.prog 102 = true := by kernel_rfl

theorem bytes_102 : Try.prog.bytesOf 102 = 24 := by kernel_rfl

theorem zeroV_102 : zeroV Try.prog 102 = [Value.slice none 0 0] := by kernel_rfl

theorem cells_103 : Try.prog.cellsOf 103 = 1 := by kernel_rfl

theorem zeroOk_103 : zeroOk Try.prog 103 = true := by kernel_rfl

theorem bytes_103 : Try.prog.bytesOf 103 = 8 := by kernel_rfl

theorem cells_104 : Try.prog.cellsOf 104 = 1 := by kernel_rfl

theorem zeroOk_104 : zeroOk Try.prog 104 = true := by kernel_rfl

theorem bytes_104 : Try.prog.bytesOf 104 = 8 := by kernel_rfl

theorem cells_105 : Try.prog.cellsOf 105 = 1 := by kernel_rfl

theorem zeroOk_105 : zeroOk Try.prog 105 = true := by kernel_rfl

theorem bytes_105 : Try.prog.bytesOf 105 = 8 := by kernel_rfl

theorem cells_106 : Try.prog.cellsOf 106 = 1 := by kernel_rfl

theorem zeroOk_106 : zeroOk Try.prog 106 = true := by kernel_rfl

theorem bytes_106 : Try.prog.bytesOf 106 = 8 := by kernel_rfl

theorem cells_107 : Try.prog.cellsOf 107 = 2 := by kernel_rfl

theorem zeroOk_107 : zeroOk Try.prog 107 = true := by kernel_rfl

theorem bytes_107 : Try.prog.bytesOf 107 = 16 := by kernel_rfl

theorem zeroV_107 : zeroV Try.prog 107 = [Value.int .i64 0, Value.int .i64 0] := by kernel_rfl

theorem cells_108 : Try.prog.cellsOf 108 = 2 := by kernel_rfl

theorem zeroOk_108 : zeroOk Try.prog 108 = true := by kernel_rfl

theorem bytes_108 : Try.prog.bytesOf 108 = 16 := by kernel_rfl

theorem zeroV_108 : zeroV Try.prog 108 = [Value.int .i64 0, Value.int .i64 0] := by kernel_rfl

theorem cells_109 : Try.prog.cellsOf 109 = 1 := by kernel_rfl

theorem zeroOk_109 : zeroOk Try.prog 109 = true := by kernel_rfl

theorem bytes_109 : Try.prog.bytesOf 109 = 8 := by kernel_rfl

theorem cells_110 : Try.prog.cellsOf 110 = 1 := by kernel_rfl

theorem zeroOk_110 : zeroOk Try.prog 110 = true := by kernel_rfl

theorem bytes_110 : Try.prog.bytesOf 110 = 8 := by kernel_rfl

theorem cells_111 : Try.prog.cellsOf 111 = 2 := by kernel_rfl

theorem zeroOk_111 : zeroOk Try.prog 111 = true := by kernel_rfl

theorem bytes_111 : Try.prog.bytesOf 111 = 16 := by kernel_rfl

theorem zeroV_111 : zeroV Try.prog 111 = [Value.int .i64 0, Value.int .i64 0] := by kernel_rfl

theorem cells_112 : Try.prog.cellsOf 112 = 1 := by kernel_rfl

theorem zeroOk_112 : zeroOk Try.prog 112 = true := by kernel_rfl

theorem bytes_112 : Try.prog.bytesOf 112 = 8 := by kernel_rfl

theorem cells_113 : Try.prog.cellsOf 113 = 1 := by kernel_rfl

theorem zeroOk_113 : zeroOk Try.prog 113 = true := by kernel_rfl

theorem bytes_113 : Try.prog.bytesOf 113 = 24 := by kernel_rfl

theorem zeroV_113 : zeroV Try.prog 113 = [Value.slice none 0 0] := by kernel_rfl

theorem cells_114 : Try.prog.cellsOf 114 = 1 := by kernel_rfl

theorem zeroOk_114 : zeroOk Try.prog 114 = true := by kernel_rfl

theorem bytes_114 : Try.prog.bytesOf 114 = 8 := by kernel_rfl

theorem cells_115 : Try.prog.cellsOf 115 = 1 := by kernel_rfl

theorem zeroOk_115 : zeroOk Try.prog 115 = true := by kernel_rfl

theorem bytes_115 : Try.prog.bytesOf 115 = 8 := by kernel_rfl

theorem cells_116 : Try.prog.cellsOf 116 = 1 := by kernel_rfl

theorem zeroOk_116 : zeroOk Try.prog 116 = true := by kernel_rfl

theorem bytes_116 : Try.prog.bytesOf 116 = 8 := by kernel_rfl

theorem zeroV_116 : zeroV Try.prog 116 = [Value.pointer none] := by kernel_rfl

theorem cells_117 : Try.prog.cellsOf 117 = 1 := by kernel_rfl

theorem zeroOk_117 : zeroOk Try.prog 117 = true := by kernel_rfl

theorem bytes_117 : Try.prog.bytesOf 117 = 8 := by kernel_rfl

theorem cells_118 : Try.prog.cellsOf 118 = 1 := by kernel_rfl

theorem zeroOk_118 : zeroOk Try.prog 118 = true := by kernel_rfl

theorem bytes_118 : Try.prog.bytesOf 118 = 8 := by kernel_rfl

theorem zeroV_118 : zeroV Try.prog 118 = [Value.pointer none] := by kernel_rfl

theorem cells_119 : Try.prog.cellsOf 119 = 1 := by kernel_rfl

theorem zeroOk_119 : zeroOk Try.prog 119 = true := by kernel_rfl

theorem bytes_119 : Try.prog.bytesOf 119 = 24 := by kernel_rfl

theorem zeroV_119 : zeroV Try.prog 119 = [Value.slice none 0 0] := by kernel_rfl

theorem cells_120 : Try.prog.cellsOf 120 = 1 := by kernel_rfl

theorem zeroOk_120 : zeroOk Try.prog 120 = true := by kernel_rfl

theorem bytes_120 : Try.prog.bytesOf 120 = 8 := by kernel_rfl

theorem cells_121 : Try.prog.cellsOf 121 = 1 := by kernel_rfl

theorem zeroOk_121 : zeroOk Try.prog 121 = true := by kernel_rfl

theorem bytes_121 : Try.prog.bytesOf 121 = 8 := by kernel_rfl

theorem cells_122 : Try.prog.cellsOf 122 = 1 := by kernel_rfl

theorem zeroOk_122 : zeroOk Try.prog 122 = true := by kernel_rfl

theorem bytes_122 : Try.prog.bytesOf 122 = 8 := by kernel_rfl

theorem cells_123 : Try.prog.cellsOf 123 = 1 := by kernel_rfl

theorem zeroOk_123 : zeroOk Try.prog 123 = true := by kernel_rfl

theorem bytes_123 : Try.prog.bytesOf 123 = 8 := by kernel_rfl

theorem cells_124 : Try.prog.cellsOf 124 = 1 := by kernel_rfl

theorem zeroOk_124 : zeroOk Try.prog 124 = true := by kernel_rfl

theorem bytes_124 : Try.prog.bytesOf 124 = 8 := by kernel_rfl

theorem cells_125 : Try.prog.cellsOf 125 = 1 := by kernel_rfl

theorem zeroOk_125 : zeroOk Try.prog 125 = true := by kernel_rfl

theorem bytes_125 : Try.prog.bytesOf 125 = 24 := by kernel_rfl

theorem zeroV_125 : zeroV Try.prog 125 = [Value.slice none 0 0] := by kernel_rfl

theorem cells_126 : Try.prog.cellsOf 126 = 1 := by kernel_rfl

theorem zeroOk_126 : zeroOk Try.prog 126 = true := by kernel_rfl

theorem bytes_126 : Try.prog.bytesOf 126 = 8 := by kernel_rfl

theorem cells_127 : Try.prog.cellsOf 127 = 1 := by kernel_rfl

theorem zeroOk_127 : zeroOk Try.prog 127 = true := by kernel_rfl

theorem bytes_127 : Try.prog.bytesOf 127 = 8 := by kernel_rfl

theorem zeroV_127 : zeroV Try.prog 127 = [Value.pointer none] := by kernel_rfl

theorem cells_128 : Try.prog.cellsOf 128 = 1 := by kernel_rfl

theorem zeroOk_128 : zeroOk Try.prog 128 = true := by kernel_rfl

theorem bytes_128 : Try.prog.bytesOf 128 = 8 := by kernel_rfl

theorem cells_129 : Try.prog.cellsOf 129 = 1 := by kernel_rfl

theorem zeroOk_129 : zeroOk Try.prog 129 = true := by kernel_rfl

theorem bytes_129 : Try.prog.bytesOf 129 = 8 := by kernel_rfl

theorem cells_130 : Try.prog.cellsOf 130 = 1 := by kernel_rfl

theorem zeroOk_130 : zeroOk Try.prog 130 = true := by kernel_rfl

theorem bytes_130 : Try.prog.bytesOf 130 = 8 := by kernel_rfl

theorem zeroOf_130 : zeroOf Try.prog 130 = some (Value.int .u64 0) := by kernel_rfl

theorem zeroV_130 : zeroV Try.prog 130 = [Value.int .u64 0] := by kernel_rfl

theorem cells_131 : Try.prog.cellsOf 131 = 1 := by kernel_rfl

theorem zeroOk_131 : zeroOk Try.prog 131 = true := by kernel_rfl

theorem bytes_131 : Try.prog.bytesOf 131 = 4 := by kernel_rfl

theorem zeroOf_131 : zeroOf Try.prog 131 = some (Value.int .u32 0) := by kernel_rfl

theorem zeroV_131 : zeroV Try.prog 131 = [Value.int .u32 0] := by kernel_rfl

theorem cells_133 : Try.prog.cellsOf 133 = 1 := by kernel_rfl

theorem zeroOk_133 : zeroOk Try.prog 133 = true := by kernel_rfl

theorem bytes_133 : Try.prog.bytesOf 133 = 8 := by kernel_rfl

theorem cells_134 : Try.prog.cellsOf 134 = 4 := by kernel_rfl

theorem zeroOk_134 : zeroOk Try.prog 134 = true := by kernel_rfl

theorem bytes_134 : Try.prog.bytesOf 134 = 40 := by kernel_rfl

theorem zeroV_134 : zeroV Try.prog 134 = [Value.pointer none, Value.pointer none, Value.pointer none, Value.string ⟨#[]⟩] := by kernel_rfl

theorem cells_135 : Try.prog.cellsOf 135 = 4 := by kernel_rfl

theorem zeroOk_135 : zeroOk Try.prog 135 = true := by kernel_rfl

theorem bytes_135 : Try.prog.bytesOf 135 = 40 := by kernel_rfl

theorem zeroV_135 : zeroV Try.prog 135 = [Value.pointer none, Value.pointer none, Value.pointer none, Value.string ⟨#[]⟩] := by kernel_rfl

theorem cells_136 : Try.prog.cellsOf 136 = 0 := by kernel_rfl

theorem zeroOk_136 : zeroOk Try.prog 136 = true := by kernel_rfl

theorem bytes_136 : Try.prog.bytesOf 136 = 0 := by kernel_rfl

theorem zeroV_136 : zeroV Try.prog 136 = [] := by kernel_rfl

theorem cells_137 : Try.prog.cellsOf 137 = 0 := by kernel_rfl

theorem zeroOk_137 : zeroOk Try.prog 137 = true := by kernel_rfl

theorem bytes_137 : Try.prog.bytesOf 137 = 0 := by kernel_rfl

theorem zeroV_137 : zeroV Try.prog 137 = [] := by kernel_rfl

theorem cells_138 : Try.prog.cellsOf 138 = 0 := by kernel_rfl

theorem zeroOk_138 : zeroOk Try.prog 138 = true := by kernel_rfl

theorem bytes_138 : Try.prog.bytesOf 138 = 0 := by kernel_rfl

theorem zeroV_138 : zeroV Try.prog 138 = [] := by kernel_rfl

theorem cells_139 : Try.prog.cellsOf 139 = 1 := by kernel_rfl

theorem zeroOk_139 : zeroOk Try.prog 139 = true := by kernel_rfl

theorem bytes_139 : Try.prog.bytesOf 139 = 8 := by kernel_rfl

theorem cells_140 : Try.prog.cellsOf 140 = 1 := by kernel_rfl

theorem zeroOk_140 : zeroOk Try.prog 140 = true := by kernel_rfl

theorem bytes_140 : Try.prog.bytesOf 140 = 1 := by kernel_rfl

theorem zeroV_140 : zeroV Try.prog 140 = [Value.int .u8 0] := by kernel_rfl

theorem cells_141 : Try.prog.cellsOf 141 = 1 := by kernel_rfl

theorem zeroOk_141 : zeroOk Try.prog 141 = true := by kernel_rfl

theorem bytes_141 : Try.prog.bytesOf 141 = 1 := by kernel_rfl

theorem zeroV_141 : zeroV Try.prog 141 = [Value.int .u8 0] := by kernel_rfl

theorem cells_142 : Try.prog.cellsOf 142 = 1 := by kernel_rfl

theorem zeroOk_142 : zeroOk Try.prog 142 = true := by kernel_rfl

theorem bytes_142 : Try.prog.bytesOf 142 = 8 := by kernel_rfl

theorem cells_143 : Try.prog.cellsOf 143 = 1 := by kernel_rfl

theorem zeroOk_143 : zeroOk Try.prog 143 = true := by kernel_rfl

theorem bytes_143 : Try.prog.bytesOf 143 = 8 := by kernel_rfl

theorem zeroV_143 : zeroV Try.prog 143 = [Value.pointer none] := by kernel_rfl

theorem cells_144 : Try.prog.cellsOf 144 = 1 := by kernel_rfl

theorem zeroOk_144 : zeroOk Try.prog 144 = true := by kernel_rfl

theorem bytes_144 : Try.prog.bytesOf 144 = 4 := by kernel_rfl

theorem zeroV_144 : zeroV Try.prog 144 = [Value.int .i32 0] := by kernel_rfl

theorem cells_145 : Try.prog.cellsOf 145 = 1 := by kernel_rfl

theorem zeroOk_145 : zeroOk Try.prog 145 = true := by kernel_rfl

theorem bytes_145 : Try.prog.bytesOf 145 = 4 := by kernel_rfl

theorem zeroV_145 : zeroV Try.prog 145 = [Value.int .i32 0] := by kernel_rfl

theorem cells_146 : Try.prog.cellsOf 146 = 11 := by kernel_rfl

theorem zeroOk_146 : zeroOk Try.prog 146 = true := by kernel_rfl

theorem bytes_146 : Try.prog.bytesOf 146 = 48 := by kernel_rfl

theorem cells_147 : Try.prog.cellsOf 147 = 11 := by kernel_rfl

theorem zeroOk_147 : zeroOk Try.prog 147 = true := by kernel_rfl

theorem bytes_147 : Try.prog.bytesOf 147 = 48 := by kernel_rfl

theorem seq_26 : StructEq Try.prog 26 4 = True := eq_true (structEq_of (by kernel_rfl) (by kernel_rfl) (by kernel_rfl) (by kernel_rfl))

theorem seq_32 : StructEq Try.prog 32 4 = True := eq_true (structEq_of (by kernel_rfl) (by kernel_rfl) (by kernel_rfl) (by kernel_rfl))

theorem seq_44 : StructEq Try.prog 44 15 = True := eq_true (structEq_of (by kernel_rfl) (by kernel_rfl) (by kernel_rfl) (by kernel_rfl))

attribute [go_sem] rvk rv_fin rv_dead rv_still rv_calc rv_one rav_some ruk ru_fin ru_pure ru_still ru_calc calc_b calc_fa intAV_int ru_one rau_some rs_n rs_t rs_c rs_k jr_1 jr_2 jr_3 jr_4 ps_r ps_n px_r px_n St.after killSs killOs newN dropO killN allU fillP rn_build listT rap_some rp_one rp_pure rp_fin rpk guard_ud ck_t ck_f rik Int.toNat_natCast drop_at kx_r kx_e in_n in_r in_e po_n po_r rn_nil rn_guard guard_tt guard_ff guard_tf guard_ft guard_un next_some rn_call rn_move rn_assign rn_pick rn_alloc rn_box rn_buildSlice rn_load rn_store rn_nilCheck rn_binOp rn_unOp rn_convert rn_makeFunc rn_makeSlice rn_slice rn_fieldAddr rn_field rn_indexAddr rn_index rn_extract rn_lookup rn_entry rn_makeMap rn_range rn_mapUpdate rn_insert rn_next keyD keyI lookD_mpI setKV_mpI setKV_nil keysAre_mpI keysAre_nil mpI_len keyB_int rn_builtin stepOp actOp pureOp St.ev look AV.split AV.one St.new St.puto St.put put killS killO lookO putO delO AV.refs AV.refsL OB.refs St.adopt adoptL loadD loadA tAgg guardOf binD unD pick_t pick_f pick_b one_s one_i one_b one_l one_p rc_eq rc_some AV.pack allD storeOb fillA denseA buildA obCells srcCells OB.fill OB.join obOf zeroD kx_n ri_nil ri_cons ra_some inB eqInts Bool.false_eq_true Bool.or_false Bool.or_self List.drop_succ_cons List.drop_zero List.take_succ_cons List.take_zero List.take_nil List.drop_nil List.getD_cons_zero List.getD_cons_succ ne_eq not_false_eq_true Nat.zero_add Nat.add_zero Bool.not_true Bool.not_false cond_true cond_false true_and and_true List.map_cons List.map_nil List.length_cons List.length_nil List.getElem?_toArray List.getElem?_cons_zero List.getElem?_cons_succ Option.map_some Option.map_none Option.isSome_some List.nil_append List.cons_append List.append_nil Int.toNat_zero Nat.zero_mul Nat.mul_one cells_1 cells_2 cells_3 cells_4 cells_5 cells_6 cells_7 cells_8 cells_9 cells_10 cells_11 cells_12 cells_13 cells_14 cells_15 cells_16 cells_17 cells_18 cells_19 cells_21 cells_22 cells_23 cells_25 cells_26 cells_27 cells_28 cells_29 cells_30 cells_31 cells_32 cells_33 cells_34 cells_36 cells_37 cells_38 cells_39 cells_40 cells_42 cells_43 cells_44 cells_45 cells_46 cells_47 cells_48 cells_49 cells_51 cells_52 cells_53 cells_55 cells_56 cells_57 cells_58 cells_59 cells_60 cells_61 cells_62 cells_63 cells_64 cells_65 cells_66 cells_67 cells_68 cells_69 cells_70 cells_71 cells_72 cells_73 cells_75 cells_77 cells_78 cells_79 cells_80 cells_81 cells_82 cells_83 cells_84 cells_85 cells_86 cells_87 cells_88 cells_89 cells_90 cells_91 cells_92 cells_93 cells_94 cells_95 cells_96 cells_97 cells_98 cells_99 cells_100 cells_101 cells_102 cells_103 cells_104 cells_105 cells_106 cells_107 cells_108 cells_109 cells_110 cells_111 cells_112 cells_113 cells_114 cells_115 cells_116 cells_117 cells_118 cells_119 cells_120 cells_121 cells_122 cells_123 cells_124 cells_125 cells_126 cells_127 cells_128 cells_129 cells_130 cells_131 cells_133 cells_134 cells_135 cells_136 cells_137 cells_138 cells_139 cells_140 cells_141 cells_142 cells_143 cells_144 cells_145 cells_146 cells_147 zeroOk_1 bytes_1 zeroOk_2 bytes_2 zeroOf_2 zeroV_2 zeroOk_3 bytes_3 zeroOf_3 zeroV_3 zeroOk_4 bytes_4 zeroOf_4 zeroV_4 zeroOk_5 bytes_5 zeroOf_5 zeroV_5 zeroOk_6 bytes_6 zeroV_6 zeroOk_7 bytes_7 zeroV_7 zeroOk_8 bytes_8 zeroV_8 zeroOk_9 bytes_9 zeroV_9 zeroOk_10 bytes_10 zeroV_10 zeroOk_11 bytes_11 zeroV_11 zeroOk_12 bytes_12 zeroOf_12 zeroV_12 zeroOk_13 bytes_13 zeroV_13 zeroOk_14 bytes_14 zeroV_14 zeroOk_15 bytes_15 zeroV_15 zeroOk_16 bytes_16 zeroV_16 zeroOk_17 bytes_17 zeroV_17 zeroOk_18 bytes_18 zeroV_18 zeroOk_19 bytes_19 zeroV_19 zeroOk_21 bytes_21 zeroOf_21 zeroV_21 zeroOk_22 bytes_22 zeroV_22 zeroOk_23 bytes_23 zeroV_23 zeroOk_25 bytes_25 zeroOk_26 bytes_26 zeroV_26 zeroOk_27 bytes_27 zeroOk_28 bytes_28 zeroOk_29 bytes_29 zeroV_29 zeroOk_30 bytes_30 zeroV_30 zeroOk_31 bytes_31 zeroOk_32 bytes_32 zeroV_32 zeroOk_33 bytes_33 zeroOk_34 bytes_34 zeroOk_36 bytes_36 zeroOk_37 bytes_37 zeroOk_38 bytes_38 zeroOk_39 bytes_39 zeroV_39 zeroOk_40 bytes_40 zeroV_40 zeroOk_42 bytes_42 zeroOk_43 bytes_43 zeroV_43 zeroOk_44 bytes_44 zeroV_44 zeroOk_45 bytes_45 zeroOk_46 bytes_46 zeroOk_47 bytes_47 zeroOk_48 bytes_48 zeroOk_49 bytes_49 zeroV_49 zeroOk_51 bytes_51 zeroOk_52 bytes_52 zeroOk_53 bytes_53 zeroOk_55 bytes_55 zeroOk_56 bytes_56 zeroV_56 zeroOk_57 bytes_57 zeroV_57 zeroOk_58 bytes_58 zeroV_58 zeroOk_59 bytes_59 zeroOk_60 bytes_60 zeroOk_61 bytes_61 zeroV_61 zeroOk_62 bytes_62 zeroV_62 zeroOk_63 bytes_63 zeroV_63 zeroOk_64 bytes_64 zeroOk_65 bytes_65 zeroOk_66 bytes_66 zeroOk_67 bytes_67 zeroOk_68 bytes_68 zeroOk_69 bytes_69 zeroOk_70 bytes_70 zeroOk_71 bytes_71 zeroOk_72 bytes_72 zeroOk_73 bytes_73 zeroOk_75 bytes_75 zeroOk_77 bytes_77 zeroOk_78 bytes_78 zeroOk_79 bytes_79 zeroOk_80 bytes_80 zeroOk_81 bytes_81 zeroOk_82 bytes_82 zeroOk_83 bytes_83 zeroV_83 zeroOk_84 bytes_84 zeroV_84 zeroOk_85 bytes_85 zeroOk_86 bytes_86 zeroOk_87 bytes_87 zeroOk_88 bytes_88 zeroOk_89 bytes_89 zeroOk_90 bytes_90 zeroOk_91 bytes_91 zeroOk_92 bytes_92 zeroOk_93 bytes_93 zeroOk_94 bytes_94 zeroOk_95 bytes_95 zeroOk_96 bytes_96 zeroOk_97 bytes_97 zeroOk_98 bytes_98 zeroOk_99 bytes_99 zeroOk_100 bytes_100 zeroOk_101 bytes_101 zeroOk_102 bytes_102 zeroV_102 zeroOk_103 bytes_103 zeroOk_104 bytes_104 zeroOk_105 bytes_105 zeroOk_106 bytes_106 zeroOk_107 bytes_107 zeroV_107 zeroOk_108 bytes_108 zeroV_108 zeroOk_109 bytes_109 zeroOk_110 bytes_110 zeroOk_111 bytes_111 zeroV_111 zeroOk_112 bytes_112 zeroOk_113 bytes_113 zeroV_113 zeroOk_114 bytes_114 zeroOk_115 bytes_115 zeroOk_116 bytes_116 zeroV_116 zeroOk_117 bytes_117 zeroOk_118 bytes_118 zeroV_118 zeroOk_119 bytes_119 zeroV_119 zeroOk_120 bytes_120 zeroOk_121 bytes_121 zeroOk_122 bytes_122 zeroOk_123 bytes_123 zeroOk_124 bytes_124 zeroOk_125 bytes_125 zeroV_125 zeroOk_126 bytes_126 zeroOk_127 bytes_127 zeroV_127 zeroOk_128 bytes_128 zeroOk_129 bytes_129 zeroOk_130 bytes_130 zeroOf_130 zeroV_130 zeroOk_131 bytes_131 zeroOf_131 zeroV_131 zeroOk_133 bytes_133 zeroOk_134 bytes_134 zeroV_134 zeroOk_135 bytes_135 zeroV_135 zeroOk_136 bytes_136 zeroV_136 zeroOk_137 bytes_137 zeroV_137 zeroOk_138 bytes_138 zeroV_138 zeroOk_139 bytes_139 zeroOk_140 bytes_140 zeroV_140 zeroOk_141 bytes_141 zeroV_141 zeroOk_142 bytes_142 zeroOk_143 bytes_143 zeroV_143 zeroOk_144 bytes_144 zeroV_144 zeroOk_145 bytes_145 zeroV_145 zeroOk_146 bytes_146 zeroOk_147 bytes_147 seq_26 seq_32 seq_44 Try.underlying1 Try.underlying2 Try.underlying3 Try.underlying4 Try.underlying5 Try.underlying6 Try.underlying7 Try.underlying8 Try.underlying9 Try.underlying10 Try.underlying11 Try.underlying12 Try.underlying13 Try.underlying14 Try.underlying15 Try.underlying16 Try.underlying17 Try.underlying18 Try.underlying19 Try.underlying21 Try.underlying22 Try.underlying23 Try.underlying25 Try.underlying26 Try.underlying27 Try.underlying28 Try.underlying29 Try.underlying30 Try.underlying31 Try.underlying32 Try.underlying33 Try.underlying34 Try.underlying36 Try.underlying37 Try.underlying38 Try.underlying39 Try.underlying40 Try.underlying42 Try.underlying43 Try.underlying44 Try.underlying45 Try.underlying46 Try.underlying47 Try.underlying48 Try.underlying49 Try.underlying51 Try.underlying52 Try.underlying53 Try.underlying55 Try.underlying56 Try.underlying57 Try.underlying58 Try.underlying59 Try.underlying60 Try.underlying61 Try.underlying62 Try.underlying63 Try.underlying64 Try.underlying65 Try.underlying66 Try.underlying67 Try.underlying68 Try.underlying69 Try.underlying70 Try.underlying71 Try.underlying72 Try.underlying73 Try.underlying75 Try.underlying77 Try.underlying78 Try.underlying79 Try.underlying80 Try.underlying81 Try.underlying82 Try.underlying83 Try.underlying84 Try.underlying85 Try.underlying86 Try.underlying87 Try.underlying88 Try.underlying89 Try.underlying90 Try.underlying91 Try.underlying92 Try.underlying93 Try.underlying94 Try.underlying95 Try.underlying96 Try.underlying97 Try.underlying98 Try.underlying99 Try.underlying100 Try.underlying101 Try.underlying102 Try.underlying103 Try.underlying104 Try.underlying105 Try.underlying106 Try.underlying107 Try.underlying108 Try.underlying109 Try.underlying110 Try.underlying111 Try.underlying112 Try.underlying113 Try.underlying114 Try.underlying115 Try.underlying116 Try.underlying117 Try.underlying118 Try.underlying119 Try.underlying120 Try.underlying121 Try.underlying122 Try.underlying123 Try.underlying124 Try.underlying125 Try.underlying126 Try.underlying127 Try.underlying128 Try.underlying129 Try.underlying130 Try.underlying131 Try.underlying133 Try.underlying134 Try.underlying135 Try.underlying136 Try.underlying137 Try.underlying138 Try.underlying139 Try.underlying140 Try.underlying141 Try.underlying142 Try.underlying143 Try.underlying144 Try.underlying145 Try.underlying146 Try.underlying147

end Go.Proofs.Yteimddagjikcaaa
