/- How many cells a value of each type has. -/
import Derived.Test.YtdeobicgildamaaDoorRows
import Derived.Test.YtdeobicgildamaaDoorFlowS
import Derived.Test.YtdeobicgildamaaDoorBase
import Derived.Test.YtdeobicgildamaaDoorLoops
import Derived.WalkKit
import Derived.WalkSpells
import Derived.KernelRfl
namespace Go.Proofs.YtdeobicgildamaaDoor
open Go.RowKit
set_option linter.unusedVariables false
set_option linter.unusedSimpArgs false

theorem cells_1 : Tryd.prog.cellsOf 1 = 1 := by kernel_rfl

theorem zeroOk_1 : zeroOk Tryd.prog 1 = true := by kernel_rfl

theorem bytes_1 : Tryd.prog.bytesOf 1 = 8 := by kernel_rfl

theorem cells_2 : Tryd.prog.cellsOf 2 = 1 := by kernel_rfl

theorem zeroOk_2 : zeroOk Tryd.prog 2 = true := by kernel_rfl

theorem bytes_2 : Tryd.prog.bytesOf 2 = 8 := by kernel_rfl

theorem zeroOf_2 : zeroOf Tryd.prog 2 = some (Value.int .i64 0) := by kernel_rfl

theorem zeroV_2 : zeroV Tryd.prog 2 = [Value.int .i64 0] := by kernel_rfl

theorem cells_3 : Tryd.prog.cellsOf 3 = 1 := by kernel_rfl

theorem zeroOk_3 : zeroOk Tryd.prog 3 = true := by kernel_rfl

theorem bytes_3 : Tryd.prog.bytesOf 3 = 8 := by kernel_rfl

theorem zeroOf_3 : zeroOf Tryd.prog 3 = some (Value.int .i64 0) := by kernel_rfl

theorem zeroV_3 : zeroV Tryd.prog 3 = [Value.int .i64 0] := by kernel_rfl

theorem cells_4 : Tryd.prog.cellsOf 4 = 1 := by kernel_rfl

theorem zeroOk_4 : zeroOk Tryd.prog 4 = true := by kernel_rfl

theorem bytes_4 : Tryd.prog.bytesOf 4 = 1 := by kernel_rfl

theorem zeroOf_4 : zeroOf Tryd.prog 4 = some (Value.bool false) := by kernel_rfl

theorem zeroV_4 : zeroV Tryd.prog 4 = [Value.bool false] := by kernel_rfl

theorem cells_5 : Tryd.prog.cellsOf 5 = 1 := by kernel_rfl

theorem zeroOk_5 : zeroOk Tryd.prog 5 = true := by kernel_rfl

theorem bytes_5 : Tryd.prog.bytesOf 5 = 1 := by kernel_rfl

theorem zeroOf_5 : zeroOf Tryd.prog 5 = some (Value.int .u8 0) := by kernel_rfl

theorem zeroV_5 : zeroV Tryd.prog 5 = [Value.int .u8 0] := by kernel_rfl

theorem cells_6 : Tryd.prog.cellsOf 6 = 1 := by kernel_rfl

theorem zeroOk_6 : zeroOk Tryd.prog 6 = true := by kernel_rfl

theorem bytes_6 : Tryd.prog.bytesOf 6 = 1 := by kernel_rfl

theorem zeroV_6 : zeroV Tryd.prog 6 = [Value.int .u8 0] := by kernel_rfl

theorem cells_7 : Tryd.prog.cellsOf 7 = 4 := by kernel_rfl

theorem zeroOk_7 : zeroOk Tryd.prog 7 = true := by kernel_rfl

theorem bytes_7 : Tryd.prog.bytesOf 7 = 24 := by kernel_rfl

theorem zeroV_7 : zeroV Tryd.prog 7 = [Value.int .i64 0, Value.int .i64 0, Value.bool false, Value.int .u8 0] := by kernel_rfl

theorem cells_8 : Tryd.prog.cellsOf 8 = 4 := by kernel_rfl

theorem zeroOk_8 : zeroOk Tryd.prog 8 = true := by kernel_rfl

theorem bytes_8 : Tryd.prog.bytesOf 8 = 24 := by kernel_rfl

theorem zeroV_8 : zeroV Tryd.prog 8 = [Value.int .i64 0, Value.int .i64 0, Value.bool false, Value.int .u8 0] := by kernel_rfl

theorem cells_9 : Tryd.prog.cellsOf 9 = 1 := by kernel_rfl

theorem zeroOk_9 : zeroOk Tryd.prog 9 = true := by kernel_rfl

theorem bytes_9 : Tryd.prog.bytesOf 9 = 16 := by kernel_rfl

theorem zeroV_9 : zeroV Tryd.prog 9 = [Value.string ⟨#[]⟩] := by kernel_rfl

theorem cells_10 : Tryd.prog.cellsOf 10 = 1 := by kernel_rfl

theorem zeroOk_10 : zeroOk Tryd.prog 10 = true := by kernel_rfl

theorem bytes_10 : Tryd.prog.bytesOf 10 = 16 := by kernel_rfl

theorem zeroV_10 : zeroV Tryd.prog 10 = [Value.string ⟨#[]⟩] := by kernel_rfl

theorem cells_11 : Tryd.prog.cellsOf 11 = 1 := by kernel_rfl

theorem zeroOk_11 : zeroOk Tryd.prog 11 = true := by kernel_rfl

theorem bytes_11 : Tryd.prog.bytesOf 11 = 16 := by kernel_rfl

theorem zeroV_11 : zeroV Tryd.prog 11 = [Value.string ⟨#[]⟩] := by kernel_rfl

theorem cells_12 : Tryd.prog.cellsOf 12 = 1 := by kernel_rfl

theorem zeroOk_12 : zeroOk Tryd.prog 12 = true := by kernel_rfl

theorem bytes_12 : Tryd.prog.bytesOf 12 = 8 := by kernel_rfl

theorem zeroOf_12 : zeroOf Tryd.prog 12 = some (Value.int .u64 0) := by kernel_rfl

theorem zeroV_12 : zeroV Tryd.prog 12 = [Value.int .u64 0] := by kernel_rfl

theorem cells_13 : Tryd.prog.cellsOf 13 = 2 := by kernel_rfl

theorem zeroOk_13 : zeroOk Tryd.prog 13 = true := by kernel_rfl

theorem bytes_13 : Tryd.prog.bytesOf 13 = 24 := by kernel_rfl

theorem zeroV_13 : zeroV Tryd.prog 13 = [Value.string ⟨#[]⟩, Value.int .u64 0] := by kernel_rfl

theorem cells_14 : Tryd.prog.cellsOf 14 = 2 := by kernel_rfl

theorem zeroOk_14 : zeroOk Tryd.prog 14 = true := by kernel_rfl

theorem bytes_14 : Tryd.prog.bytesOf 14 = 24 := by kernel_rfl

theorem zeroV_14 : zeroV Tryd.prog 14 = [Value.string ⟨#[]⟩, Value.int .u64 0] := by kernel_rfl

theorem cells_15 : Tryd.prog.cellsOf 15 = 1 := by kernel_rfl

theorem zeroOk_15 : zeroOk Tryd.prog 15 = true := by kernel_rfl

theorem bytes_15 : Tryd.prog.bytesOf 15 = 8 := by kernel_rfl

theorem zeroV_15 : zeroV Tryd.prog 15 = [Value.pointer none] := by kernel_rfl

theorem cells_16 : Tryd.prog.cellsOf 16 = 1 := by kernel_rfl

theorem zeroOk_16 : zeroOk Tryd.prog 16 = true := by kernel_rfl

theorem bytes_16 : Tryd.prog.bytesOf 16 = 8 := by kernel_rfl

theorem zeroV_16 : zeroV Tryd.prog 16 = [Value.pointer none] := by kernel_rfl

theorem cells_17 : Tryd.prog.cellsOf 17 = 1 := by kernel_rfl

theorem zeroOk_17 : zeroOk Tryd.prog 17 = true := by kernel_rfl

theorem bytes_17 : Tryd.prog.bytesOf 17 = 8 := by kernel_rfl

theorem zeroV_17 : zeroV Tryd.prog 17 = [Value.pointer none] := by kernel_rfl

theorem cells_18 : Tryd.prog.cellsOf 18 = 1 := by kernel_rfl

theorem zeroOk_18 : zeroOk Tryd.prog 18 = true := by kernel_rfl

theorem bytes_18 : Tryd.prog.bytesOf 18 = 8 := by kernel_rfl

theorem zeroV_18 : zeroV Tryd.prog 18 = [Value.pointer none] := by kernel_rfl

theorem cells_19 : Tryd.prog.cellsOf 19 = 1 := by kernel_rfl

theorem zeroOk_19 : zeroOk Tryd.prog 19 = true := by kernel_rfl

theorem bytes_19 : Tryd.prog.bytesOf 19 = 8 := by kernel_rfl

theorem zeroV_19 : zeroV Tryd.prog 19 = [Value.pointer none] := by kernel_rfl

theorem cells_21 : Tryd.prog.cellsOf 21 = 1 := by kernel_rfl

theorem zeroOk_21 : zeroOk Tryd.prog 21 = true := by kernel_rfl

theorem bytes_21 : Tryd.prog.bytesOf 21 = 4 := by kernel_rfl

theorem zeroOf_21 : zeroOf Tryd.prog 21 = some (Value.int .i32 0) := by kernel_rfl

theorem zeroV_21 : zeroV Tryd.prog 21 = [Value.int .i32 0] := by kernel_rfl

theorem cells_22 : Tryd.prog.cellsOf 22 = 1 := by kernel_rfl

theorem zeroOk_22 : zeroOk Tryd.prog 22 = true := by kernel_rfl

theorem bytes_22 : Tryd.prog.bytesOf 22 = 24 := by kernel_rfl

theorem zeroV_22 : zeroV Tryd.prog 22 = [Value.slice none 0 0] := by kernel_rfl

theorem cells_24 : Tryd.prog.cellsOf 24 = 1 := by kernel_rfl

theorem zeroOk_24 : zeroOk Tryd.prog 24 = true := by kernel_rfl

theorem bytes_24 : Tryd.prog.bytesOf 24 = 8 := by kernel_rfl

theorem cells_25 : Tryd.prog.cellsOf 25 = 1 := by kernel_rfl

theorem zeroOk_25 : zeroOk Tryd.prog 25 = true := by kernel_rfl

theorem bytes_25 : Tryd.prog.bytesOf 25 = 8 := by kernel_rfl

theorem cells_26 : Tryd.prog.cellsOf 26 = 1 := by kernel_rfl

theorem zeroOk_26 : zeroOk Tryd.prog 26 = true := by kernel_rfl

theorem bytes_26 : Tryd.prog.bytesOf 26 = 8 := by kernel_rfl

theorem cells_27 : Tryd.prog.cellsOf 27 = 1 := by kernel_rfl

theorem zeroOk_27 : zeroOk Tryd.prog 27 = true := by kernel_rfl

theorem bytes_27 : Tryd.prog.bytesOf 27 = 8 := by kernel_rfl

theorem cells_28 : Tryd.prog.cellsOf 28 = 1 := by kernel_rfl

theorem zeroOk_28 : zeroOk Tryd.prog 28 = true := by kernel_rfl

theorem bytes_28 : Tryd.prog.bytesOf 28 = 8 := by kernel_rfl

theorem cells_30 : Tryd.prog.cellsOf 30 = 1 := by kernel_rfl

theorem zeroOk_30 : zeroOk Tryd.prog 30 = true := by kernel_rfl

theorem bytes_30 : Tryd.prog.bytesOf 30 = 8 := by kernel_rfl

theorem cells_31 : Tryd.prog.cellsOf 31 = 1 := by kernel_rfl

theorem zeroOk_31 : zeroOk Tryd.prog 31 = true := by kernel_rfl

theorem bytes_31 : Tryd.prog.bytesOf 31 = 8 := by kernel_rfl

theorem cells_32 : Tryd.prog.cellsOf 32 = 1 := by kernel_rfl

theorem zeroOk_32 : zeroOk Tryd.prog 32 = true := by kernel_rfl

theorem bytes_32 : Tryd.prog.bytesOf 32 = 8 := by kernel_rfl

theorem cells_33 : Tryd.prog.cellsOf 33 = 1 := by kernel_rfl

theorem zeroOk_33 : zeroOk Tryd.prog 33 = true := by kernel_rfl

theorem bytes_33 : Tryd.prog.bytesOf 33 = 24 := by kernel_rfl

theorem zeroV_33 : zeroV Tryd.prog 33 = [Value.slice none 0 0] := by kernel_rfl

theorem cells_34 : Tryd.prog.cellsOf 34 = 1 := by kernel_rfl

theorem zeroOk_34 : zeroOk Tryd.prog 34 = true := by kernel_rfl

theorem bytes_34 : Tryd.prog.bytesOf 34 = 8 := by kernel_rfl

theorem cells_35 : Tryd.prog.cellsOf 35 = 1 := by kernel_rfl

theorem zeroOk_35 : zeroOk Tryd.prog 35 = true := by kernel_rfl

theorem bytes_35 : Tryd.prog.bytesOf 35 = 8 := by kernel_rfl

theorem cells_36 : Tryd.prog.cellsOf 36 = 1 := by kernel_rfl

theorem zeroOk_36 : zeroOk Tryd.prog 36 = true := by kernel_rfl

theorem bytes_36 : Tryd.prog.bytesOf 36 = 8 := by kernel_rfl

theorem cells_37 : Tryd.prog.cellsOf 37 = 1 := by kernel_rfl

theorem zeroOk_37 : zeroOk Tryd.prog 37 = true := by kernel_rfl

theorem bytes_37 : Tryd.prog.bytesOf 37 = 8 := by kernel_rfl

theorem cells_39 : Tryd.prog.cellsOf 39 = 1 := by kernel_rfl

theorem zeroOk_39 : zeroOk Tryd.prog 39 = true := by kernel_rfl

theorem bytes_39 : Tryd.prog.bytesOf 39 = 8 := by kernel_rfl

theorem cells_40 : Tryd.prog.cellsOf 40 = 1 := by kernel_rfl

theorem zeroOk_40 : zeroOk Tryd.prog 40 = true := by kernel_rfl

theorem bytes_40 : Tryd.prog.bytesOf 40 = 8 := by kernel_rfl

theorem cells_41 : Tryd.prog.cellsOf 41 = 1 := by kernel_rfl

theorem zeroOk_41 : zeroOk Tryd.prog 41 = true := by kernel_rfl

theorem bytes_41 : Tryd.prog.bytesOf 41 = 8 := by kernel_rfl

theorem cells_42 : Tryd.prog.cellsOf 42 = 1 := by kernel_rfl

theorem zeroOk_42 : zeroOk Tryd.prog 42 = true := by kernel_rfl

theorem bytes_42 : Tryd.prog.bytesOf 42 = 8 := by kernel_rfl

theorem cells_43 : Tryd.prog.cellsOf 43 = 1 := by kernel_rfl

theorem zeroOk_43 : zeroOk Tryd.prog 43 = true := by kernel_rfl

theorem bytes_43 : Tryd.prog.bytesOf 43 = 8 := by kernel_rfl

theorem cells_44 : Tryd.prog.cellsOf 44 = 1 := by kernel_rfl

theorem zeroOk_44 : zeroOk Tryd.prog 44 = true := by kernel_rfl

theorem bytes_44 : Tryd.prog.bytesOf 44 = 8 := by kernel_rfl

theorem cells_45 : Tryd.prog.cellsOf 45 = 1 := by kernel_rfl

theorem zeroOk_45 : zeroOk Tryd.prog 45 = true := by kernel_rfl

theorem bytes_45 : Tryd.prog.bytesOf 45 = 8 := by kernel_rfl

theorem cells_46 : Tryd.prog.cellsOf 46 = 1 := by kernel_rfl

theorem zeroOk_46 : zeroOk Tryd.prog 46 = true := by kernel_rfl

theorem bytes_46 : Tryd.prog.bytesOf 46 = 8 := by kernel_rfl

theorem zeroV_46 : zeroV Tryd.prog 46 = [Value.pointer none] := by kernel_rfl

theorem cells_47 : Tryd.prog.cellsOf 47 = 1 := by kernel_rfl

theorem zeroOk_47 : zeroOk Tryd.prog 47 = true := by kernel_rfl

theorem bytes_47 : Tryd.prog.bytesOf 47 = 24 := by kernel_rfl

theorem zeroV_47 : zeroV Tryd.prog 47 = [Value.slice none 0 0] := by kernel_rfl

theorem cells_48 : Tryd.prog.cellsOf 48 = 2 := by kernel_rfl

theorem zeroOk_48 : zeroOk Tryd.prog 48 = true := by kernel_rfl

theorem bytes_48 : Tryd.prog.bytesOf 48 = 32 := by kernel_rfl

theorem zeroV_48 : zeroV Tryd.prog 48 = [Value.pointer none, Value.slice none 0 0] := by kernel_rfl

theorem cells_49 : Tryd.prog.cellsOf 49 = 2 := by kernel_rfl

theorem zeroOk_49 : zeroOk Tryd.prog 49 = true := by kernel_rfl

theorem bytes_49 : Tryd.prog.bytesOf 49 = 32 := by kernel_rfl

theorem zeroV_49 : zeroV Tryd.prog 49 = [Value.pointer none, Value.slice none 0 0] := by kernel_rfl

theorem cells_50 : Tryd.prog.cellsOf 50 = 1 := by kernel_rfl

theorem zeroOk_50 : zeroOk Tryd.prog 50 = true := by kernel_rfl

theorem bytes_50 : Tryd.prog.bytesOf 50 = 8 := by kernel_rfl

theorem cells_52 : Tryd.prog.cellsOf 52 = 1 := by kernel_rfl

theorem zeroOk_52 : zeroOk Tryd.prog 52 = true := by kernel_rfl

theorem bytes_52 : Tryd.prog.bytesOf 52 = 16 := by kernel_rfl

theorem cells_54 : Tryd.prog.cellsOf 54 = 1 := by kernel_rfl

theorem zeroOk_54 : zeroOk Tryd.prog 54 = true := by kernel_rfl

theorem bytes_54 : Tryd.prog.bytesOf 54 = 8 := by kernel_rfl

theorem cells_55 : Tryd.prog.cellsOf 55 = 1 := by kernel_rfl

theorem zeroOk_55 : zeroOk Tryd.prog 55 = true := by kernel_rfl

theorem bytes_55 : Tryd.prog.bytesOf 55 = 8 := by kernel_rfl

theorem cells_56 : Tryd.prog.cellsOf 56 = 1 := by kernel_rfl

theorem zeroOk_56 : zeroOk Tryd.prog 56 = true := by kernel_rfl

theorem bytes_56 : Tryd.prog.bytesOf 56 = 8 := by kernel_rfl

theorem cells_58 : Tryd.prog.cellsOf 58 = 1 := by kernel_rfl

theorem zeroOk_58 : zeroOk Tryd.prog 58 = true := by kernel_rfl

theorem bytes_58 : Tryd.prog.bytesOf 58 = 8 := by kernel_rfl

theorem cells_59 : Tryd.prog.cellsOf 59 = 1 := by kernel_rfl

theorem zeroOk_59 : zeroOk Tryd.prog 59 = true := by kernel_rfl

theorem bytes_59 : Tryd.prog.bytesOf 59 = 8 := by kernel_rfl

theorem cells_60 : Tryd.prog.cellsOf 60 = 1 := by kernel_rfl

theorem zeroOk_60 : zeroOk Tryd.prog 60 = true := by kernel_rfl

theorem bytes_60 : Tryd.prog.bytesOf 60 = 8 := by kernel_rfl

theorem zeroV_60 : zeroV Tryd.prog 60 = [Value.pointer none] := by kernel_rfl

theorem cells_61 : Tryd.prog.cellsOf 61 = 1 := by kernel_rfl

theorem zeroOk_61 : zeroOk Tryd.prog 61 = true := by kernel_rfl

theorem bytes_61 : Tryd.prog.bytesOf 61 = 8 := by kernel_rfl

theorem cells_62 : Tryd.prog.cellsOf 62 = 1 := by kernel_rfl

theorem zeroOk_62 : zeroOk Tryd.prog 62 = true := by kernel_rfl

theorem bytes_62 : Tryd.prog.bytesOf 62 = 8 := by kernel_rfl

theorem zeroOf_62 : zeroOf Tryd.prog 62 = some (Value.int .u64 0) := by kernel_rfl

theorem zeroV_62 : zeroV Tryd.prog 62 = [Value.int .u64 0] := by kernel_rfl

theorem cells_64 : Tryd.prog.cellsOf 64 = 1 := by kernel_rfl

theorem zeroOk_64 : zeroOk Tryd.prog 64 = true := by kernel_rfl

theorem bytes_64 : Tryd.prog.bytesOf 64 = 8 := by kernel_rfl

theorem cells_65 : Tryd.prog.cellsOf 65 = 1 := by kernel_rfl

theorem zeroOk_65 : zeroOk Tryd.prog 65 = true := by kernel_rfl

theorem bytes_65 : Tryd.prog.bytesOf 65 = 8 := by kernel_rfl

theorem cells_66 : Tryd.prog.cellsOf 66 = 256 := by kernel_rfl

theorem zeroOk_66 : zeroOk Tryd.prog 66 = true := by kernel_rfl

theorem bytes_66 : Tryd.prog.bytesOf 66 = 256 := by kernel_rfl

theorem zeroV_66 : zeroV Tryd.prog 66 = [Value.int .u8 0, Value.int .u8 0, Value.int .u8 0, Value.int .u8 0, Value.int .u8 0, Value.int .u8 0, Value.int .u8 0, Value.int .u8 0, Value.int .u8 0, Value.int .u8 0, Value.int .u8 0, Value.int .u8 0, Value.int .u8 0, Value.int .u8 0, Value.int .u8 0, Value.int .u8 0, Value.int .u8 0, Value.int .u8 0, Value.int .u8 0, Value.int .u8 0, Value.int .u8 0, Value.int .u8 0, Value.int .u8 0, Value.int .u8 0, Value.int .u8 0, Value.int .u8 0, Value.int .u8 0, Value.int .u8 0, Value.int .u8 0, Value.int .u8 0, Value.int .u8 0, Value.int .u8 0, Value.int .u8 0, Value.int .u8 0, Value.int .u8 0, Value.int .u8 0, Value.int .u8 0, Value.int .u8 0, Value.int .u8 0, Value.int .u8 0, Value.int .u8 0, Value.int .u8 0, Value.int .u8 0, Value.int .u8 0, Value.int .u8 0, Value.int .u8 0, Value.int .u8 0, Value.int .u8 0, Value.int .u8 0, Value.int .u8 0, Value.int .u8 0, Value.int .u8 0, Value.int .u8 0, Value.int .u8 0, Value.int .u8 0, Value.int .u8 0, Value.int .u8 0, Value.int .u8 0, Value.int .u8 0, Value.int .u8 0, Value.int .u8 0, Value.int .u8 0, Value.int .u8 0, Value.int .u8 0, Value.int .u8 0, Value.int .u8 0, Value.int .u8 0, Value.int .u8 0, Value.int .u8 0, Value.int .u8 0, Value.int .u8 0, Value.int .u8 0, Value.int .u8 0, Value.int .u8 0, Value.int .u8 0, Value.int .u8 0, Value.int .u8 0, Value.int .u8 0, Value.int .u8 0, Value.int .u8 0, Value.int .u8 0, Value.int .u8 0, Value.int .u8 0, Value.int .u8 0, Value.int .u8 0, Value.int .u8 0, Value.int .u8 0, Value.int .u8 0, Value.int .u8 0, Value.int .u8 0, Value.int .u8 0, Value.int .u8 0, Value.int .u8 0, Value.int .u8 0, Value.int .u8 0, Value.int .u8 0, Value.int .u8 0, Value.int .u8 0, Value.int .u8 0, Value.int .u8 0, Value.int .u8 0, Value.int .u8 0, Value.int .u8 0, Value.int .u8 0, Value.int .u8 0, Value.int .u8 0, Value.int .u8 0, Value.int .u8 0, Value.int .u8 0, Value.int .u8 0, Value.int .u8 0, Value.int .u8 0, Value.int .u8 0, Value.int .u8 0, Value.int .u8 0, Value.int .u8 0, Value.int .u8 0, Value.int .u8 0, Value.int .u8 0, Value.int .u8 0, Value.int .u8 0, Value.int .u8 0, Value.int .u8 0, Value.int .u8 0, Value.int .u8 0, Value.int .u8 0, Value.int .u8 0, Value.int .u8 0, Value.int .u8 0, Value.int .u8 0, Value.int .u8 0, Value.int .u8 0, Value.int .u8 0, Value.int .u8 0, Value.int .u8 0, Value.int .u8 0, Value.int .u8 0, Value.int .u8 0, Value.int .u8 0, Value.int .u8 0, Value.int .u8 0, Value.int .u8 0, Value.int .u8 0, Value.int .u8 0, Value.int .u8 0, Value.int .u8 0, Value.int .u8 0, Value.int .u8 0, Value.int .u8 0, Value.int .u8 0, Value.int .u8 0, Value.int .u8 0, Value.int .u8 0, Value.int .u8 0, Value.int .u8 0, Value.int .u8 0, Value.int .u8 0, Value.int .u8 0, Value.int .u8 0, Value.int .u8 0, Value.int .u8 0, Value.int .u8 0, Value.int .u8 0, Value.int .u8 0, Value.int .u8 0, Value.int .u8 0, Value.int .u8 0, Value.int .u8 0, Value.int .u8 0, Value.int .u8 0, Value.int .u8 0, Value.int .u8 0, Value.int .u8 0, Value.int .u8 0, Value.int .u8 0, Value.int .u8 0, Value.int .u8 0, Value.int .u8 0, Value.int .u8 0, Value.int .u8 0, Value.int .u8 0, Value.int .u8 0, Value.int .u8 0, Value.int .u8 0, Value.int .u8 0, Value.int .u8 0, Value.int .u8 0, Value.int .u8 0, Value.int .u8 0, Value.int .u8 0, Value.int .u8 0, Value.int .u8 0, Value.int .u8 0, Value.int .u8 0, Value.int .u8 0, Value.int .u8 0, Value.int .u8 0, Value.int .u8 0, Value.int .u8 0, Value.int .u8 0, Value.int .u8 0, Value.int .u8 0, Value.int .u8 0, Value.int .u8 0, Value.int .u8 0, Value.int .u8 0, Value.int .u8 0, Value.int .u8 0, Value.int .u8 0, Value.int .u8 0, Value.int .u8 0, Value.int .u8 0, Value.int .u8 0, Value.int .u8 0, Value.int .u8 0, Value.int .u8 0, Value.int .u8 0, Value.int .u8 0, Value.int .u8 0, Value.int .u8 0, Value.int .u8 0, Value.int .u8 0, Value.int .u8 0, Value.int .u8 0, Value.int .u8 0, Value.int .u8 0, Value.int .u8 0, Value.int .u8 0, Value.int .u8 0, Value.int .u8 0, Value.int .u8 0, Value.int .u8 0, Value.int .u8 0, Value.int .u8 0, Value.int .u8 0, Value.int .u8 0, Value.int .u8 0, Value.int .u8 0, Value.int .u8 0, Value.int .u8 0, Value.int .u8 0, Value.int .u8 0, Value.int .u8 0, Value.int .u8 0, Value.int .u8 0, Value.int .u8 0, Value.int .u8 0, Value.int .u8 0, Value.int .u8 0, Value.int .u8 0, Value.int .u8 0, Value.int .u8 0, Value.int .u8 0, Value.int .u8 0, Value.int .u8 0, Value.int .u8 0] := by kernel_rfl

theorem cells_67 : Tryd.prog.cellsOf 67 = 2 := by kernel_rfl

theorem zeroOk_67 : zeroOk Tryd.prog 67 = true := by kernel_rfl

theorem bytes_67 : Tryd.prog.bytesOf 67 = 2 := by kernel_rfl

theorem zeroV_67 : zeroV Tryd.prog 67 = [Value.int .u8 0, Value.int .u8 0] := by kernel_rfl

theorem cells_68 : Tryd.prog.cellsOf 68 = 2 := by kernel_rfl

theorem zeroOk_68 : zeroOk Tryd.prog 68 = true := by kernel_rfl

theorem bytes_68 : Tryd.prog.bytesOf 68 = 2 := by kernel_rfl

theorem zeroV_68 : zeroV Tryd.prog 68 = [Value.int .u8 0, Value.int .u8 0] := by kernel_rfl

theorem cells_69 : Tryd.prog.cellsOf 69 = 32 := by kernel_rfl

theorem zeroOk_69 : zeroOk Tryd.prog 69 = true := by kernel_rfl

theorem bytes_69 : Tryd.prog.bytesOf 69 = 32 := by kernel_rfl

theorem zeroV_69 : zeroV Tryd.prog 69 = [Value.int .u8 0, Value.int .u8 0, Value.int .u8 0, Value.int .u8 0, Value.int .u8 0, Value.int .u8 0, Value.int .u8 0, Value.int .u8 0, Value.int .u8 0, Value.int .u8 0, Value.int .u8 0, Value.int .u8 0, Value.int .u8 0, Value.int .u8 0, Value.int .u8 0, Value.int .u8 0, Value.int .u8 0, Value.int .u8 0, Value.int .u8 0, Value.int .u8 0, Value.int .u8 0, Value.int .u8 0, Value.int .u8 0, Value.int .u8 0, Value.int .u8 0, Value.int .u8 0, Value.int .u8 0, Value.int .u8 0, Value.int .u8 0, Value.int .u8 0, Value.int .u8 0, Value.int .u8 0] := by kernel_rfl

theorem cells_70 : Tryd.prog.cellsOf 70 = 1 := by kernel_rfl

theorem zeroOk_70 : zeroOk Tryd.prog 70 = true := by kernel_rfl

theorem bytes_70 : Tryd.prog.bytesOf 70 = 4 := by kernel_rfl

theorem zeroOf_70 : zeroOf Tryd.prog 70 = some (Value.int .u32 0) := by kernel_rfl

theorem zeroV_70 : zeroV Tryd.prog 70 = [Value.int .u32 0] := by kernel_rfl

theorem cells_72 : Tryd.prog.cellsOf 72 = 1 := by kernel_rfl

theorem zeroOk_72 : zeroOk Tryd.prog 72 = true := by kernel_rfl

theorem bytes_72 : Tryd.prog.bytesOf 72 = 8 := by kernel_rfl

theorem cells_73 : Tryd.prog.cellsOf 73 = 4 := by kernel_rfl

theorem zeroOk_73 : zeroOk Tryd.prog 73 = true := by kernel_rfl

theorem bytes_73 : Tryd.prog.bytesOf 73 = 40 := by kernel_rfl

theorem zeroV_73 : zeroV Tryd.prog 73 = [Value.pointer none, Value.pointer none, Value.pointer none, Value.string ⟨#[]⟩] := by kernel_rfl

theorem cells_74 : Tryd.prog.cellsOf 74 = 4 := by kernel_rfl

theorem zeroOk_74 : zeroOk Tryd.prog 74 = true := by kernel_rfl

theorem bytes_74 : Tryd.prog.bytesOf 74 = 40 := by kernel_rfl

theorem zeroV_74 : zeroV Tryd.prog 74 = [Value.pointer none, Value.pointer none, Value.pointer none, Value.string ⟨#[]⟩] := by kernel_rfl

theorem cells_75 : Tryd.prog.cellsOf 75 = 0 := by kernel_rfl

theorem zeroOk_75 : zeroOk Tryd.prog 75 = true := by kernel_rfl

theorem bytes_75 : Tryd.prog.bytesOf 75 = 0 := by kernel_rfl

theorem zeroV_75 : zeroV Tryd.prog 75 = [] := by kernel_rfl

theorem cells_76 : Tryd.prog.cellsOf 76 = 0 := by kernel_rfl

theorem zeroOk_76 : zeroOk Tryd.prog 76 = true := by kernel_rfl

theorem bytes_76 : Tryd.prog.bytesOf 76 = 0 := by kernel_rfl

theorem zeroV_76 : zeroV Tryd.prog 76 = [] := by kernel_rfl

theorem cells_77 : Tryd.prog.cellsOf 77 = 0 := by kernel_rfl

theorem zeroOk_77 : zeroOk Tryd.prog 77 = true := by kernel_rfl

theorem bytes_77 : Tryd.prog.bytesOf 77 = 0 := by kernel_rfl

theorem zeroV_77 : zeroV Tryd.prog 77 = [] := by kernel_rfl

theorem cells_78 : Tryd.prog.cellsOf 78 = 1 := by kernel_rfl

theorem zeroOk_78 : zeroOk Tryd.prog 78 = true := by kernel_rfl

theorem bytes_78 : Tryd.prog.bytesOf 78 = 8 := by kernel_rfl

theorem cells_79 : Tryd.prog.cellsOf 79 = 1 := by kernel_rfl

theorem zeroOk_79 : zeroOk Tryd.prog 79 = true := by kernel_rfl

theorem bytes_79 : Tryd.prog.bytesOf 79 = 1 := by kernel_rfl

theorem zeroV_79 : zeroV Tryd.prog 79 = [Value.int .u8 0] := by kernel_rfl

theorem cells_80 : Tryd.prog.cellsOf 80 = 1 := by kernel_rfl

theorem zeroOk_80 : zeroOk Tryd.prog 80 = true := by kernel_rfl

theorem bytes_80 : Tryd.prog.bytesOf 80 = 1 := by kernel_rfl

theorem zeroV_80 : zeroV Tryd.prog 80 = [Value.int .u8 0] := by kernel_rfl

theorem cells_81 : Tryd.prog.cellsOf 81 = 1 := by kernel_rfl

theorem zeroOk_81 : zeroOk Tryd.prog 81 = true := by kernel_rfl

theorem bytes_81 : Tryd.prog.bytesOf 81 = 8 := by kernel_rfl

theorem cells_82 : Tryd.prog.cellsOf 82 = 1 := by kernel_rfl

theorem zeroOk_82 : zeroOk Tryd.prog 82 = true := by kernel_rfl

theorem bytes_82 : Tryd.prog.bytesOf 82 = 4 := by kernel_rfl

theorem zeroV_82 : zeroV Tryd.prog 82 = [Value.int .i32 0] := by kernel_rfl

theorem cells_83 : Tryd.prog.cellsOf 83 = 1 := by kernel_rfl

theorem zeroOk_83 : zeroOk Tryd.prog 83 = true := by kernel_rfl

theorem bytes_83 : Tryd.prog.bytesOf 83 = 4 := by kernel_rfl

theorem zeroV_83 : zeroV Tryd.prog 83 = [Value.int .i32 0] := by kernel_rfl

theorem cells_84 : Tryd.prog.cellsOf 84 = 11 := by kernel_rfl

theorem zeroOk_84 : zeroOk Tryd.prog 84 = true := by kernel_rfl

theorem bytes_84 : Tryd.prog.bytesOf 84 = 48 := by kernel_rfl

theorem cells_85 : Tryd.prog.cellsOf 85 = 11 := by kernel_rfl

theorem zeroOk_85 : zeroOk Tryd.prog 85 = true := by kernel_rfl

theorem bytes_85 : Tryd.prog.bytesOf 85 = 48 := by kernel_rfl

attribute [go_sem] rvk rv_fin rv_dead rv_still rv_calc rv_one rav_some ruk ru_fin ru_pure ru_still ru_calc calc_b calc_fa intAV_int ru_one rau_some rs_n rs_t rs_c rs_k jr_1 jr_2 jr_3 ps_r ps_n px_r px_n St.after killSs killOs newN dropO killN allU fillP rn_build listT rap_some rp_one rp_pure rp_fin rpk guard_ud ck_t ck_f rik Int.toNat_natCast drop_at kx_r kx_e in_n in_r in_e po_n po_r rn_nil rn_guard guard_tt guard_ff guard_tf guard_ft guard_un next_some rn_call rn_move rn_assign rn_pick rn_alloc rn_box rn_buildSlice rn_load rn_store rn_nilCheck rn_binOp rn_unOp rn_convert rn_makeFunc rn_makeSlice rn_slice rn_fieldAddr rn_field rn_indexAddr rn_index rn_extract rn_lookup rn_entry rn_makeMap rn_range rn_mapUpdate rn_insert rn_next keyD keyI lookD_mpI setKV_mpI setKV_nil keysAre_mpI keysAre_nil mpI_len keyB_int rn_builtin stepOp actOp pureOp St.ev look AV.split AV.one St.new St.puto St.put put killS killO lookO putO delO AV.refs AV.refsL OB.refs St.adopt adoptL loadD loadA tAgg guardOf binD unD pick_t pick_f pick_b one_s one_i one_b one_l one_p rc_eq rc_some AV.pack allD storeOb fillA denseA buildA obCells srcCells OB.fill OB.join obOf zeroD kx_n ri_nil ri_cons ra_some inB eqInts Bool.false_eq_true Bool.or_false Bool.or_self List.drop_succ_cons List.drop_zero List.take_succ_cons List.take_zero List.take_nil List.drop_nil List.getD_cons_zero List.getD_cons_succ ne_eq not_false_eq_true Nat.zero_add Nat.add_zero Bool.not_true Bool.not_false cond_true cond_false true_and and_true List.map_cons List.map_nil List.length_cons List.length_nil List.getElem?_toArray List.getElem?_cons_zero List.getElem?_cons_succ Option.map_some Option.map_none Option.isSome_some List.nil_append List.cons_append List.append_nil Int.toNat_zero Nat.zero_mul Nat.mul_one cells_1 cells_2 cells_3 cells_4 cells_5 cells_6 cells_7 cells_8 cells_9 cells_10 cells_11 cells_12 cells_13 cells_14 cells_15 cells_16 cells_17 cells_18 cells_19 cells_21 cells_22 cells_24 cells_25 cells_26 cells_27 cells_28 cells_30 cells_31 cells_32 cells_33 cells_34 cells_35 cells_36 cells_37 cells_39 cells_40 cells_41 cells_42 cells_43 cells_44 cells_45 cells_46 cells_47 cells_48 cells_49 cells_50 cells_52 cells_54 cells_55 cells_56 cells_58 cells_59 cells_60 cells_61 cells_62 cells_64 cells_65 cells_66 cells_67 cells_68 cells_69 cells_70 cells_72 cells_73 cells_74 cells_75 cells_76 cells_77 cells_78 cells_79 cells_80 cells_81 cells_82 cells_83 cells_84 cells_85 zeroOk_1 bytes_1 zeroOk_2 bytes_2 zeroOf_2 zeroV_2 zeroOk_3 bytes_3 zeroOf_3 zeroV_3 zeroOk_4 bytes_4 zeroOf_4 zeroV_4 zeroOk_5 bytes_5 zeroOf_5 zeroV_5 zeroOk_6 bytes_6 zeroV_6 zeroOk_7 bytes_7 zeroV_7 zeroOk_8 bytes_8 zeroV_8 zeroOk_9 bytes_9 zeroV_9 zeroOk_10 bytes_10 zeroV_10 zeroOk_11 bytes_11 zeroV_11 zeroOk_12 bytes_12 zeroOf_12 zeroV_12 zeroOk_13 bytes_13 zeroV_13 zeroOk_14 bytes_14 zeroV_14 zeroOk_15 bytes_15 zeroV_15 zeroOk_16 bytes_16 zeroV_16 zeroOk_17 bytes_17 zeroV_17 zeroOk_18 bytes_18 zeroV_18 zeroOk_19 bytes_19 zeroV_19 zeroOk_21 bytes_21 zeroOf_21 zeroV_21 zeroOk_22 bytes_22 zeroV_22 zeroOk_24 bytes_24 zeroOk_25 bytes_25 zeroOk_26 bytes_26 zeroOk_27 bytes_27 zeroOk_28 bytes_28 zeroOk_30 bytes_30 zeroOk_31 bytes_31 zeroOk_32 bytes_32 zeroOk_33 bytes_33 zeroV_33 zeroOk_34 bytes_34 zeroOk_35 bytes_35 zeroOk_36 bytes_36 zeroOk_37 bytes_37 zeroOk_39 bytes_39 zeroOk_40 bytes_40 zeroOk_41 bytes_41 zeroOk_42 bytes_42 zeroOk_43 bytes_43 zeroOk_44 bytes_44 zeroOk_45 bytes_45 zeroOk_46 bytes_46 zeroV_46 zeroOk_47 bytes_47 zeroV_47 zeroOk_48 bytes_48 zeroV_48 zeroOk_49 bytes_49 zeroV_49 zeroOk_50 bytes_50 zeroOk_52 bytes_52 zeroOk_54 bytes_54 zeroOk_55 bytes_55 zeroOk_56 bytes_56 zeroOk_58 bytes_58 zeroOk_59 bytes_59 zeroOk_60 bytes_60 zeroV_60 zeroOk_61 bytes_61 zeroOk_62 bytes_62 zeroOf_62 zeroV_62 zeroOk_64 bytes_64 zeroOk_65 bytes_65 zeroOk_66 bytes_66 zeroV_66 zeroOk_67 bytes_67 zeroV_67 zeroOk_68 bytes_68 zeroV_68 zeroOk_69 bytes_69 zeroV_69 zeroOk_70 bytes_70 zeroOf_70 zeroV_70 zeroOk_72 bytes_72 zeroOk_73 bytes_73 zeroV_73 zeroOk_74 bytes_74 zeroV_74 zeroOk_75 bytes_75 zeroV_75 zeroOk_76 bytes_76 zeroV_76 zeroOk_77 bytes_77 zeroV_77 zeroOk_78 bytes_78 zeroOk_79 bytes_79 zeroV_79 zeroOk_80 bytes_80 zeroV_80 zeroOk_81 bytes_81 zeroOk_82 bytes_82 zeroV_82 zeroOk_83 bytes_83 zeroV_83 zeroOk_84 bytes_84 zeroOk_85 bytes_85 Tryd.underlying1 Tryd.underlying2 Tryd.underlying3 Tryd.underlying4 Tryd.underlying5 Tryd.underlying6 Tryd.underlying7 Tryd.underlying8 Tryd.underlying9 Tryd.underlying10 Tryd.underlying11 Tryd.underlying12 Tryd.underlying13 Tryd.underlying14 Tryd.underlying15 Tryd.underlying16 Tryd.underlying17 Tryd.underlying18 Tryd.underlying19 Tryd.underlying21 Tryd.underlying22 Tryd.underlying24 Tryd.underlying25 Tryd.underlying26 Tryd.underlying27 Tryd.underlying28 Tryd.underlying30 Tryd.underlying31 Tryd.underlying32 Tryd.underlying33 Tryd.underlying34 Tryd.underlying35 Tryd.underlying36 Tryd.underlying37 Tryd.underlying39 Tryd.underlying40 Tryd.underlying41 Tryd.underlying42 Tryd.underlying43 Tryd.underlying44 Tryd.underlying45 Tryd.underlying46 Tryd.underlying47 Tryd.underlying48 Tryd.underlying49 Tryd.underlying50 Tryd.underlying52 Tryd.underlying54 Tryd.underlying55 Tryd.underlying56 Tryd.underlying58 Tryd.underlying59 Tryd.underlying60 Tryd.underlying61 Tryd.underlying62 Tryd.underlying64 Tryd.underlying65 Tryd.underlying66 Tryd.underlying67 Tryd.underlying68 Tryd.underlying69 Tryd.underlying70 Tryd.underlying72 Tryd.underlying73 Tryd.underlying74 Tryd.underlying75 Tryd.underlying76 Tryd.underlying77 Tryd.underlying78 Tryd.underlying79 Tryd.underlying80 Tryd.underlying81 Tryd.underlying82 Tryd.underlying83 Tryd.underlying84 Tryd.underlying85

end Go.Proofs.YtdeobicgildamaaDoor
