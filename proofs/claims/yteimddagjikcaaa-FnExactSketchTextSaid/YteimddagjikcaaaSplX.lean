/- Texts cut at a separator; no program. -/
import Derived.Test.YteimddagjikcaaaBya
import Derived.Test.YteimddagjikcaaaWords
import Derived.Test.YteimddagjikcaaaInts
import Derived.WalkKit
import Derived.WalkSpells
import Derived.KernelRfl
import Derived.Lib.Split
namespace Go.Proofs.Yteimddagjikcaaa
open Go.RowKit
set_option linter.unusedVariables false
set_option linter.unusedSimpArgs false

def splL (s sep : List UInt8) : List (List UInt8) := Lib.splitK sep 0 (Lib.count s sep) s

def spL (b : UInt8) (cur : List UInt8) : List UInt8 → List (List UInt8)
  | [] => [cur]
  | x :: r => if x = b then cur :: spL b [] r else spL b (cur ++ [x]) r

def toB (l : List UInt8) : ByteArray := ⟨l.toArray⟩

@[simp] theorem toB_list (l : List UInt8) : (toB l).data.toList = l := rfl

@[simp] theorem toB_size (l : List UInt8) : (toB l).size = l.length := rfl

theorem toB_of (s : ByteArray) : toB s.data.toList = s := ba_list s

def splT (s sep : ByteArray) : List ByteArray := (splL s.data.toList sep.data.toList).map toB

def idxB (w : ByteArray) : List ByteArray → Int
  | [] => -1
  | x :: r => if x = w then 0 else if idxB w r = -1 then -1 else idxB w r + 1

end Go.Proofs.Yteimddagjikcaaa
