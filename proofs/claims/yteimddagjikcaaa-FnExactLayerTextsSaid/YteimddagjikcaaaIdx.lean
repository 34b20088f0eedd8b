/- Where a text stands in a list; a tincture's word read; a text cut at a byte by hand. -/
import Derived.Test.YteimddagjikcaaaWords
import Derived.Test.YteimddagjikcaaaInts
import Derived.Test.YteimddagjikcaaaRecs
import Derived.WalkKit
import Derived.WalkSpells
import Derived.KernelRfl
import Derived.Lib.Split
namespace Go.Proofs.Yteimddagjikcaaa
open Go.RowKit
set_option linter.unusedVariables false
set_option linter.unusedSimpArgs false

attribute [local go_sem] strs

theorem strs_plain : ∀ l : List ByteArray, plains (l.map D.str)
  | [] => trivial
  | x :: r => ⟨trivial, strs_plain r⟩

theorem strs_take (xs : List ByteArray) (x : ByteArray) : List.take (xs.length + 1) (xs.map D.str ++ [D.str x]) = (xs ++ [x]).map D.str := by
  rw [List.take_of_length_le (by simp), List.map_append]
  rfl

theorem strs_plain2 (xs : List ByteArray) (x : ByteArray) : plains (xs.map D.str ++ [D.str x]) := by
  have := strs_plain (xs ++ [x])
  rwa [List.map_append] at this

attribute [local simp] strs_plain strs_plain2 strs_take

def bySt (b : UInt8) : D := .v (.int .u8 (b.toNat : Int))

end Go.Proofs.Yteimddagjikcaaa
