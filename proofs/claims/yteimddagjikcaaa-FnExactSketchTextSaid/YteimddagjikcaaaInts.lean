/- Lists of numbers: copying, comparing, counting, marking. -/
import Derived.Test.YteimddagjikcaaaRecs
import Derived.Test.YteimddagjikcaaaFacts
import Derived.Test.YteimddagjikcaaaFlowE
import Derived.WalkKit
import Derived.WalkSpells
import Derived.KernelRfl
namespace Go.Proofs.Yteimddagjikcaaa
open Go.RowKit
set_option linter.unusedVariables false
set_option linter.unusedSimpArgs false

def intC (l : List Int) : List D := l.map D.int

def intL (l : List Int) : D := .ls 1 l.length (l.map D.int)

attribute [local go_sem] intL

theorem map_set {α β : Type} (f : α → β) (l : List α) (i : Nat) (x : α) : (l.map f).set i (f x) = (l.set i x).map f := by
  rw [List.map_set]

theorem ints_plain : ∀ l : List Int, plains (l.map D.int)
  | [] => trivial
  | _ :: l => ⟨trivial, ints_plain l⟩

theorem ints_plain_take (n : Nat) (l : List Int) : plains ((l.map D.int).take n) := by
  rw [← List.map_take]
  exact ints_plain _

theorem ints_all (l : List Int) : (l.map D.int).take (l.length * 1) = l.map D.int := by
  rw [Nat.mul_one]
  exact List.take_of_length_le (by simp)

theorem ints_all1 (l : List Int) : (l.map D.int).take l.length = l.map D.int := List.take_of_length_le (by simp)

attribute [local simp] ints_plain ints_all ints_all1

def intM (l : List Int) (i : Nat) : List Int := l.take i ++ List.replicate (l.length - i) 0

def nums (k : Int) (n : Nat) : List Int := tab (fun i => k + i) n

@[simp] theorem nums_len (k : Int) (n : Nat) : (nums k n).length = n := tab_len _ _

end Go.Proofs.Yteimddagjikcaaa
