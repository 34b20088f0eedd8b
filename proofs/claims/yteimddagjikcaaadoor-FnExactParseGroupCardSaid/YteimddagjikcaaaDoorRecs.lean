/- Lists of records of k cells each (k is fixed by a record's cells), as data and as an object being filled. -/
import Derived.Test.YteimddagjikcaaaDoorLoops
import Derived.WalkKit
import Derived.WalkSpells
import Derived.KernelRfl
namespace Go.Proofs.YteimddagjikcaaaDoor
open Go.RowKit
set_option linter.unusedVariables false
set_option linter.unusedSimpArgs false

def recC {α : Type} (cs : α → List D) (l : List α) : List D := l.flatMap cs

section
variable {α : Type} {cs : α → List D} {k : Nat}

def recM (z : α) (l : List α) (i : Nat) : List α := l.take i ++ List.replicate (l.length - i) z

def tab (f : Nat → α) (n : Nat) : List α := (List.range n).map f

@[simp] theorem tab_len (f : Nat → α) (n : Nat) : (tab f n).length = n := by simp [tab]

def recD (f : Nat → α) (l : List α) (i : Nat) : List α := tab f i ++ l.drop i

def setsL : List α → Nat → List α → List α
  | c, _, [] => c
  | c, o, x :: xs => setsL (c.set o x) (o + 1) xs

end

theorem refsL_app (s : Nat) : ∀ a b : List AV, AV.refsL s (a ++ b) = (AV.refsL s a || AV.refsL s b)
  | [], b => by simp [AV.refsL]
  | x :: a, b => by simp [AV.refsL, refsL_app s a b, Bool.or_assoc]

end Go.Proofs.YteimddagjikcaaaDoor
