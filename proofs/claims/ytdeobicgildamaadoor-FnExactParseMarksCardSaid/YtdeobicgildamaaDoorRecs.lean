/- Lists of records of k cells each (k is fixed by a record's cells), as data and as an object being filled. -/
import Derived.Test.YtdeobicgildamaaDoorLoops
import Derived.WalkKit
import Derived.WalkSpells
import Derived.KernelRfl
namespace Go.Proofs.YtdeobicgildamaaDoor
open Go.RowKit
set_option linter.unusedVariables false
set_option linter.unusedSimpArgs false

def recC {α : Type} (cs : α → List D) (l : List α) : List D := l.flatMap cs

section
variable {α : Type} {cs : α → List D} {k : Nat}

def recM (z : α) (l : List α) (i : Nat) : List α := l.take i ++ List.replicate (l.length - i) z

def tab (f : Nat → α) (n : Nat) : List α := (List.range n).map f

@[simp] theorem tab_len (f : Nat → α) (n : Nat) : (tab f n).length = n := by simp [tab]

theorem tab_at {f : Nat → α} {n i : Nat} (z : α) (h : i < n) : (tab f n).getD i z = f i := by
  simp [tab, List.getD_eq_getElem?_getD, h]

theorem tab_next {f : Nat → α} {n : Nat} : tab f (n + 1) = tab f n ++ [f n] := by
  simp [tab, List.range_succ]

def recD (f : Nat → α) (l : List α) (i : Nat) : List α := tab f i ++ l.drop i

theorem recD_len {f : Nat → α} {l : List α} {i : Nat} (h : i ≤ l.length) : (recD f l i).length = l.length := by
  simp only [recD, List.length_append, tab_len, List.length_drop]
  omega

theorem recD_zero {f : Nat → α} {l : List α} : recD f l 0 = l := by simp [recD, tab]

theorem recD_end {f : Nat → α} {l : List α} {i : Nat} (h : i = l.length) : recD f l i = tab f l.length := by
  subst h
  simp [recD]

def setsL : List α → Nat → List α → List α
  | c, _, [] => c
  | c, o, x :: xs => setsL (c.set o x) (o + 1) xs

end

theorem allR_take {α : Type} (z : α) {l : List α} {i : Nat} {p : α → Bool} (h : (l.take i).all p = true) (hi : i < l.length) (hp : p (l.getD i z) = true) : (l.take (i + 1)).all p = true := by
  rw [take_next z hi, List.all_append, h]
  simpa using hp

theorem allR_not {α : Type} (z : α) {l : List α} {i : Nat} {p : α → Bool} (hi : i < l.length) (hp : p (l.getD i z) = false) : l.all p = false := by
  rw [List.all_eq_false]
  exact ⟨_, getD_mem z hi, by rw [hp]; simp⟩

theorem refsL_app (s : Nat) : ∀ a b : List AV, AV.refsL s (a ++ b) = (AV.refsL s a || AV.refsL s b)
  | [], b => by simp [AV.refsL]
  | x :: a, b => by simp [AV.refsL, refsL_app s a b, Bool.or_assoc]

end Go.Proofs.YtdeobicgildamaaDoor
