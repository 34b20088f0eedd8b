/- Lists of records of k cells each (k is fixed by a record's cells), as data and as an object being filled. -/
import Derived.Test.YteimddagjikcaaaLoops
import Derived.WalkKit
import Derived.WalkSpells
import Derived.KernelRfl
namespace Go.Proofs.Yteimddagjikcaaa
open Go.RowKit
set_option linter.unusedVariables false
set_option linter.unusedSimpArgs false

def recC {α : Type} (cs : α → List D) (l : List α) : List D := l.flatMap cs

section
variable {α : Type} {cs : α → List D} {k : Nat}

theorem recC_app (l m : List α) : recC cs (l ++ m) = recC cs l ++ recC cs m := by simp [recC]

theorem recC_len (hk : ∀ x, (cs x).length = k) (l : List α) : (recC cs l).length = l.length * k := by
  induction l with
  | nil => simp [recC]
  | cons x l ih =>
    simp only [recC, List.flatMap_cons, List.length_append, List.length_cons] at ih ⊢
    rw [ih, hk, Nat.succ_mul]
    omega

theorem recC_take (hk : ∀ x, (cs x).length = k) (l : List α) (i : Nat) : (recC cs l).take (i * k) = recC cs (l.take i) := by
  by_cases h : i ≤ l.length
  · have e : recC cs l = recC cs (l.take i) ++ recC cs (l.drop i) := by rw [← recC_app, List.take_append_drop]
    have hl : (recC cs (l.take i)).length = i * k := by rw [recC_len hk, List.length_take, Nat.min_eq_left h]
    rw [e, ← hl, List.take_left']
    rfl
  · have : l.length * k ≤ i * k := Nat.mul_le_mul_right k (by omega)
    rw [List.take_of_length_le (by rw [recC_len hk]; exact this), List.take_of_length_le (by omega)]

theorem recC_drop (hk : ∀ x, (cs x).length = k) (l : List α) (i : Nat) : (recC cs l).drop (i * k) = recC cs (l.drop i) := by
  by_cases h : i ≤ l.length
  · have e : recC cs l = recC cs (l.take i) ++ recC cs (l.drop i) := by rw [← recC_app, List.take_append_drop]
    have hl : (recC cs (l.take i)).length = i * k := by rw [recC_len hk, List.length_take, Nat.min_eq_left h]
    rw [e, ← hl, List.drop_left']
    rfl
  · have : l.length * k ≤ i * k := Nat.mul_le_mul_right k (by omega)
    rw [List.drop_of_length_le (by rw [recC_len hk]; exact this), List.drop_of_length_le (by omega)]
    rfl

theorem recC_at (hk : ∀ x, (cs x).length = k) (z : α) {l : List α} {i : Nat} (h : i < l.length) : ((recC cs l).drop (i * k)).take k = cs (l.getD i z) := by
  rw [recC_drop hk, drop_next z h]
  simp only [recC, List.flatMap_cons]
  rw [List.take_append_of_le_length (by rw [hk]; exact Nat.le_refl k)]
  exact List.take_of_length_le (by rw [hk]; exact Nat.le_refl k)

theorem recC_all (hk : ∀ x, (cs x).length = k) (l : List α) : (recC cs l).take (l.length * k) = recC cs l := by rw [recC_take hk, List.take_length]

theorem recC_raw (hk : ∀ x, (cs x).length = k) (l : List α) : D.ls k l.length (((recC cs l).drop 0).take (l.length * k)) = D.ls k l.length (recC cs l) := by rw [List.drop_zero, recC_all hk]

theorem plains_app : ∀ (a b : List D), plains a → plains b → plains (a ++ b)
  | [], _, _, hb => hb
  | _ :: a, b, ha, hb => ⟨ha.1, plains_app a b ha.2 hb⟩

theorem recC_plains (hp : ∀ x, plains (cs x)) (l : List α) : plains (recC cs l) := by
  induction l with
  | nil => exact trivial
  | cons x l ih => exact plains_app _ _ (hp x) ih

def recM (z : α) (l : List α) (i : Nat) : List α := l.take i ++ List.replicate (l.length - i) z

theorem recM_len {z : α} {l : List α} {i : Nat} (h : i ≤ l.length) : (recM z l i).length = l.length := by
  simp only [recM, List.length_append, List.length_take, List.length_replicate]
  omega

theorem recM_clen (hk : ∀ x, (cs x).length = k) {z : α} {l : List α} {i : Nat} (h : i ≤ l.length) : (recC cs (recM z l i)).length = l.length * k := by rw [recC_len hk, recM_len h]

theorem recM_zero {z : α} {l : List α} : (List.replicate l.length (cs z)).flatten = recC cs (recM z l 0) := by
  simp only [recM, recC, List.take_zero, List.nil_append, Nat.sub_zero]
  rw [List.flatMap_def, List.map_replicate]

theorem recM_end {z : α} {l : List α} {i : Nat} (h : l.length ≤ i) : recM z l i = l := by
  simp only [recM]
  rw [List.take_of_length_le h, Nat.sub_eq_zero_of_le h]
  simp

theorem recM_step (hk : ∀ x, (cs x).length = k) {z : α} {l : List α} {i : Nat} (h : i < l.length) : (recC cs (recM z l i)).take (i * k) ++ cs (l.getD i z) ++ (recC cs (recM z l i)).drop (i * k + k) = recC cs (recM z l (i + 1)) := by
  have e : i * k + k = (i + 1) * k := by rw [Nat.succ_mul]
  have h1 : (recM z l i).take i = l.take i := by
    simp only [recM]
    rw [List.take_append_of_le_length (by simp; omega), List.take_take, Nat.min_self]
  have h2 : (recM z l i).drop (i + 1) = List.replicate (l.length - (i + 1)) z := by
    simp only [recM]
    rw [List.drop_append, List.drop_of_length_le (by simp; omega), List.drop_replicate]
    simp only [List.nil_append, List.length_take]
    congr 1
    omega
  rw [e, recC_take hk, recC_drop hk, h1, h2]
  simp only [recM]
  rw [take_next z h, recC_app, recC_app]
  simp [recC]

def tab (f : Nat → α) (n : Nat) : List α := (List.range n).map f

@[simp] theorem tab_len (f : Nat → α) (n : Nat) : (tab f n).length = n := by simp [tab]

def recD (f : Nat → α) (l : List α) (i : Nat) : List α := tab f i ++ l.drop i

def setsL : List α → Nat → List α → List α
  | c, _, [] => c
  | c, o, x :: xs => setsL (c.set o x) (o + 1) xs

end

theorem allR_take {α : Type} (z : α) {l : List α} {i : Nat} {p : α → Bool} (h : (l.take i).all p = true) (hi : i < l.length) (hp : p (l.getD i z) = true) : (l.take (i + 1)).all p = true := by
  rw [take_next z hi, List.all_append, h]
  simpa using hp

theorem allR_not {α : Type} (z : α) {l : List α} {i : Nat} {p : α → Bool} (hi : i < l.length) (hp : p (l.getD i z) = false) : l.all p = false := by
  rw [List.all_eq_false]
  exact ⟨_, getD_mem z hi, by rw [hp]; simp⟩

theorem refsL_app (s : Nat) : ∀ a b : List AV, AV.refsL s (a ++ b) = (AV.refsL s a || AV.refsL s b)
  | [], b => by simp [AV.refsL]
  | x :: a, b => by simp [AV.refsL, refsL_app s a b, Bool.or_assoc]

end Go.Proofs.Yteimddagjikcaaa
