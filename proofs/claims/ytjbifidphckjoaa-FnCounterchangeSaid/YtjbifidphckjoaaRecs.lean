/- Lists of records of k cells each (k is fixed by a record's cells), as data and as an object being filled. -/
import Derived.Test.YtjbifidphckjoaaLoops
import Derived.WalkKit
import Derived.WalkSpells
import Derived.KernelRfl
namespace Go.Proofs.Ytjbifidphckjoaa
open Go.RowKit
set_option linter.unusedVariables false
set_option linter.unusedSimpArgs false

def recC {α : Type} (cs : α -> List D) (l : List α) : List D := l.flatMap cs

section
variable {α : Type} {cs : α -> List D} {k : Nat}

theorem recC_app (l m : List α) : recC cs (l ++ m) = recC cs l ++ recC cs m := by simp [recC]

theorem recC_len (hk : ∀ x, (cs x).length = k) (l : List α) : (recC cs l).length = l.length * k := by
 induction l with
 | nil => simp [recC]
 | cons x l ih =>
  simp only [recC, List.flatMap_cons, List.length_append, List.length_cons] at ih ⊢
  rw [ih, hk, Nat.succ_mul]
  omega

theorem recC_take (hk : ∀ x, (cs x).length = k) (l : List α) (i : Nat) : (recC cs l).take (i * k) = recC cs (l.take i) := by
 by_cases h : i <= l.length
 ·
  have e : recC cs l = recC cs (l.take i) ++ recC cs (l.drop i) := by rw [← recC_app, List.take_append_drop]
  have hl : (recC cs (l.take i)).length = i * k := by rw [recC_len hk, List.length_take, Nat.min_eq_left h]
  rw [e, ← hl, List.take_left']
  rfl
 ·
  have : l.length * k <= i * k := Nat.mul_le_mul_right k (by omega)
  rw [List.take_of_length_le (by rw [recC_len hk]; exact this), List.take_of_length_le (by omega)]

theorem recC_drop (hk : ∀ x, (cs x).length = k) (l : List α) (i : Nat) : (recC cs l).drop (i * k) = recC cs (l.drop i) := by
 by_cases h : i <= l.length
 ·
  have e : recC cs l = recC cs (l.take i) ++ recC cs (l.drop i) := by rw [← recC_app, List.take_append_drop]
  have hl : (recC cs (l.take i)).length = i * k := by rw [recC_len hk, List.length_take, Nat.min_eq_left h]
  rw [e, ← hl, List.drop_left']
  rfl
 ·
  have : l.length * k <= i * k := Nat.mul_le_mul_right k (by omega)
  rw [List.drop_of_length_le (by rw [recC_len hk]; exact this), List.drop_of_length_le (by omega)]
  rfl

theorem recC_at (hk : ∀ x, (cs x).length = k) (z : α) {l : List α} {i : Nat} (h : i < l.length) : ((recC cs l).drop (i * k)).take k = cs (l.getD i z) := by
 rw [recC_drop hk, drop_next z h]
 simp only [recC, List.flatMap_cons]
 rw [List.take_append_of_le_length (by rw [hk]; exact Nat.le_refl k)]
 exact List.take_of_length_le (by rw [hk]; exact Nat.le_refl k)

theorem recC_all (hk : ∀ x, (cs x).length = k) (l : List α) : (recC cs l).take (l.length * k) = recC cs l := by rw [recC_take hk, List.take_length]

theorem plains_app : ∀ (a b : List D), plains a -> plains b -> plains (a ++ b)
 | [], _, _, hb => hb
 | _ :: a, b, ha, hb => ⟨ha.1, plains_app a b ha.2 hb⟩

theorem recC_plains (hp : ∀ x, plains (cs x)) (l : List α) : plains (recC cs l) := by
 induction l with
 | nil => exact trivial
 | cons x l ih => exact plains_app _ _ (hp x) ih

def recM (z : α) (l : List α) (i : Nat) : List α := l.take i ++ List.replicate (l.length - i) z

def tab (f : Nat -> α) (n : Nat) : List α := (List.range n).map f

@[simp] theorem tab_len (f : Nat -> α) (n : Nat) : (tab f n).length = n := by simp [tab]

theorem tab_at {f : Nat -> α} {n i : Nat} (z : α) (h : i < n) : (tab f n).getD i z = f i := by
 simp [tab, List.getD_eq_getElem?_getD, h]

theorem tab_next {f : Nat -> α} {n : Nat} : tab f (n + 1) = tab f n ++ [f n] := by
 simp [tab, List.range_succ]

theorem getD_ext {a b : List α} (z : α) (hl : a.length = b.length) (h : ∀ i, i < a.length -> a.getD i z = b.getD i z) : a = b := by
 apply List.ext_getElem hl
 intro i h1 h2
 have := h i h1
 simpa [List.getD_eq_getElem?_getD, h1, h2] using this

theorem tab_of {f : Nat -> α} {l : List α} (z : α) (h : ∀ i, i < l.length -> l.getD i z = f i) : l = tab f l.length :=
 getD_ext z (by simp) (fun i hi => by rw [h i hi, tab_at z hi])

def recD (f : Nat -> α) (l : List α) (i : Nat) : List α := tab f i ++ l.drop i

theorem recD_len {f : Nat -> α} {l : List α} {i : Nat} (h : i <= l.length) : (recD f l i).length = l.length := by
 simp only [recD, List.length_append, tab_len, List.length_drop]
 omega

theorem recD_end {f : Nat -> α} {l : List α} {i : Nat} (h : i = l.length) : recD f l i = tab f l.length := by
 subst h
 simp [recD]

def setsL : List α -> Nat -> List α -> List α
 | c, _, [] => c
 | c, o, x :: xs => setsL (c.set o x) (o + 1) xs

end

theorem refsL_app (s : Nat) : ∀ a b : List AV, AV.refsL s (a ++ b) = (AV.refsL s a || AV.refsL s b)
 | [], b => by simp [AV.refsL]
 | x :: a, b => by simp [AV.refsL, refsL_app s a b, Bool.or_assoc]

end Go.Proofs.Ytjbifidphckjoaa
