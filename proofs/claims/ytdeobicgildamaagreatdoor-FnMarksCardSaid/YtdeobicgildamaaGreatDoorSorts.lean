/- Insertion sort by years of birth: the lists, no program. -/
import Derived.Test.YtdeobicgildamaaGreatDoorFam2
import Derived.Test.YtdeobicgildamaaGreatDoorJoi
import Derived.WalkKit
import Derived.WalkSpells
import Derived.KernelRfl
namespace Go.Proofs.YtdeobicgildamaaGreatDoor
open Go.RowKit
set_option linter.unusedVariables false
set_option linter.unusedSimpArgs false

def posB (l : List PerV) (x : PerV) : Nat := (l.reverse.dropWhile fun y => decide (x.born < y.born)).length

theorem posB_le (l : List PerV) (x : PerV) : posB l x ≤ l.length := by
  have := (List.dropWhile_suffix (l := l.reverse) fun y => decide (x.born < y.born)).length_le
  rw [List.length_reverse] at this
  exact this

theorem posB_eq {l : List PerV} {x : PerV} {k : Nat} (hk : k ≤ l.length) (h1 : ∀ j, k ≤ j → j < l.length → x.born < (l.getD j PerV.zero).born) (h2 : k = 0 ∨ (l.getD (k - 1) PerV.zero).born ≤ x.born) : posB l x = k := by
  have e : l.reverse = (l.drop k).reverse ++ (l.take k).reverse := by rw [← List.reverse_append, List.take_append_drop]
  rw [posB, e, List.dropWhile_append_of_pos]
  · rcases h2 with h2 | h2
    · subst h2
      simp
    · by_cases h0 : k = 0
      · subst h0
        simp
      · obtain ⟨m, rfl⟩ : ∃ m, k = m + 1 := ⟨k - 1, by omega⟩
        rw [take_next PerV.zero (by omega), List.reverse_append, List.reverse_singleton, List.singleton_append, List.dropWhile_cons_of_neg]
        · simp
          omega
        · rw [decide_eq_true_eq]
          simp only [Nat.add_sub_cancel] at h2
          omega
  · intro y hy
    rw [List.mem_reverse, List.mem_iff_getElem] at hy
    obtain ⟨j, hj, rfl⟩ := hy
    rw [List.length_drop] at hj
    rw [List.getElem_drop]
    have := h1 (k + j) (by omega) (by omega)
    rw [getD_eq _ (by omega)] at this
    simpa using this

def insB (l : List PerV) (x : PerV) : List PerV := l.take (posB l x) ++ x :: l.drop (posB l x)

theorem insB_len (l : List PerV) (x : PerV) : (insB l x).length = l.length + 1 := by
  have := posB_le l x
  simp only [insB, List.length_append, List.length_cons, List.length_take, List.length_drop]
  omega

theorem insB_mem {l : List PerV} {x y : PerV} : y ∈ insB l x ↔ y = x ∨ y ∈ l := by
  have e : y ∈ l ↔ y ∈ l.take (posB l x) ∨ y ∈ l.drop (posB l x) := by rw [← List.mem_append, List.take_append_drop]
  rw [e]
  simp only [insB, List.mem_append, List.mem_cons]
  constructor
  · rintro (h | h | h)
    · exact .inr (.inl h)
    · exact .inl h
    · exact .inr (.inr h)
  · rintro (h | h | h)
    · exact .inr (.inl h)
    · exact .inl h
    · exact .inr (.inr h)

def sortB (l : List PerV) : List PerV := l.foldl insB []

theorem sortB_next (l : List PerV) (x : PerV) : sortB (l ++ [x]) = insB (sortB l) x := by
  simp only [sortB, List.foldl_append, List.foldl_cons, List.foldl_nil]

theorem foldB_len : ∀ (l acc : List PerV), (l.foldl insB acc).length = acc.length + l.length
  | [], acc => rfl
  | x :: l, acc => by
    rw [List.foldl_cons, foldB_len l, insB_len, List.length_cons]
    omega

theorem sortB_len (l : List PerV) : (sortB l).length = l.length := by
  rw [sortB, foldB_len]
  simp

theorem foldB_mem {y : PerV} : ∀ (l acc : List PerV), y ∈ l.foldl insB acc ↔ y ∈ acc ∨ y ∈ l
  | [], acc => by simp
  | x :: l, acc => by
    rw [List.foldl_cons, foldB_mem l, insB_mem, List.mem_cons]
    constructor
    · rintro ((h | h) | h)
      · exact .inr (.inl h)
      · exact .inl h
      · exact .inr (.inr h)
    · rintro (h | h | h)
      · exact .inl (.inr h)
      · exact .inl (.inl h)
      · exact .inr h

theorem sortB_mem {y : PerV} {l : List PerV} : y ∈ sortB l ↔ y ∈ l := by
  rw [sortB, foldB_mem]
  simp

def mid (B : List PerV) (x : PerV) (j : Nat) (R : List PerV) : List PerV := B.take j ++ x :: (B.drop j ++ R)

theorem mid_len {B : List PerV} {x : PerV} {j : Nat} {R : List PerV} (h : j ≤ B.length) : (mid B x j R).length = B.length + 1 + R.length := by
  simp only [mid, List.length_append, List.length_cons, List.length_take, List.length_drop]
  omega

theorem mid_at {B : List PerV} {x : PerV} {j : Nat} {R : List PerV} (h : j ≤ B.length) : (mid B x j R).getD j PerV.zero = x := by
  have e : (B.take j).length = j := by simp; omega
  rw [mid, List.getD_eq_getElem?_getD, List.getElem?_append_right (by omega), e, Nat.sub_self]
  rfl

theorem mid_pre {B : List PerV} {x : PerV} {j : Nat} {R : List PerV} (h : j ≤ B.length) (h1 : 1 ≤ j) : (mid B x j R).getD (j - 1) PerV.zero = B.getD (j - 1) PerV.zero := by
  have e : (B.take j).length = j := by simp; omega
  rw [mid, List.getD_eq_getElem?_getD, List.getElem?_append_left (by omega), List.getElem?_take, if_pos (by omega), ← List.getD_eq_getElem?_getD]

theorem mid_swap {B : List PerV} {x : PerV} {j : Nat} {R : List PerV} (h : j ≤ B.length) (h1 : 1 ≤ j) : ((mid B x j R).set j (B.getD (j - 1) PerV.zero)).set (j - 1) x = mid B x (j - 1) R := by
  obtain ⟨m, rfl⟩ : ∃ m, j = m + 1 := ⟨j - 1, by omega⟩
  simp only [Nat.add_sub_cancel, mid]
  rw [take_next PerV.zero (by omega), drop_next PerV.zero (show m < B.length by omega)]
  have e : (B.take m).length = m := by simp; omega
  rw [List.append_assoc, List.set_append, if_neg (by omega), e]
  simp only [Nat.add_sub_cancel_left, List.singleton_append, List.set_cons_succ, List.set_cons_zero]
  rw [List.set_append, if_neg (by omega), e, Nat.sub_self]
  simp

def srtN (a : List PerV) (i : Nat) : List PerV := sortB (a.take i) ++ a.drop i

theorem srtN_one (a : List PerV) : srtN a 1 = a := by
  cases a with
  | nil => rfl
  | cons x a => rfl

theorem srtN_mid {a : List PerV} {i : Nat} (h : i < a.length) (z : List PerV) : srtN a i ++ z = mid (sortB (a.take i)) (a.getD i PerV.zero) i (a.drop (i + 1) ++ z) := by
  have e : (sortB (a.take i)).length = i := by rw [sortB_len]; simp; omega
  have t1 : (sortB (a.take i)).take i = sortB (a.take i) := List.take_of_length_le (by omega)
  have t2 : (sortB (a.take i)).drop i = [] := List.drop_of_length_le (by omega)
  rw [srtN, mid, t1, t2, drop_next PerV.zero h, List.append_assoc]
  rfl

theorem mid_srtN {a : List PerV} {i j : Nat} (h : i < a.length) (z : List PerV) (hj : j ≤ i) (h1 : ∀ k, j ≤ k → k < i → (a.getD i PerV.zero).born < ((sortB (a.take i)).getD k PerV.zero).born) (h2 : j = 0 ∨ ((sortB (a.take i)).getD (j - 1) PerV.zero).born ≤ (a.getD i PerV.zero).born) :
    mid (sortB (a.take i)) (a.getD i PerV.zero) j (a.drop (i + 1) ++ z) = srtN a (i + 1) ++ z := by
  have e : (sortB (a.take i)).length = i := by rw [sortB_len]; simp; omega
  have hp : posB (sortB (a.take i)) (a.getD i PerV.zero) = j := posB_eq (by omega) (fun k hk hl => h1 k hk (by omega)) h2
  rw [srtN, take_next PerV.zero h, sortB_next, insB, hp, mid]
  simp

theorem srtN_end {a : List PerV} {i : Nat} (h : a.length ≤ i) : srtN a i = sortB a := by
  rw [srtN, List.take_of_length_le h, List.drop_of_length_le h, List.append_nil]

theorem srt_born {a : List PerV} (hb : ∀ x ∈ a, 1 ≤ x.born ∧ x.born ≤ 2999) {i k : Nat} (hk : k < (sortB (a.take i)).length) : 1 ≤ ((sortB (a.take i)).getD k PerV.zero).born ∧ ((sortB (a.take i)).getD k PerV.zero).born ≤ 2999 :=
  hb _ (List.mem_of_mem_take (sortB_mem.1 (getD_mem PerV.zero hk)))

end Go.Proofs.YtdeobicgildamaaGreatDoor
