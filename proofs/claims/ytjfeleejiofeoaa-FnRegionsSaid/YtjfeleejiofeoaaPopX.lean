/- How many bits a small number has, exactly; how many cells a region has. -/
import Derived.Test.YtjfeleejiofeoaaPop
import Derived.WalkKit
import Derived.WalkSpells
import Derived.KernelRfl
import Derived.Laws.BitsLemmas
namespace Go.Proofs.Ytjfeleejiofeoaa
open Go.RowKit
set_option linter.unusedVariables false
set_option linter.unusedSimpArgs false

def rowC (q : Nat → Bool) : Nat → Nat
  | 0 => 0
  | n + 1 => rowC q n + (if q n then 1 else 0)

theorem rowC_congr {p q : Nat → Bool} : ∀ {n : Nat}, (∀ i, i < n → p i = q i) → rowC p n = rowC q n
  | 0, _ => rfl
  | n + 1, h => by rw [rowC, rowC, rowC_congr fun i hi => h i (by omega), h n (by omega)]

theorem rowC_le (q : Nat → Bool) : ∀ n, rowC q n ≤ n
  | 0 => Nat.le_refl _
  | n + 1 => by
    have := rowC_le q n
    rw [rowC]
    split <;> omega

theorem byte_pop : ∀ a, a < 256 → cm 15 (bm 51 (am 85 a)) = rowC (fun i => a.testBit i) 8 := by decide +kernel

theorem tb_lo {a y i : Nat} (ha : a < 2 ^ 8) (hi : i < 8) : (a + 256 * y).testBit i = a.testBit i := by
  have h := Nat.testBit_two_pow_mul_add y ha i
  rw [if_pos hi] at h
  rw [← h, Nat.add_comm]

theorem tb_hi {a y i : Nat} (ha : a < 2 ^ 8) : (a + 256 * y).testBit (8 + i) = y.testBit i := by
  have h := Nat.testBit_two_pow_mul_add y ha (8 + i)
  rw [if_neg (by omega), Nat.add_sub_cancel_left] at h
  rw [← h, Nat.add_comm]

theorem rowC_split {a y : Nat} (ha : a < 256) (k : Nat) : rowC (fun i => (a + 256 * y).testBit i) (8 + k) = rowC (fun i => a.testBit i) 8 + rowC (fun i => y.testBit i) k := by
  induction k with
  | zero =>
    have h : rowC (fun i => (a + 256 * y).testBit i) 8 = rowC (fun i => a.testBit i) 8 := rowC_congr fun i hi => tb_lo (by simpa using ha) hi
    have e0 : rowC (fun i => y.testBit i) 0 = 0 := rfl
    rw [Nat.add_zero, h, e0, Nat.add_zero]
  | succ k ih =>
    have e : (a + 256 * y).testBit (8 + k) = y.testBit k := tb_hi (by simpa using ha)
    have e1 : rowC (fun i => (a + 256 * y).testBit i) (8 + k + 1) = rowC (fun i => (a + 256 * y).testBit i) (8 + k) + (if (a + 256 * y).testBit (8 + k) then 1 else 0) := rfl
    have e2 : rowC (fun i => y.testBit i) (k + 1) = rowC (fun i => y.testBit i) k + (if y.testBit k then 1 else 0) := rfl
    rw [← Nat.add_assoc, e1, e2, ih, e, Nat.add_assoc]

theorem pc_sum (x : Nat) (hx : x < 16777216) : pc x = rowC (fun i => x.testBit i) 24 := by
  have e : x = x % 256 + 256 * (x / 256 % 256 + 256 * (x / 65536)) := by omega
  have hc : x / 65536 < 256 := by omega
  have ha : x % 256 < 256 := by omega
  have hb : x / 256 % 256 < 256 := by omega
  have h := pc_bytes ha hb hc
  have s0 := rowC_split (y := x / 256 % 256 + 256 * (x / 65536)) ha 16
  have s1 := rowC_split (y := x / 65536) hb 8
  rw [← e] at h s0
  have a4 := rowC_le (fun i => (x % 256).testBit i) 8
  have b4 := rowC_le (fun i => (x / 256 % 256).testBit i) 8
  have c4 := rowC_le (fun i => (x / 65536).testBit i) 8
  have h2 : pc x = pcS (cm 1085102592571150095 (bm 3689348814741910323 (am 6148914691236517205 x))) := rfl
  rw [h2, h, byte_pop _ ha, byte_pop _ hb, byte_pop _ hc]
  rw [show 8 + 16 = 24 from rfl] at s0
  rw [show 8 + 8 = 16 from rfl] at s1
  rw [s0, s1]
  generalize rowC (fun i => (x % 256).testBit i) 8 = A at *
  generalize rowC (fun i => (x / 256 % 256).testBit i) 8 = B at *
  generalize rowC (fun i => (x / 65536).testBit i) 8 = C at *
  have t1 : (A + 256 * (B + 256 * C)) / 256 = B + 256 * C := by omega
  have t2 : (A + 256 * (B + 256 * C) + (B + 256 * C)) / 65536 = C := by omega
  have t3 : (A + 256 * (B + 256 * C) + (B + 256 * C) + C) / 4294967296 = 0 := by omega
  have t4 : (A + 256 * (B + 256 * C) + (B + 256 * C) + C) % 128 = A + B + C := by omega
  unfold pcS
  simp only [Nat.shiftRight_eq_div_pow, Nat.reducePow, t1, t2, t3, Nat.add_zero]
  rw [show (127 : Nat) = 2 ^ 7 - 1 from rfl, Nat.and_two_pow_sub_one_eq_mod]
  omega

def totC (q : Nat → Nat → Bool) : Nat → Nat
  | 0 => 0
  | n + 1 => totC q n + rowC (q n) 20

end Go.Proofs.Ytjfeleejiofeoaa
