/- Rows of bits. -/
import Derived.Test.YtjbifidphckjoaaBox
import Derived.WalkKit
import Derived.WalkSpells
import Derived.KernelRfl
import Derived.Laws.BitsLemmas
namespace Go.Proofs.Ytjbifidphckjoaa
open Go.RowKit
set_option linter.unusedVariables false
set_option linter.unusedSimpArgs false

theorem wrap63 (n : Int) (h0 : 0 <= n) (h1 : n < 2 ^ 63) : IntKind.i64.wrap n = n := by
 rw [IntKind.wrap_i64]
 omega

theorem and_nat (a b : Nat) (ha : a < 2 ^ 63) (hb : b < 2 ^ 63) : bits .and .i64 (a : Int) (b : Int) = ((a &&& b : Nat) : Int) := (bits_nat .i64 63 (by decide) wrap63 a b ha hb).1

theorem or_nat (a b : Nat) (ha : a < 2 ^ 63) (hb : b < 2 ^ 63) : bits .or .i64 (a : Int) (b : Int) = ((a ||| b : Nat) : Int) := (bits_nat .i64 63 (by decide) wrap63 a b ha hb).2

theorem fdiv_nat (a k : Nat) : ((a : Int)).fdiv (2 ^ k) = ((a / 2 ^ k : Nat) : Int) := by
 rw [Int.fdiv_eq_ediv_of_nonneg _ (by exact Int.le_of_lt (Int.pow_pos (by decide)))]
 simp

theorem bit_at {a x : Int} (h0 : 0 <= a) (h1 : a < 9223372036854775808) (h2 : 0 <= x) (h3 : x <= 63) : bits .and .i64 (a.fdiv (2 ^ (min x.toNat IntKind.i64.bits))) 1 = if a.toNat.testBit x.toNat then 1 else 0 := by
 obtain ⟨n, rfl⟩ := Int.eq_ofNat_of_zero_le h0
 obtain ⟨k, rfl⟩ := Int.eq_ofNat_of_zero_le h2
 have hm : min (k : Int).toNat IntKind.i64.bits = k := by
  have : IntKind.i64.bits = 64 := rfl
  rw [this, Int.toNat_natCast]
  omega
 have hd : n / 2 ^ k < 2 ^ 63 := Nat.lt_of_le_of_lt (Nat.div_le_self _ _) (by omega)
 rw [hm, fdiv_nat, show (1 : Int) = ((1 : Nat) : Int) from rfl, and_nat _ _ hd (by decide), Nat.and_one_is_mod, Int.toNat_natCast, Int.toNat_natCast, Nat.testBit_eq_decide_div_mod_eq]
 have : n / 2 ^ k % 2 = 0 ∨ n / 2 ^ k % 2 = 1 := by omega
 rcases this with e | e <;> simp [e]

def rowN (p : Nat -> Bool) : Nat -> Nat
 | 0 => 0
 | n + 1 => rowN p n + (if p n then 2 ^ n else 0)

theorem rowN_lt (p : Nat -> Bool) (n : Nat) : rowN p n < 2 ^ n := by
 induction n with
 | zero => simp [rowN]
 | succ n ih =>
  simp only [rowN, Nat.pow_succ]
  split <;> omega

theorem rowN_bit (p : Nat -> Bool) (n i : Nat) : (rowN p n).testBit i = (decide (i < n) && p i) := by
 induction n with
 | zero => simp [rowN]
 | succ n ih =>
  simp only [rowN]
  have hlt := rowN_lt p n
  by_cases hp : p n = true
  ·
   rw [if_pos hp, Nat.add_comm]
   by_cases hi : i = n
   ·
    subst hi
    rw [Nat.testBit_two_pow_add_eq, Nat.testBit_lt_two_pow hlt]
    simp [hp]
   ·
    by_cases hi2 : i < n
    ·
     rw [Nat.testBit_two_pow_add_gt hi2, ih]
     simp [hi2, show i < n + 1 by omega]
    ·
     have : 2 ^ n + rowN p n < 2 ^ i := by
      have h1 : 2 ^ (n + 1) <= 2 ^ i := Nat.pow_le_pow_right (by decide) (by omega)
      rw [Nat.pow_succ] at h1
      omega
     rw [Nat.testBit_lt_two_pow this]
     simp [show ¬ i < n + 1 by omega]
  ·
   rw [if_neg hp, Nat.add_zero, ih]
   by_cases hi : i = n
   ·
    subst hi
    simp [Bool.not_eq_true _ ▸ hp]
   ·
    have : (i < n) = (i < n + 1) := by
     apply propext
     omega
    simp [this]

theorem rowN_set {p : Nat -> Bool} {n : Nat} (h : p n = true) (hn : n < 40) : bits .or .i64 ((rowN p n : Nat) : Int) (IntKind.i64.wrap (1 * 2 ^ (min (n : Int).toNat IntKind.i64.bits))) = ((rowN p (n + 1) : Nat) : Int) := by
 have hm : min (n : Int).toNat IntKind.i64.bits = n := by
  have : IntKind.i64.bits = 64 := rfl
  rw [this, Int.toNat_natCast]
  omega
 have hp : 2 ^ n <= 2 ^ 40 := Nat.pow_le_pow_right (by decide) (by omega)
 have h40 : (2 : Nat) ^ 40 < 2 ^ 63 := by decide
 have hw : IntKind.i64.wrap (1 * 2 ^ n) = ((2 ^ n : Nat) : Int) := by
  rw [Int.one_mul, show ((2 : Int) ^ n) = ((2 ^ n : Nat) : Int) by simp]
  exact wrap63 _ (Int.natCast_nonneg _) (by
   have : (2 : Nat) ^ n < 2 ^ 63 := by omega
   exact_mod_cast this)
 have hlt := rowN_lt p n
 rw [hm, hw, or_nat _ _ (by omega) (by omega)]
 simp only [rowN, h, if_true]
 congr 1
 have e := Nat.two_pow_add_eq_or_of_lt hlt 1
 rw [Nat.mul_one] at e
 rw [Nat.or_comm, ← e]
 omega

theorem wru {n : Int} (h1 : 0 <= n) (h2 : n <= 9223372036854775807) : IntKind.u64.wrap n = n := by
 rw [IntKind.wrap_u64]
 omega

def bitZ (zs : List Int) (x y : Int) : Bool := (zs.getD y.toNat 0).toNat.testBit x.toNat

def okZ (zs : List Int) : Prop := zs.length = 24 /\ ∀ i, i < 24 -> 0 <= zs.getD i 0 /\ zs.getD i 0 < 9223372036854775808

theorem getD_nat {zs : List Int} {y : Int} (h0 : 0 <= y) (h1 : y < zs.length) {d : D} : (zs.map D.int).getD y.toNat d = D.int (zs.getD y.toNat 0) := int_at (by omega)

def rowsM (f : Nat -> Int) (i : Nat) : List Int := recD f (List.replicate 24 0) i

theorem rowsM_zero (f : Nat -> Int) : List.replicate 24 (D.int 0) = (rowsM f 0).map D.int := rfl

theorem rowsM_len {f : Nat -> Int} {i : Nat} (h : i <= 24) : (rowsM f i).length = 24 := recD_len (by simpa using h)

theorem rowsM_clen {f : Nat -> Int} {i : Nat} (h : i <= 24) : ((rowsM f i).map D.int).length = 24 := by rw [List.length_map, rowsM_len h]

theorem rowsM_set {f : Nat -> Int} {i : Nat} (h : i < 24) : (rowsM f i).set i (f i) = rowsM f (i + 1) := by
 simp only [rowsM, recD]
 rw [List.set_append, if_neg (by simp), tab_next, drop_next 0 (by simpa using h)]
 simp

theorem rowsM_step {f : Nat -> Int} {i : Nat} (h : i < 24) : ((rowsM f i).map D.int).set i (D.int (f i)) = (rowsM f (i + 1)).map D.int := by
 rw [map_set, rowsM_set h]

theorem rowsM_end {f : Nat -> Int} {i : Nat} (h : i = 24) : rowsM f i = tab f 24 := by
 rw [rowsM, recD_end (by simpa using h)]
 simp

theorem rowsM_at {f : Nat -> Int} {i : Nat} (h : i < 24) : (rowsM f i).getD i 0 = 0 := by
 simp only [rowsM, recD, List.getD_eq_getElem?_getD]
 rw [List.getElem?_append_right (by simp), List.getElem?_drop, List.getElem?_replicate]
 split <;> rfl

end Go.Proofs.Ytjbifidphckjoaa
