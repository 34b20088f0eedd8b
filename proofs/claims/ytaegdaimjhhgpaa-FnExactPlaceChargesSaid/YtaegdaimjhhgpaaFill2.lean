/- Cells taken out of a region, in plain bits. -/
import Derived.Test.YtaegdaimjhhgpaaFill
import Derived.WalkKit
import Derived.WalkSpells
import Derived.KernelRfl
import Derived.Laws.BitsLemmas
namespace Go.Proofs.Ytaegdaimjhhgpaa
open Go.RowKit
set_option linter.unusedVariables false
set_option linter.unusedSimpArgs false

theorem andNot_bits {a m : Nat} (ha : a < 2 ^ 63) (hm : m < 2 ^ 63) : ∃ c : Nat, bits .andNot .i64 (a : Int) (m : Int) = (c : Int) ∧ c ≤ a ∧ ∀ i, c.testBit i = (a.testBit i && !m.testBit i) := by
  have h1 : (BitVec.ofInt 64 (a : Int)).toNat = a := by
    rw [BitVec.ofInt_natCast, BitVec.toNat_ofNat]; exact Nat.mod_eq_of_lt (by omega)
  have h2 : (BitVec.ofInt 64 (m : Int)).toNat = m := by
    rw [BitVec.ofInt_natCast, BitVec.toNat_ofNat]; exact Nat.mod_eq_of_lt (by omega)
  have hx : a &&& (2 ^ 64 - (m + 1)) < 2 ^ 63 := Nat.lt_of_le_of_lt Nat.and_le_left ha
  refine ⟨a &&& (2 ^ 64 - (m + 1)), ?_, Nat.and_le_left, ?_⟩
  · show IntKind.i64.wrap ((BitVec.ofInt 64 (a : Int) &&& ~~~ BitVec.ofInt 64 (m : Int)).toNat : Int) = _
    rw [BitVec.toNat_and, BitVec.toNat_not, h1, h2, show 2 ^ 64 - 1 - m = 2 ^ 64 - (m + 1) by omega]
    exact wrap63 _ (Int.natCast_nonneg _) (by exact_mod_cast hx)
  · intro i
    simp only [Nat.testBit_and, Nat.testBit_two_pow_sub_succ (show m < 2 ^ 64 by omega)]
    by_cases hi : i < 64
    · simp [hi]
    · have : a.testBit i = false := Nat.testBit_lt_two_pow (Nat.lt_of_lt_of_le ha (Nat.pow_le_pow_right (by decide) (by omega)))
      simp [this]

theorem one_shl {x : Nat} (hx : x < 40) : IntKind.i64.wrap (1 * 2 ^ (min x 64)) = ((2 ^ x : Nat) : Int) := by
  have hp : 2 ^ x ≤ 2 ^ 40 := Nat.pow_le_pow_right (by decide) (by omega)
  have h40 : (2 : Nat) ^ 40 < 2 ^ 63 := by decide
  rw [show min x 64 = x by omega, Int.one_mul, show ((2 : Int) ^ x) = ((2 ^ x : Nat) : Int) by simp]
  exact wrap63 _ (Int.natCast_nonneg _) (by
    have : (2 : Nat) ^ x < 2 ^ 63 := by omega
    exact_mod_cast this)

theorem clrB_bits {a x : Nat} (ha : a < 2 ^ 63) (hx : x < 40) : ∃ c : Nat, clrB (a : Int) x = (c : Int) ∧ c ≤ a ∧ ∀ i, c.testBit i = (a.testBit i && !decide (x = i)) := by
  have hp : 2 ^ x ≤ 2 ^ 40 := Nat.pow_le_pow_right (by decide) (by omega)
  have h40 : (2 : Nat) ^ 40 < 2 ^ 63 := by decide
  obtain ⟨c, h1, h2, h3⟩ := andNot_bits (m := 2 ^ x) ha (by omega)
  refine ⟨c, ?_, h2, fun i => ?_⟩
  · rw [clrB, show IntKind.i64.bits = 64 from rfl, Int.toNat_natCast, one_shl hx, h1]
  · rw [h3, Nat.testBit_two_pow]

/-- n cells from bx on are taken out of a row. -/
def clrV (v : Int) (bx : Nat) : Nat → Int
  | 0 => v
  | n + 1 => clrB (clrV v bx n) (bx + n)

theorem clrV_bits {a bx : Nat} (ha : a < 2 ^ 63) : ∀ n, bx + n ≤ 40 → ∃ c : Nat, clrV (a : Int) bx n = (c : Int) ∧ c ≤ a ∧ ∀ i, c.testBit i = (a.testBit i && !(decide (bx ≤ i) && decide (i < bx + n)))
  | 0, _ => ⟨a, rfl, Nat.le_refl a, fun i => by
      by_cases h : bx ≤ i
      · simp [h, show ¬ i < bx by omega]
      · simp [h]⟩
  | n + 1, h => by
    obtain ⟨c, h1, h2, h3⟩ := clrV_bits (bx := bx) ha n (by omega)
    obtain ⟨d, h4, h5, h6⟩ := clrB_bits (a := c) (x := bx + n) (by omega) (by omega)
    refine ⟨d, by rw [clrV, h1, h4], by omega, fun i => ?_⟩
    rw [h6, h3, Bool.and_assoc]
    congr 1
    by_cases g1 : bx ≤ i <;> by_cases g2 : i < bx + n <;> by_cases g3 : bx + n = i <;> simp_all <;> omega

theorem clrR_eq {zs : List Int} {bx y : Nat} (hy : y < zs.length) : ∀ n, clrR zs bx y n = zs.set y (clrV (zs.getD y 0) bx n)
  | 0 => by
    have : zs.getD y 0 = zs[y] := by simp [List.getD_eq_getElem?_getD, hy]
    rw [clrR, clrV, this, List.set_getElem_self]
  | n + 1 => by
    rw [clrR, clrZ, clrR_eq hy n, clrV]
    rw [List.set_set]
    congr 2
    simp [List.getD_eq_getElem?_getD, List.getElem?_set, hy]

/-- The reference's way: a mask of s bits at x. -/
def specB (v : Int) (s x : Nat) : Int := bits .andNot .i64 v (IntKind.i64.wrap ((IntKind.i64.wrap (IntKind.i64.wrap (1 * 2 ^ (min s 64)) - 1)) * 2 ^ (min x 64)))

theorem specB_eq {a s x : Nat} (ha : a < 2 ^ 63) (h : x + s ≤ 40) : specB (a : Int) s x = clrV (a : Int) x s := by
  have h40 : (2 : Nat) ^ 40 < 2 ^ 63 := by decide
  by_cases hs40 : s = 40
  · have hx0 : x = 0 := by omega
    subst hs40 hx0
    obtain ⟨c, h1, h2, h3⟩ := andNot_bits (m := 2 ^ 40 - 1) ha (by omega)
    obtain ⟨d, h4, h5, h6⟩ := clrV_bits (bx := 0) ha 40 (by omega)
    rw [h4]
    have e : specB (a : Int) 40 0 = bits .andNot .i64 (a : Int) ((2 ^ 40 - 1 : Nat) : Int) := rfl
    rw [e, h1]
    congr 1
    apply Nat.eq_of_testBit_eq
    intro i
    rw [h3, h6, Nat.testBit_two_pow_sub_one]
    simp
  have hs : s < 40 := by omega
  have hp : 2 ^ s * 2 ^ x ≤ 2 ^ 40 := by rw [← Nat.pow_add]; exact Nat.pow_le_pow_right (by decide) (by omega)
  have hps : 2 ^ s ≤ 2 ^ 40 := Nat.pow_le_pow_right (by decide) (by omega)
  have hs1 : 1 ≤ 2 ^ s := Nat.one_le_two_pow
  have hm : (2 ^ s - 1) * 2 ^ x ≤ 2 ^ 40 := by rw [Nat.sub_mul]; omega
  have e1 : IntKind.i64.wrap (IntKind.i64.wrap (1 * 2 ^ (min s 64)) - 1) = ((2 ^ s - 1 : Nat) : Int) := by
    rw [one_shl hs, show ((2 ^ s : Nat) : Int) - 1 = ((2 ^ s - 1 : Nat) : Int) by omega]
    exact wrap63 _ (Int.natCast_nonneg _) (by
      have : 2 ^ s - 1 < 2 ^ 63 := by omega
      exact_mod_cast this)
  have e2 : IntKind.i64.wrap (((2 ^ s - 1 : Nat) : Int) * 2 ^ (min x 64)) = (((2 ^ s - 1) * 2 ^ x : Nat) : Int) := by
    rw [show min x 64 = x by omega, show ((2 : Int) ^ x) = ((2 ^ x : Nat) : Int) by simp, ← Int.natCast_mul]
    exact wrap63 _ (Int.natCast_nonneg _) (by
      have : (2 ^ s - 1) * 2 ^ x < 2 ^ 63 := by omega
      exact_mod_cast this)
  obtain ⟨c, h1, h2, h3⟩ := andNot_bits (m := (2 ^ s - 1) * 2 ^ x) ha (by omega)
  obtain ⟨d, h4, h5, h6⟩ := clrV_bits (bx := x) ha s (by omega)
  rw [specB, e1, e2, h1, h4]
  congr 1
  apply Nat.eq_of_testBit_eq
  intro i
  rw [h3, h6]
  congr 2
  rw [Nat.mul_comm, Nat.testBit_two_pow_mul, Nat.testBit_two_pow_sub_one]
  by_cases g1 : x ≤ i <;> simp [g1] <;> omega

/-- Rows that a box's rows are taken out of, by the reference. -/
def clrS (zs : List Int) (bx by' s : Nat) : Nat → List Int
  | 0 => zs
  | n + 1 => (clrS zs bx by' s n).set (by' + n) (specB ((clrS zs bx by' s n).getD (by' + n) 0) s bx)

theorem okZ_set {zs : List Int} (h : okZ zs) {y : Nat} {v : Int} (h0 : 0 ≤ v) (h1 : v < 9223372036854775808) : okZ (zs.set y v) := ⟨by rw [List.length_set]; exact h.1, fun i hi => by
  have := h.2 i hi
  simp only [List.getD_eq_getElem?_getD, List.getElem?_set]
  split
  · split <;> simp [h0, h1]
  · simpa [List.getD_eq_getElem?_getD] using this⟩

theorem clrV_ok {v : Int} {bx n : Nat} (h0 : 0 ≤ v) (h1 : v < 9223372036854775808) (h : bx + n ≤ 40) : 0 ≤ clrV v bx n ∧ clrV v bx n < 9223372036854775808 := by
  obtain ⟨a, rfl⟩ := Int.eq_ofNat_of_zero_le h0
  obtain ⟨c, h2, h3, _⟩ := clrV_bits (a := a) (bx := bx) (by omega) n h
  rw [h2]
  omega

theorem clrA_ok {zs : List Int} (hz : okZ zs) {bx by' s : Nat} (h1 : bx + s ≤ 40) : ∀ n, by' + n ≤ 24 → okZ (clrA zs bx by' s n)
  | 0, _ => hz
  | n + 1, h => by
    have ih := clrA_ok (by' := by') hz h1 n (by omega)
    have hv := ih.2 (by' + n) (by omega)
    rw [clrA, clrR_eq (by rw [ih.1]; omega)]
    have := clrV_ok hv.1 hv.2 h1
    exact okZ_set ih this.1 this.2

theorem clrS_eq {zs : List Int} (hz : okZ zs) {bx by' s : Nat} (h1 : bx + s ≤ 40) : ∀ n, by' + n ≤ 24 → clrS zs bx by' s n = clrA zs bx by' s n
  | 0, _ => rfl
  | n + 1, h => by
    have ih := clrA_ok (by' := by') hz h1 n (by omega)
    have hv := ih.2 (by' + n) (by omega)
    rw [clrS, clrA, clrS_eq (by' := by') hz h1 n (by omega), clrR_eq (by rw [ih.1]; omega)]
    obtain ⟨a, ha⟩ := Int.eq_ofNat_of_zero_le hv.1
    rw [ha, specB_eq (by omega) h1]

theorem okRow_clr {v : Int} {y bx n : Nat} (h : okRow y v = true) (hb : bx + n ≤ 40) : okRow y (clrV v bx n) = true := by
  have hlt := okRow_lt h
  obtain ⟨a, rfl⟩ := Int.eq_ofNat_of_zero_le hlt.1
  obtain ⟨c, h2, h3, h4⟩ := clrV_bits (a := a) (bx := bx) (by omega) n hb
  simp only [okRow, Bool.and_eq_true, decide_eq_true_eq, beq_iff_eq, Int.toNat_natCast] at h ⊢
  rw [h2]
  refine ⟨by omega, ?_⟩
  rw [Int.toNat_natCast]
  apply Nat.eq_of_testBit_eq
  intro i
  have := congrArg (fun n => n.testBit i) h.2
  simp only [Nat.testBit_and, h4] at this ⊢
  generalize (rowN (cellP (fun _ _ => true) y) 20).testBit i = q at this ⊢
  generalize a.testBit i = r at this ⊢
  cases r <;> cases q <;> simp_all

theorem okReg_clr {zs : List Int} (h : okReg zs = true) {bx by' s : Nat} (h1 : bx + s ≤ 40) : ∀ n, by' + n ≤ 24 → okReg (clrA zs bx by' s n) = true
  | 0, _ => h
  | n + 1, hn => by
    have ih := okReg_clr (by' := by') h h1 n (by omega)
    have hl := okReg_len ih
    rw [clrA, clrR_eq (by rw [hl]; omega)]
    simp only [okReg, Bool.and_eq_true, decide_eq_true_eq, List.all_eq_true, List.mem_range, List.length_set]
    refine ⟨hl, fun i hi => ?_⟩
    have hr := okReg_row ih hi
    simp only [List.getD_eq_getElem?_getD, List.getElem?_set]
    split
    · rename_i e
      subst e
      rw [if_pos (by omega)]
      have := okRow_clr (bx := bx) (n := s) hr h1
      simpa [List.getD_eq_getElem?_getD] using this
    · simpa [List.getD_eq_getElem?_getD] using hr

/-- The box at cell c. -/
def boxAt (c s : Nat) : BoxV := ⟨((c % 20 : Nat) : Int), ((c / 20 : Nat) : Int), (s : Int)⟩

def wholeB (zs : List Int) (c s : Nat) : Bool := allB (boxAt c s) (hasZ zs) s

/-- A box that sticks out is not whole. -/
theorem whole_in {zs : List Int} {c s : Nat} (hs : 1 ≤ s) (h : wholeB zs c s = true) : c % 20 + s ≤ 20 ∧ c / 20 + s ≤ 24 := by
  have hlast : hasZ zs ((boxAt c s).x + ((s - 1 : Nat) : Int)) ((boxAt c s).y + ((s - 1 : Nat) : Int)) = true := by
    cases hh : hasZ zs ((boxAt c s).x + ((s - 1 : Nat) : Int)) ((boxAt c s).y + ((s - 1 : Nat) : Int))
    · have e : (boxAt c s).s.toNat = s := by simp [boxAt]
      have := allB_not (b := boxAt c s) (p := hasZ zs) (j := s - 1) (i := s - 1) (by rw [e]; omega) (by rw [e]; omega) hh
      rw [e] at this
      rw [wholeB, this] at h
      cases h
    · rfl
  simp only [hasZ, Bool.and_eq_true, inR_iff, boxAt] at hlast
  omega

/-- The rows that are left and the cells of the boxes, the cells below k seen. -/
def fillN (zs : List Int) (s most : Nat) : Nat → List Int × List Nat
  | 0 => (zs, [])
  | k + 1 => if decide ((fillN zs s most k).2.length < most) && wholeB (fillN zs s most k).1 k s then (clrA (fillN zs s most k).1 (k % 20) (k / 20) s s, (fillN zs s most k).2 ++ [k]) else fillN zs s most k

theorem fillN_full {zs : List Int} {s most : Nat} {k : Nat} (h : (fillN zs s most k).2.length = most) : ∀ n, fillN zs s most (k + n) = fillN zs s most k
  | 0 => rfl
  | n + 1 => by rw [← Nat.add_assoc, fillN, fillN_full h n, decide_eq_false (by omega), Bool.false_and, if_neg (by simp)]

theorem fillN_skip {zs : List Int} {s most k : Nat} (h : wholeB (fillN zs s most k).1 k s = false) : fillN zs s most (k + 1) = fillN zs s most k := by
  rw [fillN, h, Bool.and_false, if_neg (by simp)]

theorem fillN_take {zs : List Int} {s most k : Nat} (h1 : (fillN zs s most k).2.length < most) (h : wholeB (fillN zs s most k).1 k s = true) : fillN zs s most (k + 1) = (clrA (fillN zs s most k).1 (k % 20) (k / 20) s s, (fillN zs s most k).2 ++ [k]) := by
  rw [fillN, h, Bool.and_true, if_pos (by simpa using h1)]

theorem fillN_ok {zs : List Int} {s most : Nat} (hs : 1 ≤ s) (h : okReg zs = true) : ∀ k, okReg (fillN zs s most k).1 = true
  | 0 => h
  | k + 1 => by
    have ih := fillN_ok (most := most) hs h k
    rw [fillN]
    split
    · rename_i g
      simp only [Bool.and_eq_true] at g
      have := whole_in hs g.2
      exact okReg_clr ih (by omega) s (by omega)
    · exact ih

theorem fillN_most {zs : List Int} {s most : Nat} : ∀ k, (fillN zs s most k).2.length ≤ most
  | 0 => Nat.zero_le _
  | k + 1 => by
    have ih := fillN_most (zs := zs) (s := s) (most := most) k
    rw [fillN]
    split
    · rename_i g
      simp only [Bool.and_eq_true, decide_eq_true_eq] at g
      rw [List.length_append]
      exact g.1
    · exact ih

def fillL (zs : List Int) (s most k : Nat) : List BoxV := (fillN zs s most k).2.map fun c => boxAt c s

end Go.Proofs.Ytaegdaimjhhgpaa
