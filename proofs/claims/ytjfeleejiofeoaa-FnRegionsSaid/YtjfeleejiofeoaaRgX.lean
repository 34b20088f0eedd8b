/- Areas of regions, of unions and intersections; no program. -/
import Derived.Test.YtjfeleejiofeoaaPopX
import Derived.Test.YtjfeleejiofeoaaEvenE
import Derived.WalkKit
import Derived.WalkSpells
import Derived.KernelRfl
import Derived.Laws.BitsLemmas
namespace Go.Proofs.Ytjfeleejiofeoaa
open Go.RowKit
set_option linter.unusedVariables false
set_option linter.unusedSimpArgs false

def rbit (zs : List Int) (y x : Nat) : Bool := (zs.getD y 0).toNat.testBit x

theorem rbit_has {zs : List Int} {x y : Nat} (hx : x < 20) (hy : y < 24) : hasZ zs x y = rbit zs y x := by
  have h1 : inR (x : Int) 0 19 = true := inR_iff.2 (by omega)
  have h2 : inR (y : Int) 0 23 = true := inR_iff.2 (by omega)
  simp [hasZ, h1, h2, bitZ, rbit]

theorem cells_row (zs : List Int) {y : Nat} (hy : y < 24) : ∀ x, x ≤ 20 → (cellsN zs (20 * y + x)).length = (cellsN zs (20 * y)).length + rowC (rbit zs y) x
  | 0, _ => by simp [rowC]
  | x + 1, h => by
    have ih := cells_row zs hy x (by omega)
    have hb := rbit_has (zs := zs) (x := x) (y := y) (by omega) hy
    rw [rowC]
    cases hc : rbit zs y x
    · rw [hc] at hb
      rw [cellsN_no (by omega) hb, ih]
      simp
    · rw [hc] at hb
      rw [cellsN_yes (by omega) hb, List.length_append, ih]
      simp [Nat.add_assoc]

theorem cells_tot (zs : List Int) : ∀ n, n ≤ 24 → (cellsN zs (20 * n)).length = totC (rbit zs) n
  | 0, _ => rfl
  | n + 1, h => by
    have ih := cells_tot zs n (by omega)
    have h1 := cells_row zs (y := n) (by omega) 20 (by omega)
    rw [totC, ← ih, show 20 * (n + 1) = 20 * n + 20 by omega, h1]

theorem rowC_hi {v : Nat} (h : v < 2 ^ 20) (k : Nat) : rowC (fun i => v.testBit i) (20 + k) = rowC (fun i => v.testBit i) 20 := by
  induction k with
  | zero => rfl
  | succ k ih =>
    have hb : v.testBit (20 + k) = false := Nat.testBit_lt_two_pow (Nat.lt_of_lt_of_le h (Nat.pow_le_pow_right (by decide) (by omega)))
    rw [← Nat.add_assoc, rowC, ih, hb]
    rfl

theorem area_rows (zs : List Int) (hz : okReg zs = true) : ∀ n, n ≤ 24 → areaN zs n = totC (rbit zs) n
  | 0, _ => by simp [areaN, totC]
  | n + 1, h => by
    have hl := okReg_len hz
    have hr := okRow_lt (okReg_row hz (i := n) (by omega))
    have h20 : (zs.getD n 0).toNat < 2 ^ 20 := by omega
    rw [areaN_next (by omega), area_rows zs hz n (by omega), totC, pc_sum _ (by omega)]
    exact congrArg (totC (rbit zs) n + ·) (rowC_hi h20 4)

theorem area_cells (zs : List Int) (hz : okReg zs = true) : areaN zs 24 = (cellsN zs 480).length := by
  rw [area_rows zs hz 24 (by omega), ← cells_tot zs 24 (by omega)]

theorem rowC_both (p q : Nat → Bool) : ∀ n, rowC (fun i => p i || q i) n + rowC (fun i => p i && q i) n = rowC p n + rowC q n
  | 0 => rfl
  | n + 1 => by
    have ih := rowC_both p q n
    have h1 : ∀ a b : Bool, (if (a || b) = true then 1 else 0) + (if (a && b) = true then 1 else 0) = (if a = true then 1 else 0) + (if b = true then 1 else 0) := by decide
    have h1 := h1 (p n) (q n)
    simp only [rowC]
    omega

theorem totC_both {p q u v : Nat → Nat → Bool} (hu : ∀ y x, y < 24 → u y x = (p y x || q y x)) (hv : ∀ y x, y < 24 → v y x = (p y x && q y x)) : ∀ n, n ≤ 24 → totC u n + totC v n = totC p n + totC q n
  | 0, _ => rfl
  | n + 1, h => by
    have ih := totC_both hu hv n (by omega)
    have h1 : rowC (u n) 20 = rowC (fun i => p n i || q n i) 20 := rowC_congr fun i _ => hu n i (by omega)
    have h2 : rowC (v n) 20 = rowC (fun i => p n i && q n i) 20 := rowC_congr fun i _ => hv n i (by omega)
    have h3 := rowC_both (p n) (q n) 20
    simp only [totC]
    omega

def cmbI (how a b : Int) : Int := if how = 1 then bits .or .i64 a b else if how = 2 then bits .and .i64 a b else bits .andNot .i64 a b

def combZ (a b : List Int) (how : Int) : List Int := tab (fun y => cmbI how (a.getD y 0) (b.getD y 0)) 24

@[simp] theorem combZ_len (a b : List Int) (how : Int) : (combZ a b how).length = 24 := tab_len _ _

theorem combZ_at {a b : List Int} {how : Int} {y : Nat} (h : y < 24) : (combZ a b how).getD y 0 = cmbI how (a.getD y 0) (b.getD y 0) := tab_at 0 h

def combR (a b : List Int) (how : Int) : D := if okReg a && okReg b && inR how 1 3 then .tu [.ag [intL (combZ a b how)], .bool true] else .tu [.ag [intL []], .bool false]

theorem row_small {a : List Int} (ha : okReg a = true) {y : Nat} (hy : y < 24) : ∃ n : Nat, a.getD y 0 = (n : Int) ∧ n < 2 ^ 20 ∧ n &&& rowN (cellP (fun _ _ => true) y) 20 = n := by
  have hr := okReg_row ha hy
  have hlt := okRow_lt hr
  simp only [okRow, Bool.and_eq_true, decide_eq_true_eq, beq_iff_eq] at hr
  exact ⟨(a.getD y 0).toNat, by omega, by omega, hr.2⟩

theorem okRow_nat {y n : Nat} (h : n &&& rowN (cellP (fun _ _ => true) y) 20 = n) : okRow y (n : Int) = true := by
  simp only [okRow, Bool.and_eq_true, decide_eq_true_eq, beq_iff_eq, Int.toNat_natCast]
  exact ⟨by omega, h⟩

theorem okReg_of {zs : List Int} (hl : zs.length = 24) (h : ∀ y, y < 24 → okRow y (zs.getD y 0) = true) : okReg zs = true := by
  rw [okReg, decide_eq_true hl, Bool.true_and, List.all_eq_true]
  exact fun y hy => h y (List.mem_range.1 hy)

theorem cmb_or {a b : List Int} (ha : okReg a = true) (hb : okReg b = true) {y : Nat} (hy : y < 24) : ∃ m n k : Nat, a.getD y 0 = (m : Int) ∧ b.getD y 0 = (n : Int) ∧ cmbI 1 (a.getD y 0) (b.getD y 0) = (k : Int) ∧ k = m ||| n ∧ okRow y (k : Int) = true := by
  obtain ⟨m, em, hm, qm⟩ := row_small ha hy
  obtain ⟨n, en, hn, qn⟩ := row_small hb hy
  refine ⟨m, n, m ||| n, em, en, ?_, rfl, okRow_nat ?_⟩
  · rw [em, en, cmbI, if_pos rfl, or_nat _ _ (by omega) (by omega)]
  · rw [Nat.and_or_distrib_right, qm, qn]

theorem cmb_and {a b : List Int} (ha : okReg a = true) (hb : okReg b = true) {y : Nat} (hy : y < 24) : ∃ m n k : Nat, a.getD y 0 = (m : Int) ∧ b.getD y 0 = (n : Int) ∧ cmbI 2 (a.getD y 0) (b.getD y 0) = (k : Int) ∧ k = m &&& n ∧ okRow y (k : Int) = true := by
  obtain ⟨m, em, hm, qm⟩ := row_small ha hy
  obtain ⟨n, en, hn, qn⟩ := row_small hb hy
  refine ⟨m, n, m &&& n, em, en, ?_, rfl, okRow_nat ?_⟩
  · rw [em, en, cmbI, if_neg (by decide), if_pos rfl, and_nat _ _ (by omega) (by omega)]
  · rw [Nat.and_assoc, qn]

theorem comb_ok {a b : List Int} (ha : okReg a = true) (hb : okReg b = true) : okReg (combZ a b 1) = true ∧ okReg (combZ a b 2) = true := by
  constructor
  · refine okReg_of (combZ_len _ _ _) fun y hy => ?_
    obtain ⟨m, n, k, _, _, e, _, h⟩ := cmb_or ha hb hy
    rw [combZ_at hy, e, h]
  · refine okReg_of (combZ_len _ _ _) fun y hy => ?_
    obtain ⟨m, n, k, _, _, e, _, h⟩ := cmb_and ha hb hy
    rw [combZ_at hy, e, h]

theorem comb_area {a b : List Int} (ha : okReg a = true) (hb : okReg b = true) : areaN (combZ a b 1) 24 + areaN (combZ a b 2) 24 = areaN a 24 + areaN b 24 := by
  obtain ⟨h1, h2⟩ := comb_ok ha hb
  rw [area_rows _ h1 24 (by omega), area_rows _ h2 24 (by omega), area_rows _ ha 24 (by omega), area_rows _ hb 24 (by omega)]
  refine totC_both (fun y x hy => ?_) (fun y x hy => ?_) 24 (by omega)
  · obtain ⟨m, n, k, em, en, e, hk, _⟩ := cmb_or ha hb hy
    rw [rbit, rbit, rbit, combZ_at hy, e, em, en, hk]
    simp only [Int.toNat_natCast, Nat.testBit_or]
  · obtain ⟨m, n, k, em, en, e, hk, _⟩ := cmb_and ha hb hy
    rw [rbit, rbit, rbit, combZ_at hy, e, em, en, hk]
    simp only [Int.toNat_natCast, Nat.testBit_and]

theorem area_le (zs : List Int) (hz : okReg zs = true) : areaN zs 24 ≤ 480 := by
  rw [area_cells zs hz]
  exact cellsN_len zs 480

end Go.Proofs.Ytjfeleejiofeoaa
