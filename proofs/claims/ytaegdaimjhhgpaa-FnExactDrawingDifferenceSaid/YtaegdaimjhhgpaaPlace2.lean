/- Charges always find their boxes: every ordinary and every ground has six cells. -/
import Derived.Test.YtaegdaimjhhgpaaPlace
import Derived.WalkKit
import Derived.WalkSpells
import Derived.KernelRfl
import Derived.Laws.BitsLemmas
namespace Go.Proofs.Ytaegdaimjhhgpaa
open Go.RowKit
set_option linter.unusedVariables false
set_option linter.unusedSimpArgs false

theorem clrZ_has {zs : List Int} (hz : okReg zs = true) {x y x' y' : Nat} (hx : x < 20) (hy : y < 24) (hx' : x' < 20) (hy' : y' < 24) (hne : ¬(x = x' ∧ y = y')) : hasZ (clrZ zs x y) x' y' = hasZ zs x' y' := by
  have hl := okReg_len hz
  rw [hasZ_bit hx' hy', hasZ_bit hx' hy', clrZ]
  by_cases e : y = y'
  · subst e
    have hr := okRow_lt (okReg_row hz hy)
    obtain ⟨a, ha⟩ := Int.eq_ofNat_of_zero_le hr.1
    obtain ⟨c, h1, _, h3⟩ := clrB_bits (a := a) (x := x) (by omega) (by omega)
    have e1 : (zs.set y (clrB (zs.getD y 0) x)).getD y 0 = clrB (zs.getD y 0) x := by
      simp [List.getD_eq_getElem?_getD, List.getElem?_set, hl, hy]
    rw [e1, ha, h1, Int.toNat_natCast, Int.toNat_natCast, h3]
    have : ¬ x = x' := fun q => hne ⟨q, rfl⟩
    simp [this]
  · have e1 : (zs.set y (clrB (zs.getD y 0) x)).getD y' 0 = zs.getD y' 0 := by
      simp [List.getD_eq_getElem?_getD, List.getElem?_set, e]
    rw [e1]

theorem whole_one (zs : List Int) (c : Nat) : wholeB zs c 1 = hasZ zs ((c % 20 : Nat) : Int) ((c / 20 : Nat) : Int) := by
  simp [wholeB, allB, rowB, boxAt, List.range_succ]

theorem cells_step (zs : List Int) (k : Nat) : (cellsN zs (k + 1)).length = (cellsN zs k).length + (if hasZ zs ((k % 20 : Nat) : Int) ((k / 20 : Nat) : Int) then 1 else 0) := by
  rw [cellsN, List.range_succ, List.filter_append, List.length_append, ← cellsN]
  congr 1
  simp only [List.filter_cons, List.filter_nil]
  split <;> rfl

theorem fill_one {zs : List Int} (hz : okReg zs = true) (m : Nat) : ∀ k, k ≤ 480 → (fillN zs 1 m k).2.length = min m (cellsN zs k).length ∧ ∀ c, k ≤ c → c < 480 → hasZ (fillN zs 1 m k).1 ((c % 20 : Nat) : Int) ((c / 20 : Nat) : Int) = hasZ zs ((c % 20 : Nat) : Int) ((c / 20 : Nat) : Int)
  | 0, _ => ⟨by simp [fillN, cellsN], fun c _ _ => rfl⟩
  | k + 1, hk => by
    obtain ⟨h1, h2⟩ := fill_one hz m k (by omega)
    have hok := fillN_ok (s := 1) (most := m) (Nat.le_refl 1) hz k
    have h3 := h2 k (Nat.le_refl k) (by omega)
    have h4 := cells_step zs k
    have hw := whole_one (fillN zs 1 m k).1 k
    rw [h3] at hw
    cases g : hasZ zs ((k % 20 : Nat) : Int) ((k / 20 : Nat) : Int)
    · rw [g] at hw h4
      rw [fillN_skip hw]
      simp only [Bool.false_eq_true, if_false] at h4
      exact ⟨by omega, fun c hc => h2 c (by omega)⟩
    · rw [g] at hw h4
      simp only [if_true] at h4
      by_cases hf : (fillN zs 1 m k).2.length < m
      · rw [fillN_take hf hw]
        refine ⟨by rw [List.length_append, List.length_singleton]; omega, fun c hc hc2 => ?_⟩
        have e : clrA (fillN zs 1 m k).1 (k % 20) (k / 20) 1 1 = clrZ (fillN zs 1 m k).1 (k % 20) (k / 20) := rfl
        simp only [e]
        rw [clrZ_has hok (by omega) (by omega) (by omega) (by omega) (by omega)]
        exact h2 c (by omega) hc2
      · have e : fillN zs 1 m (k + 1) = fillN zs 1 m k := by
          rw [fillN, decide_eq_false hf, Bool.false_and, if_neg (by simp)]
        rw [e]
        exact ⟨by omega, fun c hc => h2 c (by omega)⟩

theorem largeP_ok {zs : List Int} {m : Nat} (h : (fillL zs 1 m 480).length = m) : ∀ s, 1 ≤ s → (largeP zs m s).2 = true
  | 0, h => absurd h (by omega)
  | 1, _ => by
    rw [largeP, if_pos h]
  | s + 2, _ => by
    rw [largeP]
    split
    · rfl
    · exact largeP_ok h (s + 1) (by omega)

theorem cells_all {zs : List Int} {m : Nat} (hz : okReg zs = true) (h : m ≤ (cellsN zs 480).length) : (largeP zs m 8).2 = true := by
  refine largeP_ok ?_ 8 (by omega)
  have := (fill_one hz m 480 (Nat.le_refl _)).1
  rw [fl_len, this]
  omega

def someN (o : Int) (l : Nat) (g : Bool) : Nat := ((List.range' 120 100).filter fun c => inSh ((c % 20 : Nat) : Int) ((c / 20 : Nat) : Int) && (ordZ o l (c % 20) (c / 20) != g)).length

theorem someN_six : ∀ o, o < 8 → ∀ l, l < 5 → 6 ≤ someN ((o : Nat) : Int) l true ∧ (o = 0 ∨ 6 ≤ someN ((o : Nat) : Int) l false) := by decide +kernel

theorem some_sub : (List.range' 120 100).Sublist (List.range 480) := by
  have e : List.range 480 = List.range' 0 120 ++ (List.range' 120 100 ++ List.range' 220 260) := by decide +kernel
  rw [e]
  exact (List.sublist_append_left _ _).trans (List.sublist_append_right _ _)

theorem side_cells (x : ArmsV) (h : okArms x = true) (g : Bool) (hg : g = true ∨ x.o ≠ 0) : 6 ≤ (cellsN (sideZ x g) 480).length := by
  have hin := okArms_in h
  obtain ⟨l, hl⟩ := Int.eq_ofNat_of_zero_le hin.1.1
  obtain ⟨o, ho⟩ := Int.eq_ofNat_of_zero_le hin.2.1.1
  have h6 := someN_six o (by omega) l (by omega)
  have h7 : 6 ≤ someN x.o l g := by
    rw [ho]
    cases g
    · rcases h6.2 with q | q
      · rcases hg with r | r
        · cases r
        · exact absurd (by rw [ho, q]; rfl) r
      · exact q
    · exact h6.1
  refine Nat.le_trans h7 ?_
  have e : cellsN (sideZ x g) 480 = (List.range 480).filter fun c => inSh ((c % 20 : Nat) : Int) ((c / 20 : Nat) : Int) && (ordZ x.o l (c % 20) (c / 20) != g) := by
    rw [cellsN]
    apply List.filter_congr
    intro c hc
    have hc := List.mem_range.1 hc
    rw [sideZ, regZ_has (by omega) (by omega), side_ord x l _ _ hl]
  rw [e]
  exact (some_sub.filter _).length_le

theorem grp_on (x : ArmsV) (h : okArms x = true) : (grpP (sideZ x false) x.c1 x.k1 x.a1 x.t1).2 = true := by
  have hin := okArms_in h
  rw [grpP]
  cases hn : noGroup x.c1 x.k1 x.a1 x.t1
  · rw [if_neg (by simp)]
    have := okGroupN_in hin.2.2.1 hn
    have h6 := side_cells x h false (.inr fun q => by
      rw [hin.2.2.2.2.2.1 q] at hn
      cases hn)
    exact cells_all (regZ_good _) (by omega)
  · rw [if_pos rfl]

theorem grp_around (x : ArmsV) (h : okArms x = true) : (grpP (sideZ x true) x.c2 x.k2 x.a2 x.t2).2 = true := by
  have hin := okArms_in h
  rw [grpP]
  cases hn : noGroup x.c2 x.k2 x.a2 x.t2
  · rw [if_neg (by simp)]
    have := okGroupN_in hin.2.2.2.1 hn
    have h6 := side_cells x h true (.inl rfl)
    exact cells_all (regZ_good _) (by omega)
  · rw [if_pos rfl]

end Go.Proofs.Ytaegdaimjhhgpaa
