/- The length of a region's edge is even; no program. -/
import Derived.Test.YtjfeleejiofeoaaPie
import Derived.WalkKit
import Derived.WalkSpells
import Derived.KernelRfl
namespace Go.Proofs.Ytjfeleejiofeoaa
open Go.RowKit
set_option linter.unusedVariables false
set_option linter.unusedSimpArgs false

def sumR (f : Nat → Nat) (n : Nat) : Nat := ((List.range n).map f).sum

theorem sumR_succ (f : Nat → Nat) (n : Nat) : sumR f (n + 1) = sumR f n + f n := by simp [sumR, List.range_succ]

theorem sumR_zero {f : Nat → Nat} : ∀ {n : Nat}, (∀ c, c < n → f c = 0) → sumR f n = 0
  | 0, _ => rfl
  | n + 1, h => by rw [sumR_succ, sumR_zero (n := n) (fun c hc => h c (by omega)), h n (by omega)]

theorem sumR_shift {f g : Nat → Nat} {d : Nat} (h0 : ∀ c, c < d → f c = 0) (h1 : ∀ c, f (c + d) = g c) : ∀ m, sumR f (m + d) = sumR g m
  | 0 => by rw [Nat.zero_add, sumR_zero h0]; rfl
  | m + 1 => by rw [show m + 1 + d = (m + d) + 1 from by omega, sumR_succ, sumR_succ, sumR_shift h0 h1 m, h1]

theorem sumR_more {g : Nat → Nat} {m : Nat} : ∀ d, (∀ c, m ≤ c → c < m + d → g c = 0) → sumR g (m + d) = sumR g m
  | 0, _ => rfl
  | d + 1, h => by
    rw [show m + (d + 1) = (m + d) + 1 from by omega, sumR_succ, h (m + d) (by omega) (by omega), sumR_more d fun c h1 h2 => h c h1 (by omega)]
    rfl

theorem sumR_add (f g : Nat → Nat) : ∀ n, sumR (fun c => f c + g c) n = sumR f n + sumR g n
  | 0 => rfl
  | n + 1 => by
    rw [sumR_succ, sumR_succ, sumR_succ, sumR_add f g n]
    omega

def oneZ (zs : List Int) (x y : Int) : Nat := if hasZ zs x y = true then 1 else 0

def bitC (zs : List Int) (c : Nat) : Nat := oneZ zs ((c % 20 : Nat) : Int) ((c / 20 : Nat) : Int)

def both (zs : List Int) (k c : Nat) : Nat := bitC zs c * oneZ zs (sx ((c % 20 : Nat) : Int) k) (sy ((c / 20 : Nat) : Int) k)

theorem oneZ_out {zs : List Int} {x y : Int} (h : x < 0 ∨ 19 < x ∨ y < 0 ∨ 23 < y) : oneZ zs x y = 0 := by
  unfold oneZ
  rw [if_neg]
  intro hh
  have := hasZ_in hh
  omega

theorem both_row (zs : List Int) : sumR (both zs 0) 480 = sumR (both zs 1) 480 := by
  have h1 : sumR (both zs 0) (479 + 1) = sumR (both zs 1) 479 := by
    refine sumR_shift (fun c hc => ?_) (fun c => ?_) 479
    · obtain rfl : c = 0 := by omega
      unfold both
      rw [oneZ_out (.inl (by simp [sx])), Nat.mul_zero]
    · unfold both bitC
      by_cases h : c % 20 = 19
      · have e1 : (c + 1) % 20 = 0 := by omega
        rw [oneZ_out (x := sx (((c + 1) % 20 : Nat) : Int) 0) (.inl (by simp [sx, e1])), oneZ_out (x := sx ((c % 20 : Nat) : Int) 1) (.inr (.inl (by simp [sx, h])))]
        simp
      · have e1 : (c + 1) % 20 = c % 20 + 1 := by omega
        have e2 : (c + 1) / 20 = c / 20 := by omega
        have e3 : sx (((c + 1) % 20 : Nat) : Int) 0 = ((c % 20 : Nat) : Int) := by simp only [sx, if_true, e1]; omega
        have e4 : sx ((c % 20 : Nat) : Int) 1 = (((c + 1) % 20 : Nat) : Int) := by simp only [sx, e1]; simp
        have e5 : ∀ k : Nat, k < 2 → sy ((c / 20 : Nat) : Int) k = ((c / 20 : Nat) : Int) := fun k hk => by
          simp only [sy]
          rw [if_neg (by omega), if_neg (by omega)]
        rw [e3, e4, e2, e5 0 (by omega), e5 1 (by omega), Nat.mul_comm]
  rw [h1]
  refine (sumR_more (m := 479) 1 fun c hc hc2 => ?_).symm
  obtain rfl : c = 479 := by omega
  unfold both
  rw [oneZ_out (.inr (.inl (by simp [sx]))), Nat.mul_zero]

theorem both_col (zs : List Int) : sumR (both zs 2) 480 = sumR (both zs 3) 480 := by
  have h1 : sumR (both zs 2) (460 + 20) = sumR (both zs 3) 460 := by
    refine sumR_shift (fun c hc => ?_) (fun c => ?_) 460
    · unfold both
      have e : c / 20 = 0 := by omega
      rw [oneZ_out (.inr (.inr (.inl (by simp [sy, e])))), Nat.mul_zero]
    · unfold both bitC
      have e1 : (c + 20) % 20 = c % 20 := by omega
      have e2 : (c + 20) / 20 = c / 20 + 1 := by omega
      have e3 : sy (((c + 20) / 20 : Nat) : Int) 2 = ((c / 20 : Nat) : Int) := by simp only [sy, if_true, e2]; omega
      have e4 : sy ((c / 20 : Nat) : Int) 3 = (((c + 20) / 20 : Nat) : Int) := by simp only [sy, e2]; simp
      have e5 : ∀ k : Nat, 2 ≤ k → sx ((c % 20 : Nat) : Int) k = ((c % 20 : Nat) : Int) := fun k hk => by
        simp only [sx]
        rw [if_neg (by omega), if_neg (by omega)]
      rw [e3, e4, e1, e5 2 (by omega), e5 3 (by omega), Nat.mul_comm]
  rw [h1]
  refine (sumR_more (m := 460) 20 fun c hc hc2 => ?_).symm
  unfold both
  have e : c / 20 = 23 := by omega
  rw [oneZ_out (.inr (.inr (.inr (by simp [sy, e])))), Nat.mul_zero]

theorem edgeP_four (zs : List Int) (c : Nat) (hc : bitC zs c = 1) : edgeP zs c 4 = 4 - ((both zs 0 c + both zs 1 c + (both zs 2 c + both zs 3 c) : Nat) : Int) := by
  have h : ∀ k, sd zs c k = 1 - ((both zs k c : Nat) : Int) := fun k => by
    unfold sd both oneZ
    rw [hc]
    split <;> simp
  rw [edgeP_succ, edgeP_succ, edgeP_succ, edgeP_succ, h, h, h, h]
  simp only [edgeP, List.range_zero, List.map_nil, List.sum_nil]
  omega

def fourB (zs : List Int) (c : Nat) : Nat := both zs 0 c + both zs 1 c + (both zs 2 c + both zs 3 c)

theorem edge_sum (zs : List Int) : ∀ n, edgeS zs (cellsN zs n) (cellsN zs n).length = 4 * ((cellsN zs n).length : Int) - ((sumR (fourB zs) n : Nat) : Int)
  | 0 => by simp [edgeS, cellsN, sumR]
  | n + 1 => by
    have ih := edge_sum zs n
    have hcn : cellsN zs (n + 1) = cellsN zs n ++ (if hasZ zs ((n % 20 : Nat) : Int) ((n / 20 : Nat) : Int) = true then [n] else []) := by
      simp only [cellsN, List.range_succ, List.filter_append, List.filter_cons, List.filter_nil]
    rw [sumR_succ]
    by_cases h : hasZ zs ((n % 20 : Nat) : Int) ((n / 20 : Nat) : Int) = true
    · rw [if_pos h] at hcn
      have hb : bitC zs n = 1 := if_pos h
      have hlast : (cellsN zs n ++ [n]).getD (cellsN zs n).length 0 = n := by simp
      have hpre : edgeS zs (cellsN zs n ++ [n]) (cellsN zs n).length = edgeS zs (cellsN zs n) (cellsN zs n).length := by
        unfold edgeS
        congr 1
        refine List.map_congr_left fun j hj => ?_
        have hj := List.mem_range.1 hj
        congr 1
        simp only [List.getD_eq_getElem?_getD]
        rw [List.getElem?_append_left hj]
      rw [hcn, List.length_append, List.length_singleton, edgeS_succ, hlast, hpre, ih, edgeP_four zs n hb]
      unfold fourB
      omega
    · rw [if_neg h, List.append_nil] at hcn
      have hb : bitC zs n = 0 := if_neg h
      have hf : fourB zs n = 0 := by simp [fourB, both, hb]
      rw [hcn, ih, hf]
      omega

theorem edge_even (zs : List Int) : edgeS zs (cellsN zs 480) (cellsN zs 480).length % 2 = 0 ∧ 0 ≤ edgeS zs (cellsN zs 480) (cellsN zs 480).length ∧ edgeS zs (cellsN zs 480) (cellsN zs 480).length ≤ 4 * ((cellsN zs 480).length : Int) := by
  have h1 := edge_sum zs 480
  have h2 : sumR (fourB zs) 480 = 2 * sumR (both zs 1) 480 + 2 * sumR (both zs 3) 480 := by
    have : fourB zs = fun c => (both zs 0 c + both zs 1 c) + (both zs 2 c + both zs 3 c) := rfl
    rw [this, sumR_add, sumR_add, sumR_add, both_row, both_col]
    omega
  have h3 := edgeS_in zs (cellsN zs 480) (cellsN zs 480).length
  omega

end Go.Proofs.Ytjfeleejiofeoaa
