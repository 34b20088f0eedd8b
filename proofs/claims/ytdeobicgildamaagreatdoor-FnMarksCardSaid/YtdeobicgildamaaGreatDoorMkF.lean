/- Plain facts: a line's ends; the marks along a line are the marks of its persons. -/
import Derived.Test.YtdeobicgildamaaGreatDoorMks3
import Derived.Test.YtdeobicgildamaaGreatDoorLin4
import Derived.WalkKit
namespace Go.Proofs.YtdeobicgildamaaGreatDoor
open Go.RowKit
set_option linter.unusedVariables false
set_option linter.unusedSimpArgs false

theorem lineF_last {l : List PerV} {to : Int} (h : okFam l = true) (ht : 0 ≤ findP l to) : ∀ (n : Nat) (a : Int), lkI a (bfsI l to) = some (n : Int) → (lineF (bfsI l to) l n a).getD n 0 = to
  | 0, a, hv => by
    obtain ⟨m, m1, m2, _⟩ := bfs_least h ht hv
    obtain rfl : m = 0 := by omega
    have m3 : a = to := m2
    rw [lineF, m3]
    rfl
  | n + 1, a, hv => by
    have := lineF_last h ht n _ (nxtF_near h ht hv).2.1
    rw [lineF]
    simpa [List.getD_eq_getElem?_getD] using this

theorem toL_ends {l : List PerV} {a to : Int} (h : okFam l = true) (ht : 0 ≤ findP l to) (hne : toL l a to ≠ []) : (toL l a to).getD 0 0 = a ∧ (toL l a to).getD ((toL l a to).length - 1) 0 = to := by
  unfold toL at hne ⊢
  cases hv : lkI a (bfsI l to) with
  | none =>
    rw [hv] at hne
    exact absurd rfl hne
  | some v =>
    obtain ⟨n, rfl, _, _⟩ := bfs_least h ht hv
    simp only [Int.toNat_natCast]
    refine ⟨?_, ?_⟩
    · obtain ⟨r, e⟩ := lineF_head (bfsI l to) l n a
      rw [e]
      rfl
    · rw [lineF_len, Nat.add_sub_cancel]
      exact lineF_last h ht n a hv

def nzM (l : List PerV) (y : Int) (zs : List Int) (i : Nat) : Nat := ((mksF l y (zs.take i)).getD []).length

theorem nzM_zero (l : List PerV) (y : Int) (zs : List Int) : nzM l y zs 0 = 0 := rfl

theorem nzM_end {l : List PerV} {y : Int} {zs out : List Int} (h : mksF l y zs = some out) : nzM l y zs zs.length = out.length := by
  rw [nzM, List.take_length, h]
  rfl

theorem nzM_step {l : List PerV} {y : Int} {zs out : List Int} (h : mksF l y zs = some out) {i : Nat} (hi : i < zs.length) : ∃ m, mkO l y (zs.getD i 0) = some m ∧ 0 ≤ m ∧ nzM l y zs (i + 1) = nzM l y zs i + if m = 0 then 0 else 1 := by
  cases hp : mksF l y (zs.take i) with
  | none =>
    have := mksF_no hp
    rw [h] at this
    cases this
  | some p =>
    have h1 := mksF_next (l := l) (y := y) hi
    rw [hp] at h1
    cases hm : mkO l y (zs.getD i 0) with
    | none =>
      have h2 : mksF l y (zs.take (i + 1)) = none := by
        rw [h1]
        simp only [stM, hm]
      have := mksF_no h2
      rw [h] at this
      cases this
    | some m =>
      refine ⟨m, rfl, (mkO_bnd hm).1, ?_⟩
      have h2 : mksF l y (zs.take (i + 1)) = some (if m = 0 then p else p ++ [m]) := by
        rw [h1]
        simp only [stM, hm]
      rw [nzM, nzM, h2, hp]
      by_cases e : m = 0
      · simp [e]
      · simp [e]

theorem marks_facts {l : List PerV} {a to y : Int} {out : List Int} (h : mksW l a to y = some out) : ∃ L : List Int, lineR l a to = .tu [intL L, .bool true] ∧ 0 < L.length ∧ L.length ≤ l.length ∧ L.getD 0 0 = a ∧ L.getD (L.length - 1) 0 = to ∧ out.length ≤ 6 ∧ ∃ nz : Nat → Nat, nz 1 = 0 ∧ nz L.length = out.length ∧ ∀ j, 1 ≤ j → j < L.length → ∃ m, markR l (L.getD j 0) y = .tu [.int m, .bool true] ∧ 0 ≤ m ∧ nz (j + 1) = nz j + (if m = 0 then 0 else 1) ∧ nz j ≤ j := by
  unfold mksW at h
  split at h
  · rename_i hq
    rw [Bool.and_eq_true, Bool.and_eq_true] at hq
    obtain ⟨⟨qa, qt⟩, qy⟩ := hq
    obtain ⟨hok, ht⟩ := askF_iff.1 qt
    have h6 := mksV_len h
    unfold mksV at h
    split at h
    · cases h
    · rename_i hne
      have h0 : 0 < (toL l a to).length := List.length_pos_iff.2 hne
      have hF : mksF l y ((toL l a to).drop 1) = some out := by
        unfold mksT at h
        cases hf : mksF l y ((toL l a to).drop 1) with
        | none =>
          rw [hf] at h
          cases h
        | some o =>
          rw [hf] at h
          simp only at h
          split at h
          · exact h
          · cases h
      have hdl : ((toL l a to).drop 1).length = (toL l a to).length - 1 := List.length_drop
      obtain ⟨e1, e2⟩ := toL_ends hok ht hne
      refine ⟨toL l a to, ?_, h0, toL_len hok ht, e1, e2, h6, fun j => nzM l y ((toL l a to).drop 1) (j - 1), nzM_zero _ _ _, ?_, fun j hj hi => ?_⟩
      · rw [lineR, qa, qt, Bool.and_self, if_pos rfl, decide_eq_true (by omega)]
      · simp only
        rw [← hdl, nzM_end hF]
      · obtain ⟨i, rfl⟩ : ∃ i, j = i + 1 := ⟨j - 1, by omega⟩
        simp only [Nat.add_sub_cancel]
        obtain ⟨m, m1, m2, m3⟩ := nzM_step hF (i := i) (by omega)
        have hg : ((toL l a to).drop 1).getD i 0 = (toL l a to).getD (i + 1) 0 := by
          simp only [List.getD_eq_getElem?_getD, List.getElem?_drop]
          rw [Nat.add_comm]
        rw [hg] at m1
        refine ⟨m, ?_, m2, m3, ?_⟩
        · have hin : 0 ≤ findP l ((toL l a to).getD (i + 1) 0) := toL_in hok ht _ (getD_mem 0 hi)
          rw [markR, askF_iff.2 ⟨hok, hin⟩, qy, Bool.and_self, if_pos rfl, markD_yes m1]
        · unfold nzM
          cases hp : mksF l y (((toL l a to).drop 1).take i) with
          | none => simp
          | some p =>
            have := mksF_len hp
            rw [List.length_take] at this
            simp only [Option.getD_some]
            omega
  · cases h

end Go.Proofs.YtdeobicgildamaaGreatDoor
