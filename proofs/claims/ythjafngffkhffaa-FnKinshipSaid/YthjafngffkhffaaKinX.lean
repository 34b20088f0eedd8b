/- Kinship from both sides: the sum of the steps is the same, and it is 0 for one and the same person alone. -/
import Derived.Test.YthjafngffkhffaaKin4
import Derived.WalkKit
import Derived.WalkSpells
import Derived.KernelRfl
namespace Go.Proofs.Ythjafngffkhffaa
open Go.RowKit
set_option linter.unusedVariables false
set_option linter.unusedSimpArgs false

theorem kin_entry {l : List PerV} {a : Int} (hok : okFam l = true) (ha : 0 ≤ findP l a) {i : Nat} (hi : i < (bfsI l a).length) : lkI ((bfsI l a).getD i (0, 0)).1 (bfsI l a) = some ((bfsI l a).getD i (0, 0)).2 ∧ 0 ≤ ((bfsI l a).getD i (0, 0)).2 ∧ (((bfsI l a).getD i (0, 0)).2 = 0 → ((bfsI l a).getD i (0, 0)).1 = a) := by
  have hB := bfsI_ok hok ha
  have hm := getD_key hi
  refine ⟨lkI_mem hB.1.1 hm, (hB.2 _ hm).1, fun h0 => ?_⟩
  obtain ⟨n, n1, n2⟩ := (bfsI_J hok ha).a i hi
  have : n = 0 := by omega
  subst this
  exact n2

theorem kin_le {l : List PerV} {a b : Int} (hok : okFam l = true) (ha : 0 ≤ findP l a) (hb : 0 ≤ findP l b) {c x y : Int} (h1 : lkI c (bfsI l a) = some x) (h2 : lkI c (bfsI l b) = some y) : (kinR (bfsI l a) (bfsI l b)).2.2 = true ∧ (kinR (bfsI l a) (bfsI l b)).1 + (kinR (bfsI l a) (bfsI l b)).2.1 ≤ x + y := by
  have hB := kinF_best (bfsI l a) (bfsI l b) (List.range (bfsI l a).length)
  obtain ⟨i, i1, i2⟩ := idx_of_lk h1
  have ht : (kinR (bfsI l a) (bfsI l b)).2.2 = true := by
    cases hf : (kinR (bfsI l a) (bfsI l b)).2.2
    · have := (hB.no hf).2.2 i (List.mem_range.2 i1)
      rw [i2, h2] at this
      cases this
    · rfl
  have := hB.le ht i (List.mem_range.2 i1) y (by rw [i2]; exact h2)
  rw [i2] at this
  refine ⟨ht, ?_⟩
  unfold kinR
  simp only at this
  omega

theorem kin_ex {l : List PerV} {a b : Int} (hok : okFam l = true) (ha : 0 ≤ findP l a) (hb : 0 ≤ findP l b) (h : (kinR (bfsI l a) (bfsI l b)).2.2 = true) : ∃ c, lkI c (bfsI l a) = some (kinR (bfsI l a) (bfsI l b)).1 ∧ lkI c (bfsI l b) = some (kinR (bfsI l a) (bfsI l b)).2.1 := by
  have hB := kinF_best (bfsI l a) (bfsI l b) (List.range (bfsI l a).length)
  obtain ⟨i, i1, i2, i3⟩ := hB.ex h
  have hi := List.mem_range.1 i1
  refine ⟨_, ?_, i2⟩
  rw [(kin_entry hok ha hi).1, i3]
  rfl

theorem lk_pos {l : List PerV} {a c x : Int} (hok : okFam l = true) (ha : 0 ≤ findP l a) (h : lkI c (bfsI l a) = some x) : 0 ≤ x ∧ (x = 0 → c = a) := by
  obtain ⟨i, i1, i2⟩ := idx_of_lk h
  have := kin_entry hok ha i1
  rw [i2] at this
  exact this.2

theorem kin_both {l : List PerV} {a b : Int} (h : (kinZ l a b).2.2 = true) : (kinZ l b a).2.2 = true ∧ (kinZ l b a).1 + (kinZ l b a).2.1 = (kinZ l a b).1 + (kinZ l a b).2.1 ∧ ((kinZ l a b).1 + (kinZ l a b).2.1 = 0 ↔ a = b) ∧ 0 ≤ (kinZ l a b).1 ∧ 0 ≤ (kinZ l a b).2.1 ∧ 0 ≤ (kinZ l b a).1 ∧ 0 ≤ (kinZ l b a).2.1 := by
  unfold kinZ at *
  cases g : askF l a && askF l b
  · rw [g] at h
    cases h
  · rw [g, if_pos rfl] at h
    have g' : (askF l b && askF l a) = true := by rw [Bool.and_comm]; exact g
    rw [g', if_pos rfl, if_pos rfl]
    rw [Bool.and_eq_true] at g
    obtain ⟨hok, ha⟩ := askF_iff.1 g.1
    have hb := (askF_iff.1 g.2).2
    obtain ⟨c, c1, c2⟩ := kin_ex hok ha hb h
    obtain ⟨k1, k2⟩ := kin_le hok hb ha c2 c1
    obtain ⟨d, d1, d2⟩ := kin_ex hok hb ha k1
    obtain ⟨m1, m2⟩ := kin_le hok ha hb d2 d1
    have p1 := lk_pos hok ha c1
    have p2 := lk_pos hok hb c2
    have p3 := lk_pos hok hb d1
    have p4 := lk_pos hok ha d2
    refine ⟨k1, by omega, ⟨fun e => ?_, fun e => ?_⟩, p1.1, p2.1, p3.1, p4.1⟩
    · rw [← p1.2 (by omega), ← p2.2 (by omega)]
    · subst e
      have z := (bfsI_J hok ha).z
      have := (kin_le hok ha ha z z).2
      omega

theorem kin_small {l : List PerV} {a b : Int} : (kinZ l a b).1 ≤ 17 ∧ (kinZ l a b).2.1 ≤ 17 := by
  unfold kinZ
  split
  · rename_i g
    rw [Bool.and_eq_true] at g
    obtain ⟨hok, ha⟩ := askF_iff.1 g.1
    have hb := (askF_iff.1 g.2).2
    have hl := okFam_len hok
    cases hf : (kinR (bfsI l a) (bfsI l b)).2.2
    · have := (kinF_best (bfsI l a) (bfsI l b) (List.range (bfsI l a).length)).no hf
      unfold kinR
      omega
    · obtain ⟨c, c1, c2⟩ := kin_ex hok ha hb hf
      have q1 := (bfsI_ok hok ha).2 _ (lkI_some c1)
      have q2 := (bfsI_ok hok hb).2 _ (lkI_some c2)
      simp only at q1 q2
      omega
  · simp

end Go.Proofs.Ythjafngffkhffaa
