/- The program's best pair is the reference's. -/
import Derived.Test.YthjafngffkhffaaKin
import Derived.Test.YthjafngffkhffaaKin2
import Derived.Test.YthjafngffkhffaaKinS
import Derived.WalkKit
import Derived.WalkSpells
import Derived.KernelRfl
namespace Go.Proofs.Ythjafngffkhffaa
open Go.RowKit
set_option linter.unusedVariables false
set_option linter.unusedSimpArgs false

structure SB (l : List PerV) (a b : Int) (n : Nat) : Prop where
  no : (kinS l a b n).1 < 0 → ∀ i, i < n → stpF l 3000 a (l.getD i PerV.zero).id < 0 ∨ stpF l 3000 b (l.getD i PerV.zero).id < 0
  ex : 0 ≤ (kinS l a b n).1 → ∃ i, i < n ∧ stpF l 3000 a (l.getD i PerV.zero).id = (kinS l a b n).1 ∧ stpF l 3000 b (l.getD i PerV.zero).id = (kinS l a b n).2 ∧ 0 ≤ (kinS l a b n).2
  le : 0 ≤ (kinS l a b n).1 → ∀ i, i < n → 0 ≤ stpF l 3000 a (l.getD i PerV.zero).id → 0 ≤ stpF l 3000 b (l.getD i PerV.zero).id → (kinS l a b n).1 + (kinS l a b n).2 < stpF l 3000 a (l.getD i PerV.zero).id + stpF l 3000 b (l.getD i PerV.zero).id ∨ ((kinS l a b n).1 + (kinS l a b n).2 = stpF l 3000 a (l.getD i PerV.zero).id + stpF l 3000 b (l.getD i PerV.zero).id ∧ (kinS l a b n).1 ≤ stpF l 3000 a (l.getD i PerV.zero).id)

theorem kinS_SB (l : List PerV) (a b : Int) : ∀ n, SB l a b n
  | 0 => ⟨fun _ i hi => by omega, fun h => by simp [kinS] at h, fun _ i hi => by omega⟩
  | n + 1 => by
    have ih := kinS_SB l a b n
    obtain ⟨i1, i2, i3⟩ := ih
    have hk : kinS l a b (n + 1) = kinSt (stpF l 3000 a (l.getD n PerV.zero).id) (stpF l 3000 b (l.getD n PerV.zero).id) (kinS l a b n) := rfl
    generalize hu : stpF l 3000 a (l.getD n PerV.zero).id = u at hk
    generalize hv : stpF l 3000 b (l.getD n PerV.zero).id = v at hk
    generalize kinS l a b n = z at *
    obtain ⟨x, y⟩ := z
    simp only at i1 i2 i3
    unfold kinSt at hk
    by_cases h1 : u < 0 ∨ v < 0
    · rw [if_pos h1] at hk
      refine ⟨fun h i hi => ?_, fun h => ?_, fun h i hi q1 q2 => ?_⟩ <;> simp only [hk] at h ⊢
      · by_cases e : i = n
        · subst e; clear i1 i2 i3; omega
        · exact i1 h i (by omega)
      · obtain ⟨i, j1, j2⟩ := i2 h
        exact ⟨i, by omega, j2⟩
      · by_cases e : i = n
        · subst e; clear i1 i2 i3; omega
        · exact i3 h i (by omega) q1 q2
    · rw [if_neg h1] at hk
      by_cases h2 : x < 0 ∨ u + v < x + y ∨ (u + v = x + y ∧ u < x)
      · rw [if_pos h2] at hk
        refine ⟨fun h i hi => ?_, fun h => ?_, fun h i hi q1 q2 => ?_⟩ <;> simp only [hk] at h ⊢
        · omega
        · exact ⟨n, by omega, hu, hv, by omega⟩
        · by_cases e : i = n
          · subst e; rw [hu, hv]; omega
          · by_cases hx : x < 0
            · have := i1 hx i (by omega)
              omega
            · have := i3 (by omega) i (by omega) q1 q2
              omega
      · rw [if_neg h2] at hk
        refine ⟨fun h i hi => ?_, fun h => ?_, fun h i hi q1 q2 => ?_⟩ <;> simp only [hk] at h ⊢
        · exact absurd (.inl h) h2
        · obtain ⟨i, j1, j2⟩ := i2 h
          exact ⟨i, by omega, j2⟩
        · by_cases e : i = n
          · subst e; rw [hu, hv]; omega
          · exact i3 h i (by omega) q1 q2

def kinO (z : Int × Int) : Int × Int × Bool := if z.1 < 0 then (0, 0, false) else (z.1, z.2, true)

theorem kin_same {l : List PerV} {a b : Int} (hok : okFam l = true) (ha : 0 ≤ findP l a) (hb : 0 ≤ findP l b) : kinR (bfsI l a) (bfsI l b) = kinO (kinS l a b l.length) := by
  have hS := kinS_SB l a b l.length
  have h1 := bfs_stp hok ha
  have h2 := bfs_stp hok hb
  have hB := bfsI_ok hok ha
  -- an entry of the first map, as a person
  have hent : ∀ i, i < (bfsI l a).length → ∃ k, k < l.length ∧ (l.getD k PerV.zero).id = ((bfsI l a).getD i (0, 0)).1 ∧ stpF l 3000 a (l.getD k PerV.zero).id = ((bfsI l a).getD i (0, 0)).2 := fun i hi => by
    have hm := getD_key hi
    have hf : 0 ≤ findP l ((bfsI l a).getD i (0, 0)).1 := hB.1.2 _ (List.mem_map.2 ⟨_, hm, rfl⟩)
    obtain ⟨q1, q2, _⟩ := findP_lt (l := l) (id := ((bfsI l a).getD i (0, 0)).1) (by omega)
    refine ⟨_, q1, q2, ?_⟩
    rw [q2]
    have hl := lkI_mem hB.1.1 hm
    rcases h1 ((bfsI l a).getD i (0, 0)).1 with ⟨e, _⟩ | ⟨v, e, _, e2⟩
    · rw [hl] at e; cases e
    · rw [hl] at e; cases e
      exact e2
  refine best_one (fun _ => Iff.rfl) (kinF_best _ _ _) (u := kinO (kinS l a b l.length)) ⟨fun h => ?_, fun h => ?_, fun h i hi o ho => ?_⟩
  · unfold kinO at h ⊢
    split at h
    · rename_i hx
      rw [if_pos hx]
      refine ⟨rfl, rfl, fun i hi => ?_⟩
      obtain ⟨k, k1, k2, k3⟩ := hent i (List.mem_range.1 hi)
      have hno := hS.no hx k k1
      have hm := hB.2 _ (getD_key (List.mem_range.1 hi))
      simp only at hm
      rw [← k2]
      rcases h2 (l.getD k PerV.zero).id with ⟨e, _⟩ | ⟨v, e, e1, e2⟩
      · exact e
      · omega
    · cases h
  · unfold kinO at h ⊢
    split at h
    · cases h
    · rename_i hx
      rw [if_neg hx]
      obtain ⟨k, k1, k2, k3, k4⟩ := hS.ex (by omega)
      rcases h1 (l.getD k PerV.zero).id with ⟨_, e2⟩ | ⟨v, e, e1, e2⟩
      · omega
      · obtain ⟨i, i1, i2⟩ := idx_of_lk e
        refine ⟨i, List.mem_range.2 i1, ?_, ?_⟩
        · rw [i2]
          rcases h2 (l.getD k PerV.zero).id with ⟨_, f2⟩ | ⟨w, f, f1, f2⟩
          · omega
          · rw [f]
            simp only
            congr 1
            omega
        · rw [i2]
          simp only
          omega
  · unfold kinO at h ⊢
    split at h
    · cases h
    · rename_i hx
      rw [if_neg hx]
      obtain ⟨k, k1, k2, k3⟩ := hent i (List.mem_range.1 hi)
      have hm := hB.2 _ (getD_key (List.mem_range.1 hi))
      simp only at hm
      rw [← k2] at ho
      rcases h2 (l.getD k PerV.zero).id with ⟨e, _⟩ | ⟨w, e, e1, e2⟩
      · rw [ho] at e; cases e
      · rw [ho] at e; cases e
        have := hS.le (by omega) k k1 (by omega) (by omega)
        simp only
        omega

end Go.Proofs.Ythjafngffkhffaa
