/- The reference's steps are the fewest, too. -/
import Derived.Test.YthjafngffkhffaaBfs2
import Derived.Test.YthjafngffkhffaaStp
import Derived.WalkKit
import Derived.WalkSpells
import Derived.KernelRfl
namespace Go.Proofs.Ythjafngffkhffaa
open Go.RowKit
set_option linter.unusedVariables false
set_option linter.unusedSimpArgs false

theorem pth_front {nx : Int → List Int} : ∀ (n : Nat) (id k : Int), pth nx id (n + 1) k ↔ ∃ x ∈ nx id, pth nx x n k
  | 0, id, k => by
    simp only [pth]
    exact ⟨fun ⟨x, h1, h2⟩ => ⟨k, by rw [← h1]; exact h2, rfl⟩, fun ⟨x, h1, h2⟩ => ⟨id, rfl, by rw [h2]; exact h1⟩⟩
  | n + 1, id, k => by
    rw [pth]
    constructor
    · rintro ⟨x, h1, h2⟩
      obtain ⟨y, y1, y2⟩ := (pth_front n id x).1 h1
      exact ⟨y, y1, x, y2, h2⟩
    · rintro ⟨y, y1, x, y2, h2⟩
      exact ⟨x, (pth_front n id x).2 ⟨y, y1, y2⟩, h2⟩

theorem stpF_pth {l : List PerV} (hok : okFam l = true) (to : Int) : ∀ (n : Nat) (id : Int), upG l n id → (∀ m, pth (parI l) id m to → 0 ≤ stpF l n id to ∧ stpF l n id to ≤ m) ∧ (0 ≤ stpF l n id to → ∃ m : Nat, stpF l n id to = m ∧ pth (parI l) id m to)
  | 0, id, h => absurd h (upG_zero hok id)
  | n + 1, id, h => by
    obtain ⟨hid, q2⟩ := upG_next hok n id h
    rw [stpF]
    by_cases ht : id = to
    · rw [if_pos ht]
      exact ⟨fun m _ => ⟨Int.le_refl _, by omega⟩, fun _ => ⟨0, rfl, ht.symm⟩⟩
    · rw [if_neg ht]
      by_cases h0 : (perOf l id).one = 0
      · rw [if_pos h0]
        refine ⟨fun m hm => ?_, fun hm => by omega⟩
        cases m with
        | zero => exact absurd hm.symm ht
        | succ m =>
          obtain ⟨x, x1, _⟩ := (pth_front m id to).1 hm
          rw [parI, if_pos h0] at x1
          cases x1
      · rw [if_neg h0]
        have hp : parI l id = [(perOf l id).one, (perOf l id).two] := by rw [parI, if_neg h0]
        rw [hp] at q2
        obtain ⟨a1, a2⟩ := stpF_pth hok to n (perOf l id).one (q2 _ (by simp))
        obtain ⟨b1, b2⟩ := stpF_pth hok to n (perOf l id).two (q2 _ (by simp))
        have c1 := stpF_le l n (perOf l id).one to
        have c2 := stpF_le l n (perOf l id).two to
        generalize stpF l n (perOf l id).one to = u at *
        generalize stpF l n (perOf l id).two to = v at *
        have hJ : (u < 0 ∧ v < 0 ∧ stpJ u v = -1) ∨ (0 ≤ u ∧ (v < 0 ∨ u ≤ v) ∧ stpJ u v = u + 1) ∨ (0 ≤ v ∧ (u < 0 ∨ v < u) ∧ stpJ u v = v + 1) := by
          unfold stpJ
          by_cases hP : u < 0 ∨ 0 ≤ v ∧ v < u
          · rw [if_pos hP]
            split <;> omega
          · rw [if_neg hP]
            split <;> omega
        refine ⟨fun m hm => ?_, fun hm => ?_⟩
        · cases m with
          | zero => exact absurd hm.symm ht
          | succ m =>
            obtain ⟨x, x1, x2⟩ := (pth_front m id to).1 hm
            rw [hp] at x1
            simp only [List.mem_cons, List.not_mem_nil, or_false] at x1
            rcases x1 with rfl | rfl
            · have := a1 m x2
              omega
            · have := b1 m x2
              omega
        · rcases hJ with hJ | hJ | hJ
          · omega
          · obtain ⟨m, m1, m2⟩ := a2 hJ.1
            exact ⟨m + 1, by rw [hJ.2.2, m1]; simp, (pth_front m id to).2 ⟨_, by rw [hp]; simp, m2⟩⟩
          · obtain ⟨m, m1, m2⟩ := b2 hJ.1
            exact ⟨m + 1, by rw [hJ.2.2, m1]; simp, (pth_front m id to).2 ⟨_, by rw [hp]; simp, m2⟩⟩

theorem bfs_stp {l : List PerV} {id : Int} (hok : okFam l = true) (hid : 0 ≤ findP l id) (k : Int) : (lkI k (bfsI l id) = none ∧ stpF l 3000 id k = -1) ∨ ∃ v, lkI k (bfsI l id) = some v ∧ 0 ≤ v ∧ stpF l 3000 id k = v := by
  have hJ := bfsI_J hok hid
  have hu : upG l 3000 id := ⟨hid, by have := born_in hok hid; omega⟩
  obtain ⟨h1, h2⟩ := stpF_pth hok k 3000 id hu
  have hle := stpF_le l 3000 id k
  cases hl : lkI k (bfsI l id) with
  | none =>
    left
    refine ⟨rfl, ?_⟩
    rcases Int.lt_or_le (stpF l 3000 id k) 0 with h | h
    · omega
    · obtain ⟨m, _, m2⟩ := h2 h
      obtain ⟨v, v1, _⟩ := hJ.done m k m2
      rw [hl] at v1
      cases v1
  | some v =>
    right
    obtain ⟨i, i1, i2⟩ := idx_of_lk hl
    obtain ⟨n, n1, n2⟩ := hJ.a i i1
    rw [i2] at n1 n2
    simp only at n1 n2
    obtain ⟨g1, g2⟩ := h1 n n2
    obtain ⟨m, m1, m2⟩ := h2 g1
    obtain ⟨w, w1, w2⟩ := hJ.done m k m2
    rw [hl] at w1
    cases w1
    exact ⟨v, rfl, by omega, by omega⟩

end Go.Proofs.Ythjafngffkhffaa
