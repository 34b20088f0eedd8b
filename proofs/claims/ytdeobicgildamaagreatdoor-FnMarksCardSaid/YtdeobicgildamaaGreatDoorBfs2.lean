/- Breadth first is right: a number stands for a person exactly if it is the length of a shortest way. -/
import Derived.Test.YtdeobicgildamaaGreatDoorSteps
import Derived.WalkKit
import Derived.WalkSpells
import Derived.KernelRfl
namespace Go.Proofs.YtdeobicgildamaaGreatDoor
open Go.RowKit
set_option linter.unusedVariables false
set_option linter.unusedSimpArgs false

def pth (nx : Int → List Int) (id : Int) : Nat → Int → Prop
  | 0, k => k = id
  | n + 1, k => ∃ x, pth nx id n x ∧ k ∈ nx x

theorem stB_has {w : Int} : ∀ (cs : List Int) (L : List (Int × Int)) (y : Int), y ∈ cs → ∃ u, lkI y (cs.foldl (stB w) L) = some u ∧ (lkI y L = some u ∨ u = w)
  | [], _, _, h => by cases h
  | c :: cs, L, y, h => by
    rw [List.foldl_cons]
    by_cases e : y = c
    · subst e
      obtain ⟨M, hM, _⟩ := stB_grow (v := w) cs (stB w L y)
      cases hl : lkI y L with
      | none =>
        refine ⟨w, ?_, .inr rfl⟩
        rw [hM]
        refine lkI_app_some ?_
        rw [stB, hl, if_neg (by simp), lkI_app, hl, if_pos rfl]
        rfl
      | some u =>
        refine ⟨u, ?_, .inl rfl⟩
        rw [hM]
        refine lkI_app_some ?_
        rw [stB, hl, if_pos (by simp)]
        exact hl
    · rcases List.mem_cons.1 h with h | h
      · exact absurd h e
      · obtain ⟨u, h1, h2⟩ := stB_has cs (stB w L c) y h
        refine ⟨u, h1, ?_⟩
        rcases h2 with h2 | h2
        · unfold stB at h2
          split at h2
          · exact .inl h2
          · rw [lkI_app, if_neg (fun h => e h.symm)] at h2
            left
            simpa using h2
        · exact .inr h2

structure Jb (nx : Int → List Int) (id : Int) (L : List (Int × Int)) (j : Nat) : Prop where
  a : ∀ i, i < L.length → ∃ n : Nat, (L.getD i (0, 0)).2 = n ∧ pth nx id n (L.getD i (0, 0)).1
  s : ∀ i k, i ≤ k → k < L.length → (L.getD i (0, 0)).2 ≤ (L.getD k (0, 0)).2
  w : ∀ k, k < L.length → j < L.length → (L.getD k (0, 0)).2 ≤ (L.getD j (0, 0)).2 + 1
  c : ∀ i, i < j → i < L.length → ∀ y ∈ nx (L.getD i (0, 0)).1, ∃ v, lkI y L = some v ∧ v ≤ (L.getD i (0, 0)).2 + 1
  z : lkI id L = some 0

theorem getD_app1 {L M : List (Int × Int)} {i : Nat} (h : i < L.length) : (L ++ M).getD i (0, 0) = L.getD i (0, 0) := by
  simp only [List.getD_eq_getElem?_getD, List.getElem?_append_left h]

theorem getD_app2 {L M : List (Int × Int)} {i : Nat} (h : L.length ≤ i) (h2 : i < (L ++ M).length) : (L ++ M).getD i (0, 0) ∈ M := by
  rw [List.length_append] at h2
  simp only [List.getD_eq_getElem?_getD, List.getElem?_append_right h]
  rw [List.getElem?_eq_getElem (by omega)]
  exact List.getElem_mem _

theorem idx_of_lk {L : List (Int × Int)} {y v : Int} (h : lkI y L = some v) : ∃ i, i < L.length ∧ L.getD i (0, 0) = (y, v) := by
  obtain ⟨i, hi, e⟩ := List.mem_iff_getElem.1 (lkI_some h)
  exact ⟨i, hi, by rw [getD_eq (0, 0) hi]; exact e⟩

theorem Jb.next {nx : Int → List Int} {id : Int} {L : List (Int × Int)} {j : Nat} (h : Jb nx id L j) (hj : j < L.length) : Jb nx id ((nx (L.getD j (0, 0)).1).foldl (stB ((L.getD j (0, 0)).2 + 1)) L) (j + 1) := by
  obtain ⟨M, hM, hm⟩ := stB_grow (v := (L.getD j (0, 0)).2 + 1) (nx (L.getD j (0, 0)).1) L
  have hhas := stB_has (w := (L.getD j (0, 0)).2 + 1) (nx (L.getD j (0, 0)).1) L
  rw [hM] at hhas ⊢
  have key : ∀ i, i < (L ++ M).length → (i < L.length ∧ (L ++ M).getD i (0, 0) = L.getD i (0, 0)) ∨ (L.length ≤ i ∧ ((L ++ M).getD i (0, 0)).2 = (L.getD j (0, 0)).2 + 1 ∧ ((L ++ M).getD i (0, 0)).1 ∈ nx (L.getD j (0, 0)).1) := fun i hi => by
    by_cases e : i < L.length
    · exact .inl ⟨e, getD_app1 e⟩
    · exact .inr ⟨by omega, hm _ (getD_app2 (by omega) hi)⟩
  have hs : ∀ i k, i ≤ k → k < (L ++ M).length → ((L ++ M).getD i (0, 0)).2 ≤ ((L ++ M).getD k (0, 0)).2 := fun i k hik hk => by
    rcases key i (by omega) with ⟨i1, i2⟩ | ⟨i1, i2, _⟩
    · rcases key k hk with ⟨k1, k2⟩ | ⟨k1, k2, _⟩
      · rw [i2, k2]; exact h.s i k hik k1
      · rw [i2, k2]; exact h.w i i1 hj
    · rcases key k hk with ⟨k1, k2⟩ | ⟨k1, k2, _⟩
      · omega
      · rw [i2, k2]; exact Int.le_refl _
  have hjl := getD_app1 (M := M) hj
  refine ⟨fun i hi => ?_, hs, fun k hk hj1 => ?_, fun i hi hil y hy => ?_, lkI_app_some h.z⟩
  · rcases key i hi with ⟨i1, i2⟩ | ⟨i1, i2, i3⟩
    · rw [i2]; exact h.a i i1
    · obtain ⟨n, n1, n2⟩ := h.a j hj
      exact ⟨n + 1, by rw [i2, n1]; simp, _, n2, i3⟩
  · have h1 := hs j (j + 1) (by omega) hj1
    rw [hjl] at h1
    rcases key k hk with ⟨k1, k2⟩ | ⟨k1, k2, _⟩
    · rw [k2]
      have := h.w k k1 hj
      omega
    · rw [k2]; omega
  · by_cases e : i = j
    · subst e
      rw [hjl] at hy ⊢
      obtain ⟨u, u1, u2⟩ := hhas y hy
      refine ⟨u, u1, ?_⟩
      rcases u2 with u2 | u2
      · obtain ⟨k, k1, k2⟩ := idx_of_lk u2
        have := h.w k k1 hj
        rw [k2] at this
        exact this
      · omega
    · have hi2 : i < L.length := by omega
      rw [getD_app1 hi2] at hy ⊢
      obtain ⟨v, v1, v2⟩ := h.c i (by omega) hi2 y hy
      exact ⟨v, lkI_app_some v1, v2⟩

theorem Jb.done {nx : Int → List Int} {id : Int} {L : List (Int × Int)} (h : Jb nx id L L.length) : ∀ (n : Nat) (k : Int), pth nx id n k → ∃ v, lkI k L = some v ∧ v ≤ n
  | 0, k, hp => by
    rw [pth] at hp
    subst hp
    exact ⟨0, h.z, by simp⟩
  | n + 1, k, hp => by
    rw [pth] at hp
    obtain ⟨x, h1, h2⟩ := hp
    obtain ⟨v, v1, v2⟩ := h.done n x h1
    obtain ⟨i, i1, i2⟩ := idx_of_lk v1
    obtain ⟨u, u1, u2⟩ := h.c i i1 i1 k (by rw [i2]; exact h2)
    rw [i2] at u2
    exact ⟨u, u1, by simp only at u2; omega⟩

theorem bfsF_J {l : List PerV} {id : Int} (hok : okFam l = true) : ∀ (n : Nat) (L : List (Int × Int)) (j : Nat), Jb (parI l) id L j → okB l j L → j ≤ L.length → l.length + 1 ≤ j + n → Jb (parI l) id (bfsF (parI l) n L j) (bfsF (parI l) n L j).length
  | 0, L, j, h, ho, hj, hn => by
    have := okB_len ho
    omega
  | n + 1, L, j, h, ho, hj, hn => by
    rw [bfsF]
    split
    · rename_i hjl
      have hkm := getD_key hjl
      have hown : 0 ≤ findP l (L.getD j (0, 0)).1 := ho.1.2 _ (List.mem_map.2 ⟨_, hkm, rfl⟩)
      have hv := ho.2 _ hkm
      simp only at hv
      refine bfsF_J hok n _ (j + 1) (h.next hjl) (okB_fold (m := j + 1) (by omega) (by omega) _ (okB_mono ho (by omega)) (fun c hc => parI_in hok hown hc)) ?_ (by omega)
      obtain ⟨M, hM, _⟩ := stB_grow (v := (L.getD j (0, 0)).2 + 1) (parI l (L.getD j (0, 0)).1) L
      rw [hM, List.length_append]
      omega
    · have : j = L.length := by omega
      subst this
      exact h

theorem bfsI_J {l : List PerV} {id : Int} (hok : okFam l = true) (hid : 0 ≤ findP l id) : Jb (parI l) id (bfsI l id) (bfsI l id).length := by
  refine bfsF_J hok (l.length + 1) [(id, 0)] 0 ⟨fun i hi => ?_, fun i k hik hk => ?_, fun k hk _ => ?_, fun i hi => by omega, ?_⟩ ⟨⟨by simp, fun a ha => by simp at ha; rw [ha]; exact hid⟩, fun p hp => by simp at hp; subst hp; simp⟩ (by simp) (by omega)
  · simp only [List.length_singleton] at hi
    obtain rfl : i = 0 := by omega
    exact ⟨0, rfl, rfl⟩
  · simp only [List.length_singleton] at hk
    obtain rfl : k = 0 := by omega
    obtain rfl : i = 0 := by omega
    exact Int.le_refl _
  · simp only [List.length_singleton] at hk
    obtain rfl : k = 0 := by omega
    simp
  · simp [lkI]

end Go.Proofs.YtdeobicgildamaaGreatDoor
