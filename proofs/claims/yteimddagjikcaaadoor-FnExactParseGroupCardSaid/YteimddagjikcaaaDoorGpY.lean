/- A group of charges read off its text by its last word; no program. -/
import Derived.Test.YteimddagjikcaaaDoorGpX
import Derived.WalkKit
import Derived.WalkSpells
import Derived.KernelRfl
namespace Go.Proofs.YteimddagjikcaaaDoor
open Go.RowKit
set_option linter.unusedVariables false
set_option linter.unusedSimpArgs false

theorem idxB_get {w : ByteArray} : ∀ {l : List ByteArray}, 0 ≤ idxB w l → l.getD (idxB w l).toNat ⟨#[]⟩ = w
  | [], h => by simp [idxB] at h
  | x :: r, h => by
    by_cases h0 : x = w
    · have e : idxB w (x :: r) = 0 := by rw [idxB, if_pos h0]
      rw [e]
      exact h0
    · rw [idxB, if_neg h0] at h ⊢
      by_cases h1 : idxB w r = -1
      · rw [if_pos h1] at h
        omega
      · rw [if_neg h1] at h ⊢
        have hr := idxB_in w r
        have := idxB_get (w := w) (l := r) (by omega)
        rw [show (idxB w r + 1).toNat = (idxB w r).toNat + 1 by omega]
        simpa using this

theorem tinc_word {w : ByteArray} (h : 0 ≤ idxB w tincWords) : tincWord (idxB w tincWords + 1) = w ∧ 1 ≤ idxB w tincWords + 1 ∧ idxB w tincWords + 1 ≤ 9 := by
  have hb := idxB_in w tincWords
  have h9 : tincWords.length = 9 := rfl
  have hk := idxB_get h
  obtain ⟨n, hn⟩ := Int.eq_ofNat_of_zero_le h
  rw [hn] at hk hb ⊢
  have hn9 : n < 9 := by omega
  refine ⟨?_, by omega, by omega⟩
  have ht : tincWord ((n : Int) + 1) = tincWords.getD n ⟨#[]⟩ := by
    obtain rfl | rfl | rfl | rfl | rfl | rfl | rfl | rfl | rfl : n = 0 ∨ n = 1 ∨ n = 2 ∨ n = 3 ∨ n = 4 ∨ n = 5 ∨ n = 6 ∨ n = 7 ∨ n = 8 := by omega
    all_goals rfl
  rw [ht]
  simpa using hk

def lsF (L : List UInt8) : Nat → List UInt8 × List UInt8
  | 0 => ([], L)
  | i + 1 => if L.getD i 0 = 32 then (L.take i, L.drop (i + 1)) else lsF L i

theorem lsF_at {b w : List UInt8} (hw : (32 : UInt8) ∉ w) : ∀ j, j ≤ w.length → lsF (b ++ [32] ++ w) (b.length + 1 + j) = (b, w)
  | 0, _ => by
    have e : (b ++ [32] ++ w).getD b.length 0 = 32 := by
      rw [List.append_assoc, List.getD_eq_getElem?_getD, List.getElem?_append_right (Nat.le_refl _)]
      simp
    rw [Nat.add_zero, lsF, if_pos e]
    congr 1
    · rw [List.append_assoc, List.take_left]
    · rw [show b.length + 1 = (b ++ [32]).length by simp, List.drop_left]
  | j + 1, h => by
    have e : (b ++ [32] ++ w).getD (b.length + 1 + j) 0 = w.getD j 0 := by
      rw [List.getD_eq_getElem?_getD, List.getElem?_append_right (by simp), List.getD_eq_getElem?_getD]
      congr 2
      simp
    have hn : ¬ w.getD j 0 = 32 := fun q => by
      have := getD_mem (l := w) 0 (show j < w.length by omega)
      rw [q] at this
      exact hw this
    rw [← Nat.add_assoc, lsF, e, if_neg hn]
    exact lsF_at hw j (by omega)

theorem lsF_all {b w : List UInt8} (hw : (32 : UInt8) ∉ w) : lsF (b ++ [32] ++ w) (b ++ [32] ++ w).length = (b, w) := by
  have := lsF_at (b := b) hw w.length (Nat.le_refl _)
  have hl : (b ++ [32] ++ w).length = b.length + 1 + w.length := by
    simp
    omega
  rw [hl]
  exact this

theorem lsF_sound {L : List UInt8} : ∀ i, i ≤ L.length → (lsF L i).1 = [] ∨ L = (lsF L i).1 ++ [32] ++ (lsF L i).2
  | 0, _ => .inl rfl
  | i + 1, h => by
    rw [lsF]
    split
    · rename_i e
      right
      have hl : i < L.length := by omega
      have h1 : L.take (i + 1) = L.take i ++ [L.getD i 0] := take_next 0 hl
      rw [e] at h1
      simp only
      rw [← h1, List.take_append_drop]
    · exact lsF_sound i (by omega)

def goldB : ByteArray := tincWord 1

def unV (b : ByteArray) : (Int × Int × Int × Int) × Bool :=
  if okG (gpV (b ++ ⟨#[32]⟩ ++ goldB)).1 = true ∧ (gpV (b ++ ⟨#[32]⟩ ++ goldB)).1.2.2.2 = 1 ∧ bareText (gpV (b ++ ⟨#[32]⟩ ++ goldB)).1.1 (gpV (b ++ ⟨#[32]⟩ ++ goldB)).1.2.1 (gpV (b ++ ⟨#[32]⟩ ++ goldB)).1.2.2.1 = b
  then ((gpV (b ++ ⟨#[32]⟩ ++ goldB)).1, true) else ((0, 0, 0, 0), false)

theorem unV_hit {c k a : Int} {b : ByteArray} (h : okGroup c k a 1 = true) (e : bareText c k a = b) : unV b = ((c, k, a, 1), true) := by
  have h1 := gpV_text (g := (c, k, a, 1)) h
  have h2 : textG (c, k, a, 1) = b ++ ⟨#[32]⟩ ++ goldB := by rw [← e]; rfl
  rw [h2] at h1
  unfold unV
  rw [h1, if_pos ⟨h, rfl, e⟩]

theorem unV_no {b : ByteArray} (h : ∀ c k a, okGroup c k a 1 = true → bareText c k a ≠ b) : unV b = ((0, 0, 0, 0), false) := by
  unfold unV
  rw [if_neg]
  rintro ⟨h1, h2, h3⟩
  generalize (gpV (b ++ ⟨#[32]⟩ ++ goldB)).1 = g at *
  obtain ⟨c, k, a, t⟩ := g
  simp only at h2 h3
  subst h2
  exact h c k a h1 h3

theorem unV_some {b : ByteArray} (h : (unV b).2 = true) : okG (unV b).1 = true ∧ (unV b).1.2.2.2 = 1 ∧ bareText (unV b).1.1 (unV b).1.2.1 (unV b).1.2.2.1 = b := by
  unfold unV at h ⊢
  split
  · rename_i h2
    exact h2
  · rename_i h2
    rw [if_neg h2] at h
    cases h

theorem bare_ne {c k a : Int} : ¬ bareText c k a = ⟨#[]⟩ := fun e => by
  have h := congrArg ByteArray.size e
  have e1 : ({ data := #[32] } : ByteArray).size = 1 := rfl
  have e2 : ({ data := #[] } : ByteArray).size = 0 := rfl
  unfold bareText at h
  split at h
  · simp only [ByteArray.size_append] at h
    omega
  · simp only [ByteArray.size_append] at h
    omega

theorem ok_gold {c k a t : Int} (h : okGroup c k a t = true) : okGroup c k a 1 = true := by
  simp only [okGroup, Bool.and_eq_true] at h ⊢
  exact ⟨⟨h.1.1, by decide⟩, h.2⟩

theorem ok_tinc {c k a t : Int} (h : okGroup c k a 1 = true) (ht : 1 ≤ t ∧ t ≤ 9) : okGroup c k a t = true := by
  simp only [okGroup, Bool.and_eq_true] at h ⊢
  exact ⟨⟨h.1.1, inR_iff.2 ht⟩, h.2⟩

def bareS (s : ByteArray) : ByteArray := toB (lsF s.data.toList s.data.toList.length).1

def wordS (s : ByteArray) : ByteArray := toB (lsF s.data.toList s.data.toList.length).2

theorem ls_text {c k a t : Int} (h : okGroup c k a t = true) : bareS (groupText c k a t) = bareText c k a ∧ wordS (groupText c k a t) = tincWord t := by
  have ht := (ok_group h).2.2.1
  have e : (groupText c k a t).data.toList = (bareText c k a).data.toList ++ [32] ++ (tincWord t).data.toList := by
    simp only [groupText, ba_app]
  unfold bareS wordS
  rw [e, lsF_all (tinc_sp ht)]
  exact ⟨toB_of _, toB_of _⟩

theorem gpV_spec (s : ByteArray) : gpV s = if (unV (bareS s)).2 = true ∧ 0 ≤ idxB (wordS s) tincWords then (((unV (bareS s)).1.1, (unV (bareS s)).1.2.1, (unV (bareS s)).1.2.2.1, idxB (wordS s) tincWords + 1), true) else ((0, 0, 0, 0), false) := by
  split
  · rename_i h
    obtain ⟨h1, h2⟩ := h
    obtain ⟨k1, k2, k3⟩ := unV_some h1
    obtain ⟨t1, t2⟩ := tinc_word h2
    generalize (unV (bareS s)).1 = g at *
    obtain ⟨c, k, a, t⟩ := g
    simp only at k2 k3
    subst k2
    have hok := ok_tinc (show okGroup c k a 1 = true from k1) t2
    have hs : s = groupText c k a (idxB (wordS s) tincWords + 1) := by
      rcases lsF_sound (L := s.data.toList) _ (Nat.le_refl _) with e | e
      · refine absurd ?_ (bare_ne (c := c) (k := k) (a := a))
        rw [k3, bareS, e]
        rfl
      · apply ba_ext
        rw [groupText, ba_app, ba_app, t1, k3]
        exact e
    have := gpV_text (g := (c, k, a, idxB (wordS s) tincWords + 1)) hok
    rwa [show textG (c, k, a, idxB (wordS s) tincWords + 1) = s from hs.symm] at this
  · rename_i h
    refine gpV_no fun g h1 h2 => h ?_
    obtain ⟨c, k, a, t⟩ := g
    have hok : okGroup c k a t = true := h1
    obtain ⟨l1, l2⟩ := ls_text hok
    rw [show groupText c k a t = s from h2] at l1 l2
    rw [l1, l2, unV_hit (ok_gold hok) rfl]
    have := tinc_idx (ok_group hok).2.2.1
    exact ⟨rfl, by have := (ok_group hok).2.2.1; omega⟩

end Go.Proofs.YteimddagjikcaaaDoor
