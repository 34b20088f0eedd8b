/- A field read off its text; no program. -/
import Derived.Test.YteimddagjikcaaaSplX
import Derived.Test.YteimddagjikcaaaFieldText
import Derived.Test.YteimddagjikcaaaGpX
import Derived.WalkKit
import Derived.WalkSpells
import Derived.KernelRfl
namespace Go.Proofs.Yteimddagjikcaaa
open Go.RowKit
set_option linter.unusedVariables false
set_option linter.unusedSimpArgs false

def divL (i : Nat) : List UInt8 := (divWord ((i + 1 : Nat) : Int)).data.toList ++ [32]

def linL (j : Nat) : List UInt8 := (lineWord ((j + 1 : Nat) : Int)).data.toList ++ [32]

def andL : List UInt8 := [32, 97, 110, 100, 32]

def clF (b : List UInt8) : List UInt8 × Int := match (List.range 4).find? (fun j => Lib.hasPrefix b (linL j)) with
  | some j => (b.drop (linL j).length, ((j + 1 : Nat) : Int))
  | none => (b, 0)

def fpD (s : List UInt8) : Int × Int × List UInt8 := match (List.range 7).find? (fun i => Lib.hasPrefix s (divL i)) with
  | some i => (((i + 1 : Nat) : Int), (clF (s.drop (divL i).length)).2, (clF (s.drop (divL i).length)).1)
  | none => (0, 0, s)

def fpC (s : List UInt8) : Int × Int × Int × Int :=
  ((fpD s).1, (fpD s).2.1, idxB (toB (Lib.cut (fpD s).2.2 andL).1) tincWords + 1, idxB (toB (Lib.cut (fpD s).2.2 andL).2.1) tincWords + 1)

def okF (g : Int × Int × Int × Int) : Bool := okField g.1 g.2.1 g.2.2.1 g.2.2.2

def textF (g : Int × Int × Int × Int) : ByteArray := fieldText g.1 g.2.1 g.2.2.1 g.2.2.2

theorem fp_plain : ∀ f, f < 9 → fpC (fieldText 0 0 ((f + 1 : Nat) : Int) 0).data.toList = (0, 0, ((f + 1 : Nat) : Int), 0) := by decide +kernel

theorem ok_field {d l f s : Int} (h : okField d l f s = true) : (d = 0 ∧ l = 0 ∧ s = 0 ∧ 1 ≤ f ∧ f ≤ 9) ∨ ((1 ≤ d ∧ d ≤ 7) ∧ (0 ≤ l ∧ l ≤ 4) ∧ (1 ≤ f ∧ f ≤ 9) ∧ (1 ≤ s ∧ s ≤ 9)) := by
  simp only [okField, Bool.and_eq_true, inR_iff] at h
  obtain ⟨⟨⟨h1, h2⟩, h3⟩, h4⟩ := h
  split at h4
  · simp only [Bool.and_eq_true, beq_iff_eq] at h4
    left
    omega
  · simp only [Bool.and_eq_true, inR_iff] at h4
    right
    omega

theorem fp_all : ((List.range 7).all fun d => (List.range 5).all fun l => (List.range 9).all fun f => (List.range 9).all fun s => decide (fpC (fieldText ((d + 1 : Nat) : Int) (l : Nat) ((f + 1 : Nat) : Int) ((s + 1 : Nat) : Int)).data.toList = (((d + 1 : Nat) : Int), ((l : Nat) : Int), ((f + 1 : Nat) : Int), ((s + 1 : Nat) : Int)))) = true := by decide +kernel

theorem fp_field (d l f s : Nat) (h1 : d < 7) (h2 : l < 5) (h3 : f < 9) (h4 : s < 9) : fpC (fieldText ((d + 1 : Nat) : Int) (l : Nat) ((f + 1 : Nat) : Int) ((s + 1 : Nat) : Int)).data.toList = (((d + 1 : Nat) : Int), ((l : Nat) : Int), ((f + 1 : Nat) : Int), ((s + 1 : Nat) : Int)) := by
  have h := List.all_eq_true.1 fp_all d (List.mem_range.2 h1)
  have h := List.all_eq_true.1 h l (List.mem_range.2 h2)
  have h := List.all_eq_true.1 h f (List.mem_range.2 h3)
  have h := List.all_eq_true.1 h s (List.mem_range.2 h4)
  exact of_decide_eq_true h

theorem fpC_at {g : Int × Int × Int × Int} (h : okF g = true) : fpC (textF g).data.toList = g := by
  obtain ⟨d, l, f, s⟩ := g
  rcases ok_field (show okField d l f s = true from h) with ⟨rfl, rfl, rfl, h1, h2⟩ | ⟨h1, h2, h3, h4⟩
  · have := fp_plain (f - 1).toNat (by omega)
    rwa [show (((f - 1).toNat + 1 : Nat) : Int) = f by omega] at this
  · have := fp_field (d - 1).toNat l.toNat (f - 1).toNat (s - 1).toNat (by omega) (by omega) (by omega) (by omega)
    rwa [show (((d - 1).toNat + 1 : Nat) : Int) = d by omega, show ((l.toNat : Nat) : Int) = l by omega, show (((f - 1).toNat + 1 : Nat) : Int) = f by omega, show (((s - 1).toNat + 1 : Nat) : Int) = s by omega] at this

def fpV (s : ByteArray) : (Int × Int × Int × Int) × Bool := if okF (fpC s.data.toList) = true ∧ textF (fpC s.data.toList) = s then (fpC s.data.toList, true) else ((0, 0, 0, 0), false)

def fpR (s : ByteArray) : D := .tu [.ag [.int (fpV s).1.1, .int (fpV s).1.2.1, .int (fpV s).1.2.2.1, .int (fpV s).1.2.2.2], .bool (fpV s).2]

theorem fpV_text {g : Int × Int × Int × Int} (h : okF g = true) : fpV (textF g) = (g, true) := by
  have e := fpC_at h
  unfold fpV
  rw [e, if_pos ⟨h, rfl⟩]

theorem fpV_no {s : ByteArray} (h : ∀ g, okF g = true → textF g ≠ s) : fpV s = ((0, 0, 0, 0), false) := by
  unfold fpV
  rw [if_neg]
  rintro ⟨h1, h2⟩
  exact h _ h1 h2

theorem spL_app (b : UInt8) : ∀ (s cur r : List UInt8), spL b cur (s ++ b :: r) = spL b cur s ++ spL b [] r
  | [], cur, r => by simp [spL]
  | x :: s, cur, r => by
    rw [List.cons_append, spL, spL]
    split
    · rw [spL_app b s [] r]
      rfl
    · exact spL_app b s _ r

theorem splL_app (b : UInt8) (s r : List UInt8) : splL (s ++ [b] ++ r) [b] = splL s [b] ++ splL r [b] := by
  have h1 := spL_spl b (s ++ b :: r) [] (by simp)
  have h2 := spL_spl b s [] (by simp)
  have h3 := spL_spl b r [] (by simp)
  rw [spL_app, h2, h3] at h1
  rw [List.append_assoc]
  exact h1.symm

theorem splT_field {d l f s : Int} (hd : d ≠ 0) (hf : 1 ≤ f ∧ f ≤ 9) (hs : 1 ≤ s ∧ s ≤ 9) : ∃ pre : List ByteArray, pre ≠ [] ∧ splT (fieldText d l f s) spB = pre ++ [tincWord f, ⟨#[97, 110, 100]⟩, tincWord s] := by
  have n1 := tinc_sp hf
  have n2 := tinc_sp hs
  have e : (fieldText d l f s).data.toList = (lined (divWord d) l).data.toList ++ [32] ++ ((tincWord f).data.toList ++ [32] ++ ([97, 110, 100] ++ [32] ++ (tincWord s).data.toList)) := by
    simp only [fieldText, hd, if_false, ba_app, List.append_assoc]
    rfl
  refine ⟨splT (lined (divWord d) l) spB, splT_ne _ _, ?_⟩
  rw [splT, e, spB_list, splL_app, splL_word n1, splL_word (by decide), splL_last n2, splT, spB_list]
  simp [toB_of]
  rfl

theorem fieldText_sz (d l f s : Int) : (fieldText d l f s).size ≤ 50 := by
  have z1 := lineWord_size l
  have z2 := tincWord_size f
  have z3 := tincWord_size s
  have z4 := divWord_size d
  have e1 : ({ data := #[32] } : ByteArray).size = 1 := rfl
  have e2 : ({ data := #[32, 97, 110, 100, 32] } : ByteArray).size = 5 := rfl
  unfold fieldText lined
  split
  · omega
  · split
    all_goals
      simp only [ByteArray.size_append]
      omega

theorem fp_word {s : ByteArray} (h : 0 ≤ idxB s tincWords) : okF (0, 0, idxB s tincWords + 1, 0) = true ∧ textF (0, 0, idxB s tincWords + 1, 0) = s := by
  have hb := idxB_in s tincWords
  have h9 : tincWords.length = 9 := rfl
  have key : ∀ (l : List ByteArray), 0 ≤ idxB s l → l.getD (idxB s l).toNat ⟨#[]⟩ = s := by
    intro l
    induction l with
    | nil => intro h; simp [idxB] at h
    | cons x r ih =>
      intro h
      by_cases h0 : x = s
      · have e : idxB s (x :: r) = 0 := by rw [idxB, if_pos h0]
        rw [e]
        exact h0
      · rw [idxB, if_neg h0] at h ⊢
        by_cases h1 : idxB s r = -1
        · rw [if_pos h1] at h
          omega
        · rw [if_neg h1] at h ⊢
          have hr := idxB_in s r
          have := ih (by omega)
          rw [show (idxB s r + 1).toNat = (idxB s r).toNat + 1 by omega]
          simpa using this
  have hk := key tincWords h
  obtain ⟨n, hn⟩ := Int.eq_ofNat_of_zero_le h
  rw [hn] at hk hb ⊢
  have hn9 : n < 9 := by omega
  have ht : tincWord ((n : Int) + 1) = tincWords.getD n ⟨#[]⟩ := by
    obtain rfl | rfl | rfl | rfl | rfl | rfl | rfl | rfl | rfl : n = 0 ∨ n = 1 ∨ n = 2 ∨ n = 3 ∨ n = 4 ∨ n = 5 ∨ n = 6 ∨ n = 7 ∨ n = 8 := by omega
    all_goals rfl
  constructor
  · have h1 : inR ((n : Int) + 1) 1 9 = true := inR_iff.2 (by omega)
    simp [okF, okField, h1]
    decide
  · rw [textF]
    simp only [fieldText, if_true, ht]
    simpa using hk

def wd3 (s : ByteArray) : Int := idxB ((splT s spB).getD ((splT s spB).length - 3) ⟨#[]⟩) tincWords + 1

def wd1 (s : ByteArray) : Int := idxB ((splT s spB).getD ((splT s spB).length - 1) ⟨#[]⟩) tincWords + 1

theorem fp_words {d l f s : Int} (hd : d ≠ 0) (h : okField d l f s = true) : 4 ≤ (splT (fieldText d l f s) spB).length ∧ wd3 (fieldText d l f s) = f ∧ wd1 (fieldText d l f s) = s := by
  rcases ok_field h with ⟨h0, _⟩ | ⟨_, _, h3, h4⟩
  · exact absurd h0 hd
  · obtain ⟨pre, hp, e⟩ := splT_field (l := l) hd h3 h4
    have hpos := List.length_pos_iff.2 hp
    have e1 : (pre ++ [tincWord f, ⟨#[97, 110, 100]⟩, tincWord s]).length = pre.length + 3 := by simp
    refine ⟨by rw [e, e1]; omega, ?_, ?_⟩
    · rw [wd3, e, e1, show pre.length + 3 - 3 = pre.length by omega, List.getD_eq_getElem?_getD, List.getElem?_append_right (Nat.le_refl _), Nat.sub_self]
      exact tinc_idx h3
    · rw [wd1, e, e1, show pre.length + 3 - 1 = pre.length + 2 by omega, List.getD_eq_getElem?_getD, List.getElem?_append_right (by omega), show pre.length + 2 - pre.length = 2 by omega]
      exact tinc_idx h4

end Go.Proofs.Yteimddagjikcaaa
