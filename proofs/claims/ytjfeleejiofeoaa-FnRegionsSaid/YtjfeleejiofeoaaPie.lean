/- Pieces of a region: cells that are reached one after the other; no program. -/
import Derived.Test.YtjfeleejiofeoaaEdge
import Derived.WalkKit
import Derived.WalkSpells
import Derived.KernelRfl
namespace Go.Proofs.Ytjfeleejiofeoaa
open Go.RowKit
set_option linter.unusedVariables false
set_option linter.unusedSimpArgs false

def sideN (c k : Nat) : Nat := 20 * (sy ((c / 20 : Nat) : Int) k).toNat + (sx ((c % 20 : Nat) : Int) k).toNat

def sideH (zs : List Int) (c k : Nat) : Bool := hasZ zs (sx ((c % 20 : Nat) : Int) k) (sy ((c / 20 : Nat) : Int) k)

def inR0 (zs : List Int) (c : Nat) : Prop := c < 480 ∧ hasZ zs ((c % 20 : Nat) : Int) ((c / 20 : Nat) : Int) = true

theorem hasZ_in {zs : List Int} {x y : Int} (h : hasZ zs x y = true) : 0 ≤ x ∧ x ≤ 19 ∧ 0 ≤ y ∧ y ≤ 23 := by
  simp only [hasZ, Bool.and_eq_true, inR_iff] at h
  omega

theorem sideN_at {zs : List Int} {c k : Nat} (h : sideH zs c k = true) : (((sideN c k % 20 : Nat) : Int) = sx ((c % 20 : Nat) : Int) k) ∧ (((sideN c k / 20 : Nat) : Int) = sy ((c / 20 : Nat) : Int) k) ∧ inR0 zs (sideN c k) ∧ (20 * sy ((c / 20 : Nat) : Int) k + sx ((c % 20 : Nat) : Int) k = (sideN c k : Nat)) := by
  have hin := hasZ_in h
  have hc : 20 * sy ((c / 20 : Nat) : Int) k + sx ((c % 20 : Nat) : Int) k = (sideN c k : Nat) := by
    unfold sideN
    omega
  have h1 : ((sideN c k % 20 : Nat) : Int) = sx ((c % 20 : Nat) : Int) k := by omega
  have h2 : ((sideN c k / 20 : Nat) : Int) = sy ((c / 20 : Nat) : Int) k := by omega
  refine ⟨h1, h2, ⟨by omega, ?_⟩, hc⟩
  rw [h1, h2]
  exact h

def stK (zs : List Int) (c : Nat) (S : List Nat) (k : Nat) : List Nat := if sideH zs c k = true ∧ sideN c k ∉ S then S ++ [sideN c k] else S

def stF (zs : List Int) (c : Nat) (S : List Nat) : Nat → List Nat
  | 0 => S
  | k + 1 => stK zs c (stF zs c S k) k

def pieF (zs : List Int) : Nat → List Nat → Nat → List Nat
  | 0, S, _ => S
  | n + 1, S, j => if j < S.length then pieF zs n (stF zs (S.getD j 0) S 4) (j + 1) else S

theorem pieF_end {zs : List Int} {S : List Nat} {j : Nat} (h : S.length ≤ j) : ∀ n, pieF zs n S j = S
  | 0 => rfl
  | n + 1 => by rw [pieF, if_neg (by omega)]

def pieN (zs : List Int) (l : List Nat) : Nat → List Nat × Nat
  | 0 => ([], 0)
  | i + 1 => if l.getD i 0 ∈ (pieN zs l i).1 then pieN zs l i else (pieF zs 481 ((pieN zs l i).1 ++ [l.getD i 0]) (pieN zs l i).1.length, (pieN zs l i).2 + 1)

def okS (zs : List Int) (S : List Nat) : Prop := S.Nodup ∧ ∀ c ∈ S, inR0 zs c

theorem nodup_len {S : List Nat} {n : Nat} (h : S.Nodup) (hs : ∀ c ∈ S, c < n) : S.length ≤ n := by
  have h1 : S.Subset (List.range n) := fun c hc => List.mem_range.2 (hs c hc)
  have key : ∀ (a b : List Nat), a.Nodup → (∀ c ∈ a, c ∈ b) → a.length ≤ b.length := by
    intro a
    induction a with
    | nil => intro b _ _; simp
    | cons x a ih =>
      intro b hn hsub
      rw [List.nodup_cons] at hn
      have hx := hsub x (by simp)
      have := ih (b.erase x) hn.2 (fun c hc => (List.mem_erase_of_ne (fun (e : c = x) => hn.1 (by rw [← e]; exact hc))).2 (hsub c (by simp [hc])))
      rw [List.length_erase_of_mem hx] at this
      have := List.length_pos_of_mem hx
      simp only [List.length_cons]
      omega
  have := key S (List.range n) h (fun c hc => h1 hc)
  simpa using this

theorem okS_len {zs : List Int} {S : List Nat} (h : okS zs S) : S.length ≤ 480 := nodup_len h.1 fun c hc => (h.2 c hc).1

theorem okS_add {zs : List Int} {S : List Nat} {c : Nat} (h : okS zs S) (hc : inR0 zs c) (hn : c ∉ S) : okS zs (S ++ [c]) := by
  refine ⟨?_, fun d hd => ?_⟩
  · rw [List.nodup_append]
    refine ⟨h.1, by simp, fun a ha b hb e => ?_⟩
    rw [List.mem_singleton] at hb
    subst hb
    subst e
    exact hn ha
  · rw [List.mem_append, List.mem_singleton] at hd
    rcases hd with hd | rfl
    · exact h.2 d hd
    · exact hc

theorem okS_stK {zs : List Int} {S : List Nat} {c k : Nat} (h : okS zs S) : okS zs (stK zs c S k) := by
  unfold stK
  split
  · rename_i hh
    exact okS_add h (sideN_at hh.1).2.2.1 hh.2
  · exact h

theorem okS_stF {zs : List Int} {S : List Nat} {c : Nat} (h : okS zs S) : ∀ k, okS zs (stF zs c S k)
  | 0 => h
  | k + 1 => okS_stK (okS_stF h k)

theorem stF_grow {zs : List Int} {S : List Nat} {c : Nat} : ∀ k, ∃ M, stF zs c S k = S ++ M
  | 0 => ⟨[], by simp [stF]⟩
  | k + 1 => by
    obtain ⟨M, hM⟩ := stF_grow (zs := zs) (S := S) (c := c) k
    rw [stF, stK]
    split
    · exact ⟨M ++ [sideN c k], by rw [hM, List.append_assoc]⟩
    · exact ⟨M, hM⟩

theorem okS_pieF {zs : List Int} : ∀ (n : Nat) (S : List Nat) (j : Nat), okS zs S → okS zs (pieF zs n S j)
  | 0, S, j, h => h
  | n + 1, S, j, h => by
    rw [pieF]
    split
    · exact okS_pieF n _ _ (okS_stF h 4)
    · exact h

theorem okS_pieN {zs : List Int} {l : List Nat} (hl : ∀ c ∈ l, inR0 zs c) : ∀ i, i ≤ l.length → okS zs (pieN zs l i).1
  | 0, _ => ⟨List.nodup_nil, fun c hc => by cases hc⟩
  | i + 1, hi => by
    have ih := okS_pieN hl i (by omega)
    rw [pieN]
    split
    · exact ih
    · rename_i hn
      exact okS_pieF _ _ _ (okS_add ih (hl _ (getD_mem 0 (by omega))) hn)

theorem pieN_cnt {zs : List Int} {l : List Nat} : ∀ i, (pieN zs l i).2 ≤ i ∧ (0 < i → 0 < l.length → 0 < (pieN zs l i).2)
  | 0 => ⟨Nat.le_refl _, fun h => by omega⟩
  | i + 1 => by
    obtain ⟨h1, h2⟩ := pieN_cnt (zs := zs) (l := l) i
    rw [pieN]
    split
    · rename_i hm
      refine ⟨by omega, fun _ hl => ?_⟩
      by_cases h0 : i = 0
      · subst h0
        simp [pieN] at hm
      · exact h2 (by omega) hl
    · exact ⟨by simp only; omega, fun _ _ => by simp only; omega⟩

def quN (S : List Nat) (j : Nat) (cs : List Nat) (off : Nat) : Prop := cs.length = off + (S.length - j) ∧ ∀ k, j + k < S.length → cs.getD (off + k) 0 = S.getD (j + k) 0

theorem quN_pop {S : List Nat} {j off : Nat} {cs : List Nat} (h : quN S j cs off) (hj : j < S.length) : quN S (j + 1) cs (off + 1) :=
  ⟨by have := h.1; omega, fun k hk => by
    have := h.2 (k + 1) (by omega)
    rw [show off + 1 + k = off + (k + 1) from by omega, show j + 1 + k = j + (k + 1) from by omega]
    exact this⟩

theorem quN_push {S : List Nat} {j off n : Nat} {cs : List Nat} {c : Nat} (h : quN S j cs off) (hj : j ≤ S.length) (hn : n = S.length - j) : quN (S ++ [c]) j ((cs.drop off).take n ++ [c]) 0 := by
  subst hn
  have h1 := h.1
  refine ⟨by simp; omega, fun k hk => ?_⟩
  rw [List.length_append, List.length_singleton] at hk
  have h2 := h.2 k
  simp only [List.getD_eq_getElem?_getD] at h2 ⊢
  rw [Nat.zero_add]
  by_cases e : j + k < S.length
  · rw [List.getElem?_append_left (by simp; omega), List.getElem?_append_left (by omega), List.getElem?_take, if_pos (by omega), List.getElem?_drop]
    exact h2 e
  · have e1 : j + k = S.length := by omega
    have e2 : k = ((cs.drop off).take (S.length - j)).length := by simp; omega
    rw [e1, e2]
    simp

theorem quN_one {S : List Nat} {c : Nat} : quN (S ++ [c]) S.length [c] 0 := by
  refine ⟨by simp, fun k hk => ?_⟩
  rw [List.length_append, List.length_singleton] at hk
  obtain rfl : k = 0 := by omega
  simp

def marksN (S : List Nat) : List D := (List.range 480).map fun c => D.bool (decide (c ∈ S))

@[simp] theorem marksN_len (S : List Nat) : (marksN S).length = 480 := by simp [marksN]

theorem marksN_at {S : List Nat} {c : Nat} {d : D} (h : c < 480) : (marksN S).getD c d = D.bool (decide (c ∈ S)) := by
  simp [marksN, List.getD_eq_getElem?_getD, h]

theorem marksN_set {S : List Nat} {c : Nat} (h : c < 480) : (marksN S).set c (D.bool true) = marksN (S ++ [c]) := by
  apply List.ext_getElem (by simp)
  intro i h1 h2
  rw [List.getElem_set]
  simp only [marksN, List.getElem_map, List.getElem_range]
  split
  · rename_i e
    subst e
    simp
  · rename_i e
    congr 2
    simp [Ne.symm e]

theorem marks_nil (n : Nat) : List.replicate n (D.bool false) = (List.range n).map fun c => D.bool (decide (c ∈ ([] : List Nat))) := by
  apply List.ext_getElem (by simp)
  intro i h1 h2
  simp

theorem marksN_zero : List.replicate 480 (D.bool false) = marksN [] := marks_nil 480

def prsN (S : List Nat) : List (Int × Int) := S.map fun c => (((c % 20 : Nat) : Int), ((c / 20 : Nat) : Int))

theorem prsN_mem {S : List Nat} {x y : Int} {c : Nat} (h1 : ((c % 20 : Nat) : Int) = x) (h2 : ((c / 20 : Nat) : Int) = y) : (x, y) ∈ prsN S ↔ c ∈ S := by
  subst h1 h2
  unfold prsN
  rw [List.mem_map]
  constructor
  · rintro ⟨d, hd, e⟩
    have e1 := congrArg Prod.fst e
    have e2 := congrArg Prod.snd e
    simp only at e1 e2
    have : d = c := by omega
    rwa [← this]
  · exact fun h => ⟨c, h, rfl⟩

theorem prsN_add (S : List Nat) (c : Nat) : prsN (S ++ [c]) = prsN S ++ [(((c % 20 : Nat) : Int), ((c / 20 : Nat) : Int))] := by
  simp [prsN]

def pieR (zs : List Int) : D := if okReg zs then .tu [.int ((pieN zs (cellsN zs 480) (cellsN zs 480).length).2 : Nat), .bool true] else .tu [.int 0, .bool false]

end Go.Proofs.Ytjfeleejiofeoaa
