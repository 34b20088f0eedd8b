/- Marks read off their text; no program. -/
import Derived.Test.YtdeobicgildamaaGreatDoorSplX
import Derived.Test.YtdeobicgildamaaGreatDoorMtW
import Derived.WalkKit
import Derived.WalkSpells
import Derived.KernelRfl
namespace Go.Proofs.YtdeobicgildamaaGreatDoor
open Go.RowKit
set_option linter.unusedVariables false
set_option linter.unusedSimpArgs false

def onL : List UInt8 := [32, 111, 110, 32]

theorem onL_eq : onB.data.toList = onL := rfl

theorem mk_cases {m : Int} (h : 1 ≤ m ∧ m ≤ 7) : m = 1 ∨ m = 2 ∨ m = 3 ∨ m = 4 ∨ m = 5 ∨ m = 6 ∨ m = 7 := by omega

theorem wL_at {m : Int} (h : 1 ≤ m ∧ m ≤ 7) : wL m = 97 :: 32 :: (mkWord m).data.toList := by
  rcases mk_cases h with rfl | rfl | rfl | rfl | rfl | rfl | rfl
  all_goals rfl

theorem mark_cut {m : Int} (h : 1 ≤ m ∧ m ≤ 7) (rest : List UInt8) : Lib.index (wL m ++ onL ++ rest) onL = (wL m).length := by
  rcases mk_cases h with rfl | rfl | rfl | rfl | rfl | rfl | rfl
  all_goals
    rw [wL_at (by omega)]
    simp [Lib.index, List.isPrefixOf, onL, mkWord]

theorem mark_end {m : Int} (h : 1 ≤ m ∧ m ≤ 7) : Lib.index (wL m) onL = -1 := by
  rcases mk_cases h with rfl | rfl | rfl | rfl | rfl | rfl | rfl
  all_goals
    rw [wL_at (by omega)]
    simp [Lib.index, List.isPrefixOf, onL, mkWord]

theorem spl_marks : ∀ r : List Int, r ≠ [] → (∀ m ∈ r, 1 ≤ m ∧ m ≤ 7) → splL (Lib.join (r.map wL) onL) onL = r.map wL
  | [], h, _ => absurd rfl h
  | [x], _, h => by
    have e : Lib.join ([x].map wL) onL = wL x := by simp [Lib.join]
    rw [e, splL_end (mark_end (h x (by simp)))]
    rfl
  | x :: y :: r, _, h => by
    have e : Lib.join ((x :: y :: r).map wL) onL = wL x ++ onL ++ Lib.join ((y :: r).map wL) onL := by simp [Lib.join, List.intercalate]
    rw [splL_cut (by simp [onL]) e (by rw [e]; exact mark_cut (h x (by simp)) _), spl_marks (y :: r) (by simp) fun m hm => h m (by simp only [List.mem_cons] at hm ⊢; exact .inr hm)]
    rfl

theorem splT_marks {L : List Int} (hok : okMarks L = true) (hn : L ≠ []) : splT (marksB L) onB = L.reverse.map wA := by
  have hr : L.reverse ≠ [] := by simpa using hn
  have hm : ∀ m ∈ L.reverse, 1 ≤ m ∧ m ≤ 7 := fun m hm => by
    rw [okMarks, Bool.and_eq_true, List.all_eq_true] at hok
    exact inR_iff.1 (hok.1 m (by simpa using hm))
  have hlen : L.reverse.length = L.length := List.length_reverse
  have e : (marksB L).data.toList = Lib.join (L.reverse.map wL) onL := by
    rw [marksB, if_neg hn, ← hlen, mtT_join hr, List.map_map]
    rfl
  rw [splT, e, onL_eq, spl_marks _ hr hm, List.map_map]
  exact List.map_congr_left fun m _ => toB_of (wA m)

def trimA (w : ByteArray) : ByteArray := ⟨(Lib.trimPrefix w.data.toList aSp.data.toList).toArray⟩

def mkOne (w : ByteArray) : Int := idxB (trimA w) mkWords + 1

def mkC (s : ByteArray) : List Int := ((splT s onB).map mkOne).reverse

theorem mkOne_at {m : Int} (h : 1 ≤ m ∧ m ≤ 7) : mkOne (wA m) = m := by
  rcases mk_cases h with rfl | rfl | rfl | rfl | rfl | rfl | rfl
  all_goals decide +kernel

theorem mkC_at {L : List Int} (hok : okMarks L = true) (hn : L ≠ []) : mkC (marksB L) = L := by
  have hm : ∀ m ∈ L.reverse, mkOne (wA m) = m := fun m hm => by
    rw [okMarks, Bool.and_eq_true, List.all_eq_true] at hok
    exact mkOne_at (inR_iff.1 (hok.1 m (by simpa using hm)))
  rw [mkC, splT_marks hok hn, List.map_map]
  have : L.reverse.map (mkOne ∘ wA) = L.reverse := by
    conv => rhs; rw [← List.map_id L.reverse]
    exact List.map_congr_left hm
  rw [this, List.reverse_reverse]

def mkTry (w : ByteArray) : Nat → Int
  | 0 => 0
  | m + 1 => if w = wA (m + 1 : Nat) then (m + 1 : Nat) else mkTry w m

def mkD (s : ByteArray) : List Int := (((splT s onB).take 7).map fun w => mkTry w 7).reverse

def pmV (s : ByteArray) : List Int × Bool :=
  if s = noM then ([], true) else if okMarks (mkC s) = true ∧ marksB (mkC s) = s then (mkC s, true) else ([], false)

def pmR (s : ByteArray) : D := .tu [intL (pmV s).1, .bool (pmV s).2]

theorem marksB_size {L : List Int} (hok : okMarks L = true) : (marksB L).size ≤ 100 := by
  have hl := okMarks_len hok
  unfold marksB
  split
  · decide
  · have := mtT_size L.reverse L.length
    omega

theorem pmV_long {s : ByteArray} (h : 200 < s.size) : pmV s = ([], false) := by
  unfold pmV
  rw [if_neg (fun e => by rw [e] at h; exact absurd h (by decide)), if_neg]
  rintro ⟨h1, h2⟩
  have := marksB_size h1
  rw [h2] at this
  omega

theorem pmV_some {s : ByteArray} (h : (pmV s).2 = true) : okMarks (pmV s).1 = true ∧ marksB (pmV s).1 = s := by
  unfold pmV at h ⊢
  split
  · rename_i e
    exact ⟨rfl, e.symm⟩
  · split
    · rename_i h2
      exact h2
    · rename_i h1 h2
      rw [if_neg h1, if_neg h2] at h
      cases h

theorem noM_ne {L : List Int} (hok : okMarks L = true) (hn : L ≠ []) : marksB L ≠ noM := by
  intro e
  have h := splT_marks hok hn
  rw [e] at h
  have h2 : splT noM onB = [noM] := by decide +kernel
  rw [h2] at h
  have hr : L.reverse.length = 1 := by
    have := congrArg List.length h
    simpa using this.symm
  obtain ⟨m, hm⟩ : ∃ m, L.reverse = [m] := List.length_eq_one_iff.1 hr
  rw [hm, List.map_cons, List.map_nil, List.cons.injEq] at h
  have hin : 1 ≤ m ∧ m ≤ 7 := by
    rw [okMarks, Bool.and_eq_true, List.all_eq_true] at hok
    exact inR_iff.1 (hok.1 m (by rw [← List.mem_reverse, hm]; simp))
  have h3 := h.1
  rcases mk_cases hin with rfl | rfl | rfl | rfl | rfl | rfl | rfl
  all_goals exact absurd h3 (by decide)

theorem pmV_text {L : List Int} (hok : okMarks L = true) : pmV (marksB L) = (L, true) := by
  by_cases hn : L = []
  · subst hn
    rw [pmV, if_pos (by rw [marksB, if_pos rfl])]
  · rw [pmV, if_neg (noM_ne hok hn), mkC_at hok hn, if_pos ⟨hok, rfl⟩]

end Go.Proofs.YtdeobicgildamaaGreatDoor
