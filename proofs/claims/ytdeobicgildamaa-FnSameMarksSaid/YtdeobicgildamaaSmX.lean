/- Pairs with the same marks: both have them, and the first is the smaller; unmarked ones have none. -/
import Derived.Test.YtdeobicgildamaaSam
import Derived.Test.YtdeobicgildamaaMks
import Derived.Test.YtdeobicgildamaaUnm
import Derived.WalkKit
import Derived.WalkSpells
import Derived.KernelRfl
namespace Go.Proofs.Ytdeobicgildamaa
open Go.RowKit
set_option linter.unusedVariables false
set_option linter.unusedSimpArgs false

theorem prN_mem {l : List PerV} {a y : Int} {Z : List Int} (hZ : Z.Pairwise (· < ·)) : ∀ (i : Nat) (p : Int × Int), p ∈ prN l a y Z i → p.1 ∈ Z ∧ p.2 ∈ Z ∧ p.1 < p.2 ∧ eqm l a y p.1 p.2 = true
  | 0, p, h => by simp [prN] at h
  | i + 1, p, h => by
    rw [prN, List.mem_append] at h
    rcases h with h | h
    · exact prN_mem hZ i p h
    · rw [rowP, List.mem_map] at h
      obtain ⟨v, hv, rfl⟩ := h
      rw [List.mem_filter] at hv
      obtain ⟨hv, he⟩ := hv
      have hv := List.mem_of_mem_take hv
      have hi : i < Z.length := by
        by_cases hi : i < Z.length
        · exact hi
        · rw [List.drop_of_length_le (by omega)] at hv
          cases hv
      have hp : (Z.drop i).Pairwise (· < ·) := hZ.sublist (List.drop_sublist _ _)
      rw [drop_next 0 hi, List.pairwise_cons] at hp
      exact ⟨getD_mem 0 hi, List.mem_of_mem_drop hv, hp.1 v hv, he⟩

def samP (l : List PerV) (a y : Int) : List (Int × Int) := if (askF l a && inR y 1 2999) = true then prN l a y (samI l a y) (samI l a y).length else []

def unP (l : List PerV) (a y : Int) : List Int := if (askF l a && inR y 1 2999) = true then unI l a y else []

theorem samD_z (l : List PerV) (a y : Int) : samD l a y = .tu [.ls 2 (samP l a y).length (prC (samP l a y)), .bool (askF l a && inR y 1 2999)] := by
  unfold samD samP
  cases (askF l a && inR y 1 2999) <;> rfl

theorem unmD_z (l : List PerV) (a y : Int) : unmD l a y = .tu [intL (unP l a y), .bool (askF l a && inR y 1 2999)] := by
  unfold unmD unP
  cases (askF l a && inR y 1 2999) <;> rfl

theorem mksW_in {l : List PerV} {a x y : Int} (g : (askF l a && inR y 1 2999) = true) (hx : 0 ≤ findP l x) : mksW l a x y = mksV l a x y := by
  rw [Bool.and_eq_true] at g
  rw [mksW, g.1, g.2, askF_iff.2 ⟨(askF_iff.1 g.1).1, hx⟩]
  rfl

theorem sam_pair {l : List PerV} {a y : Int} {p : Int × Int} (hp : p ∈ samP l a y) : p.1 < p.2 ∧ ∃ m, mksW l a p.1 y = some m ∧ mksW l a p.2 y = some m ∧ m.length ≤ 16 := by
  unfold samP at hp
  split at hp
  · rename_i g
    have g' := g
    rw [Bool.and_eq_true] at g'
    obtain ⟨hok, ha⟩ := askF_iff.1 g'.1
    obtain ⟨h1, h2, h3, h4⟩ := prN_mem (idsF_asc hok _) _ p hp
    refine ⟨h3, ?_⟩
    rw [mksW_in g ((idsF_mem hok).1 h1).1, mksW_in g ((idsF_mem hok).1 h2).1]
    unfold eqm at h4
    split at h4
    · rename_i m n e1 e2
      have := of_decide_eq_true h4
      subst this
      exact ⟨m, e1, e2, Nat.le_trans (mksV_len e1) (by decide)⟩
    · cases h4
  · cases hp

theorem samP_len {l : List PerV} {a y : Int} : (samP l a y).length ≤ 256 := by
  unfold samP
  split
  · rename_i g
    rw [Bool.and_eq_true] at g
    have h1 := okFam_len (askF_iff.1 g.1).1
    have h2 : (samI l a y).length ≤ 16 := Nat.le_trans (idsF_len _ _) h1
    exact Nat.le_trans (prN_len l a y _ _) (Nat.mul_le_mul h2 h2)
  · simp

theorem un_none {l : List PerV} {a y x : Int} (hx : x ∈ unP l a y) : mksW l a x y = some [] := by
  unfold unP at hx
  split at hx
  · rename_i g
    have g' := g
    rw [Bool.and_eq_true] at g'
    obtain ⟨hok, ha⟩ := askF_iff.1 g'.1
    rw [unI, List.mem_filter] at hx
    rw [mksW_in g ((idsF_mem hok).1 hx.1).1]
    exact of_decide_eq_true hx.2
  · cases hx

theorem unP_len {l : List PerV} {a y : Int} : (unP l a y).length ≤ 16 := by
  unfold unP
  split
  · rename_i g
    rw [Bool.and_eq_true] at g
    have h1 := okFam_len (askF_iff.1 g.1).1
    have h2 := idsF_len l (qL l a y)
    have h3 : (unI l a y).length ≤ (idsF l (qL l a y)).length := List.length_filter_le _ _
    omega
  · simp

end Go.Proofs.Ytdeobicgildamaa
