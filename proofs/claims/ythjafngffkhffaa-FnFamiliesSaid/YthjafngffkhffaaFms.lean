/- Families: plain facts of the cross law. -/
import Derived.Test.YthjafngffkhffaaAnc3
import Derived.Test.YthjafngffkhffaaFam8
import Derived.WalkKit
import Derived.WalkSpells
import Derived.KernelRfl
namespace Go.Proofs.Ythjafngffkhffaa
open Go.RowKit
set_option linter.unusedVariables false
set_option linter.unusedSimpArgs false

theorem far_zero (nx : Int → List Int) (n : Nat) (id : Int) : farF nx (n + 1) id = 0 ↔ nx id = [] := by
  rw [farF]
  have key : ∀ (L : List Int) (m : Int), 0 ≤ m → m ≤ L.foldl (stepM (farF nx n)) m := by
    intro L
    induction L with
    | nil => exact fun m _ => Int.le_refl _
    | cons o L ih =>
      intro m hm
      have hs : m ≤ stepM (farF nx n) m o := by
        unfold stepM
        split <;> omega
      rw [List.foldl_cons]
      exact Int.le_trans hs (ih _ (by omega))
  cases h : nx id with
  | nil => simp
  | cons o L =>
    have h0 := (farF_le nx n o).1
    have hs : 1 ≤ stepM (farF nx n) 0 o := by
      unfold stepM
      split <;> omega
    have := key L _ (by omega : 0 ≤ stepM (farF nx n) 0 o)
    rw [List.foldl_cons]
    constructor
    · intro h
      omega
    · intro h
      cases h

theorem anc_nil {l : List PerV} {id : Int} (h : askF l id = true) : ancF l 3000 id [] = [] ↔ parI l id = [] := by
  obtain ⟨hok, hid⟩ := askF_iff.1 h
  rw [List.eq_nil_iff_forall_not_mem]
  constructor
  · intro hn
    rw [List.eq_nil_iff_forall_not_mem]
    exact fun x hx => hn x ((ancF_mem hok 3000 id [] (up3000 hok hid) (ascL_nil l) x).2 (.inr ⟨0, id, rfl, hx⟩))
  · intro hn x hx
    rcases (ancF_mem hok 3000 id [] (up3000 hok hid) (ascL_nil l) x).1 hx with hx | ⟨m, hm⟩
    · cases hx
    · obtain ⟨y, y1, _⟩ := (pth_front' m id x).1 hm
      rw [hn] at y1
      cases y1

theorem far_up {l : List PerV} {id : Int} (h : askF l id = true) : farF (parI l) 3000 id = 0 ↔ ancF l 3000 id [] = [] := by rw [anc_nil h, far_zero]

theorem far_down (l : List PerV) (id : Int) : farF (kidI l) 3000 id = 0 ↔ kidI l id = [] := far_zero _ _ _

theorem kid_above {l : List PerV} {id c : Int} (h : askF l id = true) (hc : c ∈ kidI l id) : askF l c = true ∧ id ∈ ancF l 3000 c [] := by
  obtain ⟨hok, hid⟩ := askF_iff.1 h
  have hc0 := kidI_in hok hc
  exact ⟨askF_iff.2 ⟨hok, hc0⟩, (ancF_mem hok 3000 c [] (up3000 hok hc0) (ascL_nil l) id).2 (.inr (above_kid hok hid hc))⟩

theorem heir_above {l : List PerV} {id y c : Int} (h : askF l id = true) (hc : c ∈ heirI l id y) : askF l c = true ∧ id ∈ ancF l 3000 c [] := by
  obtain ⟨hok, hid⟩ := askF_iff.1 h
  obtain ⟨hc0, ha⟩ := (hrL_mem hok hid).1 (List.mem_filter.1 hc).1
  exact ⟨askF_iff.2 ⟨hok, hc0⟩, (ancF_mem hok 3000 c [] (up3000 hok hc0) (ascL_nil l) id).2 (.inr ha)⟩

theorem heir_nodup {l : List PerV} {id y : Int} (h : askF l id = true) : (heirI l id y).Nodup := by
  obtain ⟨hok, hid⟩ := askF_iff.1 h
  exact (hrL_ok hok hid).1.filter _

theorem nodup_before : ∀ {zs : List Int} {i : Nat}, zs.Nodup → i < zs.length → (zs.take i).contains (zs.getD i 0) = false := by
  intro zs i hn hi
  rw [Bool.eq_false_iff, Ne, List.contains_iff_mem]
  intro hm
  obtain ⟨j, hj, e⟩ := List.getElem_of_mem hm
  rw [List.length_take] at hj
  rw [List.getElem_take, List.getD_eq_getElem?_getD, List.getElem?_eq_getElem hi] at e
  have := (List.nodup_iff_pairwise_ne.1 hn)
  have h2 := (List.pairwise_iff_getElem.1 this) j i (by omega) hi (by omega)
  exact h2 e

end Go.Proofs.Ythjafngffkhffaa
