/- Pictures of fields, counterchanged or not. -/
import Derived.Test.YtaegdaimjhhgpaaPic2
import Derived.WalkKit
import Derived.WalkSpells
import Derived.KernelRfl
namespace Go.Proofs.Ytaegdaimjhhgpaa
open Go.RowKit
set_option linter.unusedVariables false
set_option linter.unusedSimpArgs false

attribute [local go_sem] intL gridD lookO_lo killO_grid delO_grid putO_lo gridO_app dropGe dropGe_grid cleanO_grid gridC_len gridC_refs gridQ_refs lens_len rowsD_len setG_len dropO_grid killR_nil killR_cons killR_grid killN_lo newN_gridN hasN_cons hasN_grid Nat.le_refl refs_dmap newN_all killSs_gridN killOs_gridN killSs_gridN0 killOs_gridN0 loS_nil loS_cons loL_nil loL_cons lo_bp lo_bs lo_ag lo_tu lo_fc lo_d lo_un loO_nil loO_ds loO_av loO_dead loO_grid loL_gridC loL_dmap picZ_len allD_grid refsL_app'

attribute [local simp] ints_plain ints_all ints_all1 ints_plain_take refs_dmap gridC_refs

def rowP (h : Nat → Nat → Int) (y : Nat) : List Int := tab (fun x => if inSh (x : Nat) (y : Nat) then h x y else 0) 20

@[simp] theorem rowP_len (h : Nat → Nat → Int) (y : Nat) : (rowP h y).length = 20 := tab_len _ _

theorem picP_row {h : Nat → Nat → Int} {y : Nat} (hy : y < 24) : (picZ h).getD y [] = rowP h y := tab_at [] hy

theorem picP_next {h : Nat → Nat → Int} {y : Nat} (hy : y < 24) : (picZ h).take (y + 1) = (picZ h).take y ++ [rowP h y] := by
  rw [take_next [] (by rw [picZ_len]; exact hy), picP_row hy]

theorem lens_rowsP {h : Nat → Nat → Int} {y : Nat} (hy : y ≤ 24) : (lens ((picZ h).take y)).length = y := by
  rw [lens_len, List.length_take, picZ_len]
  omega

def ctrZ (d : Int) (l : Nat) (f s : Int) (zs : List Int) (x y : Nat) : Int := if hasZ zs (x : Nat) (y : Nat) then f + s - tinctZ d l f s x y else tinctZ d l f s x y

theorem okField_in {d l f s : Int} (h : okField d l f s = true) : (0 ≤ d ∧ d ≤ 7) ∧ (0 ≤ l ∧ l ≤ 4) ∧ (1 ≤ f ∧ f ≤ 9) ∧ 0 ≤ s ∧ s ≤ 9 := by
  simp only [okField, Bool.and_eq_true, inR_iff] at h
  obtain ⟨⟨⟨h1, h2⟩, h3⟩, h4⟩ := h
  refine ⟨h1, h2, h3, ?_⟩
  split at h4
  · simp only [Bool.and_eq_true, beq_iff_eq] at h4
    omega
  · simp only [Bool.and_eq_true, inR_iff] at h4
    omega

end Go.Proofs.Ytaegdaimjhhgpaa
