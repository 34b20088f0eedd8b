/- Pictures that are drawn cell by cell: what comes out. -/
import Derived.Test.YtaegdaimjhhgpaaGrid3
import Derived.WalkKit
import Derived.WalkSpells
import Derived.KernelRfl
namespace Go.Proofs.Ytaegdaimjhhgpaa
open Go.RowKit
set_option linter.unusedVariables false
set_option linter.unusedSimpArgs false

attribute [local go_sem] intL gridD lookO_lo killO_grid delO_grid putO_lo gridO_app dropGe dropGe_grid cleanO_grid gridC_len gridC_refs gridQ_refs lens_len rowsD_len setG_len dropO_grid killR_nil killR_cons killR_grid killN_lo newN_gridN hasN_cons hasN_grid Nat.le_refl refs_dmap newN_all killSs_gridN killOs_gridN killSs_gridN0 killOs_gridN0 loS_nil loS_cons loL_nil loL_cons lo_bp lo_bs lo_ag lo_tu lo_fc lo_d lo_un loO_nil loO_ds loO_av loO_dead loO_grid loL_gridC loL_dmap

attribute [local simp] ints_plain ints_all ints_all1 ints_plain_take refs_dmap pairs_plain pairs_all

theorem getD_set {α : Type} (l : List α) (i j : Nat) (v d : α) (h : i < l.length) : (l.set i v).getD j d = if i = j then v else l.getD j d := by
  simp only [List.getD_eq_getElem?_getD, List.getElem?_set]
  by_cases e : i = j
  · subst e
    simp [h]
  · simp [e]

theorem setG_get {zs : List (List Int)} (hz : ok20 zs) {x y x' y' : Nat} {v : Int} (hx : x < 20) (hy : y < 24) : ((setG zs x y v).getD y' []).getD x' 0 = if x = x' ∧ y = y' then v else (zs.getD y' []).getD x' 0 := by
  rw [setG, getD_set _ _ _ _ _ (by rw [hz.1]; exact hy)]
  by_cases e : y = y'
  · subst e
    rw [if_pos rfl, getD_set _ _ _ _ _ (by rw [hz.2 y hy]; exact hx)]
    simp
  · rw [if_neg e, if_neg (fun q => e q.2)]

theorem ext20 {a b : List (List Int)} (ha : ok20 a) (hb : ok20 b) (h : ∀ x y, x < 20 → y < 24 → (a.getD y []).getD x 0 = (b.getD y []).getD x 0) : a = b := by
  apply List.ext_getElem (by rw [ha.1, hb.1])
  intro y h1 h2
  have hy : y < 24 := by rw [ha.1] at h1; exact h1
  have e1 : a.getD y [] = a[y] := by simp [List.getD_eq_getElem?_getD, h1]
  have e2 : b.getD y [] = b[y] := by simp [List.getD_eq_getElem?_getD, h2]
  have l1 := ha.2 y hy
  have l2 := hb.2 y hy
  rw [e1] at l1
  rw [e2] at l2
  apply List.ext_getElem (by rw [l1, l2])
  intro x g1 g2
  have := h x y (by rw [l1] at g1; exact g1) hy
  rw [e1, e2] at this
  simpa [List.getD_eq_getElem?_getD, g1, g2] using this

def picZ (h : Nat → Nat → Int) : List (List Int) := tab (fun y => tab (fun x => if inSh (x : Nat) (y : Nat) then h x y else 0) 20) 24

theorem picZ_ok (h : Nat → Nat → Int) : ok20 (picZ h) := ⟨tab_len _ _, fun y hy => by rw [picZ, tab_at [] hy, tab_len]⟩

theorem picZ_at {h : Nat → Nat → Int} {x y : Nat} (hx : x < 20) (hy : y < 24) : ((picZ h).getD y []).getD x 0 = if inSh (x : Nat) (y : Nat) then h x y else 0 := by
  rw [picZ, tab_at [] hy, tab_at 0 hx]

theorem picN_at {h : Nat → Nat → Int} {C : List Nat} {zs : List (List Int)} (hz : ok20 zs) (hC : ∀ c ∈ C, c < 480) {x y : Nat} (hx : x < 20) (hy : y < 24) : ∀ i, i ≤ C.length → ((picN h C zs i).getD y []).getD x 0 = if 20 * y + x ∈ C.take i then h x y else (zs.getD y []).getD x 0
  | 0, _ => by simp [picN]
  | i + 1, hi => by
    have hc := hC _ (getD_mem 0 (show i < C.length by omega))
    rw [picN, setG_get (picN_ok hz i) (by omega) (by omega), picN_at hz hC hx hy i (by omega), take_next 0 (by omega)]
    by_cases e : C.getD i 0 = 20 * y + x
    · rw [e, if_pos (by omega), if_pos (by simp)]
      rw [show (20 * y + x) % 20 = x by omega, show (20 * y + x) / 20 = y by omega]
    · rw [if_neg (by omega)]
      have : (20 * y + x ∈ C.take i ++ [C.getD i 0]) ↔ (20 * y + x ∈ C.take i) := by
        simp only [List.mem_append, List.mem_singleton]
        constructor
        · rintro (q | q)
          · exact q
          · exact absurd q.symm e
        · exact .inl
      simp only [this]

theorem grid0_ok : ok20 grid0 := ⟨List.length_replicate, fun y hy => by
  rw [grid0, List.getD_eq_getElem?_getD, List.getElem?_replicate, if_pos hy]
  exact List.length_replicate⟩

theorem grid0_at {x y : Nat} : (grid0.getD y []).getD x 0 = 0 := by
  simp only [grid0, row0, List.getD_eq_getElem?_getD, List.getElem?_replicate]
  split
  · simp only [Option.getD_some, List.getElem?_replicate]
    split <;> rfl
  · rfl

theorem picN_all (h : Nat → Nat → Int) : picN h (cellsN shZ 480) grid0 (cellsN shZ 480).length = picZ h := by
  refine ext20 (picN_ok grid0_ok _) (picZ_ok h) (fun x y hx hy => ?_)
  rw [picN_at grid0_ok (fun c hc => (cellsN_mem hc).1) hx hy _ (Nat.le_refl _), picZ_at hx hy, List.take_length, grid0_at]
  have : (20 * y + x ∈ cellsN shZ 480) ↔ inSh (x : Nat) (y : Nat) = true := by
    simp only [cellsN, List.mem_filter, List.mem_range]
    rw [show (20 * y + x) % 20 = x by omega, show (20 * y + x) / 20 = y by omega, shZ_has hx hy]
    constructor
    · exact fun q => q.2
    · exact fun q => ⟨by omega, q⟩
  simp only [this]

@[simp] theorem picZ_len (h : Nat → Nat → Int) : (picZ h).length = 24 := (picZ_ok h).1

@[simp] theorem grid0_len : grid0.length = 24 := grid0_ok.1

attribute [local go_sem] picZ_len grid0_len

end Go.Proofs.Ytaegdaimjhhgpaa
