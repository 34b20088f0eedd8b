/- FieldPicture: contracts and law. -/
import Derived.Test.YtaegdaimjhhgpaaPic3
import Derived.WalkKit
import Derived.WalkSpells
import Derived.KernelRfl
namespace Go.Proofs.Ytaegdaimjhhgpaa
open Go.RowKit
set_option linter.unusedVariables false
set_option linter.unusedSimpArgs false

attribute [local go_sem] intL gridD lookO_lo killO_grid delO_grid putO_lo gridO_app dropGe dropGe_grid cleanO_grid gridC_len gridC_refs gridQ_refs lens_len rowsD_len setG_len dropO_grid killR_nil killR_cons killR_grid killN_lo newN_gridN hasN_cons hasN_grid Nat.le_refl refs_dmap newN_all killSs_gridN killOs_gridN killSs_gridN0 killOs_gridN0 loS_nil loS_cons loL_nil loL_cons lo_bp lo_bs lo_ag lo_tu lo_fc lo_d lo_un loO_nil loO_ds loO_av loO_dead loO_grid loL_gridC loL_dmap picZ_len allD_grid refsL_app' numsR_len

attribute [local simp] ints_plain ints_all ints_all1 ints_plain_take refs_dmap gridC_refs

def empZ : List Int := List.replicate 24 0

def fpicR (d l f s : Int) : D := if okField d l f s then .tu [gridD (picZ (tinctZ d l.toNat f s)), .bool true] else .tu [gridD [], .bool false]

theorem rowsP_le {zs : List (List Int)} {n : Nat} (h : tot zs ≤ n) : ∀ z ∈ zs, z.length ≤ n := fun z hz => by
  obtain ⟨i, hi, rfl⟩ := List.getElem_of_mem hz
  have := tot_at (zs := zs) (i := i)
  simp only [List.getD_eq_getElem?_getD, List.getElem?_eq_getElem hi, Option.getD_some] at this
  omega

end Go.Proofs.Ytaegdaimjhhgpaa
