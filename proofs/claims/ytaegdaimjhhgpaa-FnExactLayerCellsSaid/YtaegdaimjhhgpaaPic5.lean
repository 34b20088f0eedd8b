/- CounterPicture: contracts and law. -/
import Derived.Test.YtaegdaimjhhgpaaPic3
import Derived.WalkKit
import Derived.WalkSpells
import Derived.KernelRfl
namespace Go.Proofs.Ytaegdaimjhhgpaa
open Go.RowKit
set_option linter.unusedVariables false
set_option linter.unusedSimpArgs false

attribute [local go_sem] intL gridD lookO_lo killO_grid delO_grid putO_lo gridO_app dropGe dropGe_grid cleanO_grid gridC_len gridC_refs gridQ_refs lens_len rowsD_len setG_len dropO_grid killR_nil killR_cons killR_grid killN_lo newN_gridN hasN_cons hasN_grid Nat.le_refl refs_dmap newN_all killSs_gridN killOs_gridN killSs_gridN0 killOs_gridN0 loS_nil loS_cons loL_nil loL_cons lo_bp lo_bs lo_ag lo_tu lo_fc lo_d lo_un loO_nil loO_ds loO_av loO_dead loO_grid loL_gridC loL_dmap picZ_len allD_grid refsL_app' numsR_len

attribute [local simp] ints_plain ints_all ints_all1 ints_plain_take refs_dmap gridC_refs

def okDiv (d l f s : Int) : Bool := okField d l f s && decide (d ≠ 0)

def ctrR (d l f s : Int) (zs : List Int) : D := if okDiv d l f s && okReg zs then .tu [gridD (picZ (ctrZ d l.toNat f s zs)), .bool true] else .tu [gridD [], .bool false]

end Go.Proofs.Ytaegdaimjhhgpaa
