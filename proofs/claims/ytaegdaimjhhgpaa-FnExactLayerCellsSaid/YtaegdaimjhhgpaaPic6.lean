/- CounterTwice: contracts. -/
import Derived.Test.YtaegdaimjhhgpaaPic5
import Derived.Test.YtaegdaimjhhgpaaCells
import Derived.WalkKit
import Derived.WalkSpells
import Derived.KernelRfl
namespace Go.Proofs.Ytaegdaimjhhgpaa
open Go.RowKit
set_option linter.unusedVariables false
set_option linter.unusedSimpArgs false

attribute [local go_sem] intL gridD lookO_lo killO_grid delO_grid putO_lo gridO_app dropGe dropGe_grid cleanO_grid gridC_len gridC_refs gridQ_refs lens_len rowsD_len setG_len dropO_grid killR_nil killR_cons killR_grid killN_lo newN_gridN hasN_cons hasN_grid Nat.le_refl refs_dmap newN_all killSs_gridN killOs_gridN killSs_gridN0 killOs_gridN0 loS_nil loS_cons loL_nil loL_cons lo_bp lo_bs lo_ag lo_tu lo_fc lo_d lo_un loO_nil loO_ds loO_av loO_dead loO_grid loL_gridC loL_dmap picZ_len allD_grid refsL_app' numsR_len

attribute [local simp] ints_plain ints_all ints_all1 ints_plain_take refs_dmap gridC_refs

theorem hasZ_bit {zs : List Int} {x y : Nat} (hx : x < 20) (hy : y < 24) : hasZ zs x y = (zs.getD y 0).toNat.testBit x := by
  rw [hasZ, inR_iff.2 (by omega), inR_iff.2 (by omega), bitZ, Int.toNat_natCast, Int.toNat_natCast]
  rfl

def bothP (rs ss : List Int) (x y : Int) : Bool := hasZ rs x y != hasZ ss x y

theorem regZ_good (p : Int → Int → Bool) : okReg (regZ p) = true := by
  simp only [okReg, Bool.and_eq_true, decide_eq_true_eq, List.all_eq_true, List.mem_range]
  refine ⟨regZ_len p, fun y hy => ?_⟩
  rw [regZ_at hy, okRow, rowI, Bool.and_eq_true, decide_eq_true_eq, beq_iff_eq, Int.toNat_natCast]
  refine ⟨Int.natCast_nonneg _, ?_⟩
  apply Nat.eq_of_testBit_eq
  intro x
  simp only [Nat.testBit_and, rowN_bit, cellP, Bool.and_true]
  cases decide (x < 20) <;> cases inSh x y <;> cases p x y <;> rfl

theorem regZ_has {p : Int → Int → Bool} {x y : Nat} (hx : x < 20) (hy : y < 24) : hasZ (regZ p) x y = (inSh x y && p x y) := by
  rw [hasZ_bit hx hy, regZ_at hy, rowI, Int.toNat_natCast, rowN_bit, cellP, decide_eq_true hx, Bool.true_and]

def twiceR (d l f s : Int) (rs ss : List Int) : D := if okDiv d l f s && okReg rs && okReg ss then .tu [gridD (picZ (ctrZ d l.toNat f s (regZ (bothP rs ss)))), .bool true] else .tu [gridD [], .bool false]

theorem reg_opn (s : Nat) (zs : List Int) : Opn (.ag [intL zs]) (.ag [.bs s 0 zs.length 1]) [(s, .ds (zs.map D.int))] :=
  opn_ag (opnL_cons (opn_ls s (ints_plain zs)) opnL_nil rfl)

theorem gridR_opn (s : Nat) (ws : List (List Int)) (ok : Bool) (hs : s < 1000000000) : Opn (.tu [gridD ws, .bool ok]) (.tu [.bs s 0 ws.length 1, .d (.bool ok)]) ((s, .av (gridC 1000000000 (lens ws))) :: gridO 1000000000 ws []) := by
  have := opn_tu (opnL_cons (opn_grid s 1000000000 ws hs) (opnL_v (x := .bool ok) opnL_nil) (by simp [apartN]))
  rw [List.append_nil] at this
  exact this

end Go.Proofs.Ytaegdaimjhhgpaa
