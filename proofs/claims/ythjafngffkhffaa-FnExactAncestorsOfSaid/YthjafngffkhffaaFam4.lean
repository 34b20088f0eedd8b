/- The children of a person: sorted in place. -/
import Derived.Test.YthjafngffkhffaaFam3
import Derived.Test.YthjafngffkhffaaSorts
import Derived.WalkKit
import Derived.WalkSpells
import Derived.KernelRfl
namespace Go.Proofs.Ythjafngffkhffaa
open Go.RowKit
set_option linter.unusedVariables false
set_option linter.unusedSimpArgs false

attribute [local go_sem] PerV.d PerV.cs perL famD intL

attribute [local simp] perC_all perC_plains ints_plain ints_all ints_all1 ints_plain_take

theorem okFam_len {l : List PerV} (h : okFam l = true) : l.length ≤ 16 := by
  simp only [okFam, okFamG, Bool.and_eq_true, decide_eq_true_eq] at h
  exact h.2

theorem okFam_at {l : List PerV} (h : okFam l = true) {i : Nat} (hi : i < l.length) : okAt parB l i = true := by
  simp only [okFam, okFamG, Bool.and_eq_true, List.all_eq_true, List.mem_range] at h
  exact h.1 i hi

theorem okFam_mem {l : List PerV} (h : okFam l = true) {x : PerV} (hx : x ∈ l) : okPer x = true := by
  obtain ⟨i, hi, rfl⟩ := List.mem_iff_getElem.1 hx
  have := okAt_per (okFam_at h hi)
  rwa [getD_eq _ hi] at this

def kids (l : List PerV) (id : Int) : List PerV := sortB (kidF l id)

def kidI (l : List PerV) (id : Int) : List Int := (kids l id).map PerV.id

end Go.Proofs.Ythjafngffkhffaa
