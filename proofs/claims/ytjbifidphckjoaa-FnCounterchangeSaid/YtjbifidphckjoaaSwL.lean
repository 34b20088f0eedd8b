/- The cross law of swapped tinctures and countered ordinaries. -/
import Derived.Test.YtjbifidphckjoaaSwD
import Derived.Test.YtjbifidphckjoaaCtY
import Derived.Test.YtjbifidphckjoaaPic6
import Derived.Test.YtjbifidphckjoaaCtd2
import Derived.Test.YtjbifidphckjoaaRgD
import Derived.Test.YtjbifidphckjoaaRB
import Derived.Test.YtjbifidphckjoaaOrdA
import Derived.WalkKit
import Derived.WalkSpells
import Derived.KernelRfl
namespace Go.Proofs.Ytjbifidphckjoaa
open Go.RowKit
set_option linter.unusedVariables false
set_option linter.unusedSimpArgs false

attribute [local go_sem] codL intL gridD FdS.dd rowsD_len

attribute [local simp] refs_dmap codL ints_plain ints_all ints_all1 ints_plain_take

theorem grid_raw (zs : List (List Int)) : D.ls 1 zs.length (((rowsD zs).drop 0).take (zs.length * 1)) = gridD zs := by
 rw [List.drop_zero, Nat.mul_one, List.take_of_length_le (by simp)]
 rfl

theorem picZ_le (h : Nat -> Nat -> Int) : (picZ h).length <= 24 /\ ∀ z ∈ picZ h, z.length <= 480 := by
 refine ⟨by rw [picZ_len]; exact Nat.le_refl _, fun z hz => ?_⟩
 have h24 : ∀ k ∈ len24, k <= 480 := by decide
 rw [← picZ_lens h] at h24
 exact h24 _ (List.mem_map_of_mem hz)

end Go.Proofs.Ytjbifidphckjoaa
