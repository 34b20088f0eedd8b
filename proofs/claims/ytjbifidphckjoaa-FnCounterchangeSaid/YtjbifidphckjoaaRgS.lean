/- Draws of regions. -/
import Derived.Test.YtjbifidphckjoaaRgR
import Derived.WalkKit
import Derived.WalkSpells
import Derived.KernelRfl
namespace Go.Proofs.Ytjbifidphckjoaa
open Go.RowKit
set_option linter.unusedVariables false
set_option linter.unusedSimpArgs false

attribute [local go_sem] intL curO codL

attribute [local simp] refs_dmap ints_plain ints_all ints_all1 ints_plain_take curO codL

theorem zeroQ_cur : zeroV Try.prog 63 = [Value.slice none 0 0, Value.int IntKind.i64 0, Value.int IntKind.u64 0] := by kernel_rfl

attribute [local go_sem] zeroQ_cur

def curQ : CurV := ⟨0, 0⟩

theorem curQ_ok (n : Nat) : okCur n curQ := ⟨Int.le_refl _, Int.natCast_nonneg _⟩

theorem aregion_at (s t : Nat) (bs : List Int) (c : CurV) (hb : okCod bs) (h0 : okCur 50000 c) (hs : s < 5000) (ht : t < 5000) (hst : s ≠ t) : FnS Try.prog 33 [(s, curO bs c)] [.bp s 0] [(s, curO bs (arS bs c).c), (t, .ds ((arS bs c).z.map D.int))] (.ag [.bs t (arS bs c).o (arS bs c).n 1]) := by
 have h := ((any_region bs c hb h0).sw 5000 s).sw 5001 t
 simpa only [curO, swO, AV.swL, AV.sw, OB.sw, sw_self, swpQ_1 hs, swpQ_2 hs hst] using h

theorem rg_raw (zs : List Int) (o n : Nat) (h : o + n <= zs.length) : D.ls 1 n (((zs.map D.int).drop o).take (n * 1)) = intL ((zs.drop o).take n) := by
 have hl : ((zs.drop o).take n).length = n := by
  simp
  omega
 rw [intL, hl, Nat.mul_one, List.map_take, List.map_drop]

theorem rg_plains (zs : List Int) (o n : Nat) : plains (((zs.map D.int).drop o).take n) := by
 rw [← List.map_drop, ← List.map_take]
 exact ints_plain _

attribute [local simp] rg_plains

def r1 (bs : List Int) : List Int := arL (arS bs curQ)

def r2 (bs : List Int) : List Int := arL (arS bs (arS bs curQ).c)

def h5 : List Int := [1, 2, 3, 0, 4]

def rH (bs : List Int) : Int := amV bs h5 (3 + pickV bs 24 (arS bs (arS bs curQ).c).c / 11).toNat (pickC bs 24 (arS bs (arS bs curQ).c).c)

end Go.Proofs.Ytjbifidphckjoaa
