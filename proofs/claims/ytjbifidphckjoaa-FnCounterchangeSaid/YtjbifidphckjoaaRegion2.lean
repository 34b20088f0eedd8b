/- Boxes that fit in regions. -/
import Derived.Test.YtjbifidphckjoaaRegion
import Derived.WalkKit
import Derived.WalkSpells
import Derived.KernelRfl
namespace Go.Proofs.Ytjbifidphckjoaa
open Go.RowKit
set_option linter.unusedVariables false
set_option linter.unusedSimpArgs false

attribute [local go_sem] intL BoxV.d BoxV.cs boxL

attribute [local simp] ints_plain ints_all ints_all1 ints_plain_take

theorem okReg_len {zs : List Int} (h : okReg zs = true) : zs.length = 24 := by
 simp only [okReg, Bool.and_eq_true, decide_eq_true_eq] at h
 exact h.1

theorem okReg_row {zs : List Int} (h : okReg zs = true) {i : Nat} (hi : i < 24) : okRow i (zs.getD i 0) = true := by
 simp only [okReg, Bool.and_eq_true, List.all_eq_true, List.mem_range] at h
 exact h.2 i hi

theorem okRow_lt {v : Int} {y : Nat} (h : okRow y v = true) : 0 <= v /\ v < 1048576 := by
 simp only [okRow, Bool.and_eq_true, decide_eq_true_eq, beq_iff_eq] at h
 have h1 := rowN_lt (cellP (fun _ _ => true) y) 20
 have h2 : v.toNat <= rowN (cellP (fun _ _ => true) y) 20 := by
  rw [← h.2]
  exact Nat.and_le_right
 omega

theorem okReg_z {zs : List Int} (h : okReg zs = true) : okZ zs := ⟨okReg_len h, fun i hi => by
 have := okRow_lt (okReg_row h hi)
 omega⟩

theorem okReg_y {zs : List Int} (h : okReg zs = true) {y : Int} (hy : inR y 0 23 = true) : 0 <= zs.getD y.toNat 0 /\ zs.getD y.toNat 0 < 9223372036854775808 := by
 rw [inR_iff] at hy
 exact (okReg_z h).2 y.toNat (by omega)

theorem hasZ_sh {zs : List Int} (h : okReg zs = true) {x y : Int} (hh : hasZ zs x y = true) : inSh x y = true := by
 simp only [hasZ, Bool.and_eq_true, inR_iff] at hh
 obtain ⟨⟨h1, h2⟩, h3⟩ := hh
 have hr := okReg_row h (i := y.toNat) (by omega)
 simp only [okRow, Bool.and_eq_true, decide_eq_true_eq, beq_iff_eq] at hr
 rw [bitZ, ← hr.2, Nat.testBit_and, rowN_bit, cellP] at h3
 simp only [Bool.and_eq_true, Bool.and_true] at h3
 have e1 : ((x.toNat : Nat) : Int) = x := by omega
 have e2 : ((y.toNat : Nat) : Int) = y := by omega
 rw [e1, e2] at h3
 exact h3.2.2

def fitsR (zs : List Int) (b : BoxV) : D := if okReg zs && okBox b then .tu [.bool (allB b (hasZ zs) b.s.toNat), .bool true] else .tu [.bool false, .bool false]

end Go.Proofs.Ytjbifidphckjoaa
