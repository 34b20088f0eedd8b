/- Boxes that fit in regions. -/
import Derived.Test.YtaegdaimjhhgpaaRegion
import Derived.WalkKit
import Derived.WalkSpells
import Derived.KernelRfl
namespace Go.Proofs.Ytaegdaimjhhgpaa
open Go.RowKit
set_option linter.unusedVariables false
set_option linter.unusedSimpArgs false

attribute [local go_sem] intL BoxV.d BoxV.cs boxL

attribute [local simp] ints_plain ints_all ints_all1 ints_plain_take

theorem okReg_len {zs : List Int} (h : okReg zs = true) : zs.length = 24 := by
  simp only [okReg, Bool.and_eq_true, decide_eq_true_eq] at h
  exact h.1

theorem okReg_row {zs : List Int} (h : okReg zs = true) {i : Nat} (hi : i < 24) : okRow i (zs.getD i 0) = true := by
  simp only [okReg, Bool.and_eq_true, List.all_eq_true, List.mem_range] at h
  exact h.2 i hi

theorem okRow_lt {v : Int} {y : Nat} (h : okRow y v = true) : 0 ≤ v ∧ v < 1048576 := by
  simp only [okRow, Bool.and_eq_true, decide_eq_true_eq, beq_iff_eq] at h
  have h1 := rowN_lt (cellP (fun _ _ => true) y) 20
  have h2 : v.toNat ≤ rowN (cellP (fun _ _ => true) y) 20 := by
    rw [← h.2]
    exact Nat.and_le_right
  omega

theorem okReg_z {zs : List Int} (h : okReg zs = true) : okZ zs := ⟨okReg_len h, fun i hi => by
  have := okRow_lt (okReg_row h hi)
  omega⟩

theorem okReg_y {zs : List Int} (h : okReg zs = true) {y : Int} (hy : inR y 0 23 = true) : 0 ≤ zs.getD y.toNat 0 ∧ zs.getD y.toNat 0 < 9223372036854775808 := by
  rw [inR_iff] at hy
  exact (okReg_z h).2 y.toNat (by omega)

theorem hasZ_sh {zs : List Int} (h : okReg zs = true) {x y : Int} (hh : hasZ zs x y = true) : inSh x y = true := by
  simp only [hasZ, Bool.and_eq_true, inR_iff] at hh
  obtain ⟨⟨h1, h2⟩, h3⟩ := hh
  have hr := okReg_row h (i := y.toNat) (by omega)
  simp only [okRow, Bool.and_eq_true, decide_eq_true_eq, beq_iff_eq] at hr
  rw [bitZ, ← hr.2, Nat.testBit_and, rowN_bit, cellP] at h3
  simp only [Bool.and_eq_true, Bool.and_true] at h3
  have e1 : ((x.toNat : Nat) : Int) = x := by omega
  have e2 : ((y.toNat : Nat) : Int) = y := by omega
  rw [e1, e2] at h3
  exact h3.2.2

def fitsR (zs : List Int) (b : BoxV) : D := if okReg zs && okBox b then .tu [.bool (allB b (hasZ zs) b.s.toNat), .bool true] else .tu [.bool false, .bool false]

theorem allB_has {zs : List Int} (h : okReg zs = true) (b : BoxV) : allB b (fun x y => inSh x y && bitZ zs x y) b.s.toNat = allB b (hasZ zs) b.s.toNat := by
  apply allB_congr
  intro x y
  cases h1 : inSh x y
  · cases h2 : hasZ zs x y
    · rfl
    · rw [hasZ_sh h h2] at h1
      cases h1
  · have := inSh_in h1
    rw [hasZ, inR_iff.2 (by omega), inR_iff.2 (by omega)]
    rfl

theorem call_pred2f {σ : St} {q : Bool} {dst : Option Nat} {K : St → Prop} {g g2 : FuncId} {first cap : List AV} {fs cs : List D} {x : AV} {y r : D} {dom : List D → Prop} {h : List D → D} (hc : Fn Try.prog g [.d y, .fn dom h] r) (hx : toD σ.ob 4 x = some y) (hok : FnOk Try.prog g2) (hfirst : mapD (toD σ.ob 4) first = some fs) (hcap : mapD (toD σ.ob 4) cap = some cs) (hf : ∀ ds, dom ds → FnD Try.prog g2 (fs ++ ds ++ cs) (h ds)) (hk : K (σ.adopt dst r)) :
    CallOk Try.prog q σ dst (.fc g [] []) [x, .fc g2 first cap] K := by
  refine call_cv hc ?_ hk
  simp only [List.nil_append, List.append_nil, ArgsAre]
  refine ⟨_, _, rfl, ?_, _, _, rfl, ?_, rfl⟩
  · unfold ArgIs
    cases x <;> exact hx
  · unfold ArgIs
    exact ⟨hok, fs, cs, hfirst, hcap, fun ds hd => hf ds hd⟩

end Go.Proofs.Ytaegdaimjhhgpaa
