/- Cells of a region painted in a picture, one after another; no program. -/
/- How many bits a small number has, exactly; how many cells a region has. -/
/- The length of a region's edge. -/
/- The length of a region's edge is even; no program. -/
/- Areas of regions, of unions and intersections; no program. -/
/- Swapped tinctures: twice gives the picture back, shares change places; no program. -/
/- Countered fields: the region comes back, the cells add up, twice is nothing; no program. -/
/- Two small facts: the other tincture of the other tincture; a lined ordinary's region is good. -/
import Derived.Test.YtjbifidphckjoaaGrid4
import Derived.WalkKit
import Derived.Test.YtjbifidphckjoaaPop
import Derived.WalkSpells
import Derived.KernelRfl
import Derived.Laws.BitsLemmas
import Derived.Test.YtjbifidphckjoaaCells
import Derived.Test.YtjbifidphckjoaaGrid2
import Derived.Test.YtjbifidphckjoaaCnt
import Derived.Test.YtjbifidphckjoaaCtd
import Derived.Test.YtjbifidphckjoaaOth
namespace Go.Proofs.Ytjbifidphckjoaa
open Go.RowKit
set_option linter.unusedVariables false
set_option linter.unusedSimpArgs false

def ptN (reg : List Int) (t : Int) (zs : List (List Int)) : Nat -> List (List Int)
 | 0 => zs
 | i + 1 => if hasZ reg (i % 20 : Nat) (i / 20 : Nat) = true then setG (ptN reg t zs i) (i % 20) (i / 20) t else ptN reg t zs i

theorem ptN_ok {reg : List Int} {t : Int} {zs : List (List Int)} (hz : ok20 zs) : ∀ i, ok20 (ptN reg t zs i)
 | 0 => hz
 | i + 1 => by
  rw [ptN]
  split
  · exact ok20_set (ptN_ok hz i)
  · exact ptN_ok hz i

theorem ptN_yes {reg : List Int} {t : Int} {zs : List (List Int)} {y x : Nat} (hx : x < 20) (h : hasZ reg x y = true) : ptN reg t zs (20 * y + x + 1) = setG (ptN reg t zs (20 * y + x)) x y t := by
 have e1 : (20 * y + x) % 20 = x := by omega
 have e2 : (20 * y + x) / 20 = y := by omega
 rw [ptN, e1, e2, if_pos h]

theorem ptN_no {reg : List Int} {t : Int} {zs : List (List Int)} {y x : Nat} (hx : x < 20) (h : hasZ reg x y = false) : ptN reg t zs (20 * y + x + 1) = ptN reg t zs (20 * y + x) := by
 have e1 : (20 * y + x) % 20 = x := by omega
 have e2 : (20 * y + x) / 20 = y := by omega
 rw [ptN, e1, e2, if_neg (by rw [h]; simp)]

theorem ptN_at {reg : List Int} {t : Int} {zs : List (List Int)} (hz : ok20 zs) {x y : Nat} (hx : x < 20) (hy : y < 24) : ∀ i, i <= 480 -> ((ptN reg t zs i).getD y []).getD x 0 = if 20 * y + x < i /\ hasZ reg x y = true then t else (zs.getD y []).getD x 0
 | 0, _ => by
  rw [ptN, if_neg (by omega)]
 | i + 1, h => by
  have ih := ptN_at (reg := reg) (t := t) hz hx hy i (by omega)
  rw [ptN]
  split
  ·
   rename_i hr
   rw [setG_get (ptN_ok hz i) (by omega) (by omega), ih]
   by_cases e : i % 20 = x /\ i / 20 = y
   ·
    rw [if_pos e]
    obtain ⟨rfl, rfl⟩ := e
    rw [if_pos ⟨by omega, hr⟩]
   ·
    rw [if_neg e]
    by_cases h2 : 20 * y + x < i
    · simp only [h2, show 20 * y + x < i + 1 from by omega]
    ·
     have h3 : ¬ 20 * y + x < i + 1 := by omega
     simp only [h2, h3]
  ·
   rename_i hr
   rw [ih]
   by_cases h2 : 20 * y + x < i
   · simp only [h2, show 20 * y + x < i + 1 from by omega]
   ·
    by_cases e : i = 20 * y + x
    ·
     subst e
     have e1 : (20 * y + x) % 20 = x := by omega
     have e2 : (20 * y + x) / 20 = y := by omega
     rw [e1, e2] at hr
     rw [if_neg (by simp [hr]), if_neg (by simp [hr])]
    ·
     have h3 : ¬ 20 * y + x < i + 1 := by omega
     simp only [h2, h3]

def ptH (h : Nat -> Nat -> Int) (reg : List Int) (t : Int) (x y : Nat) : Int := if hasZ reg x y = true then t else h x y

theorem ptN_all {h : Nat -> Nat -> Int} {reg : List Int} {t : Int} (hin : ∀ x y : Nat, x < 20 -> y < 24 -> hasZ reg x y = true -> inSh (x : Nat) (y : Nat) = true) : ptN reg t (picZ h) 480 = picZ (ptH h reg t) :=
 ext20 (ptN_ok (picZ_ok h) 480) (picZ_ok _) (fun x y hx hy => by
  rw [ptN_at (picZ_ok h) hx hy 480 (by omega), picZ_at hx hy, picZ_at hx hy, ptH]
  cases hr : hasZ reg x y
  · simp
  · rw [if_pos ⟨by omega, rfl⟩, hin x y hx hy hr, if_pos rfl, if_pos rfl])

end Go.Proofs.Ytjbifidphckjoaa

namespace Go.Proofs.Ytjbifidphckjoaa
open Go.RowKit
set_option linter.unusedVariables false
set_option linter.unusedSimpArgs false

def rowC (q : Nat -> Bool) : Nat -> Nat
 | 0 => 0
 | n + 1 => rowC q n + (if q n then 1 else 0)

theorem rowC_congr {p q : Nat -> Bool} : ∀ {n : Nat}, (∀ i, i < n -> p i = q i) -> rowC p n = rowC q n
 | 0, _ => rfl
 | n + 1, h => by rw [rowC, rowC, rowC_congr fun i hi => h i (by omega), h n (by omega)]

theorem rowC_le (q : Nat -> Bool) : ∀ n, rowC q n <= n
 | 0 => Nat.le_refl _
 | n + 1 => by
  have := rowC_le q n
  rw [rowC]
  split <;> omega

theorem byte_pop : ∀ a, a < 256 -> cm 15 (bm 51 (am 85 a)) = rowC (fun i => a.testBit i) 8 := by decide +kernel

theorem tb_lo {a y i : Nat} (ha : a < 2 ^ 8) (hi : i < 8) : (a + 256 * y).testBit i = a.testBit i := by
 have h := Nat.testBit_two_pow_mul_add y ha i
 rw [if_pos hi] at h
 rw [← h, Nat.add_comm]

theorem tb_hi {a y i : Nat} (ha : a < 2 ^ 8) : (a + 256 * y).testBit (8 + i) = y.testBit i := by
 have h := Nat.testBit_two_pow_mul_add y ha (8 + i)
 rw [if_neg (by omega), Nat.add_sub_cancel_left] at h
 rw [← h, Nat.add_comm]

theorem rowC_split {a y : Nat} (ha : a < 256) (k : Nat) : rowC (fun i => (a + 256 * y).testBit i) (8 + k) = rowC (fun i => a.testBit i) 8 + rowC (fun i => y.testBit i) k := by
 induction k with
 | zero =>
  have h : rowC (fun i => (a + 256 * y).testBit i) 8 = rowC (fun i => a.testBit i) 8 := rowC_congr fun i hi => tb_lo (by simpa using ha) hi
  have e0 : rowC (fun i => y.testBit i) 0 = 0 := rfl
  rw [Nat.add_zero, h, e0, Nat.add_zero]
 | succ k ih =>
  have e : (a + 256 * y).testBit (8 + k) = y.testBit k := tb_hi (by simpa using ha)
  have e1 : rowC (fun i => (a + 256 * y).testBit i) (8 + k + 1) = rowC (fun i => (a + 256 * y).testBit i) (8 + k) + (if (a + 256 * y).testBit (8 + k) then 1 else 0) := rfl
  have e2 : rowC (fun i => y.testBit i) (k + 1) = rowC (fun i => y.testBit i) k + (if y.testBit k then 1 else 0) := rfl
  rw [← Nat.add_assoc, e1, e2, ih, e, Nat.add_assoc]

theorem pc_sum (x : Nat) (hx : x < 16777216) : pc x = rowC (fun i => x.testBit i) 24 := by
 have e : x = x % 256 + 256 * (x / 256 % 256 + 256 * (x / 65536)) := by omega
 have hc : x / 65536 < 256 := by omega
 have ha : x % 256 < 256 := by omega
 have hb : x / 256 % 256 < 256 := by omega
 have h := pc_bytes ha hb hc
 have s0 := rowC_split (y := x / 256 % 256 + 256 * (x / 65536)) ha 16
 have s1 := rowC_split (y := x / 65536) hb 8
 rw [← e] at h s0
 have a4 := rowC_le (fun i => (x % 256).testBit i) 8
 have b4 := rowC_le (fun i => (x / 256 % 256).testBit i) 8
 have c4 := rowC_le (fun i => (x / 65536).testBit i) 8
 have h2 : pc x = pcS (cm 1085102592571150095 (bm 3689348814741910323 (am 6148914691236517205 x))) := rfl
 rw [h2, h, byte_pop _ ha, byte_pop _ hb, byte_pop _ hc]
 rw [show 8 + 16 = 24 from rfl] at s0
 rw [show 8 + 8 = 16 from rfl] at s1
 rw [s0, s1]
 generalize rowC (fun i => (x % 256).testBit i) 8 = A at *
 generalize rowC (fun i => (x / 256 % 256).testBit i) 8 = B at *
 generalize rowC (fun i => (x / 65536).testBit i) 8 = C at *
 have t1 : (A + 256 * (B + 256 * C)) / 256 = B + 256 * C := by omega
 have t2 : (A + 256 * (B + 256 * C) + (B + 256 * C)) / 65536 = C := by omega
 have t3 : (A + 256 * (B + 256 * C) + (B + 256 * C) + C) / 4294967296 = 0 := by omega
 have t4 : (A + 256 * (B + 256 * C) + (B + 256 * C) + C) % 128 = A + B + C := by omega
 unfold pcS
 simp only [Nat.shiftRight_eq_div_pow, Nat.reducePow, t1, t2, t3, Nat.add_zero]
 rw [show (127 : Nat) = 2 ^ 7 - 1 from rfl, Nat.and_two_pow_sub_one_eq_mod]
 omega

def totC (q : Nat -> Nat -> Bool) : Nat -> Nat
 | 0 => 0
 | n + 1 => totC q n + rowC (q n) 20

end Go.Proofs.Ytjbifidphckjoaa

namespace Go.Proofs.Ytjbifidphckjoaa
open Go.RowKit
set_option linter.unusedVariables false
set_option linter.unusedSimpArgs false

attribute [local go_sem] intL pairD

attribute [local simp] ints_plain ints_all ints_all1 ints_plain_take pairs_plain pairs_all

def sx (x : Int) (k : Nat) : Int := if k = 0 then x - 1 else if k = 1 then x + 1 else x

def sy (y : Int) (k : Nat) : Int := if k = 2 then y - 1 else if k = 3 then y + 1 else y

def sidesC (x y : Int) : List D := [.int (x - 1), .int y, .int (x + 1), .int y, .int x, .int (y - 1), .int x, .int (y + 1)]

def besideC (x y : Int) : List D := [.ls 1 2 [.int (x - 1), .int y], .ls 1 2 [.int (x + 1), .int y], .ls 1 2 [.int x, .int (y - 1)], .ls 1 2 [.int x, .int (y + 1)]]

attribute [local go_sem] sidesC besideC

def sd (zs : List Int) (c k : Nat) : Int := if hasZ zs (sx ((c % 20 : Nat) : Int) k) (sy ((c / 20 : Nat) : Int) k) then 0 else 1

def edgeP (zs : List Int) (c k : Nat) : Int := ((List.range k).map (sd zs c)).sum

def edgeS (zs : List Int) (l : List Nat) (i : Nat) : Int := ((List.range i).map fun j => edgeP zs (l.getD j 0) 4).sum

def edgeR (zs : List Int) : D := if okReg zs then .tu [.int (edgeS zs (cellsN zs 480) (cellsN zs 480).length), .bool true] else .tu [.int 0, .bool false]

end Go.Proofs.Ytjbifidphckjoaa

namespace Go.Proofs.Ytjbifidphckjoaa
open Go.RowKit
set_option linter.unusedVariables false
set_option linter.unusedSimpArgs false

def sumR (f : Nat -> Nat) (n : Nat) : Nat := ((List.range n).map f).sum

def oneZ (zs : List Int) (x y : Int) : Nat := if hasZ zs x y = true then 1 else 0

def bitC (zs : List Int) (c : Nat) : Nat := oneZ zs ((c % 20 : Nat) : Int) ((c / 20 : Nat) : Int)

def both (zs : List Int) (k c : Nat) : Nat := bitC zs c * oneZ zs (sx ((c % 20 : Nat) : Int) k) (sy ((c / 20 : Nat) : Int) k)

def fourB (zs : List Int) (c : Nat) : Nat := both zs 0 c + both zs 1 c + (both zs 2 c + both zs 3 c)

end Go.Proofs.Ytjbifidphckjoaa

namespace Go.Proofs.Ytjbifidphckjoaa
open Go.RowKit
set_option linter.unusedVariables false
set_option linter.unusedSimpArgs false

def rbit (zs : List Int) (y x : Nat) : Bool := (zs.getD y 0).toNat.testBit x

theorem rbit_has {zs : List Int} {x y : Nat} (hx : x < 20) (hy : y < 24) : hasZ zs x y = rbit zs y x := by
 have h1 : inR (x : Int) 0 19 = true := inR_iff.2 (by omega)
 have h2 : inR (y : Int) 0 23 = true := inR_iff.2 (by omega)
 simp [hasZ, h1, h2, bitZ, rbit]

theorem cells_row (zs : List Int) {y : Nat} (hy : y < 24) : ∀ x, x <= 20 -> (cellsN zs (20 * y + x)).length = (cellsN zs (20 * y)).length + rowC (rbit zs y) x
 | 0, _ => by simp [rowC]
 | x + 1, h => by
  have ih := cells_row zs hy x (by omega)
  have hb := rbit_has (zs := zs) (x := x) (y := y) (by omega) hy
  rw [rowC]
  cases hc : rbit zs y x
  ·
   rw [hc] at hb
   rw [cellsN_no (by omega) hb, ih]
   simp
  ·
   rw [hc] at hb
   rw [cellsN_yes (by omega) hb, List.length_append, ih]
   simp [Nat.add_assoc]

theorem cells_tot (zs : List Int) : ∀ n, n <= 24 -> (cellsN zs (20 * n)).length = totC (rbit zs) n
 | 0, _ => rfl
 | n + 1, h => by
  have ih := cells_tot zs n (by omega)
  have h1 := cells_row zs (y := n) (by omega) 20 (by omega)
  rw [totC, ← ih, show 20 * (n + 1) = 20 * n + 20 by omega, h1]

theorem rowC_hi {v : Nat} (h : v < 2 ^ 20) (k : Nat) : rowC (fun i => v.testBit i) (20 + k) = rowC (fun i => v.testBit i) 20 := by
 induction k with
 | zero => rfl
 | succ k ih =>
  have hb : v.testBit (20 + k) = false := Nat.testBit_lt_two_pow (Nat.lt_of_lt_of_le h (Nat.pow_le_pow_right (by decide) (by omega)))
  rw [← Nat.add_assoc, rowC, ih, hb]
  rfl

theorem area_rows (zs : List Int) (hz : okReg zs = true) : ∀ n, n <= 24 -> areaN zs n = totC (rbit zs) n
 | 0, _ => by simp [areaN, totC]
 | n + 1, h => by
  have hl := okReg_len hz
  have hr := okRow_lt (okReg_row hz (i := n) (by omega))
  have h20 : (zs.getD n 0).toNat < 2 ^ 20 := by omega
  rw [areaN_next (by omega), area_rows zs hz n (by omega), totC, pc_sum _ (by omega)]
  exact congrArg (totC (rbit zs) n + ·) (rowC_hi h20 4)

theorem area_cells (zs : List Int) (hz : okReg zs = true) : areaN zs 24 = (cellsN zs 480).length := by
 rw [area_rows zs hz 24 (by omega), ← cells_tot zs 24 (by omega)]

def cmbI (how a b : Int) : Int := if how = 1 then bits .or .i64 a b else if how = 2 then bits .and .i64 a b else bits .andNot .i64 a b

def combZ (a b : List Int) (how : Int) : List Int := tab (fun y => cmbI how (a.getD y 0) (b.getD y 0)) 24

@[simp] theorem combZ_len (a b : List Int) (how : Int) : (combZ a b how).length = 24 := tab_len _ _

def combR (a b : List Int) (how : Int) : D := if okReg a && okReg b && inR how 1 3 then .tu [.ag [intL (combZ a b how)], .bool true] else .tu [.ag [intL []], .bool false]

theorem area_le (zs : List Int) (hz : okReg zs = true) : areaN zs 24 <= 480 := by
 rw [area_cells zs hz]
 exact cellsN_len zs 480

end Go.Proofs.Ytjbifidphckjoaa

namespace Go.Proofs.Ytjbifidphckjoaa
open Go.RowKit
set_option linter.unusedVariables false
set_option linter.unusedSimpArgs false

theorem map_at20 {zs : List (List Int)} (f : Int -> Int) (hz : ok20 zs) {x y : Nat} (hx : x < 20) (hy : y < 24) : ((zs.map (List.map f)).getD y []).getD x 0 = f ((zs.getD y []).getD x 0) := by
 have h1 : y < zs.length := by rw [hz.1]; exact hy
 have h2 := hz.2 y hy
 have e1 : zs.getD y [] = zs[y] := by simp [List.getD_eq_getElem?_getD, h1]
 rw [e1] at h2
 have h3 : x < (zs[y]).length := by rw [h2]; exact hx
 simp [List.getD_eq_getElem?_getD, h1, h3]

theorem map_20 {zs : List (List Int)} (f : Int -> Int) (hz : ok20 zs) : ok20 (zs.map (List.map f)) := by
 refine ⟨by rw [List.length_map]; exact hz.1, fun y hy => ?_⟩
 have h1 : y < zs.length := by rw [hz.1]; exact hy
 have h2 := hz.2 y hy
 have e1 : zs.getD y [] = zs[y] := by simp [List.getD_eq_getElem?_getD, h1]
 rw [e1] at h2
 simp [List.getD_eq_getElem?_getD, h1, h2]

theorem okPic_mk {zs : List (List Int)} (hz : ok20 zs) (h : ∀ x y : Nat, x < 20 -> y < 24 -> okPx x y ((zs.getD y []).getD x 0) = true) : okPic zs = true := by
 simp only [okPic, okPicN, Bool.and_eq_true, decide_eq_true_eq, List.all_eq_true, List.mem_range, okRowP, rowPx]
 exact ⟨hz.1, fun y hy => ⟨hz.2 y hy, fun x hx => h x y hx hy⟩⟩

end Go.Proofs.Ytjbifidphckjoaa

namespace Go.Proofs.Ytjbifidphckjoaa
open Go.RowKit
set_option linter.unusedVariables false
set_option linter.unusedSimpArgs false

def oneIf (f s v : Int) : Int := if v = f ∨ v = s then 1 else 0

theorem count_two {f s : Int} (hfs : f ≠ s) : ∀ l : List Int, (l.map (oneIf f s)).count 1 = l.count f + l.count s
 | [] => rfl
 | n :: l => by
  rw [List.map_cons, List.count_cons, List.count_cons, List.count_cons, count_two hfs l]
  by_cases h1 : n = f
  ·
   have h2 : ¬ n = s := fun e => hfs (by rw [← h1, e])
   simp [oneIf, h1, hfs]
   omega
  ·
   by_cases h2 : n = s
   ·
    have h3 : ¬ s = f := fun e => hfs e.symm
    simp [oneIf, h2, h3]
    omega
   · simp [oneIf, h1, h2]

theorem ctr_fs {d : Int} {l : Nat} {f s : Int} (h : okDiv d l f s = true) (zs : List Int) : (picZ (ctrZ d l f s zs)).flatten.count f + (picZ (ctrZ d l f s zs)).flatten.count s = (picZ (fun _ _ => 1)).flatten.count 1 := by
 obtain ⟨hf, hs, hne⟩ := okDiv_in h
 rw [← count_two (fun e => hne e.symm), List.map_flatten]
 congr 2
 refine ext20 (map_20 _ (picZ_ok _)) (picZ_ok _) (fun x y hx hy => ?_)
 rw [map_at20 _ (picZ_ok _) hx hy, picZ_at hx hy, picZ_at hx hy]
 cases hsx : inSh (x : Nat) (y : Nat)
 ·
  simp only [Bool.false_eq_true, if_false, oneIf]
  rw [if_neg (by omega)]
 ·
  simp only [if_true, oneIf]
  rw [if_pos (ctrZ_in h zs x y)]

theorem area_ones : (picZ (fun _ _ => 1)).flatten.count 1 = areaN shZ 24 := by decide +kernel

theorem ctr_ok {d : Int} {l : Nat} {f s : Int} (h : okDiv d l f s = true) (zs : List Int) : okPic (picZ (ctrZ d l f s zs)) = true := by
 obtain ⟨hf, hs, _⟩ := okDiv_in h
 refine okPic_mk (picZ_ok _) (fun x y hx hy => ?_)
 rw [picZ_at hx hy]
 have h1 := ctrZ_in h zs x y
 cases hsx : inSh (x : Nat) (y : Nat)
 ·
  simp [okPx, hsx]
  rfl
 ·
  have : inR (ctrZ d l f s zs x y) 1 9 = true := inR_iff.2 (by omega)
  simp [okPx, hsx, this]

theorem ctr_get {d : Int} {l : Nat} {f s : Int} {zs : List Int} {x y : Nat} (hx : x < 20) (hy : y < 24) (hs : inSh (x : Nat) (y : Nat) = true) : ((picZ (ctrZ d l f s zs)).getD y []).getD x 0 = ctrZ d l f s zs x y := by
 rw [picZ_at hx hy, hs, if_pos rfl]

theorem ctd_back {d : Int} {l : Nat} {f s : Int} {zs : List Int} (h : okDiv d l f s = true) (hz : okReg zs = true) : ctdR (picZ (ctrZ d l f s zs)) d l f s = .tu [.ag [intL zs], .bool true] := by
 have hC : okC (picZ (ctrZ d l f s zs)) f s 480 = true := okC_yes fun c hc => by
  obtain ⟨h1, h2⟩ := cellsN_mem hc
  have hx : c % 20 < 20 := by omega
  have hy : c / 20 < 24 := by omega
  have hsh : inSh ((c % 20 : Nat) : Int) ((c / 20 : Nat) : Int) = true := hasZ_sh shZ_ok h2
  have h3 := ctr_get (d := d) (l := l) (f := f) (s := s) (zs := zs) hx hy hsh
  rw [isFS, cellV, h3]
  rcases ctrZ_in h zs (c % 20) (c / 20) with e | e <;> rw [e] <;> simp
 rw [ctdR, ctr_ok h zs, h, hC, Bool.and_self, Bool.and_self, if_pos rfl, Int.toNat_natCast]
 have hR : regZ (difP (picZ (ctrZ d l f s zs)) d l f s) = zs := regZ_hasZ hz _ (fun x y hx hy hs => by
  obtain ⟨hf, hs2, hne⟩ := okDiv_in h
  have h3 := ctr_get (d := d) (l := l) (f := f) (s := s) (zs := zs) hx hy hs
  rw [difP, Int.toNat_natCast, Int.toNat_natCast, h3, ctrZ]
  have ht : tinctZ d l f s x y = f ∨ tinctZ d l f s x y = s := by
   unfold tinctZ
   split
   · exact Or.inl rfl
   · exact Or.inr rfl
  cases hq : hasZ zs (x : Nat) (y : Nat)
  · simp
  ·
   simp only [if_true]
   exact decide_eq_true (by omega))
 rw [hR]

theorem twice_plain {d : Int} {l : Nat} {f s : Int} {zs : List Int} : picZ (ctrZ d l f s (regZ (bothP zs zs))) = picZ (tinctZ d l f s) :=
 picZ_congr (fun x y hx hy _ => by
  rw [ctrZ, regZ_has hx hy]
  simp [bothP])

end Go.Proofs.Ytjbifidphckjoaa

namespace Go.Proofs.Ytjbifidphckjoaa
open Go.RowKit
set_option linter.unusedVariables false
set_option linter.unusedSimpArgs false

theorem oth_twice {d l f s x : Int} (h : (okDiv d l f s && decide (x = f ∨ x = s)) = true) : othR d l f s x = .tu [.int (f + s - x), .bool true] /\ othR d l f s (f + s - x) = .tu [.int x, .bool true] := by
 rw [Bool.and_eq_true, decide_eq_true_eq] at h
 obtain ⟨h1, h2⟩ := h
 refine ⟨by rw [othR, h1, decide_eq_true h2]; rfl, ?_⟩
 have h3 : f + s - x = f ∨ f + s - x = s := by omega
 rw [othR, h1, decide_eq_true h3, Bool.and_self, if_pos rfl, show f + s - (f + s - x) = x by omega]

theorem oth_ex (d l f s x : Int) : ∃ (t : Int) (ok : Bool), othR d l f s x = .tu [.int t, .bool ok] /\ (ok = true -> othR d l f s t = .tu [.int x, .bool true]) := by
 cases g : (okDiv d l f s && decide (x = f ∨ x = s))
 · exact ⟨0, false, by rw [othR, g]; rfl, fun h => by cases h⟩
 ·
  obtain ⟨h1, h2⟩ := oth_twice g
  exact ⟨_, _, h1, fun _ => h2⟩

end Go.Proofs.Ytjbifidphckjoaa
