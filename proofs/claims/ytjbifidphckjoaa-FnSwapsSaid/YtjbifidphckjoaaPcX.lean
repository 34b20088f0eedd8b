/- Cells of a region painted in a picture, one after another; no program. -/
import Derived.Test.YtjbifidphckjoaaGrid4
import Derived.WalkKit
namespace Go.Proofs.Ytjbifidphckjoaa
open Go.RowKit
set_option linter.unusedVariables false
set_option linter.unusedSimpArgs false

def ptN (reg : List Int) (t : Int) (zs : List (List Int)) : Nat -> List (List Int)
 | 0 => zs
 | i + 1 => if hasZ reg (i % 20 : Nat) (i / 20 : Nat) = true then setG (ptN reg t zs i) (i % 20) (i / 20) t else ptN reg t zs i

theorem ptN_ok {reg : List Int} {t : Int} {zs : List (List Int)} (hz : ok20 zs) : ∀ i, ok20 (ptN reg t zs i)
 | 0 => hz
 | i + 1 => by
  rw [ptN]
  split
  · exact ok20_set (ptN_ok hz i)
  · exact ptN_ok hz i

theorem ptN_yes {reg : List Int} {t : Int} {zs : List (List Int)} {y x : Nat} (hx : x < 20) (h : hasZ reg x y = true) : ptN reg t zs (20 * y + x + 1) = setG (ptN reg t zs (20 * y + x)) x y t := by
 have e1 : (20 * y + x) % 20 = x := by omega
 have e2 : (20 * y + x) / 20 = y := by omega
 rw [ptN, e1, e2, if_pos h]

theorem ptN_no {reg : List Int} {t : Int} {zs : List (List Int)} {y x : Nat} (hx : x < 20) (h : hasZ reg x y = false) : ptN reg t zs (20 * y + x + 1) = ptN reg t zs (20 * y + x) := by
 have e1 : (20 * y + x) % 20 = x := by omega
 have e2 : (20 * y + x) / 20 = y := by omega
 rw [ptN, e1, e2, if_neg (by rw [h]; simp)]

theorem ptN_at {reg : List Int} {t : Int} {zs : List (List Int)} (hz : ok20 zs) {x y : Nat} (hx : x < 20) (hy : y < 24) : ∀ i, i <= 480 -> ((ptN reg t zs i).getD y []).getD x 0 = if 20 * y + x < i /\ hasZ reg x y = true then t else (zs.getD y []).getD x 0
 | 0, _ => by
  rw [ptN, if_neg (by omega)]
 | i + 1, h => by
  have ih := ptN_at (reg := reg) (t := t) hz hx hy i (by omega)
  rw [ptN]
  split
  ·
   rename_i hr
   rw [setG_get (ptN_ok hz i) (by omega) (by omega), ih]
   by_cases e : i % 20 = x /\ i / 20 = y
   ·
    rw [if_pos e]
    obtain ⟨rfl, rfl⟩ := e
    rw [if_pos ⟨by omega, hr⟩]
   ·
    rw [if_neg e]
    by_cases h2 : 20 * y + x < i
    · simp only [h2, show 20 * y + x < i + 1 from by omega]
    ·
     have h3 : ¬ 20 * y + x < i + 1 := by omega
     simp only [h2, h3]
  ·
   rename_i hr
   rw [ih]
   by_cases h2 : 20 * y + x < i
   · simp only [h2, show 20 * y + x < i + 1 from by omega]
   ·
    by_cases e : i = 20 * y + x
    ·
     subst e
     have e1 : (20 * y + x) % 20 = x := by omega
     have e2 : (20 * y + x) / 20 = y := by omega
     rw [e1, e2] at hr
     rw [if_neg (by simp [hr]), if_neg (by simp [hr])]
    ·
     have h3 : ¬ 20 * y + x < i + 1 := by omega
     simp only [h2, h3]

def ptH (h : Nat -> Nat -> Int) (reg : List Int) (t : Int) (x y : Nat) : Int := if hasZ reg x y = true then t else h x y

theorem ptN_all {h : Nat -> Nat -> Int} {reg : List Int} {t : Int} (hin : ∀ x y : Nat, x < 20 -> y < 24 -> hasZ reg x y = true -> inSh (x : Nat) (y : Nat) = true) : ptN reg t (picZ h) 480 = picZ (ptH h reg t) :=
 ext20 (ptN_ok (picZ_ok h) 480) (picZ_ok _) (fun x y hx hy => by
  rw [ptN_at (picZ_ok h) hx hy 480 (by omega), picZ_at hx hy, picZ_at hx hy, ptH]
  cases hr : hasZ reg x y
  · simp
  · rw [if_pos ⟨by omega, rfl⟩, hin x y hx hy hr, if_pos rfl, if_pos rfl])

end Go.Proofs.Ytjbifidphckjoaa
