/- Swapped tinctures: twice gives the picture back, shares change places; no program. -/
import Derived.Test.YtjbifidphckjoaaGrid5
import Derived.WalkKit
namespace Go.Proofs.Ytjbifidphckjoaa
open Go.RowKit
set_option linter.unusedVariables false
set_option linter.unusedSimpArgs false

theorem swapV_twice (a b n : Int) : swapV a b (swapV a b n) = n := by
 unfold swapV
 repeat' split
 all_goals omega

theorem swapV_zero {a b : Int} (ha : 1 <= a) (hb : 1 <= b) : swapV a b 0 = 0 := by
 unfold swapV
 rw [if_neg (by omega), if_neg (by omega)]

theorem swapV_iff {a b n : Int} : swapV a b n = b ↔ n = a := by
 unfold swapV
 repeat' split
 all_goals omega

theorem swapV_in {a b : Int} (ha : 1 <= a /\ a <= 9) (hb : 1 <= b /\ b <= 9) (n : Int) : inR (swapV a b n) 1 9 = inR n 1 9 := by
 have h : (1 <= swapV a b n /\ swapV a b n <= 9) ↔ (1 <= n /\ n <= 9) := by
  unfold swapV
  repeat' split
  all_goals omega
 rw [Bool.eq_iff_iff, inR_iff, inR_iff]
 exact h

theorem count_swap (a b : Int) : ∀ l : List Int, (l.map (swapV a b)).count b = l.count a
 | [] => rfl
 | n :: l => by
  rw [List.map_cons, List.count_cons, List.count_cons, count_swap a b l]
  by_cases e : n = a
  ·
   have : swapV a b n = b := swapV_iff.2 e
   rw [this]
   simp [e]
  ·
   have : ¬ swapV a b n = b := fun q => e (swapV_iff.1 q)
   simp [e, this]

theorem map_at20 {zs : List (List Int)} (f : Int -> Int) (hz : ok20 zs) {x y : Nat} (hx : x < 20) (hy : y < 24) : ((zs.map (List.map f)).getD y []).getD x 0 = f ((zs.getD y []).getD x 0) := by
 have h1 : y < zs.length := by rw [hz.1]; exact hy
 have h2 := hz.2 y hy
 have e1 : zs.getD y [] = zs[y] := by simp [List.getD_eq_getElem?_getD, h1]
 rw [e1] at h2
 have h3 : x < (zs[y]).length := by rw [h2]; exact hx
 simp [List.getD_eq_getElem?_getD, h1, h3]

theorem map_20 {zs : List (List Int)} (f : Int -> Int) (hz : ok20 zs) : ok20 (zs.map (List.map f)) := by
 refine ⟨by rw [List.length_map]; exact hz.1, fun y hy => ?_⟩
 have h1 : y < zs.length := by rw [hz.1]; exact hy
 have h2 := hz.2 y hy
 have e1 : zs.getD y [] = zs[y] := by simp [List.getD_eq_getElem?_getD, h1]
 rw [e1] at h2
 simp [List.getD_eq_getElem?_getD, h1, h2]

theorem okPic_out {zs : List (List Int)} (h : okPic zs = true) {x y : Nat} (hx : x < 20) (hy : y < 24) (hs : inSh (x : Nat) (y : Nat) = false) : (zs.getD y []).getD x 0 = 0 := by
 have := okPic_px h hx hy
 simp only [okPx, Bool.and_eq_true, hs, Bool.false_or, decide_eq_true_eq] at this
 exact this.2

theorem swap_map {zs : List (List Int)} {a b : Int} (h : okPic zs = true) (ha : 1 <= a) (hb : 1 <= b) : picZ (swapH zs a b) = zs.map (List.map (swapV a b)) :=
 ext20 (picZ_ok _) (map_20 _ (okPic_20 h)) (fun x y hx hy => by
  rw [picZ_at hx hy, map_at20 _ (okPic_20 h) hx hy, swapH]
  cases hs : inSh (x : Nat) (y : Nat)
  ·
   rw [okPic_out h hx hy hs, swapV_zero ha hb]
   simp
  · simp)

theorem okPic_mk {zs : List (List Int)} (hz : ok20 zs) (h : ∀ x y : Nat, x < 20 -> y < 24 -> okPx x y ((zs.getD y []).getD x 0) = true) : okPic zs = true := by
 simp only [okPic, okPicN, Bool.and_eq_true, decide_eq_true_eq, List.all_eq_true, List.mem_range, okRowP, rowPx]
 exact ⟨hz.1, fun y hy => ⟨hz.2 y hy, fun x hx => h x y hx hy⟩⟩

theorem swap_ok {zs : List (List Int)} {a b : Int} (h : okPic zs = true) (ha : 1 <= a /\ a <= 9) (hb : 1 <= b /\ b <= 9) : okPic (zs.map (List.map (swapV a b))) = true :=
 okPic_mk (map_20 _ (okPic_20 h)) (fun x y hx hy => by
  have h1 := okPic_px h hx hy
  rw [map_at20 _ (okPic_20 h) hx hy]
  simp only [okPx, Bool.and_eq_true] at h1 ⊢
  rw [swapV_in ha hb]
  refine ⟨h1.1, ?_⟩
  cases hs : inSh (x : Nat) (y : Nat)
  ·
   rw [okPic_out h hx hy hs, swapV_zero ha.1 hb.1]
   rfl
  · rfl)

theorem swap_back {zs : List (List Int)} (a b : Int) : (zs.map (List.map (swapV a b))).map (List.map (swapV a b)) = zs := by
 rw [List.map_map]
 have : (List.map (swapV a b)) ∘ (List.map (swapV a b)) = id := by
  funext l
  rw [Function.comp_apply, List.map_map]
  have : (swapV a b) ∘ (swapV a b) = id := by
   funext n
   exact swapV_twice a b n
  rw [this, List.map_id]
  rfl
 rw [this, List.map_id]

theorem swap_count {zs : List (List Int)} (a b : Int) : (zs.map (List.map (swapV a b))).flatten.count b = zs.flatten.count a := by
 rw [← List.map_flatten, count_swap]

end Go.Proofs.Ytjbifidphckjoaa
