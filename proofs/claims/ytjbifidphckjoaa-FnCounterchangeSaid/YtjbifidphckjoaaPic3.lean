/- Pictures of fields, counterchanged or not. -/
import Derived.Test.YtjbifidphckjoaaPic2
import Derived.WalkKit
import Derived.WalkSpells
import Derived.KernelRfl
namespace Go.Proofs.Ytjbifidphckjoaa
open Go.RowKit
set_option maxRecDepth 100000
set_option maxHeartbeats 4000000
set_option linter.unusedVariables false
set_option linter.unusedSimpArgs false

attribute [local go_sem] intL gridD lookO_lo killO_grid delO_grid putO_lo gridO_app dropGe dropGe_grid cleanO_grid gridC_len gridC_refs gridQ_refs lens_len rowsD_len setG_len dropO_grid killR_nil killR_cons killR_grid killN_lo newN_gridN hasN_cons hasN_grid Nat.le_refl refs_dmap newN_all killSs_gridN killOs_gridN killSs_gridN0 killOs_gridN0 loS_nil loS_cons loL_nil loL_cons lo_bp lo_bs lo_ag lo_tu lo_fc lo_d lo_un loO_nil loO_ds loO_av loO_dead loO_grid loL_gridC loL_dmap picZ_len allD_grid refsL_app'

attribute [local simp] ints_plain ints_all ints_all1 ints_plain_take refs_dmap gridC_refs

def rowP (h : Nat -> Nat -> Int) (y : Nat) : List Int := tab (fun x => if inSh (x : Nat) (y : Nat) then h x y else 0) 20

@[simp] theorem rowP_len (h : Nat -> Nat -> Int) (y : Nat) : (rowP h y).length = 20 := tab_len _ _

theorem picP_row {h : Nat -> Nat -> Int} {y : Nat} (hy : y < 24) : (picZ h).getD y [] = rowP h y := tab_at [] hy

theorem picP_next {h : Nat -> Nat -> Int} {y : Nat} (hy : y < 24) : (picZ h).take (y + 1) = (picZ h).take y ++ [rowP h y] := by
 rw [take_next [] (by rw [picZ_len]; exact hy), picP_row hy]

theorem rowP_next {h : Nat -> Nat -> Int} {x y : Nat} (hx : x < 20) : (rowP h y).take (x + 1) = (rowP h y).take x ++ [if inSh (x : Nat) (y : Nat) then h x y else 0] := by
 rw [take_next 0 (by rw [rowP_len]; exact hx), rowP, tab_at 0 hx]

theorem lens_rowsP {h : Nat -> Nat -> Int} {y : Nat} (hy : y <= 24) : (lens ((picZ h).take y)).length = y := by
 rw [lens_len, List.length_take, picZ_len]
 omega

def ctrZ (d : Int) (l : Nat) (f s : Int) (zs : List Int) (x y : Nat) : Int := if hasZ zs (x : Nat) (y : Nat) then f + s - tinctZ d l f s x y else tinctZ d l f s x y

theorem okField_in {d l f s : Int} (h : okField d l f s = true) : (0 <= d /\ d <= 7) /\ (0 <= l /\ l <= 4) /\ (1 <= f /\ f <= 9) /\ 0 <= s /\ s <= 9 := by
 simp only [okField, Bool.and_eq_true, inR_iff] at h
 obtain ⟨⟨⟨h1, h2⟩, h3⟩, h4⟩ := h
 refine ⟨h1, h2, h3, ?_⟩
 split at h4
 ·
  simp only [Bool.and_eq_true, beq_iff_eq] at h4
  omega
 ·
  simp only [Bool.and_eq_true, inR_iff] at h4
  omega

theorem tinctZ_in {d : Int} {l : Nat} {f s : Int} (h : okField d l f s = true) (x y : Nat) : 0 <= tinctZ d l f s x y /\ tinctZ d l f s x y <= 9 := by
 have := okField_in h
 unfold tinctZ
 split <;> omega

theorem l14Other_fn (d l f s t : Int) (hf : 0 <= f /\ f <= 9) (hs : 0 <= s /\ s <= 9) (ht : 0 <= t /\ t <= 9) : FnD Try.prog 55 [.ag [.int d, .int l, .int f, .int s], .int t] (.int (f + s - t)) := by
 refine fn_go Try.func55 rfl rfl Try.ntmps55 Try.results55 (by simp only [slo, Nat.reduceAdd]; rfl) (by simp) ?_
 repeat' (first | (with_reducible first | refine aw_seq fun K hK => ?_ | refine aw_region (by kernel_rfl) ?_) | ((with_reducible refine evg ?_); simp only [go_sem, ↓reduceIte, Nat.reduceEqDiff, Nat.reduceBEq, Nat.reduceAdd, Nat.reduceMul, Nat.reduceSub, Nat.reduceLT, Nat.reduceLeDiff]) | (simp (disch := omega) only [dsq, Int.reduceSub, Int.reduceAdd, Int.reduceToNat]) | ((with_reducible refine And.intro ?_ ?_); (focus first | omega | (simp; done) | (simp; omega) | ((repeat' (with_reducible refine And.intro ?_ ?_)) <;> first | omega | rfl | (simp only [go_sem, refsL_app, refs_dmap] <;> fail) | (simp [refsL_app, refs_dmap, AV.refsL, AV.refs] <;> omega)))) | ((with_reducible first | apply hK | (clear hK K; first | apply hK | (clear hK K; apply hK))); clear hK K) | fail)
 refine res_tmp rfl (by simp [D.plain, plains]) (by simp) ?_
 rfl

theorem l14Picture_fn (d : Int) (l : Nat) (f s : Int) (zs : List Int) (hok : okField d l f s = true) (hz : okReg zs = true) : FnD Try.prog 43 [.ag [.int d, .int l, .int f, .int s], .ag [intL zs]] (gridD (picZ (ctrZ d l f s zs))) := by
 have hin := okField_in hok
 have hl5 : l < 5 := by omega
 have hout : ∀ x y : Nat, x < 20 -> y < 24 -> (if inSh (x : Nat) (y : Nat) then ctrZ d l f s zs x y else 0) = if hasZ zs (x : Nat) (y : Nat) then f + s - (if inSh (x : Nat) (y : Nat) then tinctZ d l f s x y else 0) else (if inSh (x : Nat) (y : Nat) then tinctZ d l f s x y else 0) := fun x y hx hy => by
  cases g : inSh (x : Nat) (y : Nat)
  ·
   have : hasZ zs (x : Nat) (y : Nat) = false := by
    cases g2 : hasZ zs (x : Nat) (y : Nat)
    · rfl
    ·
     rw [hasZ_sh hz g2] at g
     cases g
   simp [this]
  · simp only [if_true, ctrZ]
 have htin : ∀ x y : Nat, 0 <= tinctZ d l f s x y /\ tinctZ d l f s x y <= 9 := fun x y => tinctZ_in hok x y
 have hft : ∀ x y : Nat, x < 20 -> y < 24 -> FnD Try.prog 62 [.ag [.int d, .int l, .int f, .int s], .int x, .int y] (.tu [.int (if inSh (x : Nat) (y : Nat) then tinctZ d l f s x y else 0), .bool (inSh (x : Nat) (y : Nat))]) := fun x y hx hy => fieldTincture_fn d l x y f s hl5 hok hx hy
 generalize ctrZ d l f s zs = hh at *
 generalize tinctZ d l f s = tz at *
 have hzl := okReg_len hz
 rw [gridD, picZ_len]
 refine fn_go Try.func43 rfl rfl Try.ntmps43 Try.results43 (by simp only [slo, Nat.reduceAdd]; rfl) (by simp) ?_
 repeat' (first | (with_reducible first | refine aw_seq fun K hK => ?_ | refine aw_region (by kernel_rfl) ?_ | refine aw_condk ?_ | refine aw_block ?_) | ((with_reducible refine evg ?_); simp only [go_sem, ↓reduceIte, Nat.reduceEqDiff, Nat.reduceBEq, Nat.reduceAdd, Nat.reduceMul, Nat.reduceSub, Nat.reduceLT, Nat.reduceLeDiff]) | (simp (disch := omega) only [dsq, Int.reduceSub, Int.reduceAdd, Int.reduceToNat]) | ((with_reducible refine ck_split (fun h => ?_) (fun h => ?_)) <;> (try simp only [nrm] at h) <;> (try ((with_reducible exfalso); omega))) | ((with_reducible refine And.intro ?_ ?_); (focus first | omega | (simp; done) | (simp; omega) | ((repeat' (with_reducible refine And.intro ?_ ?_)) <;> first | omega | rfl | (simp only [go_sem, refsL_app, refs_dmap] <;> fail) | (simp [refsL_app, refs_dmap, AV.refsL, AV.refs] <;> omega)))) | ((with_reducible first | apply hK | (clear hK K; first | apply hK | (clear hK K; apply hK))); clear hK K) | fail)
 refine aw_asAv 11 ?_
 refine aw_loopG [5, 6, 7, 8, 9, 10, 11, 12, 13, 14, 15, 16, 17, 18, 19, 20, 21, 22, 23, 24, 25, 26, 27, 28, 29, 30, 31, 32, 33, 34, 35, 36, 37, 38, 39, 40, 41, 42] [11, 16, 25, 31, 34, 37, 38, 41, 42] 1000000000 (fun y : Nat => [(6, .d (.int y)), (5, .bs 42 0 y 1)]) (fun y => (42, .av (gridC 1000000000 (lens ((picZ hh).take y)))) :: gridO 1000000000 ((picZ hh).take y) []) (fun y => y <= 24) (fun y => 24 - y) 0 (by omega) ?_ ?_
 ·
  (refine lessW_of [(11, 42)] ?_ ?_ <;> simp (disch := omega) only [okSw, decide_eq_true_eq, Bool.and_eq_true, Bool.or_eq_true, St.updG, St.asAv, avO, dropGe, dropGe_grid, subO_grid, gridO_nil, gridO_app, gridQ_put, take_zero, hasG_nil, hasG_snoc, hasG_cons, hasG_next, hasG_self, hasG_lo, hasG_hi, lookO_lo, lookO_hi, lookO_row, lookKN, swO_grid, swO_grid0, gridC_sw0, gridC_sw, lsq, lookO, List.elem, List.cons_append, List.nil_append, cond_true, cond_false, and_true, true_and, beq_self_eq_true, ↓reduceIte, Nat.reduceEqDiff, Nat.reduceBEq, Nat.reduceAdd, Nat.reduceMul, Nat.reduceSub, Nat.reduceLT, Nat.reduceLeDiff] <;> try simp)
  rfl
 ·
  rintro y y1
  simp only [St.updG, St.asAv, avO, dropS, dropOs, dropGe, dropGe_grid, dropGe_keep, gridO_nil, List.elem, List.cons_append, List.nil_append, gridO_app, cond_true, cond_false, beq_self_eq_true, ↓reduceIte, Nat.reduceEqDiff, Nat.reduceBEq, Nat.reduceAdd, Nat.reduceMul, Nat.reduceSub, Nat.reduceLT, Nat.reduceLeDiff]
  have hll := lens_rowsP (h := hh) y1
  have htl : ((picZ hh).take y).length = y := by rw [List.length_take, picZ_len]; omega
  have hgl : (gridC 1000000000 (lens ((picZ hh).take y))).length = y := by rw [gridC_len, hll]
  have htk : (gridC 1000000000 (lens ((picZ hh).take y))).take y = gridC 1000000000 (lens ((picZ hh).take y)) := List.take_of_length_le (by omega)
  by_cases hy : y < 24
  ·
   repeat' (first | (with_reducible first | refine aw_seq fun K hK => ?_ | refine aw_region (by kernel_rfl) ?_ | refine aw_condk ?_ | refine aw_block ?_) | ((with_reducible refine evg ?_); simp only [go_sem, ↓reduceIte, Nat.reduceEqDiff, Nat.reduceBEq, Nat.reduceAdd, Nat.reduceMul, Nat.reduceSub, Nat.reduceLT, Nat.reduceLeDiff]) | (simp (disch := omega) only [dsq, Int.reduceSub, Int.reduceAdd, Int.reduceToNat]) | ((with_reducible refine ck_split (fun h => ?_) (fun h => ?_)) <;> (try simp only [nrm] at h) <;> (try ((with_reducible exfalso); omega))) | ((with_reducible refine And.intro ?_ ?_); (focus first | omega | (simp; done) | (simp; omega) | ((repeat' (with_reducible refine And.intro ?_ ?_)) <;> first | omega | rfl | (simp only [go_sem, refsL_app, refs_dmap] <;> fail) | (simp [refsL_app, refs_dmap, AV.refsL, AV.refs] <;> omega)))) | ((with_reducible first | apply hK | (clear hK K; first | apply hK | (clear hK K; apply hK))); clear hK K) | fail)
   refine aw_loopG [7, 8, 9, 10, 16, 17, 18, 19, 20, 21, 22, 23, 24, 25, 26, 27, 28, 29, 30, 31, 32, 33, 34, 35, 36, 37, 38] [16, 25, 31, 34, 37, 38] 1000000000 (fun x : Nat => [(8, .d (.int x)), (7, .bs 38 0 x 1)]) (fun x => (38, .ds (((rowP hh y).take x).map D.int)) :: gridO 1000000000 ((picZ hh).take y) []) (fun x => x <= 20) (fun x => 20 - x) 0 (by omega) ?_ ?_
   · (refine lessW_of [(16, 38)] ?_ ?_ <;> simp (disch := omega) only [okSw, decide_eq_true_eq, Bool.and_eq_true, Bool.or_eq_true, St.updG, St.asAv, avO, dropGe, dropGe_grid, subO_grid, gridO_nil, gridO_app, gridQ_put, take_zero, hasG_nil, hasG_snoc, hasG_cons, hasG_next, hasG_self, hasG_lo, hasG_hi, lookO_lo, lookO_hi, lookO_row, lookKN, swO_grid, swO_grid0, gridC_sw0, gridC_sw, lsq, lookO, List.elem, List.cons_append, List.nil_append, cond_true, cond_false, and_true, true_and, beq_self_eq_true, ↓reduceIte, Nat.reduceEqDiff, Nat.reduceBEq, Nat.reduceAdd, Nat.reduceMul, Nat.reduceSub, Nat.reduceLT, Nat.reduceLeDiff] <;> try simp)
   ·
    rintro x x1
    simp only [St.updG, St.asAv, avO, dropS, dropOs, dropGe, dropGe_grid, dropGe_keep, gridO_nil, List.elem, List.cons_append, List.nil_append, gridO_app, cond_true, cond_false, beq_self_eq_true, ↓reduceIte, Nat.reduceEqDiff, Nat.reduceBEq, Nat.reduceAdd, Nat.reduceMul, Nat.reduceSub, Nat.reduceLT, Nat.reduceLeDiff]
    have hlr : (((rowP hh y).take x).map D.int).length = x := by rw [List.length_map, List.length_take, rowP_len]; omega
    have htr : (((rowP hh y).take x).map D.int).take x = ((rowP hh y).take x).map D.int := List.take_of_length_le (by omega)
    by_cases hx : x < 20
    ·
     have hv := hout x y hx hy
     have hnx := rowP_next (h := hh) (y := y) hx
     rw [hv] at hnx
     have e1 := hft x y hx hy
     have e2 := l9Has_fn zs x y hzl (fun h => okReg_y hz h)
     have ht := htin x y
     have ht2 : 0 <= (if inSh (x : Nat) (y : Nat) then tz x y else 0) /\ (if inSh (x : Nat) (y : Nat) then tz x y else 0) <= 9 := by split <;> omega
     generalize (if inSh (x : Nat) (y : Nat) then tz x y else 0) = t at *
     have e3 := l14Other_fn d l f s t (by omega) (by omega) ht2
     cases g : hasZ zs (x : Nat) (y : Nat)
     ·
      rw [g] at e2 hnx
      simp only [Bool.false_eq_true, if_false] at hnx
      repeat' (first | (with_reducible first | refine aw_seq fun K hK => ?_ | refine aw_region (by kernel_rfl) ?_ | refine aw_condk ?_ | refine aw_block ?_) | ((with_reducible refine evg ?_); simp only [go_sem, ↓reduceIte, Nat.reduceEqDiff, Nat.reduceBEq, Nat.reduceAdd, Nat.reduceMul, Nat.reduceSub, Nat.reduceLT, Nat.reduceLeDiff]) | (simp (disch := omega) only [dsq, Int.reduceSub, Int.reduceAdd, Int.reduceToNat, wr, hlr, htr]) | ((with_reducible refine ev_call ?_); (first | (refine call_fn e1 rfl ?_) | (refine call_fn e2 rfl ?_) | (refine call_fn e3 rfl ?_)); refine k_run ?_) | ((with_reducible refine ck_split (fun h => ?_) (fun h => ?_)) <;> (try simp only [nrm] at h) <;> (try ((with_reducible exfalso); omega))) | ((with_reducible refine And.intro ?_ ?_); (focus first | omega | (simp; done) | (simp; omega) | ((repeat' (with_reducible refine And.intro ?_ ?_)) <;> first | omega | rfl | (simp only [go_sem, refsL_app, refs_dmap] <;> fail) | (simp [refsL_app, refs_dmap, AV.refsL, AV.refs] <;> omega)))) | ((with_reducible first | apply hK | (clear hK K; first | apply hK | (clear hK K; apply hK))); clear hK K) | fail)
      refine ⟨x + 1, by omega, by omega, ?_⟩
      rw [hnx]
      (refine lessW_of [] ?_ ?_ <;> simp (disch := omega) only [okSw, decide_eq_true_eq, Bool.and_eq_true, Bool.or_eq_true, St.updG, St.asAv, avO, dropGe, dropGe_grid, subO_grid, gridO_nil, gridO_app, gridQ_put, take_zero, hasG_nil, hasG_snoc, hasG_cons, hasG_next, hasG_self, hasG_lo, hasG_hi, lookO_lo, lookO_hi, lookO_row, lookKN, swO_grid, swO_grid0, gridC_sw0, gridC_sw, lsq, lookO, List.elem, List.cons_append, List.nil_append, cond_true, cond_false, and_true, true_and, beq_self_eq_true, ↓reduceIte, Nat.reduceEqDiff, Nat.reduceBEq, Nat.reduceAdd, Nat.reduceMul, Nat.reduceSub, Nat.reduceLT, Nat.reduceLeDiff] <;> try simp)
     ·
      rw [g] at e2 hnx
      simp only [if_true] at hnx
      repeat' (first | (with_reducible first | refine aw_seq fun K hK => ?_ | refine aw_region (by kernel_rfl) ?_ | refine aw_condk ?_ | refine aw_block ?_) | ((with_reducible refine evg ?_); simp only [go_sem, ↓reduceIte, Nat.reduceEqDiff, Nat.reduceBEq, Nat.reduceAdd, Nat.reduceMul, Nat.reduceSub, Nat.reduceLT, Nat.reduceLeDiff]) | (simp (disch := omega) only [dsq, Int.reduceSub, Int.reduceAdd, Int.reduceToNat, wr, hlr, htr]) | ((with_reducible refine ev_call ?_); (first | (refine call_fn e1 rfl ?_) | (refine call_fn e2 rfl ?_) | (refine call_fn e3 rfl ?_)); refine k_run ?_) | ((with_reducible refine ck_split (fun h => ?_) (fun h => ?_)) <;> (try simp only [nrm] at h) <;> (try ((with_reducible exfalso); omega))) | ((with_reducible refine And.intro ?_ ?_); (focus first | omega | (simp; done) | (simp; omega) | ((repeat' (with_reducible refine And.intro ?_ ?_)) <;> first | omega | rfl | (simp only [go_sem, refsL_app, refs_dmap] <;> fail) | (simp [refsL_app, refs_dmap, AV.refsL, AV.refs] <;> omega)))) | ((with_reducible first | apply hK | (clear hK K; first | apply hK | (clear hK K; apply hK))); clear hK K) | fail)
      refine ⟨x + 1, by omega, by omega, ?_⟩
      rw [hnx]
      (refine lessW_of [] ?_ ?_ <;> simp (disch := omega) only [okSw, decide_eq_true_eq, Bool.and_eq_true, Bool.or_eq_true, St.updG, St.asAv, avO, dropGe, dropGe_grid, subO_grid, gridO_nil, gridO_app, gridQ_put, take_zero, hasG_nil, hasG_snoc, hasG_cons, hasG_next, hasG_self, hasG_lo, hasG_hi, lookO_lo, lookO_hi, lookO_row, lookKN, swO_grid, swO_grid0, gridC_sw0, gridC_sw, lsq, lookO, List.elem, List.cons_append, List.nil_append, cond_true, cond_false, and_true, true_and, beq_self_eq_true, ↓reduceIte, Nat.reduceEqDiff, Nat.reduceBEq, Nat.reduceAdd, Nat.reduceMul, Nat.reduceSub, Nat.reduceLT, Nat.reduceLeDiff] <;> try simp)
    ·
     repeat' (first | (with_reducible first | refine aw_seq fun K hK => ?_ | refine aw_region (by kernel_rfl) ?_ | refine aw_condk ?_ | refine aw_block ?_) | ((with_reducible refine evg ?_); simp only [go_sem, ↓reduceIte, Nat.reduceEqDiff, Nat.reduceBEq, Nat.reduceAdd, Nat.reduceMul, Nat.reduceSub, Nat.reduceLT, Nat.reduceLeDiff]) | (simp (disch := omega) only [dsq, Int.reduceSub, Int.reduceAdd, Int.reduceToNat, wr, htk, allD_grid, gridC_refs]) | ((with_reducible refine ck_split (fun h => ?_) (fun h => ?_)) <;> (try simp only [nrm] at h) <;> (try ((with_reducible exfalso); omega))) | ((with_reducible refine And.intro ?_ ?_); (focus first | omega | (simp; done) | (simp; omega) | ((repeat' (with_reducible refine And.intro ?_ ?_)) <;> first | omega | rfl | (simp only [go_sem, refsL_app, refs_dmap] <;> fail) | (simp [refsL_app, refs_dmap, AV.refsL, AV.refs] <;> omega)))) | ((with_reducible first | apply hK | (clear hK K; first | apply hK | (clear hK K; apply hK))); clear hK K) | fail)
     have e : x = 20 := by omega
     subst e
     refine ⟨y + 1, by omega, by omega, ?_⟩
     (refine lessW_of [(38, y + 1000000000)] ?_ ?_ <;> simp (disch := omega) only [okSw, decide_eq_true_eq, Bool.and_eq_true, Bool.or_eq_true, St.updG, St.asAv, avO, dropGe, dropGe_grid, subO_grid, gridO_nil, gridO_app, gridQ_put, take_zero, hasG_nil, hasG_snoc, hasG_cons, hasG_next, hasG_self, hasG_lo, hasG_hi, lookO_lo, lookO_hi, lookO_row, lookKN, swO_grid, swO_grid0, gridC_sw0, gridC_sw, lsq, lookO, List.elem, List.cons_append, List.nil_append, cond_true, cond_false, and_true, true_and, beq_self_eq_true, ↓reduceIte, Nat.reduceEqDiff, Nat.reduceBEq, Nat.reduceAdd, Nat.reduceMul, Nat.reduceSub, Nat.reduceLT, Nat.reduceLeDiff] <;> try simp)
     have e20 : ((rowP hh y).map D.int).take 20 = (rowP hh y).map D.int := List.take_of_length_le (by simp)
     rw [e20, picP_next hy, show lens ((picZ hh).take y ++ [rowP hh y]) = lens ((picZ hh).take y) ++ [20] by simp [lens]]
     exact ⟨gridC_step hll (by decide), hasG_step1 htl⟩
  ·
   repeat' (first | (with_reducible first | refine aw_seq fun K hK => ?_ | refine aw_region (by kernel_rfl) ?_ | refine aw_condk ?_ | refine aw_block ?_) | ((with_reducible refine evg ?_); simp only [go_sem, ↓reduceIte, Nat.reduceEqDiff, Nat.reduceBEq, Nat.reduceAdd, Nat.reduceMul, Nat.reduceSub, Nat.reduceLT, Nat.reduceLeDiff]) | (simp (disch := omega) only [dsq, Int.reduceSub, Int.reduceAdd, Int.reduceToNat]) | ((with_reducible refine ck_split (fun h => ?_) (fun h => ?_)) <;> (try simp only [nrm] at h) <;> (try ((with_reducible exfalso); omega))) | ((with_reducible refine And.intro ?_ ?_); (focus first | omega | (simp; done) | (simp; omega) | ((repeat' (with_reducible refine And.intro ?_ ?_)) <;> first | omega | rfl | (simp only [go_sem, refsL_app, refs_dmap] <;> fail) | (simp [refsL_app, refs_dmap, AV.refsL, AV.refs] <;> omega)))) | ((with_reducible first | apply hK | (clear hK K; first | apply hK | (clear hK K; apply hK))); clear hK K) | fail)
   have e : y = 24 := by omega
   subst e
   rw [List.take_of_length_le (by rw [picZ_len]; exact Nat.le_refl _)]
   exact res_grid rfl rfl (by rw [hasG_cons (by decide)]; exact of_eq_true hasG_self) (by rw [picZ_len]) (by decide) rfl

end Go.Proofs.Ytjbifidphckjoaa
