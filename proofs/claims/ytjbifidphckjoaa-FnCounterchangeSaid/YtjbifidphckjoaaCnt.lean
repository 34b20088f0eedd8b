/- How often numbers occur in a grid. -/
import Derived.Test.YtjbifidphckjoaaPic6
import Derived.WalkKit
import Derived.WalkSpells
import Derived.KernelRfl
namespace Go.Proofs.Ytjbifidphckjoaa
open Go.RowKit
set_option maxRecDepth 100000
set_option maxHeartbeats 4000000
set_option linter.unusedVariables false
set_option linter.unusedSimpArgs false

attribute [local go_sem] intL gridD

attribute [local simp] ints_plain ints_all ints_all1 ints_plain_take

def cntT (l : List Int) (m : Nat) : List Int := tab (fun i : Nat => ((l.count ((i : Int) + 1) : Nat) : Int)) m

@[simp] theorem cntT_len (l : List Int) (m : Nat) : (cntT l m).length = m := tab_len _ _

theorem cntT_clen (l : List Int) (m : Nat) : ((cntT l m).map D.int).length = m := by rw [List.length_map, cntT_len]

theorem cntT_at {l : List Int} {m : Nat} {n : Int} (h0 : 0 < n) (h1 : n <= m) : (cntT l m).getD (n - 1).toNat 0 = ((l.count n : Nat) : Int) := by
 rw [cntT, tab_at 0 (by omega)]
 congr 2
 omega

theorem cntT_nil (m : Nat) : cntT [] m = List.replicate m 0 := by
 apply List.ext_getElem (by simp)
 intro i h1 h2
 simp [cntT, tab]

theorem cntT_no {l : List Int} {m : Nat} {n : Int} (h : n <= 0) : cntT (l ++ [n]) m = cntT l m := by
 apply List.ext_getElem (by simp)
 intro i h1 h2
 simp only [cntT, tab, List.getElem_map, List.getElem_range, List.count_append, List.count_singleton]
 have : (n == (i : Int) + 1) = false := by
  rw [beq_eq_false_iff_ne]
  omega
 simp [this]

theorem cntT_yes {l : List Int} {m : Nat} {n : Int} (h0 : 0 < n) (h1 : n <= m) : (cntT l m).set (n - 1).toNat (((l.count n : Nat) : Int) + 1) = cntT (l ++ [n]) m := by
 apply List.ext_getElem (by simp)
 intro i h2 h3
 rw [List.getElem_set]
 simp only [cntT, tab, List.getElem_map, List.getElem_range, List.count_append, List.count_singleton]
 by_cases e : (n - 1).toNat = i
 ·
  have : n = (i : Int) + 1 := by omega
  rw [if_pos e, ← this]
  simp
 ·
  have : (n == (i : Int) + 1) = false := by
   rw [beq_eq_false_iff_ne]
   omega
  rw [if_neg e]
  simp [this]

def befN (zs : List (List Int)) (y x : Nat) : List Int := (zs.take y).flatten ++ (zs.getD y []).take x

theorem flat_len {zs : List (List Int)} (hz : ok20 zs) : ∀ y, y <= 24 -> ((zs.take y).flatten).length = 20 * y
 | 0, _ => by simp
 | y + 1, h => by
  rw [take_next [] (by rw [hz.1]; omega), List.flatten_append, List.length_append, flat_len hz y (by omega)]
  simp only [List.flatten_cons, List.flatten_nil, List.append_nil]
  rw [hz.2 y (by omega)]
  omega

theorem bef_zero {zs : List (List Int)} {y : Nat} : befN zs y 0 = (zs.take y).flatten := by simp [befN]

theorem bef_next {zs : List (List Int)} (hz : ok20 zs) {y x : Nat} (hy : y < 24) (hx : x < 20) : befN zs y (x + 1) = befN zs y x ++ [(zs.getD y []).getD x 0] := by
 rw [befN, take_next 0 (by rw [hz.2 y hy]; exact hx), ← List.append_assoc, befN]

theorem bef_end {zs : List (List Int)} (hz : ok20 zs) {y : Nat} (hy : y < 24) : befN zs y 20 = (zs.take (y + 1)).flatten := by
 have e : (zs.getD y []).take 20 = zs.getD y [] := List.take_of_length_le (by rw [hz.2 y hy]; exact Nat.le_refl _)
 rw [befN, e, take_next [] (by rw [hz.1]; exact hy), List.flatten_append]
 simp only [List.flatten_cons, List.flatten_nil, List.append_nil]

theorem bef_all {zs : List (List Int)} (hz : ok20 zs) {y : Nat} (hy : y = 24) : (zs.take y).flatten = zs.flatten := by
 rw [List.take_of_length_le (by rw [hz.1]; omega)]

theorem bef_len {zs : List (List Int)} (hz : ok20 zs) {y x : Nat} (hy : y < 24) (hx : x <= 20) : (befN zs y x).length <= 480 := by
 rw [befN, List.length_append, flat_len hz y (by omega), List.length_take]
 omega

theorem cnt_len {l : List Int} {n : Int} (h : l.length <= 480) : l.count n <= 480 := Nat.le_trans List.count_le_length h

theorem cntT_all (l : List Int) (m : Nat) : ((cntT l m).map D.int).take m = (cntT l m).map D.int := List.take_of_length_le (by simp)

theorem counted_fn (zs : List (List Int)) (m : Nat) (hz : ok20 zs) (hm : m <= 100) (hc : ∀ x y, x < 20 -> y < 24 -> (zs.getD y []).getD x 0 <= m) (hc0 : ∀ x y, x < 20 -> y < 24 -> -100 <= (zs.getD y []).getD x 0) : FnD Try.prog 48 [.ls 1 24 (rowsD zs), .int m] (intL (cntT zs.flatten m)) := by
 have hz1 := hz.1
 refine fn_go Try.func48 rfl rfl Try.ntmps48 Try.results48 (by simp only [slo, Nat.reduceAdd]; rfl) (by simp) ?_
 repeat' (first | (with_reducible first | refine aw_seq fun K hK => ?_ | refine aw_region (by kernel_rfl) ?_ | refine aw_condk ?_ | refine aw_block ?_) | ((with_reducible refine evg ?_); simp only [go_sem, ↓reduceIte, Nat.reduceEqDiff, Nat.reduceBEq, Nat.reduceAdd, Nat.reduceMul, Nat.reduceSub, Nat.reduceLT, Nat.reduceLeDiff]) | (simp (disch := omega) only [dsq, Int.reduceSub, Int.reduceAdd, Int.reduceToNat]) | ((with_reducible refine ck_split (fun h => ?_) (fun h => ?_)) <;> (try simp only [nrm] at h) <;> (try ((with_reducible exfalso); omega))) | ((with_reducible refine And.intro ?_ ?_); (focus first | omega | (simp; done) | (simp; omega) | ((repeat' (with_reducible refine And.intro ?_ ?_)) <;> first | omega | rfl | (simp only [go_sem, refsL_app, refs_dmap] <;> fail) | (simp [refsL_app, refs_dmap, AV.refsL, AV.refs] <;> omega)))) | ((with_reducible first | apply hK | (clear hK K; first | apply hK | (clear hK K; apply hK))); clear hK K) | fail)
 refine aw_loopU [7, 9, 14, 15, 16, 17, 18, 19, 20, 21, 22, 23, 24, 25, 26, 27, 28, 29, 30, 31, 32, 33, 34] [11, 19] (fun y : Nat => [(14, .d (.int y))]) (fun y => [(11, .ds ((cntT ((zs.take y).flatten) m).map D.int))]) (fun y => y <= 24) (fun y => 24 - y) 0 (by omega) ?_ ?_
 ·
  (refine lessW_of [] rfl ?_ <;> simp only [lsq, lookO, List.elem, List.cons_append, List.nil_append, cond_true, cond_false, and_true, true_and, beq_self_eq_true, ↓reduceIte, Nat.reduceEqDiff, Nat.reduceBEq, Nat.reduceAdd, Nat.reduceMul, Nat.reduceSub, Nat.reduceLT, Nat.reduceLeDiff] <;> try simp)
  simp [cntT_nil]
 ·
  rintro y y1
  simp only [St.upd, dropS, dropOs, List.elem, List.cons_append, List.nil_append, cond_true, cond_false, beq_self_eq_true, ↓reduceIte, Nat.reduceEqDiff, Nat.reduceBEq, Nat.reduceAdd, Nat.reduceMul, Nat.reduceSub, Nat.reduceLT, Nat.reduceLeDiff]
  by_cases hy : y < 24
  ·
   have hrl := hz.2 y hy
   have hrl2 : (zs[y]?.getD []).length = 20 := by rw [← List.getD_eq_getElem?_getD]; exact hrl
   repeat' (first | (with_reducible first | refine aw_seq fun K hK => ?_ | refine aw_region (by kernel_rfl) ?_ | refine aw_condk ?_ | refine aw_block ?_) | ((with_reducible refine evg ?_); simp only [go_sem, ↓reduceIte, Nat.reduceEqDiff, Nat.reduceBEq, Nat.reduceAdd, Nat.reduceMul, Nat.reduceSub, Nat.reduceLT, Nat.reduceLeDiff]) | (simp (disch := omega) only [dsq, Int.reduceSub, Int.reduceAdd, Int.reduceToNat, wr, rowsD_at, hrl]) | ((with_reducible refine ck_split (fun h => ?_) (fun h => ?_)) <;> (try simp only [nrm] at h) <;> (try ((with_reducible exfalso); omega))) | ((with_reducible refine And.intro ?_ ?_); (focus first | omega | (simp; done) | (simp; omega) | ((repeat' (with_reducible refine And.intro ?_ ?_)) <;> first | omega | rfl | (simp only [go_sem, refsL_app, refs_dmap] <;> fail) | (simp [refsL_app, refs_dmap, AV.refsL, AV.refs] <;> omega)))) | ((with_reducible first | apply hK | (clear hK K; first | apply hK | (clear hK K; apply hK))); clear hK K) | fail)
   refine aw_loopU [9, 20, 21, 22, 23, 24, 25, 26, 27, 28, 29, 30, 31, 32, 33] [11] (fun x : Nat => [(20, .d (.int x))]) (fun x => [(11, .ds ((cntT (befN zs y x) m).map D.int))]) (fun x => x <= 20) (fun x => 20 - x) 0 (by omega) ?_ ?_
   ·
    (refine lessW_of [] rfl ?_ <;> simp only [lsq, lookO, List.elem, List.cons_append, List.nil_append, cond_true, cond_false, and_true, true_and, beq_self_eq_true, ↓reduceIte, Nat.reduceEqDiff, Nat.reduceBEq, Nat.reduceAdd, Nat.reduceMul, Nat.reduceSub, Nat.reduceLT, Nat.reduceLeDiff] <;> try simp)
    rw [bef_zero]
   ·
    rintro x x1
    simp only [St.upd, dropS, dropOs, List.elem, List.cons_append, List.nil_append, cond_true, cond_false, beq_self_eq_true, ↓reduceIte, Nat.reduceEqDiff, Nat.reduceBEq, Nat.reduceAdd, Nat.reduceMul, Nat.reduceSub, Nat.reduceLT, Nat.reduceLeDiff]
    by_cases hx : x < 20
    ·
     have hn := bef_next hz hy hx
     have hb := cnt_len (n := (zs.getD y []).getD x 0) (bef_len hz hy x1)
     have h2 := hc x y hx hy
     have h3 := hc0 x y hx hy
     have hnn : ((zs.getD y []).map D.int).getD x (.v undef) = D.int ((zs.getD y []).getD x 0) := int_at (by omega)
     generalize (zs.getD y []).getD x 0 = n at *
     generalize befN zs y x = l at *
     by_cases h0 : 0 < n
     ·
      have hcl := cntT_clen l m
      have hca := cntT_at (l := l) h0 h2
      have hst := cntT_yes (l := l) h0 h2
      have hcd : ∀ d, ((cntT l m).map D.int).getD (n - 1).toNat d = D.int ((l.count n : Nat) : Int) := fun d => by
       rw [int_at (by rw [cntT_len]; omega), hca]
      have hsd : ((cntT l m).map D.int).set (n - 1).toNat (D.int (((l.count n : Nat) : Int) + 1)) = (cntT (l ++ [n]) m).map D.int := by
       rw [map_set, hst]
      repeat' (first | (with_reducible first | refine aw_seq fun K hK => ?_ | refine aw_region (by kernel_rfl) ?_ | refine aw_condk ?_ | refine aw_block ?_) | ((with_reducible refine evg ?_); simp only [go_sem, ↓reduceIte, Nat.reduceEqDiff, Nat.reduceBEq, Nat.reduceAdd, Nat.reduceMul, Nat.reduceSub, Nat.reduceLT, Nat.reduceLeDiff]) | (simp (disch := omega) only [dsq, Int.reduceSub, Int.reduceAdd, Int.reduceToNat, wr, rowsD_at, hrl, hnn, hcl, hcd, hsd]) | ((with_reducible refine ck_split (fun h => ?_) (fun h => ?_)) <;> (try simp only [nrm] at h) <;> (try ((with_reducible exfalso); omega))) | ((with_reducible refine And.intro ?_ ?_); (focus first | omega | (simp; done) | (simp; omega) | ((repeat' (with_reducible refine And.intro ?_ ?_)) <;> first | omega | rfl | (simp only [go_sem, refsL_app, refs_dmap] <;> fail) | (simp [refsL_app, refs_dmap, AV.refsL, AV.refs] <;> omega)))) | ((with_reducible first | apply hK | (clear hK K; first | apply hK | (clear hK K; apply hK))); clear hK K) | fail)
      refine ⟨x + 1, by omega, by omega, ?_⟩
      rw [hn]
      (refine lessW_of [] rfl ?_ <;> simp only [lsq, lookO, List.elem, List.cons_append, List.nil_append, cond_true, cond_false, and_true, true_and, beq_self_eq_true, ↓reduceIte, Nat.reduceEqDiff, Nat.reduceBEq, Nat.reduceAdd, Nat.reduceMul, Nat.reduceSub, Nat.reduceLT, Nat.reduceLeDiff] <;> try simp)
     ·
      repeat' (first | (with_reducible first | refine aw_seq fun K hK => ?_ | refine aw_region (by kernel_rfl) ?_ | refine aw_condk ?_ | refine aw_block ?_) | ((with_reducible refine evg ?_); simp only [go_sem, ↓reduceIte, Nat.reduceEqDiff, Nat.reduceBEq, Nat.reduceAdd, Nat.reduceMul, Nat.reduceSub, Nat.reduceLT, Nat.reduceLeDiff]) | (simp (disch := omega) only [dsq, Int.reduceSub, Int.reduceAdd, Int.reduceToNat, wr, rowsD_at, hrl, hnn]) | ((with_reducible refine ck_split (fun h => ?_) (fun h => ?_)) <;> (try simp only [nrm] at h) <;> (try ((with_reducible exfalso); omega))) | ((with_reducible refine And.intro ?_ ?_); (focus first | omega | (simp; done) | (simp; omega) | ((repeat' (with_reducible refine And.intro ?_ ?_)) <;> first | omega | rfl | (simp only [go_sem, refsL_app, refs_dmap] <;> fail) | (simp [refsL_app, refs_dmap, AV.refsL, AV.refs] <;> omega)))) | ((with_reducible first | apply hK | (clear hK K; first | apply hK | (clear hK K; apply hK))); clear hK K) | fail)
      refine ⟨x + 1, by omega, by omega, ?_⟩
      rw [hn, cntT_no (by omega)]
      (refine lessW_of [] rfl ?_ <;> simp only [lsq, lookO, List.elem, List.cons_append, List.nil_append, cond_true, cond_false, and_true, true_and, beq_self_eq_true, ↓reduceIte, Nat.reduceEqDiff, Nat.reduceBEq, Nat.reduceAdd, Nat.reduceMul, Nat.reduceSub, Nat.reduceLT, Nat.reduceLeDiff] <;> try simp)
    ·
     repeat' (first | (with_reducible first | refine aw_seq fun K hK => ?_ | refine aw_region (by kernel_rfl) ?_ | refine aw_condk ?_ | refine aw_block ?_) | ((with_reducible refine evg ?_); simp only [go_sem, ↓reduceIte, Nat.reduceEqDiff, Nat.reduceBEq, Nat.reduceAdd, Nat.reduceMul, Nat.reduceSub, Nat.reduceLT, Nat.reduceLeDiff]) | (simp (disch := omega) only [dsq, Int.reduceSub, Int.reduceAdd, Int.reduceToNat]) | ((with_reducible refine ck_split (fun h => ?_) (fun h => ?_)) <;> (try simp only [nrm] at h) <;> (try ((with_reducible exfalso); omega))) | ((with_reducible refine And.intro ?_ ?_); (focus first | omega | (simp; done) | (simp; omega) | ((repeat' (with_reducible refine And.intro ?_ ?_)) <;> first | omega | rfl | (simp only [go_sem, refsL_app, refs_dmap] <;> fail) | (simp [refsL_app, refs_dmap, AV.refsL, AV.refs] <;> omega)))) | ((with_reducible first | apply hK | (clear hK K; first | apply hK | (clear hK K; apply hK))); clear hK K) | fail)
     have e : x = 20 := by omega
     subst e
     refine ⟨y + 1, by omega, by omega, ?_⟩
     rw [bef_end hz hy]
     (refine lessW_of [] rfl ?_ <;> simp only [lsq, lookO, List.elem, List.cons_append, List.nil_append, cond_true, cond_false, and_true, true_and, beq_self_eq_true, ↓reduceIte, Nat.reduceEqDiff, Nat.reduceBEq, Nat.reduceAdd, Nat.reduceMul, Nat.reduceSub, Nat.reduceLT, Nat.reduceLeDiff] <;> try simp)
  ·
   repeat' (first | (with_reducible first | refine aw_seq fun K hK => ?_ | refine aw_region (by kernel_rfl) ?_ | refine aw_condk ?_ | refine aw_block ?_) | ((with_reducible refine evg ?_); simp only [go_sem, ↓reduceIte, Nat.reduceEqDiff, Nat.reduceBEq, Nat.reduceAdd, Nat.reduceMul, Nat.reduceSub, Nat.reduceLT, Nat.reduceLeDiff]) | (simp (disch := omega) only [dsq, Int.reduceSub, Int.reduceAdd, Int.reduceToNat]) | ((with_reducible refine ck_split (fun h => ?_) (fun h => ?_)) <;> (try simp only [nrm] at h) <;> (try ((with_reducible exfalso); omega))) | ((with_reducible refine And.intro ?_ ?_); (focus first | omega | (simp; done) | (simp; omega) | ((repeat' (with_reducible refine And.intro ?_ ?_)) <;> first | omega | rfl | (simp only [go_sem, refsL_app, refs_dmap] <;> fail) | (simp [refsL_app, refs_dmap, AV.refsL, AV.refs] <;> omega)))) | ((with_reducible first | apply hK | (clear hK K; first | apply hK | (clear hK K; apply hK))); clear hK K) | fail)
   have e := bef_all hz (y := y) (by omega)
   rw [e]
   refine res_tmp rfl (by simp [D.plain, plains]) (by simp) ?_
   simp [intL, cntT_all]

theorem picZ_cells {h : Nat -> Nat -> Int} {m : Int} (hm : 0 <= m) (hh : ∀ x y, x < 20 -> y < 24 -> 0 <= h x y /\ h x y <= m) : ∀ x y, x < 20 -> y < 24 -> 0 <= ((picZ h).getD y []).getD x 0 /\ ((picZ h).getD y []).getD x 0 <= m := fun x y hx hy => by
 rw [picZ_at hx hy]
 have := hh x y hx hy
 split <;> omega

def cellsR (d l f s : Int) (zs : List Int) : D := if okDiv d l f s && okReg zs then .tu [.int (((picZ (ctrZ d l.toNat f s zs)).flatten.count f : Nat) : Int), .int (((picZ (ctrZ d l.toNat f s zs)).flatten.count s : Nat) : Int), .bool true] else .tu [.int 0, .int 0, .bool false]

theorem okDiv_in {d l f s : Int} (h : okDiv d l f s = true) : (1 <= f /\ f <= 9) /\ (1 <= s /\ s <= 9) /\ s ≠ f := by
 simp only [okDiv, okField, Bool.and_eq_true, inR_iff, decide_eq_true_eq] at h
 obtain ⟨⟨⟨⟨h1, h2⟩, h3⟩, h4⟩, h5⟩ := h
 rw [if_neg h5] at h4
 simp only [Bool.and_eq_true, inR_iff, bne_iff_ne] at h4
 exact ⟨h3, h4.1, h4.2⟩

theorem ctrZ_in {d : Int} {l : Nat} {f s : Int} (h : okDiv d l f s = true) (zs : List Int) (x y : Nat) : ctrZ d l f s zs x y = f ∨ ctrZ d l f s zs x y = s := by
 unfold ctrZ tinctZ
 split <;> split <;> first | (left; omega) | (right; omega)

set_option maxRecDepth 100000 in
theorem pl_Cnt_11_5 (l : List Oper) (h : l = opsOf Try.f11 5) : planB l (.pure 0 (.pure 1 (.pure 2 (.pure 3 (.pure 4 (.pure 5 (.pure 6 (.pure 7 (.pure 8 (.pure 9 (.pure 10 (.pure 11 (.pure 12 (.pure 13 (.pure 14 PT.fin))))))))))))))) [] = true := by
 subst h
 kernel_rfl

theorem implCells_fn (d l f s : Int) (zs : List Int) (hl : zs.length <= 9223372036854775807) (hi : inI zs) : FnD Try.prog 11 [.ag [.int d, .int l, .int f, .int s], .ag [intL zs]] (cellsR d l f s zs) := by
 have e1 := implCtr_fn d l f s zs hl hi
 cases g : (okDiv d l f s && okReg zs)
 ·
  rw [ctrR, g] at e1
  rw [cellsR, g]
  refine fn_go Try.func11 rfl rfl Try.ntmps11 Try.results11 (by simp only [slo, Nat.reduceAdd]; rfl) (by simp) ?_
  repeat' (first | (with_reducible first | refine aw_seq fun K hK => ?_ | refine aw_region (by kernel_rfl) ?_ | refine aw_condk ?_) | ((with_reducible refine ev_aw ?_); first | (refine aw_draw (id := 5) (by kernel_rfl) _ _ (by kernel_rfl) (pl_Cnt_11_5 _ (by kernel_rfl)) ?_)) | (with_reducible first | refine ru_four ?_ ?_ ?_ ?_ | refine ru_three ?_ ?_ ?_ | refine ru_two ?_ ?_ | refine rv_split ?_ ?_ | refine rv_two ?_ ?_ | refine rp_two ?_ ?_) | ((with_reducible refine evg ?_); simp only [go_sem, St.clean, cleanO, ↓reduceIte, Nat.reduceEqDiff, Nat.reduceBEq, Nat.reduceAdd, Nat.reduceMul, Nat.reduceSub, Nat.reduceLT, Nat.reduceLeDiff]) | (simp (disch := omega) only [dsq, Int.reduceSub, Int.reduceAdd, Int.reduceToNat]) | ((with_reducible refine ev_call ?_); (first | (refine call_fn e1 rfl ?_)); refine k_run ?_) | ((with_reducible refine ck_split (fun h => ?_) (fun h => ?_)) <;> (try simp only [nrm] at h) <;> (try ((with_reducible exfalso); omega))) | ((with_reducible refine And.intro ?_ ?_); (focus first | omega | (simp; done) | (simp; omega) | ((repeat' (with_reducible refine And.intro ?_ ?_)) <;> first | omega | rfl | (simp only [go_sem, refsL_app, refs_dmap] <;> fail) | (simp [refsL_app, refs_dmap, AV.refsL, AV.refs] <;> omega)))) | (with_reducible refine hJ _ (fun K hK => ?_) ?_ <;> clear hJ KJ) | ((with_reducible refine ev_less ?_); (refine ⟨rfl, ?_, ?_⟩ <;> simp only [go_sem, St.clean, cleanO, SubS, SubO, beq_self_eq_true, ↓reduceIte, Nat.reduceEqDiff, Nat.reduceBEq, Nat.reduceAdd, Nat.reduceMul, Nat.reduceSub, Nat.reduceLT, Nat.reduceLeDiff])) | ((with_reducible first | apply hK | (clear hK K; first | apply hK | (clear hK K; apply hK))); clear hK K) | fail)
  refine res_three rfl (by simp [D.plain, plains]) (by simp) ?_
  rfl
 ·
  rw [ctrR, g, if_pos rfl] at e1
  rw [cellsR, g, if_pos rfl]
  rw [Bool.and_eq_true] at g
  have hin := okField_in (okDiv_field g.1)
  have h2 := okDiv_in g.1
  obtain ⟨l, rfl⟩ := Int.eq_ofNat_of_zero_le hin.2.1.1
  rw [Int.toNat_natCast] at e1 ⊢
  have hcz := fun x y => ctrZ_in g.1 zs x y
  generalize ctrZ d l f s zs = hh at *
  have hpc := picZ_cells (h := hh) (m := 9) (by omega) (fun x y _ _ => by have := hcz x y; omega)
  have e2 := counted_fn (picZ hh) 9 (picZ_ok hh) (by omega) (fun x y hx hy => (hpc x y hx hy).2) (fun x y hx hy => by have := hpc x y hx hy; omega)
  have hl1 := flat_len (picZ_ok hh) 24 (Nat.le_refl _)
  rw [bef_all (picZ_ok hh) rfl] at hl1
  generalize hL : (picZ hh).flatten = L at *
  simp only [gridD, picZ_len, intL, cntT_len] at e1 e2
  have hcf : ∀ dd, ((cntT L 9).map D.int).getD (f - 1).toNat dd = D.int ((L.count f : Nat) : Int) := fun dd => by
   rw [int_at (by rw [cntT_len]; omega), cntT_at (by omega) (by omega)]
  have hcs : ∀ dd, ((cntT L 9).map D.int).getD (s - 1).toNat dd = D.int ((L.count s : Nat) : Int) := fun dd => by
   rw [int_at (by rw [cntT_len]; omega), cntT_at (by omega) (by omega)]
  refine fn_go Try.func11 rfl rfl Try.ntmps11 Try.results11 (by simp only [slo, Nat.reduceAdd]; rfl) (by simp) ?_
  repeat' (first | (with_reducible first | refine aw_seq fun K hK => ?_ | refine aw_region (by kernel_rfl) ?_ | refine aw_condk ?_) | ((with_reducible refine ev_aw ?_); first | (refine aw_draw (id := 5) (by kernel_rfl) _ _ (by kernel_rfl) (pl_Cnt_11_5 _ (by kernel_rfl)) ?_)) | (with_reducible first | refine ru_four ?_ ?_ ?_ ?_ | refine ru_three ?_ ?_ ?_ | refine ru_two ?_ ?_ | refine rv_split ?_ ?_ | refine rv_two ?_ ?_ | refine rp_two ?_ ?_) | ((with_reducible refine evg ?_); simp only [go_sem, St.clean, cleanO, ↓reduceIte, Nat.reduceEqDiff, Nat.reduceBEq, Nat.reduceAdd, Nat.reduceMul, Nat.reduceSub, Nat.reduceLT, Nat.reduceLeDiff]) | (simp (disch := omega) only [dsq, Int.reduceSub, Int.reduceAdd, Int.reduceToNat, wr, hcf, hcs]) | ((with_reducible refine ev_call ?_); (first | (refine call_fn e1 rfl ?_) | (refine call_fn e2 rfl ?_)); refine k_run ?_) | ((with_reducible refine ck_split (fun h => ?_) (fun h => ?_)) <;> (try simp only [nrm] at h) <;> (try ((with_reducible exfalso); omega))) | ((with_reducible refine And.intro ?_ ?_); (focus first | omega | (simp; done) | (simp; omega) | ((repeat' (with_reducible refine And.intro ?_ ?_)) <;> first | omega | rfl | (simp only [go_sem, refsL_app, refs_dmap] <;> fail) | (simp [refsL_app, refs_dmap, AV.refsL, AV.refs] <;> omega)))) | (with_reducible refine hJ _ (fun K hK => ?_) ?_ <;> clear hJ KJ) | ((with_reducible refine ev_less ?_); (refine ⟨rfl, ?_, ?_⟩ <;> simp only [go_sem, St.clean, cleanO, SubS, SubO, beq_self_eq_true, ↓reduceIte, Nat.reduceEqDiff, Nat.reduceBEq, Nat.reduceAdd, Nat.reduceMul, Nat.reduceSub, Nat.reduceLT, Nat.reduceLeDiff])) | ((with_reducible first | apply hK | (clear hK K; first | apply hK | (clear hK K; apply hK))); clear hK K) | fail)
  refine res_three rfl (by simp [D.plain, plains]) (by simp) ?_
  rfl

end Go.Proofs.Ytjbifidphckjoaa
