/- Swapped tinctures: the reference's way, the law. -/
import Derived.Test.YtjbifidphckjoaaGrid4
import Derived.Test.YtjbifidphckjoaaGrid2
import Derived.WalkKit
import Derived.WalkSpells
import Derived.KernelRfl
namespace Go.Proofs.Ytjbifidphckjoaa
open Go.RowKit
set_option maxRecDepth 100000
set_option maxHeartbeats 4000000
set_option linter.unusedVariables false
set_option linter.unusedSimpArgs false

attribute [local go_sem] intL gridD lookO_lo killO_grid delO_grid putO_lo gridO_app dropGe dropGe_grid cleanO_grid gridC_len gridC_refs gridQ_refs lens_len rowsD_len setG_len dropO_grid killR_nil killR_cons killR_grid killN_lo newN_gridN hasN_cons hasN_grid Nat.le_refl refs_dmap newN_all killSs_gridN killOs_gridN killSs_gridN0 killOs_gridN0 loS_nil loS_cons loL_nil loL_cons lo_bp lo_bs lo_ag lo_tu lo_fc lo_d lo_un loO_nil loO_ds loO_av loO_dead loO_grid loL_gridC loL_dmap picZ_len allD_grid refsL_app' numsR_len

attribute [local simp] ints_plain ints_all ints_all1 ints_plain_take refs_dmap gridC_refs

def swapV (a b n : Int) : Int := if n = a then b else if n = b then a else n

def swapH (zs : List (List Int)) (a b : Int) (x y : Nat) : Int := swapV a b ((zs.getD y []).getD x 0)

def swapR (zs : List (List Int)) (a b : Int) : D := if okPic zs && inR a 1 9 && inR b 1 9 then .tu [gridD (picZ (swapH zs a b)), .bool true] else .tu [gridD [], .bool false]

theorem okPic_20 {zs : List (List Int)} (h : okPic zs = true) : ok20 zs := by
 simp only [okPic, okPicN, Bool.and_eq_true, decide_eq_true_eq, List.all_eq_true, List.mem_range, okRowP] at h
 exact ⟨h.1, fun y hy => (h.2 y hy).1⟩

theorem okPic_px {zs : List (List Int)} (h : okPic zs = true) {x y : Nat} (hx : x < 20) (hy : y < 24) : okPx x y ((zs.getD y []).getD x 0) = true := by
 simp only [okPic, okPicN, Bool.and_eq_true, decide_eq_true_eq, List.all_eq_true, List.mem_range, okRowP, rowPx] at h
 exact (h.2 y hy).2 x hx

theorem okPic_in {zs : List (List Int)} (h : okPic zs = true) {x y : Nat} (hx : x < 20) (hy : y < 24) : 0 <= (zs.getD y []).getD x 0 /\ (zs.getD y []).getD x 0 <= 9 := by
 have := okPic_px h hx hy
 simp only [okPx, Bool.and_eq_true, beq_iff_eq] at this
 cases g : inSh (x : Nat) (y : Nat) with
 | true =>
  have h1 := this.1
  rw [g] at h1
  have := inR_iff.1 h1.symm
  omega
 | false =>
  have h2 := this.2
  rw [g] at h2
  rw [Bool.false_or, decide_eq_true_eq] at h2
  omega

theorem swap1_fn (zs : List (List Int)) (a b : Int) (hok : okPic zs = true) (ha : 1 <= a /\ a <= 9) (hb : 1 <= b /\ b <= 9) (x y : Nat) (hx : x < 20) (hy : y < 24) : FnD Try.prog 65 ([] ++ [.int x, .int y] ++ [.pt [.ls 1 24 (rowsD zs)], .pt [.int a], .pt [.int b]]) (.int (swapH zs a b x y)) := by
 have hz := okPic_20 hok
 have hz1 := hz.1
 have hr := hz.2 y hy
 have hr2 : (zs[y]?.getD []).length = 20 := by rw [← List.getD_eq_getElem?_getD]; exact hr
 have hin := okPic_in hok hx hy
 rw [swapH]
 generalize hn : (zs.getD y []).getD x 0 = n at hin
 simp only [List.nil_append, List.cons_append]
 by_cases h1 : n = a
 ·
  refine fn_go Try.func65 rfl rfl Try.ntmps65 Try.results65 (by simp only [slo, Nat.reduceAdd]; rfl) (by simp) ?_
  repeat' (first | (with_reducible first | refine aw_seq fun K hK => ?_ | refine aw_region (by kernel_rfl) ?_ | refine aw_condk ?_) | ((with_reducible refine evg ?_); simp only [go_sem, ↓reduceIte, Nat.reduceEqDiff, Nat.reduceBEq, Nat.reduceAdd, Nat.reduceMul, Nat.reduceSub, Nat.reduceLT, Nat.reduceLeDiff]) | (simp (disch := omega) only [dsq, Int.reduceSub, Int.reduceAdd, Int.reduceToNat, wr, rowsD_at, hr, int_at, hn]) | ((with_reducible refine ev_guard ?_); (with_reducible first | refine guard_t ?_ ?_ rfl | refine guard_f ?_ ?_ rfl) <;> (intro h; (try simp only [h]); (try simp only [nrm] at h) <;> (try ((with_reducible exfalso); omega)))) | ((with_reducible refine ck_split (fun h => ?_) (fun h => ?_)) <;> (try simp only [nrm] at h) <;> (try ((with_reducible exfalso); omega))) | ((with_reducible refine And.intro ?_ ?_); (focus first | omega | (simp; done) | (simp; omega) | ((repeat' (with_reducible refine And.intro ?_ ?_)) <;> first | omega | rfl | (simp only [go_sem, refsL_app, refs_dmap] <;> fail) | (simp [refsL_app, refs_dmap, AV.refsL, AV.refs] <;> omega)))) | ((with_reducible first | apply hK | (clear hK K; first | apply hK | (clear hK K; apply hK))); clear hK K) | fail)
  refine res_tmp rfl (by simp [D.plain, plains]) (by simp) ?_
  subst h1
  simp [swapV] <;> omega
 ·
  by_cases h2 : n = b
  ·
   refine fn_go Try.func65 rfl rfl Try.ntmps65 Try.results65 (by simp only [slo, Nat.reduceAdd]; rfl) (by simp) ?_
   repeat' (first | (with_reducible first | refine aw_seq fun K hK => ?_ | refine aw_region (by kernel_rfl) ?_ | refine aw_condk ?_) | ((with_reducible refine evg ?_); simp only [go_sem, ↓reduceIte, Nat.reduceEqDiff, Nat.reduceBEq, Nat.reduceAdd, Nat.reduceMul, Nat.reduceSub, Nat.reduceLT, Nat.reduceLeDiff]) | (simp (disch := omega) only [dsq, Int.reduceSub, Int.reduceAdd, Int.reduceToNat, wr, rowsD_at, hr, int_at, hn]) | ((with_reducible refine ev_guard ?_); (with_reducible first | refine guard_t ?_ ?_ rfl | refine guard_f ?_ ?_ rfl) <;> (intro h; (try simp only [h]); (try simp only [nrm] at h) <;> (try ((with_reducible exfalso); omega)))) | ((with_reducible refine ck_split (fun h => ?_) (fun h => ?_)) <;> (try simp only [nrm] at h) <;> (try ((with_reducible exfalso); omega))) | ((with_reducible refine And.intro ?_ ?_); (focus first | omega | (simp; done) | (simp; omega) | ((repeat' (with_reducible refine And.intro ?_ ?_)) <;> first | omega | rfl | (simp only [go_sem, refsL_app, refs_dmap] <;> fail) | (simp [refsL_app, refs_dmap, AV.refsL, AV.refs] <;> omega)))) | ((with_reducible first | apply hK | (clear hK K; first | apply hK | (clear hK K; apply hK))); clear hK K) | fail)
   refine res_tmp rfl (by simp [D.plain, plains]) (by simp) ?_
   subst h2
   simp [swapV, h1] <;> omega
  ·
   refine fn_go Try.func65 rfl rfl Try.ntmps65 Try.results65 (by simp only [slo, Nat.reduceAdd]; rfl) (by simp) ?_
   repeat' (first | (with_reducible first | refine aw_seq fun K hK => ?_ | refine aw_region (by kernel_rfl) ?_ | refine aw_condk ?_) | ((with_reducible refine evg ?_); simp only [go_sem, ↓reduceIte, Nat.reduceEqDiff, Nat.reduceBEq, Nat.reduceAdd, Nat.reduceMul, Nat.reduceSub, Nat.reduceLT, Nat.reduceLeDiff]) | (simp (disch := omega) only [dsq, Int.reduceSub, Int.reduceAdd, Int.reduceToNat, wr, rowsD_at, hr, int_at, hn]) | ((with_reducible refine ev_guard ?_); (with_reducible first | refine guard_t ?_ ?_ rfl | refine guard_f ?_ ?_ rfl) <;> (intro h; (try simp only [h]); (try simp only [nrm] at h) <;> (try ((with_reducible exfalso); omega)))) | ((with_reducible refine ck_split (fun h => ?_) (fun h => ?_)) <;> (try simp only [nrm] at h) <;> (try ((with_reducible exfalso); omega))) | ((with_reducible refine And.intro ?_ ?_); (focus first | omega | (simp; done) | (simp; omega) | ((repeat' (with_reducible refine And.intro ?_ ?_)) <;> first | omega | rfl | (simp only [go_sem, refsL_app, refs_dmap] <;> fail) | (simp [refsL_app, refs_dmap, AV.refsL, AV.refs] <;> omega)))) | ((with_reducible first | apply hK | (clear hK K; first | apply hK | (clear hK K; apply hK))); clear hK K) | fail)
   refine res_tmp rfl (by simp [D.plain, plains]) (by simp) ?_
   simp [swapV, h1, h2]

theorem implSwap_fn (zs : List (List Int)) (a b : Int) (hl : zs.length <= 9223372036854775807) (hr : ∀ z ∈ zs, z.length <= 9223372036854775807) : FnD Try.prog 23 [gridD zs, .int a, .int b] (swapR zs a b) := by
 have e1 := isValidPicture_fn zs hl hr
 have e2 := isTincture_fn a
 have e3 := isTincture_fn b
 have hnil : leD (.tu [.v (.slice none 0 0), .bool false]) (.tu [gridD [], .bool false]) := leD_tu (lesD_cons leD_nil (lesD_refl _))
 cases g1 : okPic zs
 ·
  rw [g1] at e1
  rw [swapR, g1]
  refine fnd_le ?_ hnil
  refine fn_go Try.func23 rfl rfl Try.ntmps23 Try.results23 (by simp only [slo, Nat.reduceAdd]; rfl) (by simp) ?_
  repeat' (first | (with_reducible first | refine aw_seq fun K hK => ?_ | refine aw_region (by kernel_rfl) ?_ | refine aw_condk ?_) | ((with_reducible refine evg ?_); simp only [go_sem, ↓reduceIte, Nat.reduceEqDiff, Nat.reduceBEq, Nat.reduceAdd, Nat.reduceMul, Nat.reduceSub, Nat.reduceLT, Nat.reduceLeDiff]) | ((with_reducible refine ev_call ?_); (first | (refine call_fn e1 rfl ?_)); refine k_run ?_) | ((with_reducible refine ev_guard ?_); (with_reducible first | refine guard_t ?_ ?_ rfl | refine guard_f ?_ ?_ rfl) <;> (intro h; (try simp only [h]); (try simp only [nrm] at h))) | ((with_reducible refine ck_split (fun h => ?_) (fun h => ?_)) <;> (try simp only [nrm] at h)) | ((with_reducible refine And.intro ?_ ?_); (focus first | omega | (simp; done) | (simp; omega) | ((repeat' (with_reducible refine And.intro ?_ ?_)) <;> first | omega | rfl | (simp only [go_sem, refsL_app, refs_dmap] <;> fail) | (simp [refsL_app, refs_dmap, AV.refsL, AV.refs] <;> omega)))) | ((with_reducible first | apply hK | (clear hK K; first | apply hK | (clear hK K; apply hK))); clear hK K) | (simp (disch := omega) only [dsq, Int.reduceSub, Int.reduceAdd, Int.reduceToNat]) | fail)
  refine res_two rfl (by simp [D.plain, plains]) (by simp) ?_
  rfl
 ·
  rw [g1] at e1
  cases g2 : inR a 1 9
  ·
   rw [g2] at e2
   rw [swapR, g1, g2]
   refine fnd_le ?_ hnil
   refine fn_go Try.func23 rfl rfl Try.ntmps23 Try.results23 (by simp only [slo, Nat.reduceAdd]; rfl) (by simp) ?_
   repeat' (first | (with_reducible first | refine aw_seq fun K hK => ?_ | refine aw_region (by kernel_rfl) ?_ | refine aw_condk ?_) | ((with_reducible refine evg ?_); simp only [go_sem, ↓reduceIte, Nat.reduceEqDiff, Nat.reduceBEq, Nat.reduceAdd, Nat.reduceMul, Nat.reduceSub, Nat.reduceLT, Nat.reduceLeDiff]) | ((with_reducible refine ev_call ?_); (first | (refine call_fn e1 rfl ?_) | (refine call_fn e2 rfl ?_)); refine k_run ?_) | ((with_reducible refine ev_guard ?_); (with_reducible first | refine guard_t ?_ ?_ rfl | refine guard_f ?_ ?_ rfl) <;> (intro h; (try simp only [h]); (try simp only [nrm] at h))) | ((with_reducible refine ck_split (fun h => ?_) (fun h => ?_)) <;> (try simp only [nrm] at h)) | ((with_reducible refine And.intro ?_ ?_); (focus first | omega | (simp; done) | (simp; omega) | ((repeat' (with_reducible refine And.intro ?_ ?_)) <;> first | omega | rfl | (simp only [go_sem, refsL_app, refs_dmap] <;> fail) | (simp [refsL_app, refs_dmap, AV.refsL, AV.refs] <;> omega)))) | ((with_reducible first | apply hK | (clear hK K; first | apply hK | (clear hK K; apply hK))); clear hK K) | (simp (disch := omega) only [dsq, Int.reduceSub, Int.reduceAdd, Int.reduceToNat]) | fail)
   refine res_two rfl (by simp [D.plain, plains]) (by simp) ?_
   rfl
  ·
   rw [g2] at e2
   have q2 := inR_iff.1 g2
   cases g3 : inR b 1 9
   ·
    rw [g3] at e3
    rw [swapR, g1, g2, g3]
    refine fnd_le ?_ hnil
    refine fn_go Try.func23 rfl rfl Try.ntmps23 Try.results23 (by simp only [slo, Nat.reduceAdd]; rfl) (by simp) ?_
    repeat' (first | (with_reducible first | refine aw_seq fun K hK => ?_ | refine aw_region (by kernel_rfl) ?_ | refine aw_condk ?_) | ((with_reducible refine evg ?_); simp only [go_sem, ↓reduceIte, Nat.reduceEqDiff, Nat.reduceBEq, Nat.reduceAdd, Nat.reduceMul, Nat.reduceSub, Nat.reduceLT, Nat.reduceLeDiff]) | ((with_reducible refine ev_call ?_); (first | (refine call_fn e1 rfl ?_) | (refine call_fn e2 rfl ?_) | (refine call_fn e3 rfl ?_)); refine k_run ?_) | ((with_reducible refine ev_guard ?_); (with_reducible first | refine guard_t ?_ ?_ rfl | refine guard_f ?_ ?_ rfl) <;> (intro h; (try simp only [h]); (try simp only [nrm] at h))) | ((with_reducible refine ck_split (fun h => ?_) (fun h => ?_)) <;> (try simp only [nrm] at h)) | ((with_reducible refine And.intro ?_ ?_); (focus first | omega | (simp; done) | (simp; omega) | ((repeat' (with_reducible refine And.intro ?_ ?_)) <;> first | omega | rfl | (simp only [go_sem, refsL_app, refs_dmap] <;> fail) | (simp [refsL_app, refs_dmap, AV.refsL, AV.refs] <;> omega)))) | ((with_reducible first | apply hK | (clear hK K; first | apply hK | (clear hK K; apply hK))); clear hK K) | (simp (disch := omega) only [dsq, Int.reduceSub, Int.reduceAdd, Int.reduceToNat]) | fail)
    refine res_two rfl (by simp [D.plain, plains]) (by simp) ?_
    rfl
   ·
    rw [g3] at e3
    have q3 := inR_iff.1 g3
    have hz := okPic_20 g1
    have hz1 := hz.1
    have e4 := pictured_s 22 65 [] [.pt [.ls 1 24 (rowsD zs)], .pt [.int a], .pt [.int b]] (swapH zs a b) (by decide) (fun x y hx hy _ => swap1_fn zs a b g1 q2 q3 x y hx hy)
    simp only [gridD, hz1] at e1
    have hR : swapR zs a b = .tu [gridD (picZ (swapH zs a b)), .bool true] := by simp [swapR, g1, g2, g3]
    rw [hR, gridD, hz1]
    refine fn_go Try.func23 rfl rfl Try.ntmps23 Try.results23 (by simp only [slo, Nat.reduceAdd]; rfl) (by simp) ?_
    repeat' (first | (with_reducible first | refine aw_seq fun K hK => ?_ | refine aw_region (by kernel_rfl) ?_ | refine aw_condk ?_) | ((with_reducible refine evg ?_); simp only [go_sem, ↓reduceIte, Nat.reduceEqDiff, Nat.reduceBEq, Nat.reduceAdd, Nat.reduceMul, Nat.reduceSub, Nat.reduceLT, Nat.reduceLeDiff]) | (simp (disch := omega) only [dsq, Int.reduceSub, Int.reduceAdd, Int.reduceToNat]) | ((with_reducible refine ev_call ?_); (first | (refine call_fn e1 rfl ?_) | (refine call_fn e2 rfl ?_) | (refine call_fn e3 rfl ?_) | (refine call_fc e4 rfl rfl ?_ ?_ ?_ ?_ ?_; (focus (simp [newN, lookO, newN_all, ltAll, ltAll_grid, ltAll_grid0] <;> fail)); (focus (simp [-List.map_map, apartO, dropO, killN, obCells, refs_dmap, nofnsD, AV.refs, AV.refsL, AV.nofn, AV.nofns, all_grid, gridC_refs, gridC_nofns] <;> fail)); (focus (simp [plainOs, OB.plain, AV.plain, AV.plains, gridC_plains, plainOs_gridE] <;> fail)); (focus (simp [AV.plain] <;> fail)))); refine k_run ?_) | ((with_reducible refine ev_guard ?_); (with_reducible first | refine guard_t ?_ ?_ rfl | refine guard_f ?_ ?_ rfl) <;> (intro h; (try simp only [h]); (try simp only [nrm] at h) <;> (try ((with_reducible exfalso); omega)))) | ((with_reducible refine ck_split (fun h => ?_) (fun h => ?_)) <;> (try simp only [nrm] at h) <;> (try ((with_reducible exfalso); omega))) | ((with_reducible refine And.intro ?_ ?_); (focus first | omega | (simp; done) | (simp; omega) | ((repeat' (with_reducible refine And.intro ?_ ?_)) <;> first | omega | rfl | (simp only [go_sem, refsL_app, refs_dmap] <;> fail) | (simp [refsL_app, refs_dmap, AV.refsL, AV.refs] <;> omega)))) | ((with_reducible first | apply hK | (clear hK K; first | apply hK | (clear hK K; apply hK))); clear hK K) | fail)
    exact res_gridB rfl rfl (by rw [picZ_lens]; rfl) (by rw [hasG_cons (by decide)]; exact of_eq_true hasG_self) rfl (by decide) rfl

def rowZ (h : Nat -> Nat -> Int) (y : Nat) : List Int := tab (fun x => if inSh (x : Nat) (y : Nat) then h x y else 0) 20

@[simp] theorem rowZ_len (h : Nat -> Nat -> Int) (y : Nat) : (rowZ h y).length = 20 := tab_len _ _

theorem picZ_row {h : Nat -> Nat -> Int} {y : Nat} (hy : y < 24) : (picZ h).getD y [] = rowZ h y := tab_at [] hy

theorem picZ_next {h : Nat -> Nat -> Int} {y : Nat} (hy : y < 24) : (picZ h).take (y + 1) = (picZ h).take y ++ [rowZ h y] := by
 rw [take_next [] (by rw [picZ_len]; exact hy), picZ_row hy]

theorem rowZ_next {h : Nat -> Nat -> Int} {x y : Nat} (hx : x < 20) : (rowZ h y).take (x + 1) = (rowZ h y).take x ++ [if inSh (x : Nat) (y : Nat) then h x y else 0] := by
 rw [take_next 0 (by rw [rowZ_len]; exact hx), rowZ, tab_at 0 hx]

theorem lens_rows {h : Nat -> Nat -> Int} {y : Nat} (hy : y <= 24) : (lens ((picZ h).take y)).length = y := by
 rw [lens_len, List.length_take, picZ_len]
 omega

theorem specSwap_fn (zs : List (List Int)) (a b : Int) (hl : zs.length <= 9223372036854775807) (hr : ∀ z ∈ zs, z.length <= 9223372036854775807) : FnD Try.prog 24 [gridD zs, .int a, .int b] (swapR zs a b) := by
 have e1 := l13Good_fn zs hl hr
 have e2 := l2Good_fn a
 have e3 := l2Good_fn b
 cases g1 : okPic zs
 ·
  rw [g1] at e1
  rw [swapR, g1]
  refine fn_go Try.func24 rfl rfl Try.ntmps24 Try.results24 (by simp only [slo, Nat.reduceAdd]; rfl) (by simp) ?_
  repeat' (first | (with_reducible first | refine aw_seq fun K hK => ?_ | refine aw_region (by kernel_rfl) ?_ | refine aw_condk ?_ | refine aw_block ?_) | ((with_reducible refine evg ?_); simp only [go_sem, ↓reduceIte, Nat.reduceEqDiff, Nat.reduceBEq, Nat.reduceAdd, Nat.reduceMul, Nat.reduceSub, Nat.reduceLT, Nat.reduceLeDiff]) | ((with_reducible refine ev_call ?_); (first | (refine call_fn e1 rfl ?_)); refine k_run ?_) | ((with_reducible refine ev_guard ?_); (with_reducible first | refine guard_t ?_ ?_ rfl | refine guard_f ?_ ?_ rfl) <;> (intro h; (try simp only [h]); (try simp only [nrm] at h))) | ((with_reducible refine ck_split (fun h => ?_) (fun h => ?_)) <;> (try simp only [nrm] at h)) | ((with_reducible refine And.intro ?_ ?_); (focus first | omega | (simp; done) | (simp; omega) | ((repeat' (with_reducible refine And.intro ?_ ?_)) <;> first | omega | rfl | (simp only [go_sem, refsL_app, refs_dmap] <;> fail) | (simp [refsL_app, refs_dmap, AV.refsL, AV.refs] <;> omega)))) | ((with_reducible first | apply hK | (clear hK K; first | apply hK | (clear hK K; apply hK))); clear hK K) | (simp (disch := omega) only [dsq, Int.reduceSub, Int.reduceAdd, Int.reduceToNat]) | fail)
  refine res_two rfl (by simp [D.plain, plains]) (by simp) ?_
  rfl
 ·
  rw [g1] at e1
  cases g2 : inR a 1 9
  ·
   rw [g2] at e2
   rw [swapR, g1, g2]
   refine fn_go Try.func24 rfl rfl Try.ntmps24 Try.results24 (by simp only [slo, Nat.reduceAdd]; rfl) (by simp) ?_
   repeat' (first | (with_reducible first | refine aw_seq fun K hK => ?_ | refine aw_region (by kernel_rfl) ?_ | refine aw_condk ?_ | refine aw_block ?_) | ((with_reducible refine evg ?_); simp only [go_sem, ↓reduceIte, Nat.reduceEqDiff, Nat.reduceBEq, Nat.reduceAdd, Nat.reduceMul, Nat.reduceSub, Nat.reduceLT, Nat.reduceLeDiff]) | ((with_reducible refine ev_call ?_); (first | (refine call_fn e1 rfl ?_) | (refine call_fn e2 rfl ?_)); refine k_run ?_) | ((with_reducible refine ev_guard ?_); (with_reducible first | refine guard_t ?_ ?_ rfl | refine guard_f ?_ ?_ rfl) <;> (intro h; (try simp only [h]); (try simp only [nrm] at h))) | ((with_reducible refine ck_split (fun h => ?_) (fun h => ?_)) <;> (try simp only [nrm] at h)) | ((with_reducible refine And.intro ?_ ?_); (focus first | omega | (simp; done) | (simp; omega) | ((repeat' (with_reducible refine And.intro ?_ ?_)) <;> first | omega | rfl | (simp only [go_sem, refsL_app, refs_dmap] <;> fail) | (simp [refsL_app, refs_dmap, AV.refsL, AV.refs] <;> omega)))) | ((with_reducible first | apply hK | (clear hK K; first | apply hK | (clear hK K; apply hK))); clear hK K) | (simp (disch := omega) only [dsq, Int.reduceSub, Int.reduceAdd, Int.reduceToNat]) | fail)
   refine res_two rfl (by simp [D.plain, plains]) (by simp) ?_
   rfl
  ·
   rw [g2] at e2
   have q2 := inR_iff.1 g2
   cases g3 : inR b 1 9
   ·
    rw [g3] at e3
    rw [swapR, g1, g2, g3]
    refine fn_go Try.func24 rfl rfl Try.ntmps24 Try.results24 (by simp only [slo, Nat.reduceAdd]; rfl) (by simp) ?_
    repeat' (first | (with_reducible first | refine aw_seq fun K hK => ?_ | refine aw_region (by kernel_rfl) ?_ | refine aw_condk ?_ | refine aw_block ?_) | ((with_reducible refine evg ?_); simp only [go_sem, ↓reduceIte, Nat.reduceEqDiff, Nat.reduceBEq, Nat.reduceAdd, Nat.reduceMul, Nat.reduceSub, Nat.reduceLT, Nat.reduceLeDiff]) | ((with_reducible refine ev_call ?_); (first | (refine call_fn e1 rfl ?_) | (refine call_fn e2 rfl ?_) | (refine call_fn e3 rfl ?_)); refine k_run ?_) | ((with_reducible refine ev_guard ?_); (with_reducible first | refine guard_t ?_ ?_ rfl | refine guard_f ?_ ?_ rfl) <;> (intro h; (try simp only [h]); (try simp only [nrm] at h))) | ((with_reducible refine ck_split (fun h => ?_) (fun h => ?_)) <;> (try simp only [nrm] at h)) | ((with_reducible refine And.intro ?_ ?_); (focus first | omega | (simp; done) | (simp; omega) | ((repeat' (with_reducible refine And.intro ?_ ?_)) <;> first | omega | rfl | (simp only [go_sem, refsL_app, refs_dmap] <;> fail) | (simp [refsL_app, refs_dmap, AV.refsL, AV.refs] <;> omega)))) | ((with_reducible first | apply hK | (clear hK K; first | apply hK | (clear hK K; apply hK))); clear hK K) | (simp (disch := omega) only [dsq, Int.reduceSub, Int.reduceAdd, Int.reduceToNat]) | fail)
    refine res_two rfl (by simp [D.plain, plains]) (by simp) ?_
    rfl
   ·
    rw [g3] at e3
    have q3 := inR_iff.1 g3
    have hz := okPic_20 g1
    have hz1 := hz.1
    have hR : swapR zs a b = .tu [gridD (picZ (swapH zs a b)), .bool true] := by simp [swapR, g1, g2, g3]
    have hout : ∀ x y : Nat, x < 20 -> y < 24 -> (if inSh (x : Nat) (y : Nat) then swapH zs a b x y else 0) = swapV a b ((zs.getD y []).getD x 0) := fun x y hx hy => by
     have := okPic_px g1 hx hy
     simp only [okPx, Bool.and_eq_true, beq_iff_eq] at this
     cases g : inSh (x : Nat) (y : Nat) with
     | true => rfl
     | false =>
      have h2 := this.2
      rw [g, Bool.false_or, decide_eq_true_eq] at h2
      rw [h2, swapV, if_neg (show ¬ (0 : Int) = a by omega), if_neg (show ¬ (0 : Int) = b by omega)]
      simp
    simp only [gridD, hz1] at e1
    rw [hR]
    simp only [gridD, picZ_len, hz1]
    generalize hZ : swapH zs a b = hh at hout
    refine fn_go Try.func24 rfl rfl Try.ntmps24 Try.results24 (by simp only [slo, Nat.reduceAdd]; rfl) (by simp) ?_
    repeat' (first | (with_reducible first | refine aw_seq fun K hK => ?_ | refine aw_region (by kernel_rfl) ?_ | refine aw_condk ?_ | refine aw_block ?_) | ((with_reducible refine evg ?_); simp only [go_sem, ↓reduceIte, Nat.reduceEqDiff, Nat.reduceBEq, Nat.reduceAdd, Nat.reduceMul, Nat.reduceSub, Nat.reduceLT, Nat.reduceLeDiff]) | (simp (disch := omega) only [dsq, Int.reduceSub, Int.reduceAdd, Int.reduceToNat]) | ((with_reducible refine ev_call ?_); (first | (refine call_fn e1 rfl ?_) | (refine call_fn e2 rfl ?_) | (refine call_fn e3 rfl ?_)); refine k_run ?_) | ((with_reducible refine ev_guard ?_); (with_reducible first | refine guard_t ?_ ?_ rfl | refine guard_f ?_ ?_ rfl) <;> (intro h; (try simp only [h]); (try simp only [nrm] at h) <;> (try ((with_reducible exfalso); omega)))) | ((with_reducible refine ck_split (fun h => ?_) (fun h => ?_)) <;> (try simp only [nrm] at h) <;> (try ((with_reducible exfalso); omega))) | ((with_reducible refine And.intro ?_ ?_); (focus first | omega | (simp; done) | (simp; omega) | ((repeat' (with_reducible refine And.intro ?_ ?_)) <;> first | omega | rfl | (simp only [go_sem, refsL_app, refs_dmap] <;> fail) | (simp [refsL_app, refs_dmap, AV.refsL, AV.refs] <;> omega)))) | ((with_reducible first | apply hK | (clear hK K; first | apply hK | (clear hK K; apply hK))); clear hK K) | fail)
    refine aw_asAv 27 ?_
    refine aw_loopG [8, 9, 10, 11, 12, 27, 28, 29, 30, 31, 32, 33, 34, 35, 36, 37, 38, 39, 40, 41, 42, 43, 44, 45, 46, 47, 48, 49, 50, 51, 52, 53, 54, 55, 56, 57, 58, 59, 60] [27, 32, 55, 56, 59, 60] 1000000000 (fun y : Nat => [(9, .d (.int y)), (8, .bs 60 0 y 1)]) (fun y => (60, .av (gridC 1000000000 (lens ((picZ hh).take y)))) :: gridO 1000000000 ((picZ hh).take y) []) (fun y => y <= 24) (fun y => 24 - y) 0 (by omega) ?_ ?_
    ·
     (refine lessW_of [(27, 60)] ?_ ?_ <;> simp (disch := omega) only [okSw, decide_eq_true_eq, Bool.and_eq_true, Bool.or_eq_true, St.updG, St.asAv, avO, dropGe, dropGe_grid, subO_grid, gridO_nil, gridO_app, gridQ_put, take_zero, hasG_nil, hasG_snoc, hasG_cons, hasG_next, hasG_self, hasG_lo, hasG_hi, lookO_lo, lookO_hi, lookO_row, lookKN, swO_grid, swO_grid0, gridC_sw0, gridC_sw, lsq, lookO, List.elem, List.cons_append, List.nil_append, cond_true, cond_false, and_true, true_and, beq_self_eq_true, ↓reduceIte, Nat.reduceEqDiff, Nat.reduceBEq, Nat.reduceAdd, Nat.reduceMul, Nat.reduceSub, Nat.reduceLT, Nat.reduceLeDiff] <;> try simp)
     rfl
    ·
     rintro y y1
     simp only [St.updG, St.asAv, avO, dropS, dropOs, dropGe, dropGe_grid, dropGe_keep, gridO_nil, List.elem, List.cons_append, List.nil_append, gridO_app, cond_true, cond_false, beq_self_eq_true, ↓reduceIte, Nat.reduceEqDiff, Nat.reduceBEq, Nat.reduceAdd, Nat.reduceMul, Nat.reduceSub, Nat.reduceLT, Nat.reduceLeDiff]
     have hll := lens_rows (h := hh) y1
     have htl : ((picZ hh).take y).length = y := by rw [List.length_take, picZ_len]; omega
     have hgl : (gridC 1000000000 (lens ((picZ hh).take y))).length = y := by rw [gridC_len, hll]
     have htk : (gridC 1000000000 (lens ((picZ hh).take y))).take y = gridC 1000000000 (lens ((picZ hh).take y)) := List.take_of_length_le (by omega)
     by_cases hy : y < 24
     ·
      have hrl := hz.2 y hy
      have hrl2 : (zs[y]?.getD []).length = 20 := by rw [← List.getD_eq_getElem?_getD]; exact hrl
      repeat' (first | (with_reducible first | refine aw_seq fun K hK => ?_ | refine aw_region (by kernel_rfl) ?_ | refine aw_condk ?_ | refine aw_block ?_) | ((with_reducible refine evg ?_); simp only [go_sem, ↓reduceIte, Nat.reduceEqDiff, Nat.reduceBEq, Nat.reduceAdd, Nat.reduceMul, Nat.reduceSub, Nat.reduceLT, Nat.reduceLeDiff]) | (simp (disch := omega) only [dsq, Int.reduceSub, Int.reduceAdd, Int.reduceToNat]) | ((with_reducible refine ev_guard ?_); (with_reducible first | refine guard_t ?_ ?_ rfl | refine guard_f ?_ ?_ rfl) <;> (intro h; (try simp only [h]); (try simp only [nrm] at h) <;> (try ((with_reducible exfalso); omega)))) | ((with_reducible refine ck_split (fun h => ?_) (fun h => ?_)) <;> (try simp only [nrm] at h) <;> (try ((with_reducible exfalso); omega))) | ((with_reducible refine And.intro ?_ ?_); (focus first | omega | (simp; done) | (simp; omega) | ((repeat' (with_reducible refine And.intro ?_ ?_)) <;> first | omega | rfl | (simp only [go_sem, refsL_app, refs_dmap] <;> fail) | (simp [refsL_app, refs_dmap, AV.refsL, AV.refs] <;> omega)))) | ((with_reducible first | apply hK | (clear hK K; first | apply hK | (clear hK K; apply hK))); clear hK K) | fail)
      refine aw_loopG [10, 11, 12, 32, 33, 34, 35, 36, 37, 38, 39, 40, 41, 42, 43, 44, 45, 46, 47, 48, 49, 50, 51, 52, 53, 54, 55, 56] [32, 55, 56] 1000000000 (fun x : Nat => [(11, .d (.int x)), (10, .bs 56 0 x 1)]) (fun x => (56, .ds (((rowZ hh y).take x).map D.int)) :: gridO 1000000000 ((picZ hh).take y) []) (fun x => x <= 20) (fun x => 20 - x) 0 (by omega) ?_ ?_
      · (refine lessW_of [(32, 56)] ?_ ?_ <;> simp (disch := omega) only [okSw, decide_eq_true_eq, Bool.and_eq_true, Bool.or_eq_true, St.updG, St.asAv, avO, dropGe, dropGe_grid, subO_grid, gridO_nil, gridO_app, gridQ_put, take_zero, hasG_nil, hasG_snoc, hasG_cons, hasG_next, hasG_self, hasG_lo, hasG_hi, lookO_lo, lookO_hi, lookO_row, lookKN, swO_grid, swO_grid0, gridC_sw0, gridC_sw, lsq, lookO, List.elem, List.cons_append, List.nil_append, cond_true, cond_false, and_true, true_and, beq_self_eq_true, ↓reduceIte, Nat.reduceEqDiff, Nat.reduceBEq, Nat.reduceAdd, Nat.reduceMul, Nat.reduceSub, Nat.reduceLT, Nat.reduceLeDiff] <;> try simp)
      ·
       rintro x x1
       simp only [St.updG, St.asAv, avO, dropS, dropOs, dropGe, dropGe_grid, dropGe_keep, gridO_nil, List.elem, List.cons_append, List.nil_append, gridO_app, cond_true, cond_false, beq_self_eq_true, ↓reduceIte, Nat.reduceEqDiff, Nat.reduceBEq, Nat.reduceAdd, Nat.reduceMul, Nat.reduceSub, Nat.reduceLT, Nat.reduceLeDiff]
       have hlr : (((rowZ hh y).take x).map D.int).length = x := by rw [List.length_map, List.length_take, rowZ_len]; omega
       have htr : (((rowZ hh y).take x).map D.int).take x = ((rowZ hh y).take x).map D.int := List.take_of_length_le (by omega)
       by_cases hx : x < 20
       ·
        have hv := hout x y hx hy
        have hnx := rowZ_next (h := hh) (y := y) hx
        rw [hv] at hnx
        generalize hn : (zs.getD y []).getD x 0 = n at hnx hv
        by_cases h1 : n = a
        ·
         repeat' (first | (with_reducible first | refine aw_seq fun K hK => ?_ | refine aw_region (by kernel_rfl) ?_ | refine aw_condk ?_ | refine aw_block ?_) | ((with_reducible refine evg ?_); simp only [go_sem, ↓reduceIte, Nat.reduceEqDiff, Nat.reduceBEq, Nat.reduceAdd, Nat.reduceMul, Nat.reduceSub, Nat.reduceLT, Nat.reduceLeDiff]) | (simp (disch := omega) only [dsq, Int.reduceSub, Int.reduceAdd, Int.reduceToNat, wr, rowsD_at, hrl, int_at, hn, hlr, htr]) | ((with_reducible refine ev_guard ?_); (with_reducible first | refine guard_t ?_ ?_ rfl | refine guard_f ?_ ?_ rfl) <;> (intro h; (try simp only [h]); (try simp only [nrm] at h) <;> (try ((with_reducible exfalso); omega)))) | ((with_reducible refine ck_split (fun h => ?_) (fun h => ?_)) <;> (try simp only [nrm] at h) <;> (try ((with_reducible exfalso); omega))) | ((with_reducible refine And.intro ?_ ?_); (focus first | omega | (simp; done) | (simp; omega) | ((repeat' (with_reducible refine And.intro ?_ ?_)) <;> first | omega | rfl | (simp only [go_sem, refsL_app, refs_dmap] <;> fail) | (simp [refsL_app, refs_dmap, AV.refsL, AV.refs] <;> omega)))) | ((with_reducible first | apply hK | (clear hK K; first | apply hK | (clear hK K; apply hK))); clear hK K) | fail)
         refine ⟨x + 1, by omega, by omega, ?_⟩
         rw [hnx]
         (refine lessW_of [] ?_ ?_ <;> simp (disch := omega) only [okSw, decide_eq_true_eq, Bool.and_eq_true, Bool.or_eq_true, St.updG, St.asAv, avO, dropGe, dropGe_grid, subO_grid, gridO_nil, gridO_app, gridQ_put, take_zero, hasG_nil, hasG_snoc, hasG_cons, hasG_next, hasG_self, hasG_lo, hasG_hi, lookO_lo, lookO_hi, lookO_row, lookKN, swO_grid, swO_grid0, gridC_sw0, gridC_sw, lsq, lookO, List.elem, List.cons_append, List.nil_append, cond_true, cond_false, and_true, true_and, beq_self_eq_true, ↓reduceIte, Nat.reduceEqDiff, Nat.reduceBEq, Nat.reduceAdd, Nat.reduceMul, Nat.reduceSub, Nat.reduceLT, Nat.reduceLeDiff] <;> try simp)
         simp [swapV, h1]
        ·
         by_cases h2 : n = b
         ·
          repeat' (first | (with_reducible first | refine aw_seq fun K hK => ?_ | refine aw_region (by kernel_rfl) ?_ | refine aw_condk ?_ | refine aw_block ?_) | ((with_reducible refine evg ?_); simp only [go_sem, ↓reduceIte, Nat.reduceEqDiff, Nat.reduceBEq, Nat.reduceAdd, Nat.reduceMul, Nat.reduceSub, Nat.reduceLT, Nat.reduceLeDiff]) | (simp (disch := omega) only [dsq, Int.reduceSub, Int.reduceAdd, Int.reduceToNat, wr, rowsD_at, hrl, int_at, hn, hlr, htr]) | ((with_reducible refine ev_guard ?_); (with_reducible first | refine guard_t ?_ ?_ rfl | refine guard_f ?_ ?_ rfl) <;> (intro h; (try simp only [h]); (try simp only [nrm] at h) <;> (try ((with_reducible exfalso); omega)))) | ((with_reducible refine ck_split (fun h => ?_) (fun h => ?_)) <;> (try simp only [nrm] at h) <;> (try ((with_reducible exfalso); omega))) | ((with_reducible refine And.intro ?_ ?_); (focus first | omega | (simp; done) | (simp; omega) | ((repeat' (with_reducible refine And.intro ?_ ?_)) <;> first | omega | rfl | (simp only [go_sem, refsL_app, refs_dmap] <;> fail) | (simp [refsL_app, refs_dmap, AV.refsL, AV.refs] <;> omega)))) | ((with_reducible first | apply hK | (clear hK K; first | apply hK | (clear hK K; apply hK))); clear hK K) | fail)
          refine ⟨x + 1, by omega, by omega, ?_⟩
          rw [hnx]
          (refine lessW_of [] ?_ ?_ <;> simp (disch := omega) only [okSw, decide_eq_true_eq, Bool.and_eq_true, Bool.or_eq_true, St.updG, St.asAv, avO, dropGe, dropGe_grid, subO_grid, gridO_nil, gridO_app, gridQ_put, take_zero, hasG_nil, hasG_snoc, hasG_cons, hasG_next, hasG_self, hasG_lo, hasG_hi, lookO_lo, lookO_hi, lookO_row, lookKN, swO_grid, swO_grid0, gridC_sw0, gridC_sw, lsq, lookO, List.elem, List.cons_append, List.nil_append, cond_true, cond_false, and_true, true_and, beq_self_eq_true, ↓reduceIte, Nat.reduceEqDiff, Nat.reduceBEq, Nat.reduceAdd, Nat.reduceMul, Nat.reduceSub, Nat.reduceLT, Nat.reduceLeDiff] <;> try simp)
          simp [swapV, h1, h2] <;> omega
         ·
          repeat' (first | (with_reducible first | refine aw_seq fun K hK => ?_ | refine aw_region (by kernel_rfl) ?_ | refine aw_condk ?_ | refine aw_block ?_) | ((with_reducible refine evg ?_); simp only [go_sem, ↓reduceIte, Nat.reduceEqDiff, Nat.reduceBEq, Nat.reduceAdd, Nat.reduceMul, Nat.reduceSub, Nat.reduceLT, Nat.reduceLeDiff]) | (simp (disch := omega) only [dsq, Int.reduceSub, Int.reduceAdd, Int.reduceToNat, wr, rowsD_at, hrl, int_at, hn, hlr, htr]) | ((with_reducible refine ev_guard ?_); (with_reducible first | refine guard_t ?_ ?_ rfl | refine guard_f ?_ ?_ rfl) <;> (intro h; (try simp only [h]); (try simp only [nrm] at h) <;> (try ((with_reducible exfalso); omega)))) | ((with_reducible refine ck_split (fun h => ?_) (fun h => ?_)) <;> (try simp only [nrm] at h) <;> (try ((with_reducible exfalso); omega))) | ((with_reducible refine And.intro ?_ ?_); (focus first | omega | (simp; done) | (simp; omega) | ((repeat' (with_reducible refine And.intro ?_ ?_)) <;> first | omega | rfl | (simp only [go_sem, refsL_app, refs_dmap] <;> fail) | (simp [refsL_app, refs_dmap, AV.refsL, AV.refs] <;> omega)))) | ((with_reducible first | apply hK | (clear hK K; first | apply hK | (clear hK K; apply hK))); clear hK K) | fail)
          refine ⟨x + 1, by omega, by omega, ?_⟩
          rw [hnx]
          (refine lessW_of [] ?_ ?_ <;> simp (disch := omega) only [okSw, decide_eq_true_eq, Bool.and_eq_true, Bool.or_eq_true, St.updG, St.asAv, avO, dropGe, dropGe_grid, subO_grid, gridO_nil, gridO_app, gridQ_put, take_zero, hasG_nil, hasG_snoc, hasG_cons, hasG_next, hasG_self, hasG_lo, hasG_hi, lookO_lo, lookO_hi, lookO_row, lookKN, swO_grid, swO_grid0, gridC_sw0, gridC_sw, lsq, lookO, List.elem, List.cons_append, List.nil_append, cond_true, cond_false, and_true, true_and, beq_self_eq_true, ↓reduceIte, Nat.reduceEqDiff, Nat.reduceBEq, Nat.reduceAdd, Nat.reduceMul, Nat.reduceSub, Nat.reduceLT, Nat.reduceLeDiff] <;> try simp)
          simp [swapV, h1, h2] <;> omega
       ·
        repeat' (first | (with_reducible first | refine aw_seq fun K hK => ?_ | refine aw_region (by kernel_rfl) ?_ | refine aw_condk ?_ | refine aw_block ?_) | ((with_reducible refine evg ?_); simp only [go_sem, ↓reduceIte, Nat.reduceEqDiff, Nat.reduceBEq, Nat.reduceAdd, Nat.reduceMul, Nat.reduceSub, Nat.reduceLT, Nat.reduceLeDiff]) | (simp (disch := omega) only [dsq, Int.reduceSub, Int.reduceAdd, Int.reduceToNat, wr, htk, allD_grid, gridC_refs]) | ((with_reducible refine ev_guard ?_); (with_reducible first | refine guard_t ?_ ?_ rfl | refine guard_f ?_ ?_ rfl) <;> (intro h; (try simp only [h]); (try simp only [nrm] at h) <;> (try ((with_reducible exfalso); omega)))) | ((with_reducible refine ck_split (fun h => ?_) (fun h => ?_)) <;> (try simp only [nrm] at h) <;> (try ((with_reducible exfalso); omega))) | ((with_reducible refine And.intro ?_ ?_); (focus first | omega | (simp; done) | (simp; omega) | ((repeat' (with_reducible refine And.intro ?_ ?_)) <;> first | omega | rfl | (simp only [go_sem, refsL_app, refs_dmap] <;> fail) | (simp [refsL_app, refs_dmap, AV.refsL, AV.refs] <;> omega)))) | ((with_reducible first | apply hK | (clear hK K; first | apply hK | (clear hK K; apply hK))); clear hK K) | fail)
        have e : x = 20 := by omega
        subst e
        refine ⟨y + 1, by omega, by omega, ?_⟩
        (refine lessW_of [(56, y + 1000000000)] ?_ ?_ <;> simp (disch := omega) only [okSw, decide_eq_true_eq, Bool.and_eq_true, Bool.or_eq_true, St.updG, St.asAv, avO, dropGe, dropGe_grid, subO_grid, gridO_nil, gridO_app, gridQ_put, take_zero, hasG_nil, hasG_snoc, hasG_cons, hasG_next, hasG_self, hasG_lo, hasG_hi, lookO_lo, lookO_hi, lookO_row, lookKN, swO_grid, swO_grid0, gridC_sw0, gridC_sw, lsq, lookO, List.elem, List.cons_append, List.nil_append, cond_true, cond_false, and_true, true_and, beq_self_eq_true, ↓reduceIte, Nat.reduceEqDiff, Nat.reduceBEq, Nat.reduceAdd, Nat.reduceMul, Nat.reduceSub, Nat.reduceLT, Nat.reduceLeDiff] <;> try simp)
        have e20 : ((rowZ hh y).map D.int).take 20 = (rowZ hh y).map D.int := List.take_of_length_le (by simp)
        rw [e20, picZ_next hy, show lens ((picZ hh).take y ++ [rowZ hh y]) = lens ((picZ hh).take y) ++ [20] by simp [lens]]
        exact ⟨gridC_step hll (by decide), hasG_step1 htl⟩
     ·
      repeat' (first | (with_reducible first | refine aw_seq fun K hK => ?_ | refine aw_region (by kernel_rfl) ?_ | refine aw_condk ?_ | refine aw_block ?_) | ((with_reducible refine evg ?_); simp only [go_sem, ↓reduceIte, Nat.reduceEqDiff, Nat.reduceBEq, Nat.reduceAdd, Nat.reduceMul, Nat.reduceSub, Nat.reduceLT, Nat.reduceLeDiff]) | (simp (disch := omega) only [dsq, Int.reduceSub, Int.reduceAdd, Int.reduceToNat]) | ((with_reducible refine ev_guard ?_); (with_reducible first | refine guard_t ?_ ?_ rfl | refine guard_f ?_ ?_ rfl) <;> (intro h; (try simp only [h]); (try simp only [nrm] at h) <;> (try ((with_reducible exfalso); omega)))) | ((with_reducible refine ck_split (fun h => ?_) (fun h => ?_)) <;> (try simp only [nrm] at h) <;> (try ((with_reducible exfalso); omega))) | ((with_reducible refine And.intro ?_ ?_); (focus first | omega | (simp; done) | (simp; omega) | ((repeat' (with_reducible refine And.intro ?_ ?_)) <;> first | omega | rfl | (simp only [go_sem, refsL_app, refs_dmap] <;> fail) | (simp [refsL_app, refs_dmap, AV.refsL, AV.refs] <;> omega)))) | ((with_reducible first | apply hK | (clear hK K; first | apply hK | (clear hK K; apply hK))); clear hK K) | fail)
      have e : y = 24 := by omega
      subst e
      rw [List.take_of_length_le (by rw [picZ_len]; exact Nat.le_refl _)]
      exact res_gridB rfl rfl rfl (by rw [hasG_cons (by decide)]; exact of_eq_true hasG_self) rfl (by decide) rfl

end Go.Proofs.Ytjbifidphckjoaa
