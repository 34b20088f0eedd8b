/- CounterTwice: contracts. -/
import Derived.Test.YtjbifidphckjoaaPic5
import Derived.Test.YtjbifidphckjoaaCells
import Derived.WalkKit
import Derived.WalkSpells
import Derived.KernelRfl
namespace Go.Proofs.Ytjbifidphckjoaa
open Go.RowKit
set_option maxRecDepth 100000
set_option maxHeartbeats 4000000
set_option linter.unusedVariables false
set_option linter.unusedSimpArgs false

attribute [local go_sem] intL gridD lookO_lo killO_grid delO_grid putO_lo gridO_app dropGe dropGe_grid cleanO_grid gridC_len gridC_refs gridQ_refs lens_len rowsD_len setG_len dropO_grid killR_nil killR_cons killR_grid killN_lo newN_gridN hasN_cons hasN_grid Nat.le_refl refs_dmap newN_all killSs_gridN killOs_gridN killSs_gridN0 killOs_gridN0 loS_nil loS_cons loL_nil loL_cons lo_bp lo_bs lo_ag lo_tu lo_fc lo_d lo_un loO_nil loO_ds loO_av loO_dead loO_grid loL_gridC loL_dmap picZ_len allD_grid refsL_app' numsR_len

attribute [local simp] ints_plain ints_all ints_all1 ints_plain_take refs_dmap gridC_refs

theorem hasZ_bit {zs : List Int} {x y : Nat} (hx : x < 20) (hy : y < 24) : hasZ zs x y = (zs.getD y 0).toNat.testBit x := by
 rw [hasZ, inR_iff.2 (by omega), inR_iff.2 (by omega), bitZ, Int.toNat_natCast, Int.toNat_natCast]
 rfl

theorem okRow_bit {v : Int} {x y : Nat} (h : okRow y v = true) : v.toNat.testBit x = (v.toNat.testBit x && (decide (x < 20) && inSh x y)) := by
 simp only [okRow, Bool.and_eq_true, decide_eq_true_eq, beq_iff_eq] at h
 have := congrArg (fun n => n.testBit x) h.2
 simp only [Nat.testBit_and, rowN_bit, cellP, Bool.and_true] at this
 exact this.symm

def bothP (rs ss : List Int) (x y : Int) : Bool := hasZ rs x y != hasZ ss x y

theorem regZ_good (p : Int -> Int -> Bool) : okReg (regZ p) = true := by
 simp only [okReg, Bool.and_eq_true, decide_eq_true_eq, List.all_eq_true, List.mem_range]
 refine ⟨regZ_len p, fun y hy => ?_⟩
 rw [regZ_at hy, okRow, rowI, Bool.and_eq_true, decide_eq_true_eq, beq_iff_eq, Int.toNat_natCast]
 refine ⟨Int.natCast_nonneg _, ?_⟩
 apply Nat.eq_of_testBit_eq
 intro x
 simp only [Nat.testBit_and, rowN_bit, cellP, Bool.and_true]
 cases decide (x < 20) <;> cases inSh x y <;> cases p x y <;> rfl

theorem regZ_has {p : Int -> Int -> Bool} {x y : Nat} (hx : x < 20) (hy : y < 24) : hasZ (regZ p) x y = (inSh x y && p x y) := by
 rw [hasZ_bit hx hy, regZ_at hy, rowI, Int.toNat_natCast, rowN_bit, cellP, decide_eq_true hx, Bool.true_and]

theorem regZ_hasZ {zs : List Int} (h : okReg zs = true) (p : Int -> Int -> Bool) (hp : ∀ x y : Nat, x < 20 -> y < 24 -> inSh x y = true -> p x y = hasZ zs x y) : regZ p = zs := by
 have hl := okReg_len h
 refine Eq.symm ((tab_of 0 (fun y hy => ?_)).trans (congrArg (tab (rowI p)) hl))
 have hy : y < 24 := by rw [hl] at hy; exact hy
 have r1 := okReg_row h hy
 have r2 := okRow_lt r1
 rw [rowI]
 have hb : ∀ x : Nat, x < 20 -> inSh x y = true -> p x y = (zs.getD y 0).toNat.testBit x := fun x hx hi => by
  rw [hp x y hx hy hi, hasZ_bit hx hy]
 have r3 := fun x : Nat => okRow_bit (x := x) r1
 obtain ⟨a, ha⟩ := Int.eq_ofNat_of_zero_le r2.1
 rw [ha] at hb r3 ⊢
 congr 1
 apply Nat.eq_of_testBit_eq
 intro x
 have r4 := r3 x
 have hc := hb x
 simp only [Int.toNat_natCast] at r4 hc
 rw [rowN_bit, cellP]
 symm
 by_cases hx : x < 20
 ·
  cases g1 : inSh x y
  ·
   rw [g1] at r4
   simp only [Bool.and_false] at r4
   rw [r4]
   simp
  ·
   rw [hc hx g1]
   simp [hx]
 ·
  simp only [hx, decide_false, Bool.false_and, Bool.and_false] at r4 ⊢
  rw [r4]

def twiceR (d l f s : Int) (rs ss : List Int) : D := if okDiv d l f s && okReg rs && okReg ss then .tu [gridD (picZ (ctrZ d l.toNat f s (regZ (bothP rs ss)))), .bool true] else .tu [gridD [], .bool false]

set_option maxRecDepth 100000 in
theorem pl_Pic6_51_1 (l : List Oper) (h : l = opsOf Try.f51 1) : planB l (.pure 0 (.pure 1 (.pure 2 (.pure 4 (.pure 5 (.pure 6 (.one 3 (.one 7 (.pure 8 (.pure 9 PT.fin)))))))))) [] = true := by
 subst h
 kernel_rfl

theorem twice1_fn (rs ss : List Int) (hr : okReg rs = true) (hs : okReg ss = true) (x y : Int) : FnD Try.prog 51 ([] ++ [.int x, .int y] ++ [.pt [intL rs], .pt [intL ss]]) (hXY (bothP rs ss) [.int x, .int y]) := by
 have e1 := implHas_fn rs x y (okReg_len hr) (fun h => okReg_y hr h)
 have e2 := implHas_fn ss x y (okReg_len hs) (fun h => okReg_y hs h)
 rw [hXY_at, bothP]
 simp only [List.nil_append, List.cons_append]
 cases g1 : hasZ rs x y <;> cases g2 : hasZ ss x y
 all_goals
  rw [g1] at e1
  rw [g2] at e2
  refine fn_go Try.func51 rfl rfl Try.ntmps51 Try.results51 (by simp only [slo, Nat.reduceAdd]; rfl) (by simp) ?_
  repeat' (first | (with_reducible first | refine aw_seq fun K hK => ?_ | refine aw_region (by kernel_rfl) ?_) | ((with_reducible refine ev_aw ?_); first | (refine aw_draw (id := 1) (by kernel_rfl) _ _ (by kernel_rfl) (pl_Pic6_51_1 _ (by kernel_rfl)) ?_)) | (with_reducible first | refine ru_four ?_ ?_ ?_ ?_ | refine ru_three ?_ ?_ ?_ | refine ru_two ?_ ?_ | refine rv_split ?_ ?_ | refine rv_two ?_ ?_ | refine rp_two ?_ ?_) | ((with_reducible refine evg ?_); simp only [go_sem, St.clean, cleanO, ↓reduceIte, Nat.reduceEqDiff, Nat.reduceBEq, Nat.reduceAdd, Nat.reduceMul, Nat.reduceSub, Nat.reduceLT, Nat.reduceLeDiff]) | ((with_reducible refine ev_call ?_); (first | (refine call_fn e1 rfl ?_) | (refine call_fn e2 rfl ?_)); refine k_run ?_) | ((with_reducible refine And.intro ?_ ?_); (focus first | omega | (simp; done) | (simp; omega) | ((repeat' (with_reducible refine And.intro ?_ ?_)) <;> first | omega | rfl | (simp only [go_sem, refsL_app, refs_dmap] <;> fail) | (simp [refsL_app, refs_dmap, AV.refsL, AV.refs] <;> omega)))) | (with_reducible refine hJ _ (fun K hK => ?_) ?_ <;> clear hJ KJ) | ((with_reducible refine ev_less ?_); (refine ⟨rfl, ?_, ?_⟩ <;> simp only [go_sem, St.clean, cleanO, SubS, SubO, beq_self_eq_true, ↓reduceIte, Nat.reduceEqDiff, Nat.reduceBEq, Nat.reduceAdd, Nat.reduceMul, Nat.reduceSub, Nat.reduceLT, Nat.reduceLeDiff])) | ((with_reducible first | apply hK | (clear hK K; first | apply hK | (clear hK K; apply hK))); clear hK K) | (simp (disch := omega) only [dsq, Int.reduceSub, Int.reduceAdd, Int.reduceToNat]) | fail)
  refine res_tmp rfl (by simp [D.plain, plains]) (by simp) ?_
  rfl

theorem reg_opn (s : Nat) (zs : List Int) : Opn (.ag [intL zs]) (.ag [.bs s 0 zs.length 1]) [(s, .ds (zs.map D.int))] :=
 opn_ag (opnL_cons (opn_ls s (ints_plain zs)) opnL_nil rfl)

theorem emp_opn (s : Nat) : Opn (.ag [intL empZ]) (.ag [.bs s 0 24 1]) [(s, .ds (empZ.map D.int))] := reg_opn s empZ

theorem inI_regZ (p : Int -> Int -> Bool) : inI (regZ p) := fun i => by
 by_cases h : i < 24
 ·
  have := okReg_row (regZ_good p) h
  have := okRow_lt this
  omega
 ·
  rw [List.getD_eq_getElem?_getD, List.getElem?_eq_none (by simp; omega)]
  simp

theorem gridR_opn (s : Nat) (ws : List (List Int)) (ok : Bool) (hs : s < 1000000000) : Opn (.tu [gridD ws, .bool ok]) (.tu [.bs s 0 ws.length 1, .d (.bool ok)]) ((s, .av (gridC 1000000000 (lens ws))) :: gridO 1000000000 ws []) := by
 have := opn_tu (opnL_cons (opn_grid s 1000000000 ws hs) (opnL_v (x := .bool ok) opnL_nil) (by simp [apartN]))
 rw [List.append_nil] at this
 exact this

set_option maxRecDepth 100000 in
theorem pl_Pic6_14_3 (l : List Oper) (h : l = opsOf Try.f14 3) : planB l (.pure 0 (.pure 1 (.one 2 (.one 3 (.pure 4 (.pure 5 (.pure 6 (.pure 7 PT.fin)))))))) [] = true := by
 subst h
 kernel_rfl

theorem implTwice_fn (d l f s : Int) (rs ss : List Int) (hl : rs.length <= 9223372036854775807) (hi : inI rs) (hl2 : ss.length <= 9223372036854775807) (hi2 : inI ss) : FnD Try.prog 14 [.ag [.int d, .int l, .int f, .int s], .ag [intL rs], .ag [intL ss]] (twiceR d l f s rs ss) := by
 have e1 := isValidRegion_fn rs hl hi
 have e2 := isValidRegion_fn ss hl2 hi2
 have hnil : leD (.tu [.v (.slice none 0 0), .bool false]) (.tu [gridD [], .bool false]) := leD_tu (lesD_cons leD_nil (lesD_refl _))
 cases gr : okReg rs
 ·
  rw [gr] at e1
  rw [twiceR, gr, Bool.and_false, Bool.false_and]
  refine fnd_le ?_ hnil
  refine fn_go Try.func14 rfl rfl Try.ntmps14 Try.results14 (by simp only [slo, Nat.reduceAdd]; rfl) (by simp) ?_
  repeat' (first | (with_reducible first | refine aw_seq fun K hK => ?_ | refine aw_region (by kernel_rfl) ?_ | refine aw_condk ?_) | ((with_reducible refine ev_aw ?_); first | (refine aw_draw (id := 3) (by kernel_rfl) _ _ (by kernel_rfl) (pl_Pic6_14_3 _ (by kernel_rfl)) ?_)) | (with_reducible first | refine ru_four ?_ ?_ ?_ ?_ | refine ru_three ?_ ?_ ?_ | refine ru_two ?_ ?_ | refine rv_split ?_ ?_ | refine rv_two ?_ ?_ | refine rp_two ?_ ?_) | ((with_reducible refine evg ?_); simp only [go_sem, St.clean, cleanO, ↓reduceIte, Nat.reduceEqDiff, Nat.reduceBEq, Nat.reduceAdd, Nat.reduceMul, Nat.reduceSub, Nat.reduceLT, Nat.reduceLeDiff]) | ((with_reducible refine ev_call ?_); (first | (refine call_fn e1 rfl ?_)); refine k_run ?_) | ((with_reducible refine ev_guard ?_); (with_reducible first | refine guard_t ?_ ?_ rfl | refine guard_f ?_ ?_ rfl) <;> (intro h; (try simp only [h]); (try simp only [nrm] at h))) | ((with_reducible refine ck_split (fun h => ?_) (fun h => ?_)) <;> (try simp only [nrm] at h)) | ((with_reducible refine And.intro ?_ ?_); (focus first | omega | (simp; done) | (simp; omega) | ((repeat' (with_reducible refine And.intro ?_ ?_)) <;> first | omega | rfl | (simp only [go_sem, refsL_app, refs_dmap] <;> fail) | (simp [refsL_app, refs_dmap, AV.refsL, AV.refs] <;> omega)))) | (with_reducible refine hJ _ (fun K hK => ?_) ?_ <;> clear hJ KJ) | ((with_reducible refine ev_less ?_); (refine ⟨rfl, ?_, ?_⟩ <;> simp only [go_sem, St.clean, cleanO, SubS, SubO, beq_self_eq_true, ↓reduceIte, Nat.reduceEqDiff, Nat.reduceBEq, Nat.reduceAdd, Nat.reduceMul, Nat.reduceSub, Nat.reduceLT, Nat.reduceLeDiff])) | ((with_reducible first | apply hK | (clear hK K; first | apply hK | (clear hK K; apply hK))); clear hK K) | (simp (disch := omega) only [dsq, Int.reduceSub, Int.reduceAdd, Int.reduceToNat]) | fail)
  refine res_two rfl (by simp [D.plain, plains]) (by simp) ?_
  rfl
 ·
  rw [gr] at e1
  cases gs : okReg ss
  ·
   rw [gs] at e2
   rw [twiceR, gs, Bool.and_false]
   refine fnd_le ?_ hnil
   refine fn_go Try.func14 rfl rfl Try.ntmps14 Try.results14 (by simp only [slo, Nat.reduceAdd]; rfl) (by simp) ?_
   repeat' (first | (with_reducible first | refine aw_seq fun K hK => ?_ | refine aw_region (by kernel_rfl) ?_ | refine aw_condk ?_) | ((with_reducible refine ev_aw ?_); first | (refine aw_draw (id := 3) (by kernel_rfl) _ _ (by kernel_rfl) (pl_Pic6_14_3 _ (by kernel_rfl)) ?_)) | (with_reducible first | refine ru_four ?_ ?_ ?_ ?_ | refine ru_three ?_ ?_ ?_ | refine ru_two ?_ ?_ | refine rv_split ?_ ?_ | refine rv_two ?_ ?_ | refine rp_two ?_ ?_) | ((with_reducible refine evg ?_); simp only [go_sem, St.clean, cleanO, ↓reduceIte, Nat.reduceEqDiff, Nat.reduceBEq, Nat.reduceAdd, Nat.reduceMul, Nat.reduceSub, Nat.reduceLT, Nat.reduceLeDiff]) | ((with_reducible refine ev_call ?_); (first | (refine call_fn e1 rfl ?_) | (refine call_fn e2 rfl ?_)); refine k_run ?_) | ((with_reducible refine ev_guard ?_); (with_reducible first | refine guard_t ?_ ?_ rfl | refine guard_f ?_ ?_ rfl) <;> (intro h; (try simp only [h]); (try simp only [nrm] at h))) | ((with_reducible refine ck_split (fun h => ?_) (fun h => ?_)) <;> (try simp only [nrm] at h)) | ((with_reducible refine And.intro ?_ ?_); (focus first | omega | (simp; done) | (simp; omega) | ((repeat' (with_reducible refine And.intro ?_ ?_)) <;> first | omega | rfl | (simp only [go_sem, refsL_app, refs_dmap] <;> fail) | (simp [refsL_app, refs_dmap, AV.refsL, AV.refs] <;> omega)))) | (with_reducible refine hJ _ (fun K hK => ?_) ?_ <;> clear hJ KJ) | ((with_reducible refine ev_less ?_); (refine ⟨rfl, ?_, ?_⟩ <;> simp only [go_sem, St.clean, cleanO, SubS, SubO, beq_self_eq_true, ↓reduceIte, Nat.reduceEqDiff, Nat.reduceBEq, Nat.reduceAdd, Nat.reduceMul, Nat.reduceSub, Nat.reduceLT, Nat.reduceLeDiff])) | ((with_reducible first | apply hK | (clear hK K; first | apply hK | (clear hK K; apply hK))); clear hK K) | (simp (disch := omega) only [dsq, Int.reduceSub, Int.reduceAdd, Int.reduceToNat]) | fail)
   refine res_two rfl (by simp [D.plain, plains]) (by simp) ?_
   rfl
  ·
   rw [gs] at e2
   have e3 := regionOf_fn (bothP rs ss)
   have e4 : ∀ ds, isXY ds -> FnD Try.prog 51 ([] ++ ds ++ [.pt [intL rs], .pt [intL ss]]) (hXY (bothP rs ss) ds) := by
    rintro ds ⟨x, y, rfl, _⟩
    exact twice1_fn rs ss gr gs x y
   have e5 := (twice1_fn rs ss gr gs 0 0).1
   have e6 := implCtr_fn d l f s (regZ (bothP rs ss)) (by simp) (inI_regZ _)
   have hR : twiceR d l f s rs ss = ctrR d l f s (regZ (bothP rs ss)) := by
    rw [twiceR, ctrR, gr, gs, regZ_good, Bool.and_true, Bool.and_true]
   rw [hR]
   obtain ⟨ws, ok, e, hw1, hw2⟩ := ctrR_ex d l f s (regZ (bothP rs ss))
   rw [e] at e6 ⊢
   rw [← ints_raw (regZ (bothP rs ss)), regZ_len] at e6
   have o2 := gridR_opn 19 ws ok (by decide)
   simp only [gridD] at e6 o2
   refine fn_go Try.func14 rfl rfl Try.ntmps14 Try.results14 (by simp only [slo, Nat.reduceAdd]; rfl) (by simp) ?_
   repeat' (first | (with_reducible first | refine aw_seq fun K hK => ?_ | refine aw_region (by kernel_rfl) ?_ | refine aw_condk ?_) | ((with_reducible refine ev_aw ?_); first | (refine aw_draw (id := 3) (by kernel_rfl) _ _ (by kernel_rfl) (pl_Pic6_14_3 _ (by kernel_rfl)) ?_)) | (with_reducible first | refine ru_four ?_ ?_ ?_ ?_ | refine ru_three ?_ ?_ ?_ | refine ru_two ?_ ?_ | refine rv_split ?_ ?_ | refine rv_two ?_ ?_ | refine rp_two ?_ ?_) | ((with_reducible refine evg ?_); simp only [go_sem, St.clean, cleanO, ↓reduceIte, Nat.reduceEqDiff, Nat.reduceBEq, Nat.reduceAdd, Nat.reduceMul, Nat.reduceSub, Nat.reduceLT, Nat.reduceLeDiff]) | (simp (disch := omega) only [dsq, Int.reduceSub, Int.reduceAdd, Int.reduceToNat]) | ((with_reducible refine ev_call ?_); (first | (refine call_fn e1 rfl ?_) | (refine call_fn e2 rfl ?_) | (refine call_pred1 e3 e5 rfl rfl e4 ?_ ) | (refine call_new e6 o2 ?_ ?_ ?_ ?_; (focus first | rfl | ((try simp only [List.nil_append, List.append_nil, List.cons_append]); (repeat' first | (with_reducible refine mapD_cons ?_ ?_) | exact mapD_nil | exact toD_d | (apply toD_grid <;> (simp (disch := omega) only [lookO, lookO_lo, lookO_hi, hasG_nil, hasG_cons, hasG_self, hasG_lo, hasG_hi, lens_len, Nat.reduceEqDiff, ↓reduceIte]; first | done | rfl)) | (apply toD_nums <;> (simp (disch := omega) only [lookO, lookO_lo, lookO_hi, hasG_nil, hasG_cons, hasG_self, hasG_lo, hasG_hi, lens_len, Nat.reduceEqDiff, ↓reduceIte]; first | done | rfl)) | (apply toD_reg <;> (simp (disch := omega) only [lookO, lookO_lo, lookO_hi, hasG_nil, hasG_cons, hasG_self, hasG_lo, hasG_hi, lens_len, Nat.reduceEqDiff, ↓reduceIte]; first | done | rfl)) | (refine toD_rows ?_ rfl <;> (simp (disch := omega) only [lookO, lookO_lo, lookO_hi, hasG_nil, hasG_cons, hasG_self, hasG_lo, hasG_hi, lens_len, Nat.reduceEqDiff, ↓reduceIte]; first | done | rfl))) <;> fail)); (focus (simp [newN, lookO, newN_all, ltAll, ltAll_grid, ltAll_grid0] <;> fail)); (focus (simp (disch := omega) only [dropO, killN, dropO_grid, killR_nil, killR_cons, killR_grid, killR_hi, killN_grid, apartO, Nat.reduceEqDiff, ↓reduceIte]; (first | (rw [apartO_hi ?_ ?_]; rotate_left; (focus omega); (focus (simp [AV.lo, AV.loL] <;> fail))) | (rw [apartO_lo ?_ ?_]; rotate_left; (focus (simp (disch := omega) [loO_ds, loO_av, loO_nil, loO_grid, loL_gridC, AV.lo, AV.loL] <;> fail)); (focus (simp [AV.lo, AV.loL] <;> fail))) | skip); (simp [-List.map_map, apartO, dropO, killN, obCells, refs_dmap, nofnsD, AV.refs, AV.refsL, AV.nofn, AV.nofns, all_grid, gridC_refs, gridC_refsR, gridC_nofns] <;> fail))))); refine k_run ?_) | ((with_reducible refine ev_guard ?_); (with_reducible first | refine guard_t ?_ ?_ rfl | refine guard_f ?_ ?_ rfl) <;> (intro h; (try simp only [h]); (try simp only [nrm] at h) <;> (try ((with_reducible exfalso); omega)))) | ((with_reducible refine ck_split (fun h => ?_) (fun h => ?_)) <;> (try simp only [nrm] at h) <;> (try ((with_reducible exfalso); omega))) | ((with_reducible refine And.intro ?_ ?_); (focus first | omega | (simp; done) | (simp; omega) | ((repeat' (with_reducible refine And.intro ?_ ?_)) <;> first | omega | rfl | (simp only [go_sem, refsL_app, refs_dmap] <;> fail) | (simp [refsL_app, refs_dmap, AV.refsL, AV.refs] <;> omega)))) | (with_reducible refine hJ _ (fun K hK => ?_) ?_ <;> clear hJ KJ) | ((with_reducible refine ev_less ?_); (refine ⟨rfl, ?_, ?_⟩ <;> simp only [go_sem, St.clean, cleanO, SubS, SubO, beq_self_eq_true, ↓reduceIte, Nat.reduceEqDiff, Nat.reduceBEq, Nat.reduceAdd, Nat.reduceMul, Nat.reduceSub, Nat.reduceLT, Nat.reduceLeDiff])) | ((with_reducible first | apply hK | (clear hK K; first | apply hK | (clear hK K; apply hK))); clear hK K) | fail)
   exact res_gridB rfl rfl rfl (by rw [hasG_cons (by decide)]; exact of_eq_true hasG_self) rfl (by decide) rfl

end Go.Proofs.Ytjbifidphckjoaa
