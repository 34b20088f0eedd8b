/- Pictures that are drawn cell by cell: the program's way. -/
import Derived.Test.YtjbifidphckjoaaBox
import Derived.Test.YtjbifidphckjoaaCells
import Derived.Test.YtjbifidphckjoaaWords
import Derived.WalkKit
import Derived.WalkSpells
import Derived.KernelRfl
namespace Go.Proofs.Ytjbifidphckjoaa
open Go.RowKit
set_option maxRecDepth 100000
set_option maxHeartbeats 4000000
set_option linter.unusedVariables false
set_option linter.unusedSimpArgs false

attribute [local go_sem] intL gridD lookO_lo killO_grid delO_grid putO_lo gridO_app dropGe dropGe_grid cleanO_grid gridC_len gridC_refs gridQ_refs lens_len rowsD_len setG_len dropO_grid killR_nil killR_cons killR_grid killN_lo newN_gridN hasN_cons hasN_grid Nat.le_refl refs_dmap

attribute [local simp] ints_plain ints_all ints_all1 ints_plain_take refs_dmap pairs_plain pairs_all

def row0 : List Int := List.replicate 20 0

def grid0 : List (List Int) := List.replicate 24 row0

def len24 : List Nat := List.replicate 24 20

@[simp] theorem len24_len : len24.length = 24 := List.length_replicate

theorem rep_snoc {α : Type} (n : Nat) (x : α) : List.replicate (n + 1) x = List.replicate n x ++ [x] := by
 rw [List.replicate_succ']

theorem grid_fn : FnD Try.prog 75 [] (gridD grid0) := by
 refine fn_go Try.func75 rfl rfl Try.ntmps75 Try.results75 (by simp only [slo, Nat.reduceAdd]; rfl) (by simp) ?_
 repeat' (first | (with_reducible first | refine aw_seq fun K hK => ?_ | refine aw_region (by kernel_rfl) ?_ | refine aw_condk ?_ | refine aw_block ?_) | ((with_reducible refine evg ?_); simp only [go_sem, ↓reduceIte, Nat.reduceEqDiff, Nat.reduceBEq, Nat.reduceAdd, Nat.reduceMul, Nat.reduceSub, Nat.reduceLT, Nat.reduceLeDiff]) | (simp (disch := omega) only [dsq, Int.reduceSub, Int.reduceAdd, Int.reduceToNat]) | ((with_reducible refine ck_split (fun h => ?_) (fun h => ?_)) <;> (try simp only [nrm] at h) <;> (try ((with_reducible exfalso); omega))) | ((with_reducible refine And.intro ?_ ?_); (focus first | omega | (simp; done) | (simp; omega) | ((repeat' (with_reducible refine And.intro ?_ ?_)) <;> first | omega | rfl | (simp only [go_sem, refsL_app, refs_dmap] <;> fail) | (simp [refsL_app, refs_dmap, AV.refsL, AV.refs] <;> omega)))) | ((with_reducible first | apply hK | (clear hK K; first | apply hK | (clear hK K; apply hK))); clear hK K) | fail)
 refine aw_asAv 3 ?_
 refine aw_loopG [2, 6, 7, 8, 9, 10, 11, 12, 13] [3, 11] 1000000000 (fun i : Nat => [(6, .d (.int i))]) (fun i => (3, .av (gridQ 1000000000 (lens (List.replicate i row0)) 24)) :: gridO 1000000000 (List.replicate i row0) []) (fun i => i <= 24) (fun i => 24 - i) 0 (by omega) ?_ ?_
 ·
  (refine lessW_of [] ?_ ?_ <;> simp (disch := omega) only [okSw, decide_eq_true_eq, Bool.and_eq_true, Bool.or_eq_true, St.updG, St.asAv, avO, dropGe, dropGe_grid, subO_grid, gridO_nil, gridO_app, gridQ_put, take_zero, hasG_nil, hasG_snoc, hasG_cons, hasG_next, hasG_self, hasG_lo, hasG_hi, lookO_lo, lookO_hi, lookO_row, lookKN, swO_grid, swO_grid0, gridC_sw0, gridC_sw, lsq, lookO, List.elem, List.cons_append, List.nil_append, cond_true, cond_false, and_true, true_and, beq_self_eq_true, ↓reduceIte, Nat.reduceEqDiff, Nat.reduceBEq, Nat.reduceAdd, Nat.reduceMul, Nat.reduceSub, Nat.reduceLT, Nat.reduceLeDiff] <;> try simp)
  exact ⟨rfl, fun i hi => by simp at hi⟩
 ·
  rintro i g1
  simp only [St.updG, St.asAv, avO, dropS, dropOs, dropGe, dropGe_grid, dropGe_keep, gridO_nil, List.elem, List.cons_append, List.nil_append, gridO_app, cond_true, cond_false, beq_self_eq_true, ↓reduceIte, Nat.reduceEqDiff, Nat.reduceBEq, Nat.reduceAdd, Nat.reduceMul, Nat.reduceSub, Nat.reduceLT, Nat.reduceLeDiff]
  by_cases hi : i < 24
  ·
   have hql : (gridQ 1000000000 (lens (List.replicate i row0)) 24).length = 24 := gridQ_len (by simp; omega)
   repeat' (first | (with_reducible first | refine aw_seq fun K hK => ?_ | refine aw_region (by kernel_rfl) ?_ | refine aw_condk ?_ | refine aw_block ?_) | ((with_reducible refine evg ?_); simp only [go_sem, ↓reduceIte, Nat.reduceEqDiff, Nat.reduceBEq, Nat.reduceAdd, Nat.reduceMul, Nat.reduceSub, Nat.reduceLT, Nat.reduceLeDiff]) | (simp (disch := omega) only [dsq, Int.reduceSub, Int.reduceAdd, Int.reduceToNat, wr, hql]) | ((with_reducible refine ck_split (fun h => ?_) (fun h => ?_)) <;> (try simp only [nrm] at h) <;> (try ((with_reducible exfalso); omega))) | ((with_reducible refine And.intro ?_ ?_); (focus first | omega | (simp; done) | (simp; omega) | ((repeat' (with_reducible refine And.intro ?_ ?_)) <;> first | omega | rfl | (simp only [go_sem, refsL_app, refs_dmap] <;> fail) | (simp [refsL_app, refs_dmap, AV.refsL, AV.refs] <;> omega)))) | ((with_reducible first | apply hK | (clear hK K; first | apply hK | (clear hK K; apply hK))); clear hK K) | fail)
   refine ⟨i + 1, by omega, by omega, ?_⟩
   (refine lessW_of [(11, i + 1000000000)] ?_ ?_ <;> simp (disch := omega) only [okSw, decide_eq_true_eq, Bool.and_eq_true, Bool.or_eq_true, St.updG, St.asAv, avO, dropGe, dropGe_grid, subO_grid, gridO_nil, gridO_app, gridQ_put, take_zero, hasG_nil, hasG_snoc, hasG_cons, hasG_next, hasG_self, hasG_lo, hasG_hi, lookO_lo, lookO_hi, lookO_row, lookKN, swO_grid, swO_grid0, gridC_sw0, gridC_sw, lsq, lookO, List.elem, List.cons_append, List.nil_append, cond_true, cond_false, and_true, true_and, beq_self_eq_true, ↓reduceIte, Nat.reduceEqDiff, Nat.reduceBEq, Nat.reduceAdd, Nat.reduceMul, Nat.reduceSub, Nat.reduceLT, Nat.reduceLeDiff] <;> try simp)
   rw [rep_snoc, show lens (List.replicate i row0 ++ [row0]) = lens (List.replicate i row0) ++ [20] by simp [lens, row0]]
   have hll : (lens (List.replicate i row0)).length = i := by simp
   exact ⟨gridQ_step hll (by decide) hi, hasG_step (z := row0) (by simp) (by decide) (by decide)⟩
  ·
   repeat' (first | (with_reducible first | refine aw_seq fun K hK => ?_ | refine aw_region (by kernel_rfl) ?_ | refine aw_condk ?_ | refine aw_block ?_) | ((with_reducible refine evg ?_); simp only [go_sem, ↓reduceIte, Nat.reduceEqDiff, Nat.reduceBEq, Nat.reduceAdd, Nat.reduceMul, Nat.reduceSub, Nat.reduceLT, Nat.reduceLeDiff]) | (simp (disch := omega) only [dsq, Int.reduceSub, Int.reduceAdd, Int.reduceToNat]) | ((with_reducible refine ck_split (fun h => ?_) (fun h => ?_)) <;> (try simp only [nrm] at h) <;> (try ((with_reducible exfalso); omega))) | ((with_reducible refine And.intro ?_ ?_); (focus first | omega | (simp; done) | (simp; omega) | ((repeat' (with_reducible refine And.intro ?_ ?_)) <;> first | omega | rfl | (simp only [go_sem, refsL_app, refs_dmap] <;> fail) | (simp [refsL_app, refs_dmap, AV.refsL, AV.refs] <;> omega)))) | ((with_reducible first | apply hK | (clear hK K; first | apply hK | (clear hK K; apply hK))); clear hK K) | fail)
   have e : i = 24 := by omega
   subst e
   rw [gridQ_full (by simp)]
   exact res_grid (zs := grid0) rfl rfl (by rw [hasG_cons (by decide)]; exact of_eq_true hasG_self) rfl (by decide) rfl

abbrev outO (g : FuncId) (fs cs : List D) (zs : List (List Int)) : List (Nat × OB) := (5000, .av (gridC 10000 len24)) :: (5001, .av [.fc g (fs.map AV.d) (cs.map AV.d)]) :: (5002, .av [.bs 5000 0 24 1]) :: gridO 10000 zs []

theorem outO_lens (g : FuncId) (fs cs : List D) (zs zs' : List (List Int)) (h : lens zs' = lens zs) : lensO (outO g fs cs zs) (outO g fs cs zs') := by
 simp only [outO, lensO, lookO, Nat.reduceEqDiff, ↓reduceIte, true_and]
 refine lensO_grid (zs := zs) (by simp only [lensO]) ?_ h
 rw [hasG_cons (by decide), hasG_cons (by decide), hasG_cons (by decide)]
 exact of_eq_true hasG_self

def ok20 (zs : List (List Int)) : Prop := zs.length = 24 /\ ∀ y, y < 24 -> (zs.getD y []).length = 20

theorem ok20_set {zs : List (List Int)} (h : ok20 zs) {x y : Nat} {v : Int} : ok20 (setG zs x y v) := by
 refine ⟨by rw [setG_len]; exact h.1, fun i hi => ?_⟩
 have := h.2 i hi
 by_cases e : y = i
 ·
  subst e
  have hy : y < zs.length := by rw [h.1]; exact hi
  simp only [setG, List.getD_eq_getElem?_getD, List.getElem?_set, if_true, hy] at this ⊢
  simpa using this
 · simpa [setG, List.getD_eq_getElem?_getD, List.getElem?_set, e] using this

theorem ok20_lens {zs : List (List Int)} (h : ok20 zs) : lens zs = len24 := by
 apply List.ext_getElem (by simp [h.1])
 intro i h1 h2
 have hi : i < 24 := by simpa using h2
 have := h.2 i hi
 have hz : i < zs.length := by rw [h.1]; exact hi
 have e1 : (lens zs)[i] = (zs.getD i []).length := by simp [lens, List.getD_eq_getElem?_getD, hz]
 have e2 : len24[i] = 20 := by simp only [len24, List.getElem_replicate]
 exact e1.trans (this.trans e2.symm)

theorem len24_at {y : Nat} (h : y < 24) : (gridC 10000 len24).getD y .un = .bs (y + 10000) 0 20 1 := by
 rw [gridC_at (by simpa using h)]
 congr 1
 rw [len24, List.getD_eq_getElem?_getD, List.getElem?_replicate, if_pos h]
 rfl

set_option maxRecDepth 100000 in
theorem pl_Grid3_77_0 (l : List Oper) (h : l = opsOf Try.f77 0) : planB l (.pure 0 (.pure 1 (.pure 2 (.pure 3 (.pure 4 (.pure 5 (.pure 6 (.pure 7 (.one 8 (.pure 9 PT.fin)))))))))) [10] = true := by
 subst h
 kernel_rfl

theorem pic1_hi (g : FuncId) (fs cs : List D) (zs : List (List Int)) (x y : Nat) (v : Int) (hz : ok20 zs) (hx : x < 20) (hy : y < 24) (hf : FnD Try.prog g (fs ++ [.int x, .int y] ++ cs) (.int v)) : FnS Try.prog 77 (outO g fs cs zs) [.d (.int x), .d (.int y), .bp 5001 0, .bp 5002 0] (outO g fs cs (setG zs x y v)) (.tu []) := by
 have e1 : lookO (gridO 10000 zs []) (y + 10000) = some (.ds ((zs.getD y []).map D.int)) := lookO_row (by rw [hz.1]; exact hy)
 have hz1 := hz.1
 have hz2 := hz.2 y hy
 have hlr : ((zs.getD y []).map D.int).length = 20 := by simpa using hz2
 have h24 : (gridC 10000 len24).length = 24 := by simp
 refine fns_go Try.func77 rfl rfl Try.ntmps77 Try.results77 (by simp only [slotsA, Nat.reduceAdd]; rfl) (by simp) (by simp (disch := omega) only [geAll, geAll_grid]; rfl) ?_
 repeat' (first | (with_reducible first | refine aw_seq fun K hK => ?_ | refine aw_region (by kernel_rfl) ?_) | ((with_reducible refine ev_aw ?_); first | (refine aw_draw (id := 0) (by kernel_rfl) _ _ (by kernel_rfl) (pl_Grid3_77_0 _ (by kernel_rfl)) ?_)) | (with_reducible first | refine ru_four ?_ ?_ ?_ ?_ | refine ru_three ?_ ?_ ?_ | refine ru_two ?_ ?_ | refine rv_split ?_ ?_ | refine rv_two ?_ ?_ | refine rp_two ?_ ?_) | ((with_reducible refine evg ?_); simp only [go_sem, St.clean, cleanO, ↓reduceIte, Nat.reduceEqDiff, Nat.reduceBEq, Nat.reduceAdd, Nat.reduceMul, Nat.reduceSub, Nat.reduceLT, Nat.reduceLeDiff]) | (simp (disch := omega) only [dsq, Int.reduceSub, Int.reduceAdd, Int.reduceToNat, wr, len24_at, e1, hlr, h24, map_set, putO_row]) | ((with_reducible refine ev_call ?_); (first | (refine call_fn hf mapD_fxy ?_ )); refine k_run ?_) | ((with_reducible refine And.intro ?_ ?_); (focus first | omega | (simp; done) | (simp; omega) | ((repeat' (with_reducible refine And.intro ?_ ?_)) <;> first | omega | rfl | (simp only [go_sem, refsL_app, refs_dmap] <;> fail) | (simp [refsL_app, refs_dmap, AV.refsL, AV.refs] <;> omega)))) | (with_reducible refine hJ _ (fun K hK => ?_) ?_ <;> clear hJ KJ) | ((with_reducible refine ev_less ?_); (refine ⟨rfl, ?_, ?_⟩ <;> simp only [go_sem, St.clean, cleanO, SubS, SubO, beq_self_eq_true, ↓reduceIte, Nat.reduceEqDiff, Nat.reduceBEq, Nat.reduceAdd, Nat.reduceMul, Nat.reduceSub, Nat.reduceLT, Nat.reduceLeDiff])) | ((with_reducible first | apply hK | (clear hK K; first | apply hK | (clear hK K; apply hK))); clear hK K) | fail)
 refine ress_unit (outO_lens g fs cs zs (setG zs x y v) (lens_setG zs x y v)) ?_
 simp only [SubO, lookO, Nat.reduceEqDiff, ↓reduceIte, subO_grid]
 refine ⟨trivial, trivial, trivial, ?_, trivial⟩
 rw [hasG_cons (by decide), hasG_cons (by decide), hasG_cons (by decide)]
 exact of_eq_true hasG_self

def picN (h : Nat -> Nat -> Int) (C : List Nat) (zs : List (List Int)) : Nat -> List (List Int)
 | 0 => zs
 | i + 1 => setG (picN h C zs i) (C.getD i 0 % 20) (C.getD i 0 / 20) (h (C.getD i 0 % 20) (C.getD i 0 / 20))

theorem picN_ok {h : Nat -> Nat -> Int} {C : List Nat} {zs : List (List Int)} (hz : ok20 zs) : ∀ i, ok20 (picN h C zs i)
 | 0 => hz
 | i + 1 => ok20_set (picN_ok hz i)

theorem shZ_ok : okReg shZ = true := by decide +kernel

theorem shZ_has {x y : Nat} (hx : x < 20) (hy : y < 24) : hasZ shZ x y = inSh x y := by
 rw [hasZ, inR_iff.2 (by omega), inR_iff.2 (by omega), shZ, regZ_bit (by omega) (by omega) (by omega)]
 simp
 omega

theorem pairG_at {C : List Nat} {i : Nat} (h : i < C.length) : ((recC pairD C).drop (i * 2)).take 2 = [.int ((C.getD i 0 % 20 : Nat) : Int), .int ((C.getD i 0 / 20 : Nat) : Int)] := recC_at pair_k 0 h

theorem shZ_raw : D.ls 1 24 (((shZ.map D.int).drop 0).take (24 * 1)) = intL shZ := ints_raw shZ

theorem each_hi (g : FuncId) (fs cs : List D) (zs : List (List Int)) (h : Nat -> Nat -> Int) (hz : ok20 zs) (hf : ∀ x y : Nat, x < 20 -> y < 24 -> inSh x y = true -> FnD Try.prog g (fs ++ [.int x, .int y] ++ cs) (.int (h x y))) : FnS Try.prog 76 ((5003, .ds (shZ.map D.int)) :: outO g fs cs zs) [.ag [.bs 5003 0 24 1], .fc 77 [] [.bp 5001 0, .bp 5002 0]] ((5003, .ds (shZ.map D.int)) :: outO g fs cs (picN h (cellsN shZ 480) zs (cellsN shZ 480).length)) (.tu []) := by
 have hz1 := hz.1
 have e1 := cells_fn shZ shZ_ok
 rw [← shZ_raw] at e1
 have hmem : ∀ c ∈ cellsN shZ 480, c < 480 /\ inSh (c % 20 : Nat) (c / 20 : Nat) = true := fun c hc => by
  have := cellsN_mem hc
  rw [shZ_has (by omega) (by omega)] at this
  exact this
 have hlen := cellsN_len shZ 480
 have hl2 := pairs_len (cellsN shZ 480)
 have hshl : (shZ.map D.int).length = 24 := rfl
 generalize cellsN shZ 480 = C at *
 generalize shZ.map D.int = S at *
 refine fns_go Try.func76 rfl rfl Try.ntmps76 Try.results76 (by simp only [slotsA, Nat.reduceAdd]; rfl) (by simp) (by simp (disch := omega) only [geAll, geAll_grid]; rfl) ?_
 repeat' (first | (with_reducible first | refine aw_seq fun K hK => ?_ | refine aw_region (by kernel_rfl) ?_ | refine aw_condk ?_ | refine aw_block ?_) | ((with_reducible refine evg ?_); simp only [go_sem, ↓reduceIte, Nat.reduceEqDiff, Nat.reduceBEq, Nat.reduceAdd, Nat.reduceMul, Nat.reduceSub, Nat.reduceLT, Nat.reduceLeDiff]) | (simp (disch := omega) only [dsq, Int.reduceSub, Int.reduceAdd, Int.reduceToNat]) | ((with_reducible refine ev_call ?_); (first | (refine call_fn e1 rfl ?_)); refine k_run ?_) | ((with_reducible refine ck_split (fun h => ?_) (fun h => ?_)) <;> (try simp only [nrm] at h) <;> (try ((with_reducible exfalso); omega))) | ((with_reducible refine And.intro ?_ ?_); (focus first | omega | (simp; done) | (simp; omega) | ((repeat' (with_reducible refine And.intro ?_ ?_)) <;> first | omega | rfl | (simp only [go_sem, refsL_app, refs_dmap] <;> fail) | (simp [refsL_app, refs_dmap, AV.refsL, AV.refs] <;> omega)))) | ((with_reducible first | apply hK | (clear hK K; first | apply hK | (clear hK K; apply hK))); clear hK K) | fail)
 refine aw_loopG [5, 9, 10, 11, 12, 13, 14, 15, 16, 17, 18, 19] [5, 18] 10000 (fun i : Nat => [(9, .d (.int i))]) (fun i => gridO 10000 (picN h C zs i) []) (fun i => i <= C.length) (fun i => C.length - i) 0 (by omega) ?_ ?_
 ·
  (refine lessW_of [] ?_ ?_ <;> simp (disch := omega) only [okSw, decide_eq_true_eq, Bool.and_eq_true, Bool.or_eq_true, St.updG, St.asAv, avO, dropGe, dropGe_grid, subO_grid, gridO_nil, gridO_app, gridQ_put, take_zero, hasG_nil, hasG_snoc, hasG_cons, hasG_next, hasG_self, hasG_lo, hasG_hi, lookO_lo, lookO_hi, lookO_row, lookKN, swO_grid, swO_grid0, gridC_sw0, gridC_sw, lsq, lookO, List.elem, List.cons_append, List.nil_append, cond_true, cond_false, and_true, true_and, beq_self_eq_true, ↓reduceIte, Nat.reduceEqDiff, Nat.reduceBEq, Nat.reduceAdd, Nat.reduceMul, Nat.reduceSub, Nat.reduceLT, Nat.reduceLeDiff] <;> try simp)
  exact of_eq_true hasG_self
 ·
  rintro i g1
  simp only [St.updG, St.asAv, avO, dropS, dropOs, dropGe, dropGe_grid, dropGe_keep, gridO_nil, List.elem, List.cons_append, List.nil_append, gridO_app, cond_true, cond_false, beq_self_eq_true, ↓reduceIte, Nat.reduceEqDiff, Nat.reduceBEq, Nat.reduceAdd, Nat.reduceMul, Nat.reduceSub, Nat.reduceLT, Nat.reduceLeDiff]
  by_cases hi : i < C.length
  ·
   have hc := hmem _ (getD_mem 0 hi)
   have hok := picN_ok (h := h) (C := C) hz i
   have hll := ok20_lens hok
   have e2 := pic1_hi g fs cs (picN h C zs i) (C.getD i 0 % 20) (C.getD i 0 / 20) _ hok (by omega) (by omega) (hf _ _ (by omega) (by omega) hc.2)
   repeat' (first | (with_reducible first | refine aw_seq fun K hK => ?_ | refine aw_region (by kernel_rfl) ?_ | refine aw_condk ?_ | refine aw_block ?_) | ((with_reducible refine evg ?_); simp only [go_sem, ↓reduceIte, Nat.reduceEqDiff, Nat.reduceBEq, Nat.reduceAdd, Nat.reduceMul, Nat.reduceSub, Nat.reduceLT, Nat.reduceLeDiff]) | (simp (disch := omega) only [dsq, Int.reduceSub, Int.reduceAdd, Int.reduceToNat, wr, pairG_at, List.getD_cons_zero, List.getD_cons_succ]) | ((with_reducible refine ev_call ?_); (first | (refine call_s e2 ?_ ?_ ?_ ?_ ?_; (focus rfl); (focus (simp (disch := omega) only [SubO, lookO, subO_grid, hasG_nil, hasG_cons, hasG_self, hasG_lo, hasG_hi, lookO_lo, lookO_hi, true_and, and_true, Nat.reduceEqDiff, ↓reduceIte] <;> fail)); (focus (simp [newN, lookO, ltAll, newN_gridN, hasN_cons, hasN_grid, setG_len, lens_len] <;> fail)); (focus (simp [-List.map_map, apartO, dropO, killN, obCells, refs_dmap, nofnsD, AV.refs, AV.refsL, AV.nofn, AV.nofns, all_grid, dropO_grid, killR_nil, killR_cons, killR_grid, killN_lo, gridC_refs, gridC_nofns] <;> fail)))); refine k_run ?_) | ((with_reducible refine ck_split (fun h => ?_) (fun h => ?_)) <;> (try simp only [nrm] at h) <;> (try ((with_reducible exfalso); omega))) | ((with_reducible refine And.intro ?_ ?_); (focus first | omega | (simp; done) | (simp; omega) | ((repeat' (with_reducible refine And.intro ?_ ?_)) <;> first | omega | rfl | (simp only [go_sem, refsL_app, refs_dmap] <;> fail) | (simp [refsL_app, refs_dmap, AV.refsL, AV.refs] <;> omega)))) | ((with_reducible first | apply hK | (clear hK K; first | apply hK | (clear hK K; apply hK))); clear hK K) | fail)
   refine ⟨i + 1, by omega, by omega, ?_⟩
   (refine lessW_of [] ?_ ?_ <;> simp (disch := omega) only [okSw, decide_eq_true_eq, Bool.and_eq_true, Bool.or_eq_true, St.updG, St.asAv, avO, dropGe, dropGe_grid, subO_grid, gridO_nil, gridO_app, gridQ_put, take_zero, hasG_nil, hasG_snoc, hasG_cons, hasG_next, hasG_self, hasG_lo, hasG_hi, lookO_lo, lookO_hi, lookO_row, lookKN, swO_grid, swO_grid0, gridC_sw0, gridC_sw, lsq, lookO, List.elem, List.cons_append, List.nil_append, cond_true, cond_false, and_true, true_and, beq_self_eq_true, ↓reduceIte, Nat.reduceEqDiff, Nat.reduceBEq, Nat.reduceAdd, Nat.reduceMul, Nat.reduceSub, Nat.reduceLT, Nat.reduceLeDiff] <;> try simp)
   simp only [← List.getD_eq_getElem?_getD]
   rw [picN]
   exact of_eq_true hasG_self
  ·
   repeat' (first | (with_reducible first | refine aw_seq fun K hK => ?_ | refine aw_region (by kernel_rfl) ?_ | refine aw_condk ?_ | refine aw_block ?_) | ((with_reducible refine evg ?_); simp only [go_sem, ↓reduceIte, Nat.reduceEqDiff, Nat.reduceBEq, Nat.reduceAdd, Nat.reduceMul, Nat.reduceSub, Nat.reduceLT, Nat.reduceLeDiff]) | (simp (disch := omega) only [dsq, Int.reduceSub, Int.reduceAdd, Int.reduceToNat]) | ((with_reducible refine ck_split (fun h => ?_) (fun h => ?_)) <;> (try simp only [nrm] at h) <;> (try ((with_reducible exfalso); omega))) | ((with_reducible refine And.intro ?_ ?_); (focus first | omega | (simp; done) | (simp; omega) | ((repeat' (with_reducible refine And.intro ?_ ?_)) <;> first | omega | rfl | (simp only [go_sem, refsL_app, refs_dmap] <;> fail) | (simp [refsL_app, refs_dmap, AV.refsL, AV.refs] <;> omega)))) | ((with_reducible first | apply hK | (clear hK K; first | apply hK | (clear hK K; apply hK))); clear hK K) | fail)
   have e : i = C.length := by omega
   subst e
   refine ress_unit ?_ ?_
   ·
    simp only [outO, lensO, lookO, Nat.reduceEqDiff, ↓reduceIte, true_and]
    refine lensO_grid (zs := zs) (by simp only [lensO]) ?_ ((ok20_lens (picN_ok hz _)).trans (ok20_lens hz).symm)
    rw [hasG_cons (by decide), hasG_cons (by decide), hasG_cons (by decide), hasG_cons (by decide)]
    exact of_eq_true hasG_self
   ·
    simp only [SubO, lookO, lookO_lo (show 5000 < 10000 by decide), lookO_lo (show 5001 < 10000 by decide), lookO_lo (show 5002 < 10000 by decide), lookO_lo (show 5003 < 10000 by decide), Nat.reduceEqDiff, ↓reduceIte, subO_grid]
    exact ⟨trivial, trivial, trivial, trivial, of_eq_true hasG_self, trivial⟩

end Go.Proofs.Ytjbifidphckjoaa
