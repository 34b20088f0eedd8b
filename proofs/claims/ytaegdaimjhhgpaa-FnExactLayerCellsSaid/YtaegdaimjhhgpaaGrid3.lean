/- Pictures that are drawn cell by cell: the program's way. -/
import Derived.Test.YtaegdaimjhhgpaaGrid
import Derived.Test.YtaegdaimjhhgpaaCells
import Derived.Test.YtaegdaimjhhgpaaWords
import Derived.WalkKit
import Derived.WalkSpells
import Derived.KernelRfl
namespace Go.Proofs.Ytaegdaimjhhgpaa
open Go.RowKit
set_option linter.unusedVariables false
set_option linter.unusedSimpArgs false

attribute [local go_sem] intL gridD lookO_lo killO_grid delO_grid putO_lo gridO_app dropGe dropGe_grid cleanO_grid gridC_len gridC_refs gridQ_refs lens_len rowsD_len setG_len dropO_grid killR_nil killR_cons killR_grid killN_lo newN_gridN hasN_cons hasN_grid Nat.le_refl refs_dmap

attribute [local simp] ints_plain ints_all ints_all1 ints_plain_take refs_dmap pairs_plain pairs_all

def row0 : List Int := List.replicate 20 0

def grid0 : List (List Int) := List.replicate 24 row0

def len24 : List Nat := List.replicate 24 20

@[simp] theorem len24_len : len24.length = 24 := List.length_replicate

theorem rep_snoc {α : Type} (n : Nat) (x : α) : List.replicate (n + 1) x = List.replicate n x ++ [x] := by
  rw [List.replicate_succ']

set_option maxRecDepth 100000 in
set_option maxHeartbeats 4000000 in
theorem grid_fn : FnD Try.prog 110 [] (gridD grid0) := by
  refine fn_go Try.func110 rfl rfl Try.ntmps110 Try.results110 (by simp only [slotsOf, argAV, List.map_cons, List.map_nil, Nat.reduceAdd]; rfl) (by simp) ?_
  repeat' (first | (with_reducible first | refine aw_seq fun K hK => ?_ | refine aw_region (by kernel_rfl) ?_ | refine aw_condk ?_ | refine aw_block ?_) | ((with_reducible refine evg ?_); simp only [go_sem, ↓reduceIte, Nat.reduceEqDiff, Nat.reduceBEq, Nat.reduceAdd, Nat.reduceMul, Nat.reduceSub, Nat.reduceLT, Nat.reduceLeDiff]) | (simp (disch := omega) only [wr, drop_at, str_at, int_at, Int.reduceSub, Int.reduceAdd, Int.reduceToNat, Int.toNat_zero, wr]) | ((with_reducible refine ev_guard ?_); (with_reducible first | refine guard_t ?_ ?_ rfl | refine guard_f ?_ ?_ rfl) <;> (intro h; (try simp only [h]); (try simp only [nrm] at h) <;> (try ((with_reducible exfalso); omega)))) | ((with_reducible refine ck_split (fun h => ?_) (fun h => ?_)) <;> (try simp only [nrm] at h) <;> (try ((with_reducible exfalso); omega))) | ((with_reducible refine And.intro ?_ ?_); (first | omega | focus (simp; done) | focus (simp; omega) | focus ((repeat' (with_reducible refine And.intro ?_ ?_)) <;> first | omega | rfl | (simp only [go_sem, refsL_app, refs_dmap] <;> fail) | (simp [refsL_app, refs_dmap, AV.refsL, AV.refs] <;> omega)))) | ((with_reducible first | apply hK | (clear hK K; first | apply hK | (clear hK K; first | apply hK | (clear hK K; apply hK)))); clear hK K) | fail)
  refine aw_asAv 3 ?_
  refine aw_loopG [2, 6, 7, 8, 9, 10, 11, 12, 13] [3, 11] 1000000000 (fun i : Nat => [(6, .d (.int i))]) (fun i => (3, .av (gridQ 1000000000 (lens (List.replicate i row0)) 24)) :: gridO 1000000000 (List.replicate i row0) []) (fun i => i ≤ 24) (fun i => 24 - i) 0 (by omega) ?_ ?_
  · (refine lessW_of [] ?_ ?_ <;> simp (disch := omega) only [okSw, decide_eq_true_eq, Bool.and_eq_true, Bool.or_eq_true, St.updG, St.asAv, avO, dropGe, dropGe_grid, subO_grid, gridO_nil, gridO_app, gridQ_put, take_zero, hasG_nil, hasG_snoc, hasG_cons, hasG_next, hasG_self, hasG_lo, hasG_hi, lookO_lo, lookO_hi, lookO_row, lookKN, swO_grid, swO_grid0, gridC_sw0, gridC_sw, St.sws, St.sw, swS, swO, AV.sw, AV.swL, OB.sw, swp, St.upd, dropS, dropOs, Less, SubS, SubO, look, lookO, List.elem, List.cons_append, List.nil_append, cond_true, cond_false, and_true, true_and, beq_self_eq_true, ↓reduceIte, Nat.reduceEqDiff, Nat.reduceBEq, Nat.reduceAdd, Nat.reduceMul, Nat.reduceSub, Nat.reduceLT, Nat.reduceLeDiff] <;> try simp)
    exact ⟨rfl, fun i hi => by simp at hi⟩
  · rintro i g1
    simp only [St.updG, St.asAv, avO, dropS, dropOs, dropGe, dropGe_grid, dropGe_keep, gridO_nil, List.elem, List.cons_append, List.nil_append, gridO_app, cond_true, cond_false, beq_self_eq_true, ↓reduceIte, Nat.reduceEqDiff, Nat.reduceBEq, Nat.reduceAdd, Nat.reduceMul, Nat.reduceSub, Nat.reduceLT, Nat.reduceLeDiff]
    by_cases hi : i < 24
    · have hql : (gridQ 1000000000 (lens (List.replicate i row0)) 24).length = 24 := gridQ_len (by simp; omega)
      repeat' (first | (with_reducible first | refine aw_seq fun K hK => ?_ | refine aw_region (by kernel_rfl) ?_ | refine aw_condk ?_ | refine aw_block ?_) | ((with_reducible refine evg ?_); simp only [go_sem, ↓reduceIte, Nat.reduceEqDiff, Nat.reduceBEq, Nat.reduceAdd, Nat.reduceMul, Nat.reduceSub, Nat.reduceLT, Nat.reduceLeDiff]) | (simp (disch := omega) only [wr, drop_at, str_at, int_at, Int.reduceSub, Int.reduceAdd, Int.reduceToNat, Int.toNat_zero, wr, hql]) | ((with_reducible refine ev_guard ?_); (with_reducible first | refine guard_t ?_ ?_ rfl | refine guard_f ?_ ?_ rfl) <;> (intro h; (try simp only [h]); (try simp only [nrm] at h) <;> (try ((with_reducible exfalso); omega)))) | ((with_reducible refine ck_split (fun h => ?_) (fun h => ?_)) <;> (try simp only [nrm] at h) <;> (try ((with_reducible exfalso); omega))) | ((with_reducible refine And.intro ?_ ?_); (first | omega | focus (simp; done) | focus (simp; omega) | focus ((repeat' (with_reducible refine And.intro ?_ ?_)) <;> first | omega | rfl | (simp only [go_sem, refsL_app, refs_dmap] <;> fail) | (simp [refsL_app, refs_dmap, AV.refsL, AV.refs] <;> omega)))) | ((with_reducible first | apply hK | (clear hK K; first | apply hK | (clear hK K; first | apply hK | (clear hK K; apply hK)))); clear hK K) | fail)
      refine ⟨i + 1, by omega, by omega, ?_⟩
      (refine lessW_of [(11, i + 1000000000)] ?_ ?_ <;> simp (disch := omega) only [okSw, decide_eq_true_eq, Bool.and_eq_true, Bool.or_eq_true, St.updG, St.asAv, avO, dropGe, dropGe_grid, subO_grid, gridO_nil, gridO_app, gridQ_put, take_zero, hasG_nil, hasG_snoc, hasG_cons, hasG_next, hasG_self, hasG_lo, hasG_hi, lookO_lo, lookO_hi, lookO_row, lookKN, swO_grid, swO_grid0, gridC_sw0, gridC_sw, St.sws, St.sw, swS, swO, AV.sw, AV.swL, OB.sw, swp, St.upd, dropS, dropOs, Less, SubS, SubO, look, lookO, List.elem, List.cons_append, List.nil_append, cond_true, cond_false, and_true, true_and, beq_self_eq_true, ↓reduceIte, Nat.reduceEqDiff, Nat.reduceBEq, Nat.reduceAdd, Nat.reduceMul, Nat.reduceSub, Nat.reduceLT, Nat.reduceLeDiff] <;> try simp)
      rw [rep_snoc, show lens (List.replicate i row0 ++ [row0]) = lens (List.replicate i row0) ++ [20] by simp [lens, row0]]
      have hll : (lens (List.replicate i row0)).length = i := by simp
      exact ⟨gridQ_step hll (by decide) hi, hasG_step (z := row0) (by simp) (by decide) (by decide)⟩
    · repeat' (first | (with_reducible first | refine aw_seq fun K hK => ?_ | refine aw_region (by kernel_rfl) ?_ | refine aw_condk ?_ | refine aw_block ?_) | ((with_reducible refine evg ?_); simp only [go_sem, ↓reduceIte, Nat.reduceEqDiff, Nat.reduceBEq, Nat.reduceAdd, Nat.reduceMul, Nat.reduceSub, Nat.reduceLT, Nat.reduceLeDiff]) | (simp (disch := omega) only [wr, drop_at, str_at, int_at, Int.reduceSub, Int.reduceAdd, Int.reduceToNat, Int.toNat_zero, wr]) | ((with_reducible refine ev_guard ?_); (with_reducible first | refine guard_t ?_ ?_ rfl | refine guard_f ?_ ?_ rfl) <;> (intro h; (try simp only [h]); (try simp only [nrm] at h) <;> (try ((with_reducible exfalso); omega)))) | ((with_reducible refine ck_split (fun h => ?_) (fun h => ?_)) <;> (try simp only [nrm] at h) <;> (try ((with_reducible exfalso); omega))) | ((with_reducible refine And.intro ?_ ?_); (first | omega | focus (simp; done) | focus (simp; omega) | focus ((repeat' (with_reducible refine And.intro ?_ ?_)) <;> first | omega | rfl | (simp only [go_sem, refsL_app, refs_dmap] <;> fail) | (simp [refsL_app, refs_dmap, AV.refsL, AV.refs] <;> omega)))) | ((with_reducible first | apply hK | (clear hK K; first | apply hK | (clear hK K; first | apply hK | (clear hK K; apply hK)))); clear hK K) | fail)
      have e : i = 24 := by omega
      subst e
      rw [gridQ_full (by simp)]
      exact res_grid (zs := grid0) rfl rfl (by rw [hasG_cons (by decide)]; exact of_eq_true hasG_self) rfl (by decide) rfl

abbrev outO (g : FuncId) (fs cs : List D) (zs : List (List Int)) : List (Nat × OB) := (5000, .av (gridC 10000 len24)) :: (5001, .av [.fc g (fs.map AV.d) (cs.map AV.d)]) :: (5002, .av [.bs 5000 0 24 1]) :: gridO 10000 zs []

def ok20 (zs : List (List Int)) : Prop := zs.length = 24 ∧ ∀ y, y < 24 → (zs.getD y []).length = 20

theorem ok20_set {zs : List (List Int)} (h : ok20 zs) {x y : Nat} {v : Int} : ok20 (setG zs x y v) := by
  refine ⟨by rw [setG_len]; exact h.1, fun i hi => ?_⟩
  have := h.2 i hi
  by_cases e : y = i
  · subst e
    have hy : y < zs.length := by rw [h.1]; exact hi
    simp only [setG, List.getD_eq_getElem?_getD, List.getElem?_set, if_true, hy] at this ⊢
    simpa using this
  · simpa [setG, List.getD_eq_getElem?_getD, List.getElem?_set, e] using this

theorem ok20_lens {zs : List (List Int)} (h : ok20 zs) : lens zs = len24 := by
  apply List.ext_getElem (by simp [h.1])
  intro i h1 h2
  have hi : i < 24 := by simpa using h2
  have := h.2 i hi
  have hz : i < zs.length := by rw [h.1]; exact hi
  have e1 : (lens zs)[i] = (zs.getD i []).length := by simp [lens, List.getD_eq_getElem?_getD, hz]
  have e2 : len24[i] = 20 := by simp only [len24, List.getElem_replicate]
  exact e1.trans (this.trans e2.symm)

theorem len24_at {y : Nat} (h : y < 24) : (gridC 10000 len24).getD y .un = .bs (y + 10000) 0 20 1 := by
  rw [gridC_at (by simpa using h)]
  congr 1
  rw [len24, List.getD_eq_getElem?_getD, List.getElem?_replicate, if_pos h]
  rfl

def picN (h : Nat → Nat → Int) (C : List Nat) (zs : List (List Int)) : Nat → List (List Int)
  | 0 => zs
  | i + 1 => setG (picN h C zs i) (C.getD i 0 % 20) (C.getD i 0 / 20) (h (C.getD i 0 % 20) (C.getD i 0 / 20))

theorem picN_ok {h : Nat → Nat → Int} {C : List Nat} {zs : List (List Int)} (hz : ok20 zs) : ∀ i, ok20 (picN h C zs i)
  | 0 => hz
  | i + 1 => ok20_set (picN_ok hz i)

theorem shZ_ok : okReg shZ = true := by decide +kernel

theorem shZ_has {x y : Nat} (hx : x < 20) (hy : y < 24) : hasZ shZ x y = inSh x y := by
  rw [hasZ, inR_iff.2 (by omega), inR_iff.2 (by omega), shZ, regZ_bit (by omega) (by omega) (by omega)]
  simp
  omega

theorem pairG_at {C : List Nat} {i : Nat} (h : i < C.length) : ((recC pairD C).drop (i * 2)).take 2 = [.int ((C.getD i 0 % 20 : Nat) : Int), .int ((C.getD i 0 / 20 : Nat) : Int)] := recC_at pair_k 0 h

end Go.Proofs.Ytaegdaimjhhgpaa
