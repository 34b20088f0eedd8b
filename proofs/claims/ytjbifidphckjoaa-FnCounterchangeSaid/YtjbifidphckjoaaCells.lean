/- The cells of a region. -/
import Derived.Test.YtjbifidphckjoaaRegion2
import Derived.WalkKit
import Derived.WalkSpells
import Derived.KernelRfl
namespace Go.Proofs.Ytjbifidphckjoaa
open Go.RowKit
set_option maxRecDepth 100000
set_option maxHeartbeats 4000000
set_option linter.unusedVariables false
set_option linter.unusedSimpArgs false

attribute [local go_sem] intL

attribute [local simp] ints_plain ints_all ints_all1 ints_plain_take

def cellsN (zs : List Int) (k : Nat) : List Nat := (List.range k).filter fun c => hasZ zs ((c % 20 : Nat) : Int) ((c / 20 : Nat) : Int)

theorem cellsN_len (zs : List Int) (k : Nat) : (cellsN zs k).length <= k := by
 have := List.length_filter_le (fun c => hasZ zs ((c % 20 : Nat) : Int) ((c / 20 : Nat) : Int)) (List.range k)
 simpa [cellsN] using this

theorem cellsN_yes {zs : List Int} {x y : Nat} (hx : x < 20) (h : hasZ zs x y = true) : cellsN zs (20 * y + (x + 1)) = cellsN zs (20 * y + x) ++ [20 * y + x] := by
 have e1 : (20 * y + x) % 20 = x := by omega
 have e2 : (20 * y + x) / 20 = y := by omega
 rw [← Nat.add_assoc, cellsN, List.range_succ, List.filter_append]
 simp only [cellsN, List.filter_cons, List.filter_nil, e1, e2, h, if_true]

theorem cellsN_no {zs : List Int} {x y : Nat} (hx : x < 20) (h : hasZ zs x y = false) : cellsN zs (20 * y + (x + 1)) = cellsN zs (20 * y + x) := by
 have e1 : (20 * y + x) % 20 = x := by omega
 have e2 : (20 * y + x) / 20 = y := by omega
 rw [← Nat.add_assoc, cellsN, List.range_succ, List.filter_append]
 simp only [cellsN, List.filter_cons, List.filter_nil, e1, e2, h, Bool.false_eq_true, if_false, List.append_nil]

theorem cellsN_mem {zs : List Int} {k c : Nat} (h : c ∈ cellsN zs k) : c < k /\ hasZ zs ((c % 20 : Nat) : Int) ((c / 20 : Nat) : Int) = true := by
 simpa [cellsN, List.mem_filter] using h

def pairD (c : Nat) : List D := [.int ((c % 20 : Nat) : Int), .int ((c / 20 : Nat) : Int)]

theorem pair_k : ∀ c : Nat, (pairD c).length = 2 := fun _ => rfl

def cellI (l : List Nat) : List Int := l.map fun c : Nat => (c : Int)

theorem pairs_plain (l : List Nat) : plains (recC pairD l) := recC_plains (cs := pairD) (fun c => (⟨trivial, trivial, trivial⟩ : plains (pairD c))) l

theorem pairs_len (l : List Nat) : (recC pairD l).length = l.length * 2 := recC_len pair_k l

theorem pairs_all (l : List Nat) : (recC pairD l).take (l.length * 2) = recC pairD l := recC_all pair_k l

theorem pair_one {x y : Nat} (h : x < 20) : recC pairD [20 * y + x] = [D.int x, D.int y] := by
 have e1 : (20 * y + x) % 20 = x := by omega
 have e2 : (20 * y + x) / 20 = y := by omega
 simp only [recC, List.flatMap_cons, List.flatMap_nil, List.append_nil, pairD, e1, e2]

attribute [local simp] pairs_plain pairs_all

theorem cells_fn (zs : List Int) (hz : okReg zs = true) : FnD Try.prog 45 [.ag [intL zs]] (.ls 2 (cellsN zs 480).length (recC pairD (cellsN zs 480))) := by
 refine fn_go Try.func45 rfl rfl Try.ntmps45 Try.results45 (by simp only [slo, Nat.reduceAdd]; rfl) (by simp) ?_
 repeat' (first | (with_reducible first | refine aw_seq fun K hK => ?_ | refine aw_region (by kernel_rfl) ?_ | refine aw_condk ?_ | refine aw_block ?_) | ((with_reducible refine evg ?_); simp only [go_sem, ↓reduceIte, Nat.reduceEqDiff, Nat.reduceBEq, Nat.reduceAdd, Nat.reduceMul, Nat.reduceSub, Nat.reduceLT, Nat.reduceLeDiff]) | ((with_reducible refine ck_split (fun h => ?_) (fun h => ?_)) <;> (try simp only [nrm] at h)) | ((with_reducible refine And.intro ?_ ?_); (focus first | omega | (simp; done) | (simp; omega) | ((repeat' (with_reducible refine And.intro ?_ ?_)) <;> first | omega | rfl | (simp only [go_sem, refsL_app, refs_dmap] <;> fail) | (simp [refsL_app, refs_dmap, AV.refsL, AV.refs] <;> omega)))) | ((with_reducible first | apply hK | (clear hK K; first | apply hK | (clear hK K; apply hK))); clear hK K) | (simp (disch := omega) only [dsq, Int.reduceSub, Int.reduceAdd, Int.reduceToNat]) | fail)
 refine aw_loopU [3, 4, 5, 6, 7, 8, 9, 10, 11, 12, 13, 14, 15, 16, 17, 18, 19, 20, 21, 22, 23, 24] [6, 16, 21, 22] (fun y : Nat => [(7, .d (.int y)), (3, .bs 22 0 (cellsN zs (20 * y + 0)).length 2)]) (fun y => [(22, .ds (recC pairD (cellsN zs (20 * y + 0))))]) (fun y => y <= 24) (fun y => 24 - y) 0 (by omega) ?_ ?_
 ·
  (refine lessW_of [(6, 22)] rfl ?_ <;> simp only [lsq, lookO, List.elem, List.cons_append, List.nil_append, cond_true, cond_false, and_true, true_and, beq_self_eq_true, ↓reduceIte, Nat.reduceEqDiff, Nat.reduceBEq, Nat.reduceAdd, Nat.reduceMul, Nat.reduceSub, Nat.reduceLT, Nat.reduceLeDiff] <;> try simp)
  simp [cellsN, recC]
 ·
  rintro y y1
  simp only [St.upd, dropS, dropOs, List.elem, List.cons_append, List.nil_append, cond_true, cond_false, beq_self_eq_true, ↓reduceIte, Nat.reduceEqDiff, Nat.reduceBEq, Nat.reduceAdd, Nat.reduceMul, Nat.reduceSub, Nat.reduceLT, Nat.reduceLeDiff]
  repeat' (first | (with_reducible first | refine aw_seq fun K hK => ?_ | refine aw_region (by kernel_rfl) ?_ | refine aw_condk ?_ | refine aw_block ?_) | ((with_reducible refine evg ?_); simp only [go_sem, ↓reduceIte, Nat.reduceEqDiff, Nat.reduceBEq, Nat.reduceAdd, Nat.reduceMul, Nat.reduceSub, Nat.reduceLT, Nat.reduceLeDiff]) | ((with_reducible refine ck_split (fun h => ?_) (fun h => ?_)) <;> (try simp only [nrm] at h)) | ((with_reducible refine And.intro ?_ ?_); (focus first | omega | (simp; done) | (simp; omega) | ((repeat' (with_reducible refine And.intro ?_ ?_)) <;> first | omega | rfl | (simp only [go_sem, refsL_app, refs_dmap] <;> fail) | (simp [refsL_app, refs_dmap, AV.refsL, AV.refs] <;> omega)))) | ((with_reducible first | apply hK | (clear hK K; first | apply hK | (clear hK K; apply hK))); clear hK K) | (simp (disch := omega) only [dsq, Int.reduceSub, Int.reduceAdd, Int.reduceToNat]) | fail)
  ·
   refine aw_loopU [3, 5, 10, 11, 12, 13, 14, 15, 16, 17, 18, 19, 20, 21, 22, 23] [16, 21, 22] (fun x : Nat => [(10, .d (.int x)), (3, .bs 22 0 (cellsN zs (20 * y + x)).length 2)]) (fun x => [(22, .ds (recC pairD (cellsN zs (20 * y + x))))]) (fun x => x <= 20) (fun x => 20 - x) 0 (by omega) ?_ ?_
   · (refine lessW_of [] rfl ?_ <;> simp only [lsq, lookO, List.elem, List.cons_append, List.nil_append, cond_true, cond_false, and_true, true_and, beq_self_eq_true, ↓reduceIte, Nat.reduceEqDiff, Nat.reduceBEq, Nat.reduceAdd, Nat.reduceMul, Nat.reduceSub, Nat.reduceLT, Nat.reduceLeDiff] <;> try simp)
   ·
    rintro x x1
    simp only [St.upd, dropS, dropOs, List.elem, List.cons_append, List.nil_append, cond_true, cond_false, beq_self_eq_true, ↓reduceIte, Nat.reduceEqDiff, Nat.reduceBEq, Nat.reduceAdd, Nat.reduceMul, Nat.reduceSub, Nat.reduceLT, Nat.reduceLeDiff]
    have e1 := implHas_fn zs x y (okReg_len hz) (fun h => okReg_y hz h)
    have hlen := cellsN_len zs (20 * y + x)
    have hl2 := pairs_len (cellsN zs (20 * y + x))
    by_cases hx : x < 20
    ·
     cases g1 : hasZ zs x y
     ·
      rw [g1] at e1
      repeat' (first | (with_reducible first | refine aw_seq fun K hK => ?_ | refine aw_region (by kernel_rfl) ?_ | refine aw_condk ?_ | refine aw_block ?_) | ((with_reducible refine evg ?_); simp only [go_sem, ↓reduceIte, Nat.reduceEqDiff, Nat.reduceBEq, Nat.reduceAdd, Nat.reduceMul, Nat.reduceSub, Nat.reduceLT, Nat.reduceLeDiff]) | (simp (disch := omega) only [dsq, Int.reduceSub, Int.reduceAdd, Int.reduceToNat, wru]) | ((with_reducible refine ev_call ?_); (first | (refine call_fn e1 rfl ?_)); refine k_run ?_) | ((with_reducible refine ck_split (fun h => ?_) (fun h => ?_)) <;> (try simp only [nrm] at h) <;> (try ((with_reducible exfalso); omega))) | ((with_reducible refine And.intro ?_ ?_); (focus first | omega | (simp; done) | (simp; omega) | ((repeat' (with_reducible refine And.intro ?_ ?_)) <;> first | omega | rfl | (simp only [go_sem, refsL_app, refs_dmap] <;> fail) | (simp [refsL_app, refs_dmap, AV.refsL, AV.refs] <;> omega)))) | ((with_reducible first | apply hK | (clear hK K; first | apply hK | (clear hK K; apply hK))); clear hK K) | fail)
      refine ⟨x + 1, by omega, by omega, ?_⟩
      rw [cellsN_no hx g1]
      (refine lessW_of [] rfl ?_ <;> simp only [lsq, lookO, List.elem, List.cons_append, List.nil_append, cond_true, cond_false, and_true, true_and, beq_self_eq_true, ↓reduceIte, Nat.reduceEqDiff, Nat.reduceBEq, Nat.reduceAdd, Nat.reduceMul, Nat.reduceSub, Nat.reduceLT, Nat.reduceLeDiff] <;> try simp)
     ·
      rw [g1] at e1
      repeat' (first | (with_reducible first | refine aw_seq fun K hK => ?_ | refine aw_region (by kernel_rfl) ?_ | refine aw_condk ?_ | refine aw_block ?_) | ((with_reducible refine evg ?_); simp only [go_sem, ↓reduceIte, Nat.reduceEqDiff, Nat.reduceBEq, Nat.reduceAdd, Nat.reduceMul, Nat.reduceSub, Nat.reduceLT, Nat.reduceLeDiff]) | (simp (disch := omega) only [dsq, Int.reduceSub, Int.reduceAdd, Int.reduceToNat, pairs_all]) | ((with_reducible refine ev_call ?_); (first | (refine call_fn e1 rfl ?_)); refine k_run ?_) | ((with_reducible refine ck_split (fun h => ?_) (fun h => ?_)) <;> (try simp only [nrm] at h) <;> (try ((with_reducible exfalso); omega))) | ((with_reducible refine And.intro ?_ ?_); (focus first | omega | (simp; done) | (simp; omega) | ((repeat' (with_reducible refine And.intro ?_ ?_)) <;> first | omega | rfl | (simp only [go_sem, refsL_app, refs_dmap] <;> fail) | (simp [refsL_app, refs_dmap, AV.refsL, AV.refs] <;> omega)))) | ((with_reducible first | apply hK | (clear hK K; first | apply hK | (clear hK K; apply hK))); clear hK K) | fail)
      refine ⟨x + 1, by omega, by omega, ?_⟩
      rw [cellsN_yes hx g1, recC_app, pair_one hx, List.length_append]
      (refine lessW_of [] rfl ?_ <;> simp only [lsq, lookO, List.elem, List.cons_append, List.nil_append, cond_true, cond_false, and_true, true_and, beq_self_eq_true, ↓reduceIte, Nat.reduceEqDiff, Nat.reduceBEq, Nat.reduceAdd, Nat.reduceMul, Nat.reduceSub, Nat.reduceLT, Nat.reduceLeDiff] <;> try simp)
    ·
     have e : x = 20 := by omega
     subst e
     repeat' (first | (with_reducible first | refine aw_seq fun K hK => ?_ | refine aw_region (by kernel_rfl) ?_ | refine aw_condk ?_ | refine aw_block ?_) | ((with_reducible refine evg ?_); simp only [go_sem, ↓reduceIte, Nat.reduceEqDiff, Nat.reduceBEq, Nat.reduceAdd, Nat.reduceMul, Nat.reduceSub, Nat.reduceLT, Nat.reduceLeDiff]) | (simp (disch := omega) only [dsq, Int.reduceSub, Int.reduceAdd, Int.reduceToNat, wru]) | ((with_reducible refine ck_split (fun h => ?_) (fun h => ?_)) <;> (try simp only [nrm] at h) <;> (try ((with_reducible exfalso); omega))) | ((with_reducible refine And.intro ?_ ?_); (focus first | omega | (simp; done) | (simp; omega) | ((repeat' (with_reducible refine And.intro ?_ ?_)) <;> first | omega | rfl | (simp only [go_sem, refsL_app, refs_dmap] <;> fail) | (simp [refsL_app, refs_dmap, AV.refsL, AV.refs] <;> omega)))) | ((with_reducible first | apply hK | (clear hK K; first | apply hK | (clear hK K; apply hK))); clear hK K) | fail)
     refine ⟨y + 1, by omega, by omega, ?_⟩
     rw [show 20 * (y + 1) = 20 * y + 20 by omega]
     (refine lessW_of [] rfl ?_ <;> simp only [lsq, lookO, List.elem, List.cons_append, List.nil_append, cond_true, cond_false, and_true, true_and, beq_self_eq_true, ↓reduceIte, Nat.reduceEqDiff, Nat.reduceBEq, Nat.reduceAdd, Nat.reduceMul, Nat.reduceSub, Nat.reduceLT, Nat.reduceLeDiff] <;> try simp)
  ·
   have e : y = 24 := by omega
   subst e
   refine res_tmp rfl (by simp [D.plain, plains]) (by simp) ?_
   simp

@[simp] theorem cellI_len2 (l : List Nat) : (cellI l).length = l.length := by simp [cellI]

end Go.Proofs.Ytjbifidphckjoaa
