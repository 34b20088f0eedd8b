/- Shapes of charges. -/
import Derived.Test.YtaegdaimjhhgpaaPlace3
import Derived.WalkKit
import Derived.WalkSpells
import Derived.KernelRfl
namespace Go.Proofs.Ytaegdaimjhhgpaa
open Go.RowKit
set_option linter.unusedVariables false
set_option linter.unusedSimpArgs false

def shpC (k n p q : Int) : Bool :=
  if k = 1 then decide (absI p + absI q ≤ 2 * n - 4) || decide (n ≤ 2) else if k = 2 then decide (absI q ≤ absI p) else if k = 3 then decide (2 * absI q ≤ n)
  else if k = 4 then decide (p * p + q * q ≤ n * n) else if k = 5 then decide (2 * absI p ≤ n) || decide (2 * absI q ≤ n) else if k = 6 then decide (2 * absI p ≤ n) || decide (0 < q)
  else if k = 7 then decide (3 * absI p ≤ n) || decide (q < 0) else decide (3 * absI p ≤ n) || (decide (q = 0) || decide (q = 1))

def shpZ (k a n u v : Int) : Bool := if a = 2 then shpC k n (2 * v + 1 - n) (2 * u + 1 - n) else shpC k n (2 * u + 1 - n) (2 * v + 1 - n)

theorem sq_in {p : Int} (h : -9 ≤ p ∧ p ≤ 9) : 0 ≤ p * p ∧ p * p ≤ 81 := by
  obtain ⟨h1, h2⟩ := h
  have e : p = -9 ∨ p = -8 ∨ p = -7 ∨ p = -6 ∨ p = -5 ∨ p = -4 ∨ p = -3 ∨ p = -2 ∨ p = -1 ∨ p = 0 ∨ p = 1 ∨ p = 2 ∨ p = 3 ∨ p = 4 ∨ p = 5 ∨ p = 6 ∨ p = 7 ∨ p = 8 ∨ p = 9 := by omega
  rcases e with rfl | rfl | rfl | rfl | rfl | rfl | rfl | rfl | rfl | rfl | rfl | rfl | rfl | rfl | rfl | rfl | rfl | rfl | rfl <;> decide

set_option maxRecDepth 100000 in
set_option maxHeartbeats 4000000 in
theorem shape_fn (k a n u v : Int) (hk : 1 ≤ k ∧ k ≤ 8) (hn : 1 ≤ n ∧ n ≤ 8) (hu : 0 ≤ u ∧ u < n) (hv : 0 ≤ v ∧ v < n) : FnD Try.prog 134 [.int k, .int a, .int n, .int u, .int v] (.bool (shpZ k a n u v)) := by
  have e1 := absOf_fn (2 * u + 1 - n) (by omega)
  have e2 := absOf_fn (2 * v + 1 - n) (by omega)
  have b1 := absI_in (n := 2 * u + 1 - n) (m := 9) (by omega)
  have b2 := absI_in (n := 2 * v + 1 - n) (m := 9) (by omega)
  have s1 := sq_in (p := 2 * u + 1 - n) (by omega)
  have s2 := sq_in (p := 2 * v + 1 - n) (by omega)
  have s3 := sq_in (p := n) (by omega)
  unfold shpZ
  obtain ⟨p, hp⟩ : ∃ p, 2 * u + 1 - n = p := ⟨_, rfl⟩
  obtain ⟨q, hq⟩ : ∃ q, 2 * v + 1 - n = q := ⟨_, rfl⟩
  simp only [hp, hq] at e1 e2 b1 b2 s1 s2 ⊢
  obtain ⟨ap, hap⟩ : ∃ ap, absI p = ap := ⟨_, rfl⟩
  obtain ⟨aq, haq⟩ : ∃ aq, absI q = aq := ⟨_, rfl⟩
  rw [hap] at e1 b1
  rw [haq] at e2 b2
  by_cases ha : a = 2
  all_goals
    obtain hk1 | hk1 | hk1 | hk1 | hk1 | hk1 | hk1 | hk1 : k = 1 ∨ k = 2 ∨ k = 3 ∨ k = 4 ∨ k = 5 ∨ k = 6 ∨ k = 7 ∨ k = 8 := by omega
  all_goals
    refine fn_go Try.func134 rfl rfl Try.ntmps134 Try.results134 (by simp only [slotsOf, argAV, List.map_cons, List.map_nil, Nat.reduceAdd]; rfl) (by simp) ?_
    repeat' (first | (with_reducible first | refine aw_seq fun K hK => ?_ | refine aw_region (by kernel_rfl) ?_ | refine aw_condk ?_ | refine aw_block ?_) | ((with_reducible refine evg ?_); simp only [go_sem, ↓reduceIte, Nat.reduceEqDiff, Nat.reduceBEq, Nat.reduceAdd, Nat.reduceMul, Nat.reduceSub, Nat.reduceLT, Nat.reduceLeDiff]) | (simp (disch := omega) only [wr, drop_at, str_at, int_at, Int.reduceSub, Int.reduceAdd, Int.reduceToNat, Int.toNat_zero, wr, hp, hq]) | ((with_reducible refine ev_call ?_); (first | (refine call_fn e1 rfl ?_) | (refine call_fn e2 rfl ?_)); refine k_run ?_) | ((with_reducible refine ev_guard ?_); (with_reducible first | refine guard_t ?_ ?_ rfl | refine guard_f ?_ ?_ rfl) <;> (intro h; (try simp only [h]); (try simp only [nrm] at h) <;> (try ((with_reducible exfalso); omega)))) | ((with_reducible refine ck_split (fun h => ?_) (fun h => ?_)) <;> (try simp only [nrm] at h) <;> (try ((with_reducible exfalso); omega))) | ((with_reducible refine And.intro ?_ ?_); (first | omega | focus (simp; done) | focus (simp; omega) | focus ((repeat' (with_reducible refine And.intro ?_ ?_)) <;> first | omega | rfl | (simp only [go_sem, refsL_app, refs_dmap] <;> fail) | (simp [refsL_app, refs_dmap, AV.refsL, AV.refs] <;> omega)))) | ((with_reducible first | apply hK | (clear hK K; first | apply hK | (clear hK K; first | apply hK | (clear hK K; apply hK)))); clear hK K) | fail)
    all_goals (first | refine res_tmp rfl (by simp [D.plain, plains]) (by simp) ?_ | refine res_at rfl (by simp [D.plain, plains]) (by simp) ?_ | refine res_two rfl (by simp [D.plain, plains]) (by simp) ?_ | refine res_three rfl (by simp [D.plain, plains]) (by simp) ?_)
    all_goals
      refine congrArg D.bool ?_
      rw [Bool.eq_iff_iff]
      simp only [shpC, ha, hk1, hap, haq, beq_iff_eq, if_true, if_false, Int.reduceEq, Bool.or_eq_true, decide_eq_true_eq, true_iff]
      try omega

set_option maxRecDepth 100000 in
set_option maxHeartbeats 4000000 in
theorem l12Cell_fn (k a n u v : Int) (hk : 1 ≤ k ∧ k ≤ 8) (hn : 1 ≤ n ∧ n ≤ 8) (hu : 0 ≤ u ∧ u < n) (hv : 0 ≤ v ∧ v < n) : FnD Try.prog 154 [.int k, .int a, .int n, .int u, .int v] (.bool (shpZ k a n u v)) := by
  have e1 := most2_fn (2 * u + 1 - n) (0 - (2 * u + 1 - n))
  have e2 := most2_fn (2 * v + 1 - n) (0 - (2 * v + 1 - n))
  rw [absM] at e1 e2
  have b1 := absI_in (n := 2 * u + 1 - n) (m := 9) (by omega)
  have b2 := absI_in (n := 2 * v + 1 - n) (m := 9) (by omega)
  have s1 := sq_in (p := 2 * u + 1 - n) (by omega)
  have s2 := sq_in (p := 2 * v + 1 - n) (by omega)
  have s3 := sq_in (p := n) (by omega)
  unfold shpZ
  obtain ⟨p, hp⟩ : ∃ p, 2 * u + 1 - n = p := ⟨_, rfl⟩
  obtain ⟨q, hq⟩ : ∃ q, 2 * v + 1 - n = q := ⟨_, rfl⟩
  simp only [hp, hq] at e1 e2 b1 b2 s1 s2 ⊢
  obtain ⟨ap, hap⟩ : ∃ ap, absI p = ap := ⟨_, rfl⟩
  obtain ⟨aq, haq⟩ : ∃ aq, absI q = aq := ⟨_, rfl⟩
  rw [hap] at e1 b1
  rw [haq] at e2 b2
  by_cases ha : a = 2
  all_goals
    obtain hk1 | hk1 | hk1 | hk1 | hk1 | hk1 | hk1 | hk1 : k = 1 ∨ k = 2 ∨ k = 3 ∨ k = 4 ∨ k = 5 ∨ k = 6 ∨ k = 7 ∨ k = 8 := by omega
  all_goals
    refine fn_go Try.func154 rfl rfl Try.ntmps154 Try.results154 (by simp only [slotsOf, argAV, List.map_cons, List.map_nil, Nat.reduceAdd]; rfl) (by simp) ?_
    repeat' (first | (with_reducible first | refine aw_seq fun K hK => ?_ | refine aw_region (by kernel_rfl) ?_ | refine aw_condk ?_ | refine aw_block ?_) | ((with_reducible refine evg ?_); simp only [go_sem, ↓reduceIte, Nat.reduceEqDiff, Nat.reduceBEq, Nat.reduceAdd, Nat.reduceMul, Nat.reduceSub, Nat.reduceLT, Nat.reduceLeDiff]) | (simp (disch := omega) only [wr, drop_at, str_at, int_at, Int.reduceSub, Int.reduceAdd, Int.reduceToNat, Int.toNat_zero, wr, hp, hq]) | ((with_reducible refine ev_call ?_); (first | (refine call_fn e1 rfl ?_) | (refine call_fn e2 rfl ?_)); refine k_run ?_) | ((with_reducible refine ev_guard ?_); (with_reducible first | refine guard_t ?_ ?_ rfl | refine guard_f ?_ ?_ rfl) <;> (intro h; (try simp only [h]); (try simp only [nrm] at h) <;> (try ((with_reducible exfalso); omega)))) | ((with_reducible refine ck_split (fun h => ?_) (fun h => ?_)) <;> (try simp only [nrm] at h) <;> (try ((with_reducible exfalso); omega))) | ((with_reducible refine And.intro ?_ ?_); (first | omega | focus (simp; done) | focus (simp; omega) | focus ((repeat' (with_reducible refine And.intro ?_ ?_)) <;> first | omega | rfl | (simp only [go_sem, refsL_app, refs_dmap] <;> fail) | (simp [refsL_app, refs_dmap, AV.refsL, AV.refs] <;> omega)))) | ((with_reducible first | apply hK | (clear hK K; first | apply hK | (clear hK K; first | apply hK | (clear hK K; apply hK)))); clear hK K) | fail)
    all_goals (first | refine res_tmp rfl (by simp [D.plain, plains]) (by simp) ?_ | refine res_at rfl (by simp [D.plain, plains]) (by simp) ?_ | refine res_two rfl (by simp [D.plain, plains]) (by simp) ?_ | refine res_three rfl (by simp [D.plain, plains]) (by simp) ?_)
    all_goals
      refine congrArg D.bool ?_
      rw [Bool.eq_iff_iff]
      simp only [shpC, ha, hk1, hap, haq, beq_iff_eq, if_true, if_false, Int.reduceEq, Bool.or_eq_true, decide_eq_true_eq, true_iff]
      try omega

end Go.Proofs.Ytaegdaimjhhgpaa
