/- Parts of fields and ordinaries as regions, by the reference. -/
import Derived.Test.YtjbifidphckjoaaRgD
import Derived.Test.YtjbifidphckjoaaFlowF
import Derived.WalkKit
import Derived.WalkSpells
import Derived.KernelRfl
namespace Go.Proofs.Ytjbifidphckjoaa
open Go.RowKit
set_option maxRecDepth 100000
set_option maxHeartbeats 4000000
set_option linter.unusedVariables false
set_option linter.unusedSimpArgs false

attribute [local go_sem] intL

attribute [local simp] ints_plain ints_all ints_all1 ints_plain_take

def dnZ (x y : Int) : Int := 24 * (2 * x + 1) - 20 * (2 * y + 1)

theorem rgDown_fn (x y : Int) (hx : 0 <= x /\ x < 20) (hy : 0 <= y /\ y < 24) : FnD Try.prog 112 [.int x, .int y] (.int (dnZ x y)) := by
 refine fn_go Try.func112 rfl rfl Try.ntmps112 Try.results112 (by simp only [slo, Nat.reduceAdd]; rfl) (by simp) ?_
 repeat' (first | (with_reducible first | refine aw_seq fun K hK => ?_ | refine aw_region (by kernel_rfl) ?_) | ((with_reducible refine evg ?_); simp only [go_sem, ↓reduceIte, Nat.reduceEqDiff, Nat.reduceBEq, Nat.reduceAdd, Nat.reduceMul, Nat.reduceSub, Nat.reduceLT, Nat.reduceLeDiff]) | (simp (disch := omega) only [dsq, Int.reduceSub, Int.reduceAdd, Int.reduceToNat]) | ((with_reducible refine And.intro ?_ ?_); (focus first | omega | (simp; done) | (simp; omega) | ((repeat' (with_reducible refine And.intro ?_ ?_)) <;> first | omega | rfl | (simp only [go_sem, refsL_app, refs_dmap] <;> fail) | (simp [refsL_app, refs_dmap, AV.refsL, AV.refs] <;> omega)))) | ((with_reducible first | apply hK | (clear hK K; first | apply hK | (clear hK K; apply hK))); clear hK K) | fail)
 refine res_tmp rfl (by simp [D.plain, plains]) (by simp) ?_
 rfl

def abQ (n : Int) : Int := if 0 - n > n then 0 - n else n

theorem rgMost_fn (a b : Int) : FnD Try.prog 108 [.int a, .int b] (.int (if b > a then b else a)) := by
 by_cases hq : b > a
 ·
  refine fn_go Try.func108 rfl rfl Try.ntmps108 Try.results108 (by simp only [slo, Nat.reduceAdd]; rfl) (by simp) ?_
  repeat' (first | (with_reducible first | refine aw_seq fun K hK => ?_ | refine aw_region (by kernel_rfl) ?_ | refine aw_condk ?_) | ((with_reducible refine evg ?_); simp only [go_sem, ↓reduceIte, Nat.reduceEqDiff, Nat.reduceBEq, Nat.reduceAdd, Nat.reduceMul, Nat.reduceSub, Nat.reduceLT, Nat.reduceLeDiff]) | (simp (disch := omega) only [dsq, Int.reduceSub, Int.reduceAdd, Int.reduceToNat]) | ((with_reducible refine ck_split (fun h => ?_) (fun h => ?_)) <;> (try simp only [nrm] at h) <;> (try ((with_reducible exfalso); omega))) | ((with_reducible refine And.intro ?_ ?_); (focus first | omega | (simp; done) | (simp; omega) | ((repeat' (with_reducible refine And.intro ?_ ?_)) <;> first | omega | rfl | (simp only [go_sem, refsL_app, refs_dmap] <;> fail) | (simp [refsL_app, refs_dmap, AV.refsL, AV.refs] <;> omega)))) | ((with_reducible first | apply hK | (clear hK K; first | apply hK | (clear hK K; apply hK))); clear hK K) | fail)
  refine res_tmp rfl (by simp [D.plain, plains]) (by simp) ?_
  rw [if_pos hq]
 ·
  refine fn_go Try.func108 rfl rfl Try.ntmps108 Try.results108 (by simp only [slo, Nat.reduceAdd]; rfl) (by simp) ?_
  repeat' (first | (with_reducible first | refine aw_seq fun K hK => ?_ | refine aw_region (by kernel_rfl) ?_ | refine aw_condk ?_) | ((with_reducible refine evg ?_); simp only [go_sem, ↓reduceIte, Nat.reduceEqDiff, Nat.reduceBEq, Nat.reduceAdd, Nat.reduceMul, Nat.reduceSub, Nat.reduceLT, Nat.reduceLeDiff]) | (simp (disch := omega) only [dsq, Int.reduceSub, Int.reduceAdd, Int.reduceToNat]) | ((with_reducible refine ck_split (fun h => ?_) (fun h => ?_)) <;> (try simp only [nrm] at h) <;> (try ((with_reducible exfalso); omega))) | ((with_reducible refine And.intro ?_ ?_); (focus first | omega | (simp; done) | (simp; omega) | ((repeat' (with_reducible refine And.intro ?_ ?_)) <;> first | omega | rfl | (simp only [go_sem, refsL_app, refs_dmap] <;> fail) | (simp [refsL_app, refs_dmap, AV.refsL, AV.refs] <;> omega)))) | ((with_reducible first | apply hK | (clear hK K; first | apply hK | (clear hK K; apply hK))); clear hK K) | fail)
  all_goals refine res_tmp rfl (by simp [D.plain, plains]) (by simp) ?_
  all_goals first | (rw [if_neg hq]; done) | (rw [if_neg hq, show b = a by omega])

theorem rgAbs_fn (n : Int) (h : -1000000 <= n /\ n <= 1000000) : FnD Try.prog 110 [.int n] (.int (abQ n)) := by
 have e1 := rgMost_fn n (0 - n)
 have e : (if 0 - n > n then 0 - n else n) = abQ n := rfl
 rw [e] at e1
 generalize abQ n = m at *
 refine fn_go Try.func110 rfl rfl Try.ntmps110 Try.results110 (by simp only [slo, Nat.reduceAdd]; rfl) (by simp) ?_
 repeat' (first | (with_reducible first | refine aw_seq fun K hK => ?_ | refine aw_region (by kernel_rfl) ?_) | ((with_reducible refine evg ?_); simp only [go_sem, ↓reduceIte, Nat.reduceEqDiff, Nat.reduceBEq, Nat.reduceAdd, Nat.reduceMul, Nat.reduceSub, Nat.reduceLT, Nat.reduceLeDiff]) | (simp (disch := omega) only [dsq, Int.reduceSub, Int.reduceAdd, Int.reduceToNat]) | ((with_reducible refine ev_call ?_); (first | (refine call_fn e1 rfl ?_)); refine k_run ?_) | ((with_reducible refine And.intro ?_ ?_); (focus first | omega | (simp; done) | (simp; omega) | ((repeat' (with_reducible refine And.intro ?_ ?_)) <;> first | omega | rfl | (simp only [go_sem, refsL_app, refs_dmap] <;> fail) | (simp [refsL_app, refs_dmap, AV.refsL, AV.refs] <;> omega)))) | ((with_reducible first | apply hK | (clear hK K; first | apply hK | (clear hK K; apply hK))); clear hK K) | fail)
 refine res_tmp rfl (by simp [D.plain, plains]) (by simp) ?_
 rfl

theorem abQ_in {n m : Int} (h : -m <= n /\ n <= m) : 0 <= abQ n /\ abQ n <= m := by
 unfold abQ
 split <;> omega

def prtB (p : Int) (x y : Nat) : Bool :=
 if p = 1 then decide ((x : Int) < 10) else if p = 2 then decide ((y : Int) < 12) else if p = 3 then decide (dnZ x y > 0)
 else if p = 4 then (decide ((x : Int) < 10) == decide ((y : Int) < 12)) else if p = 5 then (decide (dnZ x y > 0) == decide (dnZ (19 - x) y > 0))
 else if p = 6 then decide (((6 * (x : Int)).tdiv 20).tmod 2 = 0) else if p = 7 then decide (((y : Int).tdiv 4).tmod 2 = 0) else true

def prtI (p : Int) (x y : Nat) : Int := if prtB p x y then 0 else 1

theorem dnZ_in {x y : Int} (hx : 0 <= x /\ x < 20) (hy : 0 <= y /\ y < 24) : -1000 <= dnZ x y /\ dnZ x y <= 1000 := by
 unfold dnZ
 omega

theorem rgPart_fn (p : Int) (x y : Nat) (hx : x < 20) (hy : y < 24) : FnD Try.prog 103 [.int p, .int x, .int y] (.int (prtI p x y)) := by
 have e1 := rgDown_fn x y (by omega) (by omega)
 have e2 := rgDown_fn (19 - x) y (by omega) (by omega)
 have b1 := dnZ_in (x := x) (y := y) (by omega) (by omega)
 have b2 := dnZ_in (x := 19 - x) (y := y) (by omega) (by omega)
 have hp : ∀ b : Bool, prtB p x y = b -> prtI p x y = if b then 0 else 1 := fun b hb => by
  rw [prtI, hb]
 have hpt : prtB p x y = true -> prtI p x y = 0 := fun h => by rw [hp _ h]; rfl
 have hpf : prtB p x y = false -> prtI p x y = 1 := fun h => by rw [hp _ h]; rfl
 clear hp
 unfold prtB at hpt hpf
 generalize prtI p x y = z at *
 generalize dnZ x y = u at *
 generalize dnZ (19 - x) y = v at *
 by_cases d1 : p = 1
 ·
  simp only [d1, if_true, decide_eq_true_eq, decide_eq_false_iff_not] at hpt hpf
  by_cases k : (x : Int) < 10
  ·
   rw [hpt k]
   refine fn_go Try.func103 rfl rfl Try.ntmps103 Try.results103 (by simp only [slo, Nat.reduceAdd]; rfl) (by simp) ?_
   repeat' (first | (with_reducible first | refine aw_seq fun K hK => ?_ | refine aw_region (by kernel_rfl) ?_ | refine aw_condk ?_ | refine aw_block ?_) | ((with_reducible refine evg ?_); simp only [go_sem, ↓reduceIte, Nat.reduceEqDiff, Nat.reduceBEq, Nat.reduceAdd, Nat.reduceMul, Nat.reduceSub, Nat.reduceLT, Nat.reduceLeDiff]) | (simp (disch := omega) only [dsq, Int.reduceSub, Int.reduceAdd, Int.reduceToNat]) | ((with_reducible refine ck_split (fun h => ?_) (fun h => ?_)) <;> (try simp only [nrm] at h) <;> (try ((with_reducible exfalso); omega))) | ((with_reducible refine And.intro ?_ ?_); (focus first | omega | (simp; done) | (simp; omega) | ((repeat' (with_reducible refine And.intro ?_ ?_)) <;> first | omega | rfl | (simp only [go_sem, refsL_app, refs_dmap] <;> fail) | (simp [refsL_app, refs_dmap, AV.refsL, AV.refs] <;> omega)))) | ((with_reducible first | apply hK | (clear hK K; first | apply hK | (clear hK K; apply hK))); clear hK K) | fail)
   refine res_tmp rfl (by simp [D.plain, plains]) (by simp) ?_
   rfl
  ·
   rw [hpf k]
   refine fn_go Try.func103 rfl rfl Try.ntmps103 Try.results103 (by simp only [slo, Nat.reduceAdd]; rfl) (by simp) ?_
   repeat' (first | (with_reducible first | refine aw_seq fun K hK => ?_ | refine aw_region (by kernel_rfl) ?_ | refine aw_condk ?_ | refine aw_block ?_) | ((with_reducible refine evg ?_); simp only [go_sem, ↓reduceIte, Nat.reduceEqDiff, Nat.reduceBEq, Nat.reduceAdd, Nat.reduceMul, Nat.reduceSub, Nat.reduceLT, Nat.reduceLeDiff]) | (simp (disch := omega) only [dsq, Int.reduceSub, Int.reduceAdd, Int.reduceToNat]) | ((with_reducible refine ck_split (fun h => ?_) (fun h => ?_)) <;> (try simp only [nrm] at h) <;> (try ((with_reducible exfalso); omega))) | ((with_reducible refine And.intro ?_ ?_); (focus first | omega | (simp; done) | (simp; omega) | ((repeat' (with_reducible refine And.intro ?_ ?_)) <;> first | omega | rfl | (simp only [go_sem, refsL_app, refs_dmap] <;> fail) | (simp [refsL_app, refs_dmap, AV.refsL, AV.refs] <;> omega)))) | ((with_reducible first | apply hK | (clear hK K; first | apply hK | (clear hK K; apply hK))); clear hK K) | fail)
   refine res_tmp rfl (by simp [D.plain, plains]) (by simp) ?_
   rfl
 by_cases d2 : p = 2
 ·
  simp only [d2, if_true, Int.reduceEq, if_false, decide_eq_true_eq, decide_eq_false_iff_not] at hpt hpf
  by_cases k : (y : Int) < 12
  ·
   rw [hpt k]
   refine fn_go Try.func103 rfl rfl Try.ntmps103 Try.results103 (by simp only [slo, Nat.reduceAdd]; rfl) (by simp) ?_
   repeat' (first | (with_reducible first | refine aw_seq fun K hK => ?_ | refine aw_region (by kernel_rfl) ?_ | refine aw_condk ?_ | refine aw_block ?_) | ((with_reducible refine evg ?_); simp only [go_sem, ↓reduceIte, Nat.reduceEqDiff, Nat.reduceBEq, Nat.reduceAdd, Nat.reduceMul, Nat.reduceSub, Nat.reduceLT, Nat.reduceLeDiff]) | (simp (disch := omega) only [dsq, Int.reduceSub, Int.reduceAdd, Int.reduceToNat]) | ((with_reducible refine ck_split (fun h => ?_) (fun h => ?_)) <;> (try simp only [nrm] at h) <;> (try ((with_reducible exfalso); omega))) | ((with_reducible refine And.intro ?_ ?_); (focus first | omega | (simp; done) | (simp; omega) | ((repeat' (with_reducible refine And.intro ?_ ?_)) <;> first | omega | rfl | (simp only [go_sem, refsL_app, refs_dmap] <;> fail) | (simp [refsL_app, refs_dmap, AV.refsL, AV.refs] <;> omega)))) | ((with_reducible first | apply hK | (clear hK K; first | apply hK | (clear hK K; apply hK))); clear hK K) | fail)
   refine res_tmp rfl (by simp [D.plain, plains]) (by simp) ?_
   rfl
  ·
   rw [hpf k]
   refine fn_go Try.func103 rfl rfl Try.ntmps103 Try.results103 (by simp only [slo, Nat.reduceAdd]; rfl) (by simp) ?_
   repeat' (first | (with_reducible first | refine aw_seq fun K hK => ?_ | refine aw_region (by kernel_rfl) ?_ | refine aw_condk ?_ | refine aw_block ?_) | ((with_reducible refine evg ?_); simp only [go_sem, ↓reduceIte, Nat.reduceEqDiff, Nat.reduceBEq, Nat.reduceAdd, Nat.reduceMul, Nat.reduceSub, Nat.reduceLT, Nat.reduceLeDiff]) | (simp (disch := omega) only [dsq, Int.reduceSub, Int.reduceAdd, Int.reduceToNat]) | ((with_reducible refine ck_split (fun h => ?_) (fun h => ?_)) <;> (try simp only [nrm] at h) <;> (try ((with_reducible exfalso); omega))) | ((with_reducible refine And.intro ?_ ?_); (focus first | omega | (simp; done) | (simp; omega) | ((repeat' (with_reducible refine And.intro ?_ ?_)) <;> first | omega | rfl | (simp only [go_sem, refsL_app, refs_dmap] <;> fail) | (simp [refsL_app, refs_dmap, AV.refsL, AV.refs] <;> omega)))) | ((with_reducible first | apply hK | (clear hK K; first | apply hK | (clear hK K; apply hK))); clear hK K) | fail)
   refine res_tmp rfl (by simp [D.plain, plains]) (by simp) ?_
   rfl
 by_cases d3 : p = 3
 ·
  simp only [d3, if_true, Int.reduceEq, if_false, decide_eq_true_eq, decide_eq_false_iff_not] at hpt hpf
  by_cases k : u > 0
  ·
   rw [hpt k]
   refine fn_go Try.func103 rfl rfl Try.ntmps103 Try.results103 (by simp only [slo, Nat.reduceAdd]; rfl) (by simp) ?_
   repeat' (first | (with_reducible first | refine aw_seq fun K hK => ?_ | refine aw_region (by kernel_rfl) ?_ | refine aw_condk ?_ | refine aw_block ?_) | ((with_reducible refine evg ?_); simp only [go_sem, ↓reduceIte, Nat.reduceEqDiff, Nat.reduceBEq, Nat.reduceAdd, Nat.reduceMul, Nat.reduceSub, Nat.reduceLT, Nat.reduceLeDiff]) | (simp (disch := omega) only [dsq, Int.reduceSub, Int.reduceAdd, Int.reduceToNat]) | ((with_reducible refine ev_call ?_); (first | (refine call_fn e1 rfl ?_) | (refine call_fn e2 rfl ?_)); refine k_run ?_) | ((with_reducible refine ck_split (fun h => ?_) (fun h => ?_)) <;> (try simp only [nrm] at h) <;> (try ((with_reducible exfalso); omega))) | ((with_reducible refine And.intro ?_ ?_); (focus first | omega | (simp; done) | (simp; omega) | ((repeat' (with_reducible refine And.intro ?_ ?_)) <;> first | omega | rfl | (simp only [go_sem, refsL_app, refs_dmap] <;> fail) | (simp [refsL_app, refs_dmap, AV.refsL, AV.refs] <;> omega)))) | ((with_reducible first | apply hK | (clear hK K; first | apply hK | (clear hK K; apply hK))); clear hK K) | fail)
   refine res_tmp rfl (by simp [D.plain, plains]) (by simp) ?_
   rfl
  ·
   rw [hpf k]
   refine fn_go Try.func103 rfl rfl Try.ntmps103 Try.results103 (by simp only [slo, Nat.reduceAdd]; rfl) (by simp) ?_
   repeat' (first | (with_reducible first | refine aw_seq fun K hK => ?_ | refine aw_region (by kernel_rfl) ?_ | refine aw_condk ?_ | refine aw_block ?_) | ((with_reducible refine evg ?_); simp only [go_sem, ↓reduceIte, Nat.reduceEqDiff, Nat.reduceBEq, Nat.reduceAdd, Nat.reduceMul, Nat.reduceSub, Nat.reduceLT, Nat.reduceLeDiff]) | (simp (disch := omega) only [dsq, Int.reduceSub, Int.reduceAdd, Int.reduceToNat]) | ((with_reducible refine ev_call ?_); (first | (refine call_fn e1 rfl ?_) | (refine call_fn e2 rfl ?_)); refine k_run ?_) | ((with_reducible refine ck_split (fun h => ?_) (fun h => ?_)) <;> (try simp only [nrm] at h) <;> (try ((with_reducible exfalso); omega))) | ((with_reducible refine And.intro ?_ ?_); (focus first | omega | (simp; done) | (simp; omega) | ((repeat' (with_reducible refine And.intro ?_ ?_)) <;> first | omega | rfl | (simp only [go_sem, refsL_app, refs_dmap] <;> fail) | (simp [refsL_app, refs_dmap, AV.refsL, AV.refs] <;> omega)))) | ((with_reducible first | apply hK | (clear hK K; first | apply hK | (clear hK K; apply hK))); clear hK K) | fail)
   refine res_tmp rfl (by simp [D.plain, plains]) (by simp) ?_
   rfl
 by_cases d4 : p = 4
 ·
  simp only [d4, if_true, Int.reduceEq, if_false] at hpt hpf
  by_cases k1 : (x : Int) < 10 <;> by_cases k2 : (y : Int) < 12
  all_goals
   simp only [k1, k2, decide_true, decide_false, beq_self_eq_true, forall_const, Bool.false_beq, Bool.not_true, Bool.true_beq, Bool.true_eq_false, Bool.false_eq_true, false_implies] at hpt hpf
   first | rw [hpt] | rw [hpf]
   refine fn_go Try.func103 rfl rfl Try.ntmps103 Try.results103 (by simp only [slo, Nat.reduceAdd]; rfl) (by simp) ?_
   repeat' (first | (with_reducible first | refine aw_seq fun K hK => ?_ | refine aw_region (by kernel_rfl) ?_ | refine aw_condk ?_ | refine aw_block ?_) | ((with_reducible refine evg ?_); simp only [go_sem, ↓reduceIte, Nat.reduceEqDiff, Nat.reduceBEq, Nat.reduceAdd, Nat.reduceMul, Nat.reduceSub, Nat.reduceLT, Nat.reduceLeDiff]) | (simp (disch := omega) only [dsq, Int.reduceSub, Int.reduceAdd, Int.reduceToNat]) | ((with_reducible refine ev_call ?_); (first | (refine call_fn e1 rfl ?_) | (refine call_fn e2 rfl ?_)); refine k_run ?_) | ((with_reducible refine ck_split (fun h => ?_) (fun h => ?_)) <;> (try simp only [nrm] at h) <;> (try ((with_reducible exfalso); omega))) | ((with_reducible refine And.intro ?_ ?_); (focus first | omega | (simp; done) | (simp; omega) | ((repeat' (with_reducible refine And.intro ?_ ?_)) <;> first | omega | rfl | (simp only [go_sem, refsL_app, refs_dmap] <;> fail) | (simp [refsL_app, refs_dmap, AV.refsL, AV.refs] <;> omega)))) | ((with_reducible first | apply hK | (clear hK K; first | apply hK | (clear hK K; apply hK))); clear hK K) | fail)
   all_goals first | exact absurd trivial h | exact absurd (decide_eq_decide.1 h) (by omega) | exact absurd (decide_eq_decide.2 (by omega)) h | skip
   refine res_tmp rfl (by simp [D.plain, plains]) (by simp) ?_
   rfl
 by_cases d5 : p = 5
 ·
  simp only [d5, if_true, Int.reduceEq, if_false] at hpt hpf
  by_cases k1 : u > 0 <;> by_cases k2 : v > 0
  all_goals
   simp only [k1, k2, decide_true, decide_false, beq_self_eq_true, forall_const, Bool.false_beq, Bool.not_true, Bool.true_beq, Bool.true_eq_false, Bool.false_eq_true, false_implies] at hpt hpf
   first | rw [hpt] | rw [hpf]
   refine fn_go Try.func103 rfl rfl Try.ntmps103 Try.results103 (by simp only [slo, Nat.reduceAdd]; rfl) (by simp) ?_
   repeat' (first | (with_reducible first | refine aw_seq fun K hK => ?_ | refine aw_region (by kernel_rfl) ?_ | refine aw_condk ?_ | refine aw_block ?_) | ((with_reducible refine evg ?_); simp only [go_sem, ↓reduceIte, Nat.reduceEqDiff, Nat.reduceBEq, Nat.reduceAdd, Nat.reduceMul, Nat.reduceSub, Nat.reduceLT, Nat.reduceLeDiff]) | (simp (disch := omega) only [dsq, Int.reduceSub, Int.reduceAdd, Int.reduceToNat]) | ((with_reducible refine ev_call ?_); (first | (refine call_fn e1 rfl ?_) | (refine call_fn e2 rfl ?_)); refine k_run ?_) | ((with_reducible refine ck_split (fun h => ?_) (fun h => ?_)) <;> (try simp only [nrm] at h) <;> (try ((with_reducible exfalso); omega))) | ((with_reducible refine And.intro ?_ ?_); (focus first | omega | (simp; done) | (simp; omega) | ((repeat' (with_reducible refine And.intro ?_ ?_)) <;> first | omega | rfl | (simp only [go_sem, refsL_app, refs_dmap] <;> fail) | (simp [refsL_app, refs_dmap, AV.refsL, AV.refs] <;> omega)))) | ((with_reducible first | apply hK | (clear hK K; first | apply hK | (clear hK K; apply hK))); clear hK K) | fail)
   all_goals first | exact absurd trivial h | exact absurd (decide_eq_decide.1 h) (by omega) | exact absurd (decide_eq_decide.2 (by omega)) h | skip
   refine res_tmp rfl (by simp [D.plain, plains]) (by simp) ?_
   rfl
 by_cases d6 : p = 6
 ·
  simp only [d6, if_true, Int.reduceEq, if_false, decide_eq_true_eq, decide_eq_false_iff_not] at hpt hpf
  have w : 0 <= (6 * (x : Int)).tdiv 20 /\ (6 * (x : Int)).tdiv 20 <= 100 := by
   rw [Int.tdiv_eq_ediv_of_nonneg (by omega)]
   omega
  by_cases k : ((6 * (x : Int)).tdiv 20).tmod 2 = 0
  ·
   rw [hpt k]
   refine fn_go Try.func103 rfl rfl Try.ntmps103 Try.results103 (by simp only [slo, Nat.reduceAdd]; rfl) (by simp) ?_
   repeat' (first | (with_reducible first | refine aw_seq fun K hK => ?_ | refine aw_region (by kernel_rfl) ?_ | refine aw_condk ?_ | refine aw_block ?_) | ((with_reducible refine evg ?_); simp only [go_sem, ↓reduceIte, Nat.reduceEqDiff, Nat.reduceBEq, Nat.reduceAdd, Nat.reduceMul, Nat.reduceSub, Nat.reduceLT, Nat.reduceLeDiff]) | (simp (disch := omega) only [dsq, Int.reduceSub, Int.reduceAdd, Int.reduceToNat]) | ((with_reducible refine ck_split (fun h => ?_) (fun h => ?_)) <;> (try simp only [nrm] at h) <;> (try ((with_reducible exfalso); omega))) | ((with_reducible refine And.intro ?_ ?_); (focus first | omega | (simp; done) | (simp; omega) | ((repeat' (with_reducible refine And.intro ?_ ?_)) <;> first | omega | rfl | (simp only [go_sem, refsL_app, refs_dmap] <;> fail) | (simp [refsL_app, refs_dmap, AV.refsL, AV.refs] <;> omega)))) | ((with_reducible first | apply hK | (clear hK K; first | apply hK | (clear hK K; apply hK))); clear hK K) | fail)
   refine res_tmp rfl (by simp [D.plain, plains]) (by simp) ?_
   rfl
  ·
   rw [hpf k]
   refine fn_go Try.func103 rfl rfl Try.ntmps103 Try.results103 (by simp only [slo, Nat.reduceAdd]; rfl) (by simp) ?_
   repeat' (first | (with_reducible first | refine aw_seq fun K hK => ?_ | refine aw_region (by kernel_rfl) ?_ | refine aw_condk ?_ | refine aw_block ?_) | ((with_reducible refine evg ?_); simp only [go_sem, ↓reduceIte, Nat.reduceEqDiff, Nat.reduceBEq, Nat.reduceAdd, Nat.reduceMul, Nat.reduceSub, Nat.reduceLT, Nat.reduceLeDiff]) | (simp (disch := omega) only [dsq, Int.reduceSub, Int.reduceAdd, Int.reduceToNat]) | ((with_reducible refine ck_split (fun h => ?_) (fun h => ?_)) <;> (try simp only [nrm] at h) <;> (try ((with_reducible exfalso); omega))) | ((with_reducible refine And.intro ?_ ?_); (focus first | omega | (simp; done) | (simp; omega) | ((repeat' (with_reducible refine And.intro ?_ ?_)) <;> first | omega | rfl | (simp only [go_sem, refsL_app, refs_dmap] <;> fail) | (simp [refsL_app, refs_dmap, AV.refsL, AV.refs] <;> omega)))) | ((with_reducible first | apply hK | (clear hK K; first | apply hK | (clear hK K; apply hK))); clear hK K) | fail)
   refine res_tmp rfl (by simp [D.plain, plains]) (by simp) ?_
   rfl
 by_cases d7 : p = 7
 ·
  simp only [d7, if_true, Int.reduceEq, if_false, decide_eq_true_eq, decide_eq_false_iff_not] at hpt hpf
  have w : 0 <= (y : Int).tdiv 4 /\ (y : Int).tdiv 4 <= 100 := by
   rw [Int.tdiv_eq_ediv_of_nonneg (by omega)]
   omega
  by_cases k : ((y : Int).tdiv 4).tmod 2 = 0
  ·
   rw [hpt k]
   refine fn_go Try.func103 rfl rfl Try.ntmps103 Try.results103 (by simp only [slo, Nat.reduceAdd]; rfl) (by simp) ?_
   repeat' (first | (with_reducible first | refine aw_seq fun K hK => ?_ | refine aw_region (by kernel_rfl) ?_ | refine aw_condk ?_ | refine aw_block ?_) | ((with_reducible refine evg ?_); simp only [go_sem, ↓reduceIte, Nat.reduceEqDiff, Nat.reduceBEq, Nat.reduceAdd, Nat.reduceMul, Nat.reduceSub, Nat.reduceLT, Nat.reduceLeDiff]) | (simp (disch := omega) only [dsq, Int.reduceSub, Int.reduceAdd, Int.reduceToNat]) | ((with_reducible refine ck_split (fun h => ?_) (fun h => ?_)) <;> (try simp only [nrm] at h) <;> (try ((with_reducible exfalso); omega))) | ((with_reducible refine And.intro ?_ ?_); (focus first | omega | (simp; done) | (simp; omega) | ((repeat' (with_reducible refine And.intro ?_ ?_)) <;> first | omega | rfl | (simp only [go_sem, refsL_app, refs_dmap] <;> fail) | (simp [refsL_app, refs_dmap, AV.refsL, AV.refs] <;> omega)))) | ((with_reducible first | apply hK | (clear hK K; first | apply hK | (clear hK K; apply hK))); clear hK K) | fail)
   refine res_tmp rfl (by simp [D.plain, plains]) (by simp) ?_
   rfl
  ·
   rw [hpf k]
   refine fn_go Try.func103 rfl rfl Try.ntmps103 Try.results103 (by simp only [slo, Nat.reduceAdd]; rfl) (by simp) ?_
   repeat' (first | (with_reducible first | refine aw_seq fun K hK => ?_ | refine aw_region (by kernel_rfl) ?_ | refine aw_condk ?_ | refine aw_block ?_) | ((with_reducible refine evg ?_); simp only [go_sem, ↓reduceIte, Nat.reduceEqDiff, Nat.reduceBEq, Nat.reduceAdd, Nat.reduceMul, Nat.reduceSub, Nat.reduceLT, Nat.reduceLeDiff]) | (simp (disch := omega) only [dsq, Int.reduceSub, Int.reduceAdd, Int.reduceToNat]) | ((with_reducible refine ck_split (fun h => ?_) (fun h => ?_)) <;> (try simp only [nrm] at h) <;> (try ((with_reducible exfalso); omega))) | ((with_reducible refine And.intro ?_ ?_); (focus first | omega | (simp; done) | (simp; omega) | ((repeat' (with_reducible refine And.intro ?_ ?_)) <;> first | omega | rfl | (simp only [go_sem, refsL_app, refs_dmap] <;> fail) | (simp [refsL_app, refs_dmap, AV.refsL, AV.refs] <;> omega)))) | ((with_reducible first | apply hK | (clear hK K; first | apply hK | (clear hK K; apply hK))); clear hK K) | fail)
   refine res_tmp rfl (by simp [D.plain, plains]) (by simp) ?_
   rfl
 ·
  simp only [d1, d2, d3, d4, d5, d6, d7, if_false, forall_const] at hpt
  rw [hpt]
  refine fn_go Try.func103 rfl rfl Try.ntmps103 Try.results103 (by simp only [slo, Nat.reduceAdd]; rfl) (by simp) ?_
  repeat' (first | (with_reducible first | refine aw_seq fun K hK => ?_ | refine aw_region (by kernel_rfl) ?_ | refine aw_condk ?_ | refine aw_block ?_) | ((with_reducible refine evg ?_); simp only [go_sem, ↓reduceIte, Nat.reduceEqDiff, Nat.reduceBEq, Nat.reduceAdd, Nat.reduceMul, Nat.reduceSub, Nat.reduceLT, Nat.reduceLeDiff]) | (simp (disch := omega) only [dsq, Int.reduceSub, Int.reduceAdd, Int.reduceToNat]) | ((with_reducible refine ck_split (fun h => ?_) (fun h => ?_)) <;> (try simp only [nrm] at h) <;> (try ((with_reducible exfalso); omega))) | ((with_reducible refine And.intro ?_ ?_); (focus first | omega | (simp; done) | (simp; omega) | ((repeat' (with_reducible refine And.intro ?_ ?_)) <;> first | omega | rfl | (simp only [go_sem, refsL_app, refs_dmap] <;> fail) | (simp [refsL_app, refs_dmap, AV.refsL, AV.refs] <;> omega)))) | ((with_reducible first | apply hK | (clear hK K; first | apply hK | (clear hK K; apply hK))); clear hK K) | fail)
  refine res_tmp rfl (by simp [D.plain, plains]) (by simp) ?_
  rfl

def odB (o : Int) (x y : Nat) : Bool :=
 if o = 1 then inR x 7 12 else if o = 2 then inR y 8 15 else if o = 3 then decide (abQ (dnZ x y) <= 160)
 else if o = 4 then inR (2 * (y : Int) + 1 - abQ (2 * (x : Int) - 19)) 11 22 else if o = 5 then (inR x 8 11 || inR y 10 13)
 else if o = 6 then (decide (abQ (dnZ x y) <= 120) || decide (abQ (dnZ (19 - x) y) <= 120)) else if o = 7 then decide ((y : Int) < 8) else false

theorem rgOrd_fn (o : Int) (x y : Nat) (hx : x < 20) (hy : y < 24) : FnD Try.prog 104 [.int o, .int x, .int y] (.bool (odB o x y)) := by
 have e1 := rgDown_fn x y (by omega) (by omega)
 have e2 := rgDown_fn (19 - x) y (by omega) (by omega)
 have b1 := dnZ_in (x := x) (y := y) (by omega) (by omega)
 have b2 := dnZ_in (x := 19 - x) (y := y) (by omega) (by omega)
 have hp : ∀ b : Bool, odB o x y = b -> odB o x y = b := fun b hb => hb
 conv at hp => enter [b]; lhs; unfold odB
 generalize odB o x y = z at *
 generalize dnZ x y = u at *
 generalize dnZ (19 - x) y = v at *
 by_cases d1 : o = 1
 ·
  simp only [d1, if_true] at hp
  rw [hp _ rfl]
  have f1 := l1In_fn x 7 12
  refine fn_go Try.func104 rfl rfl Try.ntmps104 Try.results104 (by simp only [slo, Nat.reduceAdd]; rfl) (by simp) ?_
  repeat' (first | (with_reducible first | refine aw_seq fun K hK => ?_ | refine aw_region (by kernel_rfl) ?_ | refine aw_condk ?_ | refine aw_block ?_) | ((with_reducible refine evg ?_); simp only [go_sem, ↓reduceIte, Nat.reduceEqDiff, Nat.reduceBEq, Nat.reduceAdd, Nat.reduceMul, Nat.reduceSub, Nat.reduceLT, Nat.reduceLeDiff]) | (simp (disch := omega) only [dsq, Int.reduceSub, Int.reduceAdd, Int.reduceToNat]) | ((with_reducible refine ev_call ?_); (first | (refine call_fn f1 rfl ?_)); refine k_run ?_) | ((with_reducible refine ev_guard ?_); (with_reducible first | refine guard_t ?_ ?_ rfl | refine guard_f ?_ ?_ rfl) <;> (intro h; (try simp only [h]); (try simp only [nrm] at h) <;> (try ((with_reducible exfalso); omega)))) | ((with_reducible refine ck_split (fun h => ?_) (fun h => ?_)) <;> (try simp only [nrm] at h) <;> (try ((with_reducible exfalso); omega))) | ((with_reducible refine And.intro ?_ ?_); (focus first | omega | (simp; done) | (simp; omega) | ((repeat' (with_reducible refine And.intro ?_ ?_)) <;> first | omega | rfl | (simp only [go_sem, refsL_app, refs_dmap] <;> fail) | (simp [refsL_app, refs_dmap, AV.refsL, AV.refs] <;> omega)))) | ((with_reducible first | apply hK | (clear hK K; first | apply hK | (clear hK K; apply hK))); clear hK K) | fail)
  refine res_tmp rfl (by simp [D.plain, plains]) (by simp) ?_
  rfl
 by_cases d2 : o = 2
 ·
  simp only [d2, if_true, Int.reduceEq, if_false] at hp
  rw [hp _ rfl]
  have f1 := l1In_fn y 8 15
  refine fn_go Try.func104 rfl rfl Try.ntmps104 Try.results104 (by simp only [slo, Nat.reduceAdd]; rfl) (by simp) ?_
  repeat' (first | (with_reducible first | refine aw_seq fun K hK => ?_ | refine aw_region (by kernel_rfl) ?_ | refine aw_condk ?_ | refine aw_block ?_) | ((with_reducible refine evg ?_); simp only [go_sem, ↓reduceIte, Nat.reduceEqDiff, Nat.reduceBEq, Nat.reduceAdd, Nat.reduceMul, Nat.reduceSub, Nat.reduceLT, Nat.reduceLeDiff]) | (simp (disch := omega) only [dsq, Int.reduceSub, Int.reduceAdd, Int.reduceToNat]) | ((with_reducible refine ev_call ?_); (first | (refine call_fn f1 rfl ?_)); refine k_run ?_) | ((with_reducible refine ev_guard ?_); (with_reducible first | refine guard_t ?_ ?_ rfl | refine guard_f ?_ ?_ rfl) <;> (intro h; (try simp only [h]); (try simp only [nrm] at h) <;> (try ((with_reducible exfalso); omega)))) | ((with_reducible refine ck_split (fun h => ?_) (fun h => ?_)) <;> (try simp only [nrm] at h) <;> (try ((with_reducible exfalso); omega))) | ((with_reducible refine And.intro ?_ ?_); (focus first | omega | (simp; done) | (simp; omega) | ((repeat' (with_reducible refine And.intro ?_ ?_)) <;> first | omega | rfl | (simp only [go_sem, refsL_app, refs_dmap] <;> fail) | (simp [refsL_app, refs_dmap, AV.refsL, AV.refs] <;> omega)))) | ((with_reducible first | apply hK | (clear hK K; first | apply hK | (clear hK K; apply hK))); clear hK K) | fail)
  refine res_tmp rfl (by simp [D.plain, plains]) (by simp) ?_
  rfl
 by_cases d3 : o = 3
 ·
  simp only [d3, if_true, Int.reduceEq, if_false] at hp
  rw [hp _ rfl]
  have f1 := rgAbs_fn u (by omega)
  generalize abQ u = a at *
  refine fn_go Try.func104 rfl rfl Try.ntmps104 Try.results104 (by simp only [slo, Nat.reduceAdd]; rfl) (by simp) ?_
  repeat' (first | (with_reducible first | refine aw_seq fun K hK => ?_ | refine aw_region (by kernel_rfl) ?_ | refine aw_condk ?_ | refine aw_block ?_) | ((with_reducible refine evg ?_); simp only [go_sem, ↓reduceIte, Nat.reduceEqDiff, Nat.reduceBEq, Nat.reduceAdd, Nat.reduceMul, Nat.reduceSub, Nat.reduceLT, Nat.reduceLeDiff]) | (simp (disch := omega) only [dsq, Int.reduceSub, Int.reduceAdd, Int.reduceToNat]) | ((with_reducible refine ev_call ?_); (first | (refine call_fn e1 rfl ?_) | (refine call_fn e2 rfl ?_) | (refine call_fn f1 rfl ?_)); refine k_run ?_) | ((with_reducible refine ev_guard ?_); (with_reducible first | refine guard_t ?_ ?_ rfl | refine guard_f ?_ ?_ rfl) <;> (intro h; (try simp only [h]); (try simp only [nrm] at h) <;> (try ((with_reducible exfalso); omega)))) | ((with_reducible refine ck_split (fun h => ?_) (fun h => ?_)) <;> (try simp only [nrm] at h) <;> (try ((with_reducible exfalso); omega))) | ((with_reducible refine And.intro ?_ ?_); (focus first | omega | (simp; done) | (simp; omega) | ((repeat' (with_reducible refine And.intro ?_ ?_)) <;> first | omega | rfl | (simp only [go_sem, refsL_app, refs_dmap] <;> fail) | (simp [refsL_app, refs_dmap, AV.refsL, AV.refs] <;> omega)))) | ((with_reducible first | apply hK | (clear hK K; first | apply hK | (clear hK K; apply hK))); clear hK K) | fail)
  refine res_tmp rfl (by simp [D.plain, plains]) (by simp) ?_
  rfl
 by_cases d4 : o = 4
 ·
  simp only [d4, if_true, Int.reduceEq, if_false] at hp
  rw [hp _ rfl]
  have f1 := rgAbs_fn (2 * (x : Int) - 19) (by omega)
  have b5 := abQ_in (n := 2 * (x : Int) - 19) (m := 40) (by omega)
  generalize abQ (2 * (x : Int) - 19) = a at *
  have f2 := l1In_fn (2 * (y : Int) + 1 - a) 11 22
  refine fn_go Try.func104 rfl rfl Try.ntmps104 Try.results104 (by simp only [slo, Nat.reduceAdd]; rfl) (by simp) ?_
  repeat' (first | (with_reducible first | refine aw_seq fun K hK => ?_ | refine aw_region (by kernel_rfl) ?_ | refine aw_condk ?_ | refine aw_block ?_) | ((with_reducible refine evg ?_); simp only [go_sem, ↓reduceIte, Nat.reduceEqDiff, Nat.reduceBEq, Nat.reduceAdd, Nat.reduceMul, Nat.reduceSub, Nat.reduceLT, Nat.reduceLeDiff]) | (simp (disch := omega) only [dsq, Int.reduceSub, Int.reduceAdd, Int.reduceToNat]) | ((with_reducible refine ev_call ?_); (first | (refine call_fn e1 rfl ?_) | (refine call_fn e2 rfl ?_) | (refine call_fn f1 rfl ?_) | (refine call_fn f2 rfl ?_)); refine k_run ?_) | ((with_reducible refine ev_guard ?_); (with_reducible first | refine guard_t ?_ ?_ rfl | refine guard_f ?_ ?_ rfl) <;> (intro h; (try simp only [h]); (try simp only [nrm] at h) <;> (try ((with_reducible exfalso); omega)))) | ((with_reducible refine ck_split (fun h => ?_) (fun h => ?_)) <;> (try simp only [nrm] at h) <;> (try ((with_reducible exfalso); omega))) | ((with_reducible refine And.intro ?_ ?_); (focus first | omega | (simp; done) | (simp; omega) | ((repeat' (with_reducible refine And.intro ?_ ?_)) <;> first | omega | rfl | (simp only [go_sem, refsL_app, refs_dmap] <;> fail) | (simp [refsL_app, refs_dmap, AV.refsL, AV.refs] <;> omega)))) | ((with_reducible first | apply hK | (clear hK K; first | apply hK | (clear hK K; apply hK))); clear hK K) | fail)
  refine res_tmp rfl (by simp [D.plain, plains]) (by simp) ?_
  rfl
 by_cases d5 : o = 5
 ·
  simp only [d5, if_true, Int.reduceEq, if_false] at hp
  have f1 := l1In_fn x 8 11
  have f2 := l1In_fn y 10 13
  rw [hp _ rfl]
  cases g : inR x 8 11
  all_goals
   rw [g] at f1
   refine fn_go Try.func104 rfl rfl Try.ntmps104 Try.results104 (by simp only [slo, Nat.reduceAdd]; rfl) (by simp) ?_
   repeat' (first | (with_reducible first | refine aw_seq fun K hK => ?_ | refine aw_region (by kernel_rfl) ?_ | refine aw_condk ?_ | refine aw_block ?_) | ((with_reducible refine evg ?_); simp only [go_sem, ↓reduceIte, Nat.reduceEqDiff, Nat.reduceBEq, Nat.reduceAdd, Nat.reduceMul, Nat.reduceSub, Nat.reduceLT, Nat.reduceLeDiff]) | (simp (disch := omega) only [dsq, Int.reduceSub, Int.reduceAdd, Int.reduceToNat]) | ((with_reducible refine ev_call ?_); (first | (refine call_fn f1 rfl ?_) | (refine call_fn f2 rfl ?_)); refine k_run ?_) | ((with_reducible refine ev_guard ?_); (with_reducible first | refine guard_t ?_ ?_ rfl | refine guard_f ?_ ?_ rfl) <;> (intro h; (try simp only [h]); (try simp only [nrm] at h) <;> (try ((with_reducible exfalso); omega)))) | ((with_reducible refine ck_split (fun h => ?_) (fun h => ?_)) <;> (try simp only [nrm] at h) <;> (try ((with_reducible exfalso); omega))) | ((with_reducible refine And.intro ?_ ?_); (focus first | omega | (simp; done) | (simp; omega) | ((repeat' (with_reducible refine And.intro ?_ ?_)) <;> first | omega | rfl | (simp only [go_sem, refsL_app, refs_dmap] <;> fail) | (simp [refsL_app, refs_dmap, AV.refsL, AV.refs] <;> omega)))) | ((with_reducible first | apply hK | (clear hK K; first | apply hK | (clear hK K; apply hK))); clear hK K) | fail)
   refine res_tmp rfl (by simp [D.plain, plains]) (by simp) ?_
   rfl
 by_cases d6 : o = 6
 ·
  simp only [d6, if_true, Int.reduceEq, if_false] at hp
  have f1 := rgAbs_fn u (by omega)
  have f2 := rgAbs_fn v (by omega)
  rw [hp _ rfl]
  generalize abQ u = a at *
  generalize abQ v = c at *
  by_cases g : a <= 120
  ·
   rw [decide_eq_true g]
   refine fn_go Try.func104 rfl rfl Try.ntmps104 Try.results104 (by simp only [slo, Nat.reduceAdd]; rfl) (by simp) ?_
   repeat' (first | (with_reducible first | refine aw_seq fun K hK => ?_ | refine aw_region (by kernel_rfl) ?_ | refine aw_condk ?_ | refine aw_block ?_) | ((with_reducible refine evg ?_); simp only [go_sem, ↓reduceIte, Nat.reduceEqDiff, Nat.reduceBEq, Nat.reduceAdd, Nat.reduceMul, Nat.reduceSub, Nat.reduceLT, Nat.reduceLeDiff]) | (simp (disch := omega) only [dsq, Int.reduceSub, Int.reduceAdd, Int.reduceToNat]) | ((with_reducible refine ev_call ?_); (first | (refine call_fn e1 rfl ?_) | (refine call_fn e2 rfl ?_) | (refine call_fn f1 rfl ?_) | (refine call_fn f2 rfl ?_)); refine k_run ?_) | ((with_reducible refine ev_guard ?_); (with_reducible first | refine guard_t ?_ ?_ rfl | refine guard_f ?_ ?_ rfl) <;> (intro h; (try simp only [h]); (try simp only [nrm] at h) <;> (try ((with_reducible exfalso); omega)))) | ((with_reducible refine ck_split (fun h => ?_) (fun h => ?_)) <;> (try simp only [nrm] at h) <;> (try ((with_reducible exfalso); omega))) | ((with_reducible refine And.intro ?_ ?_); (focus first | omega | (simp; done) | (simp; omega) | ((repeat' (with_reducible refine And.intro ?_ ?_)) <;> first | omega | rfl | (simp only [go_sem, refsL_app, refs_dmap] <;> fail) | (simp [refsL_app, refs_dmap, AV.refsL, AV.refs] <;> omega)))) | ((with_reducible first | apply hK | (clear hK K; first | apply hK | (clear hK K; apply hK))); clear hK K) | fail)
   refine res_tmp rfl (by simp [D.plain, plains]) (by simp) ?_
   rfl
  ·
   rw [decide_eq_false g]
   refine fn_go Try.func104 rfl rfl Try.ntmps104 Try.results104 (by simp only [slo, Nat.reduceAdd]; rfl) (by simp) ?_
   repeat' (first | (with_reducible first | refine aw_seq fun K hK => ?_ | refine aw_region (by kernel_rfl) ?_ | refine aw_condk ?_ | refine aw_block ?_) | ((with_reducible refine evg ?_); simp only [go_sem, ↓reduceIte, Nat.reduceEqDiff, Nat.reduceBEq, Nat.reduceAdd, Nat.reduceMul, Nat.reduceSub, Nat.reduceLT, Nat.reduceLeDiff]) | (simp (disch := omega) only [dsq, Int.reduceSub, Int.reduceAdd, Int.reduceToNat]) | ((with_reducible refine ev_call ?_); (first | (refine call_fn e1 rfl ?_) | (refine call_fn e2 rfl ?_) | (refine call_fn f1 rfl ?_) | (refine call_fn f2 rfl ?_)); refine k_run ?_) | ((with_reducible refine ev_guard ?_); (with_reducible first | refine guard_t ?_ ?_ rfl | refine guard_f ?_ ?_ rfl) <;> (intro h; (try simp only [h]); (try simp only [nrm] at h) <;> (try ((with_reducible exfalso); omega)))) | ((with_reducible refine ck_split (fun h => ?_) (fun h => ?_)) <;> (try simp only [nrm] at h) <;> (try ((with_reducible exfalso); omega))) | ((with_reducible refine And.intro ?_ ?_); (focus first | omega | (simp; done) | (simp; omega) | ((repeat' (with_reducible refine And.intro ?_ ?_)) <;> first | omega | rfl | (simp only [go_sem, refsL_app, refs_dmap] <;> fail) | (simp [refsL_app, refs_dmap, AV.refsL, AV.refs] <;> omega)))) | ((with_reducible first | apply hK | (clear hK K; first | apply hK | (clear hK K; apply hK))); clear hK K) | fail)
   refine res_tmp rfl (by simp [D.plain, plains]) (by simp) ?_
   rfl
 by_cases d7 : o = 7
 ·
  simp only [d7, if_true, Int.reduceEq, if_false] at hp
  rw [hp _ rfl]
  refine fn_go Try.func104 rfl rfl Try.ntmps104 Try.results104 (by simp only [slo, Nat.reduceAdd]; rfl) (by simp) ?_
  repeat' (first | (with_reducible first | refine aw_seq fun K hK => ?_ | refine aw_region (by kernel_rfl) ?_ | refine aw_condk ?_ | refine aw_block ?_) | ((with_reducible refine evg ?_); simp only [go_sem, ↓reduceIte, Nat.reduceEqDiff, Nat.reduceBEq, Nat.reduceAdd, Nat.reduceMul, Nat.reduceSub, Nat.reduceLT, Nat.reduceLeDiff]) | (simp (disch := omega) only [dsq, Int.reduceSub, Int.reduceAdd, Int.reduceToNat]) | ((with_reducible refine ev_guard ?_); (with_reducible first | refine guard_t ?_ ?_ rfl | refine guard_f ?_ ?_ rfl) <;> (intro h; (try simp only [h]); (try simp only [nrm] at h) <;> (try ((with_reducible exfalso); omega)))) | ((with_reducible refine ck_split (fun h => ?_) (fun h => ?_)) <;> (try simp only [nrm] at h) <;> (try ((with_reducible exfalso); omega))) | ((with_reducible refine And.intro ?_ ?_); (focus first | omega | (simp; done) | (simp; omega) | ((repeat' (with_reducible refine And.intro ?_ ?_)) <;> first | omega | rfl | (simp only [go_sem, refsL_app, refs_dmap] <;> fail) | (simp [refsL_app, refs_dmap, AV.refsL, AV.refs] <;> omega)))) | ((with_reducible first | apply hK | (clear hK K; first | apply hK | (clear hK K; apply hK))); clear hK K) | fail)
  refine res_tmp rfl (by simp [D.plain, plains]) (by simp) ?_
  rfl
 ·
  simp only [d1, d2, d3, d4, d5, d6, d7, if_false] at hp
  rw [hp _ rfl]
  refine fn_go Try.func104 rfl rfl Try.ntmps104 Try.results104 (by simp only [slo, Nat.reduceAdd]; rfl) (by simp) ?_
  repeat' (first | (with_reducible first | refine aw_seq fun K hK => ?_ | refine aw_region (by kernel_rfl) ?_ | refine aw_condk ?_ | refine aw_block ?_) | ((with_reducible refine evg ?_); simp only [go_sem, ↓reduceIte, Nat.reduceEqDiff, Nat.reduceBEq, Nat.reduceAdd, Nat.reduceMul, Nat.reduceSub, Nat.reduceLT, Nat.reduceLeDiff]) | (simp (disch := omega) only [dsq, Int.reduceSub, Int.reduceAdd, Int.reduceToNat]) | ((with_reducible refine ev_guard ?_); (with_reducible first | refine guard_t ?_ ?_ rfl | refine guard_f ?_ ?_ rfl) <;> (intro h; (try simp only [h]); (try simp only [nrm] at h) <;> (try ((with_reducible exfalso); omega)))) | ((with_reducible refine ck_split (fun h => ?_) (fun h => ?_)) <;> (try simp only [nrm] at h) <;> (try ((with_reducible exfalso); omega))) | ((with_reducible refine And.intro ?_ ?_); (focus first | omega | (simp; done) | (simp; omega) | ((repeat' (with_reducible refine And.intro ?_ ?_)) <;> first | omega | rfl | (simp only [go_sem, refsL_app, refs_dmap] <;> fail) | (simp [refsL_app, refs_dmap, AV.refsL, AV.refs] <;> omega)))) | ((with_reducible first | apply hK | (clear hK K; first | apply hK | (clear hK K; apply hK))); clear hK K) | fail)
  refine res_tmp rfl (by simp [D.plain, plains]) (by simp) ?_
  rfl

def addZ (zs : List Int) (x y : Nat) : List Int := if inSh x y then zs.set y (bits .or .i64 (zs.getD y 0) (IntKind.i64.wrap (1 * 2 ^ (min x 64)))) else zs

@[simp] theorem addZ_len (zs : List Int) (x y : Nat) : (addZ zs x y).length = zs.length := by
 unfold addZ
 split <;> simp

set_option maxRecDepth 100000 in
theorem pl_RgP_63_2 (l : List Oper) (h : l = opsOf Try.f63 2) : planB l (.pure 0 (.pure 1 (.pure 2 (.pure 3 (.pure 4 (.pure 5 (.pure 6 (.pure 7 (.pure 8 (.pure 9 (.pure 10 (.pure 11 (.pure 12 PT.fin))))))))))))) [13] = true := by
 subst h
 kernel_rfl

theorem rgAdd_s (s : Nat) (zs : List Int) (x y : Nat) (hx : x < 20) (hy : y < 24) (hl : zs.length = 24) : FnS Try.prog 63 [(s, .ds (zs.map D.int))] [.ag [.bs s 0 24 1], .d (.int x), .d (.int y)] [(s, .ds ((addZ zs x y).map D.int))] (.tu []) := by
 have h : FnS Try.prog 63 [(5000, .ds (zs.map D.int))] [.ag [.bs 5000 0 24 1], .d (.int x), .d (.int y)] [(5000, .ds ((addZ zs x y).map D.int))] (.tu []) := by
  have e1 := l9In_fn x y
  unfold addZ
  cases g1 : inSh x y
  ·
   rw [g1] at e1
   rw [if_neg (by simp)]
   refine fns_go Try.func63 rfl rfl Try.ntmps63 Try.results63 (by simp only [slotsA, Nat.reduceAdd]; rfl) (by simp) rfl ?_
   repeat' (first | (with_reducible first | refine aw_seq fun K hK => ?_ | refine aw_region (by kernel_rfl) ?_ | refine aw_condk ?_) | ((with_reducible refine ev_aw ?_); first | (refine aw_draw (id := 2) (by kernel_rfl) _ _ (by kernel_rfl) (pl_RgP_63_2 _ (by kernel_rfl)) ?_)) | (with_reducible first | refine ru_four ?_ ?_ ?_ ?_ | refine ru_three ?_ ?_ ?_ | refine ru_two ?_ ?_ | refine rv_split ?_ ?_ | refine rv_two ?_ ?_ | refine rp_two ?_ ?_) | ((with_reducible refine evg ?_); simp only [go_sem, St.clean, cleanO, ↓reduceIte, Nat.reduceEqDiff, Nat.reduceBEq, Nat.reduceAdd, Nat.reduceMul, Nat.reduceSub, Nat.reduceLT, Nat.reduceLeDiff]) | (simp (disch := omega) only [dsq, Int.reduceSub, Int.reduceAdd, Int.reduceToNat]) | ((with_reducible refine ev_call ?_); (first | (refine call_fn e1 rfl ?_)); refine k_run ?_) | ((with_reducible refine ck_split (fun h => ?_) (fun h => ?_)) <;> (try simp only [nrm] at h) <;> (try ((with_reducible exfalso); omega))) | ((with_reducible refine And.intro ?_ ?_); (focus first | omega | (simp; done) | (simp; omega) | ((repeat' (with_reducible refine And.intro ?_ ?_)) <;> first | omega | rfl | (simp only [go_sem, refsL_app, refs_dmap] <;> fail) | (simp [refsL_app, refs_dmap, AV.refsL, AV.refs] <;> omega)))) | (with_reducible refine hJ _ (fun K hK => ?_) ?_ <;> clear hJ KJ) | ((with_reducible refine ev_less ?_); (refine ⟨rfl, ?_, ?_⟩ <;> simp only [go_sem, St.clean, cleanO, SubS, SubO, beq_self_eq_true, ↓reduceIte, Nat.reduceEqDiff, Nat.reduceBEq, Nat.reduceAdd, Nat.reduceMul, Nat.reduceSub, Nat.reduceLT, Nat.reduceLeDiff])) | ((with_reducible first | apply hK | (clear hK K; first | apply hK | (clear hK K; apply hK))); clear hK K) | fail)
   exact ress_unit (by simp [lensO, lookO, obCells]) ⟨rfl, trivial⟩
  ·
   rw [g1] at e1
   rw [if_pos rfl, ← map_set]
   have hm : (zs.map D.int).length = 24 := by rw [List.length_map, hl]
   refine fns_go Try.func63 rfl rfl Try.ntmps63 Try.results63 (by simp only [slotsA, Nat.reduceAdd]; rfl) (by simp) rfl ?_
   repeat' (first | (with_reducible first | refine aw_seq fun K hK => ?_ | refine aw_region (by kernel_rfl) ?_ | refine aw_condk ?_) | ((with_reducible refine ev_aw ?_); first | (refine aw_draw (id := 2) (by kernel_rfl) _ _ (by kernel_rfl) (pl_RgP_63_2 _ (by kernel_rfl)) ?_)) | (with_reducible first | refine ru_four ?_ ?_ ?_ ?_ | refine ru_three ?_ ?_ ?_ | refine ru_two ?_ ?_ | refine rv_split ?_ ?_ | refine rv_two ?_ ?_ | refine rp_two ?_ ?_) | ((with_reducible refine evg ?_); simp only [go_sem, St.clean, cleanO, ↓reduceIte, Nat.reduceEqDiff, Nat.reduceBEq, Nat.reduceAdd, Nat.reduceMul, Nat.reduceSub, Nat.reduceLT, Nat.reduceLeDiff]) | (simp (disch := omega) only [dsq, Int.reduceSub, Int.reduceAdd, Int.reduceToNat, wr, wru, int_at]) | ((with_reducible refine ev_call ?_); (first | (refine call_fn e1 rfl ?_)); refine k_run ?_) | ((with_reducible refine ck_split (fun h => ?_) (fun h => ?_)) <;> (try simp only [nrm] at h) <;> (try ((with_reducible exfalso); omega))) | ((with_reducible refine And.intro ?_ ?_); (focus first | omega | (simp; done) | (simp; omega) | ((repeat' (with_reducible refine And.intro ?_ ?_)) <;> first | omega | rfl | (simp only [go_sem, refsL_app, refs_dmap] <;> fail) | (simp [refsL_app, refs_dmap, AV.refsL, AV.refs] <;> omega)))) | (with_reducible refine hJ _ (fun K hK => ?_) ?_ <;> clear hJ KJ) | ((with_reducible refine ev_less ?_); (refine ⟨rfl, ?_, ?_⟩ <;> simp only [go_sem, St.clean, cleanO, SubS, SubO, beq_self_eq_true, ↓reduceIte, Nat.reduceEqDiff, Nat.reduceBEq, Nat.reduceAdd, Nat.reduceMul, Nat.reduceSub, Nat.reduceLT, Nat.reduceLeDiff])) | ((with_reducible first | apply hK | (clear hK K; first | apply hK | (clear hK K; apply hK))); clear hK K) | fail)
   exact ress_unit (by simp [lensO, lookO, obCells]) ⟨rfl, trivial⟩
 have h := h.sw 5000 s
 simpa only [swO, AV.swL, AV.sw, OB.sw, sw_self] using h

theorem addZ_row {p : Int -> Int -> Bool} {x y : Nat} (hx : x < 20) (hy : y < 24) (hp : p x y = true) : addZ (rowsP p y x) x y = rowsP p y (x + 1) := by
 unfold addZ
 split
 ·
  rename_i g
  have e4 := rowN_set2 (p := cellP p y) (n := x) (by simp [cellP, g, hp]) (by omega)
  have e5 : (rowsP p y x).getD y 0 = ((rowN (cellP p y) x : Nat) : Int) := by
   have := rowsM_clen (f := rowI p) (i := y) (by omega)
   rw [List.length_map] at this
   rw [rowsP, List.getD_eq_getElem?_getD, List.getElem?_set_self (by omega)]
   rfl
  rw [e5, e4, rowsP, List.set_set]
  rfl
 ·
  rename_i g
  rw [rowsP_skip (by simp [cellP, g])]

theorem rowsPq_len {p : Int -> Int -> Bool} {y x : Nat} (h : y < 24) : (rowsP p y x).length = 24 := by
 rw [rowsP, List.length_set, rowsM_len (by omega)]

theorem rgAddP_s (s : Nat) (p : Int -> Int -> Bool) (x y : Nat) (hx : x < 20) (hy : y < 24) (hp : p x y = true) : FnS Try.prog 63 [(s, .ds ((rowsP p y x).map D.int))] [.ag [.bs s 0 24 1], .d (.int x), .d (.int y)] [(s, .ds ((rowsP p y (x + 1)).map D.int))] (.tu []) := by
 have h := rgAdd_s s (rowsP p y x) x y hx hy (rowsPq_len hy)
 rwa [addZ_row hx hy hp] at h

def prtP (p d : Int) (x y : Int) : Bool := prtI p x.toNat y.toNat == d

def odP (o : Int) (x y : Int) : Bool := odB o x.toNat y.toNat

theorem rg_all24 (p : Int -> Int -> Bool) : ((regZ p).map D.int).take 24 = (regZ p).map D.int := List.take_of_length_le (by simp)

theorem partReg_fn (p d : Int) (hp : 0 <= p /\ p < 8) (hd : 0 <= d /\ d < 2) : FnD Try.prog 85 [.int p, .int d] (.tu [.ag [.ls 1 24 ((regZ (prtP p d)).map D.int)], .bool true]) := by
 have e1 := l1In_fn p 0 7
 have e2 := l1In_fn d 0 1
 rw [inR_iff.2 (by omega)] at e1 e2
 have e0 := rgEmpty_fn
 have hq : ∀ x y : Nat, prtP p d x y = (prtI p x y == d) := fun _ _ => rfl
 have h01 : ∀ x y : Nat, prtI p x y = 0 ∨ prtI p x y = 1 := fun x y => by
  unfold prtI
  split <;> simp
 generalize prtP p d = q at *
 refine fn_go Try.func85 rfl rfl Try.ntmps85 Try.results85 (by simp only [slo, Nat.reduceAdd]; rfl) (by simp) ?_
 repeat' (first | (with_reducible first | refine aw_seq fun K hK => ?_ | refine aw_region (by kernel_rfl) ?_ | refine aw_condk ?_ | refine aw_block ?_) | ((with_reducible refine evg ?_); simp only [go_sem, ↓reduceIte, Nat.reduceEqDiff, Nat.reduceBEq, Nat.reduceAdd, Nat.reduceMul, Nat.reduceSub, Nat.reduceLT, Nat.reduceLeDiff]) | (simp (disch := omega) only [dsq, Int.reduceSub, Int.reduceAdd, Int.reduceToNat]) | ((with_reducible refine ev_call ?_); (first | (refine call_fn e1 rfl ?_) | (refine call_fn e2 rfl ?_) | (refine call_new e0 (rg0_opn 18) ?_ ?_ ?_ ?_; (focus rfl); (focus rfl); (focus (simp [-List.map_map, apartO, dropO, killN, obCells, refs_dmap, nofnsD, AV.refs, AV.refsL, AV.nofn, AV.nofns] <;> fail)))); refine k_run ?_) | ((with_reducible refine ev_guard ?_); (with_reducible first | refine guard_t ?_ ?_ rfl | refine guard_f ?_ ?_ rfl) <;> (intro h; (try simp only [h]); (try simp only [nrm] at h) <;> (try ((with_reducible exfalso); omega)))) | ((with_reducible refine ck_split (fun h => ?_) (fun h => ?_)) <;> (try simp only [nrm] at h) <;> (try ((with_reducible exfalso); omega))) | ((with_reducible refine And.intro ?_ ?_); (focus first | omega | (simp; done) | (simp; omega) | ((repeat' (with_reducible refine And.intro ?_ ?_)) <;> first | omega | rfl | (simp only [go_sem, refsL_app, refs_dmap] <;> fail) | (simp [refsL_app, refs_dmap, AV.refsL, AV.refs] <;> omega)))) | ((with_reducible first | apply hK | (clear hK K; first | apply hK | (clear hK K; apply hK))); clear hK K) | fail)
 refine aw_loopU [7, 8, 19, 20, 21, 22, 23, 24, 25, 26, 27, 28, 29, 30, 31, 32, 33, 34, 35, 36] [18, 30, 36] (fun y : Nat => [(7, .d (.int y))]) (fun y => [(18, .ds ((rowsM (rowI q) y).map D.int))]) (fun y => y <= 24) (fun y => 24 - y) 0 (by omega) ?_ ?_
 ·
  (refine lessW_of [] rfl ?_ <;> simp only [lsq, lookO, List.elem, List.cons_append, List.nil_append, cond_true, cond_false, and_true, true_and, beq_self_eq_true, ↓reduceIte, Nat.reduceEqDiff, Nat.reduceBEq, Nat.reduceAdd, Nat.reduceMul, Nat.reduceSub, Nat.reduceLT, Nat.reduceLeDiff] <;> try simp)
  rfl
 ·
  rintro y y1
  simp only [St.upd, dropS, dropOs, List.elem, List.cons_append, List.nil_append, cond_true, cond_false, beq_self_eq_true, ↓reduceIte, Nat.reduceEqDiff, Nat.reduceBEq, Nat.reduceAdd, Nat.reduceMul, Nat.reduceSub, Nat.reduceLT, Nat.reduceLeDiff]
  repeat' (first | (with_reducible first | refine aw_seq fun K hK => ?_ | refine aw_region (by kernel_rfl) ?_ | refine aw_condk ?_ | refine aw_block ?_) | ((with_reducible refine evg ?_); simp only [go_sem, ↓reduceIte, Nat.reduceEqDiff, Nat.reduceBEq, Nat.reduceAdd, Nat.reduceMul, Nat.reduceSub, Nat.reduceLT, Nat.reduceLeDiff]) | (simp (disch := omega) only [dsq, Int.reduceSub, Int.reduceAdd, Int.reduceToNat]) | ((with_reducible refine ev_guard ?_); (with_reducible first | refine guard_t ?_ ?_ rfl | refine guard_f ?_ ?_ rfl) <;> (intro h; (try simp only [h]); (try simp only [nrm] at h) <;> (try ((with_reducible exfalso); omega)))) | ((with_reducible refine ck_split (fun h => ?_) (fun h => ?_)) <;> (try simp only [nrm] at h) <;> (try ((with_reducible exfalso); omega))) | ((with_reducible refine And.intro ?_ ?_); (focus first | omega | (simp; done) | (simp; omega) | ((repeat' (with_reducible refine And.intro ?_ ?_)) <;> first | omega | rfl | (simp only [go_sem, refsL_app, refs_dmap] <;> fail) | (simp [refsL_app, refs_dmap, AV.refsL, AV.refs] <;> omega)))) | ((with_reducible first | apply hK | (clear hK K; first | apply hK | (clear hK K; apply hK))); clear hK K) | fail)
  ·
   refine aw_loopU [8, 23, 24, 25, 26, 27, 28, 29, 30, 31, 32, 33, 34, 35, 36] [18, 30, 36] (fun x : Nat => [(8, .d (.int x))]) (fun x => [(18, .ds ((rowsP q y x).map D.int))]) (fun x => x <= 20) (fun x => 20 - x) 0 (by omega) ?_ ?_
   ·
    (refine lessW_of [] rfl ?_ <;> simp only [lsq, lookO, List.elem, List.cons_append, List.nil_append, cond_true, cond_false, and_true, true_and, beq_self_eq_true, ↓reduceIte, Nat.reduceEqDiff, Nat.reduceBEq, Nat.reduceAdd, Nat.reduceMul, Nat.reduceSub, Nat.reduceLT, Nat.reduceLeDiff] <;> try simp)
    rw [rowsP_zero (by omega)]
   ·
    rintro x x1
    simp only [St.upd, dropS, dropOs, List.elem, List.cons_append, List.nil_append, cond_true, cond_false, beq_self_eq_true, ↓reduceIte, Nat.reduceEqDiff, Nat.reduceBEq, Nat.reduceAdd, Nat.reduceMul, Nat.reduceSub, Nat.reduceLT, Nat.reduceLeDiff]
    by_cases hx : x < 20
    ·
     have e4 := rgPart_fn p x y hx (by omega)
     have hqq := hq x y
     have h2 := h01 x y
     generalize prtI p x y = v at *
     by_cases g : v = d
     ·
      have e5 := rgAddP_s 18 q x y hx (by omega) (by rw [hqq, g]; simp)
      repeat' (first | (with_reducible first | refine aw_seq fun K hK => ?_ | refine aw_region (by kernel_rfl) ?_ | refine aw_condk ?_ | refine aw_block ?_) | ((with_reducible refine evg ?_); simp only [go_sem, ↓reduceIte, Nat.reduceEqDiff, Nat.reduceBEq, Nat.reduceAdd, Nat.reduceMul, Nat.reduceSub, Nat.reduceLT, Nat.reduceLeDiff]) | (simp (disch := omega) only [dsq, Int.reduceSub, Int.reduceAdd, Int.reduceToNat]) | ((with_reducible refine ev_call ?_); (first | (refine call_fn e4 rfl ?_) | (refine call_s e5 ?_ ?_ ?_ ?_ ?_; (focus rfl); (focus first | exact trivial | exact And.intro rfl trivial | exact ⟨rfl, rfl, trivial⟩ | exact ⟨rfl, rfl, rfl, trivial⟩); (focus rfl); (focus (simp [-List.map_map, apartO, dropO, killN, obCells, refs_dmap, nofnsD, AV.refs, AV.refsL, AV.nofn, AV.nofns] <;> fail)))); refine k_run ?_) | ((with_reducible refine ev_guard ?_); (with_reducible first | refine guard_t ?_ ?_ rfl | refine guard_f ?_ ?_ rfl) <;> (intro h; (try simp only [h]); (try simp only [nrm] at h) <;> (try ((with_reducible exfalso); omega)))) | ((with_reducible refine ck_split (fun h => ?_) (fun h => ?_)) <;> (try simp only [nrm] at h) <;> (try ((with_reducible exfalso); omega))) | ((with_reducible refine And.intro ?_ ?_); (focus first | omega | (simp; done) | (simp; omega) | ((repeat' (with_reducible refine And.intro ?_ ?_)) <;> first | omega | rfl | (simp only [go_sem, refsL_app, refs_dmap] <;> fail) | (simp [refsL_app, refs_dmap, AV.refsL, AV.refs] <;> omega)))) | ((with_reducible first | apply hK | (clear hK K; first | apply hK | (clear hK K; apply hK))); clear hK K) | fail)
      refine ⟨x + 1, by omega, by omega, ?_⟩
      (refine lessW_of [] rfl ?_ <;> simp only [lsq, lookO, List.elem, List.cons_append, List.nil_append, cond_true, cond_false, and_true, true_and, beq_self_eq_true, ↓reduceIte, Nat.reduceEqDiff, Nat.reduceBEq, Nat.reduceAdd, Nat.reduceMul, Nat.reduceSub, Nat.reduceLT, Nat.reduceLeDiff] <;> try simp)
     ·
      repeat' (first | (with_reducible first | refine aw_seq fun K hK => ?_ | refine aw_region (by kernel_rfl) ?_ | refine aw_condk ?_ | refine aw_block ?_) | ((with_reducible refine evg ?_); simp only [go_sem, ↓reduceIte, Nat.reduceEqDiff, Nat.reduceBEq, Nat.reduceAdd, Nat.reduceMul, Nat.reduceSub, Nat.reduceLT, Nat.reduceLeDiff]) | (simp (disch := omega) only [dsq, Int.reduceSub, Int.reduceAdd, Int.reduceToNat]) | ((with_reducible refine ev_call ?_); (first | (refine call_fn e4 rfl ?_)); refine k_run ?_) | ((with_reducible refine ev_guard ?_); (with_reducible first | refine guard_t ?_ ?_ rfl | refine guard_f ?_ ?_ rfl) <;> (intro h; (try simp only [h]); (try simp only [nrm] at h) <;> (try ((with_reducible exfalso); omega)))) | ((with_reducible refine ck_split (fun h => ?_) (fun h => ?_)) <;> (try simp only [nrm] at h) <;> (try ((with_reducible exfalso); omega))) | ((with_reducible refine And.intro ?_ ?_); (focus first | omega | (simp; done) | (simp; omega) | ((repeat' (with_reducible refine And.intro ?_ ?_)) <;> first | omega | rfl | (simp only [go_sem, refsL_app, refs_dmap] <;> fail) | (simp [refsL_app, refs_dmap, AV.refsL, AV.refs] <;> omega)))) | ((with_reducible first | apply hK | (clear hK K; first | apply hK | (clear hK K; apply hK))); clear hK K) | fail)
      refine ⟨x + 1, by omega, by omega, ?_⟩
      rw [rowsP_skip (by simp [cellP, hqq, g])]
      (refine lessW_of [] rfl ?_ <;> simp only [lsq, lookO, List.elem, List.cons_append, List.nil_append, cond_true, cond_false, and_true, true_and, beq_self_eq_true, ↓reduceIte, Nat.reduceEqDiff, Nat.reduceBEq, Nat.reduceAdd, Nat.reduceMul, Nat.reduceSub, Nat.reduceLT, Nat.reduceLeDiff] <;> try simp)
    ·
     have e : x = 20 := by omega
     subst e
     repeat' (first | (with_reducible first | refine aw_seq fun K hK => ?_ | refine aw_region (by kernel_rfl) ?_ | refine aw_condk ?_ | refine aw_block ?_) | ((with_reducible refine evg ?_); simp only [go_sem, ↓reduceIte, Nat.reduceEqDiff, Nat.reduceBEq, Nat.reduceAdd, Nat.reduceMul, Nat.reduceSub, Nat.reduceLT, Nat.reduceLeDiff]) | (simp (disch := omega) only [dsq, Int.reduceSub, Int.reduceAdd, Int.reduceToNat]) | ((with_reducible refine ev_guard ?_); (with_reducible first | refine guard_t ?_ ?_ rfl | refine guard_f ?_ ?_ rfl) <;> (intro h; (try simp only [h]); (try simp only [nrm] at h) <;> (try ((with_reducible exfalso); omega)))) | ((with_reducible refine ck_split (fun h => ?_) (fun h => ?_)) <;> (try simp only [nrm] at h) <;> (try ((with_reducible exfalso); omega))) | ((with_reducible refine And.intro ?_ ?_); (focus first | omega | (simp; done) | (simp; omega) | ((repeat' (with_reducible refine And.intro ?_ ?_)) <;> first | omega | rfl | (simp only [go_sem, refsL_app, refs_dmap] <;> fail) | (simp [refsL_app, refs_dmap, AV.refsL, AV.refs] <;> omega)))) | ((with_reducible first | apply hK | (clear hK K; first | apply hK | (clear hK K; apply hK))); clear hK K) | fail)
     refine ⟨y + 1, by omega, by omega, ?_⟩
     rw [rowsP_end (by omega)]
     (refine lessW_of [] rfl ?_ <;> simp only [lsq, lookO, List.elem, List.cons_append, List.nil_append, cond_true, cond_false, and_true, true_and, beq_self_eq_true, ↓reduceIte, Nat.reduceEqDiff, Nat.reduceBEq, Nat.reduceAdd, Nat.reduceMul, Nat.reduceSub, Nat.reduceLT, Nat.reduceLeDiff] <;> try simp)
  ·
   rw [rowsM_end (by omega)]
   refine res_at rfl (by simp [D.plain, plains]) (by simp) ?_
   rw [show tab (rowI q) 24 = regZ q from rfl]
   simp [rg_all24]

theorem ordCells_fn (o : Int) (ho : 0 <= o /\ o < 8) : FnD Try.prog 86 [.int o] (.tu [.ag [.ls 1 24 ((regZ (odP o)).map D.int)], .bool true]) := by
 have e1 := l1In_fn o 0 7
 rw [inR_iff.2 (by omega)] at e1
 have e0 := rgEmpty_fn
 have hq : ∀ x y : Nat, odP o x y = odB o x y := fun _ _ => rfl
 generalize odP o = q at *
 refine fn_go Try.func86 rfl rfl Try.ntmps86 Try.results86 (by simp only [slo, Nat.reduceAdd]; rfl) (by simp) ?_
 repeat' (first | (with_reducible first | refine aw_seq fun K hK => ?_ | refine aw_region (by kernel_rfl) ?_ | refine aw_condk ?_ | refine aw_block ?_) | ((with_reducible refine evg ?_); simp only [go_sem, ↓reduceIte, Nat.reduceEqDiff, Nat.reduceBEq, Nat.reduceAdd, Nat.reduceMul, Nat.reduceSub, Nat.reduceLT, Nat.reduceLeDiff]) | (simp (disch := omega) only [dsq, Int.reduceSub, Int.reduceAdd, Int.reduceToNat]) | ((with_reducible refine ev_call ?_); (first | (refine call_fn e1 rfl ?_) | (refine call_new e0 (rg0_opn 11) ?_ ?_ ?_ ?_; (focus rfl); (focus rfl); (focus (simp [-List.map_map, apartO, dropO, killN, obCells, refs_dmap, nofnsD, AV.refs, AV.refsL, AV.nofn, AV.nofns] <;> fail)))); refine k_run ?_) | ((with_reducible refine ck_split (fun h => ?_) (fun h => ?_)) <;> (try simp only [nrm] at h) <;> (try ((with_reducible exfalso); omega))) | ((with_reducible refine And.intro ?_ ?_); (focus first | omega | (simp; done) | (simp; omega) | ((repeat' (with_reducible refine And.intro ?_ ?_)) <;> first | omega | rfl | (simp only [go_sem, refsL_app, refs_dmap] <;> fail) | (simp [refsL_app, refs_dmap, AV.refsL, AV.refs] <;> omega)))) | ((with_reducible first | apply hK | (clear hK K; first | apply hK | (clear hK K; apply hK))); clear hK K) | fail)
 refine aw_loopU [5, 6, 12, 13, 14, 15, 16, 17, 18, 19, 20, 21, 22, 23, 24, 25, 26, 27] [11, 23, 27] (fun y : Nat => [(5, .d (.int y))]) (fun y => [(11, .ds ((rowsM (rowI q) y).map D.int))]) (fun y => y <= 24) (fun y => 24 - y) 0 (by omega) ?_ ?_
 ·
  (refine lessW_of [] rfl ?_ <;> simp only [lsq, lookO, List.elem, List.cons_append, List.nil_append, cond_true, cond_false, and_true, true_and, beq_self_eq_true, ↓reduceIte, Nat.reduceEqDiff, Nat.reduceBEq, Nat.reduceAdd, Nat.reduceMul, Nat.reduceSub, Nat.reduceLT, Nat.reduceLeDiff] <;> try simp)
  rfl
 ·
  rintro y y1
  simp only [St.upd, dropS, dropOs, List.elem, List.cons_append, List.nil_append, cond_true, cond_false, beq_self_eq_true, ↓reduceIte, Nat.reduceEqDiff, Nat.reduceBEq, Nat.reduceAdd, Nat.reduceMul, Nat.reduceSub, Nat.reduceLT, Nat.reduceLeDiff]
  repeat' (first | (with_reducible first | refine aw_seq fun K hK => ?_ | refine aw_region (by kernel_rfl) ?_ | refine aw_condk ?_ | refine aw_block ?_) | ((with_reducible refine evg ?_); simp only [go_sem, ↓reduceIte, Nat.reduceEqDiff, Nat.reduceBEq, Nat.reduceAdd, Nat.reduceMul, Nat.reduceSub, Nat.reduceLT, Nat.reduceLeDiff]) | (simp (disch := omega) only [dsq, Int.reduceSub, Int.reduceAdd, Int.reduceToNat]) | ((with_reducible refine ck_split (fun h => ?_) (fun h => ?_)) <;> (try simp only [nrm] at h) <;> (try ((with_reducible exfalso); omega))) | ((with_reducible refine And.intro ?_ ?_); (focus first | omega | (simp; done) | (simp; omega) | ((repeat' (with_reducible refine And.intro ?_ ?_)) <;> first | omega | rfl | (simp only [go_sem, refsL_app, refs_dmap] <;> fail) | (simp [refsL_app, refs_dmap, AV.refsL, AV.refs] <;> omega)))) | ((with_reducible first | apply hK | (clear hK K; first | apply hK | (clear hK K; apply hK))); clear hK K) | fail)
  ·
   refine aw_loopU [6, 16, 17, 18, 19, 20, 21, 22, 23, 24, 25, 26, 27] [11, 23, 27] (fun x : Nat => [(6, .d (.int x))]) (fun x => [(11, .ds ((rowsP q y x).map D.int))]) (fun x => x <= 20) (fun x => 20 - x) 0 (by omega) ?_ ?_
   ·
    (refine lessW_of [] rfl ?_ <;> simp only [lsq, lookO, List.elem, List.cons_append, List.nil_append, cond_true, cond_false, and_true, true_and, beq_self_eq_true, ↓reduceIte, Nat.reduceEqDiff, Nat.reduceBEq, Nat.reduceAdd, Nat.reduceMul, Nat.reduceSub, Nat.reduceLT, Nat.reduceLeDiff] <;> try simp)
    rw [rowsP_zero (by omega)]
   ·
    rintro x x1
    simp only [St.upd, dropS, dropOs, List.elem, List.cons_append, List.nil_append, cond_true, cond_false, beq_self_eq_true, ↓reduceIte, Nat.reduceEqDiff, Nat.reduceBEq, Nat.reduceAdd, Nat.reduceMul, Nat.reduceSub, Nat.reduceLT, Nat.reduceLeDiff]
    by_cases hx : x < 20
    ·
     have e4 := rgOrd_fn o x y hx (by omega)
     have hqq := hq x y
     cases g : odB o x y
     ·
      rw [g] at e4 hqq
      repeat' (first | (with_reducible first | refine aw_seq fun K hK => ?_ | refine aw_region (by kernel_rfl) ?_ | refine aw_condk ?_ | refine aw_block ?_) | ((with_reducible refine evg ?_); simp only [go_sem, ↓reduceIte, Nat.reduceEqDiff, Nat.reduceBEq, Nat.reduceAdd, Nat.reduceMul, Nat.reduceSub, Nat.reduceLT, Nat.reduceLeDiff]) | (simp (disch := omega) only [dsq, Int.reduceSub, Int.reduceAdd, Int.reduceToNat]) | ((with_reducible refine ev_call ?_); (first | (refine call_fn e4 rfl ?_)); refine k_run ?_) | ((with_reducible refine ck_split (fun h => ?_) (fun h => ?_)) <;> (try simp only [nrm] at h) <;> (try ((with_reducible exfalso); omega))) | ((with_reducible refine And.intro ?_ ?_); (focus first | omega | (simp; done) | (simp; omega) | ((repeat' (with_reducible refine And.intro ?_ ?_)) <;> first | omega | rfl | (simp only [go_sem, refsL_app, refs_dmap] <;> fail) | (simp [refsL_app, refs_dmap, AV.refsL, AV.refs] <;> omega)))) | ((with_reducible first | apply hK | (clear hK K; first | apply hK | (clear hK K; apply hK))); clear hK K) | fail)
      refine ⟨x + 1, by omega, by omega, ?_⟩
      rw [rowsP_skip (by simp [cellP, hqq])]
      (refine lessW_of [] rfl ?_ <;> simp only [lsq, lookO, List.elem, List.cons_append, List.nil_append, cond_true, cond_false, and_true, true_and, beq_self_eq_true, ↓reduceIte, Nat.reduceEqDiff, Nat.reduceBEq, Nat.reduceAdd, Nat.reduceMul, Nat.reduceSub, Nat.reduceLT, Nat.reduceLeDiff] <;> try simp)
     ·
      rw [g] at e4 hqq
      have e5 := rgAddP_s 11 q x y hx (by omega) hqq
      repeat' (first | (with_reducible first | refine aw_seq fun K hK => ?_ | refine aw_region (by kernel_rfl) ?_ | refine aw_condk ?_ | refine aw_block ?_) | ((with_reducible refine evg ?_); simp only [go_sem, ↓reduceIte, Nat.reduceEqDiff, Nat.reduceBEq, Nat.reduceAdd, Nat.reduceMul, Nat.reduceSub, Nat.reduceLT, Nat.reduceLeDiff]) | (simp (disch := omega) only [dsq, Int.reduceSub, Int.reduceAdd, Int.reduceToNat]) | ((with_reducible refine ev_call ?_); (first | (refine call_fn e4 rfl ?_) | (refine call_s e5 ?_ ?_ ?_ ?_ ?_; (focus rfl); (focus first | exact trivial | exact And.intro rfl trivial | exact ⟨rfl, rfl, trivial⟩ | exact ⟨rfl, rfl, rfl, trivial⟩); (focus rfl); (focus (simp [-List.map_map, apartO, dropO, killN, obCells, refs_dmap, nofnsD, AV.refs, AV.refsL, AV.nofn, AV.nofns] <;> fail)))); refine k_run ?_) | ((with_reducible refine ck_split (fun h => ?_) (fun h => ?_)) <;> (try simp only [nrm] at h) <;> (try ((with_reducible exfalso); omega))) | ((with_reducible refine And.intro ?_ ?_); (focus first | omega | (simp; done) | (simp; omega) | ((repeat' (with_reducible refine And.intro ?_ ?_)) <;> first | omega | rfl | (simp only [go_sem, refsL_app, refs_dmap] <;> fail) | (simp [refsL_app, refs_dmap, AV.refsL, AV.refs] <;> omega)))) | ((with_reducible first | apply hK | (clear hK K; first | apply hK | (clear hK K; apply hK))); clear hK K) | fail)
      refine ⟨x + 1, by omega, by omega, ?_⟩
      (refine lessW_of [] rfl ?_ <;> simp only [lsq, lookO, List.elem, List.cons_append, List.nil_append, cond_true, cond_false, and_true, true_and, beq_self_eq_true, ↓reduceIte, Nat.reduceEqDiff, Nat.reduceBEq, Nat.reduceAdd, Nat.reduceMul, Nat.reduceSub, Nat.reduceLT, Nat.reduceLeDiff] <;> try simp)
    ·
     have e : x = 20 := by omega
     subst e
     repeat' (first | (with_reducible first | refine aw_seq fun K hK => ?_ | refine aw_region (by kernel_rfl) ?_ | refine aw_condk ?_ | refine aw_block ?_) | ((with_reducible refine evg ?_); simp only [go_sem, ↓reduceIte, Nat.reduceEqDiff, Nat.reduceBEq, Nat.reduceAdd, Nat.reduceMul, Nat.reduceSub, Nat.reduceLT, Nat.reduceLeDiff]) | (simp (disch := omega) only [dsq, Int.reduceSub, Int.reduceAdd, Int.reduceToNat]) | ((with_reducible refine ck_split (fun h => ?_) (fun h => ?_)) <;> (try simp only [nrm] at h) <;> (try ((with_reducible exfalso); omega))) | ((with_reducible refine And.intro ?_ ?_); (focus first | omega | (simp; done) | (simp; omega) | ((repeat' (with_reducible refine And.intro ?_ ?_)) <;> first | omega | rfl | (simp only [go_sem, refsL_app, refs_dmap] <;> fail) | (simp [refsL_app, refs_dmap, AV.refsL, AV.refs] <;> omega)))) | ((with_reducible first | apply hK | (clear hK K; first | apply hK | (clear hK K; apply hK))); clear hK K) | fail)
     refine ⟨y + 1, by omega, by omega, ?_⟩
     rw [rowsP_end (by omega)]
     (refine lessW_of [] rfl ?_ <;> simp only [lsq, lookO, List.elem, List.cons_append, List.nil_append, cond_true, cond_false, and_true, true_and, beq_self_eq_true, ↓reduceIte, Nat.reduceEqDiff, Nat.reduceBEq, Nat.reduceAdd, Nat.reduceMul, Nat.reduceSub, Nat.reduceLT, Nat.reduceLeDiff] <;> try simp)
  ·
   rw [rowsM_end (by omega)]
   refine res_at rfl (by simp [D.plain, plains]) (by simp) ?_
   rw [show tab (rowI q) 24 = regZ q from rfl]
   simp [rg_all24]

theorem specShield_fn : FnD Try.prog 88 [] (.ag [intL shZ]) := by
 have e0 := rgEmpty_fn
 have hR : intL shZ = .ls 1 24 (shZ.map D.int) := rfl
 have hq : ∀ x y : Nat, (fun _ _ => true : Int -> Int -> Bool) x y = true := fun _ _ => rfl
 rw [hR, show shZ = regZ (fun _ _ => true) from rfl]
 generalize (fun _ _ => true : Int -> Int -> Bool) = q at *
 refine fn_go Try.func88 rfl rfl Try.ntmps88 Try.results88 (by simp only [slo, Nat.reduceAdd]; rfl) (by simp) ?_
 repeat' (first | (with_reducible first | refine aw_seq fun K hK => ?_ | refine aw_region (by kernel_rfl) ?_ | refine aw_condk ?_ | refine aw_block ?_) | ((with_reducible refine evg ?_); simp only [go_sem, ↓reduceIte, Nat.reduceEqDiff, Nat.reduceBEq, Nat.reduceAdd, Nat.reduceMul, Nat.reduceSub, Nat.reduceLT, Nat.reduceLeDiff]) | (simp (disch := omega) only [dsq, Int.reduceSub, Int.reduceAdd, Int.reduceToNat]) | ((with_reducible refine ev_call ?_); (first | (refine call_new e0 (rg0_opn 4) ?_ ?_ ?_ ?_; (focus rfl); (focus rfl); (focus (simp [-List.map_map, apartO, dropO, killN, obCells, refs_dmap, nofnsD, AV.refs, AV.refsL, AV.nofn, AV.nofns] <;> fail)))); refine k_run ?_) | ((with_reducible refine ck_split (fun h => ?_) (fun h => ?_)) <;> (try simp only [nrm] at h) <;> (try ((with_reducible exfalso); omega))) | ((with_reducible refine And.intro ?_ ?_); (focus first | omega | (simp; done) | (simp; omega) | ((repeat' (with_reducible refine And.intro ?_ ?_)) <;> first | omega | rfl | (simp only [go_sem, refsL_app, refs_dmap] <;> fail) | (simp [refsL_app, refs_dmap, AV.refsL, AV.refs] <;> omega)))) | ((with_reducible first | apply hK | (clear hK K; first | apply hK | (clear hK K; apply hK))); clear hK K) | fail)
 refine aw_loopU [2, 3, 5, 6, 7, 8, 9, 10, 11, 12, 13, 14, 15, 16] [4, 16] (fun y : Nat => [(2, .d (.int y))]) (fun y => [(4, .ds ((rowsM (rowI q) y).map D.int))]) (fun y => y <= 24) (fun y => 24 - y) 0 (by omega) ?_ ?_
 ·
  (refine lessW_of [] rfl ?_ <;> simp only [lsq, lookO, List.elem, List.cons_append, List.nil_append, cond_true, cond_false, and_true, true_and, beq_self_eq_true, ↓reduceIte, Nat.reduceEqDiff, Nat.reduceBEq, Nat.reduceAdd, Nat.reduceMul, Nat.reduceSub, Nat.reduceLT, Nat.reduceLeDiff] <;> try simp)
  rfl
 ·
  rintro y y1
  simp only [St.upd, dropS, dropOs, List.elem, List.cons_append, List.nil_append, cond_true, cond_false, beq_self_eq_true, ↓reduceIte, Nat.reduceEqDiff, Nat.reduceBEq, Nat.reduceAdd, Nat.reduceMul, Nat.reduceSub, Nat.reduceLT, Nat.reduceLeDiff]
  repeat' (first | (with_reducible first | refine aw_seq fun K hK => ?_ | refine aw_region (by kernel_rfl) ?_ | refine aw_condk ?_ | refine aw_block ?_) | ((with_reducible refine evg ?_); simp only [go_sem, ↓reduceIte, Nat.reduceEqDiff, Nat.reduceBEq, Nat.reduceAdd, Nat.reduceMul, Nat.reduceSub, Nat.reduceLT, Nat.reduceLeDiff]) | (simp (disch := omega) only [dsq, Int.reduceSub, Int.reduceAdd, Int.reduceToNat]) | ((with_reducible refine ck_split (fun h => ?_) (fun h => ?_)) <;> (try simp only [nrm] at h) <;> (try ((with_reducible exfalso); omega))) | ((with_reducible refine And.intro ?_ ?_); (focus first | omega | (simp; done) | (simp; omega) | ((repeat' (with_reducible refine And.intro ?_ ?_)) <;> first | omega | rfl | (simp only [go_sem, refsL_app, refs_dmap] <;> fail) | (simp [refsL_app, refs_dmap, AV.refsL, AV.refs] <;> omega)))) | ((with_reducible first | apply hK | (clear hK K; first | apply hK | (clear hK K; apply hK))); clear hK K) | fail)
  ·
   refine aw_loopU [3, 9, 10, 11, 12, 13, 14, 15, 16] [4, 16] (fun x : Nat => [(3, .d (.int x))]) (fun x => [(4, .ds ((rowsP q y x).map D.int))]) (fun x => x <= 20) (fun x => 20 - x) 0 (by omega) ?_ ?_
   ·
    (refine lessW_of [] rfl ?_ <;> simp only [lsq, lookO, List.elem, List.cons_append, List.nil_append, cond_true, cond_false, and_true, true_and, beq_self_eq_true, ↓reduceIte, Nat.reduceEqDiff, Nat.reduceBEq, Nat.reduceAdd, Nat.reduceMul, Nat.reduceSub, Nat.reduceLT, Nat.reduceLeDiff] <;> try simp)
    rw [rowsP_zero (by omega)]
   ·
    rintro x x1
    simp only [St.upd, dropS, dropOs, List.elem, List.cons_append, List.nil_append, cond_true, cond_false, beq_self_eq_true, ↓reduceIte, Nat.reduceEqDiff, Nat.reduceBEq, Nat.reduceAdd, Nat.reduceMul, Nat.reduceSub, Nat.reduceLT, Nat.reduceLeDiff]
    by_cases hx : x < 20
    ·
     have e5 := rgAddP_s 4 q x y hx (by omega) (hq x y)
     repeat' (first | (with_reducible first | refine aw_seq fun K hK => ?_ | refine aw_region (by kernel_rfl) ?_ | refine aw_condk ?_ | refine aw_block ?_) | ((with_reducible refine evg ?_); simp only [go_sem, ↓reduceIte, Nat.reduceEqDiff, Nat.reduceBEq, Nat.reduceAdd, Nat.reduceMul, Nat.reduceSub, Nat.reduceLT, Nat.reduceLeDiff]) | (simp (disch := omega) only [dsq, Int.reduceSub, Int.reduceAdd, Int.reduceToNat]) | ((with_reducible refine ev_call ?_); (first | (refine call_s e5 ?_ ?_ ?_ ?_ ?_; (focus rfl); (focus first | exact trivial | exact And.intro rfl trivial | exact ⟨rfl, rfl, trivial⟩ | exact ⟨rfl, rfl, rfl, trivial⟩); (focus rfl); (focus (simp [-List.map_map, apartO, dropO, killN, obCells, refs_dmap, nofnsD, AV.refs, AV.refsL, AV.nofn, AV.nofns] <;> fail)))); refine k_run ?_) | ((with_reducible refine ck_split (fun h => ?_) (fun h => ?_)) <;> (try simp only [nrm] at h) <;> (try ((with_reducible exfalso); omega))) | ((with_reducible refine And.intro ?_ ?_); (focus first | omega | (simp; done) | (simp; omega) | ((repeat' (with_reducible refine And.intro ?_ ?_)) <;> first | omega | rfl | (simp only [go_sem, refsL_app, refs_dmap] <;> fail) | (simp [refsL_app, refs_dmap, AV.refsL, AV.refs] <;> omega)))) | ((with_reducible first | apply hK | (clear hK K; first | apply hK | (clear hK K; apply hK))); clear hK K) | fail)
     refine ⟨x + 1, by omega, by omega, ?_⟩
     (refine lessW_of [] rfl ?_ <;> simp only [lsq, lookO, List.elem, List.cons_append, List.nil_append, cond_true, cond_false, and_true, true_and, beq_self_eq_true, ↓reduceIte, Nat.reduceEqDiff, Nat.reduceBEq, Nat.reduceAdd, Nat.reduceMul, Nat.reduceSub, Nat.reduceLT, Nat.reduceLeDiff] <;> try simp)
    ·
     have e : x = 20 := by omega
     subst e
     repeat' (first | (with_reducible first | refine aw_seq fun K hK => ?_ | refine aw_region (by kernel_rfl) ?_ | refine aw_condk ?_ | refine aw_block ?_) | ((with_reducible refine evg ?_); simp only [go_sem, ↓reduceIte, Nat.reduceEqDiff, Nat.reduceBEq, Nat.reduceAdd, Nat.reduceMul, Nat.reduceSub, Nat.reduceLT, Nat.reduceLeDiff]) | (simp (disch := omega) only [dsq, Int.reduceSub, Int.reduceAdd, Int.reduceToNat]) | ((with_reducible refine ck_split (fun h => ?_) (fun h => ?_)) <;> (try simp only [nrm] at h) <;> (try ((with_reducible exfalso); omega))) | ((with_reducible refine And.intro ?_ ?_); (focus first | omega | (simp; done) | (simp; omega) | ((repeat' (with_reducible refine And.intro ?_ ?_)) <;> first | omega | rfl | (simp only [go_sem, refsL_app, refs_dmap] <;> fail) | (simp [refsL_app, refs_dmap, AV.refsL, AV.refs] <;> omega)))) | ((with_reducible first | apply hK | (clear hK K; first | apply hK | (clear hK K; apply hK))); clear hK K) | fail)
     refine ⟨y + 1, by omega, by omega, ?_⟩
     rw [rowsP_end (by omega)]
     (refine lessW_of [] rfl ?_ <;> simp only [lsq, lookO, List.elem, List.cons_append, List.nil_append, cond_true, cond_false, and_true, true_and, beq_self_eq_true, ↓reduceIte, Nat.reduceEqDiff, Nat.reduceBEq, Nat.reduceAdd, Nat.reduceMul, Nat.reduceSub, Nat.reduceLT, Nat.reduceLeDiff] <;> try simp)
  ·
   rw [rowsM_end (by omega)]
   refine res_at rfl (by simp [D.plain, plains]) (by simp) ?_
   rw [show tab (rowI q) 24 = regZ q from rfl]
   simp [rg_all24]

end Go.Proofs.Ytjbifidphckjoaa
