/- The shield's cells. -/
import Derived.Test.YtjbifidphckjoaaBox
import Derived.Test.YtjbifidphckjoaaWords
import Derived.WalkKit
import Derived.WalkSpells
import Derived.KernelRfl
namespace Go.Proofs.Ytjbifidphckjoaa
open Go.RowKit
set_option maxRecDepth 100000
set_option maxHeartbeats 4000000
set_option linter.unusedVariables false
set_option linter.unusedSimpArgs false

def inSh (x y : Int) : Bool := inR x 0 19 && inR y 0 23 && (decide (y < 12) || decide (576 * (2 * x - 19) * (2 * x - 19) + 400 * (2 * y - 23) * (2 * y - 23) <= 230400))

theorem inShield_fn (x y : Int) : FnD Try.prog 82 [.int x, .int y] (.bool (inSh x y)) := by
 have h1 := inside_fn x 0 19
 have h2 := inside_fn y 0 23
 cases g1 : inR x 0 19 <;> cases g2 : inR y 0 23 <;> rw [g1] at h1 <;> rw [g2] at h2
 all_goals
  refine fn_go Try.func82 rfl rfl Try.ntmps82 Try.results82 (by simp only [slo, Nat.reduceAdd]; rfl) (by simp) ?_
  repeat' (first | (with_reducible first | refine aw_seq fun K hK => ?_ | refine aw_region (by kernel_rfl) ?_) | ((with_reducible refine evg ?_); simp only [go_sem, ↓reduceIte, Nat.reduceEqDiff, Nat.reduceBEq, Nat.reduceAdd, Nat.reduceMul, Nat.reduceSub, Nat.reduceLT, Nat.reduceLeDiff]) | ((with_reducible refine ev_call ?_); (first | (refine call_fn h1 rfl ?_) | (refine call_fn h2 rfl ?_)); refine k_run ?_) | ((with_reducible refine ev_guard ?_); (with_reducible first | refine guard_t ?_ ?_ rfl | refine guard_f ?_ ?_ rfl) <;> (intro h; (try simp only [h]); (try simp only [nrm] at h))) | ((with_reducible refine And.intro ?_ ?_); (focus first | omega | (simp; done) | (simp; omega) | ((repeat' (with_reducible refine And.intro ?_ ?_)) <;> first | omega | rfl | (simp only [go_sem, refsL_app, refs_dmap] <;> fail) | (simp [refsL_app, refs_dmap, AV.refsL, AV.refs] <;> omega)))) | ((with_reducible first | apply hK | (clear hK K; first | apply hK | (clear hK K; apply hK))); clear hK K) | (simp (disch := omega) only [dsq, Int.reduceSub, Int.reduceAdd, Int.reduceToNat]) | fail)
 ·
  refine res_tmp rfl (by simp [D.plain, plains]) (by simp) ?_
  simp [inSh, g1]
 ·
  refine res_tmp rfl (by simp [D.plain, plains]) (by simp) ?_
  simp [inSh, g1]
 ·
  refine res_tmp rfl (by simp [D.plain, plains]) (by simp) ?_
  simp [inSh, g2]
 ·
  refine res_tmp rfl (by simp [D.plain, plains]) (by simp) ?_
  simp [inSh, g1, g2, h]
 ·
  refine res_tmp rfl (by simp [D.plain, plains]) (by simp) ?_
  clear h1 h2
  rw [inR_iff] at g1 g2
  obtain ⟨a, rfl⟩ := Int.eq_ofNat_of_zero_le g1.1
  obtain ⟨b, rfl⟩ := Int.eq_ofNat_of_zero_le g2.1
  have ha : a < 20 := by omega
  have hb : b < 24 := by omega
  have hc : ¬ b < 12 := by omega
  clear g1 g2 h
  refine congrArg (fun b => D.v (Value.bool b)) ?_
  revert hc
  revert hb
  revert b
  revert ha
  revert a
  decide +kernel

theorem l9In_fn (x y : Int) : FnD Try.prog 61 [.int x, .int y] (.bool (inSh x y)) := by
 have h1 := l1In_fn x 0 19
 have h2 := l1In_fn y 0 23
 cases g1 : inR x 0 19 <;> cases g2 : inR y 0 23 <;> rw [g1] at h1 <;> rw [g2] at h2
 all_goals
  refine fn_go Try.func61 rfl rfl Try.ntmps61 Try.results61 (by simp only [slo, Nat.reduceAdd]; rfl) (by simp) ?_
  repeat' (first | (with_reducible first | refine aw_seq fun K hK => ?_ | refine aw_region (by kernel_rfl) ?_ | refine aw_condk ?_) | ((with_reducible refine evg ?_); simp only [go_sem, ↓reduceIte, Nat.reduceEqDiff, Nat.reduceBEq, Nat.reduceAdd, Nat.reduceMul, Nat.reduceSub, Nat.reduceLT, Nat.reduceLeDiff]) | ((with_reducible refine ev_call ?_); (first | (refine call_fn h1 rfl ?_) | (refine call_fn h2 rfl ?_)); refine k_run ?_) | ((with_reducible refine ev_guard ?_); (with_reducible first | refine guard_t ?_ ?_ rfl | refine guard_f ?_ ?_ rfl) <;> (intro h; (try simp only [h]); (try simp only [nrm] at h))) | ((with_reducible refine ck_split (fun h => ?_) (fun h => ?_)) <;> (try simp only [nrm] at h)) | ((with_reducible refine And.intro ?_ ?_); (focus first | omega | (simp; done) | (simp; omega) | ((repeat' (with_reducible refine And.intro ?_ ?_)) <;> first | omega | rfl | (simp only [go_sem, refsL_app, refs_dmap] <;> fail) | (simp [refsL_app, refs_dmap, AV.refsL, AV.refs] <;> omega)))) | ((with_reducible first | apply hK | (clear hK K; first | apply hK | (clear hK K; apply hK))); clear hK K) | (simp (disch := omega) only [dsq, Int.reduceSub, Int.reduceAdd, Int.reduceToNat]) | fail)
 ·
  refine res_tmp rfl (by simp [D.plain, plains]) (by simp) ?_
  simp [inSh, g1]
 ·
  refine res_tmp rfl (by simp [D.plain, plains]) (by simp) ?_
  simp [inSh, g1]
 ·
  refine res_tmp rfl (by simp [D.plain, plains]) (by simp) ?_
  simp [inSh, g2]
 ·
  refine res_tmp rfl (by simp [D.plain, plains]) (by simp) ?_
  simp [inSh, g1, g2, h]
 ·
  refine res_tmp rfl (by simp [D.plain, plains]) (by simp) ?_
  clear h1 h2
  rw [inR_iff] at g1 g2
  obtain ⟨a, rfl⟩ := Int.eq_ofNat_of_zero_le g1.1
  obtain ⟨b, rfl⟩ := Int.eq_ofNat_of_zero_le g2.1
  have ha : a < 20 := by omega
  have hb : b < 24 := by omega
  have hc : ¬ b < 12 := by omega
  clear g1 g2 h
  refine congrArg (fun b => D.v (Value.bool b)) ?_
  revert hc
  revert hb
  revert b
  revert ha
  revert a
  decide +kernel

end Go.Proofs.Ytjbifidphckjoaa
