/- Words of tinctures, lines and divisions. -/
import Derived.Test.YtjbifidphckjoaaFacts
import Derived.WalkKit
import Derived.WalkSpells
import Derived.KernelRfl
namespace Go.Proofs.Ytjbifidphckjoaa
open Go.RowKit
set_option maxRecDepth 100000
set_option maxHeartbeats 4000000
set_option linter.unusedVariables false
set_option linter.unusedSimpArgs false

def tincWord (n : Int) : ByteArray :=
 match n with
 | 1 => ⟨#[103, 111, 108, 100]⟩
 | 2 => ⟨#[115, 105, 108, 118, 101, 114]⟩
 | 3 => ⟨#[114, 101, 100]⟩
 | 4 => ⟨#[98, 108, 117, 101]⟩
 | 5 => ⟨#[98, 108, 97, 99, 107]⟩
 | 6 => ⟨#[103, 114, 101, 101, 110]⟩
 | 7 => ⟨#[112, 117, 114, 112, 108, 101]⟩
 | 8 => ⟨#[101, 114, 109, 105, 110, 101]⟩
 | 9 => ⟨#[118, 97, 105, 114]⟩
 | _ => ⟨#[]⟩

theorem l1In_fn (n lo hi : Int) : FnD Try.prog 80 [.int n, .int lo, .int hi] (.bool (inR n lo hi)) := by
 refine fn_go Try.func80 rfl rfl Try.ntmps80 Try.results80 (by simp only [slo, Nat.reduceAdd]; rfl) (by simp) ?_
 repeat' (first | (with_reducible first | refine aw_seq fun K hK => ?_ | refine aw_region (by kernel_rfl) ?_) | ((with_reducible refine evg ?_); simp only [go_sem, ↓reduceIte, Nat.reduceEqDiff, Nat.reduceBEq, Nat.reduceAdd, Nat.reduceMul, Nat.reduceSub, Nat.reduceLT, Nat.reduceLeDiff]) | ((with_reducible refine ev_guard ?_); (with_reducible first | refine guard_t ?_ ?_ rfl | refine guard_f ?_ ?_ rfl) <;> (intro h; (try simp only [h]); (try simp only [nrm] at h))) | ((with_reducible refine And.intro ?_ ?_); (focus first | omega | (simp; done) | (simp; omega) | ((repeat' (with_reducible refine And.intro ?_ ?_)) <;> first | omega | rfl | (simp only [go_sem, refsL_app, refs_dmap] <;> fail) | (simp [refsL_app, refs_dmap, AV.refsL, AV.refs] <;> omega)))) | ((with_reducible first | apply hK | (clear hK K; first | apply hK | (clear hK K; apply hK))); clear hK K) | (simp (disch := omega) only [dsq, Int.reduceSub, Int.reduceAdd, Int.reduceToNat]) | fail)
 all_goals (first | refine res_tmp rfl (by simp [D.plain, plains]) (by simp) ?_ | skip)
 all_goals simp [inR, *]

theorem inside_fn (n lo hi : Int) : FnD Try.prog 70 [.int n, .int lo, .int hi] (.bool (inR n lo hi)) := by
 refine fn_go Try.func70 rfl rfl Try.ntmps70 Try.results70 (by simp only [slo, Nat.reduceAdd]; rfl) (by simp) ?_
 repeat' (first | (with_reducible first | refine aw_seq fun K hK => ?_ | refine aw_region (by kernel_rfl) ?_) | ((with_reducible refine evg ?_); simp only [go_sem, ↓reduceIte, Nat.reduceEqDiff, Nat.reduceBEq, Nat.reduceAdd, Nat.reduceMul, Nat.reduceSub, Nat.reduceLT, Nat.reduceLeDiff]) | ((with_reducible refine ev_guard ?_); (with_reducible first | refine guard_t ?_ ?_ rfl | refine guard_f ?_ ?_ rfl) <;> (intro h; (try simp only [h]); (try simp only [nrm] at h))) | ((with_reducible refine And.intro ?_ ?_); (focus first | omega | (simp; done) | (simp; omega) | ((repeat' (with_reducible refine And.intro ?_ ?_)) <;> first | omega | rfl | (simp only [go_sem, refsL_app, refs_dmap] <;> fail) | (simp [refsL_app, refs_dmap, AV.refsL, AV.refs] <;> omega)))) | ((with_reducible first | apply hK | (clear hK K; first | apply hK | (clear hK K; apply hK))); clear hK K) | (simp (disch := omega) only [dsq, Int.reduceSub, Int.reduceAdd, Int.reduceToNat]) | fail)
 all_goals (first | refine res_tmp rfl (by simp [D.plain, plains]) (by simp) ?_ | skip)
 all_goals simp [inR, *]

theorem l2Good_fn (n : Int) : FnD Try.prog 66 [.int n] (.bool (inR n 1 9)) := by
 refine fn_go Try.func66 rfl rfl Try.ntmps66 Try.results66 (by simp only [slo, Nat.reduceAdd]; rfl) (by simp) ?_
 repeat' (first | (with_reducible first | refine aw_seq fun K hK => ?_ | refine aw_region (by kernel_rfl) ?_) | ((with_reducible refine evg ?_); simp only [go_sem, ↓reduceIte, Nat.reduceEqDiff, Nat.reduceBEq, Nat.reduceAdd, Nat.reduceMul, Nat.reduceSub, Nat.reduceLT, Nat.reduceLeDiff]) | ((with_reducible refine ev_call ?_); (first | (refine call_fn (l1In_fn _ _ _) rfl ?_)); refine k_run ?_) | ((with_reducible refine And.intro ?_ ?_); (focus first | omega | (simp; done) | (simp; omega) | ((repeat' (with_reducible refine And.intro ?_ ?_)) <;> first | omega | rfl | (simp only [go_sem, refsL_app, refs_dmap] <;> fail) | (simp [refsL_app, refs_dmap, AV.refsL, AV.refs] <;> omega)))) | ((with_reducible first | apply hK | (clear hK K; first | apply hK | (clear hK K; apply hK))); clear hK K) | (simp (disch := omega) only [dsq, Int.reduceSub, Int.reduceAdd, Int.reduceToNat]) | fail)
 all_goals (first | refine res_tmp rfl (by simp [D.plain, plains]) (by simp) ?_ | skip)
 all_goals rfl

theorem l3Line_fn (n : Int) : FnD Try.prog 100 [.int n] (.bool (inR n 0 4)) := by
 refine fn_go Try.func100 rfl rfl Try.ntmps100 Try.results100 (by simp only [slo, Nat.reduceAdd]; rfl) (by simp) ?_
 repeat' (first | (with_reducible first | refine aw_seq fun K hK => ?_ | refine aw_region (by kernel_rfl) ?_) | ((with_reducible refine evg ?_); simp only [go_sem, ↓reduceIte, Nat.reduceEqDiff, Nat.reduceBEq, Nat.reduceAdd, Nat.reduceMul, Nat.reduceSub, Nat.reduceLT, Nat.reduceLeDiff]) | ((with_reducible refine ev_call ?_); (first | (refine call_fn (l1In_fn _ _ _) rfl ?_)); refine k_run ?_) | ((with_reducible refine And.intro ?_ ?_); (focus first | omega | (simp; done) | (simp; omega) | ((repeat' (with_reducible refine And.intro ?_ ?_)) <;> first | omega | rfl | (simp only [go_sem, refsL_app, refs_dmap] <;> fail) | (simp [refsL_app, refs_dmap, AV.refsL, AV.refs] <;> omega)))) | ((with_reducible first | apply hK | (clear hK K; first | apply hK | (clear hK K; apply hK))); clear hK K) | (simp (disch := omega) only [dsq, Int.reduceSub, Int.reduceAdd, Int.reduceToNat]) | fail)
 all_goals (first | refine res_tmp rfl (by simp [D.plain, plains]) (by simp) ?_ | skip)
 all_goals rfl

theorem isTincture_fn (n : Int) : FnD Try.prog 64 [.int n] (.bool (inR n 1 9)) := by
 refine fn_go Try.func64 rfl rfl Try.ntmps64 Try.results64 (by simp only [slo, Nat.reduceAdd]; rfl) (by simp) ?_
 repeat' (first | (with_reducible first | refine aw_seq fun K hK => ?_ | refine aw_region (by kernel_rfl) ?_) | ((with_reducible refine evg ?_); simp only [go_sem, ↓reduceIte, Nat.reduceEqDiff, Nat.reduceBEq, Nat.reduceAdd, Nat.reduceMul, Nat.reduceSub, Nat.reduceLT, Nat.reduceLeDiff]) | ((with_reducible refine ev_call ?_); (first | (refine call_fn (inside_fn _ _ _) rfl ?_)); refine k_run ?_) | ((with_reducible refine And.intro ?_ ?_); (focus first | omega | (simp; done) | (simp; omega) | ((repeat' (with_reducible refine And.intro ?_ ?_)) <;> first | omega | rfl | (simp only [go_sem, refsL_app, refs_dmap] <;> fail) | (simp [refsL_app, refs_dmap, AV.refsL, AV.refs] <;> omega)))) | ((with_reducible first | apply hK | (clear hK K; first | apply hK | (clear hK K; apply hK))); clear hK K) | (simp (disch := omega) only [dsq, Int.reduceSub, Int.reduceAdd, Int.reduceToNat]) | fail)
 all_goals (first | refine res_tmp rfl (by simp [D.plain, plains]) (by simp) ?_ | skip)
 all_goals rfl

theorem isLine_fn (n : Int) : FnD Try.prog 71 [.int n] (.bool (inR n 0 4)) := by
 refine fn_go Try.func71 rfl rfl Try.ntmps71 Try.results71 (by simp only [slo, Nat.reduceAdd]; rfl) (by simp) ?_
 repeat' (first | (with_reducible first | refine aw_seq fun K hK => ?_ | refine aw_region (by kernel_rfl) ?_) | ((with_reducible refine evg ?_); simp only [go_sem, ↓reduceIte, Nat.reduceEqDiff, Nat.reduceBEq, Nat.reduceAdd, Nat.reduceMul, Nat.reduceSub, Nat.reduceLT, Nat.reduceLeDiff]) | ((with_reducible refine ev_call ?_); (first | (refine call_fn (inside_fn _ _ _) rfl ?_)); refine k_run ?_) | ((with_reducible refine And.intro ?_ ?_); (focus first | omega | (simp; done) | (simp; omega) | ((repeat' (with_reducible refine And.intro ?_ ?_)) <;> first | omega | rfl | (simp only [go_sem, refsL_app, refs_dmap] <;> fail) | (simp [refsL_app, refs_dmap, AV.refsL, AV.refs] <;> omega)))) | ((with_reducible first | apply hK | (clear hK K; first | apply hK | (clear hK K; apply hK))); clear hK K) | (simp (disch := omega) only [dsq, Int.reduceSub, Int.reduceAdd, Int.reduceToNat]) | fail)
 all_goals (first | refine res_tmp rfl (by simp [D.plain, plains]) (by simp) ?_ | skip)
 all_goals rfl

def strs (l : List ByteArray) : D := .ls 1 l.length (l.map D.str)

def tincWords : List ByteArray := [⟨#[103, 111, 108, 100]⟩, ⟨#[115, 105, 108, 118, 101, 114]⟩, ⟨#[114, 101, 100]⟩, ⟨#[98, 108, 117, 101]⟩, ⟨#[98, 108, 97, 99, 107]⟩, ⟨#[103, 114, 101, 101, 110]⟩, ⟨#[112, 117, 114, 112, 108, 101]⟩, ⟨#[101, 114, 109, 105, 110, 101]⟩, ⟨#[118, 97, 105, 114]⟩]

attribute [local go_sem] strs tincWords

end Go.Proofs.Ytjbifidphckjoaa
