/- Words of tinctures, lines and divisions. -/
import Derived.Test.YtjfeleejiofeoaaFacts
import Derived.WalkKit
import Derived.WalkSpells
import Derived.KernelRfl
namespace Go.Proofs.Ytjfeleejiofeoaa
open Go.RowKit
set_option linter.unusedVariables false
set_option linter.unusedSimpArgs false

def tincWord (n : Int) : ByteArray :=
  match n with
  | 1 => ⟨#[103, 111, 108, 100]⟩
  | 2 => ⟨#[115, 105, 108, 118, 101, 114]⟩
  | 3 => ⟨#[114, 101, 100]⟩
  | 4 => ⟨#[98, 108, 117, 101]⟩
  | 5 => ⟨#[98, 108, 97, 99, 107]⟩
  | 6 => ⟨#[103, 114, 101, 101, 110]⟩
  | 7 => ⟨#[112, 117, 114, 112, 108, 101]⟩
  | 8 => ⟨#[101, 114, 109, 105, 110, 101]⟩
  | 9 => ⟨#[118, 97, 105, 114]⟩
  | _ => ⟨#[]⟩

set_option maxRecDepth 100000 in
set_option maxHeartbeats 4000000 in
theorem l1In_fn (n lo hi : Int) : FnD Try.prog 72 [.int n, .int lo, .int hi] (.bool (inR n lo hi)) := by
  refine fn_go Try.func72 rfl rfl Try.ntmps72 Try.results72 (by simp only [slotsOf, argAV, List.map_cons, List.map_nil, Nat.reduceAdd]; rfl) (by simp) ?_
  repeat' (first | (with_reducible first | refine aw_seq fun K hK => ?_ | refine aw_region (by kernel_rfl) ?_ | refine aw_condk ?_ | refine aw_block ?_) | ((with_reducible refine evg ?_); simp only [go_sem, ↓reduceIte, Nat.reduceEqDiff, Nat.reduceBEq, Nat.reduceAdd, Nat.reduceMul, Nat.reduceSub, Nat.reduceLT, Nat.reduceLeDiff]) | ((with_reducible refine ev_guard ?_); (with_reducible first | refine guard_t ?_ ?_ rfl | refine guard_f ?_ ?_ rfl) <;> (intro h; (try simp only [h]); (try simp only [nrm] at h))) | ((with_reducible refine ck_split (fun h => ?_) (fun h => ?_)) <;> (try simp only [nrm] at h)) | ((with_reducible refine And.intro ?_ ?_); (first | omega | focus (simp; done) | focus (simp; omega) | focus ((repeat' (with_reducible refine And.intro ?_ ?_)) <;> first | omega | rfl | (simp only [go_sem, refsL_app, refs_dmap] <;> fail) | (simp [refsL_app, refs_dmap, AV.refsL, AV.refs] <;> omega)))) | ((with_reducible first | apply hK | (clear hK K; first | apply hK | (clear hK K; first | apply hK | (clear hK K; apply hK)))); clear hK K) | (simp (disch := omega) only [wr, drop_at, str_at, int_at, Int.reduceSub, Int.reduceAdd, Int.reduceToNat, Int.toNat_zero]) | fail)
  all_goals (first | refine res_tmp rfl (by simp [D.plain, plains]) (by simp) ?_ | refine res_at rfl (by simp [D.plain, plains]) (by simp) ?_ | refine res_two rfl (by simp [D.plain, plains]) (by simp) ?_ | refine res_three rfl (by simp [D.plain, plains]) (by simp) ?_ | skip)
  all_goals simp [inR, *]

set_option maxRecDepth 100000 in
set_option maxHeartbeats 4000000 in
theorem inside_fn (n lo hi : Int) : FnD Try.prog 74 [.int n, .int lo, .int hi] (.bool (inR n lo hi)) := by
  refine fn_go Try.func74 rfl rfl Try.ntmps74 Try.results74 (by simp only [slotsOf, argAV, List.map_cons, List.map_nil, Nat.reduceAdd]; rfl) (by simp) ?_
  repeat' (first | (with_reducible first | refine aw_seq fun K hK => ?_ | refine aw_region (by kernel_rfl) ?_ | refine aw_condk ?_ | refine aw_block ?_) | ((with_reducible refine evg ?_); simp only [go_sem, ↓reduceIte, Nat.reduceEqDiff, Nat.reduceBEq, Nat.reduceAdd, Nat.reduceMul, Nat.reduceSub, Nat.reduceLT, Nat.reduceLeDiff]) | ((with_reducible refine ev_guard ?_); (with_reducible first | refine guard_t ?_ ?_ rfl | refine guard_f ?_ ?_ rfl) <;> (intro h; (try simp only [h]); (try simp only [nrm] at h))) | ((with_reducible refine ck_split (fun h => ?_) (fun h => ?_)) <;> (try simp only [nrm] at h)) | ((with_reducible refine And.intro ?_ ?_); (first | omega | focus (simp; done) | focus (simp; omega) | focus ((repeat' (with_reducible refine And.intro ?_ ?_)) <;> first | omega | rfl | (simp only [go_sem, refsL_app, refs_dmap] <;> fail) | (simp [refsL_app, refs_dmap, AV.refsL, AV.refs] <;> omega)))) | ((with_reducible first | apply hK | (clear hK K; first | apply hK | (clear hK K; first | apply hK | (clear hK K; apply hK)))); clear hK K) | (simp (disch := omega) only [wr, drop_at, str_at, int_at, Int.reduceSub, Int.reduceAdd, Int.reduceToNat, Int.toNat_zero]) | fail)
  all_goals (first | refine res_tmp rfl (by simp [D.plain, plains]) (by simp) ?_ | refine res_at rfl (by simp [D.plain, plains]) (by simp) ?_ | refine res_two rfl (by simp [D.plain, plains]) (by simp) ?_ | refine res_three rfl (by simp [D.plain, plains]) (by simp) ?_ | skip)
  all_goals simp [inR, *]

def strs (l : List ByteArray) : D := .ls 1 l.length (l.map D.str)

def tincWords : List ByteArray := [⟨#[103, 111, 108, 100]⟩, ⟨#[115, 105, 108, 118, 101, 114]⟩, ⟨#[114, 101, 100]⟩, ⟨#[98, 108, 117, 101]⟩, ⟨#[98, 108, 97, 99, 107]⟩, ⟨#[103, 114, 101, 101, 110]⟩, ⟨#[112, 117, 114, 112, 108, 101]⟩, ⟨#[101, 114, 109, 105, 110, 101]⟩, ⟨#[118, 97, 105, 114]⟩]

attribute [local go_sem] strs tincWords

end Go.Proofs.Ytjfeleejiofeoaa
