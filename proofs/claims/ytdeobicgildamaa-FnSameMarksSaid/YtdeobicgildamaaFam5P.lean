/- Words of tinctures, lines and divisions. -/
/- Lists of numbers: copying, comparing, counting, marking. -/
/- In which orders the reference's insertion may be drawn. -/
import Derived.Test.YtdeobicgildamaaFacts
import Derived.WalkKit
import Derived.WalkSpells
import Derived.KernelRfl
import Derived.Test.YtdeobicgildamaaGlob
import Derived.Test.YtdeobicgildamaaFlowE
namespace Go.Proofs.Ytdeobicgildamaa
open Go.RowKit
set_option linter.unusedVariables false
set_option linter.unusedSimpArgs false

def tincWord (n : Int) : ByteArray :=
  match n with
  | 1 => ⟨#[103, 111, 108, 100]⟩
  | 2 => ⟨#[115, 105, 108, 118, 101, 114]⟩
  | 3 => ⟨#[114, 101, 100]⟩
  | 4 => ⟨#[98, 108, 117, 101]⟩
  | 5 => ⟨#[98, 108, 97, 99, 107]⟩
  | 6 => ⟨#[103, 114, 101, 101, 110]⟩
  | 7 => ⟨#[112, 117, 114, 112, 108, 101]⟩
  | 8 => ⟨#[101, 114, 109, 105, 110, 101]⟩
  | 9 => ⟨#[118, 97, 105, 114]⟩
  | _ => ⟨#[]⟩

set_option maxRecDepth 100000 in
set_option maxHeartbeats 4000000 in
theorem l1In_fn (n lo hi : Int) : FnD Try.prog 63 [.int n, .int lo, .int hi] (.bool (inR n lo hi)) := by
  refine fn_go Try.func63 rfl rfl Try.ntmps63 Try.results63 (by simp only [slotsOf, argAV, List.map_cons, List.map_nil, Nat.reduceAdd]; rfl) (by simp) ?_
  repeat' (first | (with_reducible first | refine aw_seq fun K hK => ?_ | refine aw_region (by kernel_rfl) ?_ | refine aw_condk ?_ | refine aw_block ?_) | ((with_reducible refine evg ?_); simp only [go_sem, ↓reduceIte, Nat.reduceEqDiff, Nat.reduceBEq, Nat.reduceAdd, Nat.reduceMul, Nat.reduceSub, Nat.reduceLT, Nat.reduceLeDiff]) | ((with_reducible refine ev_guard ?_); (with_reducible first | refine guard_t ?_ ?_ rfl | refine guard_f ?_ ?_ rfl) <;> (intro h; (try simp only [h]); (try simp only [nrm] at h))) | ((with_reducible refine ck_split (fun h => ?_) (fun h => ?_)) <;> (try simp only [nrm] at h)) | ((with_reducible refine And.intro ?_ ?_); (first | omega | focus (simp; done) | focus (simp; omega) | focus ((repeat' (with_reducible refine And.intro ?_ ?_)) <;> first | omega | rfl | (simp only [go_sem, refsL_app, refs_dmap] <;> fail) | (simp [refsL_app, refs_dmap, AV.refsL, AV.refs] <;> omega)))) | ((with_reducible first | apply hK | (clear hK K; first | apply hK | (clear hK K; first | apply hK | (clear hK K; apply hK)))); clear hK K) | (simp (disch := omega) only [wr, drop_at, str_at, int_at, Int.reduceSub, Int.reduceAdd, Int.reduceToNat, Int.toNat_zero]) | fail)
  all_goals (first | refine res_tmp rfl (by simp [D.plain, plains]) (by simp) ?_ | refine res_at rfl (by simp [D.plain, plains]) (by simp) ?_ | refine res_two rfl (by simp [D.plain, plains]) (by simp) ?_ | refine res_three rfl (by simp [D.plain, plains]) (by simp) ?_ | skip)
  all_goals simp [inR, *]

set_option maxRecDepth 100000 in
set_option maxHeartbeats 4000000 in
theorem inside_fn (n lo hi : Int) : FnD Try.prog 35 [.int n, .int lo, .int hi] (.bool (inR n lo hi)) := by
  refine fn_go Try.func35 rfl rfl Try.ntmps35 Try.results35 (by simp only [slotsOf, argAV, List.map_cons, List.map_nil, Nat.reduceAdd]; rfl) (by simp) ?_
  repeat' (first | (with_reducible first | refine aw_seq fun K hK => ?_ | refine aw_region (by kernel_rfl) ?_ | refine aw_condk ?_ | refine aw_block ?_) | ((with_reducible refine evg ?_); simp only [go_sem, ↓reduceIte, Nat.reduceEqDiff, Nat.reduceBEq, Nat.reduceAdd, Nat.reduceMul, Nat.reduceSub, Nat.reduceLT, Nat.reduceLeDiff]) | ((with_reducible refine ev_guard ?_); (with_reducible first | refine guard_t ?_ ?_ rfl | refine guard_f ?_ ?_ rfl) <;> (intro h; (try simp only [h]); (try simp only [nrm] at h))) | ((with_reducible refine ck_split (fun h => ?_) (fun h => ?_)) <;> (try simp only [nrm] at h)) | ((with_reducible refine And.intro ?_ ?_); (first | omega | focus (simp; done) | focus (simp; omega) | focus ((repeat' (with_reducible refine And.intro ?_ ?_)) <;> first | omega | rfl | (simp only [go_sem, refsL_app, refs_dmap] <;> fail) | (simp [refsL_app, refs_dmap, AV.refsL, AV.refs] <;> omega)))) | ((with_reducible first | apply hK | (clear hK K; first | apply hK | (clear hK K; first | apply hK | (clear hK K; apply hK)))); clear hK K) | (simp (disch := omega) only [wr, drop_at, str_at, int_at, Int.reduceSub, Int.reduceAdd, Int.reduceToNat, Int.toNat_zero]) | fail)
  all_goals (first | refine res_tmp rfl (by simp [D.plain, plains]) (by simp) ?_ | refine res_at rfl (by simp [D.plain, plains]) (by simp) ?_ | refine res_two rfl (by simp [D.plain, plains]) (by simp) ?_ | refine res_three rfl (by simp [D.plain, plains]) (by simp) ?_ | skip)
  all_goals simp [inR, *]

def strs (l : List ByteArray) : D := .ls 1 l.length (l.map D.str)

def tincWords : List ByteArray := [⟨#[103, 111, 108, 100]⟩, ⟨#[115, 105, 108, 118, 101, 114]⟩, ⟨#[114, 101, 100]⟩, ⟨#[98, 108, 117, 101]⟩, ⟨#[98, 108, 97, 99, 107]⟩, ⟨#[103, 114, 101, 101, 110]⟩, ⟨#[112, 117, 114, 112, 108, 101]⟩, ⟨#[101, 114, 109, 105, 110, 101]⟩, ⟨#[118, 97, 105, 114]⟩]

attribute [local go_sem] strs tincWords

end Go.Proofs.Ytdeobicgildamaa

namespace Go.Proofs.Ytdeobicgildamaa
open Go.RowKit
set_option linter.unusedVariables false
set_option linter.unusedSimpArgs false

def intC (l : List Int) : List D := l.map D.int

def intL (l : List Int) : D := .ls 1 l.length (l.map D.int)

attribute [local go_sem] intL

theorem map_set {α β : Type} (f : α → β) (l : List α) (i : Nat) (x : α) : (l.map f).set i (f x) = (l.set i x).map f := by
  rw [List.map_set]

theorem ints_plain : ∀ l : List Int, plains (l.map D.int)
  | [] => trivial
  | _ :: l => ⟨trivial, ints_plain l⟩

theorem ints_plain_take (n : Nat) (l : List Int) : plains ((l.map D.int).take n) := by
  rw [← List.map_take]
  exact ints_plain _

theorem ints_all (l : List Int) : (l.map D.int).take (l.length * 1) = l.map D.int := by
  rw [Nat.mul_one]
  exact List.take_of_length_le (by simp)

theorem ints_raw (l : List Int) : D.ls 1 l.length (((l.map D.int).drop 0).take (l.length * 1)) = intL l := by
  rw [List.drop_zero, ints_all]
  rfl

theorem ints_all1 (l : List Int) : (l.map D.int).take l.length = l.map D.int := List.take_of_length_le (by simp)

attribute [local simp] ints_plain ints_all ints_all1

def intM (l : List Int) (i : Nat) : List Int := l.take i ++ List.replicate (l.length - i) 0

def nums (k : Int) (n : Nat) : List Int := tab (fun i => k + i) n

@[simp] theorem nums_len (k : Int) (n : Nat) : (nums k n).length = n := tab_len _ _

theorem sw_self (a b : Nat) : swp a b a = b := by simp [swp]

end Go.Proofs.Ytdeobicgildamaa

namespace Go.Proofs.Ytdeobicgildamaa
open Go.RowKit
set_option linter.unusedVariables false
set_option linter.unusedSimpArgs false

set_option maxRecDepth 100000 in
theorem pl_Fam5P_122_8 (l : List Oper) (h : l = opsOf Try.f122 8) : planB l (.pure 0 (.pure 1 (.pure 2 (.pure 3 (.pure 4 (.pure 5 (.pure 6 (.pure 7 (.pure 8 (.pure 9 (.pure 10 (.pure 11 PT.fin)))))))))))) [] = true := by
  subst h
  kernel_rfl

set_option maxRecDepth 100000 in
theorem pl_Fam5P_122_10U (l : List Oper) (h : l = opsOf Try.f122 10) : planUB l (.still 1 (.still 2 (.still 3 (.still 9 (.still 10 (.still 11 (.calc 5 (.two true 0 (.two false 4 (.one true 6 (.one true 7 (.one false 8 (.one false 12 (.still 13 PU.fin))))) true 6 (.two false 4 (.one true 7 (.one false 8 (.one false 12 (.still 13 PU.fin)))) true 7 (.one false 4 (.one false 8 (.one false 12 (.still 13 PU.fin)))))) true 6 (.two true 0 (.two false 4 (.one true 7 (.one false 8 (.one false 12 (.still 13 PU.fin)))) true 7 (.one false 4 (.one false 8 (.one false 12 (.still 13 PU.fin))))) true 7 (.one true 0 (.one false 4 (.one false 8 (.one false 12 (.still 13 PU.fin)))))))))))))) [4, 8, 12] = true := by
  subst h
  kernel_rfl

set_option maxRecDepth 100000 in
theorem pl_Fam5P_122_11U (l : List Oper) (h : l = opsOf Try.f122 11) : planUB l (.still 1 (.still 2 (.still 3 (.still 9 (.still 10 (.still 11 (.calc 5 (.two true 0 (.two false 4 (.one true 6 (.one true 7 (.one false 8 (.one false 12 (.still 13 PU.fin))))) true 6 (.two false 4 (.one true 7 (.one false 8 (.one false 12 (.still 13 PU.fin)))) true 7 (.one false 4 (.one false 8 (.one false 12 (.still 13 PU.fin)))))) true 6 (.two true 0 (.two false 4 (.one true 7 (.one false 8 (.one false 12 (.still 13 PU.fin)))) true 7 (.one false 4 (.one false 8 (.one false 12 (.still 13 PU.fin))))) true 7 (.one true 0 (.one false 4 (.one false 8 (.one false 12 (.still 13 PU.fin)))))))))))))) [4, 8, 12] = true := by
  subst h
  kernel_rfl



end Go.Proofs.Ytdeobicgildamaa
