/- The text of a field, in the program and in the reference. -/
import Derived.Test.YtjbifidphckjoaaWords
import Derived.WalkKit
import Derived.WalkSpells
import Derived.KernelRfl
namespace Go.Proofs.Ytjbifidphckjoaa
open Go.RowKit
set_option maxRecDepth 100000
set_option maxHeartbeats 4000000
set_option linter.unusedVariables false
set_option linter.unusedSimpArgs false

attribute [local go_sem] strs

def lineWord (n : Int) : ByteArray :=
 match n with
 | 1 => ⟨#[101, 110, 103, 114, 97, 105, 108, 101, 100]⟩
 | 2 => ⟨#[119, 97, 118, 121]⟩
 | 3 => ⟨#[101, 109, 98, 97, 116, 116, 108, 101, 100]⟩
 | 4 => ⟨#[105, 110, 100, 101, 110, 116, 101, 100]⟩
 | _ => ⟨#[]⟩

def divWord (n : Int) : ByteArray :=
 match n with
 | 1 => ⟨#[112, 101, 114, 32, 112, 97, 108, 101]⟩
 | 2 => ⟨#[112, 101, 114, 32, 102, 101, 115, 115]⟩
 | 3 => ⟨#[112, 101, 114, 32, 98, 101, 110, 100]⟩
 | 4 => ⟨#[113, 117, 97, 114, 116, 101, 114, 108, 121]⟩
 | 5 => ⟨#[112, 101, 114, 32, 115, 97, 108, 116, 105, 114, 101]⟩
 | 6 => ⟨#[112, 97, 108, 121]⟩
 | 7 => ⟨#[98, 97, 114, 114, 121]⟩
 | _ => ⟨#[]⟩

def okField (d l f s : Int) : Bool := inR d 0 7 && inR l 0 4 && inR f 1 9 && (if d = 0 then l == 0 && s == 0 else inR s 1 9 && s != f)

theorem l3Good_fn (d l f s : Int) : FnD Try.prog 79 [.ag [.int d, .int l, .int f, .int s]] (.bool (okField d l f s)) := by
 refine fn_go Try.func79 rfl rfl Try.ntmps79 Try.results79 (by simp only [slo, Nat.reduceAdd]; rfl) (by simp) ?_
 repeat' (first | (with_reducible first | refine aw_seq fun K hK => ?_ | refine aw_region (by kernel_rfl) ?_ | refine aw_condk ?_) | ((with_reducible refine evg ?_); simp only [go_sem, ↓reduceIte, Nat.reduceEqDiff, Nat.reduceBEq, Nat.reduceAdd, Nat.reduceMul, Nat.reduceSub, Nat.reduceLT, Nat.reduceLeDiff]) | ((with_reducible refine ev_call ?_); (first | (refine call_fn (l1In_fn _ _ _) rfl ?_) | (refine call_fn (l3Line_fn _) rfl ?_) | (refine call_fn (l2Good_fn _) rfl ?_)); refine k_run ?_) | ((with_reducible refine ev_guard ?_); (with_reducible first | refine guard_t ?_ ?_ rfl | refine guard_f ?_ ?_ rfl) <;> (intro h; (try simp only [h]); (try simp only [nrm] at h))) | ((with_reducible refine ck_split (fun h => ?_) (fun h => ?_)) <;> (try simp only [nrm] at h)) | ((with_reducible refine And.intro ?_ ?_); (focus first | omega | (simp; done) | (simp; omega) | ((repeat' (with_reducible refine And.intro ?_ ?_)) <;> first | omega | rfl | (simp only [go_sem, refsL_app, refs_dmap] <;> fail) | (simp [refsL_app, refs_dmap, AV.refsL, AV.refs] <;> omega)))) | ((with_reducible first | apply hK | (clear hK K; first | apply hK | (clear hK K; apply hK))); clear hK K) | (simp (disch := omega) only [dsq, Int.reduceSub, Int.reduceAdd, Int.reduceToNat]) | fail)
 all_goals (first | refine res_tmp rfl (by simp [D.plain, plains]) (by simp) ?_ | skip)
 all_goals simp_all [okField]

theorem isValidField_fn (d l f s : Int) : FnD Try.prog 52 [.ag [.int d, .int l, .int f, .int s]] (.bool (okField d l f s)) := by
 refine fn_go Try.func52 rfl rfl Try.ntmps52 Try.results52 (by simp only [slo, Nat.reduceAdd]; rfl) (by simp) ?_
 repeat' (first | (with_reducible first | refine aw_seq fun K hK => ?_ | refine aw_region (by kernel_rfl) ?_ | refine aw_condk ?_) | ((with_reducible refine evg ?_); simp only [go_sem, ↓reduceIte, Nat.reduceEqDiff, Nat.reduceBEq, Nat.reduceAdd, Nat.reduceMul, Nat.reduceSub, Nat.reduceLT, Nat.reduceLeDiff]) | ((with_reducible refine ev_call ?_); (first | (refine call_fn (inside_fn _ _ _) rfl ?_) | (refine call_fn (isLine_fn _) rfl ?_) | (refine call_fn (isTincture_fn _) rfl ?_)); refine k_run ?_) | ((with_reducible refine ev_guard ?_); (with_reducible first | refine guard_t ?_ ?_ rfl | refine guard_f ?_ ?_ rfl) <;> (intro h; (try simp only [h]); (try simp only [nrm] at h))) | ((with_reducible refine ck_split (fun h => ?_) (fun h => ?_)) <;> (try simp only [nrm] at h)) | ((with_reducible refine And.intro ?_ ?_); (focus first | omega | (simp; done) | (simp; omega) | ((repeat' (with_reducible refine And.intro ?_ ?_)) <;> first | omega | rfl | (simp only [go_sem, refsL_app, refs_dmap] <;> fail) | (simp [refsL_app, refs_dmap, AV.refsL, AV.refs] <;> omega)))) | ((with_reducible first | apply hK | (clear hK K; first | apply hK | (clear hK K; apply hK))); clear hK K) | (simp (disch := omega) only [dsq, Int.reduceSub, Int.reduceAdd, Int.reduceToNat]) | fail)
 all_goals (first | refine res_tmp rfl (by simp [D.plain, plains]) (by simp) ?_ | skip)
 all_goals simp_all [okField]

def lined (t : ByteArray) (l : Int) : ByteArray := if l = 0 then t else t ++ ⟨#[32]⟩ ++ lineWord l

def fieldText (d l f s : Int) : ByteArray :=
 if d = 0 then tincWord f
 else lined (divWord d) l ++ ⟨#[32]⟩ ++ tincWord f ++ ⟨#[32, 97, 110, 100, 32]⟩ ++ tincWord s

def lineWords : List ByteArray := [lineWord 1, lineWord 2, lineWord 3, lineWord 4]

def divWords : List ByteArray := [divWord 1, divWord 2, divWord 3, divWord 4, divWord 5, divWord 6, divWord 7]

attribute [local go_sem] lineWords divWords

def fieldTextR (d l f s : Int) : D := if okField d l f s then .tu [.str (fieldText d l f s), .bool true] else .tu [.str ⟨#[]⟩, .bool false]

end Go.Proofs.Ytjbifidphckjoaa
