/- The canonical text of arms, in the program and in the reference. -/
import Derived.Test.YteimddagjikcaaaArmsText
import Derived.WalkKit
import Derived.WalkSpells
import Derived.KernelRfl
namespace Go.Proofs.Yteimddagjikcaaa
open Go.RowKit
set_option linter.unusedVariables false
set_option linter.unusedSimpArgs false

attribute [local go_sem] strs ArmsV.d

def ordName (o : Int) : ByteArray :=
  match o with
  | 1 => ⟨#[112, 97, 108, 101]⟩
  | 2 => ⟨#[102, 101, 115, 115]⟩
  | 3 => ⟨#[98, 101, 110, 100]⟩
  | 4 => ⟨#[99, 104, 101, 118, 114, 111, 110]⟩
  | 5 => ⟨#[99, 114, 111, 115, 115]⟩
  | 6 => ⟨#[115, 97, 108, 116, 105, 114, 101]⟩
  | 7 => ⟨#[99, 104, 105, 101, 102]⟩
  | _ => ⟨#[]⟩

theorem ord_at {o : Int} {d : D} (h1 : 1 ≤ o) (h2 : o ≤ 7) : [D.str ⟨#[112, 97, 108, 101]⟩, D.str ⟨#[102, 101, 115, 115]⟩, D.str ⟨#[98, 101, 110, 100]⟩, D.str ⟨#[99, 104, 101, 118, 114, 111, 110]⟩, D.str ⟨#[99, 114, 111, 115, 115]⟩, D.str ⟨#[115, 97, 108, 116, 105, 114, 101]⟩, D.str ⟨#[99, 104, 105, 101, 102]⟩].getD (o - 1).toNat d = D.str (ordName o) := by
  obtain rfl | rfl | rfl | rfl | rfl | rfl | rfl : o = 1 ∨ o = 2 ∨ o = 3 ∨ o = 4 ∨ o = 5 ∨ o = 6 ∨ o = 7 := by omega
  all_goals rfl

theorem ord_at8 {o : Int} {d : D} (h1 : 1 ≤ o) (h2 : o ≤ 7) : [D.str ⟨#[]⟩, D.str ⟨#[112, 97, 108, 101]⟩, D.str ⟨#[102, 101, 115, 115]⟩, D.str ⟨#[98, 101, 110, 100]⟩, D.str ⟨#[99, 104, 101, 118, 114, 111, 110]⟩, D.str ⟨#[99, 114, 111, 115, 115]⟩, D.str ⟨#[115, 97, 108, 116, 105, 114, 101]⟩, D.str ⟨#[99, 104, 105, 101, 102]⟩].getD o.toNat d = D.str (ordName o) := by
  obtain rfl | rfl | rfl | rfl | rfl | rfl | rfl : o = 1 ∨ o = 2 ∨ o = 3 ∨ o = 4 ∨ o = 5 ∨ o = 6 ∨ o = 7 := by omega
  all_goals rfl

theorem ordName_size (o : Int) : (ordName o).size ≤ 7 := by
  unfold ordName; split <;> decide

def ordText (o l : Int) : ByteArray := lined (⟨#[97, 32]⟩ ++ ordName o) l

theorem lined_size (t : ByteArray) (l : Int) : (lined t l).size ≤ t.size + 10 := by
  have z := lineWord_size l
  have e : ({ data := #[32] } : ByteArray).size = 1 := rfl
  unfold lined
  split
  · omega
  · simp only [ByteArray.size_append]
    omega

theorem ordText_size (o l : Int) : (ordText o l).size ≤ 19 := by
  have z := ordName_size o
  have e : ({ data := #[97, 32] } : ByteArray).size = 2 := rfl
  have := lined_size (⟨#[97, 32]⟩ ++ ordName o) l
  simp only [ByteArray.size_append] at this
  unfold ordText
  omega

theorem fieldText_size (d l f s : Int) : (fieldText d l f s).size ≤ 60 := by
  have z1 := tincWord_size f
  have z2 := tincWord_size s
  have z3 := divWord_size d
  have z4 := lined_size (divWord d) l
  have e : ({ data := #[32] } : ByteArray).size = 1 := rfl
  have e2 : ({ data := #[32, 97, 110, 100, 32] } : ByteArray).size = 5 := rfl
  unfold fieldText
  split
  · omega
  · simp only [ByteArray.size_append]
    omega

theorem groupText_size (c k a t : Int) : (groupText c k a t).size ≤ 40 := by
  have z1 := bareText_size c k a
  have z2 := tincWord_size t
  have e : ({ data := #[32] } : ByteArray).size = 1 := rfl
  unfold groupText
  simp only [ByteArray.size_append]
  omega

set_option maxRecDepth 100000 in
set_option maxHeartbeats 4000000 in
theorem ordinaryWords_fn : FnD Try.prog 123 [] (.ls 1 7 [D.str ⟨#[112, 97, 108, 101]⟩, D.str ⟨#[102, 101, 115, 115]⟩, D.str ⟨#[98, 101, 110, 100]⟩, D.str ⟨#[99, 104, 101, 118, 114, 111, 110]⟩, D.str ⟨#[99, 114, 111, 115, 115]⟩, D.str ⟨#[115, 97, 108, 116, 105, 114, 101]⟩, D.str ⟨#[99, 104, 105, 101, 102]⟩]) := by
  refine fn_go Try.func123 rfl rfl Try.ntmps123 Try.results123 (by simp only [slotsOf, argAV, List.map_cons, List.map_nil, Nat.reduceAdd]; rfl) (by simp) ?_
  repeat' (first | (with_reducible first | refine aw_seq fun K hK => ?_ | refine aw_region (by kernel_rfl) ?_ | refine aw_condk ?_ | refine aw_block ?_) | ((with_reducible refine evg ?_); simp only [go_sem, ↓reduceIte, Nat.reduceEqDiff, Nat.reduceBEq, Nat.reduceAdd, Nat.reduceMul, Nat.reduceSub, Nat.reduceLT, Nat.reduceLeDiff]) | ((with_reducible refine ev_guard ?_); (with_reducible first | refine guard_t ?_ ?_ rfl | refine guard_f ?_ ?_ rfl) <;> (intro h; (try simp only [h]); (try simp only [nrm] at h))) | ((with_reducible refine ck_split (fun h => ?_) (fun h => ?_)) <;> (try simp only [nrm] at h)) | ((with_reducible refine And.intro ?_ ?_); (first | omega | focus (simp; done) | focus (simp; omega) | focus ((repeat' (with_reducible refine And.intro ?_ ?_)) <;> first | omega | rfl | (simp only [go_sem, refsL_app, refs_dmap] <;> fail) | (simp [refsL_app, refs_dmap, AV.refsL, AV.refs] <;> omega)))) | ((with_reducible first | apply hK | (clear hK K; first | apply hK | (clear hK K; first | apply hK | (clear hK K; apply hK)))); clear hK K) | (simp (disch := omega) only [wr, drop_at, str_at, int_at, Int.reduceSub, Int.reduceAdd, Int.reduceToNat, Int.toNat_zero]) | fail)
  all_goals (first | refine res_tmp rfl (by simp [D.plain, plains]) (by simp) ?_ | refine res_at rfl (by simp [D.plain, plains]) (by simp) ?_ | refine res_two rfl (by simp [D.plain, plains]) (by simp) ?_ | refine res_three rfl (by simp [D.plain, plains]) (by simp) ?_ | skip)
  all_goals rfl

set_option maxRecDepth 100000 in
set_option maxHeartbeats 4000000 in
theorem ordinaryStart_fn (o l : Int) (h1 : 1 ≤ o) (h2 : o ≤ 7) (h3 : 0 ≤ l) (h4 : l ≤ 4) : FnD Try.prog 98 [.int o, .int l] (.str (ordText o l)) := by
  have z := ordName_size o
  have z2 : (({ data := #[97, 32] } : ByteArray) ++ ordName o).size ≤ 1000 := by
    have e : ({ data := #[97, 32] } : ByteArray).size = 2 := rfl
    simp only [ByteArray.size_append]
    omega
  refine fn_go Try.func98 rfl rfl Try.ntmps98 Try.results98 (by simp only [slotsOf, argAV, List.map_cons, List.map_nil, Nat.reduceAdd]; rfl) (by simp) ?_
  repeat' (first | (with_reducible first | refine aw_seq fun K hK => ?_ | refine aw_region (by kernel_rfl) ?_ | refine aw_condk ?_ | refine aw_block ?_) | ((with_reducible refine evg ?_); simp only [go_sem, ↓reduceIte, Nat.reduceEqDiff, Nat.reduceBEq, Nat.reduceAdd, Nat.reduceMul, Nat.reduceSub, Nat.reduceLT, Nat.reduceLeDiff]) | (simp (disch := omega) only [wr, drop_at, str_at, int_at, Int.reduceSub, Int.reduceAdd, Int.reduceToNat, Int.toNat_zero, ord_at]) | ((with_reducible refine ev_call ?_); (first | (refine call_fn ordinaryWords_fn rfl ?_) | (refine call_fn (withLine_fn _ _ h3 h4 z2) rfl ?_)); refine k_run ?_) | ((with_reducible refine ev_guard ?_); (with_reducible first | refine guard_t ?_ ?_ rfl | refine guard_f ?_ ?_ rfl) <;> (intro h; (try simp only [h]); (try simp only [nrm] at h) <;> (try ((with_reducible exfalso); omega)))) | ((with_reducible refine ck_split (fun h => ?_) (fun h => ?_)) <;> (try simp only [nrm] at h) <;> (try ((with_reducible exfalso); omega))) | ((with_reducible refine And.intro ?_ ?_); (first | omega | focus (simp; done) | focus (simp; omega) | focus ((repeat' (with_reducible refine And.intro ?_ ?_)) <;> first | omega | rfl | (simp only [go_sem, refsL_app, refs_dmap] <;> fail) | (simp [refsL_app, refs_dmap, AV.refsL, AV.refs] <;> omega)))) | ((with_reducible first | apply hK | (clear hK K; first | apply hK | (clear hK K; first | apply hK | (clear hK K; apply hK)))); clear hK K) | fail)
  all_goals (first | refine res_tmp rfl (by simp [D.plain, plains]) (by simp) ?_ | refine res_at rfl (by simp [D.plain, plains]) (by simp) ?_ | refine res_two rfl (by simp [D.plain, plains]) (by simp) ?_ | refine res_three rfl (by simp [D.plain, plains]) (by simp) ?_ | skip)
  all_goals rfl

set_option maxRecDepth 100000 in
set_option maxHeartbeats 4000000 in
theorem l6Ordinary_fn (o l : Int) (h1 : 1 ≤ o) (h2 : o ≤ 7) (h3 : 0 ≤ l) (h4 : l ≤ 4) : FnD Try.prog 55 [.int o, .int l] (.str (ordText o l)) := by
  have z := ordName_size o
  have z2 := lineWord_size l
  refine fn_go Try.func55 rfl rfl Try.ntmps55 Try.results55 (by simp only [slotsOf, argAV, List.map_cons, List.map_nil, Nat.reduceAdd]; rfl) (by simp) ?_
  repeat' (first | (with_reducible first | refine aw_seq fun K hK => ?_ | refine aw_region (by kernel_rfl) ?_ | refine aw_condk ?_ | refine aw_block ?_) | ((with_reducible refine evg ?_); simp only [go_sem, ↓reduceIte, Nat.reduceEqDiff, Nat.reduceBEq, Nat.reduceAdd, Nat.reduceMul, Nat.reduceSub, Nat.reduceLT, Nat.reduceLeDiff]) | (simp (disch := omega) only [wr, drop_at, str_at, int_at, Int.reduceSub, Int.reduceAdd, Int.reduceToNat, Int.toNat_zero, ord_at8]) | ((with_reducible refine ev_call ?_); (first | (refine call_fn (l3LineWord_fn _ (by omega) (by omega)) rfl ?_)); refine k_run ?_) | ((with_reducible refine ev_guard ?_); (with_reducible first | refine guard_t ?_ ?_ rfl | refine guard_f ?_ ?_ rfl) <;> (intro h; (try simp only [h]); (try simp only [nrm] at h) <;> (try ((with_reducible exfalso); omega)))) | ((with_reducible refine ck_split (fun h => ?_) (fun h => ?_)) <;> (try simp only [nrm] at h) <;> (try ((with_reducible exfalso); omega))) | ((with_reducible refine And.intro ?_ ?_); (first | omega | focus (simp; done) | focus (simp; omega) | focus ((repeat' (with_reducible refine And.intro ?_ ?_)) <;> first | omega | rfl | (simp only [go_sem, refsL_app, refs_dmap] <;> fail) | (simp [refsL_app, refs_dmap, AV.refsL, AV.refs] <;> omega)))) | ((with_reducible first | apply hK | (clear hK K; first | apply hK | (clear hK K; first | apply hK | (clear hK K; apply hK)))); clear hK K) | fail)
  all_goals (first | refine res_tmp rfl (by simp [D.plain, plains]) (by simp) ?_ | refine res_at rfl (by simp [D.plain, plains]) (by simp) ?_ | refine res_two rfl (by simp [D.plain, plains]) (by simp) ?_ | refine res_three rfl (by simp [D.plain, plains]) (by simp) ?_ | skip)
  all_goals (simp_all [ordText, lined]; try omega)

end Go.Proofs.Yteimddagjikcaaa
