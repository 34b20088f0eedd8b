/- The canonical text of arms, in the program and in the reference: the texts. -/
import Derived.Test.YteimddagjikcaaaArmsText2
import Derived.WalkKit
import Derived.WalkSpells
import Derived.KernelRfl
namespace Go.Proofs.Yteimddagjikcaaa
open Go.RowKit
set_option linter.unusedVariables false
set_option linter.unusedSimpArgs false

attribute [local go_sem] strs ArmsV.d

def joinW (o : Int) : ByteArray := if o = 0 then ⟨#[44, 32]⟩ else if o = 7 then ⟨#[32, 97, 98, 111, 118, 101, 32]⟩ else ⟨#[32, 98, 101, 116, 119, 101, 101, 110, 32]⟩

def armsText1 (x : ArmsV) : ByteArray := if x.o = 0 then fieldText x.fd x.fl x.ff x.fs else fieldText x.fd x.fl x.ff x.fs ++ ⟨#[44, 32]⟩ ++ ordText x.o x.l ++ ⟨#[32]⟩ ++ tincWord x.t

def armsText2 (x : ArmsV) : ByteArray := if noGroup x.c1 x.k1 x.a1 x.t1 = true then armsText1 x else armsText1 x ++ ⟨#[32, 99, 104, 97, 114, 103, 101, 100, 32, 119, 105, 116, 104, 32]⟩ ++ groupText x.c1 x.k1 x.a1 x.t1

def armsText (x : ArmsV) : ByteArray := if noGroup x.c2 x.k2 x.a2 x.t2 = true then armsText2 x else armsText2 x ++ joinW x.o ++ groupText x.c2 x.k2 x.a2 x.t2

theorem joinW_size (o : Int) : (joinW o).size ≤ 9 := by
  unfold joinW; split
  · decide
  · split <;> decide

set_option maxRecDepth 100000 in
set_option maxHeartbeats 4000000 in
theorem l6Join_fn (o : Int) : FnD Try.prog 94 [.int o] (.str (joinW o)) := by
  refine fn_go Try.func94 rfl rfl Try.ntmps94 Try.results94 (by simp only [slotsOf, argAV, List.map_cons, List.map_nil, Nat.reduceAdd]; rfl) (by simp) ?_
  repeat' (first | (with_reducible first | refine aw_seq fun K hK => ?_ | refine aw_region (by kernel_rfl) ?_ | refine aw_condk ?_ | refine aw_block ?_) | ((with_reducible refine evg ?_); simp only [go_sem, ↓reduceIte, Nat.reduceEqDiff, Nat.reduceBEq, Nat.reduceAdd, Nat.reduceMul, Nat.reduceSub, Nat.reduceLT, Nat.reduceLeDiff]) | ((with_reducible refine ev_guard ?_); (with_reducible first | refine guard_t ?_ ?_ rfl | refine guard_f ?_ ?_ rfl) <;> (intro h; (try simp only [h]); (try simp only [nrm] at h))) | ((with_reducible refine ck_split (fun h => ?_) (fun h => ?_)) <;> (try simp only [nrm] at h)) | ((with_reducible refine And.intro ?_ ?_); (first | omega | focus (simp; done) | focus (simp; omega) | focus ((repeat' (with_reducible refine And.intro ?_ ?_)) <;> first | omega | rfl | (simp only [go_sem, refsL_app, refs_dmap] <;> fail) | (simp [refsL_app, refs_dmap, AV.refsL, AV.refs] <;> omega)))) | ((with_reducible first | apply hK | (clear hK K; first | apply hK | (clear hK K; first | apply hK | (clear hK K; apply hK)))); clear hK K) | (simp (disch := omega) only [wr, drop_at, str_at, int_at, Int.reduceSub, Int.reduceAdd, Int.reduceToNat, Int.toNat_zero]) | fail)
  all_goals (first | refine res_tmp rfl (by simp [D.plain, plains]) (by simp) ?_ | refine res_at rfl (by simp [D.plain, plains]) (by simp) ?_ | refine res_two rfl (by simp [D.plain, plains]) (by simp) ?_ | refine res_three rfl (by simp [D.plain, plains]) (by simp) ?_ | skip)
  all_goals simp_all [joinW]

theorem ok_arms {x : ArmsV} (h : okArms x = true) : okField x.fd x.fl x.ff x.fs = true ∧ (noGroup x.c2 x.k2 x.a2 x.t2 = false → okGroup x.c2 x.k2 x.a2 x.t2 = true) ∧
    ((x.o = 0 ∧ noGroup x.c1 x.k1 x.a1 x.t1 = true) ∨ ((1 ≤ x.o ∧ x.o ≤ 7) ∧ (0 ≤ x.l ∧ x.l ≤ 4) ∧ (1 ≤ x.t ∧ x.t ≤ 9) ∧ (noGroup x.c1 x.k1 x.a1 x.t1 = false → okGroup x.c1 x.k1 x.a1 x.t1 = true))) := by
  simp only [okArms, okGroupN, Bool.and_eq_true, Bool.or_eq_true] at h
  obtain ⟨⟨h1, h2⟩, h3⟩ := h
  refine ⟨h1, fun e => ?_, ?_⟩
  · rcases h2 with h2 | h2
    · rw [e] at h2; cases h2
    · exact h2
  · split at h3
    · rename_i h0
      simp only [Bool.and_eq_true] at h3
      exact .inl ⟨h0, h3.2⟩
    · simp only [Bool.and_eq_true, inR_iff, Bool.or_eq_true] at h3
      refine .inr ⟨h3.1.1.1, h3.1.1.2, h3.1.2, fun e => ?_⟩
      rcases h3.2 with h4 | h4
      · rw [e] at h4; cases h4
      · exact h4

def joinedF (f o n a : ByteArray) (c : Bool) : ByteArray :=
  if o = ⟨#[]⟩ then (if a = ⟨#[]⟩ then f else f ++ ⟨#[44, 32]⟩ ++ a)
  else
    let s := if n = ⟨#[]⟩ then f ++ (⟨#[44, 32]⟩ ++ o) else f ++ (⟨#[44, 32]⟩ ++ o) ++ (⟨#[32, 99, 104, 97, 114, 103, 101, 100, 32, 119, 105, 116, 104, 32]⟩ ++ n)
    if a = ⟨#[]⟩ then s else if c then s ++ ⟨#[32, 97, 98, 111, 118, 101, 32]⟩ ++ a else s ++ ⟨#[32, 98, 101, 116, 119, 101, 101, 110, 32]⟩ ++ a

set_option maxRecDepth 100000 in
set_option maxHeartbeats 4000000 in
theorem joined_fn (f o n a : ByteArray) (c : Bool) (z1 : f.size ≤ 1000) (z2 : o.size ≤ 1000) (z3 : n.size ≤ 1000) (z4 : a.size ≤ 1000) : FnD Try.prog 97 [.ag [.str f, .str o, .str n, .str a, .bool c]] (.str (joinedF f o n a c)) := by
  refine fn_go Try.func97 rfl rfl Try.ntmps97 Try.results97 (by simp only [slotsOf, argAV, List.map_cons, List.map_nil, Nat.reduceAdd]; rfl) (by simp) ?_
  repeat' (first | (with_reducible first | refine aw_seq fun K hK => ?_ | refine aw_region (by kernel_rfl) ?_ | refine aw_condk ?_ | refine aw_block ?_) | ((with_reducible refine evg ?_); simp only [go_sem, ↓reduceIte, Nat.reduceEqDiff, Nat.reduceBEq, Nat.reduceAdd, Nat.reduceMul, Nat.reduceSub, Nat.reduceLT, Nat.reduceLeDiff]) | ((with_reducible refine ev_guard ?_); (with_reducible first | refine guard_t ?_ ?_ rfl | refine guard_f ?_ ?_ rfl) <;> (intro h; (try simp only [h]); (try simp only [nrm] at h))) | ((with_reducible refine ck_split (fun h => ?_) (fun h => ?_)) <;> (try simp only [nrm] at h)) | ((with_reducible refine And.intro ?_ ?_); (first | omega | focus (simp; done) | focus (simp; omega) | focus ((repeat' (with_reducible refine And.intro ?_ ?_)) <;> first | omega | rfl | (simp only [go_sem, refsL_app, refs_dmap] <;> fail) | (simp [refsL_app, refs_dmap, AV.refsL, AV.refs] <;> omega)))) | ((with_reducible first | apply hK | (clear hK K; first | apply hK | (clear hK K; first | apply hK | (clear hK K; apply hK)))); clear hK K) | (simp (disch := omega) only [wr, drop_at, str_at, int_at, Int.reduceSub, Int.reduceAdd, Int.reduceToNat, Int.toNat_zero]) | fail)
  all_goals (first | refine res_tmp rfl (by simp [D.plain, plains]) (by simp) ?_ | refine res_at rfl (by simp [D.plain, plains]) (by simp) ?_ | refine res_two rfl (by simp [D.plain, plains]) (by simp) ?_ | refine res_three rfl (by simp [D.plain, plains]) (by simp) ?_ | skip)
  all_goals simp_all [joinedF]

def ordS (x : ArmsV) : ByteArray := if x.o = 0 then ⟨#[]⟩ else ordText x.o x.l ++ ⟨#[32]⟩ ++ tincWord x.t

def groupS (c k a t : Int) : ByteArray := if noGroup c k a t = true then ⟨#[]⟩ else groupText c k a t

theorem ordS_size (x : ArmsV) : (ordS x).size ≤ 40 := by
  have z2 := ordText_size x.o x.l
  have z3 := tincWord_size x.t
  have e : ({ data := #[32] } : ByteArray).size = 1 := rfl
  unfold ordS
  split
  · decide
  · simp only [ByteArray.size_append]; omega

theorem groupS_size (c k a t : Int) : (groupS c k a t).size ≤ 40 := by
  have z2 := groupText_size c k a t
  unfold groupS
  split
  · decide
  · omega

set_option maxRecDepth 100000 in
theorem pl_ArmsText3_58_1 (l : List Oper) (h : l = opsOf Try.f58 1) : planB l (.pure 0 (.pure 1 (.pure 3 (.pure 4 (.pure 5 (.two 2 (.pure 6 (.one 7 PT.fin)) 7 (.one 2 (.pure 6 PT.fin)))))))) [8] = true := by
  subst h
  kernel_rfl

set_option maxRecDepth 100000 in
theorem pl_ArmsText3_58_3 (l : List Oper) (h : l = opsOf Try.f58 3) : planB l (.pure 0 (.pure 1 (.pure 2 (.pure 3 (.pure 6 (.pure 7 (.one 4 (.pure 5 (.one 8 (.pure 9 (.pure 10 PT.fin))))))))))) [11] = true := by
  subst h
  kernel_rfl

set_option maxRecDepth 100000 in
set_option maxHeartbeats 4000000 in
theorem pieces_fn (x : ArmsV) (h : okArms x = true) : FnD Try.prog 58 [x.d] (.ag [.str (fieldText x.fd x.fl x.ff x.fs), .str (ordS x), .str (groupS x.c1 x.k1 x.a1 x.t1), .str (groupS x.c2 x.k2 x.a2 x.t2), .bool (x.o == 7)]) := by
  obtain ⟨hf, ha, ho⟩ := ok_arms h
  clear h
  have z2 := ordText_size x.o x.l
  have z3 := tincWord_size x.t
  cases e2 : noGroup x.c2 x.k2 x.a2 x.t2
  all_goals
    have n2 := e2
    simp only [noGroup] at n2
    rcases ho with ⟨h0, e1⟩ | ⟨h0, hl, ht, hg⟩
    · have n1 := e1
      simp only [noGroup] at n1
      first | have hk2 := ha e2 | skip
      refine fn_go Try.func58 rfl rfl Try.ntmps58 Try.results58 (by simp only [slotsOf, argAV, List.map_cons, List.map_nil, Nat.reduceAdd]; rfl) (by simp) ?_
      repeat' (first | (with_reducible first | refine aw_seq fun K hK => ?_ | refine aw_region (by kernel_rfl) ?_ | refine aw_condk ?_ | refine aw_block ?_) | ((with_reducible refine ev_aw ?_); first | (refine aw_draw (id := 1) (by kernel_rfl) _ _ (by kernel_rfl) (pl_ArmsText3_58_1 _ (by kernel_rfl)) ?_) | (refine aw_draw (id := 3) (by kernel_rfl) _ _ (by kernel_rfl) (pl_ArmsText3_58_3 _ (by kernel_rfl)) ?_)) | (with_reducible first | refine ru_four ?_ ?_ ?_ ?_ | refine ru_three ?_ ?_ ?_ | refine ru_two ?_ ?_ | refine rv_split ?_ ?_ | refine rv_two ?_ ?_ | refine rp_two ?_ ?_) | ((with_reducible refine evg ?_); simp only [go_sem, St.clean, cleanO, ↓reduceIte, Nat.reduceEqDiff, Nat.reduceBEq, Nat.reduceAdd, Nat.reduceMul, Nat.reduceSub, Nat.reduceLT, Nat.reduceLeDiff]) | (simp (disch := omega) only [wr, drop_at, str_at, int_at, Int.reduceSub, Int.reduceAdd, Int.reduceToNat, Int.toNat_zero, n1, n2]) | ((with_reducible refine ev_call ?_); (first | (refine call_fn (fieldText_fn _ _ _ _ hf) rfl ?_) | (refine call_fn (groupText_fn _ _ _ _ hk2) rfl ?_)); refine k_run ?_) | ((with_reducible refine ev_guard ?_); (with_reducible first | refine guard_t ?_ ?_ rfl | refine guard_f ?_ ?_ rfl) <;> (intro h; (try simp only [h]); (try simp only [nrm] at h) <;> (try ((with_reducible exfalso); omega)))) | ((with_reducible refine ck_split (fun h => ?_) (fun h => ?_)) <;> (try simp only [nrm] at h) <;> (try ((with_reducible exfalso); omega))) | ((with_reducible refine And.intro ?_ ?_); (first | omega | focus (simp; done) | focus (simp; omega) | focus ((repeat' (with_reducible refine And.intro ?_ ?_)) <;> first | omega | rfl | (simp only [go_sem, refsL_app, refs_dmap] <;> fail) | (simp [refsL_app, refs_dmap, AV.refsL, AV.refs] <;> omega)))) | (with_reducible refine hJ _ (fun K hK => ?_) ?_ <;> clear hJ KJ) | ((with_reducible refine ev_less ?_); (refine ⟨rfl, ?_, ?_⟩ <;> simp only [go_sem, St.clean, cleanO, SubS, SubO, beq_self_eq_true, ↓reduceIte, Nat.reduceEqDiff, Nat.reduceBEq, Nat.reduceAdd, Nat.reduceMul, Nat.reduceSub, Nat.reduceLT, Nat.reduceLeDiff])) | ((with_reducible first | apply hK | (clear hK K; first | apply hK | (clear hK K; first | apply hK | (clear hK K; apply hK)))); clear hK K) | fail)
      all_goals (first | refine res_tmp rfl (by simp [D.plain, plains]) (by simp) ?_ | refine res_at rfl (by simp [D.plain, plains]) (by simp) ?_ | refine res_two rfl (by simp [D.plain, plains]) (by simp) ?_ | refine res_three rfl (by simp [D.plain, plains]) (by simp) ?_ | skip)
      all_goals simp_all [ordS, groupS]
    · cases e1 : noGroup x.c1 x.k1 x.a1 x.t1
      all_goals
        have n1 := e1
        simp only [noGroup] at n1
        first | have hk1 := hg e1 | skip
        first | have hk2 := ha e2 | skip
        have h0' : ¬ x.o = 0 := by omega
        refine fn_go Try.func58 rfl rfl Try.ntmps58 Try.results58 (by simp only [slotsOf, argAV, List.map_cons, List.map_nil, Nat.reduceAdd]; rfl) (by simp) ?_
        repeat' (first | (with_reducible first | refine aw_seq fun K hK => ?_ | refine aw_region (by kernel_rfl) ?_ | refine aw_condk ?_ | refine aw_block ?_) | ((with_reducible refine ev_aw ?_); first | (refine aw_draw (id := 1) (by kernel_rfl) _ _ (by kernel_rfl) (pl_ArmsText3_58_1 _ (by kernel_rfl)) ?_) | (refine aw_draw (id := 3) (by kernel_rfl) _ _ (by kernel_rfl) (pl_ArmsText3_58_3 _ (by kernel_rfl)) ?_)) | (with_reducible first | refine ru_four ?_ ?_ ?_ ?_ | refine ru_three ?_ ?_ ?_ | refine ru_two ?_ ?_ | refine rv_split ?_ ?_ | refine rv_two ?_ ?_ | refine rp_two ?_ ?_) | ((with_reducible refine evg ?_); simp only [go_sem, St.clean, cleanO, ↓reduceIte, Nat.reduceEqDiff, Nat.reduceBEq, Nat.reduceAdd, Nat.reduceMul, Nat.reduceSub, Nat.reduceLT, Nat.reduceLeDiff]) | (simp (disch := omega) only [wr, drop_at, str_at, int_at, Int.reduceSub, Int.reduceAdd, Int.reduceToNat, Int.toNat_zero, n1, n2]) | ((with_reducible refine ev_call ?_); (first | (refine call_fn (fieldText_fn _ _ _ _ hf) rfl ?_) | (refine call_fn (groupText_fn _ _ _ _ hk1) rfl ?_) | (refine call_fn (groupText_fn _ _ _ _ hk2) rfl ?_) | (refine call_fn (ordinaryStart_fn _ _ h0.1 h0.2 hl.1 hl.2) rfl ?_) | (refine call_fn (tincture_fn _ ht.1 ht.2) rfl ?_)); refine k_run ?_) | ((with_reducible refine ev_guard ?_); (with_reducible first | refine guard_t ?_ ?_ rfl | refine guard_f ?_ ?_ rfl) <;> (intro h; (try simp only [h]); (try simp only [nrm] at h) <;> (try ((with_reducible exfalso); omega)))) | ((with_reducible refine ck_split (fun h => ?_) (fun h => ?_)) <;> (try simp only [nrm] at h) <;> (try ((with_reducible exfalso); omega))) | ((with_reducible refine And.intro ?_ ?_); (first | omega | focus (simp; done) | focus (simp; omega) | focus ((repeat' (with_reducible refine And.intro ?_ ?_)) <;> first | omega | rfl | (simp only [go_sem, refsL_app, refs_dmap] <;> fail) | (simp [refsL_app, refs_dmap, AV.refsL, AV.refs] <;> omega)))) | (with_reducible refine hJ _ (fun K hK => ?_) ?_ <;> clear hJ KJ) | ((with_reducible refine ev_less ?_); (refine ⟨rfl, ?_, ?_⟩ <;> simp only [go_sem, St.clean, cleanO, SubS, SubO, beq_self_eq_true, ↓reduceIte, Nat.reduceEqDiff, Nat.reduceBEq, Nat.reduceAdd, Nat.reduceMul, Nat.reduceSub, Nat.reduceLT, Nat.reduceLeDiff])) | ((with_reducible first | apply hK | (clear hK K; first | apply hK | (clear hK K; first | apply hK | (clear hK K; apply hK)))); clear hK K) | fail)
        all_goals (first | refine res_tmp rfl (by simp [D.plain, plains]) (by simp) ?_ | refine res_at rfl (by simp [D.plain, plains]) (by simp) ?_ | refine res_two rfl (by simp [D.plain, plains]) (by simp) ?_ | refine res_three rfl (by simp [D.plain, plains]) (by simp) ?_ | skip)
        all_goals first | (simp_all [ordS, groupS]; done) | omega

end Go.Proofs.Yteimddagjikcaaa
