/- The reference's l18Steps: the smallest number of steps up from one person to another, or -1. -/
import Derived.Test.YthjafngffkhffaaOkL
import Derived.WalkKit
import Derived.WalkSpells
import Derived.KernelRfl
namespace Go.Proofs.Ythjafngffkhffaa
open Go.RowKit
set_option linter.unusedVariables false
set_option linter.unusedSimpArgs false

attribute [local go_sem] PerV.d PerV.cs perL famD intL

attribute [local simp] perC_all perC_plains ints_plain ints_all ints_all1 ints_plain_take

def stpJ (a b : Int) : Int := if (if a < 0 ∨ (0 ≤ b ∧ b < a) then b else a) < 0 then -1 else (if a < 0 ∨ (0 ≤ b ∧ b < a) then b else a) + 1

def stpF (l : List PerV) : Nat → Int → Int → Int
  | 0, _, _ => -1
  | n + 1, id, to => if id = to then 0 else if (perOf l id).one = 0 then -1 else stpJ (stpF l n (perOf l id).one to) (stpF l n (perOf l id).two to)

theorem stpF_le (l : List PerV) : ∀ (n : Nat) (id to : Int), -1 ≤ stpF l n id to ∧ stpF l n id to ≤ n
  | 0, _, _ => by simp [stpF]
  | n + 1, id, to => by
    have h1 := stpF_le l n (perOf l id).one to
    have h2 := stpF_le l n (perOf l id).two to
    rw [stpF]
    unfold stpJ
    split
    · omega
    · split
      · omega
      · split
        · omega
        · split at * <;> omega

set_option maxRecDepth 100000 in
theorem pl_Stp_69_3 (l : List Oper) (h : l = opsOf Try.f69 3) : planB l (.pure 0 (.pure 1 (.pure 2 (.pure 3 (.two 4 (.pure 5 (.pure 6 (.one 7 PT.fin))) 7 (.one 4 (.pure 5 (.pure 6 PT.fin)))))))) [8] = true := by
  subst h
  kernel_rfl

set_option maxRecDepth 100000 in
theorem pl_Stp_69_6 (l : List Oper) (h : l = opsOf Try.f69 6) : planB l (.pure 0 (.pure 1 (.pure 2 (.pure 3 (.pure 5 (.pure 6 (.pure 7 (.pure 8 (.one 4 (.one 9 (.pure 10 (.pure 11 PT.fin)))))))))))) [] = true := by
  subst h
  kernel_rfl

set_option maxRecDepth 100000 in
set_option maxHeartbeats 4000000 in
theorem l18Steps_fn (l : List PerV) (hok : okFam l = true) (to : Int) : ∀ (n : Nat) (id : Int), n ≤ 100000 → upG l n id → FnD Try.prog 69 [famD l, .int id, .int to] (.int (stpF l n id to)) := by
  intro n
  induction n with
  | zero => exact fun id _ h => absurd h (upG_zero hok id)
  | succ n ih =>
    intro id hn hG
    have hl := okFam_len hok
    obtain ⟨hid, q2⟩ := upG_next hok n id hG
    have e1 := l18Find_fn l id (by omega)
    obtain ⟨h1, h2, h3⟩ := findP_lt (l := l) (id := id) (by omega)
    obtain ⟨j, hj⟩ := Int.eq_ofNat_of_zero_le hid
    have hp : perOf l id = l.getD j PerV.zero := by rw [perOf, hj]; rfl
    have hj2 : j < l.length := by omega
    rw [hj] at e1
    by_cases ht : id = to
    · rw [stpF, if_pos ht]
      refine fn_go Try.func69 rfl rfl Try.ntmps69 Try.results69 (by simp only [slotsOf, argAV, List.map_cons, List.map_nil, Nat.reduceAdd]; rfl) (by simp) ?_
      repeat' (first | (with_reducible first | refine aw_seq fun K hK => ?_ | refine aw_region (by kernel_rfl) ?_ | refine aw_condk ?_ | refine aw_block ?_) | ((with_reducible refine ev_aw ?_); first | (refine aw_draw (id := 3) (by kernel_rfl) _ _ (by kernel_rfl) (pl_Stp_69_3 _ (by kernel_rfl)) ?_) | (refine aw_draw (id := 6) (by kernel_rfl) _ _ (by kernel_rfl) (pl_Stp_69_6 _ (by kernel_rfl)) ?_)) | (with_reducible first | refine ru_four ?_ ?_ ?_ ?_ | refine ru_three ?_ ?_ ?_ | refine ru_two ?_ ?_ | refine rv_split ?_ ?_ | refine rv_two ?_ ?_ | refine rp_two ?_ ?_) | ((with_reducible refine evg ?_); simp only [go_sem, St.clean, cleanO, ↓reduceIte, Nat.reduceEqDiff, Nat.reduceBEq, Nat.reduceAdd, Nat.reduceMul, Nat.reduceSub, Nat.reduceLT, Nat.reduceLeDiff]) | (simp (disch := omega) only [wr, drop_at, str_at, int_at, Int.reduceSub, Int.reduceAdd, Int.reduceToNat, Int.toNat_zero, per_at, wr]) | ((with_reducible refine ev_call ?_); (first | (refine call_fn e1 rfl ?_)); refine k_run ?_) | ((with_reducible refine ev_guard ?_); (with_reducible first | refine guard_t ?_ ?_ rfl | refine guard_f ?_ ?_ rfl) <;> (intro h; (try simp only [h]); (try simp only [nrm] at h) <;> (try ((with_reducible exfalso); omega)))) | ((with_reducible refine ck_split (fun h => ?_) (fun h => ?_)) <;> (try simp only [nrm] at h) <;> (try ((with_reducible exfalso); omega))) | ((with_reducible refine And.intro ?_ ?_); (first | omega | focus (simp; done) | focus (simp; omega) | focus ((repeat' (with_reducible refine And.intro ?_ ?_)) <;> first | omega | rfl | (simp only [go_sem, refsL_app, refs_dmap] <;> fail) | (simp [refsL_app, refs_dmap, AV.refsL, AV.refs] <;> omega)))) | (with_reducible refine hJ _ (fun K hK => ?_) ?_ <;> clear hJ KJ) | ((with_reducible refine ev_less ?_); (refine ⟨rfl, ?_, ?_⟩ <;> simp only [go_sem, St.clean, cleanO, SubS, SubO, beq_self_eq_true, ↓reduceIte, Nat.reduceEqDiff, Nat.reduceBEq, Nat.reduceAdd, Nat.reduceMul, Nat.reduceSub, Nat.reduceLT, Nat.reduceLeDiff])) | ((with_reducible first | apply hK | (clear hK K; first | apply hK | (clear hK K; first | apply hK | (clear hK K; apply hK)))); clear hK K) | fail)
      all_goals (first | refine res_tmp rfl (by simp [D.plain, plains]) (by simp) ?_ | refine res_at rfl (by simp [D.plain, plains]) (by simp) ?_ | refine res_two rfl (by simp [D.plain, plains]) (by simp) ?_ | refine res_three rfl (by simp [D.plain, plains]) (by simp) ?_ | skip)
      all_goals first | rfl | omega
    rw [stpF, if_neg ht, hp]
    by_cases h0 : (l.getD j PerV.zero).one = 0
    · rw [if_pos h0]
      refine fn_go Try.func69 rfl rfl Try.ntmps69 Try.results69 (by simp only [slotsOf, argAV, List.map_cons, List.map_nil, Nat.reduceAdd]; rfl) (by simp) ?_
      repeat' (first | (with_reducible first | refine aw_seq fun K hK => ?_ | refine aw_region (by kernel_rfl) ?_ | refine aw_condk ?_ | refine aw_block ?_) | ((with_reducible refine ev_aw ?_); first | (refine aw_draw (id := 3) (by kernel_rfl) _ _ (by kernel_rfl) (pl_Stp_69_3 _ (by kernel_rfl)) ?_) | (refine aw_draw (id := 6) (by kernel_rfl) _ _ (by kernel_rfl) (pl_Stp_69_6 _ (by kernel_rfl)) ?_)) | (with_reducible first | refine ru_four ?_ ?_ ?_ ?_ | refine ru_three ?_ ?_ ?_ | refine ru_two ?_ ?_ | refine rv_split ?_ ?_ | refine rv_two ?_ ?_ | refine rp_two ?_ ?_) | ((with_reducible refine evg ?_); simp only [go_sem, St.clean, cleanO, ↓reduceIte, Nat.reduceEqDiff, Nat.reduceBEq, Nat.reduceAdd, Nat.reduceMul, Nat.reduceSub, Nat.reduceLT, Nat.reduceLeDiff]) | (simp (disch := omega) only [wr, drop_at, str_at, int_at, Int.reduceSub, Int.reduceAdd, Int.reduceToNat, Int.toNat_zero, per_at, wr]) | ((with_reducible refine ev_call ?_); (first | (refine call_fn e1 rfl ?_)); refine k_run ?_) | ((with_reducible refine ev_guard ?_); (with_reducible first | refine guard_t ?_ ?_ rfl | refine guard_f ?_ ?_ rfl) <;> (intro h; (try simp only [h]); (try simp only [nrm] at h) <;> (try ((with_reducible exfalso); omega)))) | ((with_reducible refine ck_split (fun h => ?_) (fun h => ?_)) <;> (try simp only [nrm] at h) <;> (try ((with_reducible exfalso); omega))) | ((with_reducible refine And.intro ?_ ?_); (first | omega | focus (simp; done) | focus (simp; omega) | focus ((repeat' (with_reducible refine And.intro ?_ ?_)) <;> first | omega | rfl | (simp only [go_sem, refsL_app, refs_dmap] <;> fail) | (simp [refsL_app, refs_dmap, AV.refsL, AV.refs] <;> omega)))) | (with_reducible refine hJ _ (fun K hK => ?_) ?_ <;> clear hJ KJ) | ((with_reducible refine ev_less ?_); (refine ⟨rfl, ?_, ?_⟩ <;> simp only [go_sem, St.clean, cleanO, SubS, SubO, beq_self_eq_true, ↓reduceIte, Nat.reduceEqDiff, Nat.reduceBEq, Nat.reduceAdd, Nat.reduceMul, Nat.reduceSub, Nat.reduceLT, Nat.reduceLeDiff])) | ((with_reducible first | apply hK | (clear hK K; first | apply hK | (clear hK K; first | apply hK | (clear hK K; apply hK)))); clear hK K) | fail)
      all_goals (first | refine res_tmp rfl (by simp [D.plain, plains]) (by simp) ?_ | refine res_at rfl (by simp [D.plain, plains]) (by simp) ?_ | refine res_two rfl (by simp [D.plain, plains]) (by simp) ?_ | refine res_three rfl (by simp [D.plain, plains]) (by simp) ?_ | skip)
      all_goals first | rfl | omega
    · rw [if_neg h0]
      have hpar : parI l id = [(l.getD j PerV.zero).one, (l.getD j PerV.zero).two] := by rw [parI, hp, if_neg h0]
      rw [hpar] at q2
      have e2 := ih (l.getD j PerV.zero).one (by omega) (q2 _ (by simp))
      have e3 := ih (l.getD j PerV.zero).two (by omega) (q2 _ (by simp))
      have b2 := stpF_le l n (l.getD j PerV.zero).one to
      have b3 := stpF_le l n (l.getD j PerV.zero).two to
      generalize stpF l n (l.getD j PerV.zero).one to = u at *
      generalize stpF l n (l.getD j PerV.zero).two to = v at *
      refine fn_go Try.func69 rfl rfl Try.ntmps69 Try.results69 (by simp only [slotsOf, argAV, List.map_cons, List.map_nil, Nat.reduceAdd]; rfl) (by simp) ?_
      repeat' (first | (with_reducible first | refine aw_seq fun K hK => ?_ | refine aw_region (by kernel_rfl) ?_ | refine aw_condk ?_ | refine aw_block ?_) | ((with_reducible refine ev_aw ?_); first | (refine aw_draw (id := 3) (by kernel_rfl) _ _ (by kernel_rfl) (pl_Stp_69_3 _ (by kernel_rfl)) ?_) | (refine aw_draw (id := 6) (by kernel_rfl) _ _ (by kernel_rfl) (pl_Stp_69_6 _ (by kernel_rfl)) ?_)) | (with_reducible first | refine ru_four ?_ ?_ ?_ ?_ | refine ru_three ?_ ?_ ?_ | refine ru_two ?_ ?_ | refine rv_split ?_ ?_ | refine rv_two ?_ ?_ | refine rp_two ?_ ?_) | ((with_reducible refine evg ?_); simp only [go_sem, St.clean, cleanO, ↓reduceIte, Nat.reduceEqDiff, Nat.reduceBEq, Nat.reduceAdd, Nat.reduceMul, Nat.reduceSub, Nat.reduceLT, Nat.reduceLeDiff]) | (simp (disch := omega) only [wr, drop_at, str_at, int_at, Int.reduceSub, Int.reduceAdd, Int.reduceToNat, Int.toNat_zero, per_at, wr]) | ((with_reducible refine ev_call ?_); (first | (refine call_fn e1 rfl ?_) | (refine call_fn e2 rfl ?_) | (refine call_fn e3 rfl ?_)); refine k_run ?_) | ((with_reducible refine ev_guard ?_); (with_reducible first | refine guard_t ?_ ?_ rfl | refine guard_f ?_ ?_ rfl) <;> (intro h; (try simp only [h]); (try simp only [nrm] at h) <;> (try ((with_reducible exfalso); omega)))) | ((with_reducible refine ck_split (fun h => ?_) (fun h => ?_)) <;> (try simp only [nrm] at h) <;> (try ((with_reducible exfalso); omega))) | ((with_reducible refine And.intro ?_ ?_); (first | omega | focus (simp; done) | focus (simp; omega) | focus ((repeat' (with_reducible refine And.intro ?_ ?_)) <;> first | omega | rfl | (simp only [go_sem, refsL_app, refs_dmap] <;> fail) | (simp [refsL_app, refs_dmap, AV.refsL, AV.refs] <;> omega)))) | (with_reducible refine hJ _ (fun K hK => ?_) ?_ <;> clear hJ KJ) | ((with_reducible refine ev_less ?_); (refine ⟨rfl, ?_, ?_⟩ <;> simp only [go_sem, St.clean, cleanO, SubS, SubO, beq_self_eq_true, ↓reduceIte, Nat.reduceEqDiff, Nat.reduceBEq, Nat.reduceAdd, Nat.reduceMul, Nat.reduceSub, Nat.reduceLT, Nat.reduceLeDiff])) | ((with_reducible first | apply hK | (clear hK K; first | apply hK | (clear hK K; first | apply hK | (clear hK K; apply hK)))); clear hK K) | fail)
      all_goals (first | refine res_tmp rfl (by simp [D.plain, plains]) (by simp) ?_ | refine res_at rfl (by simp [D.plain, plains]) (by simp) ?_ | refine res_two rfl (by simp [D.plain, plains]) (by simp) ?_ | refine res_three rfl (by simp [D.plain, plains]) (by simp) ?_ | skip)
      all_goals
        unfold stpJ
        refine congrArg D.int ?_
        by_cases hP : u < 0 ∨ 0 ≤ v ∧ v < u
        · rw [if_pos hP]
          split <;> omega
        · rw [if_neg hP]
          split <;> omega

end Go.Proofs.Ythjafngffkhffaa
