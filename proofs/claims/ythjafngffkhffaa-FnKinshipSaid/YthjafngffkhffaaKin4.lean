/- The law of kinship. -/
import Derived.Test.YthjafngffkhffaaKin3
import Derived.Test.YthjafngffkhffaaFam7
import Derived.WalkKit
import Derived.WalkSpells
import Derived.KernelRfl
namespace Go.Proofs.Ythjafngffkhffaa
open Go.RowKit
set_option linter.unusedVariables false
set_option linter.unusedSimpArgs false

attribute [local go_sem] PerV.d PerV.cs perL famD intL

attribute [local simp] refs_dmap perC_all perC_plains ints_plain ints_all ints_all1 ints_plain_take

def kinZ (l : List PerV) (a b : Int) : Int × Int × Bool := if askF l a && askF l b then kinR (bfsI l a) (bfsI l b) else (0, 0, false)

set_option maxRecDepth 100000 in
set_option maxHeartbeats 4000000 in
theorem kinshipOf_sno (l : List PerV) (a b : Int) (hl : l.length ≤ 1048576) (h : (askF l a && askF l b) = false) : FnD Try.prog 28 [famD l, .int a, .int b] (.tu [.int 0, .int 0, .bool false]) := by
  have e1 := l18Asked_fn l a (by omega)
  have e2 := l18Asked_fn l b (by omega)
  cases ha : askF l a
  all_goals
    cases hb : askF l b
    all_goals
      rw [ha] at e1
      rw [hb] at e2
      first
        | (rw [ha, hb] at h; cases h; done)
        | (refine fn_go Try.func28 rfl rfl Try.ntmps28 Try.results28 (by simp only [slotsOf, argAV, List.map_cons, List.map_nil, Nat.reduceAdd]; rfl) (by simp) ?_
           repeat' (first | (with_reducible first | refine aw_seq fun K hK => ?_ | refine aw_region (by kernel_rfl) ?_ | refine aw_condk ?_ | refine aw_block ?_) | ((with_reducible refine ev_aw ?_); first | (refine aw_draw (id := 7) (by kernel_rfl) _ _ (by kernel_rfl) (pl_KinS_28_7 _ (by kernel_rfl)) ?_)) | (with_reducible first | refine ru_four ?_ ?_ ?_ ?_ | refine ru_three ?_ ?_ ?_ | refine ru_two ?_ ?_ | refine rv_split ?_ ?_ | refine rv_two ?_ ?_ | refine rp_two ?_ ?_) | ((with_reducible refine evg ?_); simp only [go_sem, St.clean, cleanO, ↓reduceIte, Nat.reduceEqDiff, Nat.reduceBEq, Nat.reduceAdd, Nat.reduceMul, Nat.reduceSub, Nat.reduceLT, Nat.reduceLeDiff]) | ((with_reducible refine ev_call ?_); (first | (refine call_fn e1 rfl ?_) | (refine call_fn e2 rfl ?_)); refine k_run ?_) | ((with_reducible refine ev_guard ?_); (with_reducible first | refine guard_t ?_ ?_ rfl | refine guard_f ?_ ?_ rfl) <;> (intro h; (try simp only [h]); (try simp only [nrm] at h))) | ((with_reducible refine ck_split (fun h => ?_) (fun h => ?_)) <;> (try simp only [nrm] at h)) | ((with_reducible refine And.intro ?_ ?_); (first | omega | focus (simp; done) | focus (simp; omega) | focus ((repeat' (with_reducible refine And.intro ?_ ?_)) <;> first | omega | rfl | (simp only [go_sem, refsL_app, refs_dmap] <;> fail) | (simp [refsL_app, refs_dmap, AV.refsL, AV.refs] <;> omega)))) | (with_reducible refine hJ _ (fun K hK => ?_) ?_ <;> clear hJ KJ) | ((with_reducible refine ev_less ?_); (refine ⟨rfl, ?_, ?_⟩ <;> simp only [go_sem, St.clean, cleanO, SubS, SubO, beq_self_eq_true, ↓reduceIte, Nat.reduceEqDiff, Nat.reduceBEq, Nat.reduceAdd, Nat.reduceMul, Nat.reduceSub, Nat.reduceLT, Nat.reduceLeDiff])) | ((with_reducible first | apply hK | (clear hK K; first | apply hK | (clear hK K; first | apply hK | (clear hK K; apply hK)))); clear hK K) | (simp (disch := omega) only [wr, drop_at, str_at, int_at, Int.reduceSub, Int.reduceAdd, Int.reduceToNat, Int.toNat_zero]) | fail)
           all_goals (first | refine res_tmp rfl (by simp [D.plain, plains]) (by simp) ?_ | refine res_at rfl (by simp [D.plain, plains]) (by simp) ?_ | refine res_two rfl (by simp [D.plain, plains]) (by simp) ?_ | refine res_three rfl (by simp [D.plain, plains]) (by simp) ?_ | skip)
           all_goals rfl)

theorem implKin_fn (l : List PerV) (a b : Int) (hl : l.length ≤ 1048576) : FnD Try.prog 29 [famD l, .int a, .int b] (.tu [.int (kinZ l a b).1, .int (kinZ l a b).2.1, .bool (kinZ l a b).2.2]) := by
  unfold kinZ
  cases h : askF l a && askF l b
  · exact kinshipOf_no l a b (by omega) h
  · rw [Bool.and_eq_true] at h
    exact kinshipOf_yes l a b hl h.1 h.2

theorem specKin_fn (l : List PerV) (a b : Int) (hl : l.length ≤ 1048576) : FnD Try.prog 28 [famD l, .int a, .int b] (.tu [.int (kinZ l a b).1, .int (kinZ l a b).2.1, .bool (kinZ l a b).2.2]) := by
  unfold kinZ
  cases h : askF l a && askF l b
  · exact kinshipOf_sno l a b hl h
  · rw [Bool.and_eq_true] at h
    have h1 := kinshipOf_s l a b hl h.1 h.2
    obtain ⟨hok, ha⟩ := askF_iff.1 h.1
    rw [if_pos rfl, kin_same hok ha (askF_iff.1 h.2).2]
    unfold kinO
    by_cases hx : (kinS l a b l.length).1 < 0
    · rw [if_pos hx] at h1 ⊢
      exact h1
    · rw [if_neg hx] at h1 ⊢
      exact h1

end Go.Proofs.Ythjafngffkhffaa
