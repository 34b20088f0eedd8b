/- Persons of a valid family; places among the children. -/
import Derived.Test.YtdeobicgildamaaGreatDoorFam4
import Derived.WalkKit
import Derived.WalkSpells
import Derived.KernelRfl
namespace Go.Proofs.YtdeobicgildamaaGreatDoor
open Go.RowKit
set_option linter.unusedVariables false
set_option linter.unusedSimpArgs false

attribute [local go_sem] PerV.d PerV.cs perL famD intL

attribute [local simp] perC_all perC_plains ints_plain ints_all ints_all1 ints_plain_take

def askF (l : List PerV) (id : Int) : Bool := okFam l && decide (0 ≤ findP l id)

def perOf (l : List PerV) (id : Int) : PerV := l.getD (findP l id).toNat PerV.zero

theorem askF_iff {l : List PerV} {id : Int} : askF l id = true ↔ okFam l = true ∧ 0 ≤ findP l id := by simp [askF]

theorem okFam_lt {l : List PerV} (h : okFam l = true) {i j : Nat} (hij : i < j) (hj : j < l.length) : (l.getD i PerV.zero).id < (l.getD j PerV.zero).id := by
  induction j with
  | zero => omega
  | succ j ih =>
    have h1 := (okAt_iff.1 (okFam_at h hj)).2.1
    simp only [Nat.add_sub_cancel] at h1
    have h2 : (l.getD j PerV.zero).id < (l.getD (j + 1) PerV.zero).id := by
      rcases h1 with h1 | h1
      · omega
      · exact h1
    by_cases e : i = j
    · subst e
      exact h2
    · have := ih (by omega) (by omega)
      omega

theorem findP_self {l : List PerV} (h : okFam l = true) {i : Nat} (hi : i < l.length) : findP l (l.getD i PerV.zero).id = i := by
  refine idxR_at PerV.zero hi ?_ (decide_eq_true rfl)
  rw [List.all_eq_true]
  intro x hx
  rw [List.mem_take_iff_getElem] at hx
  obtain ⟨j, hj, rfl⟩ := hx
  have := okFam_lt h (show j < i by omega) hi
  rw [getD_eq _ (by omega : j < l.length)] at this
  have e : ¬ (l[j]'(by omega)).id = (l.getD i PerV.zero).id := by omega
  rw [decide_eq_false e]
  rfl

theorem perOf_mem {l : List PerV} (h : okFam l = true) {x : PerV} (hx : x ∈ l) : perOf l x.id = x ∧ 0 ≤ findP l x.id := by
  obtain ⟨i, hi, rfl⟩ := List.mem_iff_getElem.1 hx
  rw [← getD_eq PerV.zero hi, perOf, findP_self h hi]
  exact ⟨rfl, by omega⟩

theorem perOf_id {l : List PerV} {id : Int} (h : 0 ≤ findP l id) : (perOf l id).id = id := (findP_lt (by omega)).2.1

theorem perOf_in {l : List PerV} {id : Int} (h : 0 ≤ findP l id) : perOf l id ∈ l := getD_mem _ (findP_lt (by omega)).1

theorem parents_in {l : List PerV} {id : Int} (h : okFam l = true) (hid : 0 ≤ findP l id) (h0 : ¬ (perOf l id).one = 0) : 0 ≤ findP l (perOf l id).one ∧ 0 ≤ findP l (perOf l id).two ∧ (perOf l (perOf l id).one).born + 15 ≤ (perOf l id).born ∧ (perOf l (perOf l id).two).born + 15 ≤ (perOf l id).born := by
  have h1 := (okAt_iff.1 (okFam_at h (findP_lt (id := id) (by omega)).1)).2.2
  rcases h1 with h1 | ⟨_, h2, h3⟩
  · exact absurd h1.1 h0
  · simp only [mayG] at h2 h3
    split at h2
    · cases h2
    split at h3
    · cases h3
    rename_i q1 q2
    simp only [parB, Bool.and_eq_true, decide_eq_true_eq] at h2 h3
    refine ⟨?_, ?_, ?_, ?_⟩
    · unfold perOf; omega
    · unfold perOf; omega
    · have := h2.1
      unfold perOf
      omega
    · have := h3.1
      unfold perOf
      omega

theorem two_zero {l : List PerV} {id : Int} (h : okFam l = true) (hid : 0 ≤ findP l id) (h0 : (perOf l id).one = 0) : (perOf l id).two = 0 := by
  have h1 := (okAt_iff.1 (okFam_at h (findP_lt (id := id) (by omega)).1)).2.2
  rcases h1 with h1 | ⟨_, h2, _⟩
  · exact h1.2
  · exfalso
    unfold perOf at h0
    simp only [mayG, h0] at h2
    split at h2
    · cases h2
    · rename_i q
      have q2 := (findP_lt q).2.1
      have q3 := okFam_mem h (getD_mem PerV.zero (findP_lt q).1)
      simp only [okPer, Bool.and_eq_true, inR_iff] at q3
      omega

set_option maxRecDepth 100000 in
set_option maxHeartbeats 4000000 in
theorem l18Asked_fn (l : List PerV) (id : Int) (hl : l.length ≤ 9223372036854775807) : FnD Tryz.prog 51 [famD l, .int id] (.bool (askF l id)) := by
  have e1 := l18Good_fn l hl
  have e2 := l18Find_fn l id hl
  cases g : okFam l
  all_goals
    rw [g] at e1
    refine fn_go Tryz.func51 rfl rfl Tryz.ntmps51 Tryz.results51 (by simp only [slotsOf, argAV, List.map_cons, List.map_nil, Nat.reduceAdd]; rfl) (by simp) ?_
    repeat' (first | (with_reducible first | refine aw_seq fun K hK => ?_ | refine aw_region (by kernel_rfl) ?_ | refine aw_condk ?_ | refine aw_block ?_) | ((with_reducible refine evg ?_); simp only [go_sem, ↓reduceIte, Nat.reduceEqDiff, Nat.reduceBEq, Nat.reduceAdd, Nat.reduceMul, Nat.reduceSub, Nat.reduceLT, Nat.reduceLeDiff]) | ((with_reducible refine ev_call ?_); (first | (refine call_fn e1 rfl ?_) | (refine call_fn e2 rfl ?_)); refine k_run ?_) | ((with_reducible refine ev_guard ?_); (with_reducible first | refine guard_t ?_ ?_ rfl | refine guard_f ?_ ?_ rfl) <;> (intro h; (try simp only [h]); (try simp only [nrm] at h))) | ((with_reducible refine ck_split (fun h => ?_) (fun h => ?_)) <;> (try simp only [nrm] at h)) | ((with_reducible refine And.intro ?_ ?_); (first | omega | focus (simp; done) | focus (simp; omega) | focus ((repeat' (with_reducible refine And.intro ?_ ?_)) <;> first | omega | rfl | (simp only [go_sem, refsL_app, refs_dmap] <;> fail) | (simp [refsL_app, refs_dmap, AV.refsL, AV.refs] <;> omega)))) | ((with_reducible first | apply hK | (clear hK K; first | apply hK | (clear hK K; first | apply hK | (clear hK K; apply hK)))); clear hK K) | (simp (disch := omega) only [wr, drop_at, str_at, int_at, Int.reduceSub, Int.reduceAdd, Int.reduceToNat, Int.toNat_zero]) | fail)
    (first | refine res_tmp rfl (by simp [D.plain, plains]) (by simp) ?_ | refine res_at rfl (by simp [D.plain, plains]) (by simp) ?_ | refine res_two rfl (by simp [D.plain, plains]) (by simp) ?_ | refine res_three rfl (by simp [D.plain, plains]) (by simp) ?_)
    simp [askF, g]

set_option maxRecDepth 100000 in
set_option maxHeartbeats 4000000 in
theorem has_fn (l : List PerV) (id : Int) (hl : l.length ≤ 9223372036854775807) : FnD Tryz.prog 36 [famD l, .int id] (.bool (askF l id)) := by
  have e1 := isValidFamily_fn l hl
  have e2 := person_fn l id hl
  cases g : okFam l
  all_goals
    rw [g] at e1
    refine fn_go Tryz.func36 rfl rfl Tryz.ntmps36 Tryz.results36 (by simp only [slotsOf, argAV, List.map_cons, List.map_nil, Nat.reduceAdd]; rfl) (by simp) ?_
    repeat' (first | (with_reducible first | refine aw_seq fun K hK => ?_ | refine aw_region (by kernel_rfl) ?_ | refine aw_condk ?_ | refine aw_block ?_) | ((with_reducible refine evg ?_); simp only [go_sem, ↓reduceIte, Nat.reduceEqDiff, Nat.reduceBEq, Nat.reduceAdd, Nat.reduceMul, Nat.reduceSub, Nat.reduceLT, Nat.reduceLeDiff]) | ((with_reducible refine ev_call ?_); (first | (refine call_fn e1 rfl ?_) | (refine call_fn e2 rfl ?_)); refine k_run ?_) | ((with_reducible refine ev_guard ?_); (with_reducible first | refine guard_t ?_ ?_ rfl | refine guard_f ?_ ?_ rfl) <;> (intro h; (try simp only [h]); (try simp only [nrm] at h))) | ((with_reducible refine ck_split (fun h => ?_) (fun h => ?_)) <;> (try simp only [nrm] at h)) | ((with_reducible refine And.intro ?_ ?_); (first | omega | focus (simp; done) | focus (simp; omega) | focus ((repeat' (with_reducible refine And.intro ?_ ?_)) <;> first | omega | rfl | (simp only [go_sem, refsL_app, refs_dmap] <;> fail) | (simp [refsL_app, refs_dmap, AV.refsL, AV.refs] <;> omega)))) | ((with_reducible first | apply hK | (clear hK K; first | apply hK | (clear hK K; first | apply hK | (clear hK K; apply hK)))); clear hK K) | (simp (disch := omega) only [wr, drop_at, str_at, int_at, Int.reduceSub, Int.reduceAdd, Int.reduceToNat, Int.toNat_zero]) | fail)
    (first | refine res_tmp rfl (by simp [D.plain, plains]) (by simp) ?_ | refine res_at rfl (by simp [D.plain, plains]) (by simp) ?_ | refine res_two rfl (by simp [D.plain, plains]) (by simp) ?_ | refine res_three rfl (by simp [D.plain, plains]) (by simp) ?_)
    simp [askF, g]

def parI (l : List PerV) (id : Int) : List Int := if (perOf l id).one = 0 then [] else [(perOf l id).one, (perOf l id).two]

set_option maxRecDepth 100000 in
theorem pl_Fam6_47_1 (l : List Oper) (h : l = opsOf Tryz.f47 1) : planB l (.pure 0 (.pure 1 (.pure 2 (.pure 3 (.two 4 (.pure 5 (.pure 6 (.one 7 PT.fin))) 7 (.one 4 (.pure 5 (.pure 6 PT.fin)))))))) [8] = true := by
  subst h
  kernel_rfl

set_option maxRecDepth 100000 in
set_option maxHeartbeats 4000000 in
theorem parents_fn (l : List PerV) (id : Int) (hl : l.length ≤ 1048576) (hid : 0 ≤ findP l id) : FnD Tryz.prog 47 [famD l, .int id] (intL (parI l id)) := by
  have e1 := person_fn l id (by omega)
  obtain ⟨h1, h2, h3⟩ := findP_lt (l := l) (id := id) (by omega)
  obtain ⟨j, hj⟩ := Int.eq_ofNat_of_zero_le hid
  have hp : perOf l id = l.getD j PerV.zero := by rw [perOf, hj]; rfl
  have hj2 : j < l.length := by omega
  rw [parI, hp]
  rw [hj] at e1
  by_cases h0 : (l.getD j PerV.zero).one = 0
  · rw [if_pos h0]
    refine fn_go Tryz.func47 rfl rfl Tryz.ntmps47 Tryz.results47 (by simp only [slotsOf, argAV, List.map_cons, List.map_nil, Nat.reduceAdd]; rfl) (by simp) ?_
    repeat' (first | (with_reducible first | refine aw_seq fun K hK => ?_ | refine aw_region (by kernel_rfl) ?_ | refine aw_condk ?_ | refine aw_block ?_) | ((with_reducible refine ev_aw ?_); first | (refine aw_draw (id := 1) (by kernel_rfl) _ _ (by kernel_rfl) (pl_Fam6_47_1 _ (by kernel_rfl)) ?_)) | (with_reducible first | refine ru_four ?_ ?_ ?_ ?_ | refine ru_three ?_ ?_ ?_ | refine ru_two ?_ ?_ | refine rv_split ?_ ?_ | refine rv_two ?_ ?_ | refine rp_two ?_ ?_) | ((with_reducible refine evg ?_); simp only [go_sem, St.clean, cleanO, ↓reduceIte, Nat.reduceEqDiff, Nat.reduceBEq, Nat.reduceAdd, Nat.reduceMul, Nat.reduceSub, Nat.reduceLT, Nat.reduceLeDiff]) | (simp (disch := omega) only [wr, drop_at, str_at, int_at, Int.reduceSub, Int.reduceAdd, Int.reduceToNat, Int.toNat_zero, per_at, wr]) | ((with_reducible refine ev_call ?_); (first | (refine call_fn e1 rfl ?_)); refine k_run ?_) | ((with_reducible refine ev_guard ?_); (with_reducible first | refine guard_t ?_ ?_ rfl | refine guard_f ?_ ?_ rfl) <;> (intro h; (try simp only [h]); (try simp only [nrm] at h) <;> (try ((with_reducible exfalso); omega)))) | ((with_reducible refine ck_split (fun h => ?_) (fun h => ?_)) <;> (try simp only [nrm] at h) <;> (try ((with_reducible exfalso); omega))) | ((with_reducible refine And.intro ?_ ?_); (first | omega | focus (simp; done) | focus (simp; omega) | focus ((repeat' (with_reducible refine And.intro ?_ ?_)) <;> first | omega | rfl | (simp only [go_sem, refsL_app, refs_dmap] <;> fail) | (simp [refsL_app, refs_dmap, AV.refsL, AV.refs] <;> omega)))) | (with_reducible refine hJ _ (fun K hK => ?_) ?_ <;> clear hJ KJ) | ((with_reducible refine ev_less ?_); (refine ⟨rfl, ?_, ?_⟩ <;> simp only [go_sem, St.clean, cleanO, SubS, SubO, beq_self_eq_true, ↓reduceIte, Nat.reduceEqDiff, Nat.reduceBEq, Nat.reduceAdd, Nat.reduceMul, Nat.reduceSub, Nat.reduceLT, Nat.reduceLeDiff])) | ((with_reducible first | apply hK | (clear hK K; first | apply hK | (clear hK K; first | apply hK | (clear hK K; apply hK)))); clear hK K) | fail)
    all_goals (first | refine res_tmp rfl (by simp [D.plain, plains]) (by simp) ?_ | refine res_at rfl (by simp [D.plain, plains]) (by simp) ?_ | refine res_two rfl (by simp [D.plain, plains]) (by simp) ?_ | refine res_three rfl (by simp [D.plain, plains]) (by simp) ?_ | skip)
    all_goals rfl
  · rw [if_neg h0]
    refine fn_go Tryz.func47 rfl rfl Tryz.ntmps47 Tryz.results47 (by simp only [slotsOf, argAV, List.map_cons, List.map_nil, Nat.reduceAdd]; rfl) (by simp) ?_
    repeat' (first | (with_reducible first | refine aw_seq fun K hK => ?_ | refine aw_region (by kernel_rfl) ?_ | refine aw_condk ?_ | refine aw_block ?_) | ((with_reducible refine ev_aw ?_); first | (refine aw_draw (id := 1) (by kernel_rfl) _ _ (by kernel_rfl) (pl_Fam6_47_1 _ (by kernel_rfl)) ?_)) | (with_reducible first | refine ru_four ?_ ?_ ?_ ?_ | refine ru_three ?_ ?_ ?_ | refine ru_two ?_ ?_ | refine rv_split ?_ ?_ | refine rv_two ?_ ?_ | refine rp_two ?_ ?_) | ((with_reducible refine evg ?_); simp only [go_sem, St.clean, cleanO, ↓reduceIte, Nat.reduceEqDiff, Nat.reduceBEq, Nat.reduceAdd, Nat.reduceMul, Nat.reduceSub, Nat.reduceLT, Nat.reduceLeDiff]) | (simp (disch := omega) only [wr, drop_at, str_at, int_at, Int.reduceSub, Int.reduceAdd, Int.reduceToNat, Int.toNat_zero, per_at, wr]) | ((with_reducible refine ev_call ?_); (first | (refine call_fn e1 rfl ?_)); refine k_run ?_) | ((with_reducible refine ev_guard ?_); (with_reducible first | refine guard_t ?_ ?_ rfl | refine guard_f ?_ ?_ rfl) <;> (intro h; (try simp only [h]); (try simp only [nrm] at h) <;> (try ((with_reducible exfalso); omega)))) | ((with_reducible refine ck_split (fun h => ?_) (fun h => ?_)) <;> (try simp only [nrm] at h) <;> (try ((with_reducible exfalso); omega))) | ((with_reducible refine And.intro ?_ ?_); (first | omega | focus (simp; done) | focus (simp; omega) | focus ((repeat' (with_reducible refine And.intro ?_ ?_)) <;> first | omega | rfl | (simp only [go_sem, refsL_app, refs_dmap] <;> fail) | (simp [refsL_app, refs_dmap, AV.refsL, AV.refs] <;> omega)))) | (with_reducible refine hJ _ (fun K hK => ?_) ?_ <;> clear hJ KJ) | ((with_reducible refine ev_less ?_); (refine ⟨rfl, ?_, ?_⟩ <;> simp only [go_sem, St.clean, cleanO, SubS, SubO, beq_self_eq_true, ↓reduceIte, Nat.reduceEqDiff, Nat.reduceBEq, Nat.reduceAdd, Nat.reduceMul, Nat.reduceSub, Nat.reduceLT, Nat.reduceLeDiff])) | ((with_reducible first | apply hK | (clear hK K; first | apply hK | (clear hK K; first | apply hK | (clear hK K; apply hK)))); clear hK K) | fail)
    all_goals (first | refine res_tmp rfl (by simp [D.plain, plains]) (by simp) ?_ | refine res_at rfl (by simp [D.plain, plains]) (by simp) ?_ | refine res_two rfl (by simp [D.plain, plains]) (by simp) ?_ | refine res_three rfl (by simp [D.plain, plains]) (by simp) ?_ | skip)
    all_goals rfl

end Go.Proofs.YtdeobicgildamaaGreatDoor
