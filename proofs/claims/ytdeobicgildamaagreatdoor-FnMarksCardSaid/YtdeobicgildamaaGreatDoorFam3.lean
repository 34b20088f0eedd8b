/- The children of a person: a part of a list, sorted in place. -/
import Derived.Test.YtdeobicgildamaaGreatDoorFam2
import Derived.Test.YtdeobicgildamaaGreatDoorJoi
import Derived.WalkKit
import Derived.WalkSpells
import Derived.KernelRfl
namespace Go.Proofs.YtdeobicgildamaaGreatDoor
open Go.RowKit
set_option linter.unusedVariables false
set_option linter.unusedSimpArgs false

attribute [local go_sem] PerV.d PerV.cs perL famD intL

attribute [local simp] perC_all perC_plains ints_plain ints_all ints_all1 ints_plain_take

theorem recC_set {α : Type} {cs : α → List D} {k : Nat} (hk : ∀ x, (cs x).length = k) {l : List α} {i : Nat} (y : α) (h : i < l.length) : (recC cs l).take (i * k) ++ cs y ++ (recC cs l).drop (i * k + k) = recC cs (l.set i y) := by
  have e : i * k + k = (i + 1) * k := by rw [Nat.succ_mul]
  rw [e, recC_take hk, recC_drop hk, List.set_eq_take_append_cons_drop, if_pos h, recC_app]
  simp [recC]

theorem per_set {l : List PerV} {i : Nat} (y : PerV) (h : i < l.length) : (perC l).take (i * 5) ++ [.int y.id, .int y.born, .int y.died, .int y.one, .int y.two] ++ (perC l).drop (i * 5 + 5) = perC (l.set i y) := recC_set per_k y h

theorem perC_app (a b : List PerV) : perC (a ++ b) = perC a ++ perC b := recC_app a b

theorem perC_take (l : List PerV) (i : Nat) : (perC l).take (i * 5) = perC (l.take i) := recC_take per_k l i

def chil (p : PerV) (id : Int) : Bool := decide (p.one = id) || decide (p.two = id)

set_option maxRecDepth 100000 in
set_option maxHeartbeats 4000000 in
theorem isChild_fn (p : PerV) (id : Int) : FnD Tryz.prog 65 [p.d, .int id] (.bool (chil p id)) := by
  refine fn_go Tryz.func65 rfl rfl Tryz.ntmps65 Tryz.results65 (by simp only [slotsOf, argAV, List.map_cons, List.map_nil, Nat.reduceAdd]; rfl) (by simp) ?_
  repeat' (first | (with_reducible first | refine aw_seq fun K hK => ?_ | refine aw_region (by kernel_rfl) ?_ | refine aw_condk ?_ | refine aw_block ?_) | ((with_reducible refine evg ?_); simp only [go_sem, ↓reduceIte, Nat.reduceEqDiff, Nat.reduceBEq, Nat.reduceAdd, Nat.reduceMul, Nat.reduceSub, Nat.reduceLT, Nat.reduceLeDiff]) | (simp (disch := omega) only [wr, drop_at, str_at, int_at, Int.reduceSub, Int.reduceAdd, Int.reduceToNat, Int.toNat_zero, wr]) | ((with_reducible refine ev_guard ?_); (with_reducible first | refine guard_t ?_ ?_ rfl | refine guard_f ?_ ?_ rfl) <;> (intro h; (try simp only [h]); (try simp only [nrm] at h) <;> (try ((with_reducible exfalso); omega)))) | ((with_reducible refine ck_split (fun h => ?_) (fun h => ?_)) <;> (try simp only [nrm] at h) <;> (try ((with_reducible exfalso); omega))) | ((with_reducible refine And.intro ?_ ?_); (first | omega | focus (simp; done) | focus (simp; omega) | focus ((repeat' (with_reducible refine And.intro ?_ ?_)) <;> first | omega | rfl | (simp only [go_sem, refsL_app, refs_dmap] <;> fail) | (simp [refsL_app, refs_dmap, AV.refsL, AV.refs] <;> omega)))) | ((with_reducible first | apply hK | (clear hK K; first | apply hK | (clear hK K; first | apply hK | (clear hK K; apply hK)))); clear hK K) | fail)
  all_goals (first | refine res_tmp rfl (by simp [D.plain, plains]) (by simp) ?_ | refine res_at rfl (by simp [D.plain, plains]) (by simp) ?_ | refine res_two rfl (by simp [D.plain, plains]) (by simp) ?_ | refine res_three rfl (by simp [D.plain, plains]) (by simp) ?_ | skip)
  · simp only [chil, *, decide_true, Bool.true_or]
  · have e : (p.two == id) = decide (p.two = id) := by
      rw [Bool.eq_iff_iff]
      simp
    simp only [chil, *, decide_false, Bool.false_or]

set_option maxRecDepth 100000 in
set_option maxHeartbeats 4000000 in
theorem child1_fn (p : PerV) (id : Int) : FnD Tryz.prog 77 [p.d, .pt [.int id]] (.bool (!chil p id)) := by
  refine fn_go Tryz.func77 rfl rfl Tryz.ntmps77 Tryz.results77 (by simp only [slotsOf, argAV, List.map_cons, List.map_nil, Nat.reduceAdd]; rfl) (by simp) ?_
  repeat' (first | (with_reducible first | refine aw_seq fun K hK => ?_ | refine aw_region (by kernel_rfl) ?_ | refine aw_condk ?_ | refine aw_block ?_) | ((with_reducible refine evg ?_); simp only [go_sem, ↓reduceIte, Nat.reduceEqDiff, Nat.reduceBEq, Nat.reduceAdd, Nat.reduceMul, Nat.reduceSub, Nat.reduceLT, Nat.reduceLeDiff]) | ((with_reducible refine ev_call ?_); (first | (refine call_fn (isChild_fn _ _) rfl ?_)); refine k_run ?_) | ((with_reducible refine ev_guard ?_); (with_reducible first | refine guard_t ?_ ?_ rfl | refine guard_f ?_ ?_ rfl) <;> (intro h; (try simp only [h]); (try simp only [nrm] at h))) | ((with_reducible refine ck_split (fun h => ?_) (fun h => ?_)) <;> (try simp only [nrm] at h)) | ((with_reducible refine And.intro ?_ ?_); (first | omega | focus (simp; done) | focus (simp; omega) | focus ((repeat' (with_reducible refine And.intro ?_ ?_)) <;> first | omega | rfl | (simp only [go_sem, refsL_app, refs_dmap] <;> fail) | (simp [refsL_app, refs_dmap, AV.refsL, AV.refs] <;> omega)))) | ((with_reducible first | apply hK | (clear hK K; first | apply hK | (clear hK K; first | apply hK | (clear hK K; apply hK)))); clear hK K) | (simp (disch := omega) only [wr, drop_at, str_at, int_at, Int.reduceSub, Int.reduceAdd, Int.reduceToNat, Int.toNat_zero]) | fail)
  (first | refine res_tmp rfl (by simp [D.plain, plains]) (by simp) ?_ | refine res_at rfl (by simp [D.plain, plains]) (by simp) ?_ | refine res_two rfl (by simp [D.plain, plains]) (by simp) ?_ | refine res_three rfl (by simp [D.plain, plains]) (by simp) ?_)
  rfl

set_option maxRecDepth 100000 in
set_option maxHeartbeats 4000000 in
theorem child2_fn (a b : PerV) : FnD Tryz.prog 79 [a.d, b.d] (.int (IntKind.i64.wrap (a.born - b.born))) := by
  refine fn_go Tryz.func79 rfl rfl Tryz.ntmps79 Tryz.results79 (by simp only [slotsOf, argAV, List.map_cons, List.map_nil, Nat.reduceAdd]; rfl) (by simp) ?_
  repeat' (first | (with_reducible first | refine aw_seq fun K hK => ?_ | refine aw_region (by kernel_rfl) ?_ | refine aw_condk ?_ | refine aw_block ?_) | ((with_reducible refine evg ?_); simp only [go_sem, ↓reduceIte, Nat.reduceEqDiff, Nat.reduceBEq, Nat.reduceAdd, Nat.reduceMul, Nat.reduceSub, Nat.reduceLT, Nat.reduceLeDiff]) | ((with_reducible refine ev_guard ?_); (with_reducible first | refine guard_t ?_ ?_ rfl | refine guard_f ?_ ?_ rfl) <;> (intro h; (try simp only [h]); (try simp only [nrm] at h))) | ((with_reducible refine ck_split (fun h => ?_) (fun h => ?_)) <;> (try simp only [nrm] at h)) | ((with_reducible refine And.intro ?_ ?_); (first | omega | focus (simp; done) | focus (simp; omega) | focus ((repeat' (with_reducible refine And.intro ?_ ?_)) <;> first | omega | rfl | (simp only [go_sem, refsL_app, refs_dmap] <;> fail) | (simp [refsL_app, refs_dmap, AV.refsL, AV.refs] <;> omega)))) | ((with_reducible first | apply hK | (clear hK K; first | apply hK | (clear hK K; first | apply hK | (clear hK K; apply hK)))); clear hK K) | (simp (disch := omega) only [wr, drop_at, str_at, int_at, Int.reduceSub, Int.reduceAdd, Int.reduceToNat, Int.toNat_zero]) | fail)
  (first | refine res_tmp rfl (by simp [D.plain, plains]) (by simp) ?_ | refine res_at rfl (by simp [D.plain, plains]) (by simp) ?_ | refine res_two rfl (by simp [D.plain, plains]) (by simp) ?_ | refine res_three rfl (by simp [D.plain, plains]) (by simp) ?_)
  rfl

def kidF (l : List PerV) (id : Int) : List PerV := l.filter fun p => chil p id

def delL (l : List PerV) (id : Int) : List PerV := kidF l id ++ List.replicate (l.length - (kidF l id).length) PerV.zero

theorem kidF_next {l : List PerV} {i : Nat} {id : Int} (h : i < l.length) : kidF (l.take (i + 1)) id = kidF (l.take i) id ++ (if chil (l.getD i PerV.zero) id then [l.getD i PerV.zero] else []) := by
  rw [kidF, take_next PerV.zero h, List.filter_append]
  congr 1
  cases hc : chil (l.getD i PerV.zero) id
  · simp only [List.filter_cons, List.filter_nil, hc]
    try rfl
  · simp only [List.filter_cons, List.filter_nil, hc]
    try rfl

theorem kidF_all {l : List PerV} {id : Int} (h : l.all (fun p => !!chil p id) = true) : kidF l id = l := by
  rw [kidF, List.filter_eq_self]
  intro x hx
  have := List.all_eq_true.1 h x hx
  simpa using this

theorem idx_first {α : Type} {l : List α} {p : α → Bool} {i : Nat} (h : idxR l p = (i : Int)) : (l.take i).all (fun x => !p x) = true := by
  unfold idxR at h
  split at h
  · omega
  · have e : l.findIdx p = i := by omega
    subst e
    rw [List.all_eq_true]
    intro x hx
    rw [List.mem_take_iff_getElem] at hx
    obtain ⟨j, hj, rfl⟩ := hx
    have := List.not_of_lt_findIdx (show j < l.findIdx p by omega)
    rw [this]
    rfl

theorem kidF_le (l : List PerV) (id : Int) : (kidF l id).length ≤ l.length := List.length_filter_le _ _

theorem delL_len (l : List PerV) (id : Int) : (delL l id).length = l.length := by
  have := kidF_le l id
  simp only [delL, List.length_append, List.length_replicate]
  omega

theorem clear_eq {L : List PerV} {k n : Nat} (h1 : L.length = n) (h2 : k ≤ n) : (perC L).take (k * 5) ++ (List.replicate (n - k) PerV.zero.cs).flatten ++ (perC L).drop (k * 5 + ((List.replicate (n - k) PerV.zero.cs).flatten).length) = perC (L.take k ++ List.replicate (n - k) PerV.zero) := by
  have e : (List.replicate (n - k) PerV.zero.cs).flatten = perC (List.replicate (n - k) PerV.zero) := by
    simp only [perC, recC]
    rw [List.flatMap_def, List.map_replicate]
  rw [e, perC_take, List.drop_of_length_le (by simp; omega), List.append_nil, ← perC_app]

set_option maxRecDepth 100000 in
set_option maxHeartbeats 4000000 in
theorem del_hi (l : List PerV) (id : Int) (hl : l.length ≤ 1048576) : FnS Tryz.prog 76 [(5000, .ds (perC l)), (5001, .av [.d (.int id)])] [.bs 5000 0 l.length 5, .fc 77 [] [.bp 5001 0]] [(5000, .ds (perC (delL l id))), (5001, .av [.d (.int id)])] (.bs 5000 0 (kidF l id).length 5) := by
  have e1 := indexPer_fn l (fun p => !chil p id) (by omega)
  rw [← perC_raw l] at e1
  have g1 : ∀ ds, isPer ds → FnD Tryz.prog 77 ([] ++ ds ++ [.pt [.int id]]) (hPer (fun p => !chil p id) ds) := by
    rintro ds ⟨x, rfl⟩
    exact child1_fn x id
  rcases idxR_ex PerV.zero l (fun p => !chil p id) with ⟨q1, q2⟩ | ⟨i, q1, q2, q3⟩
  · rw [q1] at e1
    refine fns_go Tryz.func76 rfl rfl Tryz.ntmps76 Tryz.results76 (by simp only [slotsA, Nat.reduceAdd]; rfl) (by simp) rfl ?_
    repeat' (first | (with_reducible first | refine aw_seq fun K hK => ?_ | refine aw_region (by kernel_rfl) ?_ | refine aw_condk ?_ | refine aw_block ?_) | ((with_reducible refine evg ?_); simp only [go_sem, ↓reduceIte, Nat.reduceEqDiff, Nat.reduceBEq, Nat.reduceAdd, Nat.reduceMul, Nat.reduceSub, Nat.reduceLT, Nat.reduceLeDiff]) | (simp (disch := omega) only [wr, drop_at, str_at, int_at, Int.reduceSub, Int.reduceAdd, Int.reduceToNat, Int.toNat_zero, wr]) | ((with_reducible refine ev_call ?_); (first | (refine call_pc e1 rfl (child1_fn PerV.zero 0).1 rfl rfl g1 ?_ )); refine k_run ?_) | ((with_reducible refine ev_guard ?_); (with_reducible first | refine guard_t ?_ ?_ rfl | refine guard_f ?_ ?_ rfl) <;> (intro h; (try simp only [h]); (try simp only [nrm] at h) <;> (try ((with_reducible exfalso); omega)))) | ((with_reducible refine ck_split (fun h => ?_) (fun h => ?_)) <;> (try simp only [nrm] at h) <;> (try ((with_reducible exfalso); omega))) | ((with_reducible refine And.intro ?_ ?_); (first | omega | focus (simp; done) | focus (simp; omega) | focus ((repeat' (with_reducible refine And.intro ?_ ?_)) <;> first | omega | rfl | (simp only [go_sem, refsL_app, refs_dmap] <;> fail) | (simp [refsL_app, refs_dmap, AV.refsL, AV.refs] <;> omega)))) | ((with_reducible first | apply hK | (clear hK K; first | apply hK | (clear hK K; first | apply hK | (clear hK K; apply hK)))); clear hK K) | fail)
    rotate_left
    · exact absurd trivial h
    have e : delL l id = l := by
      rw [delL, kidF_all q2]
      simp
    rw [e, kidF_all q2]
    exact ress_tmp (by simp [lensO, lookO, obCells]) ⟨rfl, rfl, trivial⟩ rfl
  · rw [q1] at e1
    have q4 := idx_first q1
    refine fns_go Tryz.func76 rfl rfl Tryz.ntmps76 Tryz.results76 (by simp only [slotsA, Nat.reduceAdd]; rfl) (by simp) rfl ?_
    repeat' (first | (with_reducible first | refine aw_seq fun K hK => ?_ | refine aw_region (by kernel_rfl) ?_ | refine aw_condk ?_ | refine aw_block ?_) | ((with_reducible refine evg ?_); simp only [go_sem, ↓reduceIte, Nat.reduceEqDiff, Nat.reduceBEq, Nat.reduceAdd, Nat.reduceMul, Nat.reduceSub, Nat.reduceLT, Nat.reduceLeDiff]) | (simp (disch := omega) only [wr, drop_at, str_at, int_at, Int.reduceSub, Int.reduceAdd, Int.reduceToNat, Int.toNat_zero, wr]) | ((with_reducible refine ev_call ?_); (first | (refine call_pc e1 rfl (child1_fn PerV.zero 0).1 rfl rfl g1 ?_ )); refine k_run ?_) | ((with_reducible refine ev_guard ?_); (with_reducible first | refine guard_t ?_ ?_ rfl | refine guard_f ?_ ?_ rfl) <;> (intro h; (try simp only [h]); (try simp only [nrm] at h) <;> (try ((with_reducible exfalso); omega)))) | ((with_reducible refine ck_split (fun h => ?_) (fun h => ?_)) <;> (try simp only [nrm] at h) <;> (try ((with_reducible exfalso); omega))) | ((with_reducible refine And.intro ?_ ?_); (first | omega | focus (simp; done) | focus (simp; omega) | focus ((repeat' (with_reducible refine And.intro ?_ ?_)) <;> first | omega | rfl | (simp only [go_sem, refsL_app, refs_dmap] <;> fail) | (simp [refsL_app, refs_dmap, AV.refsL, AV.refs] <;> omega)))) | ((with_reducible first | apply hK | (clear hK K; first | apply hK | (clear hK K; first | apply hK | (clear hK K; apply hK)))); clear hK K) | fail)
    have a1 : kidF (l.take (i + 1)) id = l.take i := by
      rw [kidF_next q2, kidF_all q4, if_neg (by simpa using q3), List.append_nil]
    have a2 : (l.take i).length = i := by simp; omega
    refine aw_loopU [5, 6, 7, 16, 17, 18, 19, 20, 21, 22, 23, 24, 25, 26, 27, 28, 29, 30, 31, 32, 33, 34, 35] [7, 18, 28, 5000] (fun s : Nat × List PerV => [(5, .d (.int (kidF (l.take s.1) id).length)), (6, .d (.int s.1))]) (fun s => [(5000, .ds (perC s.2))]) (fun s => s.1 ≤ l.length ∧ s.2.length = l.length ∧ s.2.take (kidF (l.take s.1) id).length = kidF (l.take s.1) id ∧ s.2.drop s.1 = l.drop s.1 ∧ (kidF (l.take s.1) id).length < s.1) (fun s => l.length - s.1) (i + 1, l) ?_ ?_ ?_
    · refine ⟨by simp only; omega, rfl, ?_, rfl, ?_⟩
      · simp only [a1, a2]
      · simp only [a1, a2]
        omega
    · (refine lessW_of [] rfl ?_ <;> simp only [St.sws, St.sw, swS, swO, AV.sw, AV.swL, OB.sw, swp, St.upd, dropS, dropOs, Less, SubS, SubO, look, lookO, List.elem, List.cons_append, List.nil_append, cond_true, cond_false, and_true, true_and, beq_self_eq_true, ↓reduceIte, Nat.reduceEqDiff, Nat.reduceBEq, Nat.reduceAdd, Nat.reduceMul, Nat.reduceSub, Nat.reduceLT, Nat.reduceLeDiff] <;> try simp)
      rw [a1, a2]
    · rintro ⟨j, L⟩ ⟨f1, f2, f3, f4, f5⟩
      simp only [St.upd, dropS, dropOs, List.elem, List.cons_append, List.nil_append, cond_true, cond_false, beq_self_eq_true, ↓reduceIte, Nat.reduceEqDiff, Nat.reduceBEq, Nat.reduceAdd, Nat.reduceMul, Nat.reduceSub, Nat.reduceLT, Nat.reduceLeDiff]
      simp only at f1 f2 f3 f4 f5
      have m1 : j < l.length → L.getD j PerV.zero = l.getD j PerV.zero := fun hj => by
        have := congrArg (fun l : List PerV => l.getD 0 PerV.zero) f4
        simpa [List.getD_eq_getElem?_getD] using this
      have f6 : L.drop (j + 1) = l.drop (j + 1) := by
        have := congrArg (List.drop 1) f4
        simpa [List.drop_drop] using this
      repeat' (first | (with_reducible first | refine aw_seq fun K hK => ?_ | refine aw_region (by kernel_rfl) ?_ | refine aw_condk ?_ | refine aw_block ?_) | ((with_reducible refine evg ?_); simp only [go_sem, ↓reduceIte, Nat.reduceEqDiff, Nat.reduceBEq, Nat.reduceAdd, Nat.reduceMul, Nat.reduceSub, Nat.reduceLT, Nat.reduceLeDiff]) | (simp (disch := omega) only [wr, drop_at, str_at, int_at, Int.reduceSub, Int.reduceAdd, Int.reduceToNat, Int.toNat_zero, per_at, m1, per_set]) | ((with_reducible refine ev_call ?_); (first | (refine call_fn (child1_fn _ _) rfl ?_)); refine k_run ?_) | ((with_reducible refine ev_guard ?_); (with_reducible first | refine guard_t ?_ ?_ rfl | refine guard_f ?_ ?_ rfl) <;> (intro h; (try simp only [h]); (try simp only [nrm] at h) <;> (try ((with_reducible exfalso); omega)))) | ((with_reducible refine ck_split (fun h => ?_) (fun h => ?_)) <;> (try simp only [nrm] at h) <;> (try ((with_reducible exfalso); omega))) | ((with_reducible refine And.intro ?_ ?_); (first | omega | focus (simp; done) | focus (simp; omega) | focus ((repeat' (with_reducible refine And.intro ?_ ?_)) <;> first | omega | rfl | (simp only [go_sem, refsL_app, refs_dmap] <;> fail) | (simp [refsL_app, refs_dmap, AV.refsL, AV.refs] <;> omega)))) | ((with_reducible first | apply hK | (clear hK K; first | apply hK | (clear hK K; first | apply hK | (clear hK K; apply hK)))); clear hK K) | fail)
      · have a3 := kidF_next (id := id) (show j < l.length by omega)
        rw [if_pos h] at a3
        have a4 : (kidF (l.take (j + 1)) id).length = (kidF (l.take j) id).length + 1 := by rw [a3]; simp
        refine ⟨(j + 1, L.set (kidF (l.take j) id).length (l.getD j PerV.zero)), ⟨by simp only; omega, by simpa using f2, ?_, ?_, by simp only; omega⟩, by simp only; omega, by
          (refine lessW_of [] rfl ?_ <;> simp only [St.sws, St.sw, swS, swO, AV.sw, AV.swL, OB.sw, swp, St.upd, dropS, dropOs, Less, SubS, SubO, look, lookO, List.elem, List.cons_append, List.nil_append, cond_true, cond_false, and_true, true_and, beq_self_eq_true, ↓reduceIte, Nat.reduceEqDiff, Nat.reduceBEq, Nat.reduceAdd, Nat.reduceMul, Nat.reduceSub, Nat.reduceLT, Nat.reduceLeDiff] <;> try simp)
          rw [a4]
          omega⟩
        · simp only [a4]
          rw [take_next PerV.zero (by simp; omega), a3, List.take_set, List.set_eq_of_length_le (by simp; omega), f3, getD_eq _ (by simp; omega), List.getElem_set_self]
        · simp only
          rw [List.drop_set_of_lt (by omega)]
          exact f6
      · have a3 := kidF_next (id := id) (show j < l.length by omega)
        rw [if_neg (by rw [h]; simp), List.append_nil] at a3
        refine ⟨(j + 1, L), ⟨by simp only; omega, f2, by simp only; rw [a3]; exact f3, f6, by simp only; rw [a3]; omega⟩, by simp only; omega, by
          (refine lessW_of [] rfl ?_ <;> simp only [St.sws, St.sw, swS, swO, AV.sw, AV.swL, OB.sw, swp, St.upd, dropS, dropOs, Less, SubS, SubO, look, lookO, List.elem, List.cons_append, List.nil_append, cond_true, cond_false, and_true, true_and, beq_self_eq_true, ↓reduceIte, Nat.reduceEqDiff, Nat.reduceBEq, Nat.reduceAdd, Nat.reduceMul, Nat.reduceSub, Nat.reduceLT, Nat.reduceLeDiff] <;> try simp)
          rw [a3]⟩
      · have e : l.take j = l := List.take_of_length_le (by omega)
        rw [e] at f3 f5
        have e2 := clear_eq (L := L) (k := (kidF l id).length) (n := l.length) f2 (by omega)
        rw [f3] at e2
        rw [e]
        exact ress_tmp (by simp [lensO, lookO, obCells, delL_len]) ⟨congrArg (fun c => some (OB.ds c)) e2, rfl, trivial⟩ rfl

theorem del_s (s t : Nat) (l : List PerV) (id : Int) (hl : l.length ≤ 1048576) (hs : s < 5000) (ht : t < 5000) (hst : s ≠ t) : FnS Tryz.prog 76 [(s, .ds (perC l)), (t, .av [.d (.int id)])] [.bs s 0 l.length 5, .fc 77 [] [.bp t 0]] [(s, .ds (perC (delL l id))), (t, .av [.d (.int id)])] (.bs s 0 (kidF l id).length 5) := by
  have h := ((del_hi l id hl).sw 5000 s).sw 5001 t
  have e1 : swp 5000 s 5001 = 5001 := by
    have : 5001 ≠ s := by omega
    simp [swp, this]
  have e2 : swp 5001 t s = s := by
    have : s ≠ 5001 := by omega
    simp [swp, hst, this]
  simpa only [swO, AV.swL, AV.sw, OB.sw, sw_self, e1, e2] using h

end Go.Proofs.YtdeobicgildamaaGreatDoor
