/- Lists of numbers: copying, comparing, counting, marking. -/
import Derived.Test.YtdeobicgildamaaDoorRecs
import Derived.Test.YtdeobicgildamaaDoorFacts
import Derived.Test.YtdeobicgildamaaDoorFlowE
import Derived.WalkKit
import Derived.WalkSpells
import Derived.KernelRfl
namespace Go.Proofs.YtdeobicgildamaaDoor
open Go.RowKit
set_option linter.unusedVariables false
set_option linter.unusedSimpArgs false

def intC (l : List Int) : List D := l.map D.int

def intL (l : List Int) : D := .ls 1 l.length (l.map D.int)

attribute [local go_sem] intL

theorem map_set {α β : Type} (f : α → β) (l : List α) (i : Nat) (x : α) : (l.map f).set i (f x) = (l.set i x).map f := by
  rw [List.map_set]

theorem ints_plain : ∀ l : List Int, plains (l.map D.int)
  | [] => trivial
  | _ :: l => ⟨trivial, ints_plain l⟩

theorem ints_plain_take (n : Nat) (l : List Int) : plains ((l.map D.int).take n) := by
  rw [← List.map_take]
  exact ints_plain _

theorem ints_all (l : List Int) : (l.map D.int).take (l.length * 1) = l.map D.int := by
  rw [Nat.mul_one]
  exact List.take_of_length_le (by simp)

theorem ints_raw (l : List Int) : D.ls 1 l.length (((l.map D.int).drop 0).take (l.length * 1)) = intL l := by
  rw [List.drop_zero, ints_all]
  rfl

theorem ints_all1 (l : List Int) : (l.map D.int).take l.length = l.map D.int := List.take_of_length_le (by simp)

attribute [local simp] ints_plain ints_all ints_all1

def intM (l : List Int) (i : Nat) : List Int := l.take i ++ List.replicate (l.length - i) 0

set_option maxRecDepth 100000 in
theorem pl_Ints_6_6 (l : List Oper) (h : l = opsOf Tryd.f6 6) : planB l (.pure 0 (.pure 1 (.pure 2 (.pure 3 (.pure 4 (.pure 5 (.pure 6 (.pure 7 (.pure 8 PT.fin))))))))) [] = true := by
  subst h
  kernel_rfl

set_option maxRecDepth 100000 in
set_option maxHeartbeats 4000000 in
theorem eqIntS_fn (a b : List Int) (ha : a.length ≤ 140737488355328) : FnD Tryd.prog 6 [intL a, intL b] (.bool (decide (a = b))) := by
  refine fn_go Tryd.func6 rfl rfl Tryd.ntmps6 Tryd.results6 (by simp only [slotsOf, argAV, List.map_cons, List.map_nil, Nat.reduceAdd]; rfl) (by simp) ?_
  repeat' (first | (with_reducible first | refine aw_seq fun K hK => ?_ | refine aw_region (by kernel_rfl) ?_ | refine aw_condk ?_ | refine aw_block ?_) | ((with_reducible refine ev_aw ?_); first | (refine aw_draw (id := 6) (by kernel_rfl) _ _ (by kernel_rfl) (pl_Ints_6_6 _ (by kernel_rfl)) ?_)) | (with_reducible first | refine ru_four ?_ ?_ ?_ ?_ | refine ru_three ?_ ?_ ?_ | refine ru_two ?_ ?_ | refine rv_split ?_ ?_ | refine rv_two ?_ ?_ | refine rp_two ?_ ?_) | ((with_reducible refine evg ?_); simp only [go_sem, St.clean, cleanO, ↓reduceIte, Nat.reduceEqDiff, Nat.reduceBEq, Nat.reduceAdd, Nat.reduceMul, Nat.reduceSub, Nat.reduceLT, Nat.reduceLeDiff]) | ((with_reducible refine ev_guard ?_); (with_reducible first | refine guard_t ?_ ?_ rfl | refine guard_f ?_ ?_ rfl) <;> (intro h; (try simp only [h]); (try simp only [nrm] at h))) | ((with_reducible refine ck_split (fun h => ?_) (fun h => ?_)) <;> (try simp only [nrm] at h)) | ((with_reducible refine And.intro ?_ ?_); (first | omega | focus (simp; done) | focus (simp; omega) | focus ((repeat' (with_reducible refine And.intro ?_ ?_)) <;> first | omega | rfl | (simp only [go_sem, refsL_app, refs_dmap] <;> fail) | (simp [refsL_app, refs_dmap, AV.refsL, AV.refs] <;> omega)))) | (with_reducible refine hJ _ (fun K hK => ?_) ?_ <;> clear hJ KJ) | ((with_reducible refine ev_less ?_); (refine ⟨rfl, ?_, ?_⟩ <;> simp only [go_sem, St.clean, cleanO, SubS, SubO, beq_self_eq_true, ↓reduceIte, Nat.reduceEqDiff, Nat.reduceBEq, Nat.reduceAdd, Nat.reduceMul, Nat.reduceSub, Nat.reduceLT, Nat.reduceLeDiff])) | ((with_reducible first | apply hK | (clear hK K; first | apply hK | (clear hK K; first | apply hK | (clear hK K; apply hK)))); clear hK K) | (simp (disch := omega) only [wr, drop_at, str_at, int_at, Int.reduceSub, Int.reduceAdd, Int.reduceToNat, Int.toNat_zero]) | fail)
  · (first | refine res_tmp rfl (by simp [D.plain, plains]) (by simp) ?_ | refine res_at rfl (by simp [D.plain, plains]) (by simp) ?_ | refine res_two rfl (by simp [D.plain, plains]) (by simp) ?_ | refine res_three rfl (by simp [D.plain, plains]) (by simp) ?_)
    have : a ≠ b := fun e => h (by rw [e])
    simp [this]
  · refine aw_loopU [4, 5, 11, 12, 13, 14, 15, 16, 17, 18, 19, 20, 21, 22, 23, 24, 25] [13] (fun i : Nat => [(5, .d (.int i))]) (fun _ => []) (fun i => i ≤ a.length ∧ EqTo 0 a b i) (fun i => a.length - i) 0 ⟨by omega, eqTo_zero⟩ ?_ ?_
    · (refine lessW_of [] rfl ?_ <;> simp only [St.sws, St.sw, swS, swO, AV.sw, AV.swL, OB.sw, swp, St.upd, dropS, dropOs, Less, SubS, SubO, look, lookO, List.elem, List.cons_append, List.nil_append, cond_true, cond_false, and_true, true_and, beq_self_eq_true, ↓reduceIte, Nat.reduceEqDiff, Nat.reduceBEq, Nat.reduceAdd, Nat.reduceMul, Nat.reduceSub, Nat.reduceLT, Nat.reduceLeDiff] <;> try simp)
    · rintro i ⟨h1, h2⟩
      simp only [St.upd, dropS, dropOs, List.elem, List.cons_append, List.nil_append, cond_true, cond_false, beq_self_eq_true, ↓reduceIte, Nat.reduceEqDiff, Nat.reduceBEq, Nat.reduceAdd, Nat.reduceMul, Nat.reduceSub, Nat.reduceLT, Nat.reduceLeDiff]
      repeat' (first | (with_reducible first | refine aw_seq fun K hK => ?_ | refine aw_region (by kernel_rfl) ?_ | refine aw_condk ?_ | refine aw_block ?_) | ((with_reducible refine ev_aw ?_); first | (refine aw_draw (id := 6) (by kernel_rfl) _ _ (by kernel_rfl) (pl_Ints_6_6 _ (by kernel_rfl)) ?_)) | (with_reducible first | refine ru_four ?_ ?_ ?_ ?_ | refine ru_three ?_ ?_ ?_ | refine ru_two ?_ ?_ | refine rv_split ?_ ?_ | refine rv_two ?_ ?_ | refine rp_two ?_ ?_) | ((with_reducible refine evg ?_); simp only [go_sem, St.clean, cleanO, ↓reduceIte, Nat.reduceEqDiff, Nat.reduceBEq, Nat.reduceAdd, Nat.reduceMul, Nat.reduceSub, Nat.reduceLT, Nat.reduceLeDiff]) | ((with_reducible refine ev_guard ?_); (with_reducible first | refine guard_t ?_ ?_ rfl | refine guard_f ?_ ?_ rfl) <;> (intro h; (try simp only [h]); (try simp only [nrm] at h))) | ((with_reducible refine ck_split (fun h => ?_) (fun h => ?_)) <;> (try simp only [nrm] at h)) | ((with_reducible refine And.intro ?_ ?_); (first | omega | focus (simp; done) | focus (simp; omega) | focus ((repeat' (with_reducible refine And.intro ?_ ?_)) <;> first | omega | rfl | (simp only [go_sem, refsL_app, refs_dmap] <;> fail) | (simp [refsL_app, refs_dmap, AV.refsL, AV.refs] <;> omega)))) | (with_reducible refine hJ _ (fun K hK => ?_) ?_ <;> clear hJ KJ) | ((with_reducible refine ev_less ?_); (refine ⟨rfl, ?_, ?_⟩ <;> simp only [go_sem, St.clean, cleanO, SubS, SubO, beq_self_eq_true, ↓reduceIte, Nat.reduceEqDiff, Nat.reduceBEq, Nat.reduceAdd, Nat.reduceMul, Nat.reduceSub, Nat.reduceLT, Nat.reduceLeDiff])) | ((with_reducible first | apply hK | (clear hK K; first | apply hK | (clear hK K; first | apply hK | (clear hK K; apply hK)))); clear hK K) | (simp (disch := omega) only [wr, drop_at, str_at, int_at, Int.reduceSub, Int.reduceAdd, Int.reduceToNat, Int.toNat_zero]) | fail)
      · (first | refine res_tmp rfl (by simp [D.plain, plains]) (by simp) ?_ | refine res_at rfl (by simp [D.plain, plains]) (by simp) ?_ | refine res_two rfl (by simp [D.plain, plains]) (by simp) ?_ | refine res_three rfl (by simp [D.plain, plains]) (by simp) ?_)
        have : a ≠ b := fun e => h (by rw [e])
        simp [this]
      · refine ⟨i + 1, ?_, ?_, by (refine lessW_of [] rfl ?_ <;> simp only [St.sws, St.sw, swS, swO, AV.sw, AV.swL, OB.sw, swp, St.upd, dropS, dropOs, Less, SubS, SubO, look, lookO, List.elem, List.cons_append, List.nil_append, cond_true, cond_false, and_true, true_and, beq_self_eq_true, ↓reduceIte, Nat.reduceEqDiff, Nat.reduceBEq, Nat.reduceAdd, Nat.reduceMul, Nat.reduceSub, Nat.reduceLT, Nat.reduceLeDiff] <;> try simp)⟩
        · exact ⟨by omega, eqTo_next h2 h⟩
        · omega
      · (first | refine res_tmp rfl (by simp [D.plain, plains]) (by simp) ?_ | refine res_at rfl (by simp [D.plain, plains]) (by simp) ?_ | refine res_two rfl (by simp [D.plain, plains]) (by simp) ?_ | refine res_three rfl (by simp [D.plain, plains]) (by simp) ?_)
        have : a = b := eqTo_all h2 (by omega) (by omega)
        simp [this]

def nums (k : Int) (n : Nat) : List Int := tab (fun i => k + i) n

@[simp] theorem nums_len (k : Int) (n : Nat) : (nums k n).length = n := tab_len _ _

theorem nums_at {k : Int} {n i : Nat} (h : i < n) : (nums k n).getD i 0 = k + i := tab_at 0 h

theorem intD_step {k : Int} {l : List Int} {i : Nat} (h : i < l.length) : ((recD (fun i : Nat => k + (i : Int)) l i).map D.int).set i (D.int (k + i)) = (recD (fun i : Nat => k + (i : Int)) l (i + 1)).map D.int := by
  rw [map_set]
  congr 1
  simp only [recD]
  rw [List.set_append, if_neg (by simp), tab_next, drop_next 0 h]
  simp

theorem intD_clen {k : Int} {l : List Int} {i : Nat} (h : i ≤ l.length) : ((recD (fun i : Nat => k + (i : Int)) l i).map D.int).length = l.length := by rw [List.length_map, recD_len h]

set_option maxRecDepth 100000 in
set_option maxHeartbeats 4000000 in
theorem markIntS_hi (l : List Int) (k : Int) (hl : l.length ≤ 1048576) (h0 : 0 ≤ k) (h1 : k ≤ 1000000000000) : FnS Tryd.prog 7 [(5000, .ds (l.map D.int))] [.bs 5000 0 l.length 1, .d (.int k)] [(5000, .ds ((nums k l.length).map D.int))] (.d (.int (k + l.length))) := by
  refine fns_go Tryd.func7 rfl rfl Tryd.ntmps7 Tryd.results7 (by simp only [slotsA, Nat.reduceAdd]; rfl) (by simp) rfl ?_
  repeat' (first | (with_reducible first | refine aw_seq fun K hK => ?_ | refine aw_region (by kernel_rfl) ?_ | refine aw_condk ?_ | refine aw_block ?_) | ((with_reducible refine evg ?_); simp only [go_sem, ↓reduceIte, Nat.reduceEqDiff, Nat.reduceBEq, Nat.reduceAdd, Nat.reduceMul, Nat.reduceSub, Nat.reduceLT, Nat.reduceLeDiff]) | ((with_reducible refine ev_guard ?_); (with_reducible first | refine guard_t ?_ ?_ rfl | refine guard_f ?_ ?_ rfl) <;> (intro h; (try simp only [h]); (try simp only [nrm] at h))) | ((with_reducible refine ck_split (fun h => ?_) (fun h => ?_)) <;> (try simp only [nrm] at h)) | ((with_reducible refine And.intro ?_ ?_); (first | omega | focus (simp; done) | focus (simp; omega) | focus ((repeat' (with_reducible refine And.intro ?_ ?_)) <;> first | omega | rfl | (simp only [go_sem, refsL_app, refs_dmap] <;> fail) | (simp [refsL_app, refs_dmap, AV.refsL, AV.refs] <;> omega)))) | ((with_reducible first | apply hK | (clear hK K; first | apply hK | (clear hK K; first | apply hK | (clear hK K; apply hK)))); clear hK K) | (simp (disch := omega) only [wr, drop_at, str_at, int_at, Int.reduceSub, Int.reduceAdd, Int.reduceToNat, Int.toNat_zero]) | fail)
  refine aw_loopU [1, 5, 6, 7, 8, 9, 10, 11, 12, 13, 14, 15, 16, 17] [8, 5000] (fun i : Nat => [(5, .d (.int i)), (1, .d (.int (k + i)))]) (fun i => [(5000, .ds ((recD (fun i : Nat => k + (i : Int)) l i).map D.int))]) (fun i => i ≤ l.length) (fun i => l.length - i) 0 (by omega) ?_ ?_
  · (refine lessW_of [] rfl ?_ <;> simp only [St.sws, St.sw, swS, swO, AV.sw, AV.swL, OB.sw, swp, St.upd, dropS, dropOs, Less, SubS, SubO, look, lookO, List.elem, List.cons_append, List.nil_append, cond_true, cond_false, and_true, true_and, beq_self_eq_true, ↓reduceIte, Nat.reduceEqDiff, Nat.reduceBEq, Nat.reduceAdd, Nat.reduceMul, Nat.reduceSub, Nat.reduceLT, Nat.reduceLeDiff] <;> try simp)
    rw [recD_zero]
  · rintro i g1
    simp only [St.upd, dropS, dropOs, List.elem, List.cons_append, List.nil_append, cond_true, cond_false, beq_self_eq_true, ↓reduceIte, Nat.reduceEqDiff, Nat.reduceBEq, Nat.reduceAdd, Nat.reduceMul, Nat.reduceSub, Nat.reduceLT, Nat.reduceLeDiff]
    repeat' (first | (with_reducible first | refine aw_seq fun K hK => ?_ | refine aw_region (by kernel_rfl) ?_ | refine aw_condk ?_ | refine aw_block ?_) | ((with_reducible refine evg ?_); simp only [go_sem, ↓reduceIte, Nat.reduceEqDiff, Nat.reduceBEq, Nat.reduceAdd, Nat.reduceMul, Nat.reduceSub, Nat.reduceLT, Nat.reduceLeDiff]) | (simp (disch := omega) only [wr, drop_at, str_at, int_at, Int.reduceSub, Int.reduceAdd, Int.reduceToNat, Int.toNat_zero, intD_clen]) | ((with_reducible refine ev_guard ?_); (with_reducible first | refine guard_t ?_ ?_ rfl | refine guard_f ?_ ?_ rfl) <;> (intro h; (try simp only [h]); (try simp only [nrm] at h) <;> (try ((with_reducible exfalso); omega)))) | ((with_reducible refine ck_split (fun h => ?_) (fun h => ?_)) <;> (try simp only [nrm] at h) <;> (try ((with_reducible exfalso); omega))) | ((with_reducible refine And.intro ?_ ?_); (first | omega | focus (simp; done) | focus (simp; omega) | focus ((repeat' (with_reducible refine And.intro ?_ ?_)) <;> first | omega | rfl | (simp only [go_sem, refsL_app, refs_dmap] <;> fail) | (simp [refsL_app, refs_dmap, AV.refsL, AV.refs] <;> omega)))) | ((with_reducible first | apply hK | (clear hK K; first | apply hK | (clear hK K; first | apply hK | (clear hK K; apply hK)))); clear hK K) | fail)
    · rw [intD_step (by omega)]
      refine ⟨i + 1, ?_, ?_, by (refine lessW_of [] rfl ?_ <;> simp only [St.sws, St.sw, swS, swO, AV.sw, AV.swL, OB.sw, swp, St.upd, dropS, dropOs, Less, SubS, SubO, look, lookO, List.elem, List.cons_append, List.nil_append, cond_true, cond_false, and_true, true_and, beq_self_eq_true, ↓reduceIte, Nat.reduceEqDiff, Nat.reduceBEq, Nat.reduceAdd, Nat.reduceMul, Nat.reduceSub, Nat.reduceLT, Nat.reduceLeDiff] <;> try simp); omega⟩
      · omega
      · omega
    · rw [recD_end (by omega)]
      have e : i = l.length := by omega
      subst e
      exact ress_tmp (by simp [lensO, lookO, obCells]) ⟨rfl, trivial⟩ rfl

theorem sw_self (a b : Nat) : swp a b a = b := by simp [swp]

theorem markIntS_s (s : Nat) (l : List Int) (k : Int) (hl : l.length ≤ 1048576) (h0 : 0 ≤ k) (h1 : k ≤ 1000000000000) : FnS Tryd.prog 7 [(s, .ds (l.map D.int))] [.bs s 0 l.length 1, .d (.int k)] [(s, .ds ((nums k l.length).map D.int))] (.d (.int (k + l.length))) := by
  have h := (markIntS_hi l k hl h0 h1).sw 5000 s
  simpa only [swO, AV.swL, AV.sw, OB.sw, sw_self] using h

set_option maxRecDepth 100000 in
set_option maxHeartbeats 4000000 in
theorem heldIntS_fn (k : Int) (n : Nat) (hl : n ≤ 1048576) (h0 : 0 ≤ k) (h1 : k ≤ 1000000000000) : FnD Tryd.prog 8 [.ls 1 n ((nums k n).map D.int), .int k] (.int (k + n)) := by
  have hlen : (nums k n).length = n := nums_len k n
  have hlen2 : ((nums k n).map D.int).length = n := by simp
  refine fn_go Tryd.func8 rfl rfl Tryd.ntmps8 Tryd.results8 (by simp only [slotsOf, argAV, List.map_cons, List.map_nil, Nat.reduceAdd]; rfl) (by simp) ?_
  repeat' (first | (with_reducible first | refine aw_seq fun K hK => ?_ | refine aw_region (by kernel_rfl) ?_ | refine aw_condk ?_ | refine aw_block ?_) | ((with_reducible refine evg ?_); simp only [go_sem, ↓reduceIte, Nat.reduceEqDiff, Nat.reduceBEq, Nat.reduceAdd, Nat.reduceMul, Nat.reduceSub, Nat.reduceLT, Nat.reduceLeDiff]) | ((with_reducible refine ev_guard ?_); (with_reducible first | refine guard_t ?_ ?_ rfl | refine guard_f ?_ ?_ rfl) <;> (intro h; (try simp only [h]); (try simp only [nrm] at h))) | ((with_reducible refine ck_split (fun h => ?_) (fun h => ?_)) <;> (try simp only [nrm] at h)) | ((with_reducible refine And.intro ?_ ?_); (first | omega | focus (simp; done) | focus (simp; omega) | focus ((repeat' (with_reducible refine And.intro ?_ ?_)) <;> first | omega | rfl | (simp only [go_sem, refsL_app, refs_dmap] <;> fail) | (simp [refsL_app, refs_dmap, AV.refsL, AV.refs] <;> omega)))) | ((with_reducible first | apply hK | (clear hK K; first | apply hK | (clear hK K; first | apply hK | (clear hK K; apply hK)))); clear hK K) | (simp (disch := omega) only [wr, drop_at, str_at, int_at, Int.reduceSub, Int.reduceAdd, Int.reduceToNat, Int.toNat_zero]) | fail)
  refine aw_loopU [1, 4, 5, 6, 7, 8, 9, 10, 11, 12, 13, 14, 15, 16, 17, 18, 19] [8] (fun i : Nat => [(5, .d (.int i)), (1, .d (.int (k + i)))]) (fun _ => []) (fun i => i ≤ n) (fun i => n - i) 0 (by omega) ?_ ?_
  · (refine lessW_of [] rfl ?_ <;> simp only [St.sws, St.sw, swS, swO, AV.sw, AV.swL, OB.sw, swp, St.upd, dropS, dropOs, Less, SubS, SubO, look, lookO, List.elem, List.cons_append, List.nil_append, cond_true, cond_false, and_true, true_and, beq_self_eq_true, ↓reduceIte, Nat.reduceEqDiff, Nat.reduceBEq, Nat.reduceAdd, Nat.reduceMul, Nat.reduceSub, Nat.reduceLT, Nat.reduceLeDiff] <;> try simp)
  · rintro i g1
    simp only [St.upd, dropS, dropOs, List.elem, List.cons_append, List.nil_append, cond_true, cond_false, beq_self_eq_true, ↓reduceIte, Nat.reduceEqDiff, Nat.reduceBEq, Nat.reduceAdd, Nat.reduceMul, Nat.reduceSub, Nat.reduceLT, Nat.reduceLeDiff]
    repeat' (first | (with_reducible first | refine aw_seq fun K hK => ?_ | refine aw_region (by kernel_rfl) ?_ | refine aw_condk ?_ | refine aw_block ?_) | ((with_reducible refine evg ?_); simp only [go_sem, ↓reduceIte, Nat.reduceEqDiff, Nat.reduceBEq, Nat.reduceAdd, Nat.reduceMul, Nat.reduceSub, Nat.reduceLT, Nat.reduceLeDiff]) | (simp (disch := omega) only [wr, drop_at, str_at, int_at, Int.reduceSub, Int.reduceAdd, Int.reduceToNat, Int.toNat_zero, nums_at]) | ((with_reducible refine ev_guard ?_); (with_reducible first | refine guard_t ?_ ?_ rfl | refine guard_f ?_ ?_ rfl) <;> (intro h; (try simp only [h]); (try simp only [nrm] at h) <;> (try ((with_reducible exfalso); omega)))) | ((with_reducible refine ck_split (fun h => ?_) (fun h => ?_)) <;> (try simp only [nrm] at h) <;> (try ((with_reducible exfalso); omega))) | ((with_reducible refine And.intro ?_ ?_); (first | omega | focus (simp; done) | focus (simp; omega) | focus ((repeat' (with_reducible refine And.intro ?_ ?_)) <;> first | omega | rfl | (simp only [go_sem, refsL_app, refs_dmap] <;> fail) | (simp [refsL_app, refs_dmap, AV.refsL, AV.refs] <;> omega)))) | ((with_reducible first | apply hK | (clear hK K; first | apply hK | (clear hK K; first | apply hK | (clear hK K; apply hK)))); clear hK K) | fail)
    · exact absurd trivial h
    · refine ⟨i + 1, ?_, ?_, by (refine lessW_of [] rfl ?_ <;> simp only [St.sws, St.sw, swS, swO, AV.sw, AV.swL, OB.sw, swp, St.upd, dropS, dropOs, Less, SubS, SubO, look, lookO, List.elem, List.cons_append, List.nil_append, cond_true, cond_false, and_true, true_and, beq_self_eq_true, ↓reduceIte, Nat.reduceEqDiff, Nat.reduceBEq, Nat.reduceAdd, Nat.reduceMul, Nat.reduceSub, Nat.reduceLT, Nat.reduceLeDiff] <;> try simp); omega⟩
      · omega
      · omega
    · (first | refine res_tmp rfl (by simp [D.plain, plains]) (by simp) ?_ | refine res_at rfl (by simp [D.plain, plains]) (by simp) ?_ | refine res_two rfl (by simp [D.plain, plains]) (by simp) ?_ | refine res_three rfl (by simp [D.plain, plains]) (by simp) ?_)
      have e : i = n := by omega
      rw [e]

end Go.Proofs.YtdeobicgildamaaDoor
