/- A predicate over a list of pointers into one object. -/
import Derived.Test.YteimddagjikcaaaSlv
import Derived.WalkKit
import Derived.WalkSpells
import Derived.KernelRfl
namespace Go.Proofs.Yteimddagjikcaaa
open Go.RowKit
set_option linter.unusedVariables false
set_option linter.unusedSimpArgs false

attribute [local go_sem] ArmsV.d ArmsV.cs SlV.cs slL skD skO

def notG (x : ArmsV) (o : Nat) : Bool := plV x o != 1

theorem bp_at {s i : Nat} {l : List Nat} (h : i < l.length) : (l.map (AV.bp s)).getD i .un = .bp s (l.getD i 0) := by
  simp [List.getD_eq_getElem?_getD, h]

theorem bp_refs {s t : Nat} (h : ¬ s = t) : ∀ l : List Nat, AV.refsL t (l.map (AV.bp s)) = false
  | [] => rfl
  | o :: l => by
    simp only [List.map_cons, AV.refsL, AV.refs, bp_refs h l, Bool.or_false]
    rw [beq_eq_false_iff_ne]
    exact h

theorem bp_nofns (s : Nat) : ∀ l : List Nat, AV.nofns (l.map (AV.bp s)) = true
  | [] => rfl
  | o :: l => by simp only [List.map_cons, AV.nofns, AV.nofn, bp_nofns s l, Bool.and_self]

attribute [local simp] bp_refs bp_nofns skO

set_option maxRecDepth 100000 in
set_option maxHeartbeats 4000000 in
theorem gold2_hi (x : ArmsV) (sd : D) (offs : List Nat) (o : Nat) (h : o = 6 ∨ o = 10 ∨ o = 14) : FnS Try.prog 113 [(5000, skO x sd), (5001, .av (offs.map (AV.bp 5000)))] [.bp 5000 o] [(5000, skO x sd), (5001, .av (offs.map (AV.bp 5000)))] (.d (.bool (notG x o))) := by
  unfold notG
  rcases h with rfl | rfl | rfl
  all_goals
    refine fns_go Try.func113 rfl rfl Try.ntmps113 Try.results113 (by simp only [slotsA, Nat.reduceAdd]; rfl) (by simp) rfl ?_
    repeat' (first | (with_reducible first | refine aw_seq fun K hK => ?_ | refine aw_region (by kernel_rfl) ?_ | refine aw_condk ?_ | refine aw_block ?_) | ((with_reducible refine evg ?_); simp only [go_sem, ↓reduceIte, Nat.reduceEqDiff, Nat.reduceBEq, Nat.reduceAdd, Nat.reduceMul, Nat.reduceSub, Nat.reduceLT, Nat.reduceLeDiff]) | (simp (disch := omega) only [wr, drop_at, str_at, int_at, Int.reduceSub, Int.reduceAdd, Int.reduceToNat, Int.toNat_zero, wr]) | ((with_reducible refine ev_guard ?_); (with_reducible first | refine guard_t ?_ ?_ rfl | refine guard_f ?_ ?_ rfl) <;> (intro h; (try simp only [h]); (try simp only [nrm] at h) <;> (try ((with_reducible exfalso); omega)))) | ((with_reducible refine ck_split (fun h => ?_) (fun h => ?_)) <;> (try simp only [nrm] at h) <;> (try ((with_reducible exfalso); omega))) | ((with_reducible refine And.intro ?_ ?_); (first | omega | focus (simp; done) | focus (simp; omega) | focus ((repeat' (with_reducible refine And.intro ?_ ?_)) <;> first | omega | rfl | (simp only [go_sem, refsL_app, refs_dmap] <;> fail) | (simp [refsL_app, refs_dmap, AV.refsL, AV.refs] <;> omega)))) | ((with_reducible first | apply hK | (clear hK K; first | apply hK | (clear hK K; first | apply hK | (clear hK K; apply hK)))); clear hK K) | fail)
    exact ress_tmp (by simp [lensO, lookO, obCells]) ⟨rfl, rfl, trivial⟩ rfl

set_option maxRecDepth 100000 in
set_option maxHeartbeats 4000000 in
theorem indexP_hi (x : ArmsV) (sd : D) (offs : List Nat) (hin : ∀ o ∈ offs, o = 6 ∨ o = 10 ∨ o = 14) (hl : offs.length ≤ 3) : FnS Try.prog 127 [(5000, skO x sd), (5001, .av (offs.map (AV.bp 5000)))] [.bs 5001 0 offs.length 1, .fc 113 [] []] [(5000, skO x sd), (5001, .av (offs.map (AV.bp 5000)))] (.d (.int (idxR offs (notG x)))) := by
  have hml : (offs.map (AV.bp 5000)).length = offs.length := by simp
  refine fns_go Try.func127 rfl rfl Try.ntmps127 Try.results127 (by simp only [slotsA, Nat.reduceAdd]; rfl) (by simp) rfl ?_
  repeat' (first | (with_reducible first | refine aw_seq fun K hK => ?_ | refine aw_region (by kernel_rfl) ?_ | refine aw_condk ?_ | refine aw_block ?_) | ((with_reducible refine evg ?_); simp only [go_sem, ↓reduceIte, Nat.reduceEqDiff, Nat.reduceBEq, Nat.reduceAdd, Nat.reduceMul, Nat.reduceSub, Nat.reduceLT, Nat.reduceLeDiff]) | (simp (disch := omega) only [wr, drop_at, str_at, int_at, Int.reduceSub, Int.reduceAdd, Int.reduceToNat, Int.toNat_zero, wr]) | ((with_reducible refine ev_guard ?_); (with_reducible first | refine guard_t ?_ ?_ rfl | refine guard_f ?_ ?_ rfl) <;> (intro h; (try simp only [h]); (try simp only [nrm] at h) <;> (try ((with_reducible exfalso); omega)))) | ((with_reducible refine ck_split (fun h => ?_) (fun h => ?_)) <;> (try simp only [nrm] at h) <;> (try ((with_reducible exfalso); omega))) | ((with_reducible refine And.intro ?_ ?_); (first | omega | focus (simp; done) | focus (simp; omega) | focus ((repeat' (with_reducible refine And.intro ?_ ?_)) <;> first | omega | rfl | (simp only [go_sem, refsL_app, refs_dmap] <;> fail) | (simp [refsL_app, refs_dmap, AV.refsL, AV.refs] <;> omega)))) | ((with_reducible first | apply hK | (clear hK K; first | apply hK | (clear hK K; first | apply hK | (clear hK K; apply hK)))); clear hK K) | fail)
  refine aw_loopU [4, 5, 8, 9, 10, 11, 12, 13, 14, 15, 16, 17, 18] [16] (fun i : Nat => [(8, .d (.int i))]) (fun _ => []) (fun i => i ≤ offs.length ∧ (offs.take i).all (fun o => !notG x o) = true) (fun i => offs.length - i) 0 ⟨by omega, rfl⟩ ?_ ?_
  · (refine lessW_of [] rfl ?_ <;> simp only [St.sws, St.sw, swS, swO, AV.sw, AV.swL, OB.sw, swp, St.upd, dropS, dropOs, Less, SubS, SubO, look, lookO, List.elem, List.cons_append, List.nil_append, cond_true, cond_false, and_true, true_and, beq_self_eq_true, ↓reduceIte, Nat.reduceEqDiff, Nat.reduceBEq, Nat.reduceAdd, Nat.reduceMul, Nat.reduceSub, Nat.reduceLT, Nat.reduceLeDiff] <;> try simp)
  · rintro i ⟨g1, g2⟩
    simp only [St.upd, dropS, dropOs, List.elem, List.cons_append, List.nil_append, cond_true, cond_false, beq_self_eq_true, ↓reduceIte, Nat.reduceEqDiff, Nat.reduceBEq, Nat.reduceAdd, Nat.reduceMul, Nat.reduceSub, Nat.reduceLT, Nat.reduceLeDiff]
    by_cases hi : i < offs.length
    · have e := gold2_hi x sd offs (offs.getD i 0) (hin _ (getD_mem 0 hi))
      have hat := bp_at (s := 5000) hi
      repeat' (first | (with_reducible first | refine aw_seq fun K hK => ?_ | refine aw_region (by kernel_rfl) ?_ | refine aw_condk ?_ | refine aw_block ?_) | ((with_reducible refine evg ?_); simp only [go_sem, ↓reduceIte, Nat.reduceEqDiff, Nat.reduceBEq, Nat.reduceAdd, Nat.reduceMul, Nat.reduceSub, Nat.reduceLT, Nat.reduceLeDiff]) | (simp (disch := omega) only [wr, drop_at, str_at, int_at, Int.reduceSub, Int.reduceAdd, Int.reduceToNat, Int.toNat_zero, hat, hml, wr]) | ((with_reducible refine ev_call ?_); (first | (refine call_s e ?_ ?_ ?_ ?_ ?_; (focus rfl); (focus first | exact trivial | exact And.intro rfl trivial | exact ⟨rfl, rfl, trivial⟩ | exact ⟨rfl, rfl, rfl, trivial⟩); (focus rfl); (focus (simp [-List.map_map, apartO, dropO, killN, obCells, refs_dmap, nofnsD, AV.refs, AV.refsL, AV.nofn, AV.nofns] <;> fail)))); refine k_run ?_) | ((with_reducible refine ev_guard ?_); (with_reducible first | refine guard_t ?_ ?_ rfl | refine guard_f ?_ ?_ rfl) <;> (intro h; (try simp only [h]); (try simp only [nrm] at h) <;> (try ((with_reducible exfalso); omega)))) | ((with_reducible refine ck_split (fun h => ?_) (fun h => ?_)) <;> (try simp only [nrm] at h) <;> (try ((with_reducible exfalso); omega))) | ((with_reducible refine And.intro ?_ ?_); (first | omega | focus (simp; done) | focus (simp; omega) | focus ((repeat' (with_reducible refine And.intro ?_ ?_)) <;> first | omega | rfl | (simp only [go_sem, refsL_app, refs_dmap] <;> fail) | (simp [refsL_app, refs_dmap, AV.refsL, AV.refs] <;> omega)))) | ((with_reducible first | apply hK | (clear hK K; first | apply hK | (clear hK K; first | apply hK | (clear hK K; apply hK)))); clear hK K) | fail)
      · refine ress_tmp (by simp [lensO, lookO, obCells]) ⟨rfl, rfl, trivial⟩ ?_
        rw [idxR_at 0 hi g2 h]
        rfl
      · refine ⟨i + 1, ⟨by omega, allR_take 0 (p := fun o => !notG x o) g2 hi (by rw [h]; rfl)⟩, by omega, by (refine lessW_of [] rfl ?_ <;> simp only [St.sws, St.sw, swS, swO, AV.sw, AV.swL, OB.sw, swp, St.upd, dropS, dropOs, Less, SubS, SubO, look, lookO, List.elem, List.cons_append, List.nil_append, cond_true, cond_false, and_true, true_and, beq_self_eq_true, ↓reduceIte, Nat.reduceEqDiff, Nat.reduceBEq, Nat.reduceAdd, Nat.reduceMul, Nat.reduceSub, Nat.reduceLT, Nat.reduceLeDiff] <;> try simp)⟩
    · repeat' (first | (with_reducible first | refine aw_seq fun K hK => ?_ | refine aw_region (by kernel_rfl) ?_ | refine aw_condk ?_ | refine aw_block ?_) | ((with_reducible refine evg ?_); simp only [go_sem, ↓reduceIte, Nat.reduceEqDiff, Nat.reduceBEq, Nat.reduceAdd, Nat.reduceMul, Nat.reduceSub, Nat.reduceLT, Nat.reduceLeDiff]) | (simp (disch := omega) only [wr, drop_at, str_at, int_at, Int.reduceSub, Int.reduceAdd, Int.reduceToNat, Int.toNat_zero, wr]) | ((with_reducible refine ev_guard ?_); (with_reducible first | refine guard_t ?_ ?_ rfl | refine guard_f ?_ ?_ rfl) <;> (intro h; (try simp only [h]); (try simp only [nrm] at h) <;> (try ((with_reducible exfalso); omega)))) | ((with_reducible refine ck_split (fun h => ?_) (fun h => ?_)) <;> (try simp only [nrm] at h) <;> (try ((with_reducible exfalso); omega))) | ((with_reducible refine And.intro ?_ ?_); (first | omega | focus (simp; done) | focus (simp; omega) | focus ((repeat' (with_reducible refine And.intro ?_ ?_)) <;> first | omega | rfl | (simp only [go_sem, refsL_app, refs_dmap] <;> fail) | (simp [refsL_app, refs_dmap, AV.refsL, AV.refs] <;> omega)))) | ((with_reducible first | apply hK | (clear hK K; first | apply hK | (clear hK K; first | apply hK | (clear hK K; apply hK)))); clear hK K) | fail)
      have e : offs.take i = offs := List.take_of_length_le (by omega)
      rw [e] at g2
      refine ress_tmp (by simp [lensO, lookO, obCells]) ⟨rfl, rfl, trivial⟩ ?_
      simp [idxR, g2]
      rfl

set_option maxRecDepth 100000 in
set_option maxHeartbeats 4000000 in
theorem containsP_hi (x : ArmsV) (sd : D) (offs : List Nat) (hin : ∀ o ∈ offs, o = 6 ∨ o = 10 ∨ o = 14) (hl : offs.length ≤ 3) : FnS Try.prog 112 [(5000, skO x sd), (5001, .av (offs.map (AV.bp 5000)))] [.bs 5001 0 offs.length 1, .fc 113 [] []] [(5000, skO x sd), (5001, .av (offs.map (AV.bp 5000)))] (.d (.bool (!offs.all (fun o => !notG x o)))) := by
  have e1 := indexP_hi x sd offs hin hl
  have hR : decide (0 ≤ idxR offs (notG x)) = !offs.all (fun o => !notG x o) := by
    unfold idxR
    cases offs.all (fun o => !notG x o) <;> simp
  rw [← hR]
  generalize idxR offs (notG x) = r at *
  refine fns_go Try.func112 rfl rfl Try.ntmps112 Try.results112 (by simp only [slotsA, Nat.reduceAdd]; rfl) (by simp) rfl ?_
  repeat' (first | (with_reducible first | refine aw_seq fun K hK => ?_ | refine aw_region (by kernel_rfl) ?_ | refine aw_condk ?_ | refine aw_block ?_) | ((with_reducible refine evg ?_); simp only [go_sem, ↓reduceIte, Nat.reduceEqDiff, Nat.reduceBEq, Nat.reduceAdd, Nat.reduceMul, Nat.reduceSub, Nat.reduceLT, Nat.reduceLeDiff]) | (simp (disch := omega) only [wr, drop_at, str_at, int_at, Int.reduceSub, Int.reduceAdd, Int.reduceToNat, Int.toNat_zero, wr]) | ((with_reducible refine ev_call ?_); (first | (refine call_s e1 ?_ ?_ ?_ ?_ ?_; (focus rfl); (focus first | exact trivial | exact And.intro rfl trivial | exact ⟨rfl, rfl, trivial⟩ | exact ⟨rfl, rfl, rfl, trivial⟩); (focus rfl); (focus (simp [-List.map_map, apartO, dropO, killN, obCells, refs_dmap, nofnsD, AV.refs, AV.refsL, AV.nofn, AV.nofns] <;> fail)))); refine k_run ?_) | ((with_reducible refine ev_guard ?_); (with_reducible first | refine guard_t ?_ ?_ rfl | refine guard_f ?_ ?_ rfl) <;> (intro h; (try simp only [h]); (try simp only [nrm] at h) <;> (try ((with_reducible exfalso); omega)))) | ((with_reducible refine ck_split (fun h => ?_) (fun h => ?_)) <;> (try simp only [nrm] at h) <;> (try ((with_reducible exfalso); omega))) | ((with_reducible refine And.intro ?_ ?_); (first | omega | focus (simp; done) | focus (simp; omega) | focus ((repeat' (with_reducible refine And.intro ?_ ?_)) <;> first | omega | rfl | (simp only [go_sem, refsL_app, refs_dmap] <;> fail) | (simp [refsL_app, refs_dmap, AV.refsL, AV.refs] <;> omega)))) | ((with_reducible first | apply hK | (clear hK K; first | apply hK | (clear hK K; first | apply hK | (clear hK K; apply hK)))); clear hK K) | fail)
  exact ress_tmp (by simp [lensO, lookO, obCells]) ⟨rfl, rfl, trivial⟩ rfl

set_option maxRecDepth 100000 in
set_option maxHeartbeats 4000000 in
theorem indexP_nil (x : ArmsV) (sd : D) : FnS Try.prog 127 [(5000, skO x sd), (5001, .ds [])] [.bs 5001 0 0 1, .fc 113 [] []] [(5000, skO x sd), (5001, .ds [])] (.d (.int (-1))) := by
  refine fns_go Try.func127 rfl rfl Try.ntmps127 Try.results127 (by simp only [slotsA, Nat.reduceAdd]; rfl) (by simp) rfl ?_
  repeat' (first | (with_reducible first | refine aw_seq fun K hK => ?_ | refine aw_region (by kernel_rfl) ?_ | refine aw_condk ?_ | refine aw_block ?_) | ((with_reducible refine evg ?_); simp only [go_sem, ↓reduceIte, Nat.reduceEqDiff, Nat.reduceBEq, Nat.reduceAdd, Nat.reduceMul, Nat.reduceSub, Nat.reduceLT, Nat.reduceLeDiff]) | (simp (disch := omega) only [wr, drop_at, str_at, int_at, Int.reduceSub, Int.reduceAdd, Int.reduceToNat, Int.toNat_zero, wr]) | ((with_reducible refine ev_guard ?_); (with_reducible first | refine guard_t ?_ ?_ rfl | refine guard_f ?_ ?_ rfl) <;> (intro h; (try simp only [h]); (try simp only [nrm] at h) <;> (try ((with_reducible exfalso); omega)))) | ((with_reducible refine ck_split (fun h => ?_) (fun h => ?_)) <;> (try simp only [nrm] at h) <;> (try ((with_reducible exfalso); omega))) | ((with_reducible refine And.intro ?_ ?_); (first | omega | focus (simp; done) | focus (simp; omega) | focus ((repeat' (with_reducible refine And.intro ?_ ?_)) <;> first | omega | rfl | (simp only [go_sem, refsL_app, refs_dmap] <;> fail) | (simp [refsL_app, refs_dmap, AV.refsL, AV.refs] <;> omega)))) | ((with_reducible first | apply hK | (clear hK K; first | apply hK | (clear hK K; first | apply hK | (clear hK K; apply hK)))); clear hK K) | fail)
  refine aw_loopU [4, 5, 8, 9, 10, 11, 12, 13, 14, 15, 16, 17, 18] [16] (fun i : Nat => [(8, .d (.int i))]) (fun _ => []) (fun i => i = 0) (fun i => i) 0 rfl ?_ ?_
  · (refine lessW_of [] rfl ?_ <;> simp only [St.sws, St.sw, swS, swO, AV.sw, AV.swL, OB.sw, swp, St.upd, dropS, dropOs, Less, SubS, SubO, look, lookO, List.elem, List.cons_append, List.nil_append, cond_true, cond_false, and_true, true_and, beq_self_eq_true, ↓reduceIte, Nat.reduceEqDiff, Nat.reduceBEq, Nat.reduceAdd, Nat.reduceMul, Nat.reduceSub, Nat.reduceLT, Nat.reduceLeDiff] <;> try simp)
  · rintro i g1
    simp only [St.upd, dropS, dropOs, List.elem, List.cons_append, List.nil_append, cond_true, cond_false, beq_self_eq_true, ↓reduceIte, Nat.reduceEqDiff, Nat.reduceBEq, Nat.reduceAdd, Nat.reduceMul, Nat.reduceSub, Nat.reduceLT, Nat.reduceLeDiff]
    repeat' (first | (with_reducible first | refine aw_seq fun K hK => ?_ | refine aw_region (by kernel_rfl) ?_ | refine aw_condk ?_ | refine aw_block ?_) | ((with_reducible refine evg ?_); simp only [go_sem, ↓reduceIte, Nat.reduceEqDiff, Nat.reduceBEq, Nat.reduceAdd, Nat.reduceMul, Nat.reduceSub, Nat.reduceLT, Nat.reduceLeDiff]) | (simp (disch := omega) only [wr, drop_at, str_at, int_at, Int.reduceSub, Int.reduceAdd, Int.reduceToNat, Int.toNat_zero, wr]) | ((with_reducible refine ev_guard ?_); (with_reducible first | refine guard_t ?_ ?_ rfl | refine guard_f ?_ ?_ rfl) <;> (intro h; (try simp only [h]); (try simp only [nrm] at h) <;> (try ((with_reducible exfalso); omega)))) | ((with_reducible refine ck_split (fun h => ?_) (fun h => ?_)) <;> (try simp only [nrm] at h) <;> (try ((with_reducible exfalso); omega))) | ((with_reducible refine And.intro ?_ ?_); (first | omega | focus (simp; done) | focus (simp; omega) | focus ((repeat' (with_reducible refine And.intro ?_ ?_)) <;> first | omega | rfl | (simp only [go_sem, refsL_app, refs_dmap] <;> fail) | (simp [refsL_app, refs_dmap, AV.refsL, AV.refs] <;> omega)))) | ((with_reducible first | apply hK | (clear hK K; first | apply hK | (clear hK K; first | apply hK | (clear hK K; apply hK)))); clear hK K) | fail)
    exact ress_tmp (by simp [lensO, lookO, obCells]) ⟨rfl, rfl, trivial⟩ rfl

set_option maxRecDepth 100000 in
set_option maxHeartbeats 4000000 in
theorem containsP_nil (x : ArmsV) (sd : D) : FnS Try.prog 112 [(5000, skO x sd), (5001, .ds [])] [.bs 5001 0 0 1, .fc 113 [] []] [(5000, skO x sd), (5001, .ds [])] (.d (.bool false)) := by
  have e1 := indexP_nil x sd
  refine fns_go Try.func112 rfl rfl Try.ntmps112 Try.results112 (by simp only [slotsA, Nat.reduceAdd]; rfl) (by simp) rfl ?_
  repeat' (first | (with_reducible first | refine aw_seq fun K hK => ?_ | refine aw_region (by kernel_rfl) ?_ | refine aw_condk ?_ | refine aw_block ?_) | ((with_reducible refine evg ?_); simp only [go_sem, ↓reduceIte, Nat.reduceEqDiff, Nat.reduceBEq, Nat.reduceAdd, Nat.reduceMul, Nat.reduceSub, Nat.reduceLT, Nat.reduceLeDiff]) | (simp (disch := omega) only [wr, drop_at, str_at, int_at, Int.reduceSub, Int.reduceAdd, Int.reduceToNat, Int.toNat_zero, wr]) | ((with_reducible refine ev_call ?_); (first | (refine call_s e1 ?_ ?_ ?_ ?_ ?_; (focus rfl); (focus first | exact trivial | exact And.intro rfl trivial | exact ⟨rfl, rfl, trivial⟩ | exact ⟨rfl, rfl, rfl, trivial⟩); (focus rfl); (focus (simp [-List.map_map, apartO, dropO, killN, obCells, refs_dmap, nofnsD, AV.refs, AV.refsL, AV.nofn, AV.nofns] <;> fail)))); refine k_run ?_) | ((with_reducible refine ev_guard ?_); (with_reducible first | refine guard_t ?_ ?_ rfl | refine guard_f ?_ ?_ rfl) <;> (intro h; (try simp only [h]); (try simp only [nrm] at h) <;> (try ((with_reducible exfalso); omega)))) | ((with_reducible refine ck_split (fun h => ?_) (fun h => ?_)) <;> (try simp only [nrm] at h) <;> (try ((with_reducible exfalso); omega))) | ((with_reducible refine And.intro ?_ ?_); (first | omega | focus (simp; done) | focus (simp; omega) | focus ((repeat' (with_reducible refine And.intro ?_ ?_)) <;> first | omega | rfl | (simp only [go_sem, refsL_app, refs_dmap] <;> fail) | (simp [refsL_app, refs_dmap, AV.refsL, AV.refs] <;> omega)))) | ((with_reducible first | apply hK | (clear hK K; first | apply hK | (clear hK K; first | apply hK | (clear hK K; apply hK)))); clear hK K) | fail)
  exact ress_tmp (by simp [lensO, lookO, obCells]) ⟨rfl, rfl, trivial⟩ rfl

theorem plO_sw1 (l : List Nat) : (plO 5000 l).sw 5000 1 = plO 1 l := by
  cases l with
  | nil => rfl
  | cons o l =>
    simp only [plO, OB.sw]
    congr 1
    generalize o :: l = m
    induction m with
    | nil => rfl
    | cons o m ih =>
      simp only [List.map_cons, AV.swL, AV.sw, ih]
      rfl

theorem plO_sw2 (l : List Nat) : (plO 1 l).sw 5001 14 = plO 1 l := by
  cases l with
  | nil => rfl
  | cons o l =>
    simp only [plO, OB.sw]
    congr 1
    generalize o :: l = m
    induction m with
    | nil => rfl
    | cons o m ih =>
      simp only [List.map_cons, AV.swL, AV.sw, ih]
      rfl

theorem places_at (x : ArmsV) (sd : D) : FnS Try.prog 111 [(1, skO x sd)] [.bp 1 0] [(1, skO x sd), (14, plO 1 (plL x))] (.bs 14 0 (plL x).length 1) := by
  have q := ((places_hi x sd).sw 5000 1).sw 5001 14
  have hs1 : (skO x sd).sw 5000 1 = skO x sd := rfl
  have hs2 : (skO x sd).sw 5001 14 = skO x sd := rfl
  simpa only [swO, hs1, hs2, plO_sw1, plO_sw2, AV.sw, AV.swL, swp, Nat.reduceEqDiff, ↓reduceIte] using q

theorem contains_hi (x : ArmsV) (sd : D) (offs : List Nat) (hin : ∀ o ∈ offs, o = 6 ∨ o = 10 ∨ o = 14) (hl : offs.length ≤ 3) : FnS Try.prog 112 [(5000, skO x sd), (5001, plO 5000 offs)] [.bs 5001 0 offs.length 1, .fc 113 [] []] [(5000, skO x sd), (5001, plO 5000 offs)] (.d (.bool (!offs.all (fun o => !notG x o)))) := by
  cases offs with
  | nil => exact containsP_nil x sd
  | cons o l => exact containsP_hi x sd (o :: l) hin hl

theorem contains_at (x : ArmsV) (sd : D) (offs : List Nat) (hin : ∀ o ∈ offs, o = 6 ∨ o = 10 ∨ o = 14) (hl : offs.length ≤ 3) : FnS Try.prog 112 [(1, skO x sd), (14, plO 1 offs)] [.bs 14 0 offs.length 1, .fc 113 [] []] [(1, skO x sd), (14, plO 1 offs)] (.d (.bool (!offs.all (fun o => !notG x o)))) := by
  have q := ((contains_hi x sd offs hin hl).sw 5000 1).sw 5001 14
  have hs1 : (skO x sd).sw 5000 1 = skO x sd := rfl
  have hs2 : (skO x sd).sw 5001 14 = skO x sd := rfl
  simpa only [swO, hs1, hs2, plO_sw1, plO_sw2, AV.sw, AV.swL, swp, Nat.reduceEqDiff, ↓reduceIte] using q

def goldA (x : ArmsV) : Bool := (plL x).all (fun o => !notG x o)

def lastOk (l : List SlV) : Bool := decide (l.length = 0) || (l.getD (l.length - 1) SlV.zero).m != 5

def okSk (x : ArmsV) (l : List SlV) : Bool := okArms x && (l.all (fun s => okSlot s.m s.n) && (decide (l.length = (plL x).length) && (lastOk l && goldA x)))

end Go.Proofs.Yteimddagjikcaaa
