/- The law of a person put into a family. -/
import Derived.Test.YthjafngffkhffaaAddS
import Derived.WalkKit
import Derived.WalkSpells
import Derived.KernelRfl
namespace Go.Proofs.Ythjafngffkhffaa
open Go.RowKit
set_option linter.unusedVariables false
set_option linter.unusedSimpArgs false

attribute [local go_sem] PerV.d PerV.cs perL famD

attribute [local simp] refs_dmap perC_all perC_plains

set_option maxRecDepth 100000 in
set_option maxHeartbeats 4000000 in
theorem heldPersonS_fn (k : Int) (n : Nat) (hl : n ≤ 1048576) (h0 : 0 ≤ k) (h1 : k ≤ 1000000000000) : FnD Try.prog 83 [.ls 5 n (perC (perN k n)), .int k] (.int (k + n * 5)) := by
  have hlen : (perC (perN k n)).length = n * 5 := by simp
  refine fn_go Try.func83 rfl rfl Try.ntmps83 Try.results83 (by simp only [slotsOf, argAV, List.map_cons, List.map_nil, Nat.reduceAdd]; rfl) (by simp) ?_
  repeat' (first | (with_reducible first | refine aw_seq fun K hK => ?_ | refine aw_region (by kernel_rfl) ?_ | refine aw_condk ?_ | refine aw_block ?_) | ((with_reducible refine evg ?_); simp only [go_sem, ↓reduceIte, Nat.reduceEqDiff, Nat.reduceBEq, Nat.reduceAdd, Nat.reduceMul, Nat.reduceSub, Nat.reduceLT, Nat.reduceLeDiff]) | ((with_reducible refine ev_guard ?_); (with_reducible first | refine guard_t ?_ ?_ rfl | refine guard_f ?_ ?_ rfl) <;> (intro h; (try simp only [h]); (try simp only [nrm] at h))) | ((with_reducible refine ck_split (fun h => ?_) (fun h => ?_)) <;> (try simp only [nrm] at h)) | ((with_reducible refine And.intro ?_ ?_); (first | omega | focus (simp; done) | focus (simp; omega) | focus ((repeat' (with_reducible refine And.intro ?_ ?_)) <;> first | omega | rfl | (simp only [go_sem, refsL_app, refs_dmap] <;> fail) | (simp [refsL_app, refs_dmap, AV.refsL, AV.refs] <;> omega)))) | ((with_reducible first | apply hK | (clear hK K; first | apply hK | (clear hK K; first | apply hK | (clear hK K; apply hK)))); clear hK K) | (simp (disch := omega) only [wr, drop_at, str_at, int_at, Int.reduceSub, Int.reduceAdd, Int.reduceToNat, Int.toNat_zero]) | fail)
  refine aw_loopU [1, 4, 5, 6, 7, 8, 9, 10, 11, 12, 13, 14, 15, 16, 17, 18, 19, 20, 21, 22, 23, 24, 25, 26, 27, 28, 29, 30, 31, 32, 33, 34, 35, 36, 37, 38, 39, 40, 41, 42, 43, 44, 45, 46, 47, 48, 49, 50, 51, 52, 53, 54, 55, 56] [8] (fun i : Nat => [(5, .d (.int i)), (1, .d (.int (k + i * 5)))]) (fun _ => []) (fun i => i ≤ n) (fun i => n - i) 0 (by omega) ?_ ?_
  · (refine lessW_of [] rfl ?_ <;> simp only [St.sws, St.sw, swS, swO, AV.sw, AV.swL, OB.sw, swp, St.upd, dropS, dropOs, Less, SubS, SubO, look, lookO, List.elem, List.cons_append, List.nil_append, cond_true, cond_false, and_true, true_and, beq_self_eq_true, ↓reduceIte, Nat.reduceEqDiff, Nat.reduceBEq, Nat.reduceAdd, Nat.reduceMul, Nat.reduceSub, Nat.reduceLT, Nat.reduceLeDiff] <;> try simp)
  · rintro i g1
    simp only [St.upd, dropS, dropOs, List.elem, List.cons_append, List.nil_append, cond_true, cond_false, beq_self_eq_true, ↓reduceIte, Nat.reduceEqDiff, Nat.reduceBEq, Nat.reduceAdd, Nat.reduceMul, Nat.reduceSub, Nat.reduceLT, Nat.reduceLeDiff]
    by_cases hi : i < n
    · have q0 := perN_get0 (k := k) hi
      have q1 := perN_get (k := k) (j := 1) hi (by omega)
      have q2 := perN_get (k := k) (j := 2) hi (by omega)
      have q3 := perN_get (k := k) (j := 3) hi (by omega)
      have q4 := perN_get (k := k) (j := 4) hi (by omega)
      simp only [perAt, PerV.cs, List.getD_cons_zero, List.getD_cons_succ] at q0 q1 q2 q3 q4
      repeat' (first | (with_reducible first | refine aw_seq fun K hK => ?_ | refine aw_region (by kernel_rfl) ?_ | refine aw_condk ?_ | refine aw_block ?_) | ((with_reducible refine evg ?_); simp only [go_sem, ↓reduceIte, Nat.reduceEqDiff, Nat.reduceBEq, Nat.reduceAdd, Nat.reduceMul, Nat.reduceSub, Nat.reduceLT, Nat.reduceLeDiff]) | (simp (disch := omega) only [wr, drop_at, str_at, int_at, Int.reduceSub, Int.reduceAdd, Int.reduceToNat, Int.toNat_zero, q0, q1, q2, q3, q4, wr]) | ((with_reducible refine ev_guard ?_); (with_reducible first | refine guard_t ?_ ?_ rfl | refine guard_f ?_ ?_ rfl) <;> (intro h; (try simp only [h]); (try simp only [nrm] at h) <;> (try ((with_reducible exfalso); omega)))) | ((with_reducible refine ck_split (fun h => ?_) (fun h => ?_)) <;> (try simp only [nrm] at h) <;> (try ((with_reducible exfalso); omega))) | ((with_reducible refine And.intro ?_ ?_); (first | omega | focus (simp; done) | focus (simp; omega) | focus ((repeat' (with_reducible refine And.intro ?_ ?_)) <;> first | omega | rfl | (simp only [go_sem, refsL_app, refs_dmap] <;> fail) | (simp [refsL_app, refs_dmap, AV.refsL, AV.refs] <;> omega)))) | ((with_reducible first | apply hK | (clear hK K; first | apply hK | (clear hK K; first | apply hK | (clear hK K; apply hK)))); clear hK K) | fail)
      all_goals first
        | exact absurd trivial h
        | skip
      refine ⟨i + 1, by omega, by omega, ?_⟩
      (refine lessW_of [] rfl ?_ <;> simp only [St.sws, St.sw, swS, swO, AV.sw, AV.swL, OB.sw, swp, St.upd, dropS, dropOs, Less, SubS, SubO, look, lookO, List.elem, List.cons_append, List.nil_append, cond_true, cond_false, and_true, true_and, beq_self_eq_true, ↓reduceIte, Nat.reduceEqDiff, Nat.reduceBEq, Nat.reduceAdd, Nat.reduceMul, Nat.reduceSub, Nat.reduceLT, Nat.reduceLeDiff] <;> try simp)
      all_goals omega
    · repeat' (first | (with_reducible first | refine aw_seq fun K hK => ?_ | refine aw_region (by kernel_rfl) ?_ | refine aw_condk ?_ | refine aw_block ?_) | ((with_reducible refine evg ?_); simp only [go_sem, ↓reduceIte, Nat.reduceEqDiff, Nat.reduceBEq, Nat.reduceAdd, Nat.reduceMul, Nat.reduceSub, Nat.reduceLT, Nat.reduceLeDiff]) | (simp (disch := omega) only [wr, drop_at, str_at, int_at, Int.reduceSub, Int.reduceAdd, Int.reduceToNat, Int.toNat_zero, wr]) | ((with_reducible refine ev_guard ?_); (with_reducible first | refine guard_t ?_ ?_ rfl | refine guard_f ?_ ?_ rfl) <;> (intro h; (try simp only [h]); (try simp only [nrm] at h) <;> (try ((with_reducible exfalso); omega)))) | ((with_reducible refine ck_split (fun h => ?_) (fun h => ?_)) <;> (try simp only [nrm] at h) <;> (try ((with_reducible exfalso); omega))) | ((with_reducible refine And.intro ?_ ?_); (first | omega | focus (simp; done) | focus (simp; omega) | focus ((repeat' (with_reducible refine And.intro ?_ ?_)) <;> first | omega | rfl | (simp only [go_sem, refsL_app, refs_dmap] <;> fail) | (simp [refsL_app, refs_dmap, AV.refsL, AV.refs] <;> omega)))) | ((with_reducible first | apply hK | (clear hK K; first | apply hK | (clear hK K; first | apply hK | (clear hK K; apply hK)))); clear hK K) | fail)
      have e : i = n := by omega
      subst e
      (first | refine res_tmp rfl (by simp [D.plain, plains]) (by simp) ?_ | refine res_at rfl (by simp [D.plain, plains]) (by simp) ?_ | refine res_two rfl (by simp [D.plain, plains]) (by simp) ?_ | refine res_three rfl (by simp [D.plain, plains]) (by simp) ?_)
      rfl

theorem perNN_raw (k : Int) (n : Nat) : D.ls 5 n (((perC (perN k n)).drop 0).take (n * 5)) = D.ls 5 n (perC (perN k n)) := by
  rw [List.drop_zero, List.take_of_length_le (by simp)]

set_option maxRecDepth 100000 in
set_option maxHeartbeats 4000000 in
theorem heldFamily_fn (k : Int) (n : Nat) (hl : n ≤ 1048576) (h0 : 0 ≤ k) (h1 : k ≤ 1000000000000) : FnD Try.prog 41 [.ag [.ls 5 n (perC (perN k n))], .int k] (.int (k + n * 5)) := by
  have h := heldPersonS_fn k n hl h0 h1
  refine fn_go Try.func41 rfl rfl Try.ntmps41 Try.results41 (by simp only [slotsOf, argAV, List.map_cons, List.map_nil, Nat.reduceAdd]; rfl) (by simp) ?_
  repeat' (first | (with_reducible first | refine aw_seq fun K hK => ?_ | refine aw_region (by kernel_rfl) ?_ | refine aw_condk ?_ | refine aw_block ?_) | ((with_reducible refine evg ?_); simp only [go_sem, ↓reduceIte, Nat.reduceEqDiff, Nat.reduceBEq, Nat.reduceAdd, Nat.reduceMul, Nat.reduceSub, Nat.reduceLT, Nat.reduceLeDiff]) | (simp (disch := omega) only [wr, drop_at, str_at, int_at, Int.reduceSub, Int.reduceAdd, Int.reduceToNat, Int.toNat_zero, wr]) | ((with_reducible refine ev_call ?_); (first | (refine call_fn h rfl ?_)); refine k_run ?_) | ((with_reducible refine ev_guard ?_); (with_reducible first | refine guard_t ?_ ?_ rfl | refine guard_f ?_ ?_ rfl) <;> (intro h; (try simp only [h]); (try simp only [nrm] at h) <;> (try ((with_reducible exfalso); omega)))) | ((with_reducible refine ck_split (fun h => ?_) (fun h => ?_)) <;> (try simp only [nrm] at h) <;> (try ((with_reducible exfalso); omega))) | ((with_reducible refine And.intro ?_ ?_); (first | omega | focus (simp; done) | focus (simp; omega) | focus ((repeat' (with_reducible refine And.intro ?_ ?_)) <;> first | omega | rfl | (simp only [go_sem, refsL_app, refs_dmap] <;> fail) | (simp [refsL_app, refs_dmap, AV.refsL, AV.refs] <;> omega)))) | ((with_reducible first | apply hK | (clear hK K; first | apply hK | (clear hK K; first | apply hK | (clear hK K; apply hK)))); clear hK K) | fail)
  all_goals (first | refine res_tmp rfl (by simp [D.plain, plains]) (by simp) ?_ | refine res_at rfl (by simp [D.plain, plains]) (by simp) ?_ | refine res_two rfl (by simp [D.plain, plains]) (by simp) ?_ | refine res_three rfl (by simp [D.plain, plains]) (by simp) ?_ | skip)
  all_goals rfl

theorem addR_ex (l : List PerV) (p : PerV) : ∃ (L : List PerV) (ok : Bool), addR l p = .tu [famD L, .bool ok] ∧ L.length ≤ 17 := by
  unfold addR
  split
  · rename_i h
    rw [Bool.and_eq_true] at h
    exact ⟨_, _, rfl, by rw [insI_len]; have := okFam_len h.1; omega⟩
  · exact ⟨[], false, rfl, by simp⟩

theorem famA_opn (s : Nat) (l : List PerV) (b : Bool) : Opn (.tu [famD l, .bool b]) (.tu [.ag [.bs s 0 l.length 5], .d (.bool b)]) [(s, .ds (perC l))] :=
  opn_tu (opnL_cons (opn_ag (opnL_cons (opn_ls s (perC_plains l)) opnL_nil rfl)) (opnL_v opnL_nil) rfl)

set_option maxRecDepth 100000 in
theorem pl_AddL_11_5U (l : List Oper) (h : l = opsOf Try.f11 5) : planUB l (.pure 0 (.pure 2 (.two true 1 (.two true 3 (.two true 4 (.pure 5 (.pure 6 (.still 7 (.one true 8 (.one false 9 (.still 10 PU.fin)))))) true 8 (.one true 4 (.pure 5 (.pure 6 (.still 7 (.one false 9 (.still 10 PU.fin))))))) true 8 (.one true 3 (.one true 4 (.pure 5 (.pure 6 (.still 7 (.one false 9 (.still 10 PU.fin)))))))) true 8 (.one true 1 (.one true 3 (.one true 4 (.pure 5 (.pure 6 (.still 7 (.one false 9 (.still 10 PU.fin))))))))))) [9] = true := by
  subst h
  kernel_rfl

set_option maxRecDepth 100000 in
theorem pl_AddL_11_7U (l : List Oper) (h : l = opsOf Try.f11 7) : planUB l (.pure 0 (.pure 1 (.two true 2 (.two true 3 (.pure 4 (.pure 5 (.still 6 (.one true 7 (.one false 8 (.still 9 PU.fin)))))) true 7 (.one true 3 (.pure 4 (.pure 5 (.still 6 (.one false 8 (.still 9 PU.fin))))))) true 7 (.one true 2 (.one true 3 (.pure 4 (.pure 5 (.still 6 (.one false 8 (.still 9 PU.fin)))))))))) [8] = true := by
  subst h
  kernel_rfl

set_option maxRecDepth 100000 in
theorem pl_AddL_11_10 (l : List Oper) (h : l = opsOf Try.f11 10) : planB l (.pure 0 (.pure 1 (.one 2 (.one 3 (.pure 4 PT.fin))))) [] = true := by
  subst h
  kernel_rfl

set_option maxRecDepth 100000 in
theorem pl_AddL_11_24U (l : List Oper) (h : l = opsOf Try.f11 24) : planUB l (.pure 0 (.pure 2 (.two true 1 (.two true 3 (.two true 4 (.pure 5 (.pure 6 (.still 7 (.one true 8 (.one false 9 (.still 10 PU.fin)))))) true 8 (.one true 4 (.pure 5 (.pure 6 (.still 7 (.one false 9 (.still 10 PU.fin))))))) true 8 (.one true 3 (.one true 4 (.pure 5 (.pure 6 (.still 7 (.one false 9 (.still 10 PU.fin)))))))) true 8 (.one true 1 (.one true 3 (.one true 4 (.pure 5 (.pure 6 (.still 7 (.one false 9 (.still 10 PU.fin))))))))))) [9] = true := by
  subst h
  kernel_rfl

set_option maxRecDepth 100000 in
set_option maxHeartbeats 4000000 in
theorem fnExactAddPerson_fn (l : List PerV) (p : PerV) (hl : l.length ≤ 9223372036854775807) : FnD Try.prog 11 [famD l, p.d] (.bool true) := by
  have h1 := szFamily_fn l 1048576 hl (by omega) (by omega)
  by_cases g : (1048576 : Int) - l.length < 0
  · simp only [g, if_true] at h1
    refine fn_go Try.func11 rfl rfl Try.ntmps11 Try.results11 (by simp only [slotsOf, argAV, List.map_cons, List.map_nil, Nat.reduceAdd]; rfl) (by simp) ?_
    repeat' (first | (with_reducible first | refine aw_seq fun K hK => ?_ | refine aw_region (by kernel_rfl) ?_ | refine aw_condk ?_ | refine aw_block ?_) | ((with_reducible refine ev_aw ?_); first | (refine aw_drawJ (by kernel_rfl) (id := 5) _ _ (by kernel_rfl) (pl_AddL_11_5U _ (by kernel_rfl)) (fun KJ hJ => ?_)) | (refine aw_drawJ (by kernel_rfl) (id := 7) _ _ (by kernel_rfl) (pl_AddL_11_7U _ (by kernel_rfl)) (fun KJ hJ => ?_)) | (refine aw_draw (id := 10) (by kernel_rfl) _ _ (by kernel_rfl) (pl_AddL_11_10 _ (by kernel_rfl)) ?_) | (refine aw_drawJ (by kernel_rfl) (id := 24) _ _ (by kernel_rfl) (pl_AddL_11_24U _ (by kernel_rfl)) (fun KJ hJ => ?_))) | (with_reducible first | refine ru_four ?_ ?_ ?_ ?_ | refine ru_three ?_ ?_ ?_ | refine ru_two ?_ ?_ | refine rv_split ?_ ?_ | refine rv_two ?_ ?_ | refine rp_two ?_ ?_) | ((with_reducible refine evg ?_); simp only [go_sem, St.clean, cleanO, ↓reduceIte, Nat.reduceEqDiff, Nat.reduceBEq, Nat.reduceAdd, Nat.reduceMul, Nat.reduceSub, Nat.reduceLT, Nat.reduceLeDiff]) | (simp (disch := omega) only [wr, drop_at, str_at, int_at, Int.reduceSub, Int.reduceAdd, Int.reduceToNat, Int.toNat_zero, wr]) | ((with_reducible refine ev_call ?_); (first | (refine call_fn h1 rfl ?_)); refine k_run ?_) | ((with_reducible refine ev_guard ?_); (with_reducible first | refine guard_t ?_ ?_ rfl | refine guard_f ?_ ?_ rfl) <;> (intro h; (try simp only [h]); (try simp only [nrm] at h) <;> (try ((with_reducible exfalso); omega)))) | ((with_reducible refine ck_split (fun h => ?_) (fun h => ?_)) <;> (try simp only [nrm] at h) <;> (try ((with_reducible exfalso); omega))) | ((with_reducible refine And.intro ?_ ?_); (first | omega | focus (simp; done) | focus (simp; omega) | focus ((repeat' (with_reducible refine And.intro ?_ ?_)) <;> first | omega | rfl | (simp only [go_sem, refsL_app, refs_dmap] <;> fail) | (simp [refsL_app, refs_dmap, AV.refsL, AV.refs] <;> omega)))) | (with_reducible refine hJ _ (fun K hK => ?_) ?_ <;> clear hJ KJ) | ((with_reducible refine ev_less ?_); (refine ⟨rfl, ?_, ?_⟩ <;> simp only [go_sem, St.clean, cleanO, SubS, SubO, beq_self_eq_true, ↓reduceIte, Nat.reduceEqDiff, Nat.reduceBEq, Nat.reduceAdd, Nat.reduceMul, Nat.reduceSub, Nat.reduceLT, Nat.reduceLeDiff])) | ((with_reducible first | apply hK | (clear hK K; first | apply hK | (clear hK K; first | apply hK | (clear hK K; apply hK)))); clear hK K) | fail)
    (first | refine res_tmp rfl (by simp [D.plain, plains]) (by simp) ?_ | refine res_at rfl (by simp [D.plain, plains]) (by simp) ?_ | refine res_two rfl (by simp [D.plain, plains]) (by simp) ?_ | refine res_three rfl (by simp [D.plain, plains]) (by simp) ?_)
    rfl
  · simp only [g, if_false] at h1
    have hl' : l.length ≤ 1048576 := by omega
    have h2 := toFamily_fn l hl'
    have h2' := toPerson_fn p
    have h3 := specAdd_fn l p hl'
    have h4 := implAdd_fn l p hl'
    have h5 := eqFamily_fn l hl'
    obtain ⟨L, ok, e, hz⟩ := addR_ex l p
    have h6 := eqFamily_fn L (by omega)
    have h7 := heldFamily_fn 1 L.length (by omega) (by omega) (by omega)
    have h8 := markFamily_s 30 l 1 hl' (by omega) (by omega)
    have h9 := markFamily_s 35 L 1 (by omega) (by omega) (by omega)
    rw [e, famD, ← perC_raw l] at h3 h4
    rw [famD, ← perC_raw l] at h5
    refine fn_go Try.func11 rfl rfl Try.ntmps11 Try.results11 (by simp only [slotsOf, argAV, List.map_cons, List.map_nil, Nat.reduceAdd]; rfl) (by simp) ?_
    repeat' (first | (with_reducible first | refine aw_seq fun K hK => ?_ | refine aw_region (by kernel_rfl) ?_ | refine aw_condk ?_ | refine aw_block ?_) | ((with_reducible refine ev_aw ?_); first | (refine aw_drawJ (by kernel_rfl) (id := 5) _ _ (by kernel_rfl) (pl_AddL_11_5U _ (by kernel_rfl)) (fun KJ hJ => ?_)) | (refine aw_drawJ (by kernel_rfl) (id := 7) _ _ (by kernel_rfl) (pl_AddL_11_7U _ (by kernel_rfl)) (fun KJ hJ => ?_)) | (refine aw_draw (id := 10) (by kernel_rfl) _ _ (by kernel_rfl) (pl_AddL_11_10 _ (by kernel_rfl)) ?_) | (refine aw_drawJ (by kernel_rfl) (id := 24) _ _ (by kernel_rfl) (pl_AddL_11_24U _ (by kernel_rfl)) (fun KJ hJ => ?_))) | (with_reducible first | refine ru_four ?_ ?_ ?_ ?_ | refine ru_three ?_ ?_ ?_ | refine ru_two ?_ ?_ | refine rv_split ?_ ?_ | refine rv_two ?_ ?_ | refine rp_two ?_ ?_) | ((with_reducible first | refine evg ?_ | refine ev_guard ?_); simp only [go_sem, St.clean, cleanO, ↓reduceIte, Nat.reduceEqDiff, Nat.reduceBEq, Nat.reduceAdd, Nat.reduceMul, Nat.reduceSub, Nat.reduceLT, Nat.reduceLeDiff]) | (simp (disch := omega) only [wr, drop_at, str_at, int_at, Int.reduceSub, Int.reduceAdd, Int.reduceToNat, Int.toNat_zero, bne_self_eq_false]) | ((with_reducible refine ev_call ?_); (first | (refine call_fn h1 rfl ?_) | (refine call_fn h2 rfl ?_) | (refine call_fn h2' rfl ?_) | (refine call_fn h3 rfl ?_) | (refine call_new h4 (famA_opn 35 L ok) ?_ ?_ ?_ ?_; (focus rfl); (focus rfl); (focus (simp [-List.map_map, apartO, dropO, killN, obCells, refs_dmap, nofnsD, AV.refs, AV.refsL, AV.nofn, AV.nofns] <;> fail))) | (refine call_fn h4 rfl ?_) | (refine call_fn h5 rfl ?_) | (refine call_s h8 ?_ ?_ ?_ ?_ ?_; (focus rfl); (focus first | exact trivial | exact And.intro rfl trivial | exact ⟨rfl, rfl, trivial⟩ | exact ⟨rfl, rfl, rfl, trivial⟩); (focus rfl); (focus (simp [-List.map_map, apartO, dropO, killN, obCells, refs_dmap, nofnsD, AV.refs, AV.refsL, AV.nofn, AV.nofns] <;> fail))) | (refine call_s h9 ?_ ?_ ?_ ?_ ?_; (focus rfl); (focus first | exact trivial | exact And.intro rfl trivial | exact ⟨rfl, rfl, trivial⟩ | exact ⟨rfl, rfl, rfl, trivial⟩); (focus rfl); (focus (simp [-List.map_map, apartO, dropO, killN, obCells, refs_dmap, nofnsD, AV.refs, AV.refsL, AV.nofn, AV.nofns] <;> fail))) | (refine call_fn h6 rfl ?_) | (refine call_fn2 h6 rfl ?_ ?_; (focus (simp only [perC_raw, famD, perL] <;> fail))) | (refine call_fn2 h7 rfl ?_ ?_; (focus (simp only [perNN_raw] <;> fail)))); refine k_run ?_) | ((with_reducible refine ev_guard ?_); (with_reducible first | refine guard_t ?_ ?_ rfl | refine guard_f ?_ ?_ rfl) <;> (intro h; (try simp only [h]); (try simp only [nrm] at h) <;> (try ((with_reducible exfalso); omega)))) | ((with_reducible refine ck_split (fun h => ?_) (fun h => ?_)) <;> (try simp only [nrm] at h) <;> (try ((with_reducible exfalso); omega))) | ((with_reducible refine And.intro ?_ ?_); (first | omega | focus (simp; done) | focus (simp; omega) | focus ((repeat' (with_reducible refine And.intro ?_ ?_)) <;> first | omega | rfl | (simp only [go_sem, refsL_app, refs_dmap] <;> fail) | (simp [refsL_app, refs_dmap, AV.refsL, AV.refs] <;> omega)))) | (with_reducible refine hJ _ (fun K hK => ?_) ?_ <;> clear hJ KJ) | ((with_reducible refine ev_less ?_); (refine ⟨rfl, ?_, ?_⟩ <;> simp only [go_sem, St.clean, cleanO, SubS, SubO, beq_self_eq_true, ↓reduceIte, Nat.reduceEqDiff, Nat.reduceBEq, Nat.reduceAdd, Nat.reduceMul, Nat.reduceSub, Nat.reduceLT, Nat.reduceLeDiff])) | ((with_reducible first | apply hK | (clear hK K; first | apply hK | (clear hK K; first | apply hK | (clear hK K; apply hK)))); clear hK K) | fail)
    all_goals first
      | exact absurd h g
      | exact absurd trivial h
      | exact absurd h (by decide)
      | exact absurd h (by omega)
      | skip
    all_goals (first | refine res_tmp rfl (by simp [D.plain, plains]) (by simp) ?_ | refine res_at rfl (by simp [D.plain, plains]) (by simp) ?_ | refine res_two rfl (by simp [D.plain, plains]) (by simp) ?_ | refine res_three rfl (by simp [D.plain, plains]) (by simp) ?_ | skip)
    all_goals rfl

end Go.Proofs.Ythjafngffkhffaa
