/- The reference's ancestors: the walk. -/
import Derived.Test.YthjafngffkhffaaAnc
import Derived.WalkKit
import Derived.WalkSpells
import Derived.KernelRfl
namespace Go.Proofs.Ythjafngffkhffaa
open Go.RowKit
set_option linter.unusedVariables false
set_option linter.unusedSimpArgs false

attribute [local go_sem] PerV.d PerV.cs perL famD intL

attribute [local simp] refs_dmap perC_all perC_plains ints_plain ints_all ints_all1 ints_plain_take

set_option maxRecDepth 100000 in
theorem pl_Anc2_108_6U (l : List Oper) (h : l = opsOf Try.f108 6) : planUB l (.still 1 (.still 2 (.still 3 (.still 5 (.still 8 (.still 9 (.still 10 (.two true 0 (.two false 4 (.one true 6 (.one false 7 (.one false 11 (.still 12 PU.fin)))) true 6 (.one false 4 (.one false 7 (.one false 11 (.still 12 PU.fin))))) true 6 (.one true 0 (.one false 4 (.one false 7 (.one false 11 (.still 12 PU.fin))))))))))))) [4, 7, 11] = true := by
  subst h
  kernel_rfl

set_option maxRecDepth 100000 in
set_option maxHeartbeats 4000000 in
theorem put_same (zs : List Int) (v : Int) (hl : zs.length ≤ 1000) (hp : posA zs v < zs.length) (he : zs.getD (posA zs v) 0 = v) : FnS Try.prog 108 [(5000, .ds (zs.map D.int))] [.bs 5000 0 zs.length 1, .d (.int v)] [(5000, .ds (zs.map D.int))] (.bs 5000 0 zs.length 1) := by
  obtain ⟨q1, q2⟩ := posA_spec zs v
  have q3 := fun (k : Nat) hk => posA_at (zs := zs) (v := v) (k := k) hk
  generalize posA zs v = p at *
  refine fns_go Try.func108 rfl rfl Try.ntmps108 Try.results108 (by simp only [slotsA, Nat.reduceAdd]; rfl) (by simp) rfl ?_
  repeat' (first | (with_reducible first | refine aw_seq fun K hK => ?_ | refine aw_region (by kernel_rfl) ?_ | refine aw_condk ?_ | refine aw_block ?_) | ((with_reducible refine ev_aw ?_); first | (refine aw_drawJ (by kernel_rfl) (id := 6) _ _ (by kernel_rfl) (pl_Anc2_108_6U _ (by kernel_rfl)) (fun KJ hJ => ?_))) | (with_reducible first | refine ru_four ?_ ?_ ?_ ?_ | refine ru_three ?_ ?_ ?_ | refine ru_two ?_ ?_ | refine rv_split ?_ ?_ | refine rv_two ?_ ?_ | refine rp_two ?_ ?_) | ((with_reducible refine evg ?_); simp only [go_sem, St.clean, cleanO, ↓reduceIte, Nat.reduceEqDiff, Nat.reduceBEq, Nat.reduceAdd, Nat.reduceMul, Nat.reduceSub, Nat.reduceLT, Nat.reduceLeDiff]) | ((with_reducible refine ev_guard ?_); (with_reducible first | refine guard_t ?_ ?_ rfl | refine guard_f ?_ ?_ rfl) <;> (intro h; (try simp only [h]); (try simp only [nrm] at h))) | ((with_reducible refine ck_split (fun h => ?_) (fun h => ?_)) <;> (try simp only [nrm] at h)) | ((with_reducible refine And.intro ?_ ?_); (first | omega | focus (simp; done) | focus (simp; omega) | focus ((repeat' (with_reducible refine And.intro ?_ ?_)) <;> first | omega | rfl | (simp only [go_sem, refsL_app, refs_dmap] <;> fail) | (simp [refsL_app, refs_dmap, AV.refsL, AV.refs] <;> omega)))) | (with_reducible refine hJ _ (fun K hK => ?_) ?_ <;> clear hJ KJ) | ((with_reducible refine ev_less ?_); (refine ⟨rfl, ?_, ?_⟩ <;> simp only [go_sem, St.clean, cleanO, SubS, SubO, beq_self_eq_true, ↓reduceIte, Nat.reduceEqDiff, Nat.reduceBEq, Nat.reduceAdd, Nat.reduceMul, Nat.reduceSub, Nat.reduceLT, Nat.reduceLeDiff])) | ((with_reducible first | apply hK | (clear hK K; first | apply hK | (clear hK K; first | apply hK | (clear hK K; apply hK)))); clear hK K) | (simp (disch := omega) only [wr, drop_at, str_at, int_at, Int.reduceSub, Int.reduceAdd, Int.reduceToNat, Int.toNat_zero]) | fail)
  refine aw_loopU [5, 6, 7, 8, 9, 10, 11, 12, 13, 14, 15, 16, 17, 18, 19] [8] (fun k : Nat => [(5, .d (.int k))]) (fun _ => []) (fun k => k ≤ p) (fun k => p - k) 0 (by omega) ?_ ?_
  · (refine lessW_of [] rfl ?_ <;> simp only [St.sws, St.sw, swS, swO, AV.sw, AV.swL, OB.sw, swp, St.upd, dropS, dropOs, Less, SubS, SubO, look, lookO, List.elem, List.cons_append, List.nil_append, cond_true, cond_false, and_true, true_and, beq_self_eq_true, ↓reduceIte, Nat.reduceEqDiff, Nat.reduceBEq, Nat.reduceAdd, Nat.reduceMul, Nat.reduceSub, Nat.reduceLT, Nat.reduceLeDiff] <;> try simp)
  · intro k k1
    simp only [St.upd, dropS, dropOs, List.elem, List.cons_append, List.nil_append, cond_true, cond_false, beq_self_eq_true, ↓reduceIte, Nat.reduceEqDiff, Nat.reduceBEq, Nat.reduceAdd, Nat.reduceMul, Nat.reduceSub, Nat.reduceLT, Nat.reduceLeDiff]
    by_cases hk : k < p
    · have hlt := q1 k hk
      repeat' (first | (with_reducible first | refine aw_seq fun K hK => ?_ | refine aw_region (by kernel_rfl) ?_ | refine aw_condk ?_ | refine aw_block ?_) | ((with_reducible refine ev_aw ?_); first | (refine aw_drawJ (by kernel_rfl) (id := 6) _ _ (by kernel_rfl) (pl_Anc2_108_6U _ (by kernel_rfl)) (fun KJ hJ => ?_))) | (with_reducible first | refine ru_four ?_ ?_ ?_ ?_ | refine ru_three ?_ ?_ ?_ | refine ru_two ?_ ?_ | refine rv_split ?_ ?_ | refine rv_two ?_ ?_ | refine rp_two ?_ ?_) | ((with_reducible refine evg ?_); simp only [go_sem, St.clean, cleanO, ↓reduceIte, Nat.reduceEqDiff, Nat.reduceBEq, Nat.reduceAdd, Nat.reduceMul, Nat.reduceSub, Nat.reduceLT, Nat.reduceLeDiff]) | (simp (disch := omega) only [wr, drop_at, str_at, int_at, Int.reduceSub, Int.reduceAdd, Int.reduceToNat, Int.toNat_zero, int_at, wr]) | ((with_reducible refine ev_guard ?_); (with_reducible first | refine guard_t ?_ ?_ rfl | refine guard_f ?_ ?_ rfl) <;> (intro h; (try simp only [h]); (try simp only [nrm] at h) <;> (try ((with_reducible exfalso); omega)))) | ((with_reducible refine ck_split (fun h => ?_) (fun h => ?_)) <;> (try simp only [nrm] at h) <;> (try ((with_reducible exfalso); omega))) | ((with_reducible refine And.intro ?_ ?_); (first | omega | focus (simp; done) | focus (simp; omega) | focus ((repeat' (with_reducible refine And.intro ?_ ?_)) <;> first | omega | rfl | (simp only [go_sem, refsL_app, refs_dmap] <;> fail) | (simp [refsL_app, refs_dmap, AV.refsL, AV.refs] <;> omega)))) | (with_reducible refine hJ _ (fun K hK => ?_) ?_ <;> clear hJ KJ) | ((with_reducible refine ev_less ?_); (refine ⟨rfl, ?_, ?_⟩ <;> simp only [go_sem, St.clean, cleanO, SubS, SubO, beq_self_eq_true, ↓reduceIte, Nat.reduceEqDiff, Nat.reduceBEq, Nat.reduceAdd, Nat.reduceMul, Nat.reduceSub, Nat.reduceLT, Nat.reduceLeDiff])) | ((with_reducible first | apply hK | (clear hK K; first | apply hK | (clear hK K; first | apply hK | (clear hK K; apply hK)))); clear hK K) | fail)
      all_goals first
        | (exact absurd (by assumption) (by omega))
        | (refine ⟨k + 1, by omega, by omega, ?_⟩
           (refine lessW_of [] rfl ?_ <;> simp only [St.sws, St.sw, swS, swO, AV.sw, AV.swL, OB.sw, swp, St.upd, dropS, dropOs, Less, SubS, SubO, look, lookO, List.elem, List.cons_append, List.nil_append, cond_true, cond_false, and_true, true_and, beq_self_eq_true, ↓reduceIte, Nat.reduceEqDiff, Nat.reduceBEq, Nat.reduceAdd, Nat.reduceMul, Nat.reduceSub, Nat.reduceLT, Nat.reduceLeDiff] <;> try simp))
    · obtain rfl : k = p := by omega
      repeat' (first | (with_reducible first | refine aw_seq fun K hK => ?_ | refine aw_region (by kernel_rfl) ?_ | refine aw_condk ?_ | refine aw_block ?_) | ((with_reducible refine ev_aw ?_); first | (refine aw_drawJ (by kernel_rfl) (id := 6) _ _ (by kernel_rfl) (pl_Anc2_108_6U _ (by kernel_rfl)) (fun KJ hJ => ?_))) | (with_reducible first | refine ru_four ?_ ?_ ?_ ?_ | refine ru_three ?_ ?_ ?_ | refine ru_two ?_ ?_ | refine rv_split ?_ ?_ | refine rv_two ?_ ?_ | refine rp_two ?_ ?_) | ((with_reducible refine evg ?_); simp only [go_sem, St.clean, cleanO, ↓reduceIte, Nat.reduceEqDiff, Nat.reduceBEq, Nat.reduceAdd, Nat.reduceMul, Nat.reduceSub, Nat.reduceLT, Nat.reduceLeDiff]) | (simp (disch := omega) only [wr, drop_at, str_at, int_at, Int.reduceSub, Int.reduceAdd, Int.reduceToNat, Int.toNat_zero, int_at, he, wr]) | ((with_reducible refine ev_guard ?_); (with_reducible first | refine guard_t ?_ ?_ rfl | refine guard_f ?_ ?_ rfl) <;> (intro h; (try simp only [h]); (try simp only [nrm] at h) <;> (try ((with_reducible exfalso); omega)))) | ((with_reducible refine ck_split (fun h => ?_) (fun h => ?_)) <;> (try simp only [nrm] at h) <;> (try ((with_reducible exfalso); omega))) | ((with_reducible refine And.intro ?_ ?_); (first | omega | focus (simp; done) | focus (simp; omega) | focus ((repeat' (with_reducible refine And.intro ?_ ?_)) <;> first | omega | rfl | (simp only [go_sem, refsL_app, refs_dmap] <;> fail) | (simp [refsL_app, refs_dmap, AV.refsL, AV.refs] <;> omega)))) | (with_reducible refine hJ _ (fun K hK => ?_) ?_ <;> clear hJ KJ) | ((with_reducible refine ev_less ?_); (refine ⟨rfl, ?_, ?_⟩ <;> simp only [go_sem, St.clean, cleanO, SubS, SubO, beq_self_eq_true, ↓reduceIte, Nat.reduceEqDiff, Nat.reduceBEq, Nat.reduceAdd, Nat.reduceMul, Nat.reduceSub, Nat.reduceLT, Nat.reduceLeDiff])) | ((with_reducible first | apply hK | (clear hK K; first | apply hK | (clear hK K; first | apply hK | (clear hK K; apply hK)))); clear hK K) | fail)
      all_goals first
        | (exact absurd trivial h)
        | (exact absurd rfl h)
        | (exact ress_tmp (by simp [lensO, lookO, obCells]) ⟨rfl, trivial⟩ rfl)

theorem splice4 {L : List D} {k n : Nat} {y : D} (hn : L.length = n) (hk : k ≤ n) : List.take (k + 1) (List.take k (List.take k L) ++ [y]) ++ List.take (n - k) (List.drop k L) = L.take k ++ [y] ++ L.drop k := by
  rw [List.take_take, Nat.min_self, List.take_of_length_le (show (List.take k L ++ [y]).length ≤ k + 1 by simp; omega), List.take_of_length_le (show (List.drop k L).length ≤ n - k by simp; omega)]

set_option maxRecDepth 100000 in
set_option maxHeartbeats 4000000 in
theorem put_new (zs : List Int) (v : Int) (hl : zs.length ≤ 1000) (hp : ¬ (posA zs v < zs.length ∧ zs.getD (posA zs v) 0 = v)) : FnS Try.prog 108 [(5000, .ds (zs.map D.int))] [.bs 5000 0 zs.length 1, .d (.int v)] [(5001, .ds ((zs.take (posA zs v) ++ [v] ++ zs.drop (posA zs v)).map D.int))] (.bs 5001 0 (zs.take (posA zs v) ++ [v] ++ zs.drop (posA zs v)).length 1) := by
  obtain ⟨q1, q2⟩ := posA_spec zs v
  have q0 := posA_le zs v
  generalize posA zs v = p at *
  have hm : (zs.take p ++ [v] ++ zs.drop p).map D.int = (zs.map D.int).take p ++ [D.int v] ++ (zs.map D.int).drop p := by simp [List.map_take, List.map_drop]
  have hn : (zs.take p ++ [v] ++ zs.drop p).length = p + 1 + (zs.length - p) := by simp; omega
  rw [hm, hn]
  refine fns_go Try.func108 rfl rfl Try.ntmps108 Try.results108 (by simp only [slotsA, Nat.reduceAdd]; rfl) (by simp) rfl ?_
  repeat' (first | (with_reducible first | refine aw_seq fun K hK => ?_ | refine aw_region (by kernel_rfl) ?_ | refine aw_condk ?_ | refine aw_block ?_) | ((with_reducible refine ev_aw ?_); first | (refine aw_drawJ (by kernel_rfl) (id := 6) _ _ (by kernel_rfl) (pl_Anc2_108_6U _ (by kernel_rfl)) (fun KJ hJ => ?_))) | (with_reducible first | refine ru_four ?_ ?_ ?_ ?_ | refine ru_three ?_ ?_ ?_ | refine ru_two ?_ ?_ | refine rv_split ?_ ?_ | refine rv_two ?_ ?_ | refine rp_two ?_ ?_) | ((with_reducible refine evg ?_); simp only [go_sem, St.clean, cleanO, ↓reduceIte, Nat.reduceEqDiff, Nat.reduceBEq, Nat.reduceAdd, Nat.reduceMul, Nat.reduceSub, Nat.reduceLT, Nat.reduceLeDiff]) | ((with_reducible refine ev_guard ?_); (with_reducible first | refine guard_t ?_ ?_ rfl | refine guard_f ?_ ?_ rfl) <;> (intro h; (try simp only [h]); (try simp only [nrm] at h))) | ((with_reducible refine ck_split (fun h => ?_) (fun h => ?_)) <;> (try simp only [nrm] at h)) | ((with_reducible refine And.intro ?_ ?_); (first | omega | focus (simp; done) | focus (simp; omega) | focus ((repeat' (with_reducible refine And.intro ?_ ?_)) <;> first | omega | rfl | (simp only [go_sem, refsL_app, refs_dmap] <;> fail) | (simp [refsL_app, refs_dmap, AV.refsL, AV.refs] <;> omega)))) | (with_reducible refine hJ _ (fun K hK => ?_) ?_ <;> clear hJ KJ) | ((with_reducible refine ev_less ?_); (refine ⟨rfl, ?_, ?_⟩ <;> simp only [go_sem, St.clean, cleanO, SubS, SubO, beq_self_eq_true, ↓reduceIte, Nat.reduceEqDiff, Nat.reduceBEq, Nat.reduceAdd, Nat.reduceMul, Nat.reduceSub, Nat.reduceLT, Nat.reduceLeDiff])) | ((with_reducible first | apply hK | (clear hK K; first | apply hK | (clear hK K; first | apply hK | (clear hK K; apply hK)))); clear hK K) | (simp (disch := omega) only [wr, drop_at, str_at, int_at, Int.reduceSub, Int.reduceAdd, Int.reduceToNat, Int.toNat_zero]) | fail)
  refine aw_loopU [5, 6, 7, 8, 9, 10, 11, 12, 13, 14, 15, 16, 17, 18, 19] [8] (fun k : Nat => [(5, .d (.int k))]) (fun _ => []) (fun k => k ≤ p) (fun k => p - k) 0 (by omega) ?_ ?_
  · (refine lessW_of [] rfl ?_ <;> simp only [St.sws, St.sw, swS, swO, AV.sw, AV.swL, OB.sw, swp, St.upd, dropS, dropOs, Less, SubS, SubO, look, lookO, List.elem, List.cons_append, List.nil_append, cond_true, cond_false, and_true, true_and, beq_self_eq_true, ↓reduceIte, Nat.reduceEqDiff, Nat.reduceBEq, Nat.reduceAdd, Nat.reduceMul, Nat.reduceSub, Nat.reduceLT, Nat.reduceLeDiff] <;> try simp)
  · intro k k1
    simp only [St.upd, dropS, dropOs, List.elem, List.cons_append, List.nil_append, cond_true, cond_false, beq_self_eq_true, ↓reduceIte, Nat.reduceEqDiff, Nat.reduceBEq, Nat.reduceAdd, Nat.reduceMul, Nat.reduceSub, Nat.reduceLT, Nat.reduceLeDiff]
    by_cases hk : k < p
    · have hlt := q1 k hk
      repeat' (first | (with_reducible first | refine aw_seq fun K hK => ?_ | refine aw_region (by kernel_rfl) ?_ | refine aw_condk ?_ | refine aw_block ?_) | ((with_reducible refine ev_aw ?_); first | (refine aw_drawJ (by kernel_rfl) (id := 6) _ _ (by kernel_rfl) (pl_Anc2_108_6U _ (by kernel_rfl)) (fun KJ hJ => ?_))) | (with_reducible first | refine ru_four ?_ ?_ ?_ ?_ | refine ru_three ?_ ?_ ?_ | refine ru_two ?_ ?_ | refine rv_split ?_ ?_ | refine rv_two ?_ ?_ | refine rp_two ?_ ?_) | ((with_reducible refine evg ?_); simp only [go_sem, St.clean, cleanO, ↓reduceIte, Nat.reduceEqDiff, Nat.reduceBEq, Nat.reduceAdd, Nat.reduceMul, Nat.reduceSub, Nat.reduceLT, Nat.reduceLeDiff]) | (simp (disch := omega) only [wr, drop_at, str_at, int_at, Int.reduceSub, Int.reduceAdd, Int.reduceToNat, Int.toNat_zero, int_at, wr]) | ((with_reducible refine ev_guard ?_); (with_reducible first | refine guard_t ?_ ?_ rfl | refine guard_f ?_ ?_ rfl) <;> (intro h; (try simp only [h]); (try simp only [nrm] at h) <;> (try ((with_reducible exfalso); omega)))) | ((with_reducible refine ck_split (fun h => ?_) (fun h => ?_)) <;> (try simp only [nrm] at h) <;> (try ((with_reducible exfalso); omega))) | ((with_reducible refine And.intro ?_ ?_); (first | omega | focus (simp; done) | focus (simp; omega) | focus ((repeat' (with_reducible refine And.intro ?_ ?_)) <;> first | omega | rfl | (simp only [go_sem, refsL_app, refs_dmap] <;> fail) | (simp [refsL_app, refs_dmap, AV.refsL, AV.refs] <;> omega)))) | (with_reducible refine hJ _ (fun K hK => ?_) ?_ <;> clear hJ KJ) | ((with_reducible refine ev_less ?_); (refine ⟨rfl, ?_, ?_⟩ <;> simp only [go_sem, St.clean, cleanO, SubS, SubO, beq_self_eq_true, ↓reduceIte, Nat.reduceEqDiff, Nat.reduceBEq, Nat.reduceAdd, Nat.reduceMul, Nat.reduceSub, Nat.reduceLT, Nat.reduceLeDiff])) | ((with_reducible first | apply hK | (clear hK K; first | apply hK | (clear hK K; first | apply hK | (clear hK K; apply hK)))); clear hK K) | fail)
      all_goals first
        | (exact absurd (by assumption) (by omega))
        | (refine ⟨k + 1, by omega, by omega, ?_⟩
           (refine lessW_of [] rfl ?_ <;> simp only [St.sws, St.sw, swS, swO, AV.sw, AV.swL, OB.sw, swp, St.upd, dropS, dropOs, Less, SubS, SubO, look, lookO, List.elem, List.cons_append, List.nil_append, cond_true, cond_false, and_true, true_and, beq_self_eq_true, ↓reduceIte, Nat.reduceEqDiff, Nat.reduceBEq, Nat.reduceAdd, Nat.reduceMul, Nat.reduceSub, Nat.reduceLT, Nat.reduceLeDiff] <;> try simp))
    · obtain rfl : k = p := by omega
      have hs := splice4 (L := zs.map D.int) (n := zs.length) (y := D.int v) (by simp) q0
      repeat' (first | (with_reducible first | refine aw_seq fun K hK => ?_ | refine aw_region (by kernel_rfl) ?_ | refine aw_condk ?_ | refine aw_block ?_) | ((with_reducible refine ev_aw ?_); first | (refine aw_drawJ (by kernel_rfl) (id := 6) _ _ (by kernel_rfl) (pl_Anc2_108_6U _ (by kernel_rfl)) (fun KJ hJ => ?_))) | (with_reducible first | refine ru_four ?_ ?_ ?_ ?_ | refine ru_three ?_ ?_ ?_ | refine ru_two ?_ ?_ | refine rv_split ?_ ?_ | refine rv_two ?_ ?_ | refine rp_two ?_ ?_) | ((with_reducible refine evg ?_); simp only [go_sem, St.clean, cleanO, ↓reduceIte, Nat.reduceEqDiff, Nat.reduceBEq, Nat.reduceAdd, Nat.reduceMul, Nat.reduceSub, Nat.reduceLT, Nat.reduceLeDiff]) | (simp (disch := omega) only [wr, drop_at, str_at, int_at, Int.reduceSub, Int.reduceAdd, Int.reduceToNat, Int.toNat_zero, int_at, wr]) | ((with_reducible refine ev_guard ?_); (with_reducible first | refine guard_t ?_ ?_ rfl | refine guard_f ?_ ?_ rfl) <;> (intro h; (try simp only [h]); (try simp only [nrm] at h) <;> (try ((with_reducible exfalso); omega)))) | ((with_reducible refine ck_split (fun h => ?_) (fun h => ?_)) <;> (try simp only [nrm] at h) <;> (try ((with_reducible exfalso); omega))) | ((with_reducible refine And.intro ?_ ?_); (first | omega | focus (simp; done) | focus (simp; omega) | focus ((repeat' (with_reducible refine And.intro ?_ ?_)) <;> first | omega | rfl | (simp only [go_sem, refsL_app, refs_dmap] <;> fail) | (simp [refsL_app, refs_dmap, AV.refsL, AV.refs] <;> omega)))) | (with_reducible refine hJ _ (fun K hK => ?_) ?_ <;> clear hJ KJ) | ((with_reducible refine ev_less ?_); (refine ⟨rfl, ?_, ?_⟩ <;> simp only [go_sem, St.clean, cleanO, SubS, SubO, beq_self_eq_true, ↓reduceIte, Nat.reduceEqDiff, Nat.reduceBEq, Nat.reduceAdd, Nat.reduceMul, Nat.reduceSub, Nat.reduceLT, Nat.reduceLeDiff])) | ((with_reducible first | apply hK | (clear hK K; first | apply hK | (clear hK K; first | apply hK | (clear hK K; apply hK)))); clear hK K) | fail)
      all_goals first
        | ((with_reducible exfalso)
           omega)
        | (rw [hs]
           exact ress_ren (a := 44) (b := 5001) (by simp [lensO, lookO]) rfl ⟨rfl, trivial⟩ rfl)

theorem put_fn (zs : List Int) (v : Int) (hl : zs.length ≤ 1000) : FnS Try.prog 108 [(5000, .ds (zs.map D.int))] [.bs 5000 0 zs.length 1, .d (.int v)] [(5001, .ds ((putA zs v).map D.int))] (.bs 5001 0 (putA zs v).length 1) := by
  unfold putA
  by_cases hp : posA zs v < zs.length ∧ zs.getD (posA zs v) 0 = v
  · rw [if_pos hp]
    have h := (put_same zs v hl hp.1 hp.2).swr 5000 5001 (by
      intro s o hs
      simp only [lookO] at hs
      split at hs
      · rename_i e
        subst e
        rfl
      · cases hs)
    simpa only [swO, AV.sw, OB.sw, sw_self] using h
  · rw [if_neg hp]
    exact put_new zs v hl hp

theorem put_at (a b : Nat) (zs : List Int) (v : Int) (hl : zs.length ≤ 1000) (ha : a = 5000 ∨ a < 5000) (hb : b < 5000) (hab : a ≠ b) : FnS Try.prog 108 [(a, .ds (zs.map D.int))] [.bs a 0 zs.length 1, .d (.int v)] [(b, .ds ((putA zs v).map D.int))] (.bs b 0 (putA zs v).length 1) := by
  have h2 := ((put_fn zs v hl).sw 5000 a).sw 5001 b
  have e1 : swp 5000 a 5001 = 5001 := by
    have : 5001 ≠ a := by omega
    simp [swp, this]
  have e2 : swp 5001 b a = a := by
    have h1 : a ≠ 5001 := by omega
    simp [swp, h1, hab]
  simpa only [swO, AV.swL, AV.sw, OB.sw, sw_self, e1, e2] using h2

theorem anc_call {f : FuncId} {l : List PerV} {id : Int} {zs R : List Int} (h : FnS Try.prog f [(5000, .ds (zs.map D.int))] [.d (famD l), .d (.int id), .bs 5000 0 zs.length 1] [(5001, .ds (R.map D.int))] (.bs 5001 0 R.length 1)) (a b : Nat) (ha : a < 5000) (hb : b < 5000) (hab : a ≠ b) : FnS Try.prog f [(a, .ds (zs.map D.int))] [.d (famD l), .d (.int id), .bs a 0 zs.length 1] [(b, .ds (R.map D.int))] (.bs b 0 R.length 1) := by
  have h2 := (h.sw 5000 a).sw 5001 b
  have e1 : swp 5000 a 5001 = 5001 := by
    have : 5001 ≠ a := by omega
    simp [swp, this]
  have e2 : swp 5001 b a = a := by
    have h1 : a ≠ 5001 := by omega
    simp [swp, h1, hab]
  simpa only [swO, AV.swL, AV.sw, OB.sw, sw_self, e1, e2] using h2

set_option maxRecDepth 100000 in
theorem pl_Anc2_79_1 (l : List Oper) (h : l = opsOf Try.f79 1) : planB l (.pure 0 (.pure 1 (.pure 2 (.pure 3 (.two 4 (.pure 5 (.pure 6 (.one 7 PT.fin))) 7 (.one 4 (.pure 5 (.pure 6 PT.fin)))))))) [8] = true := by
  subst h
  kernel_rfl

set_option maxRecDepth 100000 in
theorem pl_Anc2_79_4U (l : List Oper) (h : l = opsOf Try.f79 4) : planUB l (.still 3 (.calc 1 (.calc 4 (.three true 0 (.two true 2 (.one true 5 (.one false 6 (.one false 7 (.still 8 PU.fin)))) true 5 (.two true 2 (.one false 6 (.one false 7 (.still 8 PU.fin))) false 6 (.one true 2 (.one false 7 (.still 8 PU.fin))))) true 2 (.two true 0 (.one true 5 (.one false 6 (.one false 7 (.still 8 PU.fin)))) true 5 (.two true 0 (.one false 6 (.one false 7 (.still 8 PU.fin))) false 6 (.one true 0 (.one false 7 (.still 8 PU.fin))))) true 5 (.three true 0 (.two true 2 (.one false 6 (.one false 7 (.still 8 PU.fin))) false 6 (.one true 2 (.one false 7 (.still 8 PU.fin)))) true 2 (.two true 0 (.one false 6 (.one false 7 (.still 8 PU.fin))) false 6 (.one true 0 (.one false 7 (.still 8 PU.fin)))) false 6 (.two true 0 (.one true 2 (.one false 7 (.still 8 PU.fin))) true 2 (.one true 0 (.one false 7 (.still 8 PU.fin))))))))) [6, 7] = true := by
  subst h
  kernel_rfl

set_option maxRecDepth 100000 in
theorem pl_Anc2_79_5U (l : List Oper) (h : l = opsOf Try.f79 5) : planUB l (.still 3 (.calc 1 (.calc 4 (.three true 0 (.two true 2 (.one true 5 (.one false 6 (.one false 7 (.still 8 PU.fin)))) true 5 (.two true 2 (.one false 6 (.one false 7 (.still 8 PU.fin))) false 6 (.one true 2 (.one false 7 (.still 8 PU.fin))))) true 2 (.two true 0 (.one true 5 (.one false 6 (.one false 7 (.still 8 PU.fin)))) true 5 (.two true 0 (.one false 6 (.one false 7 (.still 8 PU.fin))) false 6 (.one true 0 (.one false 7 (.still 8 PU.fin))))) true 5 (.three true 0 (.two true 2 (.one false 6 (.one false 7 (.still 8 PU.fin))) false 6 (.one true 2 (.one false 7 (.still 8 PU.fin)))) true 2 (.two true 0 (.one false 6 (.one false 7 (.still 8 PU.fin))) false 6 (.one true 0 (.one false 7 (.still 8 PU.fin)))) false 6 (.two true 0 (.one true 2 (.one false 7 (.still 8 PU.fin))) true 2 (.one true 0 (.one false 7 (.still 8 PU.fin))))))))) [6, 7] = true := by
  subst h
  kernel_rfl

set_option maxRecDepth 100000 in
set_option maxHeartbeats 4000000 in
theorem anc_same (l : List PerV) (id : Int) (zs : List Int) (hok : okFam l = true) (hid : 0 ≤ findP l id) (hz : zs.length ≤ 16) (h0 : (perOf l id).one = 0) : FnS Try.prog 79 [(5000, .ds (zs.map D.int))] [.d (famD l), .d (.int id), .bs 5000 0 zs.length 1] [(5000, .ds (zs.map D.int))] (.bs 5000 0 zs.length 1) := by
  have hl := okFam_len hok
  have e1 := l18Find_fn l id (by omega)
  obtain ⟨h1, h2, h3⟩ := findP_lt (l := l) (id := id) (by omega)
  obtain ⟨j, hj⟩ := Int.eq_ofNat_of_zero_le hid
  have hp : perOf l id = l.getD j PerV.zero := by rw [perOf, hj]; rfl
  have hj2 : j < l.length := by omega
  rw [hj] at e1
  rw [hp] at h0
  refine fns_go Try.func79 rfl rfl Try.ntmps79 Try.results79 (by simp only [slotsA, Nat.reduceAdd]; rfl) (by simp) rfl ?_
  repeat' (first | (with_reducible first | refine aw_seq fun K hK => ?_ | refine aw_region (by kernel_rfl) ?_ | refine aw_condk ?_ | refine aw_block ?_) | ((with_reducible refine ev_aw ?_); first | (refine aw_draw (id := 1) (by kernel_rfl) _ _ (by kernel_rfl) (pl_Anc2_79_1 _ (by kernel_rfl)) ?_) | (refine aw_drawJ (by kernel_rfl) (id := 4) _ _ (by kernel_rfl) (pl_Anc2_79_4U _ (by kernel_rfl)) (fun KJ hJ => ?_)) | (refine aw_drawJ (by kernel_rfl) (id := 5) _ _ (by kernel_rfl) (pl_Anc2_79_5U _ (by kernel_rfl)) (fun KJ hJ => ?_))) | (with_reducible first | refine ru_four ?_ ?_ ?_ ?_ | refine ru_three ?_ ?_ ?_ | refine ru_two ?_ ?_ | refine rv_split ?_ ?_ | refine rv_two ?_ ?_ | refine rp_two ?_ ?_) | ((with_reducible refine evg ?_); simp only [go_sem, St.clean, cleanO, ↓reduceIte, Nat.reduceEqDiff, Nat.reduceBEq, Nat.reduceAdd, Nat.reduceMul, Nat.reduceSub, Nat.reduceLT, Nat.reduceLeDiff]) | (simp (disch := omega) only [wr, drop_at, str_at, int_at, Int.reduceSub, Int.reduceAdd, Int.reduceToNat, Int.toNat_zero, per_at, h0, wr]) | ((with_reducible refine ev_call ?_); (first | (refine call_fn e1 rfl ?_)); refine k_run ?_) | ((with_reducible refine ev_guard ?_); (with_reducible first | refine guard_t ?_ ?_ rfl | refine guard_f ?_ ?_ rfl) <;> (intro h; (try simp only [h]); (try simp only [nrm] at h) <;> (try ((with_reducible exfalso); omega)))) | ((with_reducible refine ck_split (fun h => ?_) (fun h => ?_)) <;> (try simp only [nrm] at h) <;> (try ((with_reducible exfalso); omega))) | ((with_reducible refine And.intro ?_ ?_); (first | omega | focus (simp; done) | focus (simp; omega) | focus ((repeat' (with_reducible refine And.intro ?_ ?_)) <;> first | omega | rfl | (simp only [go_sem, refsL_app, refs_dmap] <;> fail) | (simp [refsL_app, refs_dmap, AV.refsL, AV.refs] <;> omega)))) | (with_reducible refine hJ _ (fun K hK => ?_) ?_ <;> clear hJ KJ) | ((with_reducible refine ev_less ?_); (refine ⟨rfl, ?_, ?_⟩ <;> simp only [go_sem, St.clean, cleanO, SubS, SubO, beq_self_eq_true, ↓reduceIte, Nat.reduceEqDiff, Nat.reduceBEq, Nat.reduceAdd, Nat.reduceMul, Nat.reduceSub, Nat.reduceLT, Nat.reduceLeDiff])) | ((with_reducible first | apply hK | (clear hK K; first | apply hK | (clear hK K; first | apply hK | (clear hK K; apply hK)))); clear hK K) | fail)
  all_goals first
    | (exact absurd trivial h)
    | (exact absurd rfl h)
    | (exact ress_tmp (by simp [lensO, lookO, obCells]) ⟨rfl, trivial⟩ rfl)

set_option maxRecDepth 100000 in
set_option maxHeartbeats 4000000 in
theorem l18Ancestors_fn (l : List PerV) (hok : okFam l = true) : ∀ (n : Nat) (id : Int) (zs : List Int), upG l n id → ascL l zs → FnS Try.prog 79 [(5000, .ds (zs.map D.int))] [.d (famD l), .d (.int id), .bs 5000 0 zs.length 1] [(5001, .ds ((ancF l n id zs).map D.int))] (.bs 5001 0 (ancF l n id zs).length 1) := by
  intro n
  induction n with
  | zero => exact fun id _ h => absurd h (upG_zero hok id)
  | succ n ih =>
    intro id zs hG hz
    obtain ⟨hid, q2⟩ := upG_next hok n id hG
    have hzl := ascL_len hok hz
    rw [ancF]
    by_cases h0 : (perOf l id).one = 0
    · rw [if_pos h0]
      have h := (anc_same l id zs hok hid hzl h0).swr 5000 5001 (by
        intro s o hs
        simp only [lookO] at hs
        split at hs
        · rename_i e
          subst e
          rfl
        · cases hs)
      simpa only [swO, AV.sw, OB.sw, sw_self] using h
    · rw [if_neg h0]
      have hpar : parI l id = [(perOf l id).one, (perOf l id).two] := by rw [parI, if_neg h0]
      rw [hpar] at q2
      have hp := parents_in hok hid h0
      have a1 := ascL_put hz hp.1
      have a2 := ancF_asc hok n _ _ hp.1 a1
      have a3 := ascL_put a2 hp.2.1
      have c1 := put_at 5000 25 zs (perOf l id).one (by omega) (.inl rfl) (by decide) (by decide)
      have c2 := anc_call (ih (perOf l id).one (putA zs (perOf l id).one) (q2 _ (by simp)) a1) 25 26 (by decide) (by decide) (by decide)
      have c3 := put_at 26 33 (ancF l n (perOf l id).one (putA zs (perOf l id).one)) (perOf l id).two (by have := ascL_len hok a2; omega) (.inr (by decide)) (by decide) (by decide)
      have c4 := anc_call (ih (perOf l id).two (putA (ancF l n (perOf l id).one (putA zs (perOf l id).one)) (perOf l id).two) (q2 _ (by simp)) a3) 33 34 (by decide) (by decide) (by decide)
      have hl := okFam_len hok
      have e1 := l18Find_fn l id (by omega)
      obtain ⟨h1, h2, h3⟩ := findP_lt (l := l) (id := id) (by omega)
      obtain ⟨j, hj⟩ := Int.eq_ofNat_of_zero_le hid
      have hpo : perOf l id = l.getD j PerV.zero := by rw [perOf, hj]; rfl
      have hj2 : j < l.length := by omega
      rw [hj] at e1
      rw [hpo] at h0 c1 c2 c3 c4 ⊢
      generalize putA zs (l.getD j PerV.zero).one = z1 at *
      generalize ancF l n (l.getD j PerV.zero).one z1 = z2 at *
      generalize putA z2 (l.getD j PerV.zero).two = z3 at *
      generalize ancF l n (l.getD j PerV.zero).two z3 = z4 at *
      refine fns_go Try.func79 rfl rfl Try.ntmps79 Try.results79 (by simp only [slotsA, Nat.reduceAdd]; rfl) (by simp) rfl ?_
      repeat' (first | (with_reducible first | refine aw_seq fun K hK => ?_ | refine aw_region (by kernel_rfl) ?_ | refine aw_condk ?_ | refine aw_block ?_) | ((with_reducible refine ev_aw ?_); first | (refine aw_draw (id := 1) (by kernel_rfl) _ _ (by kernel_rfl) (pl_Anc2_79_1 _ (by kernel_rfl)) ?_) | (refine aw_drawJ (by kernel_rfl) (id := 4) _ _ (by kernel_rfl) (pl_Anc2_79_4U _ (by kernel_rfl)) (fun KJ hJ => ?_)) | (refine aw_drawJ (by kernel_rfl) (id := 5) _ _ (by kernel_rfl) (pl_Anc2_79_5U _ (by kernel_rfl)) (fun KJ hJ => ?_))) | (with_reducible first | refine ru_four ?_ ?_ ?_ ?_ | refine ru_three ?_ ?_ ?_ | refine ru_two ?_ ?_ | refine rv_split ?_ ?_ | refine rv_two ?_ ?_ | refine rp_two ?_ ?_) | ((with_reducible refine evg ?_); simp only [go_sem, St.clean, cleanO, ↓reduceIte, Nat.reduceEqDiff, Nat.reduceBEq, Nat.reduceAdd, Nat.reduceMul, Nat.reduceSub, Nat.reduceLT, Nat.reduceLeDiff]) | (simp (disch := omega) only [wr, drop_at, str_at, int_at, Int.reduceSub, Int.reduceAdd, Int.reduceToNat, Int.toNat_zero, per_at, wr]) | ((with_reducible refine ev_call ?_); (first | (refine call_fn e1 rfl ?_) | (refine call_s c1 ?_ ?_ ?_ ?_ ?_; (focus rfl); (focus first | exact trivial | exact And.intro rfl trivial | exact ⟨rfl, rfl, trivial⟩ | exact ⟨rfl, rfl, rfl, trivial⟩); (focus rfl); (focus (simp [-List.map_map, apartO, dropO, killN, obCells, refs_dmap, nofnsD, AV.refs, AV.refsL, AV.nofn, AV.nofns] <;> fail))) | (refine call_s c2 ?_ ?_ ?_ ?_ ?_; (focus rfl); (focus first | exact trivial | exact And.intro rfl trivial | exact ⟨rfl, rfl, trivial⟩ | exact ⟨rfl, rfl, rfl, trivial⟩); (focus rfl); (focus (simp [-List.map_map, apartO, dropO, killN, obCells, refs_dmap, nofnsD, AV.refs, AV.refsL, AV.nofn, AV.nofns] <;> fail))) | (refine call_s c3 ?_ ?_ ?_ ?_ ?_; (focus rfl); (focus first | exact trivial | exact And.intro rfl trivial | exact ⟨rfl, rfl, trivial⟩ | exact ⟨rfl, rfl, rfl, trivial⟩); (focus rfl); (focus (simp [-List.map_map, apartO, dropO, killN, obCells, refs_dmap, nofnsD, AV.refs, AV.refsL, AV.nofn, AV.nofns] <;> fail))) | (refine call_s c4 ?_ ?_ ?_ ?_ ?_; (focus rfl); (focus first | exact trivial | exact And.intro rfl trivial | exact ⟨rfl, rfl, trivial⟩ | exact ⟨rfl, rfl, rfl, trivial⟩); (focus rfl); (focus (simp [-List.map_map, apartO, dropO, killN, obCells, refs_dmap, nofnsD, AV.refs, AV.refsL, AV.nofn, AV.nofns] <;> fail)))); refine k_run ?_) | ((with_reducible refine ev_guard ?_); (with_reducible first | refine guard_t ?_ ?_ rfl | refine guard_f ?_ ?_ rfl) <;> (intro h; (try simp only [h]); (try simp only [nrm] at h) <;> (try ((with_reducible exfalso); omega)))) | ((with_reducible refine ck_split (fun h => ?_) (fun h => ?_)) <;> (try simp only [nrm] at h) <;> (try ((with_reducible exfalso); omega))) | ((with_reducible refine And.intro ?_ ?_); (first | omega | focus (simp; done) | focus (simp; omega) | focus ((repeat' (with_reducible refine And.intro ?_ ?_)) <;> first | omega | rfl | (simp only [go_sem, refsL_app, refs_dmap] <;> fail) | (simp [refsL_app, refs_dmap, AV.refsL, AV.refs] <;> omega)))) | (with_reducible refine hJ _ (fun K hK => ?_) ?_ <;> clear hJ KJ) | ((with_reducible refine ev_less ?_); (refine ⟨rfl, ?_, ?_⟩ <;> simp only [go_sem, St.clean, cleanO, SubS, SubO, beq_self_eq_true, ↓reduceIte, Nat.reduceEqDiff, Nat.reduceBEq, Nat.reduceAdd, Nat.reduceMul, Nat.reduceSub, Nat.reduceLT, Nat.reduceLeDiff])) | ((with_reducible first | apply hK | (clear hK K; first | apply hK | (clear hK K; first | apply hK | (clear hK K; apply hK)))); clear hK K) | fail)
      all_goals first
        | (exact absurd (by assumption) h0)
        | (exact ress_ren (a := 34) (b := 5001) (by simp [lensO, lookO]) rfl ⟨rfl, trivial⟩ rfl)

end Go.Proofs.Ythjafngffkhffaa
