/- The children of a person: sorted in place. -/
import Derived.Test.YtdeobicgildamaaGreatDoorFam3
import Derived.Test.YtdeobicgildamaaGreatDoorSorts
import Derived.WalkKit
import Derived.WalkSpells
import Derived.KernelRfl
namespace Go.Proofs.YtdeobicgildamaaGreatDoor
open Go.RowKit
set_option linter.unusedVariables false
set_option linter.unusedSimpArgs false

attribute [local go_sem] PerV.d PerV.cs perL famD intL

attribute [local simp] perC_all perC_plains ints_plain ints_all ints_all1 ints_plain_take

theorem ress_none {P : Program} {σ : St} {ob ob' : List (Nat × OB)} (hl : lensO ob ob') (hs : SubO σ.ob ob') : ResS P [] σ ob ob' (.tu []) := by
  refine ⟨by simp, hl, [], rfl, hs, ?_⟩
  simp only [resAVs, joinR, swsA]
  exact ⟨trivial, trivial⟩

set_option maxRecDepth 100000 in
theorem pl_Fam4_98_4 (l : List Oper) (h : l = opsOf Tryz.f98 4) : planB l (.pure 0 (.pure 1 (.pure 2 (.pure 3 (.pure 4 (.pure 5 (.pure 6 (.pure 7 (.pure 8 (.pure 9 (.pure 10 (.pure 11 (.pure 12 (.pure 13 (.one 14 (.pure 15 (.pure 16 PT.fin))))))))))))))))) [] = true := by
  subst h
  kernel_rfl

set_option maxRecDepth 100000 in
theorem pl_Fam4_98_6U (l : List Oper) (h : l = opsOf Tryz.f98 6) : planUB l (.pure 0 (.pure 1 (.pure 5 (.pure 6 (.pure 7 (.pure 8 (.pure 9 (.still 2 (.still 3 (.still 10 (.still 11 (.still 12 (.pure 13 (.pure 14 (.calc 4 (.one false 15 (.still 16 (.one false 17 PU.fin)))))))))))))))))) [15, 17] = true := by
  subst h
  kernel_rfl

set_option maxRecDepth 100000 in
set_option maxHeartbeats 4000000 in
theorem isort_hi (a z : List PerV) (ha : a.length ≤ 1000) (hz : z.length ≤ 1048576) (hb : ∀ x ∈ a, 1 ≤ x.born ∧ x.born ≤ 2999) : FnS Tryz.prog 98 [(5000, .ds (perC (a ++ z)))] [.bs 5000 0 a.length 5, .d (.int 0), .d (.int a.length), .fc 79 [] []] [(5000, .ds (perC (sortB a ++ z)))] (.tu []) := by
  refine fns_go Tryz.func98 rfl rfl Tryz.ntmps98 Tryz.results98 (by simp only [slotsA, Nat.reduceAdd]; rfl) (by simp) rfl ?_
  repeat' (first | (with_reducible first | refine aw_seq fun K hK => ?_ | refine aw_region (by kernel_rfl) ?_ | refine aw_condk ?_ | refine aw_block ?_) | ((with_reducible refine ev_aw ?_); first | (refine aw_draw (id := 4) (by kernel_rfl) _ _ (by kernel_rfl) (pl_Fam4_98_4 _ (by kernel_rfl)) ?_) | (refine aw_drawU (id := 6) (by kernel_rfl) _ _ (by kernel_rfl) (pl_Fam4_98_6U _ (by kernel_rfl)) ?_)) | (with_reducible first | refine ru_four ?_ ?_ ?_ ?_ | refine ru_three ?_ ?_ ?_ | refine ru_two ?_ ?_ | refine rv_split ?_ ?_ | refine rv_two ?_ ?_ | refine rp_two ?_ ?_) | ((with_reducible refine evg ?_); simp only [go_sem, St.clean, cleanO, ↓reduceIte, Nat.reduceEqDiff, Nat.reduceBEq, Nat.reduceAdd, Nat.reduceMul, Nat.reduceSub, Nat.reduceLT, Nat.reduceLeDiff]) | ((with_reducible refine ev_guard ?_); (with_reducible first | refine guard_t ?_ ?_ rfl | refine guard_f ?_ ?_ rfl) <;> (intro h; (try simp only [h]); (try simp only [nrm] at h))) | ((with_reducible refine ck_split (fun h => ?_) (fun h => ?_)) <;> (try simp only [nrm] at h)) | ((with_reducible refine And.intro ?_ ?_); (first | omega | focus (simp; done) | focus (simp; omega) | focus ((repeat' (with_reducible refine And.intro ?_ ?_)) <;> first | omega | rfl | (simp only [go_sem, refsL_app, refs_dmap] <;> fail) | (simp [refsL_app, refs_dmap, AV.refsL, AV.refs] <;> omega)))) | (with_reducible refine hJ _ (fun K hK => ?_) ?_ <;> clear hJ KJ) | ((with_reducible refine ev_less ?_); (refine ⟨rfl, ?_, ?_⟩ <;> simp only [go_sem, St.clean, cleanO, SubS, SubO, beq_self_eq_true, ↓reduceIte, Nat.reduceEqDiff, Nat.reduceBEq, Nat.reduceAdd, Nat.reduceMul, Nat.reduceSub, Nat.reduceLT, Nat.reduceLeDiff])) | ((with_reducible first | apply hK | (clear hK K; first | apply hK | (clear hK K; first | apply hK | (clear hK K; apply hK)))); clear hK K) | (simp (disch := omega) only [wr, drop_at, str_at, int_at, Int.reduceSub, Int.reduceAdd, Int.reduceToNat, Int.toNat_zero]) | fail)
  refine aw_loopU [8, 9, 12, 13, 14, 15, 16, 17, 18, 19, 20, 21, 22, 23, 24, 25, 26, 27, 28, 29, 30, 31, 32, 33, 34, 35, 36, 37, 38, 39, 40, 41, 42, 43, 44, 45, 46, 47, 48, 49, 50, 51, 52] [32, 5000] (fun i : Nat => [(8, .d (.int i))]) (fun i => [(5000, .ds (perC (srtN a i ++ z)))]) (fun i => 1 ≤ i ∧ (i ≤ a.length ∨ i = 1)) (fun i => a.length + 1 - i) 1 ⟨by omega, by omega⟩ ?_ ?_
  · (refine lessW_of [] rfl ?_ <;> simp only [St.sws, St.sw, swS, swO, AV.sw, AV.swL, OB.sw, swp, St.upd, dropS, dropOs, Less, SubS, SubO, look, lookO, List.elem, List.cons_append, List.nil_append, cond_true, cond_false, and_true, true_and, beq_self_eq_true, ↓reduceIte, Nat.reduceEqDiff, Nat.reduceBEq, Nat.reduceAdd, Nat.reduceMul, Nat.reduceSub, Nat.reduceLT, Nat.reduceLeDiff] <;> try simp)
    rw [srtN_one]
  · rintro i ⟨g1, g2⟩
    simp only [St.upd, dropS, dropOs, List.elem, List.cons_append, List.nil_append, cond_true, cond_false, beq_self_eq_true, ↓reduceIte, Nat.reduceEqDiff, Nat.reduceBEq, Nat.reduceAdd, Nat.reduceMul, Nat.reduceSub, Nat.reduceLT, Nat.reduceLeDiff]
    repeat' (first | (with_reducible first | refine aw_seq fun K hK => ?_ | refine aw_region (by kernel_rfl) ?_ | refine aw_condk ?_ | refine aw_block ?_) | ((with_reducible refine ev_aw ?_); first | (refine aw_draw (id := 4) (by kernel_rfl) _ _ (by kernel_rfl) (pl_Fam4_98_4 _ (by kernel_rfl)) ?_) | (refine aw_drawU (id := 6) (by kernel_rfl) _ _ (by kernel_rfl) (pl_Fam4_98_6U _ (by kernel_rfl)) ?_)) | (with_reducible first | refine ru_four ?_ ?_ ?_ ?_ | refine ru_three ?_ ?_ ?_ | refine ru_two ?_ ?_ | refine rv_split ?_ ?_ | refine rv_two ?_ ?_ | refine rp_two ?_ ?_) | ((with_reducible refine evg ?_); simp only [go_sem, St.clean, cleanO, ↓reduceIte, Nat.reduceEqDiff, Nat.reduceBEq, Nat.reduceAdd, Nat.reduceMul, Nat.reduceSub, Nat.reduceLT, Nat.reduceLeDiff]) | ((with_reducible refine ev_guard ?_); (with_reducible first | refine guard_t ?_ ?_ rfl | refine guard_f ?_ ?_ rfl) <;> (intro h; (try simp only [h]); (try simp only [nrm] at h))) | ((with_reducible refine ck_split (fun h => ?_) (fun h => ?_)) <;> (try simp only [nrm] at h)) | ((with_reducible refine And.intro ?_ ?_); (first | omega | focus (simp; done) | focus (simp; omega) | focus ((repeat' (with_reducible refine And.intro ?_ ?_)) <;> first | omega | rfl | (simp only [go_sem, refsL_app, refs_dmap] <;> fail) | (simp [refsL_app, refs_dmap, AV.refsL, AV.refs] <;> omega)))) | (with_reducible refine hJ _ (fun K hK => ?_) ?_ <;> clear hJ KJ) | ((with_reducible refine ev_less ?_); (refine ⟨rfl, ?_, ?_⟩ <;> simp only [go_sem, St.clean, cleanO, SubS, SubO, beq_self_eq_true, ↓reduceIte, Nat.reduceEqDiff, Nat.reduceBEq, Nat.reduceAdd, Nat.reduceMul, Nat.reduceSub, Nat.reduceLT, Nat.reduceLeDiff])) | ((with_reducible first | apply hK | (clear hK K; first | apply hK | (clear hK K; first | apply hK | (clear hK K; apply hK)))); clear hK K) | (simp (disch := omega) only [wr, drop_at, str_at, int_at, Int.reduceSub, Int.reduceAdd, Int.reduceToNat, Int.toNat_zero]) | fail)
    · have hB : (sortB (a.take i)).length = i := by rw [sortB_len]; simp; omega
      have q1 : 1 ≤ (a.getD i PerV.zero).born ∧ (a.getD i PerV.zero).born ≤ 2999 := hb _ (getD_mem PerV.zero (by omega))
      have q2 : ∀ k, k < i → 1 ≤ ((sortB (a.take i)).getD k PerV.zero).born ∧ ((sortB (a.take i)).getD k PerV.zero).born ≤ 2999 := fun k hk => srt_born hb (by omega)
      have r1 := srtN_mid (show i < a.length by omega) z
      have r2 := fun (j : Nat) hj h1 h2 => mid_srtN (j := j) (show i < a.length by omega) z hj h1 h2
      have rl : (a.drop (i + 1) ++ z).length = a.length - (i + 1) + z.length := by simp
      obtain ⟨B, eB⟩ : ∃ B, sortB (a.take i) = B := ⟨_, rfl⟩
      obtain ⟨x, ex⟩ : ∃ x, a.getD i PerV.zero = x := ⟨_, rfl⟩
      obtain ⟨R, eR⟩ : ∃ R, a.drop (i + 1) ++ z = R := ⟨_, rfl⟩
      rw [eB] at hB
      rw [ex] at q1
      rw [eR] at rl
      simp only [eB, ex, eR] at q2 r1 r2
      rw [r1]
      clear eB ex eR r1
      refine aw_loopU [9, 18, 19, 20, 21, 22, 23, 24, 25, 26, 27, 28, 29, 30, 31, 32, 33, 34, 35, 36, 37, 38, 39, 40, 41, 42, 43, 44, 45, 46, 47, 48, 49, 50, 51, 52] [32, 5000] (fun j : Nat => [(9, .d (.int j))]) (fun j => [(5000, .ds (perC (mid B x j R)))]) (fun j => j ≤ i ∧ ∀ k, j ≤ k → k < i → x.born < (B.getD k PerV.zero).born) (fun j => j) i ⟨by omega, fun k h1 h2 => by omega⟩ ?_ ?_
      · (refine lessW_of [] rfl ?_ <;> simp only [St.sws, St.sw, swS, swO, AV.sw, AV.swL, OB.sw, swp, St.upd, dropS, dropOs, Less, SubS, SubO, look, lookO, List.elem, List.cons_append, List.nil_append, cond_true, cond_false, and_true, true_and, beq_self_eq_true, ↓reduceIte, Nat.reduceEqDiff, Nat.reduceBEq, Nat.reduceAdd, Nat.reduceMul, Nat.reduceSub, Nat.reduceLT, Nat.reduceLeDiff] <;> try simp)
      · rintro j ⟨f1, f2⟩
        simp only [St.upd, dropS, dropOs, List.elem, List.cons_append, List.nil_append, cond_true, cond_false, beq_self_eq_true, ↓reduceIte, Nat.reduceEqDiff, Nat.reduceBEq, Nat.reduceAdd, Nat.reduceMul, Nat.reduceSub, Nat.reduceLT, Nat.reduceLeDiff]
        have m0 : (mid B x j R).length = a.length + z.length := by
          rw [mid_len (by omega), hB]
          omega
        have m1 := mid_at (B := B) (x := x) (j := j) (R := R) (by omega)
        have m2 := mid_pre (B := B) (x := x) (j := j) (R := R) (by omega)
        have m3 := mid_swap (B := B) (x := x) (j := j) (R := R) (by omega)
        have q3 : 1 ≤ j → 1 ≤ (B.getD (j - 1) PerV.zero).born ∧ (B.getD (j - 1) PerV.zero).born ≤ 2999 := fun h => q2 _ (by omega)
        repeat' (first | (with_reducible first | refine aw_seq fun K hK => ?_ | refine aw_region (by kernel_rfl) ?_ | refine aw_condk ?_ | refine aw_block ?_) | ((with_reducible refine ev_aw ?_); first | (refine aw_draw (id := 4) (by kernel_rfl) _ _ (by kernel_rfl) (pl_Fam4_98_4 _ (by kernel_rfl)) ?_) | (refine aw_drawU (id := 6) (by kernel_rfl) _ _ (by kernel_rfl) (pl_Fam4_98_6U _ (by kernel_rfl)) ?_)) | (with_reducible first | refine ru_four ?_ ?_ ?_ ?_ | refine ru_three ?_ ?_ ?_ | refine ru_two ?_ ?_ | refine rv_split ?_ ?_ | refine rv_two ?_ ?_ | refine rp_two ?_ ?_) | ((with_reducible refine evg ?_); simp only [go_sem, St.clean, cleanO, ↓reduceIte, Nat.reduceEqDiff, Nat.reduceBEq, Nat.reduceAdd, Nat.reduceMul, Nat.reduceSub, Nat.reduceLT, Nat.reduceLeDiff]) | (simp (disch := omega) only [wr, drop_at, str_at, int_at, Int.reduceSub, Int.reduceAdd, Int.reduceToNat, Int.toNat_zero, per_at, m1, m2, nat_pred, per_set, m3]) | ((with_reducible refine ev_call ?_); (first | (refine call_fn (child2_fn _ _) rfl ?_)); refine k_run ?_) | ((with_reducible refine ev_guard ?_); (with_reducible first | refine guard_t ?_ ?_ rfl | refine guard_f ?_ ?_ rfl) <;> (intro h; (try simp only [h]); (try simp only [nrm] at h) <;> (try ((with_reducible exfalso); omega)))) | ((with_reducible refine ck_split (fun h => ?_) (fun h => ?_)) <;> (try simp only [nrm] at h) <;> (try ((with_reducible exfalso); omega))) | ((with_reducible refine And.intro ?_ ?_); (first | omega | focus (simp; done) | focus (simp; omega) | focus ((repeat' (with_reducible refine And.intro ?_ ?_)) <;> first | omega | rfl | (simp only [go_sem, refsL_app, refs_dmap] <;> fail) | (simp [refsL_app, refs_dmap, AV.refsL, AV.refs] <;> omega)))) | (with_reducible refine hJ _ (fun K hK => ?_) ?_ <;> clear hJ KJ) | ((with_reducible refine ev_less ?_); (refine ⟨rfl, ?_, ?_⟩ <;> simp only [go_sem, St.clean, cleanO, SubS, SubO, beq_self_eq_true, ↓reduceIte, Nat.reduceEqDiff, Nat.reduceBEq, Nat.reduceAdd, Nat.reduceMul, Nat.reduceSub, Nat.reduceLT, Nat.reduceLeDiff])) | ((with_reducible first | apply hK | (clear hK K; first | apply hK | (clear hK K; first | apply hK | (clear hK K; apply hK)))); clear hK K) | fail)
        · have e := per_set (l := (mid B x j R).set j (B.getD (j - 1) PerV.zero)) (i := j - 1) x (by simp; omega)
          rw [e, m3 (by omega)]
          refine ⟨j - 1, ⟨by omega, fun k h1 h2 => ?_⟩, by omega, by
            (refine lessW_of [] rfl ?_ <;> simp only [St.sws, St.sw, swS, swO, AV.sw, AV.swL, OB.sw, swp, St.upd, dropS, dropOs, Less, SubS, SubO, look, lookO, List.elem, List.cons_append, List.nil_append, cond_true, cond_false, and_true, true_and, beq_self_eq_true, ↓reduceIte, Nat.reduceEqDiff, Nat.reduceBEq, Nat.reduceAdd, Nat.reduceMul, Nat.reduceSub, Nat.reduceLT, Nat.reduceLeDiff] <;> try simp)
            omega⟩
          by_cases hk : k = j - 1
          · subst hk
            omega
          · exact f2 k (by omega) h2
        · rw [r2 j f1 f2 (.inr (by omega))]
          refine ⟨i + 1, ⟨by omega, by omega⟩, by omega, by (refine lessW_of [] rfl ?_ <;> simp only [St.sws, St.sw, swS, swO, AV.sw, AV.swL, OB.sw, swp, St.upd, dropS, dropOs, Less, SubS, SubO, look, lookO, List.elem, List.cons_append, List.nil_append, cond_true, cond_false, and_true, true_and, beq_self_eq_true, ↓reduceIte, Nat.reduceEqDiff, Nat.reduceBEq, Nat.reduceAdd, Nat.reduceMul, Nat.reduceSub, Nat.reduceLT, Nat.reduceLeDiff] <;> try simp)⟩
        · rw [r2 j f1 f2 (.inl (by omega))]
          refine ⟨i + 1, ⟨by omega, by omega⟩, by omega, by (refine lessW_of [] rfl ?_ <;> simp only [St.sws, St.sw, swS, swO, AV.sw, AV.swL, OB.sw, swp, St.upd, dropS, dropOs, Less, SubS, SubO, look, lookO, List.elem, List.cons_append, List.nil_append, cond_true, cond_false, and_true, true_and, beq_self_eq_true, ↓reduceIte, Nat.reduceEqDiff, Nat.reduceBEq, Nat.reduceAdd, Nat.reduceMul, Nat.reduceSub, Nat.reduceLT, Nat.reduceLeDiff] <;> try simp)⟩
    · rw [srtN_end (by omega)]
      exact ress_none (by simp [lensO, lookO, obCells, sortB_len]) ⟨rfl, trivial⟩

set_option maxRecDepth 100000 in
set_option maxHeartbeats 4000000 in
theorem stable_hi (a z : List PerV) (ha : a.length ≤ 16) (hz : z.length ≤ 1048576) (hb : ∀ x ∈ a, 1 ≤ x.born ∧ x.born ≤ 2999) : FnS Tryz.prog 92 [(5000, .ds (perC (a ++ z)))] [.bs 5000 0 a.length 5, .d (.int a.length), .fc 79 [] []] [(5000, .ds (perC (sortB a ++ z)))] (.tu []) := by
  refine fns_go Tryz.func92 rfl rfl Tryz.ntmps92 Tryz.results92 (by simp only [slotsA, Nat.reduceAdd]; rfl) (by simp) rfl ?_
  repeat' (first | (with_reducible first | refine aw_seq fun K hK => ?_ | refine aw_region (by kernel_rfl) ?_ | refine aw_condk ?_ | refine aw_block ?_) | ((with_reducible refine evg ?_); simp only [go_sem, ↓reduceIte, Nat.reduceEqDiff, Nat.reduceBEq, Nat.reduceAdd, Nat.reduceMul, Nat.reduceSub, Nat.reduceLT, Nat.reduceLeDiff]) | ((with_reducible refine ev_guard ?_); (with_reducible first | refine guard_t ?_ ?_ rfl | refine guard_f ?_ ?_ rfl) <;> (intro h; (try simp only [h]); (try simp only [nrm] at h))) | ((with_reducible refine ck_split (fun h => ?_) (fun h => ?_)) <;> (try simp only [nrm] at h)) | ((with_reducible refine And.intro ?_ ?_); (first | omega | focus (simp; done) | focus (simp; omega) | focus ((repeat' (with_reducible refine And.intro ?_ ?_)) <;> first | omega | rfl | (simp only [go_sem, refsL_app, refs_dmap] <;> fail) | (simp [refsL_app, refs_dmap, AV.refsL, AV.refs] <;> omega)))) | ((with_reducible first | apply hK | (clear hK K; first | apply hK | (clear hK K; first | apply hK | (clear hK K; apply hK)))); clear hK K) | (simp (disch := omega) only [wr, drop_at, str_at, int_at, Int.reduceSub, Int.reduceAdd, Int.reduceToNat, Int.toNat_zero]) | fail)
  refine aw_loopU [7, 8, 11, 12, 13, 14, 15, 16, 17, 18, 19, 20, 21, 22] [18] (fun _ : Nat => [(7, .d (.int 0)), (8, .d (.int 20))]) (fun _ => []) (fun _ => True) (fun _ => 0) 0 trivial ?_ ?_
  · (refine lessW_of [] rfl ?_ <;> simp only [St.sws, St.sw, swS, swO, AV.sw, AV.swL, OB.sw, swp, St.upd, dropS, dropOs, Less, SubS, SubO, look, lookO, List.elem, List.cons_append, List.nil_append, cond_true, cond_false, and_true, true_and, beq_self_eq_true, ↓reduceIte, Nat.reduceEqDiff, Nat.reduceBEq, Nat.reduceAdd, Nat.reduceMul, Nat.reduceSub, Nat.reduceLT, Nat.reduceLeDiff] <;> try simp)
  · rintro i -
    simp only [St.upd, dropS, dropOs, List.elem, List.cons_append, List.nil_append, cond_true, cond_false, beq_self_eq_true, ↓reduceIte, Nat.reduceEqDiff, Nat.reduceBEq, Nat.reduceAdd, Nat.reduceMul, Nat.reduceSub, Nat.reduceLT, Nat.reduceLeDiff]
    repeat' (first | (with_reducible first | refine aw_seq fun K hK => ?_ | refine aw_region (by kernel_rfl) ?_ | refine aw_condk ?_ | refine aw_block ?_) | ((with_reducible refine evg ?_); simp only [go_sem, ↓reduceIte, Nat.reduceEqDiff, Nat.reduceBEq, Nat.reduceAdd, Nat.reduceMul, Nat.reduceSub, Nat.reduceLT, Nat.reduceLeDiff]) | (simp (disch := omega) only [wr, drop_at, str_at, int_at, Int.reduceSub, Int.reduceAdd, Int.reduceToNat, Int.toNat_zero, wr]) | ((with_reducible refine ev_call ?_); (first | (refine call_s (isort_hi a z (by omega) hz hb) ?_ ?_ ?_ ?_ ?_; (focus rfl); (focus first | exact trivial | exact And.intro rfl trivial | exact ⟨rfl, rfl, trivial⟩ | exact ⟨rfl, rfl, rfl, trivial⟩); (focus rfl); (focus (simp [-List.map_map, apartO, dropO, killN, obCells, refs_dmap, nofnsD, AV.refs, AV.refsL, AV.nofn, AV.nofns] <;> fail)))); refine k_run ?_) | ((with_reducible refine ev_guard ?_); (with_reducible first | refine guard_t ?_ ?_ rfl | refine guard_f ?_ ?_ rfl) <;> (intro h; (try simp only [h]); (try simp only [nrm] at h) <;> (try ((with_reducible exfalso); omega)))) | ((with_reducible refine ck_split (fun h => ?_) (fun h => ?_)) <;> (try simp only [nrm] at h) <;> (try ((with_reducible exfalso); omega))) | ((with_reducible refine And.intro ?_ ?_); (first | omega | focus (simp; done) | focus (simp; omega) | focus ((repeat' (with_reducible refine And.intro ?_ ?_)) <;> first | omega | rfl | (simp only [go_sem, refsL_app, refs_dmap] <;> fail) | (simp [refsL_app, refs_dmap, AV.refsL, AV.refs] <;> omega)))) | ((with_reducible first | apply hK | (clear hK K; first | apply hK | (clear hK K; first | apply hK | (clear hK K; apply hK)))); clear hK K) | fail)
    refine aw_loopU [6, 7, 8, 9, 28, 29, 30, 31, 32, 33, 34, 35, 36, 37, 38, 39, 40, 41, 42, 43, 44, 45, 46, 47, 48, 49, 50, 51, 52, 53, 54, 55, 56, 57, 58, 59, 60, 61, 62] [43, 60] (fun _ : Nat => [(6, .d (.int 20)), (7, .d (.int 0)), (8, .d (.int 20))]) (fun _ => []) (fun _ => True) (fun _ => 0) 0 trivial ?_ ?_
    · (refine lessW_of [] rfl ?_ <;> simp only [St.sws, St.sw, swS, swO, AV.sw, AV.swL, OB.sw, swp, St.upd, dropS, dropOs, Less, SubS, SubO, look, lookO, List.elem, List.cons_append, List.nil_append, cond_true, cond_false, and_true, true_and, beq_self_eq_true, ↓reduceIte, Nat.reduceEqDiff, Nat.reduceBEq, Nat.reduceAdd, Nat.reduceMul, Nat.reduceSub, Nat.reduceLT, Nat.reduceLeDiff] <;> try simp)
    · rintro i -
      simp only [St.upd, dropS, dropOs, List.elem, List.cons_append, List.nil_append, cond_true, cond_false, beq_self_eq_true, ↓reduceIte, Nat.reduceEqDiff, Nat.reduceBEq, Nat.reduceAdd, Nat.reduceMul, Nat.reduceSub, Nat.reduceLT, Nat.reduceLeDiff]
      repeat' (first | (with_reducible first | refine aw_seq fun K hK => ?_ | refine aw_region (by kernel_rfl) ?_ | refine aw_condk ?_ | refine aw_block ?_) | ((with_reducible refine evg ?_); simp only [go_sem, ↓reduceIte, Nat.reduceEqDiff, Nat.reduceBEq, Nat.reduceAdd, Nat.reduceMul, Nat.reduceSub, Nat.reduceLT, Nat.reduceLeDiff]) | (simp (disch := omega) only [wr, drop_at, str_at, int_at, Int.reduceSub, Int.reduceAdd, Int.reduceToNat, Int.toNat_zero, wr]) | ((with_reducible refine ev_guard ?_); (with_reducible first | refine guard_t ?_ ?_ rfl | refine guard_f ?_ ?_ rfl) <;> (intro h; (try simp only [h]); (try simp only [nrm] at h) <;> (try ((with_reducible exfalso); omega)))) | ((with_reducible refine ck_split (fun h => ?_) (fun h => ?_)) <;> (try simp only [nrm] at h) <;> (try ((with_reducible exfalso); omega))) | ((with_reducible refine And.intro ?_ ?_); (first | omega | focus (simp; done) | focus (simp; omega) | focus ((repeat' (with_reducible refine And.intro ?_ ?_)) <;> first | omega | rfl | (simp only [go_sem, refsL_app, refs_dmap] <;> fail) | (simp [refsL_app, refs_dmap, AV.refsL, AV.refs] <;> omega)))) | ((with_reducible first | apply hK | (clear hK K; first | apply hK | (clear hK K; first | apply hK | (clear hK K; apply hK)))); clear hK K) | fail)
      exact ress_none (by simp [lensO, lookO, obCells, sortB_len]) ⟨rfl, trivial⟩

set_option maxRecDepth 100000 in
set_option maxHeartbeats 4000000 in
theorem sstable_hi (a z : List PerV) (ha : a.length ≤ 16) (hz : z.length ≤ 1048576) (hb : ∀ x ∈ a, 1 ≤ x.born ∧ x.born ≤ 2999) : FnS Tryz.prog 78 [(5000, .ds (perC (a ++ z)))] [.bs 5000 0 a.length 5, .fc 79 [] []] [(5000, .ds (perC (sortB a ++ z)))] (.tu []) := by
  refine fns_go Tryz.func78 rfl rfl Tryz.ntmps78 Tryz.results78 (by simp only [slotsA, Nat.reduceAdd]; rfl) (by simp) rfl ?_
  repeat' (first | (with_reducible first | refine aw_seq fun K hK => ?_ | refine aw_region (by kernel_rfl) ?_ | refine aw_condk ?_ | refine aw_block ?_) | ((with_reducible refine evg ?_); simp only [go_sem, ↓reduceIte, Nat.reduceEqDiff, Nat.reduceBEq, Nat.reduceAdd, Nat.reduceMul, Nat.reduceSub, Nat.reduceLT, Nat.reduceLeDiff]) | ((with_reducible refine ev_call ?_); (first | (refine call_s (stable_hi a z ha hz hb) ?_ ?_ ?_ ?_ ?_; (focus rfl); (focus first | exact trivial | exact And.intro rfl trivial | exact ⟨rfl, rfl, trivial⟩ | exact ⟨rfl, rfl, rfl, trivial⟩); (focus rfl); (focus (simp [-List.map_map, apartO, dropO, killN, obCells, refs_dmap, nofnsD, AV.refs, AV.refsL, AV.nofn, AV.nofns] <;> fail)))); refine k_run ?_) | ((with_reducible refine ev_guard ?_); (with_reducible first | refine guard_t ?_ ?_ rfl | refine guard_f ?_ ?_ rfl) <;> (intro h; (try simp only [h]); (try simp only [nrm] at h))) | ((with_reducible refine ck_split (fun h => ?_) (fun h => ?_)) <;> (try simp only [nrm] at h)) | ((with_reducible refine And.intro ?_ ?_); (first | omega | focus (simp; done) | focus (simp; omega) | focus ((repeat' (with_reducible refine And.intro ?_ ?_)) <;> first | omega | rfl | (simp only [go_sem, refsL_app, refs_dmap] <;> fail) | (simp [refsL_app, refs_dmap, AV.refsL, AV.refs] <;> omega)))) | ((with_reducible first | apply hK | (clear hK K; first | apply hK | (clear hK K; first | apply hK | (clear hK K; apply hK)))); clear hK K) | (simp (disch := omega) only [wr, drop_at, str_at, int_at, Int.reduceSub, Int.reduceAdd, Int.reduceToNat, Int.toNat_zero]) | fail)
  exact ress_none (by simp [lensO, lookO, obCells, sortB_len]) ⟨rfl, trivial⟩

theorem sstable_s (s : Nat) (a z : List PerV) (ha : a.length ≤ 16) (hz : z.length ≤ 1048576) (hb : ∀ x ∈ a, 1 ≤ x.born ∧ x.born ≤ 2999) : FnS Tryz.prog 78 [(s, .ds (perC (a ++ z)))] [.bs s 0 a.length 5, .fc 79 [] []] [(s, .ds (perC (sortB a ++ z)))] (.tu []) := by
  have h := (sstable_hi a z ha hz hb).sw 5000 s
  simpa only [swO, AV.swL, AV.sw, OB.sw, sw_self] using h

theorem okFam_len {l : List PerV} (h : okFam l = true) : l.length ≤ 16 := by
  simp only [okFam, okFamG, Bool.and_eq_true, decide_eq_true_eq] at h
  exact h.2

theorem okFam_at {l : List PerV} (h : okFam l = true) {i : Nat} (hi : i < l.length) : okAt parB l i = true := by
  simp only [okFam, okFamG, Bool.and_eq_true, List.all_eq_true, List.mem_range] at h
  exact h.1 i hi

theorem okFam_mem {l : List PerV} (h : okFam l = true) {x : PerV} (hx : x ∈ l) : okPer x = true := by
  obtain ⟨i, hi, rfl⟩ := List.mem_iff_getElem.1 hx
  have := okAt_per (okFam_at h hi)
  rwa [getD_eq _ hi] at this

theorem kidF_mem {l : List PerV} {id : Int} {x : PerV} : x ∈ kidF l id ↔ x ∈ l ∧ chil x id = true := List.mem_filter

def kids (l : List PerV) (id : Int) : List PerV := sortB (kidF l id)

def kidI (l : List PerV) (id : Int) : List Int := (kids l id).map PerV.id

theorem kids_mem {l : List PerV} {id : Int} {x : PerV} : x ∈ kids l id ↔ x ∈ l ∧ chil x id = true := by rw [kids, sortB_mem, kidF_mem]

theorem kids_len (l : List PerV) (id : Int) : (kids l id).length ≤ l.length := by
  rw [kids, sortB_len]
  exact kidF_le l id

theorem kidI_len (l : List PerV) (id : Int) : (kidI l id).length = (kids l id).length := by simp [kidI]

theorem per_atl {a b : List PerV} {i : Nat} (h : i < a.length) : (a ++ b).getD i PerV.zero = a.getD i PerV.zero := by
  rw [List.getD_eq_getElem?_getD, List.getElem?_append_left h, ← List.getD_eq_getElem?_getD]

theorem kidI_next {l : List PerV} {i : Nat} (h : i < l.length) : ((l.take (i + 1)).map PerV.id).map D.int = ((l.take i).map PerV.id).map D.int ++ [D.int (l.getD i PerV.zero).id] := by
  rw [take_next PerV.zero h, List.map_append, List.map_append]
  rfl

set_option maxRecDepth 100000 in
set_option maxHeartbeats 4000000 in
theorem children_fn (l : List PerV) (id : Int) (hok : okFam l = true) : FnD Tryz.prog 57 [famD l, .int id] (intL (kidI l id)) := by
  have hl := okFam_len hok
  have hk := kidF_le l id
  have hb : ∀ x ∈ kidF l id, 1 ≤ x.born ∧ x.born ≤ 2999 := fun x hx => okPer_born (okFam_mem hok (kidF_mem.1 hx).1)
  refine fn_go Tryz.func57 rfl rfl Tryz.ntmps57 Tryz.results57 (by simp only [slotsOf, argAV, List.map_cons, List.map_nil, Nat.reduceAdd]; rfl) (by simp) ?_
  repeat' (first | (with_reducible first | refine aw_seq fun K hK => ?_ | refine aw_region (by kernel_rfl) ?_ | refine aw_condk ?_ | refine aw_block ?_) | ((with_reducible refine evg ?_); simp only [go_sem, ↓reduceIte, Nat.reduceEqDiff, Nat.reduceBEq, Nat.reduceAdd, Nat.reduceMul, Nat.reduceSub, Nat.reduceLT, Nat.reduceLeDiff]) | ((with_reducible refine ev_call ?_); (first | (refine call_s (del_s 12 3 l id (by omega) (by decide) (by decide) (by decide)) ?_ ?_ ?_ ?_ ?_; (focus rfl); (focus first | exact trivial | exact And.intro rfl trivial | exact ⟨rfl, rfl, trivial⟩ | exact ⟨rfl, rfl, rfl, trivial⟩); (focus rfl); (focus (simp [-List.map_map, apartO, dropO, killN, obCells, refs_dmap, nofnsD, AV.refs, AV.refsL, AV.nofn, AV.nofns] <;> fail))) | (refine call_s (sstable_s 12 (kidF l id) (List.replicate (l.length - (kidF l id).length) PerV.zero) (by omega) (by simp; omega) hb) ?_ ?_ ?_ ?_ ?_; (focus rfl); (focus first | exact trivial | exact And.intro rfl trivial | exact ⟨rfl, rfl, trivial⟩ | exact ⟨rfl, rfl, rfl, trivial⟩); (focus rfl); (focus (simp [-List.map_map, apartO, dropO, killN, obCells, refs_dmap, nofnsD, AV.refs, AV.refsL, AV.nofn, AV.nofns] <;> fail)))); refine k_run ?_) | ((with_reducible refine ev_guard ?_); (with_reducible first | refine guard_t ?_ ?_ rfl | refine guard_f ?_ ?_ rfl) <;> (intro h; (try simp only [h]); (try simp only [nrm] at h))) | ((with_reducible refine ck_split (fun h => ?_) (fun h => ?_)) <;> (try simp only [nrm] at h)) | ((with_reducible refine And.intro ?_ ?_); (first | omega | focus (simp; done) | focus (simp; omega) | focus ((repeat' (with_reducible refine And.intro ?_ ?_)) <;> first | omega | rfl | (simp only [go_sem, refsL_app, refs_dmap] <;> fail) | (simp [refsL_app, refs_dmap, AV.refsL, AV.refs] <;> omega)))) | ((with_reducible first | apply hK | (clear hK K; first | apply hK | (clear hK K; first | apply hK | (clear hK K; apply hK)))); clear hK K) | (simp (disch := omega) only [wr, drop_at, str_at, int_at, Int.reduceSub, Int.reduceAdd, Int.reduceToNat, Int.toNat_zero]) | fail)
  rw [show sortB (kidF l id) = kids l id from rfl]
  have hq : (kids l id).length = (kidF l id).length := sortB_len _
  have hZ : (kids l id ++ List.replicate (l.length - (kidF l id).length) PerV.zero).length = l.length := by simp; omega
  have m1 : ∀ i, i < (kids l id).length → (kids l id ++ List.replicate (l.length - (kidF l id).length) PerV.zero).getD i PerV.zero = (kids l id).getD i PerV.zero := fun i h => per_atl h
  obtain ⟨Z, eZ⟩ : ∃ Z, kids l id ++ List.replicate (l.length - (kidF l id).length) PerV.zero = Z := ⟨_, rfl⟩
  rw [eZ] at hZ ⊢
  simp only [eZ] at m1
  refine aw_loopU [6, 8, 9, 17, 20, 21, 22, 23, 24, 25, 26, 27, 28, 29] [8, 9, 17, 27, 28] (fun i : Nat => [(20, .d (.int i)), (6, .bs 28 0 i 1)]) (fun i => [(28, .ds ((((kids l id).take i).map PerV.id).map D.int))]) (fun i => i ≤ (kidF l id).length) (fun i => (kidF l id).length - i) 0 (by omega) ?_ ?_
  · (refine lessW_of [(17, 28)] rfl ?_ <;> simp only [St.sws, St.sw, swS, swO, AV.sw, AV.swL, OB.sw, swp, St.upd, dropS, dropOs, Less, SubS, SubO, look, lookO, List.elem, List.cons_append, List.nil_append, cond_true, cond_false, and_true, true_and, beq_self_eq_true, ↓reduceIte, Nat.reduceEqDiff, Nat.reduceBEq, Nat.reduceAdd, Nat.reduceMul, Nat.reduceSub, Nat.reduceLT, Nat.reduceLeDiff] <;> try simp)
  · rintro i g1
    simp only [St.upd, dropS, dropOs, List.elem, List.cons_append, List.nil_append, cond_true, cond_false, beq_self_eq_true, ↓reduceIte, Nat.reduceEqDiff, Nat.reduceBEq, Nat.reduceAdd, Nat.reduceMul, Nat.reduceSub, Nat.reduceLT, Nat.reduceLeDiff]
    have hi : (((kids l id).take i).map PerV.id).length = i := by simp; omega
    have m2 : i < (kids l id).length → Z.getD i PerV.zero = (kids l id).getD i PerV.zero := m1 i
    repeat' (first | (with_reducible first | refine aw_seq fun K hK => ?_ | refine aw_region (by kernel_rfl) ?_ | refine aw_condk ?_ | refine aw_block ?_) | ((with_reducible refine evg ?_); simp only [go_sem, ↓reduceIte, Nat.reduceEqDiff, Nat.reduceBEq, Nat.reduceAdd, Nat.reduceMul, Nat.reduceSub, Nat.reduceLT, Nat.reduceLeDiff]) | (simp (disch := omega) only [wr, drop_at, str_at, int_at, Int.reduceSub, Int.reduceAdd, Int.reduceToNat, Int.toNat_zero, per_at, m2]) | ((with_reducible refine ev_guard ?_); (with_reducible first | refine guard_t ?_ ?_ rfl | refine guard_f ?_ ?_ rfl) <;> (intro h; (try simp only [h]); (try simp only [nrm] at h) <;> (try ((with_reducible exfalso); omega)))) | ((with_reducible refine ck_split (fun h => ?_) (fun h => ?_)) <;> (try simp only [nrm] at h) <;> (try ((with_reducible exfalso); omega))) | ((with_reducible refine And.intro ?_ ?_); (first | omega | focus (simp; done) | focus (simp; omega) | focus ((repeat' (with_reducible refine And.intro ?_ ?_)) <;> first | omega | rfl | (simp only [go_sem, refsL_app, refs_dmap] <;> fail) | (simp [refsL_app, refs_dmap, AV.refsL, AV.refs] <;> omega)))) | ((with_reducible first | apply hK | (clear hK K; first | apply hK | (clear hK K; first | apply hK | (clear hK K; apply hK)))); clear hK K) | fail)
    · have e : (((kids l id).take i).map PerV.id).map D.int = ((((kids l id).take i).map PerV.id).map D.int).take i := (List.take_of_length_le (by rw [List.length_map]; omega)).symm
      rw [← e, ← kidI_next (by omega)]
      refine ⟨i + 1, ?_, ?_, by (refine lessW_of [] rfl ?_ <;> simp only [St.sws, St.sw, swS, swO, AV.sw, AV.swL, OB.sw, swp, St.upd, dropS, dropOs, Less, SubS, SubO, look, lookO, List.elem, List.cons_append, List.nil_append, cond_true, cond_false, and_true, true_and, beq_self_eq_true, ↓reduceIte, Nat.reduceEqDiff, Nat.reduceBEq, Nat.reduceAdd, Nat.reduceMul, Nat.reduceSub, Nat.reduceLT, Nat.reduceLeDiff] <;> try simp)⟩
      · omega
      · omega
    · have e : i = (kids l id).length := by omega
      have e2 : (kids l id).take i = kids l id := List.take_of_length_le (by omega)
      have e3 : i = (kidI l id).length := by rw [kidI_len]; exact e
      rw [e2, show (kids l id).map PerV.id = kidI l id from rfl]
      (first | refine res_tmp rfl (by simp [D.plain, plains]) (by simp) ?_ | refine res_at rfl (by simp [D.plain, plains]) (by simp) ?_ | refine res_two rfl (by simp [D.plain, plains]) (by simp) ?_ | refine res_three rfl (by simp [D.plain, plains]) (by simp) ?_)
      simp [e3]

end Go.Proofs.YtdeobicgildamaaGreatDoor
