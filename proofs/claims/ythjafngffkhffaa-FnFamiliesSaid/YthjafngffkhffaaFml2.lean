/- The cross law of families. -/
import Derived.Test.YthjafngffkhffaaFml
import Derived.WalkKit
import Derived.WalkSpells
import Derived.KernelRfl
namespace Go.Proofs.Ythjafngffkhffaa
open Go.RowKit
set_option linter.unusedVariables false
set_option linter.unusedSimpArgs false

attribute [local go_sem] PerV.d PerV.cs perL famD codL intL

attribute [local simp] refs_dmap perC_all perC_plains ints_plain ints_all ints_all1 ints_plain_take codL

theorem ints_pre {l : List Int} {i : Nat} (h : i ≤ l.length) : D.ls 1 i (((l.map D.int).drop 0).take (i * 1)) = intL (l.take i) := by
  rw [List.drop_zero, Nat.mul_one, ← List.map_take, intL, List.length_take, Nat.min_eq_left h]

theorem zc_alen {l : List PerV} {id : Int} : (ancZ l id).length ≤ 16 := by
  unfold ancZ
  split
  · rename_i h
    obtain ⟨hok, hid⟩ := askF_iff.1 h
    exact ascL_len hok (ancF_asc hok _ _ _ hid (ascL_nil l))
  · simp

theorem zc_klen {l : List PerV} {id : Int} : (kidZ l id).length ≤ l.length := by
  unfold kidZ
  split
  · rw [kidI, List.length_map]
    exact kids_len l id
  · simp

theorem zc_hlen {l : List PerV} {id y : Int} : (heirZ l id y).length ≤ l.length := by
  unfold heirZ askY
  split
  · rename_i h
    rw [Bool.and_eq_true] at h
    obtain ⟨hok, hid⟩ := askF_iff.1 h.1
    exact Nat.le_trans (List.length_filter_le _ _) (okL_len (hrL_ok hok hid))
  · simp

set_option maxRecDepth 100000 in
theorem pl_Fml2_13_15 (l : List Oper) (h : l = opsOf Try.f13 15) : planB l (.pure 0 (.pure 1 (.pure 2 (.pure 3 (.pure 4 (.one 5 (.pure 6 (.pure 7 (.pure 8 (.pure 9 (.pure 10 PT.fin))))))))))) [] = true := by
  subst h
  kernel_rfl

set_option maxRecDepth 100000 in
theorem pl_Fml2_13_26 (l : List Oper) (h : l = opsOf Try.f13 26) : planB l (.pure 0 (.pure 1 (.pure 2 (.pure 3 (.pure 4 (.one 5 (.pure 6 (.pure 7 (.pure 8 (.pure 9 (.pure 10 PT.fin))))))))))) [] = true := by
  subst h
  kernel_rfl

set_option maxRecDepth 100000 in
theorem pl_Fml2_13_27 (l : List Oper) (h : l = opsOf Try.f13 27) : planB l (.pure 0 (.pure 1 (.pure 2 (.pure 3 (.pure 4 (.one 5 (.pure 6 (.pure 7 (.pure 8 (.pure 9 (.pure 10 (.pure 11 (.pure 12 (.pure 13 (.pure 14 (.pure 15 (.one 16 (.pure 17 PT.fin)))))))))))))))))) [] = true := by
  subst h
  kernel_rfl

set_option maxRecDepth 100000 in
set_option maxHeartbeats 4000000 in
theorem fnFamilies_fn (bs : List Int) (hb : ∀ x ∈ bs, 0 ≤ x ∧ x ≤ 255) (hl : bs.length ≤ 9223372036854775807) : FnD Try.prog 13 [codL bs] (.bool true) := by
  have e0 := rBig_fn bs hl
  by_cases hbig : 65536 < bs.length
  · rw [decide_eq_true hbig] at e0
    refine fn_go Try.func13 rfl rfl Try.ntmps13 Try.results13 (by simp only [slotsOf, argAV, List.map_cons, List.map_nil, Nat.reduceAdd]; rfl) (by simp) ?_
    repeat' (first | (with_reducible first | refine aw_seq fun K hK => ?_ | refine aw_region (by kernel_rfl) ?_ | refine aw_condk ?_ | refine aw_block ?_) | ((with_reducible refine ev_aw ?_); first | (refine aw_draw (id := 15) (by kernel_rfl) _ _ (by kernel_rfl) (pl_Fml2_13_15 _ (by kernel_rfl)) ?_) | (refine aw_draw (id := 26) (by kernel_rfl) _ _ (by kernel_rfl) (pl_Fml2_13_26 _ (by kernel_rfl)) ?_) | (refine aw_draw (id := 27) (by kernel_rfl) _ _ (by kernel_rfl) (pl_Fml2_13_27 _ (by kernel_rfl)) ?_)) | (with_reducible first | refine ru_four ?_ ?_ ?_ ?_ | refine ru_three ?_ ?_ ?_ | refine ru_two ?_ ?_ | refine rv_split ?_ ?_ | refine rv_two ?_ ?_ | refine rp_two ?_ ?_) | ((with_reducible refine evg ?_); simp only [go_sem, St.clean, cleanO, ↓reduceIte, Nat.reduceEqDiff, Nat.reduceBEq, Nat.reduceAdd, Nat.reduceMul, Nat.reduceSub, Nat.reduceLT, Nat.reduceLeDiff]) | (simp (disch := omega) only [wr, drop_at, str_at, int_at, Int.reduceSub, Int.reduceAdd, Int.reduceToNat, Int.toNat_zero, wr]) | ((with_reducible refine ev_call ?_); (first | (refine call_fn e0 rfl ?_)); refine k_run ?_) | ((with_reducible refine ev_guard ?_); (with_reducible first | refine guard_t ?_ ?_ rfl | refine guard_f ?_ ?_ rfl) <;> (intro h; (try simp only [h]); (try simp only [nrm] at h) <;> (try ((with_reducible exfalso); omega)))) | ((with_reducible refine ck_split (fun h => ?_) (fun h => ?_)) <;> (try simp only [nrm] at h) <;> (try ((with_reducible exfalso); omega))) | ((with_reducible refine And.intro ?_ ?_); (first | omega | focus (simp; done) | focus (simp; omega) | focus ((repeat' (with_reducible refine And.intro ?_ ?_)) <;> first | omega | rfl | (simp only [go_sem, refsL_app, refs_dmap] <;> fail) | (simp [refsL_app, refs_dmap, AV.refsL, AV.refs] <;> omega)))) | (with_reducible refine hJ _ (fun K hK => ?_) ?_ <;> clear hJ KJ) | ((with_reducible refine ev_less ?_); (refine ⟨rfl, ?_, ?_⟩ <;> simp only [go_sem, St.clean, cleanO, SubS, SubO, beq_self_eq_true, ↓reduceIte, Nat.reduceEqDiff, Nat.reduceBEq, Nat.reduceAdd, Nat.reduceMul, Nat.reduceSub, Nat.reduceLT, Nat.reduceLeDiff])) | ((with_reducible first | apply hK | (clear hK K; first | apply hK | (clear hK K; first | apply hK | (clear hK K; apply hK)))); clear hK K) | fail)
    (first | refine res_tmp rfl (by simp [D.plain, plains]) (by simp) ?_ | refine res_at rfl (by simp [D.plain, plains]) (by simp) ?_ | refine res_two rfl (by simp [D.plain, plains]) (by simp) ?_ | refine res_three rfl (by simp [D.plain, plains]) (by simp) ?_)
    rfl
  · rw [decide_eq_false hbig] at e0
    have hok : okCod bs := ⟨hb, by omega⟩
    have d1 := drawAnc_fn bs hok
    have d2 := drawHeirs_fn bs hok
    have hlen := dF_len hok
    generalize dF bs = l at *
    generalize dP bs = v at *
    generalize dY bs = y at *
    have ac : ∀ c, FnD Try.prog 37 [famD l, .int c] (.tu [intL (ancZ l c), .bool (askF l c)]) := fun c => ancR_z l c ▸ implAnc_fn l c (by omega)
    have a1 := ac v
    have a2 := specAnc_fn l v (by omega)
    have c1 := implChildren_fn l v (by omega)
    have g1 := implGen_fn l v (by omega)
    have h1 := implHeirs_fn l v y (by omega)
    have h2 := specHeirs_fn l v y (by omega)
    have k1 := implHead_fn l v y (by omega)
    have k2 := specHead_fn l v y (by omega)
    rw [ancR_z] at a2
    rw [childR_z] at c1
    rw [genR_z] at g1
    rw [heirsR_z] at h1 h2
    rw [headR_z] at k1 k2
    have hz1 := zc_alen (l := l) (id := v)
    have hz2 := zc_klen (l := l) (id := v)
    have hz3 := zc_hlen (l := l) (id := v) (y := y)
    have r1 := rInts_fn (ancZ l v) (by omega)
    have r2 := rInts_fn (heirZ l v y) (by omega)
    have m1 := fun h => zc_up (l := l) (id := v) h
    have m2 := fun h => zc_dn (l := l) (id := v) h
    have m3 := fun c (hc : c ∈ kidZ l v) => zc_kid hc
    have m4 := fun c (hc : c ∈ heirZ l v y) => zc_heir hc
    have m5 := zc_nodup l v y
    have m6 := fun h => zc_head (l := l) (id := v) (y := y) h
    have hac := fun c => rHas_fn (ancZ l c) v (by have := zc_alen (l := l) (id := c); omega)
    generalize heirZ l v y = hs at *
    generalize kidZ l v = ks at *
    generalize ancZ l v = an at *
    generalize upZ l v = up at *
    generalize dnZ l v = dn at *
    generalize headZ l v y = hv at *
    generalize headB l v y = hB at *
    generalize askY l v y = B at *
    generalize hA : askF l v = A at *
    have q1 : A = true → (up == 0) = ((an.length : Int) == 0) := fun h => by
      have := m1 h
      rw [Bool.eq_iff_iff]
      simp only [beq_iff_eq]
      rw [this, List.eq_nil_iff_length_eq_zero]
      omega
    have q2 : A = true → (dn == 0) = ((ks.length : Int) == 0) := fun h => by
      have := m2 h
      rw [Bool.eq_iff_iff]
      simp only [beq_iff_eq]
      rw [this, List.eq_nil_iff_length_eq_zero]
      omega
    clear m1 m2
    obtain ⟨b1, u1⟩ : ∃ b, (up == 0) = b := ⟨_, rfl⟩
    obtain ⟨b2, u2⟩ : ∃ b, ((an.length : Int) == 0) = b := ⟨_, rfl⟩
    obtain ⟨b3, u3⟩ : ∃ b, (dn == 0) = b := ⟨_, rfl⟩
    obtain ⟨b4, u4⟩ : ∃ b, ((ks.length : Int) == 0) = b := ⟨_, rfl⟩
    rw [u1, u2] at q1
    rw [u3, u4] at q2
    cases A
    all_goals
      (try (have e1 := q1 rfl; subst e1))
      (try (have e2 := q2 rfl; subst e2))
      clear q1 q2
      refine fn_go Try.func13 rfl rfl Try.ntmps13 Try.results13 (by simp only [slotsOf, argAV, List.map_cons, List.map_nil, Nat.reduceAdd]; rfl) (by simp) ?_
      repeat' (first | (with_reducible first | refine aw_seq fun K hK => ?_ | refine aw_region (by kernel_rfl) ?_ | refine aw_condk ?_ | refine aw_block ?_) | ((with_reducible refine ev_aw ?_); first | (refine aw_draw (id := 15) (by kernel_rfl) _ _ (by kernel_rfl) (pl_Fml2_13_15 _ (by kernel_rfl)) ?_) | (refine aw_draw (id := 26) (by kernel_rfl) _ _ (by kernel_rfl) (pl_Fml2_13_26 _ (by kernel_rfl)) ?_) | (refine aw_draw (id := 27) (by kernel_rfl) _ _ (by kernel_rfl) (pl_Fml2_13_27 _ (by kernel_rfl)) ?_)) | (with_reducible first | refine ru_four ?_ ?_ ?_ ?_ | refine ru_three ?_ ?_ ?_ | refine ru_two ?_ ?_ | refine rv_split ?_ ?_ | refine rv_two ?_ ?_ | refine rp_two ?_ ?_) | ((with_reducible first | refine evg ?_ | refine ev_guard ?_); simp only [go_sem, St.clean, cleanO, ↓reduceIte, Nat.reduceEqDiff, Nat.reduceBEq, Nat.reduceAdd, Nat.reduceMul, Nat.reduceSub, Nat.reduceLT, Nat.reduceLeDiff]) | (simp (disch := omega) only [wr, drop_at, str_at, int_at, Int.reduceSub, Int.reduceAdd, Int.reduceToNat, Int.toNat_zero, bne_self_eq_false, u1, u2, u3, u4, wr]) | ((with_reducible refine ev_call ?_); (first | (refine call_fn e0 rfl ?_) | (refine call_fn d1 rfl ?_) | (refine call_fn a1 rfl ?_) | (refine call_fn a2 rfl ?_) | (refine call_fn2 r1 rfl ?_ ?_; (focus (simp only [ints_raw] <;> fail))) | (refine call_fn c1 rfl ?_) | (refine call_fn g1 rfl ?_)); refine k_run ?_) | ((with_reducible refine ev_guard ?_); (with_reducible first | refine guard_t ?_ ?_ rfl | refine guard_f ?_ ?_ rfl) <;> (intro h; (try simp only [h]); (try simp only [nrm] at h) <;> (try ((with_reducible exfalso); omega)))) | ((with_reducible refine ck_split (fun h => ?_) (fun h => ?_)) <;> (try simp only [nrm] at h) <;> (try ((with_reducible exfalso); omega))) | ((with_reducible refine And.intro ?_ ?_); (first | omega | focus (simp; done) | focus (simp; omega) | focus ((repeat' (with_reducible refine And.intro ?_ ?_)) <;> first | omega | rfl | (simp only [go_sem, refsL_app, refs_dmap] <;> fail) | (simp [refsL_app, refs_dmap, AV.refsL, AV.refs] <;> omega)))) | (with_reducible refine hJ _ (fun K hK => ?_) ?_ <;> clear hJ KJ) | ((with_reducible refine ev_less ?_); (refine ⟨rfl, ?_, ?_⟩ <;> simp only [go_sem, St.clean, cleanO, SubS, SubO, beq_self_eq_true, ↓reduceIte, Nat.reduceEqDiff, Nat.reduceBEq, Nat.reduceAdd, Nat.reduceMul, Nat.reduceSub, Nat.reduceLT, Nat.reduceLeDiff])) | ((with_reducible first | apply hK | (clear hK K; first | apply hK | (clear hK K; first | apply hK | (clear hK K; apply hK)))); clear hK K) | fail)
      refine aw_loopU [2, 14, 15, 16, 99, 100, 101, 102, 103, 104, 105, 106, 107, 108, 109, 110, 111, 112, 113, 114, 115, 116, 117, 118, 119, 120, 121] [101, 111, 119] (fun i : Nat => [(14, .d (.int i))]) (fun _ => []) (fun i => i ≤ ks.length) (fun i => ks.length - i) 0 (by omega) ?_ ?_
      · (refine lessW_of [] rfl ?_ <;> simp only [St.sws, St.sw, swS, swO, AV.sw, AV.swL, OB.sw, swp, St.upd, dropS, dropOs, Less, SubS, SubO, look, lookO, List.elem, List.cons_append, List.nil_append, cond_true, cond_false, and_true, true_and, beq_self_eq_true, ↓reduceIte, Nat.reduceEqDiff, Nat.reduceBEq, Nat.reduceAdd, Nat.reduceMul, Nat.reduceSub, Nat.reduceLT, Nat.reduceLeDiff] <;> try simp)
      · rintro i g1
        simp only [St.upd, dropS, dropOs, List.elem, List.cons_append, List.nil_append, cond_true, cond_false, beq_self_eq_true, ↓reduceIte, Nat.reduceEqDiff, Nat.reduceBEq, Nat.reduceAdd, Nat.reduceMul, Nat.reduceSub, Nat.reduceLT, Nat.reduceLeDiff]
        by_cases hi : i < ks.length
        · have hcm := getD_mem (0 : Int) hi
          obtain ⟨c, ec⟩ : ∃ c, ks.getD i 0 = c := ⟨_, rfl⟩
          rw [ec] at hcm
          obtain ⟨w1, w2⟩ := m3 c hcm
          have e1 := ac c
          have e2 := hac c
          rw [w1] at e1
          rw [w2] at e2
          repeat' (first | (with_reducible first | refine aw_seq fun K hK => ?_ | refine aw_region (by kernel_rfl) ?_ | refine aw_condk ?_ | refine aw_block ?_) | ((with_reducible refine ev_aw ?_); first | (refine aw_draw (id := 15) (by kernel_rfl) _ _ (by kernel_rfl) (pl_Fml2_13_15 _ (by kernel_rfl)) ?_) | (refine aw_draw (id := 26) (by kernel_rfl) _ _ (by kernel_rfl) (pl_Fml2_13_26 _ (by kernel_rfl)) ?_) | (refine aw_draw (id := 27) (by kernel_rfl) _ _ (by kernel_rfl) (pl_Fml2_13_27 _ (by kernel_rfl)) ?_)) | (with_reducible first | refine ru_four ?_ ?_ ?_ ?_ | refine ru_three ?_ ?_ ?_ | refine ru_two ?_ ?_ | refine rv_split ?_ ?_ | refine rv_two ?_ ?_ | refine rp_two ?_ ?_) | ((with_reducible refine evg ?_); simp only [go_sem, St.clean, cleanO, ↓reduceIte, Nat.reduceEqDiff, Nat.reduceBEq, Nat.reduceAdd, Nat.reduceMul, Nat.reduceSub, Nat.reduceLT, Nat.reduceLeDiff]) | (simp (disch := omega) only [wr, drop_at, str_at, int_at, Int.reduceSub, Int.reduceAdd, Int.reduceToNat, Int.toNat_zero, int_at, ec, wr]) | ((with_reducible refine ev_call ?_); (first | (refine call_fn e1 rfl ?_) | (refine call_fn2 e2 rfl ?_ ?_; (focus (simp only [ints_raw] <;> fail)))); refine k_run ?_) | ((with_reducible refine ev_guard ?_); (with_reducible first | refine guard_t ?_ ?_ rfl | refine guard_f ?_ ?_ rfl) <;> (intro h; (try simp only [h]); (try simp only [nrm] at h) <;> (try ((with_reducible exfalso); omega)))) | ((with_reducible refine ck_split (fun h => ?_) (fun h => ?_)) <;> (try simp only [nrm] at h) <;> (try ((with_reducible exfalso); omega))) | ((with_reducible refine And.intro ?_ ?_); (first | omega | focus (simp; done) | focus (simp; omega) | focus ((repeat' (with_reducible refine And.intro ?_ ?_)) <;> first | omega | rfl | (simp only [go_sem, refsL_app, refs_dmap] <;> fail) | (simp [refsL_app, refs_dmap, AV.refsL, AV.refs] <;> omega)))) | (with_reducible refine hJ _ (fun K hK => ?_) ?_ <;> clear hJ KJ) | ((with_reducible refine ev_less ?_); (refine ⟨rfl, ?_, ?_⟩ <;> simp only [go_sem, St.clean, cleanO, SubS, SubO, beq_self_eq_true, ↓reduceIte, Nat.reduceEqDiff, Nat.reduceBEq, Nat.reduceAdd, Nat.reduceMul, Nat.reduceSub, Nat.reduceLT, Nat.reduceLeDiff])) | ((with_reducible first | apply hK | (clear hK K; first | apply hK | (clear hK K; first | apply hK | (clear hK K; apply hK)))); clear hK K) | fail)
          all_goals (try omega)
          refine ⟨i + 1, ?_, ?_, by (refine lessW_of [] rfl ?_ <;> simp only [St.sws, St.sw, swS, swO, AV.sw, AV.swL, OB.sw, swp, St.upd, dropS, dropOs, Less, SubS, SubO, look, lookO, List.elem, List.cons_append, List.nil_append, cond_true, cond_false, and_true, true_and, beq_self_eq_true, ↓reduceIte, Nat.reduceEqDiff, Nat.reduceBEq, Nat.reduceAdd, Nat.reduceMul, Nat.reduceSub, Nat.reduceLT, Nat.reduceLeDiff] <;> try simp)⟩
          · omega
          · omega
        · repeat' (first | (with_reducible first | refine aw_seq fun K hK => ?_ | refine aw_region (by kernel_rfl) ?_ | refine aw_condk ?_ | refine aw_block ?_) | ((with_reducible refine ev_aw ?_); first | (refine aw_draw (id := 15) (by kernel_rfl) _ _ (by kernel_rfl) (pl_Fml2_13_15 _ (by kernel_rfl)) ?_) | (refine aw_draw (id := 26) (by kernel_rfl) _ _ (by kernel_rfl) (pl_Fml2_13_26 _ (by kernel_rfl)) ?_) | (refine aw_draw (id := 27) (by kernel_rfl) _ _ (by kernel_rfl) (pl_Fml2_13_27 _ (by kernel_rfl)) ?_)) | (with_reducible first | refine ru_four ?_ ?_ ?_ ?_ | refine ru_three ?_ ?_ ?_ | refine ru_two ?_ ?_ | refine rv_split ?_ ?_ | refine rv_two ?_ ?_ | refine rp_two ?_ ?_) | ((with_reducible first | refine evg ?_ | refine ev_guard ?_); simp only [go_sem, St.clean, cleanO, ↓reduceIte, Nat.reduceEqDiff, Nat.reduceBEq, Nat.reduceAdd, Nat.reduceMul, Nat.reduceSub, Nat.reduceLT, Nat.reduceLeDiff]) | (simp (disch := omega) only [wr, drop_at, str_at, int_at, Int.reduceSub, Int.reduceAdd, Int.reduceToNat, Int.toNat_zero, bne_self_eq_false, wr]) | ((with_reducible refine ev_call ?_); (first | (refine call_fn d2 rfl ?_) | (refine call_fn h1 rfl ?_) | (refine call_fn h2 rfl ?_) | (refine call_fn2 r2 rfl ?_ ?_; (focus (simp only [ints_raw] <;> fail)))); refine k_run ?_) | ((with_reducible refine ev_guard ?_); (with_reducible first | refine guard_t ?_ ?_ rfl | refine guard_f ?_ ?_ rfl) <;> (intro h; (try simp only [h]); (try simp only [nrm] at h) <;> (try ((with_reducible exfalso); omega)))) | ((with_reducible refine ck_split (fun h => ?_) (fun h => ?_)) <;> (try simp only [nrm] at h) <;> (try ((with_reducible exfalso); omega))) | ((with_reducible refine And.intro ?_ ?_); (first | omega | focus (simp; done) | focus (simp; omega) | focus ((repeat' (with_reducible refine And.intro ?_ ?_)) <;> first | omega | rfl | (simp only [go_sem, refsL_app, refs_dmap] <;> fail) | (simp [refsL_app, refs_dmap, AV.refsL, AV.refs] <;> omega)))) | (with_reducible refine hJ _ (fun K hK => ?_) ?_ <;> clear hJ KJ) | ((with_reducible refine ev_less ?_); (refine ⟨rfl, ?_, ?_⟩ <;> simp only [go_sem, St.clean, cleanO, SubS, SubO, beq_self_eq_true, ↓reduceIte, Nat.reduceEqDiff, Nat.reduceBEq, Nat.reduceAdd, Nat.reduceMul, Nat.reduceSub, Nat.reduceLT, Nat.reduceLeDiff])) | ((with_reducible first | apply hK | (clear hK K; first | apply hK | (clear hK K; first | apply hK | (clear hK K; apply hK)))); clear hK K) | fail)
          all_goals (try omega)
          refine aw_loopU [2, 24, 25, 26, 151, 152, 153, 154, 155, 156, 157, 158, 159, 160, 161, 162, 163, 164, 165, 166, 167, 168, 169, 170, 171, 172, 173, 174, 175, 176, 177, 178, 179, 180, 181, 182, 183] [153, 163, 171, 182] (fun i : Nat => [(24, .d (.int i))]) (fun _ => []) (fun i => i ≤ hs.length) (fun i => hs.length - i) 0 (by omega) ?_ ?_
          · (refine lessW_of [] rfl ?_ <;> simp only [St.sws, St.sw, swS, swO, AV.sw, AV.swL, OB.sw, swp, St.upd, dropS, dropOs, Less, SubS, SubO, look, lookO, List.elem, List.cons_append, List.nil_append, cond_true, cond_false, and_true, true_and, beq_self_eq_true, ↓reduceIte, Nat.reduceEqDiff, Nat.reduceBEq, Nat.reduceAdd, Nat.reduceMul, Nat.reduceSub, Nat.reduceLT, Nat.reduceLeDiff] <;> try simp)
          · rintro j g2
            simp only [St.upd, dropS, dropOs, List.elem, List.cons_append, List.nil_append, cond_true, cond_false, beq_self_eq_true, ↓reduceIte, Nat.reduceEqDiff, Nat.reduceBEq, Nat.reduceAdd, Nat.reduceMul, Nat.reduceSub, Nat.reduceLT, Nat.reduceLeDiff]
            by_cases hj : j < hs.length
            · have hcm := getD_mem (0 : Int) hj
              have e3 := rHas_fn (hs.take j) (hs.getD j 0) (by rw [List.length_take]; omega)
              rw [nodup_before m5 hj] at e3
              obtain ⟨c, ec⟩ : ∃ c, hs.getD j 0 = c := ⟨_, rfl⟩
              rw [ec] at hcm e3
              obtain ⟨w1, w2⟩ := m4 c hcm
              have e1 := ac c
              have e2 := hac c
              rw [w1] at e1
              rw [w2] at e2
              have hpre := ints_pre (Nat.le_of_lt hj)
              repeat' (first | (with_reducible first | refine aw_seq fun K hK => ?_ | refine aw_region (by kernel_rfl) ?_ | refine aw_condk ?_ | refine aw_block ?_) | ((with_reducible refine ev_aw ?_); first | (refine aw_draw (id := 15) (by kernel_rfl) _ _ (by kernel_rfl) (pl_Fml2_13_15 _ (by kernel_rfl)) ?_) | (refine aw_draw (id := 26) (by kernel_rfl) _ _ (by kernel_rfl) (pl_Fml2_13_26 _ (by kernel_rfl)) ?_) | (refine aw_draw (id := 27) (by kernel_rfl) _ _ (by kernel_rfl) (pl_Fml2_13_27 _ (by kernel_rfl)) ?_)) | (with_reducible first | refine ru_four ?_ ?_ ?_ ?_ | refine ru_three ?_ ?_ ?_ | refine ru_two ?_ ?_ | refine rv_split ?_ ?_ | refine rv_two ?_ ?_ | refine rp_two ?_ ?_) | ((with_reducible refine evg ?_); simp only [go_sem, St.clean, cleanO, ↓reduceIte, Nat.reduceEqDiff, Nat.reduceBEq, Nat.reduceAdd, Nat.reduceMul, Nat.reduceSub, Nat.reduceLT, Nat.reduceLeDiff]) | (simp (disch := omega) only [wr, drop_at, str_at, int_at, Int.reduceSub, Int.reduceAdd, Int.reduceToNat, Int.toNat_zero, int_at, ec, wr]) | ((with_reducible refine ev_call ?_); (first | (refine call_fn e1 rfl ?_) | (refine call_fn2 e2 rfl ?_ ?_; (focus (simp only [ints_raw] <;> fail))) | (refine call_fn2 e3 rfl ?_ ?_; (focus (simp only [hpre] <;> fail)))); refine k_run ?_) | ((with_reducible refine ev_guard ?_); (with_reducible first | refine guard_t ?_ ?_ rfl | refine guard_f ?_ ?_ rfl) <;> (intro h; (try simp only [h]); (try simp only [nrm] at h) <;> (try ((with_reducible exfalso); omega)))) | ((with_reducible refine ck_split (fun h => ?_) (fun h => ?_)) <;> (try simp only [nrm] at h) <;> (try ((with_reducible exfalso); omega))) | ((with_reducible refine And.intro ?_ ?_); (first | omega | focus (simp; done) | focus (simp; omega) | focus ((repeat' (with_reducible refine And.intro ?_ ?_)) <;> first | omega | rfl | (simp only [go_sem, refsL_app, refs_dmap] <;> fail) | (simp [refsL_app, refs_dmap, AV.refsL, AV.refs] <;> omega)))) | (with_reducible refine hJ _ (fun K hK => ?_) ?_ <;> clear hJ KJ) | ((with_reducible refine ev_less ?_); (refine ⟨rfl, ?_, ?_⟩ <;> simp only [go_sem, St.clean, cleanO, SubS, SubO, beq_self_eq_true, ↓reduceIte, Nat.reduceEqDiff, Nat.reduceBEq, Nat.reduceAdd, Nat.reduceMul, Nat.reduceSub, Nat.reduceLT, Nat.reduceLeDiff])) | ((with_reducible first | apply hK | (clear hK K; first | apply hK | (clear hK K; first | apply hK | (clear hK K; apply hK)))); clear hK K) | fail)
              all_goals (try omega)
              refine ⟨j + 1, ?_, ?_, by (refine lessW_of [] rfl ?_ <;> simp only [St.sws, St.sw, swS, swO, AV.sw, AV.swL, OB.sw, swp, St.upd, dropS, dropOs, Less, SubS, SubO, look, lookO, List.elem, List.cons_append, List.nil_append, cond_true, cond_false, and_true, true_and, beq_self_eq_true, ↓reduceIte, Nat.reduceEqDiff, Nat.reduceBEq, Nat.reduceAdd, Nat.reduceMul, Nat.reduceSub, Nat.reduceLT, Nat.reduceLeDiff] <;> try simp)⟩
              · omega
              · omega
            · cases hB
              · repeat' (first | (with_reducible first | refine aw_seq fun K hK => ?_ | refine aw_region (by kernel_rfl) ?_ | refine aw_condk ?_ | refine aw_block ?_) | ((with_reducible refine ev_aw ?_); first | (refine aw_draw (id := 15) (by kernel_rfl) _ _ (by kernel_rfl) (pl_Fml2_13_15 _ (by kernel_rfl)) ?_) | (refine aw_draw (id := 26) (by kernel_rfl) _ _ (by kernel_rfl) (pl_Fml2_13_26 _ (by kernel_rfl)) ?_) | (refine aw_draw (id := 27) (by kernel_rfl) _ _ (by kernel_rfl) (pl_Fml2_13_27 _ (by kernel_rfl)) ?_)) | (with_reducible first | refine ru_four ?_ ?_ ?_ ?_ | refine ru_three ?_ ?_ ?_ | refine ru_two ?_ ?_ | refine rv_split ?_ ?_ | refine rv_two ?_ ?_ | refine rp_two ?_ ?_) | ((with_reducible first | refine evg ?_ | refine ev_guard ?_); simp only [go_sem, St.clean, cleanO, ↓reduceIte, Nat.reduceEqDiff, Nat.reduceBEq, Nat.reduceAdd, Nat.reduceMul, Nat.reduceSub, Nat.reduceLT, Nat.reduceLeDiff]) | (simp (disch := omega) only [wr, drop_at, str_at, int_at, Int.reduceSub, Int.reduceAdd, Int.reduceToNat, Int.toNat_zero, bne_self_eq_false, beq_self_eq_true, wr]) | ((with_reducible refine ev_call ?_); (first | (refine call_fn k1 rfl ?_) | (refine call_fn k2 rfl ?_)); refine k_run ?_) | ((with_reducible refine ev_guard ?_); (with_reducible first | refine guard_t ?_ ?_ rfl | refine guard_f ?_ ?_ rfl) <;> (intro h; (try simp only [h]); (try simp only [nrm] at h) <;> (try ((with_reducible exfalso); omega)))) | ((with_reducible refine ck_split (fun h => ?_) (fun h => ?_)) <;> (try simp only [nrm] at h) <;> (try ((with_reducible exfalso); omega))) | ((with_reducible refine And.intro ?_ ?_); (first | omega | focus (simp; done) | focus (simp; omega) | focus ((repeat' (with_reducible refine And.intro ?_ ?_)) <;> first | omega | rfl | (simp only [go_sem, refsL_app, refs_dmap] <;> fail) | (simp [refsL_app, refs_dmap, AV.refsL, AV.refs] <;> omega)))) | (with_reducible refine hJ _ (fun K hK => ?_) ?_ <;> clear hJ KJ) | ((with_reducible refine ev_less ?_); (refine ⟨rfl, ?_, ?_⟩ <;> simp only [go_sem, St.clean, cleanO, SubS, SubO, beq_self_eq_true, ↓reduceIte, Nat.reduceEqDiff, Nat.reduceBEq, Nat.reduceAdd, Nat.reduceMul, Nat.reduceSub, Nat.reduceLT, Nat.reduceLeDiff])) | ((with_reducible first | apply hK | (clear hK K; first | apply hK | (clear hK K; first | apply hK | (clear hK K; apply hK)))); clear hK K) | fail)
                all_goals (try omega)
                all_goals (first | refine res_tmp rfl (by simp [D.plain, plains]) (by simp) ?_ | refine res_at rfl (by simp [D.plain, plains]) (by simp) ?_ | refine res_two rfl (by simp [D.plain, plains]) (by simp) ?_ | refine res_three rfl (by simp [D.plain, plains]) (by simp) ?_ | skip)
                all_goals (first | rfl | (simp; done))
              · by_cases hvv : hv = v
                · subst hvv
                  repeat' (first | (with_reducible first | refine aw_seq fun K hK => ?_ | refine aw_region (by kernel_rfl) ?_ | refine aw_condk ?_ | refine aw_block ?_) | ((with_reducible refine ev_aw ?_); first | (refine aw_draw (id := 15) (by kernel_rfl) _ _ (by kernel_rfl) (pl_Fml2_13_15 _ (by kernel_rfl)) ?_) | (refine aw_draw (id := 26) (by kernel_rfl) _ _ (by kernel_rfl) (pl_Fml2_13_26 _ (by kernel_rfl)) ?_) | (refine aw_draw (id := 27) (by kernel_rfl) _ _ (by kernel_rfl) (pl_Fml2_13_27 _ (by kernel_rfl)) ?_)) | (with_reducible first | refine ru_four ?_ ?_ ?_ ?_ | refine ru_three ?_ ?_ ?_ | refine ru_two ?_ ?_ | refine rv_split ?_ ?_ | refine rv_two ?_ ?_ | refine rp_two ?_ ?_) | ((with_reducible first | refine evg ?_ | refine ev_guard ?_); simp only [go_sem, St.clean, cleanO, ↓reduceIte, Nat.reduceEqDiff, Nat.reduceBEq, Nat.reduceAdd, Nat.reduceMul, Nat.reduceSub, Nat.reduceLT, Nat.reduceLeDiff]) | (simp (disch := omega) only [wr, drop_at, str_at, int_at, Int.reduceSub, Int.reduceAdd, Int.reduceToNat, Int.toNat_zero, bne_self_eq_false, beq_self_eq_true, wr]) | ((with_reducible refine ev_call ?_); (first | (refine call_fn k1 rfl ?_) | (refine call_fn k2 rfl ?_)); refine k_run ?_) | ((with_reducible refine ev_guard ?_); (with_reducible first | refine guard_t ?_ ?_ rfl | refine guard_f ?_ ?_ rfl) <;> (intro h; (try simp only [h]); (try simp only [nrm] at h) <;> (try ((with_reducible exfalso); omega)))) | ((with_reducible refine ck_split (fun h => ?_) (fun h => ?_)) <;> (try simp only [nrm] at h) <;> (try ((with_reducible exfalso); omega))) | ((with_reducible refine And.intro ?_ ?_); (first | omega | focus (simp; done) | focus (simp; omega) | focus ((repeat' (with_reducible refine And.intro ?_ ?_)) <;> first | omega | rfl | (simp only [go_sem, refsL_app, refs_dmap] <;> fail) | (simp [refsL_app, refs_dmap, AV.refsL, AV.refs] <;> omega)))) | (with_reducible refine hJ _ (fun K hK => ?_) ?_ <;> clear hJ KJ) | ((with_reducible refine ev_less ?_); (refine ⟨rfl, ?_, ?_⟩ <;> simp only [go_sem, St.clean, cleanO, SubS, SubO, beq_self_eq_true, ↓reduceIte, Nat.reduceEqDiff, Nat.reduceBEq, Nat.reduceAdd, Nat.reduceMul, Nat.reduceSub, Nat.reduceLT, Nat.reduceLeDiff])) | ((with_reducible first | apply hK | (clear hK K; first | apply hK | (clear hK K; first | apply hK | (clear hK K; apply hK)))); clear hK K) | fail)
                  all_goals (try omega)
                  all_goals (first | refine res_tmp rfl (by simp [D.plain, plains]) (by simp) ?_ | refine res_at rfl (by simp [D.plain, plains]) (by simp) ?_ | refine res_two rfl (by simp [D.plain, plains]) (by simp) ?_ | refine res_three rfl (by simp [D.plain, plains]) (by simp) ?_ | skip)
                  all_goals (first | rfl | (simp; done))
                · rcases m6 rfl with m6 | ⟨z1, z2⟩
                  · exact absurd m6 hvv
                  · have nb : (hv == v) = false := beq_eq_false_iff_ne.2 hvv
                    have ez := z2.symm
                    repeat' (first | (with_reducible first | refine aw_seq fun K hK => ?_ | refine aw_region (by kernel_rfl) ?_ | refine aw_condk ?_ | refine aw_block ?_) | ((with_reducible refine ev_aw ?_); first | (refine aw_draw (id := 15) (by kernel_rfl) _ _ (by kernel_rfl) (pl_Fml2_13_15 _ (by kernel_rfl)) ?_) | (refine aw_draw (id := 26) (by kernel_rfl) _ _ (by kernel_rfl) (pl_Fml2_13_26 _ (by kernel_rfl)) ?_) | (refine aw_draw (id := 27) (by kernel_rfl) _ _ (by kernel_rfl) (pl_Fml2_13_27 _ (by kernel_rfl)) ?_)) | (with_reducible first | refine ru_four ?_ ?_ ?_ ?_ | refine ru_three ?_ ?_ ?_ | refine ru_two ?_ ?_ | refine rv_split ?_ ?_ | refine rv_two ?_ ?_ | refine rp_two ?_ ?_) | ((with_reducible first | refine evg ?_ | refine ev_guard ?_); simp only [go_sem, St.clean, cleanO, ↓reduceIte, Nat.reduceEqDiff, Nat.reduceBEq, Nat.reduceAdd, Nat.reduceMul, Nat.reduceSub, Nat.reduceLT, Nat.reduceLeDiff]) | (simp (disch := omega) only [wr, drop_at, str_at, int_at, Int.reduceSub, Int.reduceAdd, Int.reduceToNat, Int.toNat_zero, bne_self_eq_false, beq_self_eq_true, nb, int_at, ez, wr]) | ((with_reducible refine ev_call ?_); (first | (refine call_fn k1 rfl ?_) | (refine call_fn k2 rfl ?_)); refine k_run ?_) | ((with_reducible refine ev_guard ?_); (with_reducible first | refine guard_t ?_ ?_ rfl | refine guard_f ?_ ?_ rfl) <;> (intro h; (try simp only [h]); (try simp only [nrm] at h) <;> (try ((with_reducible exfalso); omega)))) | ((with_reducible refine ck_split (fun h => ?_) (fun h => ?_)) <;> (try simp only [nrm] at h) <;> (try ((with_reducible exfalso); omega))) | ((with_reducible refine And.intro ?_ ?_); (first | omega | focus (simp; done) | focus (simp; omega) | focus ((repeat' (with_reducible refine And.intro ?_ ?_)) <;> first | omega | rfl | (simp only [go_sem, refsL_app, refs_dmap] <;> fail) | (simp [refsL_app, refs_dmap, AV.refsL, AV.refs] <;> omega)))) | (with_reducible refine hJ _ (fun K hK => ?_) ?_ <;> clear hJ KJ) | ((with_reducible refine ev_less ?_); (refine ⟨rfl, ?_, ?_⟩ <;> simp only [go_sem, St.clean, cleanO, SubS, SubO, beq_self_eq_true, ↓reduceIte, Nat.reduceEqDiff, Nat.reduceBEq, Nat.reduceAdd, Nat.reduceMul, Nat.reduceSub, Nat.reduceLT, Nat.reduceLeDiff])) | ((with_reducible first | apply hK | (clear hK K; first | apply hK | (clear hK K; first | apply hK | (clear hK K; apply hK)))); clear hK K) | fail)
                    all_goals (try omega)
                    all_goals (first | refine res_tmp rfl (by simp [D.plain, plains]) (by simp) ?_ | refine res_at rfl (by simp [D.plain, plains]) (by simp) ?_ | refine res_two rfl (by simp [D.plain, plains]) (by simp) ?_ | refine res_three rfl (by simp [D.plain, plains]) (by simp) ?_ | skip)
                    all_goals (first | rfl | (simp; done))

end Go.Proofs.Ythjafngffkhffaa
