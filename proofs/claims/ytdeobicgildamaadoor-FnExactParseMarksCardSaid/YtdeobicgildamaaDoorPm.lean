/- ParseMarks: both walks and the law. -/
import Derived.Test.YtdeobicgildamaaDoorMkX
import Derived.Test.YtdeobicgildamaaDoorSpt
import Derived.Test.YtdeobicgildamaaDoorIdx
import Derived.WalkKit
import Derived.WalkSpells
import Derived.KernelRfl
namespace Go.Proofs.YtdeobicgildamaaDoor
open Go.RowKit
set_option linter.unusedVariables false
set_option linter.unusedSimpArgs false

attribute [local go_sem] strs intL mkWords

attribute [local simp] refs_dmap ints_plain ints_all ints_all1 ints_plain_take

theorem ext_eq (s sep : ByteArray) (i : Nat) (h : i + sep.size ≤ s.size) : decide (s.extract i (i + sep.size) = sep) = Lib.occAt s.data.toList sep.data.toList i := by
  have h1 := ba_size s
  have h2 := ba_size sep
  rw [Lib.occAt_iff_take _ _ _ (by omega), toB_ext, Nat.add_sub_cancel_left, h2]
  by_cases e : (s.data.toList.drop i).take sep.data.toList.length = sep.data.toList
  · rw [e, toB_of, decide_eq_true rfl]
    simp
  · rw [beq_eq_false_iff_ne.2 e, decide_eq_false]
    intro q
    apply e
    have := congrArg (fun b : ByteArray => b.data.toList) q
    simpa using this

set_option maxRecDepth 100000 in
theorem pl_Pm_10_5 (l : List Oper) (h : l = opsOf Tryd.f10 5) : planB l (.pure 0 (.pure 1 (.pure 2 (.pure 3 (.pure 4 (.pure 5 (.pure 6 (.pure 7 (.pure 8 (.pure 9 (.pure 10 (.pure 11 PT.fin)))))))))))) [] = true := by
  subst h
  kernel_rfl

set_option maxRecDepth 100000 in
set_option maxHeartbeats 4000000 in
theorem l6Cut_fn (s sep : ByteArray) (hs : s.size ≤ 1048576) (h1 : 1 ≤ sep.size) (h2 : sep.size ≤ 1000) : FnD Tryd.prog 10 [.str s, .str sep] (cutR s sep) := by
  have z1 := ba_size s
  have z2 := ba_size sep
  have hhit : ∀ i : Nat, i + sep.size ≤ s.size → Lib.occAt s.data.toList sep.data.toList i = true → (∀ j, j < i → Lib.occAt s.data.toList sep.data.toList j = false) → cutR s sep = .tu [.str (s.extract 0 i), .str (s.extract (i + sep.size) s.size), .bool true] := fun i hi ho hn => by
    have hx := Lib.index_first (by omega) ho hn
    rw [cutR, Lib.cut, hx, if_pos (by omega), Int.toNat_natCast, toB_ext, toB_ext, List.drop_zero, Nat.sub_zero, ← z2]
    have hd : (s.data.toList.drop (i + sep.size)).take (s.size - (i + sep.size)) = s.data.toList.drop (i + sep.size) := List.take_of_length_le (by rw [List.length_drop]; omega)
    rw [hd]
  have hmiss : (∀ j, j ≤ s.data.toList.length → Lib.occAt s.data.toList sep.data.toList j = false) → cutR s sep = .tu [.str s, .str ⟨#[]⟩, .bool false] := fun hn => by
    have hx := Lib.index_none hn
    rw [cutR, Lib.cut, hx, if_neg (by omega), toB_of]
    rfl
  generalize cutR s sep = R at *
  refine fn_go Tryd.func10 rfl rfl Tryd.ntmps10 Tryd.results10 (by simp only [slotsOf, argAV, List.map_cons, List.map_nil, Nat.reduceAdd]; rfl) (by simp) ?_
  repeat' (first | (with_reducible first | refine aw_seq fun K hK => ?_ | refine aw_region (by kernel_rfl) ?_ | refine aw_condk ?_ | refine aw_block ?_) | ((with_reducible refine ev_aw ?_); first | (refine aw_draw (id := 5) (by kernel_rfl) _ _ (by kernel_rfl) (pl_Pm_10_5 _ (by kernel_rfl)) ?_)) | (with_reducible first | refine ru_four ?_ ?_ ?_ ?_ | refine ru_three ?_ ?_ ?_ | refine ru_two ?_ ?_ | refine rv_split ?_ ?_ | refine rv_two ?_ ?_ | refine rp_two ?_ ?_) | ((with_reducible refine evg ?_); simp only [go_sem, St.clean, cleanO, ↓reduceIte, Nat.reduceEqDiff, Nat.reduceBEq, Nat.reduceAdd, Nat.reduceMul, Nat.reduceSub, Nat.reduceLT, Nat.reduceLeDiff]) | (simp (disch := omega) only [wr, drop_at, str_at, int_at, Int.reduceSub, Int.reduceAdd, Int.reduceToNat, Int.toNat_zero, wr]) | ((with_reducible refine ev_guard ?_); (with_reducible first | refine guard_t ?_ ?_ rfl | refine guard_f ?_ ?_ rfl) <;> (intro h; (try simp only [h]); (try simp only [nrm] at h) <;> (try ((with_reducible exfalso); omega)))) | ((with_reducible refine ck_split (fun h => ?_) (fun h => ?_)) <;> (try simp only [nrm] at h) <;> (try ((with_reducible exfalso); omega))) | ((with_reducible refine And.intro ?_ ?_); (first | omega | focus (simp; done) | focus (simp; omega) | focus ((repeat' (with_reducible refine And.intro ?_ ?_)) <;> first | omega | rfl | (simp only [go_sem, refsL_app, refs_dmap] <;> fail) | (simp [refsL_app, refs_dmap, AV.refsL, AV.refs] <;> omega)))) | (with_reducible refine hJ _ (fun K hK => ?_) ?_ <;> clear hJ KJ) | ((with_reducible refine ev_less ?_); (refine ⟨rfl, ?_, ?_⟩ <;> simp only [go_sem, St.clean, cleanO, SubS, SubO, beq_self_eq_true, ↓reduceIte, Nat.reduceEqDiff, Nat.reduceBEq, Nat.reduceAdd, Nat.reduceMul, Nat.reduceSub, Nat.reduceLT, Nat.reduceLeDiff])) | ((with_reducible first | apply hK | (clear hK K; first | apply hK | (clear hK K; first | apply hK | (clear hK K; apply hK)))); clear hK K) | fail)
  refine aw_loopU [4, 5, 6, 7, 8, 9, 10, 11, 12, 13, 14, 15, 16, 17, 18, 19, 20, 21, 22, 23, 24, 25, 26, 27, 28, 29, 30, 31, 32, 33, 34] [10, 13, 21, 32] (fun i : Nat => [(7, .d (.int i))]) (fun _ => []) (fun i => i ≤ s.size ∧ ∀ j, j < i → Lib.occAt s.data.toList sep.data.toList j = false) (fun i => s.size - i) 0 ⟨by omega, fun j hj => by omega⟩ ?_ ?_
  · (refine lessW_of [] rfl ?_ <;> simp only [St.sws, St.sw, swS, swO, AV.sw, AV.swL, OB.sw, swp, St.upd, dropS, dropOs, Less, SubS, SubO, look, lookO, List.elem, List.cons_append, List.nil_append, cond_true, cond_false, and_true, true_and, beq_self_eq_true, ↓reduceIte, Nat.reduceEqDiff, Nat.reduceBEq, Nat.reduceAdd, Nat.reduceMul, Nat.reduceSub, Nat.reduceLT, Nat.reduceLeDiff] <;> try simp)
  · rintro i ⟨g1, g2⟩
    simp only [St.upd, dropS, dropOs, List.elem, List.cons_append, List.nil_append, cond_true, cond_false, beq_self_eq_true, ↓reduceIte, Nat.reduceEqDiff, Nat.reduceBEq, Nat.reduceAdd, Nat.reduceMul, Nat.reduceSub, Nat.reduceLT, Nat.reduceLeDiff]
    by_cases hi : i + sep.size ≤ s.size
    · have hd := ext_eq s sep i hi
      have ht : ((i : Int) + (sep.size : Int)).toNat = i + sep.size := by omega
      cases ho : Lib.occAt s.data.toList sep.data.toList i
      · rw [ho] at hd
        repeat' (first | (with_reducible first | refine aw_seq fun K hK => ?_ | refine aw_region (by kernel_rfl) ?_ | refine aw_condk ?_ | refine aw_block ?_) | ((with_reducible refine ev_aw ?_); first | (refine aw_draw (id := 5) (by kernel_rfl) _ _ (by kernel_rfl) (pl_Pm_10_5 _ (by kernel_rfl)) ?_)) | (with_reducible first | refine ru_four ?_ ?_ ?_ ?_ | refine ru_three ?_ ?_ ?_ | refine ru_two ?_ ?_ | refine rv_split ?_ ?_ | refine rv_two ?_ ?_ | refine rp_two ?_ ?_) | ((with_reducible refine evg ?_); simp only [go_sem, St.clean, cleanO, ↓reduceIte, Nat.reduceEqDiff, Nat.reduceBEq, Nat.reduceAdd, Nat.reduceMul, Nat.reduceSub, Nat.reduceLT, Nat.reduceLeDiff]) | (simp (disch := omega) only [wr, drop_at, str_at, int_at, Int.reduceSub, Int.reduceAdd, Int.reduceToNat, Int.toNat_zero, ht, hd, wr]) | ((with_reducible refine ev_guard ?_); (with_reducible first | refine guard_t ?_ ?_ rfl | refine guard_f ?_ ?_ rfl) <;> (intro h; (try simp only [h]); (try simp only [nrm] at h) <;> (try ((with_reducible exfalso); omega)))) | ((with_reducible refine ck_split (fun h => ?_) (fun h => ?_)) <;> (try simp only [nrm] at h) <;> (try ((with_reducible exfalso); omega))) | ((with_reducible refine And.intro ?_ ?_); (first | omega | focus (simp; done) | focus (simp; omega) | focus ((repeat' (with_reducible refine And.intro ?_ ?_)) <;> first | omega | rfl | (simp only [go_sem, refsL_app, refs_dmap] <;> fail) | (simp [refsL_app, refs_dmap, AV.refsL, AV.refs] <;> omega)))) | (with_reducible refine hJ _ (fun K hK => ?_) ?_ <;> clear hJ KJ) | ((with_reducible refine ev_less ?_); (refine ⟨rfl, ?_, ?_⟩ <;> simp only [go_sem, St.clean, cleanO, SubS, SubO, beq_self_eq_true, ↓reduceIte, Nat.reduceEqDiff, Nat.reduceBEq, Nat.reduceAdd, Nat.reduceMul, Nat.reduceSub, Nat.reduceLT, Nat.reduceLeDiff])) | ((with_reducible first | apply hK | (clear hK K; first | apply hK | (clear hK K; first | apply hK | (clear hK K; apply hK)))); clear hK K) | fail)
        all_goals first
          | contradiction
          | skip
        all_goals
          refine ⟨i + 1, ?_, ?_, by (refine lessW_of [] rfl ?_ <;> simp only [St.sws, St.sw, swS, swO, AV.sw, AV.swL, OB.sw, swp, St.upd, dropS, dropOs, Less, SubS, SubO, look, lookO, List.elem, List.cons_append, List.nil_append, cond_true, cond_false, and_true, true_and, beq_self_eq_true, ↓reduceIte, Nat.reduceEqDiff, Nat.reduceBEq, Nat.reduceAdd, Nat.reduceMul, Nat.reduceSub, Nat.reduceLT, Nat.reduceLeDiff] <;> try simp)⟩
          · refine ⟨by omega, fun j hj => ?_⟩
            by_cases q : j = i
            · subst q
              exact ho
            · exact g2 j (by omega)
          · omega
      · rw [ho] at hd
        have hR := hhit i hi ho g2
        clear hhit hmiss
        repeat' (first | (with_reducible first | refine aw_seq fun K hK => ?_ | refine aw_region (by kernel_rfl) ?_ | refine aw_condk ?_ | refine aw_block ?_) | ((with_reducible refine ev_aw ?_); first | (refine aw_draw (id := 5) (by kernel_rfl) _ _ (by kernel_rfl) (pl_Pm_10_5 _ (by kernel_rfl)) ?_)) | (with_reducible first | refine ru_four ?_ ?_ ?_ ?_ | refine ru_three ?_ ?_ ?_ | refine ru_two ?_ ?_ | refine rv_split ?_ ?_ | refine rv_two ?_ ?_ | refine rp_two ?_ ?_) | ((with_reducible refine evg ?_); simp only [go_sem, St.clean, cleanO, ↓reduceIte, Nat.reduceEqDiff, Nat.reduceBEq, Nat.reduceAdd, Nat.reduceMul, Nat.reduceSub, Nat.reduceLT, Nat.reduceLeDiff]) | (simp (disch := omega) only [wr, drop_at, str_at, int_at, Int.reduceSub, Int.reduceAdd, Int.reduceToNat, Int.toNat_zero, ht, hd, wr]) | ((with_reducible refine ev_guard ?_); (with_reducible first | refine guard_t ?_ ?_ rfl | refine guard_f ?_ ?_ rfl) <;> (intro h; (try simp only [h]); (try simp only [nrm] at h) <;> (try ((with_reducible exfalso); omega)))) | ((with_reducible refine ck_split (fun h => ?_) (fun h => ?_)) <;> (try simp only [nrm] at h) <;> (try ((with_reducible exfalso); omega))) | ((with_reducible refine And.intro ?_ ?_); (first | omega | focus (simp; done) | focus (simp; omega) | focus ((repeat' (with_reducible refine And.intro ?_ ?_)) <;> first | omega | rfl | (simp only [go_sem, refsL_app, refs_dmap] <;> fail) | (simp [refsL_app, refs_dmap, AV.refsL, AV.refs] <;> omega)))) | (with_reducible refine hJ _ (fun K hK => ?_) ?_ <;> clear hJ KJ) | ((with_reducible refine ev_less ?_); (refine ⟨rfl, ?_, ?_⟩ <;> simp only [go_sem, St.clean, cleanO, SubS, SubO, beq_self_eq_true, ↓reduceIte, Nat.reduceEqDiff, Nat.reduceBEq, Nat.reduceAdd, Nat.reduceMul, Nat.reduceSub, Nat.reduceLT, Nat.reduceLeDiff])) | ((with_reducible first | apply hK | (clear hK K; first | apply hK | (clear hK K; first | apply hK | (clear hK K; apply hK)))); clear hK K) | fail)
        all_goals first
          | contradiction
          | skip
        (first | refine res_tmp rfl (by simp [D.plain, plains]) (by simp) ?_ | refine res_at rfl (by simp [D.plain, plains]) (by simp) ?_ | refine res_two rfl (by simp [D.plain, plains]) (by simp) ?_ | refine res_three rfl (by simp [D.plain, plains]) (by simp) ?_)
        rw [hR]
    · have hR := hmiss fun j hj => by
        by_cases q : j < i
        · exact g2 j q
        · cases ho : Lib.occAt s.data.toList sep.data.toList j with
          | false => rfl
          | true =>
            rcases Lib.occAt_room ho with h | h
            · rw [← z2] at h
              omega
            · have z3 : sep.data.toList.length = 0 := by rw [h]; rfl
              omega
      clear hhit hmiss
      repeat' (first | (with_reducible first | refine aw_seq fun K hK => ?_ | refine aw_region (by kernel_rfl) ?_ | refine aw_condk ?_ | refine aw_block ?_) | ((with_reducible refine ev_aw ?_); first | (refine aw_draw (id := 5) (by kernel_rfl) _ _ (by kernel_rfl) (pl_Pm_10_5 _ (by kernel_rfl)) ?_)) | (with_reducible first | refine ru_four ?_ ?_ ?_ ?_ | refine ru_three ?_ ?_ ?_ | refine ru_two ?_ ?_ | refine rv_split ?_ ?_ | refine rv_two ?_ ?_ | refine rp_two ?_ ?_) | ((with_reducible refine evg ?_); simp only [go_sem, St.clean, cleanO, ↓reduceIte, Nat.reduceEqDiff, Nat.reduceBEq, Nat.reduceAdd, Nat.reduceMul, Nat.reduceSub, Nat.reduceLT, Nat.reduceLeDiff]) | (simp (disch := omega) only [wr, drop_at, str_at, int_at, Int.reduceSub, Int.reduceAdd, Int.reduceToNat, Int.toNat_zero, wr]) | ((with_reducible refine ev_guard ?_); (with_reducible first | refine guard_t ?_ ?_ rfl | refine guard_f ?_ ?_ rfl) <;> (intro h; (try simp only [h]); (try simp only [nrm] at h) <;> (try ((with_reducible exfalso); omega)))) | ((with_reducible refine ck_split (fun h => ?_) (fun h => ?_)) <;> (try simp only [nrm] at h) <;> (try ((with_reducible exfalso); omega))) | ((with_reducible refine And.intro ?_ ?_); (first | omega | focus (simp; done) | focus (simp; omega) | focus ((repeat' (with_reducible refine And.intro ?_ ?_)) <;> first | omega | rfl | (simp only [go_sem, refsL_app, refs_dmap] <;> fail) | (simp [refsL_app, refs_dmap, AV.refsL, AV.refs] <;> omega)))) | (with_reducible refine hJ _ (fun K hK => ?_) ?_ <;> clear hJ KJ) | ((with_reducible refine ev_less ?_); (refine ⟨rfl, ?_, ?_⟩ <;> simp only [go_sem, St.clean, cleanO, SubS, SubO, beq_self_eq_true, ↓reduceIte, Nat.reduceEqDiff, Nat.reduceBEq, Nat.reduceAdd, Nat.reduceMul, Nat.reduceSub, Nat.reduceLT, Nat.reduceLeDiff])) | ((with_reducible first | apply hK | (clear hK K; first | apply hK | (clear hK K; first | apply hK | (clear hK K; apply hK)))); clear hK K) | fail)
      all_goals first
        | contradiction
        | skip
      (first | refine res_tmp rfl (by simp [D.plain, plains]) (by simp) ?_ | refine res_at rfl (by simp [D.plain, plains]) (by simp) ?_ | refine res_two rfl (by simp [D.plain, plains]) (by simp) ?_ | refine res_three rfl (by simp [D.plain, plains]) (by simp) ?_)
      rw [hR]

theorem splT_cut (s sep : ByteArray) (h : 1 ≤ sep.size) : splT s sep = toB (Lib.cut s.data.toList sep.data.toList).1 :: (if (Lib.cut s.data.toList sep.data.toList).2.2 = true then splT (toB (Lib.cut s.data.toList sep.data.toList).2.1) sep else []) := by
  have h0 : sep.data.toList ≠ [] := fun e => by
    rw [ba_size, e] at h
    simp at h
  have hge := Lib.index_ge s.data.toList sep.data.toList
  by_cases hx : 0 ≤ Lib.index s.data.toList sep.data.toList
  · obtain ⟨i, hi⟩ := Int.eq_ofNat_of_zero_le hx
    rw [splT, splL_hit h0 hi, Lib.cut, if_pos hx, hi]
    rfl
  · rw [splT, splL_end (by omega), Lib.cut, if_neg hx]
    rfl

theorem splT_le (s sep : ByteArray) (h : 1 ≤ sep.size) : (splT s sep).length ≤ s.size + 2 := by
  have h1 : (splT s sep).length = Lib.countB s sep + 1 := splT_len h
  have h2 : Lib.countB s sep ≤ s.data.toList.length + 1 := Lib.count_le _ _
  have := ba_size s
  omega

theorem cut_le (s sep : List UInt8) : (Lib.cut s sep).2.1.length ≤ s.length := by
  unfold Lib.cut
  split
  · simp
  · simp

theorem mkOne_in (w : ByteArray) : 0 ≤ mkOne w ∧ mkOne w ≤ 7 := by
  have := idxB_in (trimA w) mkWords
  have h7 : mkWords.length = 7 := rfl
  unfold mkOne
  omega

set_option maxRecDepth 100000 in
set_option maxHeartbeats 4000000 in
theorem implPm_fn (s : ByteArray) (hs : s.size ≤ 1048576) : FnD Tryd.prog 5 [.str s] (pmR s) := by
  have hnil : leD (.tu [.v (.slice none 0 0), .bool false]) (.tu [intL [], .bool false]) := leD_tu (lesD_cons leD_nil (lesD_refl _))
  by_cases h0 : s = noM
  · have hR : pmR s = .tu [intL [], .bool true] := by rw [pmR, pmV, if_pos h0]
    rw [hR]
    have hd : decide (s = ⟨#[110, 111, 32, 109, 97, 114, 107]⟩) = true := decide_eq_true h0
    refine fn_go Tryd.func5 rfl rfl Tryd.ntmps5 Tryd.results5 (by simp only [slotsOf, argAV, List.map_cons, List.map_nil, Nat.reduceAdd]; rfl) (by simp) ?_
    repeat' (first | (with_reducible first | refine aw_seq fun K hK => ?_ | refine aw_region (by kernel_rfl) ?_ | refine aw_condk ?_ | refine aw_block ?_) | ((with_reducible refine evg ?_); simp only [go_sem, ↓reduceIte, Nat.reduceEqDiff, Nat.reduceBEq, Nat.reduceAdd, Nat.reduceMul, Nat.reduceSub, Nat.reduceLT, Nat.reduceLeDiff]) | (simp (disch := omega) only [wr, drop_at, str_at, int_at, Int.reduceSub, Int.reduceAdd, Int.reduceToNat, Int.toNat_zero, hd, wr]) | ((with_reducible refine ev_guard ?_); (with_reducible first | refine guard_t ?_ ?_ rfl | refine guard_f ?_ ?_ rfl) <;> (intro h; (try simp only [h]); (try simp only [nrm] at h) <;> (try ((with_reducible exfalso); omega)))) | ((with_reducible refine ck_split (fun h => ?_) (fun h => ?_)) <;> (try simp only [nrm] at h) <;> (try ((with_reducible exfalso); omega))) | ((with_reducible refine And.intro ?_ ?_); (first | omega | focus (simp; done) | focus (simp; omega) | focus ((repeat' (with_reducible refine And.intro ?_ ?_)) <;> first | omega | rfl | (simp only [go_sem, refsL_app, refs_dmap] <;> fail) | (simp [refsL_app, refs_dmap, AV.refsL, AV.refs] <;> omega)))) | ((with_reducible first | apply hK | (clear hK K; first | apply hK | (clear hK K; first | apply hK | (clear hK K; apply hK)))); clear hK K) | fail)
    all_goals first
      | contradiction
      | exact absurd trivial h
      | skip
    all_goals (first | refine res_tmp rfl (by simp [D.plain, plains]) (by simp) ?_ | refine res_at rfl (by simp [D.plain, plains]) (by simp) ?_ | refine res_two rfl (by simp [D.plain, plains]) (by simp) ?_ | refine res_three rfl (by simp [D.plain, plains]) (by simp) ?_ | skip)
    all_goals rfl
  · have hd : decide (s = ⟨#[110, 111, 32, 109, 97, 114, 107]⟩) = false := decide_eq_false h0
    by_cases h2 : 200 < s.size
    · have hR : pmR s = .tu [intL [], .bool false] := by rw [pmR, pmV_long h2]
      rw [hR]
      refine fnd_le ?_ hnil
      refine fn_go Tryd.func5 rfl rfl Tryd.ntmps5 Tryd.results5 (by simp only [slotsOf, argAV, List.map_cons, List.map_nil, Nat.reduceAdd]; rfl) (by simp) ?_
      repeat' (first | (with_reducible first | refine aw_seq fun K hK => ?_ | refine aw_region (by kernel_rfl) ?_ | refine aw_condk ?_ | refine aw_block ?_) | ((with_reducible refine evg ?_); simp only [go_sem, ↓reduceIte, Nat.reduceEqDiff, Nat.reduceBEq, Nat.reduceAdd, Nat.reduceMul, Nat.reduceSub, Nat.reduceLT, Nat.reduceLeDiff]) | (simp (disch := omega) only [wr, drop_at, str_at, int_at, Int.reduceSub, Int.reduceAdd, Int.reduceToNat, Int.toNat_zero, hd, wr]) | ((with_reducible refine ev_guard ?_); (with_reducible first | refine guard_t ?_ ?_ rfl | refine guard_f ?_ ?_ rfl) <;> (intro h; (try simp only [h]); (try simp only [nrm] at h) <;> (try ((with_reducible exfalso); omega)))) | ((with_reducible refine ck_split (fun h => ?_) (fun h => ?_)) <;> (try simp only [nrm] at h) <;> (try ((with_reducible exfalso); omega))) | ((with_reducible refine And.intro ?_ ?_); (first | omega | focus (simp; done) | focus (simp; omega) | focus ((repeat' (with_reducible refine And.intro ?_ ?_)) <;> first | omega | rfl | (simp only [go_sem, refsL_app, refs_dmap] <;> fail) | (simp [refsL_app, refs_dmap, AV.refsL, AV.refs] <;> omega)))) | ((with_reducible first | apply hK | (clear hK K; first | apply hK | (clear hK K; first | apply hK | (clear hK K; apply hK)))); clear hK K) | fail)
      all_goals first
        | contradiction
        | exact absurd trivial h
        | exact absurd (by omega) h
        | skip
      all_goals (first | refine res_tmp rfl (by simp [D.plain, plains]) (by simp) ?_ | refine res_at rfl (by simp [D.plain, plains]) (by simp) ?_ | refine res_two rfl (by simp [D.plain, plains]) (by simp) ?_ | refine res_three rfl (by simp [D.plain, plains]) (by simp) ?_ | skip)
      all_goals rfl
    · have e1 := split_fn s onB (by omega) (by decide)
      have hle := splT_le s onB (by decide)
      have hM : mkC s = ((splT s onB).map mkOne).reverse := rfl
      have hyes : okMarks (mkC s) = true → marksB (mkC s) = s → pmR s = .tu [intL (mkC s), .bool true] := fun h1 h2 => by
        rw [pmR, pmV, if_neg h0, if_pos ⟨h1, h2⟩]
      have hno : ¬ (okMarks (mkC s) = true ∧ marksB (mkC s) = s) → pmR s = .tu [intL [], .bool false] := fun h => by
        rw [pmR, pmV, if_neg h0, if_neg h]
      have e6 := implMarks_fn (mkC s) (by rw [hM]; simp; omega)
      rw [← ints_raw (mkC s)] at e6
      have hon : ({ data := #[32, 111, 110, 32] } : ByteArray) = onB := rfl
      have hwalk : ∀ R, FnD Tryd.prog 17 [D.ls 1 (mkC s).length ((((mkC s).map D.int).drop 0).take ((mkC s).length * 1))] R → (∃ T ok, R = .tu [.str T, .bool ok] ∧ ((ok = true ∧ T = s → pmR s = .tu [intL (mkC s), .bool true]) ∧ (¬ (ok = true ∧ T = s) → pmR s = .tu [intL [], .bool false]))) → FnD Tryd.prog 5 [.str s] (pmR s) := by
        intro R hm hRR
        obtain ⟨T, ok, rfl, hyes, hno⟩ := hRR
        clear e6
        obtain ⟨R, hR⟩ : ∃ R, pmR s = R := ⟨_, rfl⟩
        rw [hR] at hyes hno ⊢
        clear hR
        have hPl : (mkC s).length = (splT s onB).length := by rw [hM]; simp
        rw [hPl, hM] at hm
        rw [hM] at hyes
        clear hM hPl
        generalize splT s onB = P at *
        obtain ⟨R2, hle2, hy, hn⟩ : ∃ R2, leD R2 R ∧ (ok = true ∧ T = s → R2 = .tu [intL ((P.map mkOne).reverse), .bool true]) ∧ (¬ (ok = true ∧ T = s) → R2 = .tu [.v (.slice none 0 0), .bool false]) := by
          by_cases hk : ok = true ∧ T = s
          · exact ⟨_, leD_refl _, fun _ => hyes hk, fun h => absurd hk h⟩
          · refine ⟨.tu [.v (.slice none 0 0), .bool false], ?_, fun h => absurd h hk, fun _ => rfl⟩
            rw [hno hk]
            exact hnil
        refine fnd_le ?_ hle2
        clear hyes hno hle2 hnil
        refine fn_go Tryd.func5 rfl rfl Tryd.ntmps5 Tryd.results5 (by simp only [slotsOf, argAV, List.map_cons, List.map_nil, Nat.reduceAdd]; rfl) (by simp) ?_
        repeat' (first | (with_reducible first | refine aw_seq fun K hK => ?_ | refine aw_region (by kernel_rfl) ?_ | refine aw_condk ?_ | refine aw_block ?_) | ((with_reducible refine evg ?_); simp only [go_sem, ↓reduceIte, Nat.reduceEqDiff, Nat.reduceBEq, Nat.reduceAdd, Nat.reduceMul, Nat.reduceSub, Nat.reduceLT, Nat.reduceLeDiff]) | (simp (disch := omega) only [wr, drop_at, str_at, int_at, Int.reduceSub, Int.reduceAdd, Int.reduceToNat, Int.toNat_zero, hd, hon, wr]) | ((with_reducible refine ev_call ?_); (first | (refine call_fn e1 rfl ?_)); refine k_run ?_) | ((with_reducible refine ev_guard ?_); (with_reducible first | refine guard_t ?_ ?_ rfl | refine guard_f ?_ ?_ rfl) <;> (intro h; (try simp only [h]); (try simp only [nrm] at h) <;> (try ((with_reducible exfalso); omega)))) | ((with_reducible refine ck_split (fun h => ?_) (fun h => ?_)) <;> (try simp only [nrm] at h) <;> (try ((with_reducible exfalso); omega))) | ((with_reducible refine And.intro ?_ ?_); (first | omega | focus (simp; done) | focus (simp; omega) | focus ((repeat' (with_reducible refine And.intro ?_ ?_)) <;> first | omega | rfl | (simp only [go_sem, refsL_app, refs_dmap] <;> fail) | (simp [refsL_app, refs_dmap, AV.refsL, AV.refs] <;> omega)))) | ((with_reducible first | apply hK | (clear hK K; first | apply hK | (clear hK K; first | apply hK | (clear hK K; apply hK)))); clear hK K) | fail)
        all_goals first
          | contradiction
          | exact absurd trivial h
          | exact absurd (by omega) h
          | skip
        refine aw_loopU [4, 6, 15, 19, 20, 21, 22, 23, 24, 25, 26, 27, 28, 29, 30, 31] [15, 23, 25, 26, 28, 30] (fun i : Nat => [(19, .d (.int i)), (4, .bs 30 0 i 1)]) (fun i => [(30, .ds ((((P.take i).map mkOne).reverse).map D.int))]) (fun i => i ≤ P.length) (fun i => P.length - i) 0 (by omega) ?_ ?_
        · (refine lessW_of [(15, 30)] rfl ?_ <;> simp only [St.sws, St.sw, swS, swO, AV.sw, AV.swL, OB.sw, swp, St.upd, dropS, dropOs, Less, SubS, SubO, look, lookO, List.elem, List.cons_append, List.nil_append, cond_true, cond_false, and_true, true_and, beq_self_eq_true, ↓reduceIte, Nat.reduceEqDiff, Nat.reduceBEq, Nat.reduceAdd, Nat.reduceMul, Nat.reduceSub, Nat.reduceLT, Nat.reduceLeDiff] <;> try simp)
        · rintro i g1
          simp only [St.upd, dropS, dropOs, List.elem, List.cons_append, List.nil_append, cond_true, cond_false, beq_self_eq_true, ↓reduceIte, Nat.reduceEqDiff, Nat.reduceBEq, Nat.reduceAdd, Nat.reduceMul, Nat.reduceSub, Nat.reduceLT, Nat.reduceLeDiff]
          by_cases hi : i < P.length
          · have hat := fun d => str_at (l := P) (i := i) (d := d) hi
            have hnx : ((P.take (i + 1)).map mkOne).reverse = mkOne (P.getD i ⟨#[]⟩) :: ((P.take i).map mkOne).reverse := by
              rw [take_next ⟨#[]⟩ hi, List.map_append, List.reverse_append]
              rfl
            have hin := mkOne_in (P.getD i ⟨#[]⟩)
            have e3 := trimPre_fn (P.getD i ⟨#[]⟩) aSp
            have e4 := idxStr_fn mkWords (trimA (P.getD i ⟨#[]⟩)) (by decide)
            have hmo : mkOne (P.getD i ⟨#[]⟩) = idxB (trimA (P.getD i ⟨#[]⟩)) mkWords + 1 := rfl
            rw [show toB (Lib.trimPrefix (P.getD i ⟨#[]⟩).data.toList aSp.data.toList) = trimA (P.getD i ⟨#[]⟩) from rfl] at e3
            generalize idxB (trimA (P.getD i ⟨#[]⟩)) mkWords = v at *
            generalize trimA (P.getD i ⟨#[]⟩) = tw at *
            rw [hmo] at hnx hin
            clear hmo
            generalize P.getD i ⟨#[]⟩ = pw at *
            have hcl : ((((P.take i).map mkOne).reverse).map D.int).length = i := by simp; omega
            have htk : List.take i ((((P.take i).map mkOne).reverse).map D.int) = (((P.take i).map mkOne).reverse).map D.int := List.take_of_length_le (by omega)
            have hap : ({ data := #[97, 32] } : ByteArray) = aSp := rfl
            repeat' (first | (with_reducible first | refine aw_seq fun K hK => ?_ | refine aw_region (by kernel_rfl) ?_ | refine aw_condk ?_ | refine aw_block ?_) | ((with_reducible refine evg ?_); simp only [go_sem, ↓reduceIte, Nat.reduceEqDiff, Nat.reduceBEq, Nat.reduceAdd, Nat.reduceMul, Nat.reduceSub, Nat.reduceLT, Nat.reduceLeDiff]) | (simp (disch := omega) only [wr, drop_at, str_at, int_at, Int.reduceSub, Int.reduceAdd, Int.reduceToNat, Int.toNat_zero, hat, hcl, hap, wr]) | ((with_reducible refine ev_call ?_); (first | (refine call_fn markWords_fn rfl ?_) | (refine call_fn e3 rfl ?_) | (refine call_fn e4 rfl ?_)); refine k_run ?_) | ((with_reducible refine ev_guard ?_); (with_reducible first | refine guard_t ?_ ?_ rfl | refine guard_f ?_ ?_ rfl) <;> (intro h; (try simp only [h]); (try simp only [nrm] at h) <;> (try ((with_reducible exfalso); omega)))) | ((with_reducible refine ck_split (fun h => ?_) (fun h => ?_)) <;> (try simp only [nrm] at h) <;> (try ((with_reducible exfalso); omega))) | ((with_reducible refine And.intro ?_ ?_); (first | omega | focus (simp; done) | focus (simp; omega) | focus ((repeat' (with_reducible refine And.intro ?_ ?_)) <;> first | omega | rfl | (simp only [go_sem, refsL_app, refs_dmap] <;> fail) | (simp [refsL_app, refs_dmap, AV.refsL, AV.refs] <;> omega)))) | ((with_reducible first | apply hK | (clear hK K; first | apply hK | (clear hK K; first | apply hK | (clear hK K; apply hK)))); clear hK K) | fail)
            all_goals
              refine ⟨i + 1, by omega, by omega, ?_⟩
              rw [hnx]
              (refine lessW_of [] rfl ?_ <;> simp only [St.sws, St.sw, swS, swO, AV.sw, AV.swL, OB.sw, swp, St.upd, dropS, dropOs, Less, SubS, SubO, look, lookO, List.elem, List.cons_append, List.nil_append, cond_true, cond_false, and_true, true_and, beq_self_eq_true, ↓reduceIte, Nat.reduceEqDiff, Nat.reduceBEq, Nat.reduceAdd, Nat.reduceMul, Nat.reduceSub, Nat.reduceLT, Nat.reduceLeDiff] <;> try simp)
              refine ⟨by omega, ?_⟩
              rw [List.take_of_length_le (by simp; omega)]
          · have e : i = P.length := by omega
            subst e
            rw [List.take_length]
            have hLl : ((P.map mkOne).reverse).length = P.length := by simp
            clear e1 hle hi g1
            generalize (P.map mkOne).reverse = L at *
            generalize P.length = m at *
            subst hLl
            cases ok
            · have hR2 := hn (by simp)
              clear hy hn
              repeat' (first | (with_reducible first | refine aw_seq fun K hK => ?_ | refine aw_region (by kernel_rfl) ?_ | refine aw_condk ?_ | refine aw_block ?_) | ((with_reducible refine evg ?_); simp only [go_sem, ↓reduceIte, Nat.reduceEqDiff, Nat.reduceBEq, Nat.reduceAdd, Nat.reduceMul, Nat.reduceSub, Nat.reduceLT, Nat.reduceLeDiff]) | (simp (disch := omega) only [wr, drop_at, str_at, int_at, Int.reduceSub, Int.reduceAdd, Int.reduceToNat, Int.toNat_zero, hon, wr]) | ((with_reducible refine ev_call ?_); (first | (refine call_fn hm rfl ?_)); refine k_run ?_) | ((with_reducible refine ev_guard ?_); (with_reducible first | refine guard_t ?_ ?_ rfl | refine guard_f ?_ ?_ rfl) <;> (intro h; (try simp only [h]); (try simp only [nrm] at h) <;> (try ((with_reducible exfalso); omega)))) | ((with_reducible refine ck_split (fun h => ?_) (fun h => ?_)) <;> (try simp only [nrm] at h) <;> (try ((with_reducible exfalso); omega))) | ((with_reducible refine And.intro ?_ ?_); (first | omega | focus (simp; done) | focus (simp; omega) | focus ((repeat' (with_reducible refine And.intro ?_ ?_)) <;> first | omega | rfl | (simp only [go_sem, refsL_app, refs_dmap] <;> fail) | (simp [refsL_app, refs_dmap, AV.refsL, AV.refs] <;> omega)))) | ((with_reducible first | apply hK | (clear hK K; first | apply hK | (clear hK K; first | apply hK | (clear hK K; apply hK)))); clear hK K) | fail)
              all_goals first
                | contradiction
                | exact absurd trivial h
                | skip
              all_goals
                (first | refine res_tmp rfl (by simp [D.plain, plains]) (by simp) ?_ | refine res_at rfl (by simp [D.plain, plains]) (by simp) ?_ | refine res_two rfl (by simp [D.plain, plains]) (by simp) ?_ | refine res_three rfl (by simp [D.plain, plains]) (by simp) ?_)
                rw [hR2]
            · by_cases hT : T = s
              · have hR2 := hy ⟨rfl, hT⟩
                clear hy hn
                subst hT
                have hdd : decide (T = T) = true := decide_eq_true rfl
                repeat' (first | (with_reducible first | refine aw_seq fun K hK => ?_ | refine aw_region (by kernel_rfl) ?_ | refine aw_condk ?_ | refine aw_block ?_) | ((with_reducible refine evg ?_); simp only [go_sem, ↓reduceIte, Nat.reduceEqDiff, Nat.reduceBEq, Nat.reduceAdd, Nat.reduceMul, Nat.reduceSub, Nat.reduceLT, Nat.reduceLeDiff]) | (simp (disch := omega) only [wr, drop_at, str_at, int_at, Int.reduceSub, Int.reduceAdd, Int.reduceToNat, Int.toNat_zero, hdd, wr]) | ((with_reducible refine ev_call ?_); (first | (refine call_fn hm rfl ?_)); refine k_run ?_) | ((with_reducible refine ev_guard ?_); (with_reducible first | refine guard_t ?_ ?_ rfl | refine guard_f ?_ ?_ rfl) <;> (intro h; (try simp only [h]); (try simp only [nrm] at h) <;> (try ((with_reducible exfalso); omega)))) | ((with_reducible refine ck_split (fun h => ?_) (fun h => ?_)) <;> (try simp only [nrm] at h) <;> (try ((with_reducible exfalso); omega))) | ((with_reducible refine And.intro ?_ ?_); (first | omega | focus (simp; done) | focus (simp; omega) | focus ((repeat' (with_reducible refine And.intro ?_ ?_)) <;> first | omega | rfl | (simp only [go_sem, refsL_app, refs_dmap] <;> fail) | (simp [refsL_app, refs_dmap, AV.refsL, AV.refs] <;> omega)))) | ((with_reducible first | apply hK | (clear hK K; first | apply hK | (clear hK K; first | apply hK | (clear hK K; apply hK)))); clear hK K) | fail)
                all_goals first
                  | contradiction
                  | exact absurd trivial h
                  | skip
                all_goals
                  (first | refine res_tmp rfl (by simp [D.plain, plains]) (by simp) ?_ | refine res_at rfl (by simp [D.plain, plains]) (by simp) ?_ | refine res_two rfl (by simp [D.plain, plains]) (by simp) ?_ | refine res_three rfl (by simp [D.plain, plains]) (by simp) ?_)
                  rw [hR2, ints_raw L]
              · have hR2 := hn (fun h => hT h.2)
                clear hy hn
                have hdd : decide (T = s) = false := decide_eq_false hT
                repeat' (first | (with_reducible first | refine aw_seq fun K hK => ?_ | refine aw_region (by kernel_rfl) ?_ | refine aw_condk ?_ | refine aw_block ?_) | ((with_reducible refine evg ?_); simp only [go_sem, ↓reduceIte, Nat.reduceEqDiff, Nat.reduceBEq, Nat.reduceAdd, Nat.reduceMul, Nat.reduceSub, Nat.reduceLT, Nat.reduceLeDiff]) | (simp (disch := omega) only [wr, drop_at, str_at, int_at, Int.reduceSub, Int.reduceAdd, Int.reduceToNat, Int.toNat_zero, hdd, wr]) | ((with_reducible refine ev_call ?_); (first | (refine call_fn hm rfl ?_)); refine k_run ?_) | ((with_reducible refine ev_guard ?_); (with_reducible first | refine guard_t ?_ ?_ rfl | refine guard_f ?_ ?_ rfl) <;> (intro h; (try simp only [h]); (try simp only [nrm] at h) <;> (try ((with_reducible exfalso); omega)))) | ((with_reducible refine ck_split (fun h => ?_) (fun h => ?_)) <;> (try simp only [nrm] at h) <;> (try ((with_reducible exfalso); omega))) | ((with_reducible refine And.intro ?_ ?_); (first | omega | focus (simp; done) | focus (simp; omega) | focus ((repeat' (with_reducible refine And.intro ?_ ?_)) <;> first | omega | rfl | (simp only [go_sem, refsL_app, refs_dmap] <;> fail) | (simp [refsL_app, refs_dmap, AV.refsL, AV.refs] <;> omega)))) | ((with_reducible first | apply hK | (clear hK K; first | apply hK | (clear hK K; first | apply hK | (clear hK K; apply hK)))); clear hK K) | fail)
                all_goals first
                  | contradiction
                  | exact absurd trivial h
                  | skip
                all_goals
                  (first | refine res_tmp rfl (by simp [D.plain, plains]) (by simp) ?_ | refine res_at rfl (by simp [D.plain, plains]) (by simp) ?_ | refine res_two rfl (by simp [D.plain, plains]) (by simp) ?_ | refine res_three rfl (by simp [D.plain, plains]) (by simp) ?_)
                  rw [hR2]
      refine hwalk _ e6 ?_
      unfold mtxR
      cases g : okMarks (mkC s)
      · exact ⟨_, _, rfl, fun h => absurd h.1 (by simp), fun _ => hno (by rw [g]; simp)⟩
      · exact ⟨_, _, rfl, fun h => hyes g h.2, fun h => hno (fun q => h ⟨rfl, q.2⟩)⟩

set_option maxRecDepth 100000 in
set_option maxHeartbeats 4000000 in
theorem specPm_fn (s : ByteArray) (hs : s.size ≤ 1048576) : FnD Tryd.prog 4 [.str s] (pmR s) := by
  have e0 := l19Text_fn [] rfl
  have hm0 : marksB [] = noM := by rw [marksB, if_pos rfl]
  rw [hm0, ← ints_raw []] at e0
  simp only [List.length_nil, List.map_nil] at e0
  have hsp := pmV_spec s
  by_cases h0 : s = noM
  · have hR : pmR s = .tu [intL [], .bool true] := by rw [pmR, pmV, if_pos h0]
    rw [hR]
    have hd : decide (s = noM) = true := decide_eq_true h0
    refine fn_go Tryd.func4 rfl rfl Tryd.ntmps4 Tryd.results4 (by simp only [slotsOf, argAV, List.map_cons, List.map_nil, Nat.reduceAdd]; rfl) (by simp) ?_
    repeat' (first | (with_reducible first | refine aw_seq fun K hK => ?_ | refine aw_region (by kernel_rfl) ?_ | refine aw_condk ?_ | refine aw_block ?_) | ((with_reducible refine evg ?_); simp only [go_sem, ↓reduceIte, Nat.reduceEqDiff, Nat.reduceBEq, Nat.reduceAdd, Nat.reduceMul, Nat.reduceSub, Nat.reduceLT, Nat.reduceLeDiff]) | (simp (disch := omega) only [wr, drop_at, str_at, int_at, Int.reduceSub, Int.reduceAdd, Int.reduceToNat, Int.toNat_zero, hd, wr]) | ((with_reducible refine ev_call ?_); (first | (refine call_fn e0 rfl ?_)); refine k_run ?_) | ((with_reducible refine ev_guard ?_); (with_reducible first | refine guard_t ?_ ?_ rfl | refine guard_f ?_ ?_ rfl) <;> (intro h; (try simp only [h]); (try simp only [nrm] at h) <;> (try ((with_reducible exfalso); omega)))) | ((with_reducible refine ck_split (fun h => ?_) (fun h => ?_)) <;> (try simp only [nrm] at h) <;> (try ((with_reducible exfalso); omega))) | ((with_reducible refine And.intro ?_ ?_); (first | omega | focus (simp; done) | focus (simp; omega) | focus ((repeat' (with_reducible refine And.intro ?_ ?_)) <;> first | omega | rfl | (simp only [go_sem, refsL_app, refs_dmap] <;> fail) | (simp [refsL_app, refs_dmap, AV.refsL, AV.refs] <;> omega)))) | ((with_reducible first | apply hK | (clear hK K; first | apply hK | (clear hK K; first | apply hK | (clear hK K; apply hK)))); clear hK K) | fail)
    all_goals first
      | contradiction
      | exact absurd trivial h
      | skip
    all_goals (first | refine res_tmp rfl (by simp [D.plain, plains]) (by simp) ?_ | refine res_at rfl (by simp [D.plain, plains]) (by simp) ?_ | refine res_two rfl (by simp [D.plain, plains]) (by simp) ?_ | refine res_three rfl (by simp [D.plain, plains]) (by simp) ?_ | skip)
    all_goals rfl
  · have hd : decide (s = noM) = false := decide_eq_false h0
    rw [if_neg h0] at hsp
    have hP := splT_ne s onB
    have hM : mkD s = (((splT s onB).take 7).map fun w => mkTry w 7).reverse := rfl
    have hRy : okMarks (mkD s) = true → marksB (mkD s) = s → pmR s = .tu [intL (mkD s), .bool true] := fun h1 h2 => by
      rw [pmR, hsp, if_pos ⟨h1, h2⟩]
    have hRn : ¬ (okMarks (mkD s) = true ∧ marksB (mkD s) = s) → pmR s = .tu [intL [], .bool false] := fun h => by
      rw [pmR, hsp, if_neg h]
    obtain ⟨R, hR⟩ : ∃ R, pmR s = R := ⟨_, rfl⟩
    rw [hR] at hRy hRn ⊢
    have hq0 : (if true = true then splT s onB else []) = (splT s onB).drop 0 := by simp
    generalize hPP : splT s onB = P at *
    clear hsp hR
    refine fn_go Tryd.func4 rfl rfl Tryd.ntmps4 Tryd.results4 (by simp only [slotsOf, argAV, List.map_cons, List.map_nil, Nat.reduceAdd]; rfl) (by simp) ?_
    repeat' (first | (with_reducible first | refine aw_seq fun K hK => ?_ | refine aw_region (by kernel_rfl) ?_ | refine aw_condk ?_ | refine aw_block ?_) | ((with_reducible refine evg ?_); simp only [go_sem, ↓reduceIte, Nat.reduceEqDiff, Nat.reduceBEq, Nat.reduceAdd, Nat.reduceMul, Nat.reduceSub, Nat.reduceLT, Nat.reduceLeDiff]) | (simp (disch := omega) only [wr, drop_at, str_at, int_at, Int.reduceSub, Int.reduceAdd, Int.reduceToNat, Int.toNat_zero, hd, wr]) | ((with_reducible refine ev_call ?_); (first | (refine call_fn e0 rfl ?_)); refine k_run ?_) | ((with_reducible refine ev_guard ?_); (with_reducible first | refine guard_t ?_ ?_ rfl | refine guard_f ?_ ?_ rfl) <;> (intro h; (try simp only [h]); (try simp only [nrm] at h) <;> (try ((with_reducible exfalso); omega)))) | ((with_reducible refine ck_split (fun h => ?_) (fun h => ?_)) <;> (try simp only [nrm] at h) <;> (try ((with_reducible exfalso); omega))) | ((with_reducible refine And.intro ?_ ?_); (first | omega | focus (simp; done) | focus (simp; omega) | focus ((repeat' (with_reducible refine And.intro ?_ ?_)) <;> first | omega | rfl | (simp only [go_sem, refsL_app, refs_dmap] <;> fail) | (simp [refsL_app, refs_dmap, AV.refsL, AV.refs] <;> omega)))) | ((with_reducible first | apply hK | (clear hK K; first | apply hK | (clear hK K; first | apply hK | (clear hK K; apply hK)))); clear hK K) | fail)
    all_goals first
      | contradiction
      | exact absurd trivial h
      | skip
    refine aw_loopU [4, 5, 6, 7, 8, 9, 10, 11, 12, 13, 14, 15, 16, 18, 19, 20, 21, 22, 23, 24, 25, 26, 27, 28, 29, 30, 31, 32, 33, 34, 35, 36, 37, 38, 39, 40, 41, 42, 43, 44, 45, 46] [12, 13, 14, 15, 16, 18, 22, 27, 37, 42, 44] (fun q : Nat × (ByteArray × Bool) => [(5, .d (.str q.2.1)), (6, .d (.bool q.2.2)), (4, .bs 44 0 q.1 1)]) (fun q => [(44, .ds ((((P.take q.1).map fun w => mkTry w 7).reverse).map D.int))]) (fun q => q.1 ≤ 7 ∧ q.1 ≤ P.length ∧ (if q.2.2 = true then splT q.2.1 onB else []) = P.drop q.1 ∧ q.2.1.size ≤ 1048576) (fun q => P.length - q.1) (0, (s, true)) ⟨by simp, by simp, by simp only [if_true, List.drop_zero, hPP], by simpa using hs⟩ ?_ ?_
    · (refine lessW_of [(12, 44)] rfl ?_ <;> simp only [St.sws, St.sw, swS, swO, AV.sw, AV.swL, OB.sw, swp, St.upd, dropS, dropOs, Less, SubS, SubO, look, lookO, List.elem, List.cons_append, List.nil_append, cond_true, cond_false, and_true, true_and, beq_self_eq_true, ↓reduceIte, Nat.reduceEqDiff, Nat.reduceBEq, Nat.reduceAdd, Nat.reduceMul, Nat.reduceSub, Nat.reduceLT, Nat.reduceLeDiff] <;> try simp)
    · rintro ⟨n, rest, more⟩ ⟨g1, g2, g3, g4⟩
      simp only at g1 g2 g3 g4
      simp only [St.upd, dropS, dropOs, List.elem, List.cons_append, List.nil_append, cond_true, cond_false, beq_self_eq_true, ↓reduceIte, Nat.reduceEqDiff, Nat.reduceBEq, Nat.reduceAdd, Nat.reduceMul, Nat.reduceSub, Nat.reduceLT, Nat.reduceLeDiff]
      have hcl : ((((P.take n).map fun w => mkTry w 7).reverse).map D.int).length = n := by simp; omega
      have htk : List.take n ((((P.take n).map fun w => mkTry w 7).reverse).map D.int) = (((P.take n).map fun w => mkTry w 7).reverse).map D.int := List.take_of_length_le (by omega)
      by_cases hgo : more = true ∧ n ≤ 6
      · obtain ⟨rfl, hn6⟩ := hgo
        rw [if_pos rfl, splT_cut rest onB (by decide)] at g3
        have hn : n < P.length := by
          by_cases q : n < P.length
          · exact q
          · rw [List.drop_of_length_le (by omega)] at g3
            cases g3
        have hdr : P.drop n = P.getD n ⟨#[]⟩ :: P.drop (n + 1) := drop_next _ hn
        rw [hdr, List.cons.injEq] at g3
        obtain ⟨k1, k2⟩ := g3
        have hnx : ((P.take (n + 1)).map fun w => mkTry w 7).reverse = mkTry (P.getD n ⟨#[]⟩) 7 :: ((P.take n).map fun w => mkTry w 7).reverse := by
          rw [take_next ⟨#[]⟩ hn, List.map_append, List.reverse_append]
          rfl
        have e1 := l6Cut_fn rest onB g4 (by decide) (by decide)
        rw [cutR] at e1
        have hle := cut_le rest.data.toList onB.data.toList
        have hrs := ba_size rest
        have hts : ∀ m, 0 ≤ mkTry (P.getD n ⟨#[]⟩) m ∧ mkTry (P.getD n ⟨#[]⟩) m ≤ m := fun m => by
          induction m with
          | zero => exact ⟨Int.le_refl _, Int.le_refl _⟩
          | succ m ih =>
            rw [mkTry]
            split
            · omega
            · omega
        have hst : ∀ m : Nat, mkTry (P.getD n ⟨#[]⟩) (m + 1) = if P.getD n ⟨#[]⟩ = wA ((m + 1 : Nat) : Int) then ((m + 1 : Nat) : Int) else mkTry (P.getD n ⟨#[]⟩) m := fun _ => rfl
        rw [k1] at e1
        obtain ⟨c2, hc2⟩ : ∃ c2, (Lib.cut rest.data.toList onB.data.toList).2.1 = c2 := ⟨_, rfl⟩
        rw [hc2] at e1 k2 hle
        generalize (Lib.cut rest.data.toList onB.data.toList).2.2 = mo at *
        have hb2 : (toB c2).size ≤ 1048576 := by rw [toB_size]; omega
        clear k1 hc2
        generalize toB c2 = rest2 at *
        generalize hTF : mkTry (P.getD n ⟨#[]⟩) = TF at *
        generalize P.getD n ⟨#[]⟩ = pw at *
        have hon : ({ data := #[32, 111, 110, 32] } : ByteArray) = onB := rfl
        repeat' (first | (with_reducible first | refine aw_seq fun K hK => ?_ | refine aw_region (by kernel_rfl) ?_ | refine aw_condk ?_ | refine aw_block ?_) | ((with_reducible refine evg ?_); simp only [go_sem, ↓reduceIte, Nat.reduceEqDiff, Nat.reduceBEq, Nat.reduceAdd, Nat.reduceMul, Nat.reduceSub, Nat.reduceLT, Nat.reduceLeDiff]) | (simp (disch := omega) only [wr, drop_at, str_at, int_at, Int.reduceSub, Int.reduceAdd, Int.reduceToNat, Int.toNat_zero, hon, hcl, wr]) | ((with_reducible refine ev_call ?_); (first | (refine call_fn e1 rfl ?_)); refine k_run ?_) | ((with_reducible refine ev_guard ?_); (with_reducible first | refine guard_t ?_ ?_ rfl | refine guard_f ?_ ?_ rfl) <;> (intro h; (try simp only [h]); (try simp only [nrm] at h) <;> (try ((with_reducible exfalso); omega)))) | ((with_reducible refine ck_split (fun h => ?_) (fun h => ?_)) <;> (try simp only [nrm] at h) <;> (try ((with_reducible exfalso); omega))) | ((with_reducible refine And.intro ?_ ?_); (first | omega | focus (simp; done) | focus (simp; omega) | focus ((repeat' (with_reducible refine And.intro ?_ ?_)) <;> first | omega | rfl | (simp only [go_sem, refsL_app, refs_dmap] <;> fail) | (simp [refsL_app, refs_dmap, AV.refsL, AV.refs] <;> omega)))) | ((with_reducible first | apply hK | (clear hK K; first | apply hK | (clear hK K; first | apply hK | (clear hK K; apply hK)))); clear hK K) | fail)
        refine aw_loopU [10, 11, 31, 32, 33, 34, 35, 36, 37, 38, 39, 40] [37] (fun m : Nat => [(11, .d (.int ((m : Int) + 1))), (10, .d (.int (TF m)))]) (fun _ => []) (fun m => m ≤ 7) (fun m => 7 - m) 0 (by omega) ?_ ?_
        · (refine lessW_of [] rfl ?_ <;> simp only [St.sws, St.sw, swS, swO, AV.sw, AV.swL, OB.sw, swp, St.upd, dropS, dropOs, Less, SubS, SubO, look, lookO, List.elem, List.cons_append, List.nil_append, cond_true, cond_false, and_true, true_and, beq_self_eq_true, ↓reduceIte, Nat.reduceEqDiff, Nat.reduceBEq, Nat.reduceAdd, Nat.reduceMul, Nat.reduceSub, Nat.reduceLT, Nat.reduceLeDiff] <;> try simp)
          all_goals (first | rfl | (rw [← hTF]; rfl) | (refine ⟨?_, ?_⟩ <;> first | rfl | (rw [← hTF]; rfl)))
        · rintro m m1
          simp only [St.upd, dropS, dropOs, List.elem, List.cons_append, List.nil_append, cond_true, cond_false, beq_self_eq_true, ↓reduceIte, Nat.reduceEqDiff, Nat.reduceBEq, Nat.reduceAdd, Nat.reduceMul, Nat.reduceSub, Nat.reduceLT, Nat.reduceLeDiff]
          by_cases hm : m < 7
          · have e2 := l19Word_fn ((m : Int) + 1) (by omega) (by omega)
            have z2 := mkWord_size ((m : Int) + 1)
            have ha2 : aSp.size = 2 := rfl
            have hst2 := hst m
            rw [show ((m + 1 : Nat) : Int) = (m : Int) + 1 by omega, wA] at hst2
            have hap : ({ data := #[97, 32] } : ByteArray) = aSp := rfl
            generalize mkWord ((m : Int) + 1) = W at *
            by_cases hw : pw = aSp ++ W
            · rw [if_pos hw] at hst2
              have hdd : decide (pw = aSp ++ W) = true := decide_eq_true hw
              clear hRy hRn
              repeat' (first | (with_reducible first | refine aw_seq fun K hK => ?_ | refine aw_region (by kernel_rfl) ?_ | refine aw_condk ?_ | refine aw_block ?_) | ((with_reducible refine evg ?_); simp only [go_sem, ↓reduceIte, Nat.reduceEqDiff, Nat.reduceBEq, Nat.reduceAdd, Nat.reduceMul, Nat.reduceSub, Nat.reduceLT, Nat.reduceLeDiff]) | (simp (disch := omega) only [wr, drop_at, str_at, int_at, Int.reduceSub, Int.reduceAdd, Int.reduceToNat, Int.toNat_zero, hap, ha2, hdd, wr]) | ((with_reducible refine ev_call ?_); (first | (refine call_fn e2 rfl ?_)); refine k_run ?_) | ((with_reducible refine ev_guard ?_); (with_reducible first | refine guard_t ?_ ?_ rfl | refine guard_f ?_ ?_ rfl) <;> (intro h; (try simp only [h]); (try simp only [nrm] at h) <;> (try ((with_reducible exfalso); omega)))) | ((with_reducible refine ck_split (fun h => ?_) (fun h => ?_)) <;> (try simp only [nrm] at h) <;> (try ((with_reducible exfalso); omega))) | ((with_reducible refine And.intro ?_ ?_); (first | omega | focus (simp; done) | focus (simp; omega) | focus ((repeat' (with_reducible refine And.intro ?_ ?_)) <;> first | omega | rfl | (simp only [go_sem, refsL_app, refs_dmap] <;> fail) | (simp [refsL_app, refs_dmap, AV.refsL, AV.refs] <;> omega)))) | ((with_reducible first | apply hK | (clear hK K; first | apply hK | (clear hK K; first | apply hK | (clear hK K; apply hK)))); clear hK K) | fail)
              all_goals first
                | contradiction
                | exact absurd trivial h
                | skip
              all_goals
                refine ⟨m + 1, by omega, by omega, ?_⟩
                rw [hst2]
                (refine lessW_of [] rfl ?_ <;> simp only [St.sws, St.sw, swS, swO, AV.sw, AV.swL, OB.sw, swp, St.upd, dropS, dropOs, Less, SubS, SubO, look, lookO, List.elem, List.cons_append, List.nil_append, cond_true, cond_false, and_true, true_and, beq_self_eq_true, ↓reduceIte, Nat.reduceEqDiff, Nat.reduceBEq, Nat.reduceAdd, Nat.reduceMul, Nat.reduceSub, Nat.reduceLT, Nat.reduceLeDiff] <;> try simp)
                all_goals (first | rfl | omega | (refine ⟨?_, ?_⟩ <;> first | rfl | omega))
            · rw [if_neg hw] at hst2
              have hdd : decide (pw = aSp ++ W) = false := decide_eq_false hw
              clear hRy hRn
              repeat' (first | (with_reducible first | refine aw_seq fun K hK => ?_ | refine aw_region (by kernel_rfl) ?_ | refine aw_condk ?_ | refine aw_block ?_) | ((with_reducible refine evg ?_); simp only [go_sem, ↓reduceIte, Nat.reduceEqDiff, Nat.reduceBEq, Nat.reduceAdd, Nat.reduceMul, Nat.reduceSub, Nat.reduceLT, Nat.reduceLeDiff]) | (simp (disch := omega) only [wr, drop_at, str_at, int_at, Int.reduceSub, Int.reduceAdd, Int.reduceToNat, Int.toNat_zero, hap, ha2, hdd, wr]) | ((with_reducible refine ev_call ?_); (first | (refine call_fn e2 rfl ?_)); refine k_run ?_) | ((with_reducible refine ev_guard ?_); (with_reducible first | refine guard_t ?_ ?_ rfl | refine guard_f ?_ ?_ rfl) <;> (intro h; (try simp only [h]); (try simp only [nrm] at h) <;> (try ((with_reducible exfalso); omega)))) | ((with_reducible refine ck_split (fun h => ?_) (fun h => ?_)) <;> (try simp only [nrm] at h) <;> (try ((with_reducible exfalso); omega))) | ((with_reducible refine And.intro ?_ ?_); (first | omega | focus (simp; done) | focus (simp; omega) | focus ((repeat' (with_reducible refine And.intro ?_ ?_)) <;> first | omega | rfl | (simp only [go_sem, refsL_app, refs_dmap] <;> fail) | (simp [refsL_app, refs_dmap, AV.refsL, AV.refs] <;> omega)))) | ((with_reducible first | apply hK | (clear hK K; first | apply hK | (clear hK K; first | apply hK | (clear hK K; apply hK)))); clear hK K) | fail)
              all_goals first
                | contradiction
                | exact absurd trivial h
                | skip
              all_goals
                refine ⟨m + 1, by omega, by omega, ?_⟩
                rw [hst2]
                (refine lessW_of [] rfl ?_ <;> simp only [St.sws, St.sw, swS, swO, AV.sw, AV.swL, OB.sw, swp, St.upd, dropS, dropOs, Less, SubS, SubO, look, lookO, List.elem, List.cons_append, List.nil_append, cond_true, cond_false, and_true, true_and, beq_self_eq_true, ↓reduceIte, Nat.reduceEqDiff, Nat.reduceBEq, Nat.reduceAdd, Nat.reduceMul, Nat.reduceSub, Nat.reduceLT, Nat.reduceLeDiff] <;> try simp)
                all_goals (first | rfl | omega | (refine ⟨?_, ?_⟩ <;> first | rfl | omega))
          · have hm7 : m = 7 := by omega
            subst hm7
            repeat' (first | (with_reducible first | refine aw_seq fun K hK => ?_ | refine aw_region (by kernel_rfl) ?_ | refine aw_condk ?_ | refine aw_block ?_) | ((with_reducible refine evg ?_); simp only [go_sem, ↓reduceIte, Nat.reduceEqDiff, Nat.reduceBEq, Nat.reduceAdd, Nat.reduceMul, Nat.reduceSub, Nat.reduceLT, Nat.reduceLeDiff]) | (simp (disch := omega) only [wr, drop_at, str_at, int_at, Int.reduceSub, Int.reduceAdd, Int.reduceToNat, Int.toNat_zero, hcl, wr]) | ((with_reducible refine ev_guard ?_); (with_reducible first | refine guard_t ?_ ?_ rfl | refine guard_f ?_ ?_ rfl) <;> (intro h; (try simp only [h]); (try simp only [nrm] at h) <;> (try ((with_reducible exfalso); omega)))) | ((with_reducible refine ck_split (fun h => ?_) (fun h => ?_)) <;> (try simp only [nrm] at h) <;> (try ((with_reducible exfalso); omega))) | ((with_reducible refine And.intro ?_ ?_); (first | omega | focus (simp; done) | focus (simp; omega) | focus ((repeat' (with_reducible refine And.intro ?_ ?_)) <;> first | omega | rfl | (simp only [go_sem, refsL_app, refs_dmap] <;> fail) | (simp [refsL_app, refs_dmap, AV.refsL, AV.refs] <;> omega)))) | ((with_reducible first | apply hK | (clear hK K; first | apply hK | (clear hK K; first | apply hK | (clear hK K; apply hK)))); clear hK K) | fail)
            refine ⟨(n + 1, (rest2, mo)), ⟨by simp only; omega, by simp only; omega, k2, hb2⟩, by simp only; omega, ?_⟩
            simp only
            rw [hnx]
            (refine lessW_of [] rfl ?_ <;> simp only [St.sws, St.sw, swS, swO, AV.sw, AV.swL, OB.sw, swp, St.upd, dropS, dropOs, Less, SubS, SubO, look, lookO, List.elem, List.cons_append, List.nil_append, cond_true, cond_false, and_true, true_and, beq_self_eq_true, ↓reduceIte, Nat.reduceEqDiff, Nat.reduceBEq, Nat.reduceAdd, Nat.reduceMul, Nat.reduceSub, Nat.reduceLT, Nat.reduceLeDiff] <;> try simp)
            refine ⟨by omega, ?_⟩
            rw [List.take_of_length_le (by simp; omega)]
      · have hend : P.take n = P.take 7 := by
          cases more with
          | true =>
            have : n = 7 := by
              by_cases q : n ≤ 6
              · exact absurd ⟨rfl, q⟩ hgo
              · omega
            rw [this]
          | false =>
            rw [if_neg (by simp)] at g3
            have hl : P.length ≤ n := by
              have := congrArg List.length g3
              simp at this
              omega
            rw [List.take_of_length_le hl, List.take_of_length_le (by omega)]
        have hMl : (mkD s).length = n := by rw [hM, ← hend]; simp; omega
        rw [hend, ← hM]
        have e3 := l19List_fn (mkD s) (by omega)
        rw [← ints_raw (mkD s)] at e3
        have e4 := fun h => l19Text_fn (mkD s) h
        rw [← ints_raw (mkD s)] at e4
        have hmo : more = false ∨ (more = true ∧ 6 < n) := by
          cases more with
          | false => exact .inl rfl
          | true =>
            refine .inr ⟨rfl, ?_⟩
            by_cases q : n ≤ 6
            · exact absurd ⟨rfl, q⟩ hgo
            · omega
        clear hend hM hcl htk g2 g3 hgo hPP hP
        generalize mkD s = M at *
        subst hMl
        cases g : okMarks M
        · have hR2 := hRn (by rw [g]; simp)
          rw [g] at e3
          clear hRn hRy e4
          rcases hmo with rfl | ⟨rfl, h6⟩
          all_goals
            repeat' (first | (with_reducible first | refine aw_seq fun K hK => ?_ | refine aw_region (by kernel_rfl) ?_ | refine aw_condk ?_ | refine aw_block ?_) | ((with_reducible refine evg ?_); simp only [go_sem, ↓reduceIte, Nat.reduceEqDiff, Nat.reduceBEq, Nat.reduceAdd, Nat.reduceMul, Nat.reduceSub, Nat.reduceLT, Nat.reduceLeDiff]) | (simp (disch := omega) only [wr, drop_at, str_at, int_at, Int.reduceSub, Int.reduceAdd, Int.reduceToNat, Int.toNat_zero, wr]) | ((with_reducible refine ev_call ?_); (first | (refine call_fn e3 rfl ?_)); refine k_run ?_) | ((with_reducible refine ev_guard ?_); (with_reducible first | refine guard_t ?_ ?_ rfl | refine guard_f ?_ ?_ rfl) <;> (intro h; (try simp only [h]); (try simp only [nrm] at h) <;> (try ((with_reducible exfalso); omega)))) | ((with_reducible refine ck_split (fun h => ?_) (fun h => ?_)) <;> (try simp only [nrm] at h) <;> (try ((with_reducible exfalso); omega))) | ((with_reducible refine And.intro ?_ ?_); (first | omega | focus (simp; done) | focus (simp; omega) | focus ((repeat' (with_reducible refine And.intro ?_ ?_)) <;> first | omega | rfl | (simp only [go_sem, refsL_app, refs_dmap] <;> fail) | (simp [refsL_app, refs_dmap, AV.refsL, AV.refs] <;> omega)))) | ((with_reducible first | apply hK | (clear hK K; first | apply hK | (clear hK K; first | apply hK | (clear hK K; apply hK)))); clear hK K) | fail)
            all_goals first
              | contradiction
              | exact absurd trivial h
              | skip
            all_goals
              (first | refine res_tmp rfl (by simp [D.plain, plains]) (by simp) ?_ | refine res_at rfl (by simp [D.plain, plains]) (by simp) ?_ | refine res_two rfl (by simp [D.plain, plains]) (by simp) ?_ | refine res_three rfl (by simp [D.plain, plains]) (by simp) ?_)
              rw [hR2]
              rfl
        · have e4 := e4 g
          rw [g] at e3
          by_cases hT : marksB M = s
          · have hR2 := hRy g hT
            rw [hT] at e4
            have hdd : decide (s = s) = true := decide_eq_true rfl
            clear hRn hRy
            rcases hmo with rfl | ⟨rfl, h6⟩
            all_goals
              repeat' (first | (with_reducible first | refine aw_seq fun K hK => ?_ | refine aw_region (by kernel_rfl) ?_ | refine aw_condk ?_ | refine aw_block ?_) | ((with_reducible refine evg ?_); simp only [go_sem, ↓reduceIte, Nat.reduceEqDiff, Nat.reduceBEq, Nat.reduceAdd, Nat.reduceMul, Nat.reduceSub, Nat.reduceLT, Nat.reduceLeDiff]) | (simp (disch := omega) only [wr, drop_at, str_at, int_at, Int.reduceSub, Int.reduceAdd, Int.reduceToNat, Int.toNat_zero, hdd, wr]) | ((with_reducible refine ev_call ?_); (first | (refine call_fn e3 rfl ?_) | (refine call_fn e4 rfl ?_)); refine k_run ?_) | ((with_reducible refine ev_guard ?_); (with_reducible first | refine guard_t ?_ ?_ rfl | refine guard_f ?_ ?_ rfl) <;> (intro h; (try simp only [h]); (try simp only [nrm] at h) <;> (try ((with_reducible exfalso); omega)))) | ((with_reducible refine ck_split (fun h => ?_) (fun h => ?_)) <;> (try simp only [nrm] at h) <;> (try ((with_reducible exfalso); omega))) | ((with_reducible refine And.intro ?_ ?_); (first | omega | focus (simp; done) | focus (simp; omega) | focus ((repeat' (with_reducible refine And.intro ?_ ?_)) <;> first | omega | rfl | (simp only [go_sem, refsL_app, refs_dmap] <;> fail) | (simp [refsL_app, refs_dmap, AV.refsL, AV.refs] <;> omega)))) | ((with_reducible first | apply hK | (clear hK K; first | apply hK | (clear hK K; first | apply hK | (clear hK K; apply hK)))); clear hK K) | fail)
              all_goals first
                | contradiction
                | exact absurd trivial h
                | skip
              all_goals
                (first | refine res_tmp rfl (by simp [D.plain, plains]) (by simp) ?_ | refine res_at rfl (by simp [D.plain, plains]) (by simp) ?_ | refine res_two rfl (by simp [D.plain, plains]) (by simp) ?_ | refine res_three rfl (by simp [D.plain, plains]) (by simp) ?_)
                rw [hR2, ints_raw M]
          · have hR2 := hRn (fun h => hT h.2)
            have hdd : decide (marksB M = s) = false := decide_eq_false hT
            clear hRn hRy
            generalize marksB M = T at *
            rcases hmo with rfl | ⟨rfl, h6⟩
            all_goals
              repeat' (first | (with_reducible first | refine aw_seq fun K hK => ?_ | refine aw_region (by kernel_rfl) ?_ | refine aw_condk ?_ | refine aw_block ?_) | ((with_reducible refine evg ?_); simp only [go_sem, ↓reduceIte, Nat.reduceEqDiff, Nat.reduceBEq, Nat.reduceAdd, Nat.reduceMul, Nat.reduceSub, Nat.reduceLT, Nat.reduceLeDiff]) | (simp (disch := omega) only [wr, drop_at, str_at, int_at, Int.reduceSub, Int.reduceAdd, Int.reduceToNat, Int.toNat_zero, hdd, wr]) | ((with_reducible refine ev_call ?_); (first | (refine call_fn e3 rfl ?_) | (refine call_fn e4 rfl ?_)); refine k_run ?_) | ((with_reducible refine ev_guard ?_); (with_reducible first | refine guard_t ?_ ?_ rfl | refine guard_f ?_ ?_ rfl) <;> (intro h; (try simp only [h]); (try simp only [nrm] at h) <;> (try ((with_reducible exfalso); omega)))) | ((with_reducible refine ck_split (fun h => ?_) (fun h => ?_)) <;> (try simp only [nrm] at h) <;> (try ((with_reducible exfalso); omega))) | ((with_reducible refine And.intro ?_ ?_); (first | omega | focus (simp; done) | focus (simp; omega) | focus ((repeat' (with_reducible refine And.intro ?_ ?_)) <;> first | omega | rfl | (simp only [go_sem, refsL_app, refs_dmap] <;> fail) | (simp [refsL_app, refs_dmap, AV.refsL, AV.refs] <;> omega)))) | ((with_reducible first | apply hK | (clear hK K; first | apply hK | (clear hK K; first | apply hK | (clear hK K; apply hK)))); clear hK K) | fail)
              all_goals first
                | contradiction
                | exact absurd trivial h
                | skip
              all_goals
                (first | refine res_tmp rfl (by simp [D.plain, plains]) (by simp) ?_ | refine res_at rfl (by simp [D.plain, plains]) (by simp) ?_ | refine res_two rfl (by simp [D.plain, plains]) (by simp) ?_ | refine res_three rfl (by simp [D.plain, plains]) (by simp) ?_)
                rw [hR2]
                rfl

theorem nums_raw1 (k : Int) (n : Nat) : D.ls 1 n ((((nums k n).map D.int).drop 0).take (n * 1)) = .ls 1 n ((nums k n).map D.int) := by
  have hlen : ((nums k n).map D.int).length = n := by simp
  rw [List.drop_zero, Nat.mul_one, List.take_of_length_le (by omega)]

set_option maxRecDepth 100000 in
set_option maxHeartbeats 4000000 in
theorem fnExactParseMarks_fn (s : ByteArray) : FnD Tryd.prog 3 [.str s] (.bool true) := by
  by_cases g : 1048576 < s.size
  · refine fn_go Tryd.func3 rfl rfl Tryd.ntmps3 Tryd.results3 (by simp only [slotsOf, argAV, List.map_cons, List.map_nil, Nat.reduceAdd]; rfl) (by simp) ?_
    repeat' (first | (with_reducible first | refine aw_seq fun K hK => ?_ | refine aw_region (by kernel_rfl) ?_ | refine aw_condk ?_ | refine aw_block ?_) | ((with_reducible refine evg ?_); simp only [go_sem, ↓reduceIte, Nat.reduceEqDiff, Nat.reduceBEq, Nat.reduceAdd, Nat.reduceMul, Nat.reduceSub, Nat.reduceLT, Nat.reduceLeDiff]) | (simp (disch := omega) only [wr, drop_at, str_at, int_at, Int.reduceSub, Int.reduceAdd, Int.reduceToNat, Int.toNat_zero, wr]) | ((with_reducible refine ev_guard ?_); (with_reducible first | refine guard_t ?_ ?_ rfl | refine guard_f ?_ ?_ rfl) <;> (intro h; (try simp only [h]); (try simp only [nrm] at h) <;> (try ((with_reducible exfalso); omega)))) | ((with_reducible refine ck_split (fun h => ?_) (fun h => ?_)) <;> (try simp only [nrm] at h) <;> (try ((with_reducible exfalso); omega))) | ((with_reducible refine And.intro ?_ ?_); (first | omega | focus (simp; done) | focus (simp; omega) | focus ((repeat' (with_reducible refine And.intro ?_ ?_)) <;> first | omega | rfl | (simp only [go_sem, refsL_app, refs_dmap] <;> fail) | (simp [refsL_app, refs_dmap, AV.refsL, AV.refs] <;> omega)))) | ((with_reducible first | apply hK | (clear hK K; first | apply hK | (clear hK K; first | apply hK | (clear hK K; apply hK)))); clear hK K) | fail)
    all_goals first
      | exact absurd (by omega) h
      | skip
    (first | refine res_tmp rfl (by simp [D.plain, plains]) (by simp) ?_ | refine res_at rfl (by simp [D.plain, plains]) (by simp) ?_ | refine res_two rfl (by simp [D.plain, plains]) (by simp) ?_ | refine res_three rfl (by simp [D.plain, plains]) (by simp) ?_)
    rfl
  · have h1 := specPm_fn s (by omega)
    have h2 := implPm_fn s (by omega)
    rw [pmR] at h1 h2
    have hz : (pmV s).1.length ≤ 6 := by
      unfold pmV
      split
      · simp
      · split
        · rename_i h
          exact okMarks_len h.1
        · simp
    generalize (pmV s).1 = zs at *
    generalize (pmV s).2 = ok at *
    have h6 := eqIntS_fn zs zs (by omega)
    rw [decide_eq_true rfl] at h6
    have h7 := heldIntS_fn 1 zs.length (by omega) (by omega) (by omega)
    rw [← nums_raw1 1 zs.length] at h7
    rw [← ints_raw zs] at h6
    have h9 := markIntS_s 21 zs 1 (by omega) (by omega) (by omega)
    refine fn_go Tryd.func3 rfl rfl Tryd.ntmps3 Tryd.results3 (by simp only [slotsOf, argAV, List.map_cons, List.map_nil, Nat.reduceAdd]; rfl) (by simp) ?_
    repeat' (first | (with_reducible first | refine aw_seq fun K hK => ?_ | refine aw_region (by kernel_rfl) ?_ | refine aw_condk ?_ | refine aw_block ?_) | ((with_reducible first | refine evg ?_ | refine ev_guard ?_); simp only [go_sem, ↓reduceIte, Nat.reduceEqDiff, Nat.reduceBEq, Nat.reduceAdd, Nat.reduceMul, Nat.reduceSub, Nat.reduceLT, Nat.reduceLeDiff]) | (simp (disch := omega) only [wr, drop_at, str_at, int_at, Int.reduceSub, Int.reduceAdd, Int.reduceToNat, Int.toNat_zero, bne_self_eq_false, wr]) | ((with_reducible refine ev_call ?_); (first | (refine call_fn h1 rfl ?_) | (refine call_fn h2 rfl ?_) | (refine call_fn h6 rfl ?_) | (refine call_s h9 ?_ ?_ ?_ ?_ ?_; (focus rfl); (focus first | exact trivial | exact And.intro rfl trivial | exact ⟨rfl, rfl, trivial⟩ | exact ⟨rfl, rfl, rfl, trivial⟩); (focus rfl); (focus (simp [-List.map_map, apartO, dropO, killN, obCells, refs_dmap, nofnsD, AV.refs, AV.refsL, AV.nofn, AV.nofns] <;> fail))) | (refine call_fn h7 rfl ?_)); refine k_run ?_) | ((with_reducible refine ev_guard ?_); (with_reducible first | refine guard_t ?_ ?_ rfl | refine guard_f ?_ ?_ rfl) <;> (intro h; (try simp only [h]); (try simp only [nrm] at h) <;> (try ((with_reducible exfalso); omega)))) | ((with_reducible refine ck_split (fun h => ?_) (fun h => ?_)) <;> (try simp only [nrm] at h) <;> (try ((with_reducible exfalso); omega))) | ((with_reducible refine And.intro ?_ ?_); (first | omega | focus (simp; done) | focus (simp; omega) | focus ((repeat' (with_reducible refine And.intro ?_ ?_)) <;> first | omega | rfl | (simp only [go_sem, refsL_app, refs_dmap] <;> fail) | (simp [refsL_app, refs_dmap, AV.refsL, AV.refs] <;> omega)))) | ((with_reducible first | apply hK | (clear hK K; first | apply hK | (clear hK K; first | apply hK | (clear hK K; apply hK)))); clear hK K) | fail)
    all_goals first
      | exact absurd trivial h
      | exact absurd (by omega) h
      | skip
    all_goals (first | refine res_tmp rfl (by simp [D.plain, plains]) (by simp) ?_ | refine res_at rfl (by simp [D.plain, plains]) (by simp) ?_ | refine res_two rfl (by simp [D.plain, plains]) (by simp) ?_ | refine res_three rfl (by simp [D.plain, plains]) (by simp) ?_ | skip)
    all_goals rfl

end Go.Proofs.YtdeobicgildamaaDoor
