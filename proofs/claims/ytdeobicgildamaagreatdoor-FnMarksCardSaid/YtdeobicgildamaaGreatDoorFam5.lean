/- The reference's children of a person: inserted one after another. -/
import Derived.Test.YtdeobicgildamaaGreatDoorFam4
import Derived.Test.YtdeobicgildamaaGreatDoorJoi
import Derived.WalkKit
import Derived.WalkSpells
import Derived.KernelRfl
namespace Go.Proofs.YtdeobicgildamaaGreatDoor
open Go.RowKit
set_option linter.unusedVariables false
set_option linter.unusedSimpArgs false

attribute [local go_sem] PerV.d PerV.cs perL famD intL

attribute [local simp] perC_all perC_plains ints_plain ints_all ints_all1 ints_plain_take

def idsD (B : List PerV) : List D := (B.map PerV.id).map D.int

def bornD (B : List PerV) : List D := (B.map PerV.born).map D.int

theorem idsD_len (B : List PerV) : (idsD B).length = B.length := by simp [idsD]

theorem bornD_len (B : List PerV) : (bornD B).length = B.length := by simp [bornD]

attribute [local simp] idsD_len bornD_len

theorem bornD_at {B : List PerV} {i : Nat} {d : D} (h : i < B.length) : (bornD B).getD i d = .int (B.getD i PerV.zero).born := by
  rw [bornD, int_at (by simpa using h), map_at B PerV.born i 0 PerV.zero h]

theorem ids_ins {B : List PerV} {x : PerV} {k : Nat} (h : posB B x = k) : (idsD B).take k ++ [D.int x.id] ++ (idsD B).drop k = idsD (insB B x) := by
  rw [insB, h]
  simp [idsD, List.map_take, List.map_drop]

theorem born_ins {B : List PerV} {x : PerV} {k : Nat} (h : posB B x = k) : (bornD B).take k ++ [D.int x.born] ++ (bornD B).drop k = bornD (insB B x) := by
  rw [insB, h]
  simp [bornD, List.map_take, List.map_drop]

theorem splice3 {L : List D} {k n : Nat} {y : D} (hn : L.length = n) (hk : k ≤ n) : List.take (k + 1) (List.take k (List.take k L) ++ [y]) ++ List.take (n - k) (List.drop k L) = L.take k ++ [y] ++ L.drop k := by
  rw [List.take_take, Nat.min_self, List.take_of_length_le (show (List.take k L ++ [y]).length ≤ k + 1 by simp; omega), List.take_of_length_le (show (List.drop k L).length ≤ n - k by simp; omega)]

theorem ids_ins2 {B : List PerV} {x : PerV} {k : Nat} (hk : k ≤ B.length) (h : posB B x = k) : List.take (k + 1) (List.take k (List.take k (idsD B)) ++ [D.int x.id]) ++ List.take (B.length - k) (List.drop k (idsD B)) = idsD (insB B x) := by
  rw [splice3 (idsD_len B) hk, ids_ins h]

theorem born_ins2 {B : List PerV} {x : PerV} {k : Nat} (hk : k ≤ B.length) (h : posB B x = k) : List.take (k + 1) (List.take k (List.take k (bornD B)) ++ [D.int x.born]) ++ List.take (B.length - k) (List.drop k (bornD B)) = bornD (insB B x) := by
  rw [splice3 (bornD_len B) hk, born_ins h]

def kidN (l : List PerV) (id : Int) (i : Nat) : List PerV := sortB (kidF (l.take i) id)

theorem kidN_yes {l : List PerV} {id : Int} {i : Nat} (hi : i < l.length) (h : chil (l.getD i PerV.zero) id = true) : kidN l id (i + 1) = insB (kidN l id i) (l.getD i PerV.zero) := by
  rw [kidN, kidF_next hi, if_pos h, sortB_next]
  rfl

theorem kidN_no {l : List PerV} {id : Int} {i : Nat} (hi : i < l.length) (h : chil (l.getD i PerV.zero) id = false) : kidN l id (i + 1) = kidN l id i := by
  rw [kidN, kidF_next hi, if_neg (by rw [h]; simp), List.append_nil]
  rfl

theorem kidN_all {l : List PerV} {id : Int} {i : Nat} (h : l.length ≤ i) : kidN l id i = kids l id := by rw [kidN, List.take_of_length_le h]; rfl

theorem kidN_len (l : List PerV) (id : Int) (i : Nat) : (kidN l id i).length ≤ i := by
  have := kidF_le (l.take i) id
  rw [kidN, sortB_len]
  simp at this
  omega

set_option maxRecDepth 100000 in
set_option maxHeartbeats 4000000 in
theorem l18Children_fn (l : List PerV) (id : Int) (hl : l.length ≤ 1048576) : FnD Tryz.prog 90 [famD l, .int id] (intL (kidI l id)) := by
  refine fn_go Tryz.func90 rfl rfl Tryz.ntmps90 Tryz.results90 (by simp only [slotsOf, argAV, List.map_cons, List.map_nil, Nat.reduceAdd]; rfl) (by simp) ?_
  repeat' (first | (with_reducible first | refine aw_seq fun K hK => ?_ | refine aw_region (by kernel_rfl) ?_ | refine aw_condk ?_ | refine aw_block ?_) | ((with_reducible refine ev_aw ?_); first | (refine aw_draw (id := 8) (by kernel_rfl) _ _ (by kernel_rfl) (pl_Fam5P_90_8 _ (by kernel_rfl)) ?_) | (refine aw_drawJ (by kernel_rfl) (id := 10) _ _ (by kernel_rfl) (pl_Fam5P_90_10U _ (by kernel_rfl)) (fun KJ hJ => ?_)) | (refine aw_drawJ (by kernel_rfl) (id := 11) _ _ (by kernel_rfl) (pl_Fam5P_90_11U _ (by kernel_rfl)) (fun KJ hJ => ?_))) | (with_reducible first | refine ru_four ?_ ?_ ?_ ?_ | refine ru_three ?_ ?_ ?_ | refine ru_two ?_ ?_ | refine rv_split ?_ ?_ | refine rv_two ?_ ?_ | refine rp_two ?_ ?_) | ((with_reducible refine evg ?_); simp only [go_sem, St.clean, cleanO, ↓reduceIte, Nat.reduceEqDiff, Nat.reduceBEq, Nat.reduceAdd, Nat.reduceMul, Nat.reduceSub, Nat.reduceLT, Nat.reduceLeDiff]) | ((with_reducible refine ev_guard ?_); (with_reducible first | refine guard_t ?_ ?_ rfl | refine guard_f ?_ ?_ rfl) <;> (intro h; (try simp only [h]); (try simp only [nrm] at h))) | ((with_reducible refine ck_split (fun h => ?_) (fun h => ?_)) <;> (try simp only [nrm] at h)) | ((with_reducible refine And.intro ?_ ?_); (first | omega | focus (simp; done) | focus (simp; omega) | focus ((repeat' (with_reducible refine And.intro ?_ ?_)) <;> first | omega | rfl | (simp only [go_sem, refsL_app, refs_dmap] <;> fail) | (simp [refsL_app, refs_dmap, AV.refsL, AV.refs] <;> omega)))) | (with_reducible refine hJ _ (fun K hK => ?_) ?_ <;> clear hJ KJ) | ((with_reducible refine ev_less ?_); (refine ⟨rfl, ?_, ?_⟩ <;> simp only [go_sem, St.clean, cleanO, SubS, SubO, beq_self_eq_true, ↓reduceIte, Nat.reduceEqDiff, Nat.reduceBEq, Nat.reduceAdd, Nat.reduceMul, Nat.reduceSub, Nat.reduceLT, Nat.reduceLeDiff])) | ((with_reducible first | apply hK | (clear hK K; first | apply hK | (clear hK K; first | apply hK | (clear hK K; apply hK)))); clear hK K) | (simp (disch := omega) only [wr, drop_at, str_at, int_at, Int.reduceSub, Int.reduceAdd, Int.reduceToNat, Int.toNat_zero]) | fail)
  refine aw_loopU [5, 6, 7, 8, 9, 10, 11, 12, 13, 14, 15, 16, 17, 18, 19, 20, 21, 22, 23, 24, 25, 26, 27, 28, 29, 30, 31, 32, 33, 34, 35, 36, 37, 38, 39, 40, 41, 42, 43, 44, 45, 46, 47, 48, 49, 50, 51, 52, 53, 54, 55, 56, 57, 58, 59, 60, 61, 62, 63, 64, 65, 66, 67, 68, 69, 70, 71, 72, 73, 74, 75] [8, 10, 11, 15, 35, 50, 54, 57, 58, 60, 62, 63, 67, 70, 71, 73, 75] (fun i : Nat => [(7, .d (.int i)), (5, .bs 60 0 (kidN l id i).length 1), (6, .bs 73 0 (kidN l id i).length 1)]) (fun i => [(60, .ds (idsD (kidN l id i))), (73, .ds (bornD (kidN l id i)))]) (fun i => i ≤ l.length) (fun i => l.length - i) 0 (by omega) ?_ ?_
  · (refine lessW_of [(10, 60), (11, 73)] rfl ?_ <;> simp only [St.sws, St.sw, swS, swO, AV.sw, AV.swL, OB.sw, swp, St.upd, dropS, dropOs, Less, SubS, SubO, look, lookO, List.elem, List.cons_append, List.nil_append, cond_true, cond_false, and_true, true_and, beq_self_eq_true, ↓reduceIte, Nat.reduceEqDiff, Nat.reduceBEq, Nat.reduceAdd, Nat.reduceMul, Nat.reduceSub, Nat.reduceLT, Nat.reduceLeDiff] <;> try simp)
    exact ⟨rfl, rfl, rfl⟩
  · rintro i g1
    simp only [St.upd, dropS, dropOs, List.elem, List.cons_append, List.nil_append, cond_true, cond_false, beq_self_eq_true, ↓reduceIte, Nat.reduceEqDiff, Nat.reduceBEq, Nat.reduceAdd, Nat.reduceMul, Nat.reduceSub, Nat.reduceLT, Nat.reduceLeDiff]
    have hN := kidN_len l id i
    obtain ⟨B, eB⟩ : ∃ B, kidN l id i = B := ⟨_, rfl⟩
    rw [eB] at hN ⊢
    have hs1 := idsD_len B
    have hs2 := bornD_len B
    repeat' (first | (with_reducible first | refine aw_seq fun K hK => ?_ | refine aw_region (by kernel_rfl) ?_ | refine aw_condk ?_ | refine aw_block ?_) | ((with_reducible refine ev_aw ?_); first | (refine aw_draw (id := 8) (by kernel_rfl) _ _ (by kernel_rfl) (pl_Fam5P_90_8 _ (by kernel_rfl)) ?_) | (refine aw_drawJ (by kernel_rfl) (id := 10) _ _ (by kernel_rfl) (pl_Fam5P_90_10U _ (by kernel_rfl)) (fun KJ hJ => ?_)) | (refine aw_drawJ (by kernel_rfl) (id := 11) _ _ (by kernel_rfl) (pl_Fam5P_90_11U _ (by kernel_rfl)) (fun KJ hJ => ?_))) | (with_reducible first | refine ru_four ?_ ?_ ?_ ?_ | refine ru_three ?_ ?_ ?_ | refine ru_two ?_ ?_ | refine rv_split ?_ ?_ | refine rv_two ?_ ?_ | refine rp_two ?_ ?_) | ((with_reducible refine evg ?_); simp only [go_sem, St.clean, cleanO, ↓reduceIte, Nat.reduceEqDiff, Nat.reduceBEq, Nat.reduceAdd, Nat.reduceMul, Nat.reduceSub, Nat.reduceLT, Nat.reduceLeDiff]) | (simp (disch := omega) only [wr, drop_at, str_at, int_at, Int.reduceSub, Int.reduceAdd, Int.reduceToNat, Int.toNat_zero, per_at, wr]) | ((with_reducible refine ev_guard ?_); (with_reducible first | refine guard_t ?_ ?_ rfl | refine guard_f ?_ ?_ rfl) <;> (intro h; (try simp only [h]); (try simp only [nrm] at h) <;> (try ((with_reducible exfalso); omega)))) | ((with_reducible refine ck_split (fun h => ?_) (fun h => ?_)) <;> (try simp only [nrm] at h) <;> (try ((with_reducible exfalso); omega))) | ((with_reducible refine And.intro ?_ ?_); (first | omega | focus (simp; done) | focus (simp; omega) | focus ((repeat' (with_reducible refine And.intro ?_ ?_)) <;> first | omega | rfl | (simp only [go_sem, refsL_app, refs_dmap] <;> fail) | (simp [refsL_app, refs_dmap, AV.refsL, AV.refs] <;> omega)))) | (with_reducible refine hJ _ (fun K hK => ?_) ?_ <;> clear hJ KJ) | ((with_reducible refine ev_less ?_); (refine ⟨rfl, ?_, ?_⟩ <;> simp only [go_sem, St.clean, cleanO, SubS, SubO, beq_self_eq_true, ↓reduceIte, Nat.reduceEqDiff, Nat.reduceBEq, Nat.reduceAdd, Nat.reduceMul, Nat.reduceSub, Nat.reduceLT, Nat.reduceLeDiff])) | ((with_reducible first | apply hK | (clear hK K; first | apply hK | (clear hK K; first | apply hK | (clear hK K; apply hK)))); clear hK K) | fail)
    rotate_left 3
    · have e2 : B = kids l id := by
        rw [← eB]
        exact kidN_all (by omega)
      rw [e2, show idsD (kids l id) = (kidI l id).map D.int from rfl, ← kidI_len]
      (first | refine res_tmp rfl (by simp [D.plain, plains]) (by simp) ?_ | refine res_at rfl (by simp [D.plain, plains]) (by simp) ?_ | refine res_two rfl (by simp [D.plain, plains]) (by simp) ?_ | refine res_three rfl (by simp [D.plain, plains]) (by simp) ?_)
      simp
    · have hc : chil (l.getD i PerV.zero) id = false := by simp only [chil, *, decide_false, Bool.or_self]
      have e := kidN_no (show i < l.length by omega) hc
      refine ⟨i + 1, by omega, by omega, ?_⟩
      rw [e, eB]
      (refine lessW_of [] rfl ?_ <;> simp only [St.sws, St.sw, swS, swO, AV.sw, AV.swL, OB.sw, swp, St.upd, dropS, dropOs, Less, SubS, SubO, look, lookO, List.elem, List.cons_append, List.nil_append, cond_true, cond_false, and_true, true_and, beq_self_eq_true, ↓reduceIte, Nat.reduceEqDiff, Nat.reduceBEq, Nat.reduceAdd, Nat.reduceMul, Nat.reduceSub, Nat.reduceLT, Nat.reduceLeDiff] <;> try simp)
    all_goals
      have hc : chil (l.getD i PerV.zero) id = true := by simp only [chil, *, decide_true, decide_false, Bool.true_or, Bool.or_true]
      have e := kidN_yes (show i < l.length by omega) hc
      rw [eB] at e
      refine aw_loopU [9, 36, 37, 38, 39, 40, 41, 42, 43, 44, 45, 46, 47, 48, 49] [] (fun k : Nat => [(9, .d (.int k))]) (fun _ => []) (fun k => k ≤ B.length ∧ ∀ j, k ≤ j → j < B.length → (l.getD i PerV.zero).born < (B.getD j PerV.zero).born) (fun k => k) B.length ⟨by omega, fun j h1 h2 => by omega⟩ ?_ ?_
      · (refine lessW_of [] rfl ?_ <;> simp only [St.sws, St.sw, swS, swO, AV.sw, AV.swL, OB.sw, swp, St.upd, dropS, dropOs, Less, SubS, SubO, look, lookO, List.elem, List.cons_append, List.nil_append, cond_true, cond_false, and_true, true_and, beq_self_eq_true, ↓reduceIte, Nat.reduceEqDiff, Nat.reduceBEq, Nat.reduceAdd, Nat.reduceMul, Nat.reduceSub, Nat.reduceLT, Nat.reduceLeDiff] <;> try simp)
      · rintro k ⟨k1, k2⟩
        simp only [St.upd, dropS, dropOs, List.elem, List.cons_append, List.nil_append, cond_true, cond_false, beq_self_eq_true, ↓reduceIte, Nat.reduceEqDiff, Nat.reduceBEq, Nat.reduceAdd, Nat.reduceMul, Nat.reduceSub, Nat.reduceLT, Nat.reduceLeDiff]
        have m1 : 1 ≤ k → (bornD B).getD (k - 1) (.v undef) = .int (B.getD (k - 1) PerV.zero).born := fun h => bornD_at (by omega)
        repeat' (first | (with_reducible first | refine aw_seq fun K hK => ?_ | refine aw_region (by kernel_rfl) ?_ | refine aw_condk ?_ | refine aw_block ?_) | ((with_reducible refine ev_aw ?_); first | (refine aw_draw (id := 8) (by kernel_rfl) _ _ (by kernel_rfl) (pl_Fam5P_90_8 _ (by kernel_rfl)) ?_) | (refine aw_drawJ (by kernel_rfl) (id := 10) _ _ (by kernel_rfl) (pl_Fam5P_90_10U _ (by kernel_rfl)) (fun KJ hJ => ?_)) | (refine aw_drawJ (by kernel_rfl) (id := 11) _ _ (by kernel_rfl) (pl_Fam5P_90_11U _ (by kernel_rfl)) (fun KJ hJ => ?_))) | (with_reducible first | refine ru_four ?_ ?_ ?_ ?_ | refine ru_three ?_ ?_ ?_ | refine ru_two ?_ ?_ | refine rv_split ?_ ?_ | refine rv_two ?_ ?_ | refine rp_two ?_ ?_) | ((with_reducible refine evg ?_); simp only [go_sem, St.clean, cleanO, ↓reduceIte, Nat.reduceEqDiff, Nat.reduceBEq, Nat.reduceAdd, Nat.reduceMul, Nat.reduceSub, Nat.reduceLT, Nat.reduceLeDiff]) | (simp (disch := omega) only [wr, drop_at, str_at, int_at, Int.reduceSub, Int.reduceAdd, Int.reduceToNat, Int.toNat_zero, nat_pred, m1, wr]) | ((with_reducible refine ev_guard ?_); (with_reducible first | refine guard_t ?_ ?_ rfl | refine guard_f ?_ ?_ rfl) <;> (intro h; (try simp only [h]); (try simp only [nrm] at h) <;> (try ((with_reducible exfalso); omega)))) | ((with_reducible refine ck_split (fun h => ?_) (fun h => ?_)) <;> (try simp only [nrm] at h) <;> (try ((with_reducible exfalso); omega))) | ((with_reducible refine And.intro ?_ ?_); (first | omega | focus (simp; done) | focus (simp; omega) | focus ((repeat' (with_reducible refine And.intro ?_ ?_)) <;> first | omega | rfl | (simp only [go_sem, refsL_app, refs_dmap] <;> fail) | (simp [refsL_app, refs_dmap, AV.refsL, AV.refs] <;> omega)))) | (with_reducible refine hJ _ (fun K hK => ?_) ?_ <;> clear hJ KJ) | ((with_reducible refine ev_less ?_); (refine ⟨rfl, ?_, ?_⟩ <;> simp only [go_sem, St.clean, cleanO, SubS, SubO, beq_self_eq_true, ↓reduceIte, Nat.reduceEqDiff, Nat.reduceBEq, Nat.reduceAdd, Nat.reduceMul, Nat.reduceSub, Nat.reduceLT, Nat.reduceLeDiff])) | ((with_reducible first | apply hK | (clear hK K; first | apply hK | (clear hK K; first | apply hK | (clear hK K; apply hK)))); clear hK K) | fail)
        · refine ⟨k - 1, ⟨by omega, fun j h1 h2 => ?_⟩, by omega, by
            (refine lessW_of [] rfl ?_ <;> simp only [St.sws, St.sw, swS, swO, AV.sw, AV.swL, OB.sw, swp, St.upd, dropS, dropOs, Less, SubS, SubO, look, lookO, List.elem, List.cons_append, List.nil_append, cond_true, cond_false, and_true, true_and, beq_self_eq_true, ↓reduceIte, Nat.reduceEqDiff, Nat.reduceBEq, Nat.reduceAdd, Nat.reduceMul, Nat.reduceSub, Nat.reduceLT, Nat.reduceLeDiff] <;> try simp)
            omega⟩
          by_cases hj : j = k - 1
          · subst hj
            exact h
          · exact k2 j (by omega) h2
        all_goals
          have hp : posB B (l.getD i PerV.zero) = k := posB_eq k1 k2 (by first | exact .inl (by omega) | exact .inr (by omega))
          have hL : k + 1 + (B.length - k) = (insB B (l.getD i PerV.zero)).length := by rw [insB_len]; omega
          rw [hL, ids_ins2 k1 hp, born_ins2 k1 hp]
          refine ⟨i + 1, by omega, by omega, ?_⟩
          rw [e]
          (refine lessW_of [(62, 60), (75, 73)] rfl ?_ <;> simp only [St.sws, St.sw, swS, swO, AV.sw, AV.swL, OB.sw, swp, St.upd, dropS, dropOs, Less, SubS, SubO, look, lookO, List.elem, List.cons_append, List.nil_append, cond_true, cond_false, and_true, true_and, beq_self_eq_true, ↓reduceIte, Nat.reduceEqDiff, Nat.reduceBEq, Nat.reduceAdd, Nat.reduceMul, Nat.reduceSub, Nat.reduceLT, Nat.reduceLeDiff] <;> try simp)

end Go.Proofs.YtdeobicgildamaaGreatDoor
