/- ParseGroup: both walks and the law. -/
import Derived.Test.YteimddagjikcaaaDoorGpY
import Derived.Test.YteimddagjikcaaaDoorSpt
import Derived.Test.YteimddagjikcaaaDoorIdx
import Derived.WalkKit
import Derived.WalkSpells
import Derived.KernelRfl
namespace Go.Proofs.YteimddagjikcaaaDoor
open Go.RowKit
set_option linter.unusedVariables false
set_option linter.unusedSimpArgs false

attribute [local go_sem] strs

set_option maxRecDepth 100000 in
set_option maxHeartbeats 4000000 in
theorem attNo_fn : FnD Tryd.prog 12 [.int 0] (strs []) := by
  refine fn_go Tryd.func12 rfl rfl Tryd.ntmps12 Tryd.results12 (by simp only [slotsOf, argAV, List.map_cons, List.map_nil, Nat.reduceAdd]; rfl) (by simp) ?_
  repeat' (first | (with_reducible first | refine aw_seq fun K hK => ?_ | refine aw_region (by kernel_rfl) ?_ | refine aw_condk ?_ | refine aw_block ?_) | ((with_reducible refine evg ?_); simp only [go_sem, ↓reduceIte, Nat.reduceEqDiff, Nat.reduceBEq, Nat.reduceAdd, Nat.reduceMul, Nat.reduceSub, Nat.reduceLT, Nat.reduceLeDiff]) | ((with_reducible refine ev_guard ?_); (with_reducible first | refine guard_t ?_ ?_ rfl | refine guard_f ?_ ?_ rfl) <;> (intro h; (try simp only [h]); (try simp only [nrm] at h))) | ((with_reducible refine ck_split (fun h => ?_) (fun h => ?_)) <;> (try simp only [nrm] at h)) | ((with_reducible refine And.intro ?_ ?_); (first | omega | focus (simp; done) | focus (simp; omega) | focus ((repeat' (with_reducible refine And.intro ?_ ?_)) <;> first | omega | rfl | (simp only [go_sem, refsL_app, refs_dmap] <;> fail) | (simp [refsL_app, refs_dmap, AV.refsL, AV.refs] <;> omega)))) | ((with_reducible first | apply hK | (clear hK K; first | apply hK | (clear hK K; first | apply hK | (clear hK K; apply hK)))); clear hK K) | (simp (disch := omega) only [wr, drop_at, str_at, int_at, Int.reduceSub, Int.reduceAdd, Int.reduceToNat, Int.toNat_zero]) | fail)
  all_goals first
    | exact absurd h (by decide)
    | skip
  all_goals (first | refine res_tmp rfl (by simp [D.plain, plains]) (by simp) ?_ | refine res_at rfl (by simp [D.plain, plains]) (by simp) ?_ | refine res_two rfl (by simp [D.plain, plains]) (by simp) ?_ | refine res_three rfl (by simp [D.plain, plains]) (by simp) ?_ | skip)
  all_goals rfl

theorem attAny_fn (k : Int) (h1 : 0 ≤ k) (h2 : k ≤ 8) : FnD Tryd.prog 12 [.int k] (strs (attNames k)) := by
  by_cases h0 : k = 0
  · subst h0
    exact attNo_fn
  · exact attitudes_fn k (by omega) h2

theorem gk_hit {w0 w1 : ByteArray} {n : Nat} {c k : Int} (hc : ckC n = c) (hk : ckK n = k) (h0 : w0 = numText c k) (h1 : w1 = kindText k c) : gkF w0 w1 (n + 1) = (c, k) := by
  rw [gkF, hc, hk, if_pos ⟨h0, h1⟩]

theorem gk_miss {w0 w1 : ByteArray} {n : Nat} {c k : Int} (hc : ckC n = c) (hk : ckK n = k) (h : ¬ (w0 = numText c k ∧ w1 = kindText k c)) : gkF w0 w1 (n + 1) = gkF w0 w1 n := by
  rw [gkF, hc, hk, if_neg h]

def gp4 (g : Int × Int × Int × Int) : D := .ag [.int g.1, .int g.2.1, .int g.2.2.1, .int g.2.2.2]

set_option maxRecDepth 100000 in
theorem pl_Gp_5_11 (l : List Oper) (h : l = opsOf Tryd.f5 11) : planB l (.pure 0 (.pure 1 (.pure 2 (.pure 3 (.pure 4 (.one 5 (.pure 6 (.pure 7 (.pure 8 (.pure 9 (.pure 10 (.pure 11 (.pure 12 (.one 13 (.pure 14 (.pure 15 PT.fin)))))))))))))))) [] = true := by
  subst h
  kernel_rfl

set_option maxRecDepth 100000 in
theorem pl_Gp_5_14 (l : List Oper) (h : l = opsOf Tryd.f5 14) : planB l (.pure 0 (.pure 1 (.pure 3 (.pure 4 (.pure 5 (.one 2 (.one 6 (.pure 7 (.pure 8 PT.fin))))))))) [9] = true := by
  subst h
  kernel_rfl

set_option maxRecDepth 100000 in
set_option maxHeartbeats 4000000 in
theorem implGp_fn (s : ByteArray) (hs : s.size ≤ 1048576) : FnD Tryd.prog 5 [.str s] (gpR s) := by
  have e1 := split_fn s spB (by omega) (by decide)
  have hno : ¬ (3 ≤ (splT s spB).length ∧ (splT s spB).length ≤ 4 ∧ okG (gpC (splT s spB)) = true ∧ textG (gpC (splT s spB)) = s) → gpR s = .tu [.ag [.int 0, .int 0, .int 0, .int 0], .bool false] := fun h => by
    rw [gpR, gpV, if_neg h]
  have hyes : 3 ≤ (splT s spB).length ∧ (splT s spB).length ≤ 4 ∧ okG (gpC (splT s spB)) = true ∧ textG (gpC (splT s spB)) = s → gpR s = .tu [gp4 (gpC (splT s spB)), .bool true] := fun h => by
    rw [gpR, gpV, if_pos h]
    rfl
  generalize splT s spB = ws at *
  by_cases hl : ws.length < 3 ∨ 4 < ws.length
  · have hR := hno (by omega)
    rw [hR]
    clear hno hyes hR
    rcases hl with hl | hl
    all_goals
      refine fn_go Tryd.func5 rfl rfl Tryd.ntmps5 Tryd.results5 (by simp only [slotsOf, argAV, List.map_cons, List.map_nil, Nat.reduceAdd]; rfl) (by simp) ?_
      repeat' (first | (with_reducible first | refine aw_seq fun K hK => ?_ | refine aw_region (by kernel_rfl) ?_ | refine aw_condk ?_ | refine aw_block ?_) | ((with_reducible refine ev_aw ?_); first | (refine aw_draw (id := 11) (by kernel_rfl) _ _ (by kernel_rfl) (pl_Gp_5_11 _ (by kernel_rfl)) ?_) | (refine aw_draw (id := 14) (by kernel_rfl) _ _ (by kernel_rfl) (pl_Gp_5_14 _ (by kernel_rfl)) ?_)) | (with_reducible first | refine ru_four ?_ ?_ ?_ ?_ | refine ru_three ?_ ?_ ?_ | refine ru_two ?_ ?_ | refine rv_split ?_ ?_ | refine rv_two ?_ ?_ | refine rp_two ?_ ?_) | ((with_reducible refine evg ?_); simp only [go_sem, St.clean, cleanO, ↓reduceIte, Nat.reduceEqDiff, Nat.reduceBEq, Nat.reduceAdd, Nat.reduceMul, Nat.reduceSub, Nat.reduceLT, Nat.reduceLeDiff]) | (simp (disch := omega) only [wr, drop_at, str_at, int_at, Int.reduceSub, Int.reduceAdd, Int.reduceToNat, Int.toNat_zero, wr]) | ((with_reducible refine ev_call ?_); (first | (refine call_fn e1 rfl ?_)); refine k_run ?_) | ((with_reducible refine ev_guard ?_); (with_reducible first | refine guard_t ?_ ?_ rfl | refine guard_f ?_ ?_ rfl) <;> (intro h; (try simp only [h]); (try simp only [nrm] at h) <;> (try ((with_reducible exfalso); omega)))) | ((with_reducible refine ck_split (fun h => ?_) (fun h => ?_)) <;> (try simp only [nrm] at h) <;> (try ((with_reducible exfalso); omega))) | ((with_reducible refine And.intro ?_ ?_); (first | omega | focus (simp; done) | focus (simp; omega) | focus ((repeat' (with_reducible refine And.intro ?_ ?_)) <;> first | omega | rfl | (simp only [go_sem, refsL_app, refs_dmap] <;> fail) | (simp [refsL_app, refs_dmap, AV.refsL, AV.refs] <;> omega)))) | (with_reducible refine hJ _ (fun K hK => ?_) ?_ <;> clear hJ KJ) | ((with_reducible refine ev_less ?_); (refine ⟨rfl, ?_, ?_⟩ <;> simp only [go_sem, St.clean, cleanO, SubS, SubO, beq_self_eq_true, ↓reduceIte, Nat.reduceEqDiff, Nat.reduceBEq, Nat.reduceAdd, Nat.reduceMul, Nat.reduceSub, Nat.reduceLT, Nat.reduceLeDiff])) | ((with_reducible first | apply hK | (clear hK K; first | apply hK | (clear hK K; first | apply hK | (clear hK K; apply hK)))); clear hK K) | fail)
      all_goals first
        | exact absurd (by omega) h
        | skip
      all_goals (first | refine res_tmp rfl (by simp [D.plain, plains]) (by simp) ?_ | refine res_at rfl (by simp [D.plain, plains]) (by simp) ?_ | refine res_two rfl (by simp [D.plain, plains]) (by simp) ?_ | refine res_three rfl (by simp [D.plain, plains]) (by simp) ?_ | skip)
      all_goals rfl
  · have hl3 : 3 ≤ ws.length ∧ ws.length ≤ 4 := by omega
    have hw0 := fun d => str_at (l := ws) (i := 0) (d := d) (by omega)
    have hw1 := fun d => str_at (l := ws) (i := 1) (d := d) (by omega)
    have hwl := fun d => str_at (l := ws) (i := ws.length - 1) (d := d) (by omega)
    have hG : gpC ws = ((gkF (ws.getD 0 ⟨#[]⟩) (ws.getD 1 ⟨#[]⟩) 48).1, (gkF (ws.getD 0 ⟨#[]⟩) (ws.getD 1 ⟨#[]⟩) 48).2, (if ws.length = 4 then idxB (ws.getD 2 ⟨#[]⟩) (attNames (gkF (ws.getD 0 ⟨#[]⟩) (ws.getD 1 ⟨#[]⟩) 48).2) + 1 else 0), idxB (ws.getD (ws.length - 1) ⟨#[]⟩) tincWords + 1) := rfl
    have e2 := parseTinc_fn (ws.getD (ws.length - 1) ⟨#[]⟩)
    have b2 := idxB_in (ws.getD (ws.length - 1) ⟨#[]⟩) tincWords
    have h9 : tincWords.length = 9 := rfl
    generalize idxB (ws.getD (ws.length - 1) ⟨#[]⟩) tincWords = vt at *
    have hil : ((ws.length : Int) - 1).toNat = ws.length - 1 := by omega
    generalize ws.getD (ws.length - 1) ⟨#[]⟩ = wl at *
    generalize hW0 : ws.getD 0 ⟨#[]⟩ = w0 at *
    generalize hW1 : ws.getD 1 ⟨#[]⟩ = w1 at *
    refine fn_go Tryd.func5 rfl rfl Tryd.ntmps5 Tryd.results5 (by simp only [slotsOf, argAV, List.map_cons, List.map_nil, Nat.reduceAdd]; rfl) (by simp) ?_
    repeat' (first | (with_reducible first | refine aw_seq fun K hK => ?_ | refine aw_region (by kernel_rfl) ?_ | refine aw_condk ?_ | refine aw_block ?_) | ((with_reducible refine ev_aw ?_); first | (refine aw_draw (id := 11) (by kernel_rfl) _ _ (by kernel_rfl) (pl_Gp_5_11 _ (by kernel_rfl)) ?_) | (refine aw_draw (id := 14) (by kernel_rfl) _ _ (by kernel_rfl) (pl_Gp_5_14 _ (by kernel_rfl)) ?_)) | (with_reducible first | refine ru_four ?_ ?_ ?_ ?_ | refine ru_three ?_ ?_ ?_ | refine ru_two ?_ ?_ | refine rv_split ?_ ?_ | refine rv_two ?_ ?_ | refine rp_two ?_ ?_) | ((with_reducible refine evg ?_); simp only [go_sem, St.clean, cleanO, ↓reduceIte, Nat.reduceEqDiff, Nat.reduceBEq, Nat.reduceAdd, Nat.reduceMul, Nat.reduceSub, Nat.reduceLT, Nat.reduceLeDiff]) | (simp (disch := omega) only [wr, drop_at, str_at, int_at, Int.reduceSub, Int.reduceAdd, Int.reduceToNat, Int.toNat_zero, wr]) | ((with_reducible refine ev_call ?_); (first | (refine call_fn e1 rfl ?_)); refine k_run ?_) | ((with_reducible refine ev_guard ?_); (with_reducible first | refine guard_t ?_ ?_ rfl | refine guard_f ?_ ?_ rfl) <;> (intro h; (try simp only [h]); (try simp only [nrm] at h) <;> (try ((with_reducible exfalso); omega)))) | ((with_reducible refine ck_split (fun h => ?_) (fun h => ?_)) <;> (try simp only [nrm] at h) <;> (try ((with_reducible exfalso); omega))) | ((with_reducible refine And.intro ?_ ?_); (first | omega | focus (simp; done) | focus (simp; omega) | focus ((repeat' (with_reducible refine And.intro ?_ ?_)) <;> first | omega | rfl | (simp only [go_sem, refsL_app, refs_dmap] <;> fail) | (simp [refsL_app, refs_dmap, AV.refsL, AV.refs] <;> omega)))) | (with_reducible refine hJ _ (fun K hK => ?_) ?_ <;> clear hJ KJ) | ((with_reducible refine ev_less ?_); (refine ⟨rfl, ?_, ?_⟩ <;> simp only [go_sem, St.clean, cleanO, SubS, SubO, beq_self_eq_true, ↓reduceIte, Nat.reduceEqDiff, Nat.reduceBEq, Nat.reduceAdd, Nat.reduceMul, Nat.reduceSub, Nat.reduceLT, Nat.reduceLeDiff])) | ((with_reducible first | apply hK | (clear hK K; first | apply hK | (clear hK K; first | apply hK | (clear hK K; apply hK)))); clear hK K) | fail)
    all_goals first
      | exact absurd (by omega) h
      | skip
    refine aw_loopU [6, 7, 22, 23, 24, 25, 26, 27, 28, 29, 30, 31, 32, 33, 34, 35, 36, 37, 38, 39, 40, 41, 42, 43, 44, 45, 46, 47, 48, 49] [5, 35, 43] (fun c : Nat => [(6, .d (.int ((c : Int) + 1)))]) (fun c => [(5, .av [.d (.int (gkF w0 w1 (8 * c)).1), .d (.int (gkF w0 w1 (8 * c)).2), .d (.int 0), .d (.int 0)])]) (fun c => c ≤ 6) (fun c => 6 - c) 0 (by omega) ?_ ?_
    · (refine lessW_of [] rfl ?_ <;> simp only [St.sws, St.sw, swS, swO, AV.sw, AV.swL, OB.sw, swp, St.upd, dropS, dropOs, Less, SubS, SubO, look, lookO, List.elem, List.cons_append, List.nil_append, cond_true, cond_false, and_true, true_and, beq_self_eq_true, ↓reduceIte, Nat.reduceEqDiff, Nat.reduceBEq, Nat.reduceAdd, Nat.reduceMul, Nat.reduceSub, Nat.reduceLT, Nat.reduceLeDiff] <;> try simp)
      all_goals (first | rfl | (refine ⟨?_, ?_⟩ <;> rfl))
    · rintro c c1
      simp only [St.upd, dropS, dropOs, List.elem, List.cons_append, List.nil_append, cond_true, cond_false, beq_self_eq_true, ↓reduceIte, Nat.reduceEqDiff, Nat.reduceBEq, Nat.reduceAdd, Nat.reduceMul, Nat.reduceSub, Nat.reduceLT, Nat.reduceLeDiff]
      by_cases hc : c < 6
      · repeat' (first | (with_reducible first | refine aw_seq fun K hK => ?_ | refine aw_region (by kernel_rfl) ?_ | refine aw_condk ?_ | refine aw_block ?_) | ((with_reducible refine ev_aw ?_); first | (refine aw_draw (id := 11) (by kernel_rfl) _ _ (by kernel_rfl) (pl_Gp_5_11 _ (by kernel_rfl)) ?_) | (refine aw_draw (id := 14) (by kernel_rfl) _ _ (by kernel_rfl) (pl_Gp_5_14 _ (by kernel_rfl)) ?_)) | (with_reducible first | refine ru_four ?_ ?_ ?_ ?_ | refine ru_three ?_ ?_ ?_ | refine ru_two ?_ ?_ | refine rv_split ?_ ?_ | refine rv_two ?_ ?_ | refine rp_two ?_ ?_) | ((with_reducible refine evg ?_); simp only [go_sem, St.clean, cleanO, ↓reduceIte, Nat.reduceEqDiff, Nat.reduceBEq, Nat.reduceAdd, Nat.reduceMul, Nat.reduceSub, Nat.reduceLT, Nat.reduceLeDiff]) | (simp (disch := omega) only [wr, drop_at, str_at, int_at, Int.reduceSub, Int.reduceAdd, Int.reduceToNat, Int.toNat_zero, wr]) | ((with_reducible refine ev_guard ?_); (with_reducible first | refine guard_t ?_ ?_ rfl | refine guard_f ?_ ?_ rfl) <;> (intro h; (try simp only [h]); (try simp only [nrm] at h) <;> (try ((with_reducible exfalso); omega)))) | ((with_reducible refine ck_split (fun h => ?_) (fun h => ?_)) <;> (try simp only [nrm] at h) <;> (try ((with_reducible exfalso); omega))) | ((with_reducible refine And.intro ?_ ?_); (first | omega | focus (simp; done) | focus (simp; omega) | focus ((repeat' (with_reducible refine And.intro ?_ ?_)) <;> first | omega | rfl | (simp only [go_sem, refsL_app, refs_dmap] <;> fail) | (simp [refsL_app, refs_dmap, AV.refsL, AV.refs] <;> omega)))) | (with_reducible refine hJ _ (fun K hK => ?_) ?_ <;> clear hJ KJ) | ((with_reducible refine ev_less ?_); (refine ⟨rfl, ?_, ?_⟩ <;> simp only [go_sem, St.clean, cleanO, SubS, SubO, beq_self_eq_true, ↓reduceIte, Nat.reduceEqDiff, Nat.reduceBEq, Nat.reduceAdd, Nat.reduceMul, Nat.reduceSub, Nat.reduceLT, Nat.reduceLeDiff])) | ((with_reducible first | apply hK | (clear hK K; first | apply hK | (clear hK K; first | apply hK | (clear hK K; apply hK)))); clear hK K) | fail)
        refine aw_loopU [7, 26, 27, 28, 29, 30, 31, 32, 33, 34, 35, 36, 37, 38, 39, 40, 41, 42, 43, 44, 45, 46, 47, 48, 49] [5, 35, 43] (fun k : Nat => [(7, .d (.int ((k : Int) + 1)))]) (fun k => [(5, .av [.d (.int (gkF w0 w1 (8 * c + k)).1), .d (.int (gkF w0 w1 (8 * c + k)).2), .d (.int 0), .d (.int 0)])]) (fun k => k ≤ 8) (fun k => 8 - k) 0 (by omega) ?_ ?_
        · (refine lessW_of [] rfl ?_ <;> simp only [St.sws, St.sw, swS, swO, AV.sw, AV.swL, OB.sw, swp, St.upd, dropS, dropOs, Less, SubS, SubO, look, lookO, List.elem, List.cons_append, List.nil_append, cond_true, cond_false, and_true, true_and, beq_self_eq_true, ↓reduceIte, Nat.reduceEqDiff, Nat.reduceBEq, Nat.reduceAdd, Nat.reduceMul, Nat.reduceSub, Nat.reduceLT, Nat.reduceLeDiff] <;> try simp)
        · rintro k k1
          simp only [St.upd, dropS, dropOs, List.elem, List.cons_append, List.nil_append, cond_true, cond_false, beq_self_eq_true, ↓reduceIte, Nat.reduceEqDiff, Nat.reduceBEq, Nat.reduceAdd, Nat.reduceMul, Nat.reduceSub, Nat.reduceLT, Nat.reduceLeDiff]
          by_cases hk : k < 8
          · have hC : ckC (8 * c + k) = (c : Int) + 1 := by unfold ckC; omega
            have hK : ckK (8 * c + k) = (k : Int) + 1 := by unfold ckK; omega
            have e3 := countWord_fn ((c : Int) + 1) ((k : Int) + 1) (by omega) (by omega)
            have e4 := kindWord_fn ((k : Int) + 1) ((c : Int) + 1) (by omega) (by omega)
            have hm := fun h => gk_miss (w0 := w0) (w1 := w1) (n := 8 * c + k) hC hK h
            have hh := fun h0 h1 => gk_hit (w0 := w0) (w1 := w1) (n := 8 * c + k) hC hK h0 h1
            generalize numText ((c : Int) + 1) ((k : Int) + 1) = T0 at *
            generalize kindText ((k : Int) + 1) ((c : Int) + 1) = T1 at *
            by_cases q0 : w0 = T0
            · have d0 : decide (w0 = T0) = true := decide_eq_true q0
              by_cases q1 : w1 = T1
              · have d1 : decide (w1 = T1) = true := decide_eq_true q1
                have hh := hh q0 q1
                repeat' (first | (with_reducible first | refine aw_seq fun K hK => ?_ | refine aw_region (by kernel_rfl) ?_ | refine aw_condk ?_ | refine aw_block ?_) | ((with_reducible refine ev_aw ?_); first | (refine aw_draw (id := 11) (by kernel_rfl) _ _ (by kernel_rfl) (pl_Gp_5_11 _ (by kernel_rfl)) ?_) | (refine aw_draw (id := 14) (by kernel_rfl) _ _ (by kernel_rfl) (pl_Gp_5_14 _ (by kernel_rfl)) ?_)) | (with_reducible first | refine ru_four ?_ ?_ ?_ ?_ | refine ru_three ?_ ?_ ?_ | refine ru_two ?_ ?_ | refine rv_split ?_ ?_ | refine rv_two ?_ ?_ | refine rp_two ?_ ?_) | ((with_reducible refine evg ?_); simp only [go_sem, St.clean, cleanO, ↓reduceIte, Nat.reduceEqDiff, Nat.reduceBEq, Nat.reduceAdd, Nat.reduceMul, Nat.reduceSub, Nat.reduceLT, Nat.reduceLeDiff]) | (simp (disch := omega) only [wr, drop_at, str_at, int_at, Int.reduceSub, Int.reduceAdd, Int.reduceToNat, Int.toNat_zero, hw0, hw1, d0, d1, wr]) | ((with_reducible refine ev_call ?_); (first | (refine call_fn e3 rfl ?_) | (refine call_fn e4 rfl ?_)); refine k_run ?_) | ((with_reducible refine ev_guard ?_); (with_reducible first | refine guard_t ?_ ?_ rfl | refine guard_f ?_ ?_ rfl) <;> (intro h; (try simp only [h]); (try simp only [nrm] at h) <;> (try ((with_reducible exfalso); omega)))) | ((with_reducible refine ck_split (fun h => ?_) (fun h => ?_)) <;> (try simp only [nrm] at h) <;> (try ((with_reducible exfalso); omega))) | ((with_reducible refine And.intro ?_ ?_); (first | omega | focus (simp; done) | focus (simp; omega) | focus ((repeat' (with_reducible refine And.intro ?_ ?_)) <;> first | omega | rfl | (simp only [go_sem, refsL_app, refs_dmap] <;> fail) | (simp [refsL_app, refs_dmap, AV.refsL, AV.refs] <;> omega)))) | (with_reducible refine hJ _ (fun K hK => ?_) ?_ <;> clear hJ KJ) | ((with_reducible refine ev_less ?_); (refine ⟨rfl, ?_, ?_⟩ <;> simp only [go_sem, St.clean, cleanO, SubS, SubO, beq_self_eq_true, ↓reduceIte, Nat.reduceEqDiff, Nat.reduceBEq, Nat.reduceAdd, Nat.reduceMul, Nat.reduceSub, Nat.reduceLT, Nat.reduceLeDiff])) | ((with_reducible first | apply hK | (clear hK K; first | apply hK | (clear hK K; first | apply hK | (clear hK K; apply hK)))); clear hK K) | fail)
                all_goals first
                  | exact absurd trivial h
                  | contradiction
                  | skip
                all_goals
                  refine ⟨k + 1, by omega, by omega, ?_⟩
                  rw [← Nat.add_assoc, hh]
                  (refine lessW_of [] rfl ?_ <;> simp only [St.sws, St.sw, swS, swO, AV.sw, AV.swL, OB.sw, swp, St.upd, dropS, dropOs, Less, SubS, SubO, look, lookO, List.elem, List.cons_append, List.nil_append, cond_true, cond_false, and_true, true_and, beq_self_eq_true, ↓reduceIte, Nat.reduceEqDiff, Nat.reduceBEq, Nat.reduceAdd, Nat.reduceMul, Nat.reduceSub, Nat.reduceLT, Nat.reduceLeDiff] <;> try simp)
                  all_goals (first | rfl | omega)
              · have d1 : decide (w1 = T1) = false := decide_eq_false q1
                have hm := hm (fun h => q1 h.2)
                repeat' (first | (with_reducible first | refine aw_seq fun K hK => ?_ | refine aw_region (by kernel_rfl) ?_ | refine aw_condk ?_ | refine aw_block ?_) | ((with_reducible refine ev_aw ?_); first | (refine aw_draw (id := 11) (by kernel_rfl) _ _ (by kernel_rfl) (pl_Gp_5_11 _ (by kernel_rfl)) ?_) | (refine aw_draw (id := 14) (by kernel_rfl) _ _ (by kernel_rfl) (pl_Gp_5_14 _ (by kernel_rfl)) ?_)) | (with_reducible first | refine ru_four ?_ ?_ ?_ ?_ | refine ru_three ?_ ?_ ?_ | refine ru_two ?_ ?_ | refine rv_split ?_ ?_ | refine rv_two ?_ ?_ | refine rp_two ?_ ?_) | ((with_reducible refine evg ?_); simp only [go_sem, St.clean, cleanO, ↓reduceIte, Nat.reduceEqDiff, Nat.reduceBEq, Nat.reduceAdd, Nat.reduceMul, Nat.reduceSub, Nat.reduceLT, Nat.reduceLeDiff]) | (simp (disch := omega) only [wr, drop_at, str_at, int_at, Int.reduceSub, Int.reduceAdd, Int.reduceToNat, Int.toNat_zero, hw0, hw1, d0, d1, wr]) | ((with_reducible refine ev_call ?_); (first | (refine call_fn e3 rfl ?_) | (refine call_fn e4 rfl ?_)); refine k_run ?_) | ((with_reducible refine ev_guard ?_); (with_reducible first | refine guard_t ?_ ?_ rfl | refine guard_f ?_ ?_ rfl) <;> (intro h; (try simp only [h]); (try simp only [nrm] at h) <;> (try ((with_reducible exfalso); omega)))) | ((with_reducible refine ck_split (fun h => ?_) (fun h => ?_)) <;> (try simp only [nrm] at h) <;> (try ((with_reducible exfalso); omega))) | ((with_reducible refine And.intro ?_ ?_); (first | omega | focus (simp; done) | focus (simp; omega) | focus ((repeat' (with_reducible refine And.intro ?_ ?_)) <;> first | omega | rfl | (simp only [go_sem, refsL_app, refs_dmap] <;> fail) | (simp [refsL_app, refs_dmap, AV.refsL, AV.refs] <;> omega)))) | (with_reducible refine hJ _ (fun K hK => ?_) ?_ <;> clear hJ KJ) | ((with_reducible refine ev_less ?_); (refine ⟨rfl, ?_, ?_⟩ <;> simp only [go_sem, St.clean, cleanO, SubS, SubO, beq_self_eq_true, ↓reduceIte, Nat.reduceEqDiff, Nat.reduceBEq, Nat.reduceAdd, Nat.reduceMul, Nat.reduceSub, Nat.reduceLT, Nat.reduceLeDiff])) | ((with_reducible first | apply hK | (clear hK K; first | apply hK | (clear hK K; first | apply hK | (clear hK K; apply hK)))); clear hK K) | fail)
                all_goals first
                  | exact absurd trivial h
                  | contradiction
                  | skip
                all_goals
                  refine ⟨k + 1, by omega, by omega, ?_⟩
                  rw [← Nat.add_assoc, hm]
                  (refine lessW_of [] rfl ?_ <;> simp only [St.sws, St.sw, swS, swO, AV.sw, AV.swL, OB.sw, swp, St.upd, dropS, dropOs, Less, SubS, SubO, look, lookO, List.elem, List.cons_append, List.nil_append, cond_true, cond_false, and_true, true_and, beq_self_eq_true, ↓reduceIte, Nat.reduceEqDiff, Nat.reduceBEq, Nat.reduceAdd, Nat.reduceMul, Nat.reduceSub, Nat.reduceLT, Nat.reduceLeDiff] <;> try simp)
                  all_goals (first | rfl | omega)
            · have d0 : decide (w0 = T0) = false := decide_eq_false q0
              have hm := hm (fun h => q0 h.1)
              repeat' (first | (with_reducible first | refine aw_seq fun K hK => ?_ | refine aw_region (by kernel_rfl) ?_ | refine aw_condk ?_ | refine aw_block ?_) | ((with_reducible refine ev_aw ?_); first | (refine aw_draw (id := 11) (by kernel_rfl) _ _ (by kernel_rfl) (pl_Gp_5_11 _ (by kernel_rfl)) ?_) | (refine aw_draw (id := 14) (by kernel_rfl) _ _ (by kernel_rfl) (pl_Gp_5_14 _ (by kernel_rfl)) ?_)) | (with_reducible first | refine ru_four ?_ ?_ ?_ ?_ | refine ru_three ?_ ?_ ?_ | refine ru_two ?_ ?_ | refine rv_split ?_ ?_ | refine rv_two ?_ ?_ | refine rp_two ?_ ?_) | ((with_reducible refine evg ?_); simp only [go_sem, St.clean, cleanO, ↓reduceIte, Nat.reduceEqDiff, Nat.reduceBEq, Nat.reduceAdd, Nat.reduceMul, Nat.reduceSub, Nat.reduceLT, Nat.reduceLeDiff]) | (simp (disch := omega) only [wr, drop_at, str_at, int_at, Int.reduceSub, Int.reduceAdd, Int.reduceToNat, Int.toNat_zero, hw0, hw1, d0, wr]) | ((with_reducible refine ev_call ?_); (first | (refine call_fn e3 rfl ?_) | (refine call_fn e4 rfl ?_)); refine k_run ?_) | ((with_reducible refine ev_guard ?_); (with_reducible first | refine guard_t ?_ ?_ rfl | refine guard_f ?_ ?_ rfl) <;> (intro h; (try simp only [h]); (try simp only [nrm] at h) <;> (try ((with_reducible exfalso); omega)))) | ((with_reducible refine ck_split (fun h => ?_) (fun h => ?_)) <;> (try simp only [nrm] at h) <;> (try ((with_reducible exfalso); omega))) | ((with_reducible refine And.intro ?_ ?_); (first | omega | focus (simp; done) | focus (simp; omega) | focus ((repeat' (with_reducible refine And.intro ?_ ?_)) <;> first | omega | rfl | (simp only [go_sem, refsL_app, refs_dmap] <;> fail) | (simp [refsL_app, refs_dmap, AV.refsL, AV.refs] <;> omega)))) | (with_reducible refine hJ _ (fun K hK => ?_) ?_ <;> clear hJ KJ) | ((with_reducible refine ev_less ?_); (refine ⟨rfl, ?_, ?_⟩ <;> simp only [go_sem, St.clean, cleanO, SubS, SubO, beq_self_eq_true, ↓reduceIte, Nat.reduceEqDiff, Nat.reduceBEq, Nat.reduceAdd, Nat.reduceMul, Nat.reduceSub, Nat.reduceLT, Nat.reduceLeDiff])) | ((with_reducible first | apply hK | (clear hK K; first | apply hK | (clear hK K; first | apply hK | (clear hK K; apply hK)))); clear hK K) | fail)
              all_goals first
                | exact absurd trivial h
                | contradiction
                | skip
              all_goals
                refine ⟨k + 1, by omega, by omega, ?_⟩
                rw [← Nat.add_assoc, hm]
                (refine lessW_of [] rfl ?_ <;> simp only [St.sws, St.sw, swS, swO, AV.sw, AV.swL, OB.sw, swp, St.upd, dropS, dropOs, Less, SubS, SubO, look, lookO, List.elem, List.cons_append, List.nil_append, cond_true, cond_false, and_true, true_and, beq_self_eq_true, ↓reduceIte, Nat.reduceEqDiff, Nat.reduceBEq, Nat.reduceAdd, Nat.reduceMul, Nat.reduceSub, Nat.reduceLT, Nat.reduceLeDiff] <;> try simp)
                all_goals (first | rfl | omega)
          · have hk8 : k = 8 := by omega
            subst hk8
            repeat' (first | (with_reducible first | refine aw_seq fun K hK => ?_ | refine aw_region (by kernel_rfl) ?_ | refine aw_condk ?_ | refine aw_block ?_) | ((with_reducible refine ev_aw ?_); first | (refine aw_draw (id := 11) (by kernel_rfl) _ _ (by kernel_rfl) (pl_Gp_5_11 _ (by kernel_rfl)) ?_) | (refine aw_draw (id := 14) (by kernel_rfl) _ _ (by kernel_rfl) (pl_Gp_5_14 _ (by kernel_rfl)) ?_)) | (with_reducible first | refine ru_four ?_ ?_ ?_ ?_ | refine ru_three ?_ ?_ ?_ | refine ru_two ?_ ?_ | refine rv_split ?_ ?_ | refine rv_two ?_ ?_ | refine rp_two ?_ ?_) | ((with_reducible refine evg ?_); simp only [go_sem, St.clean, cleanO, ↓reduceIte, Nat.reduceEqDiff, Nat.reduceBEq, Nat.reduceAdd, Nat.reduceMul, Nat.reduceSub, Nat.reduceLT, Nat.reduceLeDiff]) | (simp (disch := omega) only [wr, drop_at, str_at, int_at, Int.reduceSub, Int.reduceAdd, Int.reduceToNat, Int.toNat_zero, wr]) | ((with_reducible refine ev_guard ?_); (with_reducible first | refine guard_t ?_ ?_ rfl | refine guard_f ?_ ?_ rfl) <;> (intro h; (try simp only [h]); (try simp only [nrm] at h) <;> (try ((with_reducible exfalso); omega)))) | ((with_reducible refine ck_split (fun h => ?_) (fun h => ?_)) <;> (try simp only [nrm] at h) <;> (try ((with_reducible exfalso); omega))) | ((with_reducible refine And.intro ?_ ?_); (first | omega | focus (simp; done) | focus (simp; omega) | focus ((repeat' (with_reducible refine And.intro ?_ ?_)) <;> first | omega | rfl | (simp only [go_sem, refsL_app, refs_dmap] <;> fail) | (simp [refsL_app, refs_dmap, AV.refsL, AV.refs] <;> omega)))) | (with_reducible refine hJ _ (fun K hK => ?_) ?_ <;> clear hJ KJ) | ((with_reducible refine ev_less ?_); (refine ⟨rfl, ?_, ?_⟩ <;> simp only [go_sem, St.clean, cleanO, SubS, SubO, beq_self_eq_true, ↓reduceIte, Nat.reduceEqDiff, Nat.reduceBEq, Nat.reduceAdd, Nat.reduceMul, Nat.reduceSub, Nat.reduceLT, Nat.reduceLeDiff])) | ((with_reducible first | apply hK | (clear hK K; first | apply hK | (clear hK K; first | apply hK | (clear hK K; apply hK)))); clear hK K) | fail)
            refine ⟨c + 1, by omega, by omega, ?_⟩
            rw [Nat.mul_succ]
            (refine lessW_of [] rfl ?_ <;> simp only [St.sws, St.sw, swS, swO, AV.sw, AV.swL, OB.sw, swp, St.upd, dropS, dropOs, Less, SubS, SubO, look, lookO, List.elem, List.cons_append, List.nil_append, cond_true, cond_false, and_true, true_and, beq_self_eq_true, ↓reduceIte, Nat.reduceEqDiff, Nat.reduceBEq, Nat.reduceAdd, Nat.reduceMul, Nat.reduceSub, Nat.reduceLT, Nat.reduceLeDiff] <;> try simp)
      · have hc6 : c = 6 := by omega
        subst hc6
        have hgb := gk_in w0 w1 48 (Nat.le_refl _)
        have hN : ∀ v : Int × Int, 8 * 6 = 48 := fun _ => rfl
        simp only [Nat.reduceMul]
        obtain ⟨A, B, hAB⟩ : ∃ A B, gkF w0 w1 48 = (A, B) := ⟨_, _, rfl⟩
        rw [hAB] at hG hgb ⊢
        simp only at hG hgb ⊢
        have e5 := attAny_fn B (by omega) (by omega)
        by_cases h4 : ws.length = 4
        · have hw2 := fun d => str_at (l := ws) (i := 2) (d := d) (by omega)
          rw [if_pos h4] at hG
          have e6 := index_fn (attNames B) (ws.getD 2 ⟨#[]⟩) (by unfold attNames; split <;> simp)
          have b6 := idxB_in (ws.getD 2 ⟨#[]⟩) (attNames B)
          have l6 : (attNames B).length ≤ 2 := by unfold attNames; split <;> simp
          generalize idxB (ws.getD 2 ⟨#[]⟩) (attNames B) = va at *
          generalize ws.getD 2 ⟨#[]⟩ = w2 at *
          rw [← strs_raw2 (attNames B)] at e6
          generalize attNames B = L at *
          have e7 := implGroupText_fn A B (va + 1) (vt + 1)
          rw [hG] at hno hyes
          simp only [okG, textG, gp4] at hno hyes
          cases g7 : okGroup A B (va + 1) (vt + 1)
          · have hR := hno (by rw [g7]; simp)
            rw [groupTextR, g7] at e7
            simp only [Bool.false_eq_true, if_false] at e7
            clear hno hyes
            repeat' (first | (with_reducible first | refine aw_seq fun K hK => ?_ | refine aw_region (by kernel_rfl) ?_ | refine aw_condk ?_ | refine aw_block ?_) | ((with_reducible refine ev_aw ?_); first | (refine aw_draw (id := 11) (by kernel_rfl) _ _ (by kernel_rfl) (pl_Gp_5_11 _ (by kernel_rfl)) ?_) | (refine aw_draw (id := 14) (by kernel_rfl) _ _ (by kernel_rfl) (pl_Gp_5_14 _ (by kernel_rfl)) ?_)) | (with_reducible first | refine ru_four ?_ ?_ ?_ ?_ | refine ru_three ?_ ?_ ?_ | refine ru_two ?_ ?_ | refine rv_split ?_ ?_ | refine rv_two ?_ ?_ | refine rp_two ?_ ?_) | ((with_reducible refine evg ?_); simp only [go_sem, St.clean, cleanO, ↓reduceIte, Nat.reduceEqDiff, Nat.reduceBEq, Nat.reduceAdd, Nat.reduceMul, Nat.reduceSub, Nat.reduceLT, Nat.reduceLeDiff]) | (simp (disch := omega) only [wr, drop_at, str_at, int_at, Int.reduceSub, Int.reduceAdd, Int.reduceToNat, Int.toNat_zero, hw2, hil, hwl, wr]) | ((with_reducible refine ev_call ?_); (first | (refine call_fn e5 rfl ?_) | (refine call_fn e6 rfl ?_) | (refine call_fn e2 rfl ?_) | (refine call_fn e7 rfl ?_)); refine k_run ?_) | ((with_reducible refine ev_guard ?_); (with_reducible first | refine guard_t ?_ ?_ rfl | refine guard_f ?_ ?_ rfl) <;> (intro h; (try simp only [h]); (try simp only [nrm] at h) <;> (try ((with_reducible exfalso); omega)))) | ((with_reducible refine ck_split (fun h => ?_) (fun h => ?_)) <;> (try simp only [nrm] at h) <;> (try ((with_reducible exfalso); omega))) | ((with_reducible refine And.intro ?_ ?_); (first | omega | focus (simp; done) | focus (simp; omega) | focus ((repeat' (with_reducible refine And.intro ?_ ?_)) <;> first | omega | rfl | (simp only [go_sem, refsL_app, refs_dmap] <;> fail) | (simp [refsL_app, refs_dmap, AV.refsL, AV.refs] <;> omega)))) | (with_reducible refine hJ _ (fun K hK => ?_) ?_ <;> clear hJ KJ) | ((with_reducible refine ev_less ?_); (refine ⟨rfl, ?_, ?_⟩ <;> simp only [go_sem, St.clean, cleanO, SubS, SubO, beq_self_eq_true, ↓reduceIte, Nat.reduceEqDiff, Nat.reduceBEq, Nat.reduceAdd, Nat.reduceMul, Nat.reduceSub, Nat.reduceLT, Nat.reduceLeDiff])) | ((with_reducible first | apply hK | (clear hK K; first | apply hK | (clear hK K; first | apply hK | (clear hK K; apply hK)))); clear hK K) | fail)
            all_goals first
              | contradiction
              | exact absurd trivial h
              | exact absurd (by omega) h
              | skip
            all_goals
              (first | refine res_tmp rfl (by simp [D.plain, plains]) (by simp) ?_ | refine res_at rfl (by simp [D.plain, plains]) (by simp) ?_ | refine res_two rfl (by simp [D.plain, plains]) (by simp) ?_ | refine res_three rfl (by simp [D.plain, plains]) (by simp) ?_)
              rw [hR]
          · rw [groupTextR, g7] at e7
            simp only [if_true] at e7
            by_cases hT : groupText A B (va + 1) (vt + 1) = s
            · have hR := hyes ⟨hl3.1, hl3.2, g7, hT⟩
              rw [hT] at e7
              have hd : decide (s = s) = true := decide_eq_true rfl
              clear hno hyes
              repeat' (first | (with_reducible first | refine aw_seq fun K hK => ?_ | refine aw_region (by kernel_rfl) ?_ | refine aw_condk ?_ | refine aw_block ?_) | ((with_reducible refine ev_aw ?_); first | (refine aw_draw (id := 11) (by kernel_rfl) _ _ (by kernel_rfl) (pl_Gp_5_11 _ (by kernel_rfl)) ?_) | (refine aw_draw (id := 14) (by kernel_rfl) _ _ (by kernel_rfl) (pl_Gp_5_14 _ (by kernel_rfl)) ?_)) | (with_reducible first | refine ru_four ?_ ?_ ?_ ?_ | refine ru_three ?_ ?_ ?_ | refine ru_two ?_ ?_ | refine rv_split ?_ ?_ | refine rv_two ?_ ?_ | refine rp_two ?_ ?_) | ((with_reducible refine evg ?_); simp only [go_sem, St.clean, cleanO, ↓reduceIte, Nat.reduceEqDiff, Nat.reduceBEq, Nat.reduceAdd, Nat.reduceMul, Nat.reduceSub, Nat.reduceLT, Nat.reduceLeDiff]) | (simp (disch := omega) only [wr, drop_at, str_at, int_at, Int.reduceSub, Int.reduceAdd, Int.reduceToNat, Int.toNat_zero, hw2, hil, hwl, hd, wr]) | ((with_reducible refine ev_call ?_); (first | (refine call_fn e5 rfl ?_) | (refine call_fn e6 rfl ?_) | (refine call_fn e2 rfl ?_) | (refine call_fn e7 rfl ?_)); refine k_run ?_) | ((with_reducible refine ev_guard ?_); (with_reducible first | refine guard_t ?_ ?_ rfl | refine guard_f ?_ ?_ rfl) <;> (intro h; (try simp only [h]); (try simp only [nrm] at h) <;> (try ((with_reducible exfalso); omega)))) | ((with_reducible refine ck_split (fun h => ?_) (fun h => ?_)) <;> (try simp only [nrm] at h) <;> (try ((with_reducible exfalso); omega))) | ((with_reducible refine And.intro ?_ ?_); (first | omega | focus (simp; done) | focus (simp; omega) | focus ((repeat' (with_reducible refine And.intro ?_ ?_)) <;> first | omega | rfl | (simp only [go_sem, refsL_app, refs_dmap] <;> fail) | (simp [refsL_app, refs_dmap, AV.refsL, AV.refs] <;> omega)))) | (with_reducible refine hJ _ (fun K hK => ?_) ?_ <;> clear hJ KJ) | ((with_reducible refine ev_less ?_); (refine ⟨rfl, ?_, ?_⟩ <;> simp only [go_sem, St.clean, cleanO, SubS, SubO, beq_self_eq_true, ↓reduceIte, Nat.reduceEqDiff, Nat.reduceBEq, Nat.reduceAdd, Nat.reduceMul, Nat.reduceSub, Nat.reduceLT, Nat.reduceLeDiff])) | ((with_reducible first | apply hK | (clear hK K; first | apply hK | (clear hK K; first | apply hK | (clear hK K; apply hK)))); clear hK K) | fail)
              all_goals first
                | contradiction
                | exact absurd trivial h
                | exact absurd (by omega) h
                | skip
              all_goals
                (first | refine res_tmp rfl (by simp [D.plain, plains]) (by simp) ?_ | refine res_at rfl (by simp [D.plain, plains]) (by simp) ?_ | refine res_two rfl (by simp [D.plain, plains]) (by simp) ?_ | refine res_three rfl (by simp [D.plain, plains]) (by simp) ?_)
                rw [hR]
            · have hR := hno (fun h => hT h.2.2.2)
              have hd : decide (groupText A B (va + 1) (vt + 1) = s) = false := decide_eq_false hT
              clear hno hyes
              generalize groupText A B (va + 1) (vt + 1) = T at *
              repeat' (first | (with_reducible first | refine aw_seq fun K hK => ?_ | refine aw_region (by kernel_rfl) ?_ | refine aw_condk ?_ | refine aw_block ?_) | ((with_reducible refine ev_aw ?_); first | (refine aw_draw (id := 11) (by kernel_rfl) _ _ (by kernel_rfl) (pl_Gp_5_11 _ (by kernel_rfl)) ?_) | (refine aw_draw (id := 14) (by kernel_rfl) _ _ (by kernel_rfl) (pl_Gp_5_14 _ (by kernel_rfl)) ?_)) | (with_reducible first | refine ru_four ?_ ?_ ?_ ?_ | refine ru_three ?_ ?_ ?_ | refine ru_two ?_ ?_ | refine rv_split ?_ ?_ | refine rv_two ?_ ?_ | refine rp_two ?_ ?_) | ((with_reducible refine evg ?_); simp only [go_sem, St.clean, cleanO, ↓reduceIte, Nat.reduceEqDiff, Nat.reduceBEq, Nat.reduceAdd, Nat.reduceMul, Nat.reduceSub, Nat.reduceLT, Nat.reduceLeDiff]) | (simp (disch := omega) only [wr, drop_at, str_at, int_at, Int.reduceSub, Int.reduceAdd, Int.reduceToNat, Int.toNat_zero, hw2, hil, hwl, hd, wr]) | ((with_reducible refine ev_call ?_); (first | (refine call_fn e5 rfl ?_) | (refine call_fn e6 rfl ?_) | (refine call_fn e2 rfl ?_) | (refine call_fn e7 rfl ?_)); refine k_run ?_) | ((with_reducible refine ev_guard ?_); (with_reducible first | refine guard_t ?_ ?_ rfl | refine guard_f ?_ ?_ rfl) <;> (intro h; (try simp only [h]); (try simp only [nrm] at h) <;> (try ((with_reducible exfalso); omega)))) | ((with_reducible refine ck_split (fun h => ?_) (fun h => ?_)) <;> (try simp only [nrm] at h) <;> (try ((with_reducible exfalso); omega))) | ((with_reducible refine And.intro ?_ ?_); (first | omega | focus (simp; done) | focus (simp; omega) | focus ((repeat' (with_reducible refine And.intro ?_ ?_)) <;> first | omega | rfl | (simp only [go_sem, refsL_app, refs_dmap] <;> fail) | (simp [refsL_app, refs_dmap, AV.refsL, AV.refs] <;> omega)))) | (with_reducible refine hJ _ (fun K hK => ?_) ?_ <;> clear hJ KJ) | ((with_reducible refine ev_less ?_); (refine ⟨rfl, ?_, ?_⟩ <;> simp only [go_sem, St.clean, cleanO, SubS, SubO, beq_self_eq_true, ↓reduceIte, Nat.reduceEqDiff, Nat.reduceBEq, Nat.reduceAdd, Nat.reduceMul, Nat.reduceSub, Nat.reduceLT, Nat.reduceLeDiff])) | ((with_reducible first | apply hK | (clear hK K; first | apply hK | (clear hK K; first | apply hK | (clear hK K; apply hK)))); clear hK K) | fail)
              all_goals first
                | contradiction
                | exact absurd trivial h
                | exact absurd (by omega) h
                | skip
              all_goals
                (first | refine res_tmp rfl (by simp [D.plain, plains]) (by simp) ?_ | refine res_at rfl (by simp [D.plain, plains]) (by simp) ?_ | refine res_two rfl (by simp [D.plain, plains]) (by simp) ?_ | refine res_three rfl (by simp [D.plain, plains]) (by simp) ?_)
                rw [hR]
        · rw [if_neg h4] at hG
          have e7 := implGroupText_fn A B 0 (vt + 1)
          rw [hG] at hno hyes
          simp only [okG, textG, gp4] at hno hyes
          cases g7 : okGroup A B 0 (vt + 1)
          · have hR := hno (by rw [g7]; simp)
            rw [groupTextR, g7] at e7
            simp only [Bool.false_eq_true, if_false] at e7
            clear hno hyes
            repeat' (first | (with_reducible first | refine aw_seq fun K hK => ?_ | refine aw_region (by kernel_rfl) ?_ | refine aw_condk ?_ | refine aw_block ?_) | ((with_reducible refine ev_aw ?_); first | (refine aw_draw (id := 11) (by kernel_rfl) _ _ (by kernel_rfl) (pl_Gp_5_11 _ (by kernel_rfl)) ?_) | (refine aw_draw (id := 14) (by kernel_rfl) _ _ (by kernel_rfl) (pl_Gp_5_14 _ (by kernel_rfl)) ?_)) | (with_reducible first | refine ru_four ?_ ?_ ?_ ?_ | refine ru_three ?_ ?_ ?_ | refine ru_two ?_ ?_ | refine rv_split ?_ ?_ | refine rv_two ?_ ?_ | refine rp_two ?_ ?_) | ((with_reducible refine evg ?_); simp only [go_sem, St.clean, cleanO, ↓reduceIte, Nat.reduceEqDiff, Nat.reduceBEq, Nat.reduceAdd, Nat.reduceMul, Nat.reduceSub, Nat.reduceLT, Nat.reduceLeDiff]) | (simp (disch := omega) only [wr, drop_at, str_at, int_at, Int.reduceSub, Int.reduceAdd, Int.reduceToNat, Int.toNat_zero, hw0, hil, hwl, wr]) | ((with_reducible refine ev_call ?_); (first | (refine call_fn e2 rfl ?_) | (refine call_fn e7 rfl ?_)); refine k_run ?_) | ((with_reducible refine ev_guard ?_); (with_reducible first | refine guard_t ?_ ?_ rfl | refine guard_f ?_ ?_ rfl) <;> (intro h; (try simp only [h]); (try simp only [nrm] at h) <;> (try ((with_reducible exfalso); omega)))) | ((with_reducible refine ck_split (fun h => ?_) (fun h => ?_)) <;> (try simp only [nrm] at h) <;> (try ((with_reducible exfalso); omega))) | ((with_reducible refine And.intro ?_ ?_); (first | omega | focus (simp; done) | focus (simp; omega) | focus ((repeat' (with_reducible refine And.intro ?_ ?_)) <;> first | omega | rfl | (simp only [go_sem, refsL_app, refs_dmap] <;> fail) | (simp [refsL_app, refs_dmap, AV.refsL, AV.refs] <;> omega)))) | (with_reducible refine hJ _ (fun K hK => ?_) ?_ <;> clear hJ KJ) | ((with_reducible refine ev_less ?_); (refine ⟨rfl, ?_, ?_⟩ <;> simp only [go_sem, St.clean, cleanO, SubS, SubO, beq_self_eq_true, ↓reduceIte, Nat.reduceEqDiff, Nat.reduceBEq, Nat.reduceAdd, Nat.reduceMul, Nat.reduceSub, Nat.reduceLT, Nat.reduceLeDiff])) | ((with_reducible first | apply hK | (clear hK K; first | apply hK | (clear hK K; first | apply hK | (clear hK K; apply hK)))); clear hK K) | fail)
            all_goals first
              | contradiction
              | exact absurd trivial h
              | exact absurd (by omega) h
              | skip
            all_goals
              (first | refine res_tmp rfl (by simp [D.plain, plains]) (by simp) ?_ | refine res_at rfl (by simp [D.plain, plains]) (by simp) ?_ | refine res_two rfl (by simp [D.plain, plains]) (by simp) ?_ | refine res_three rfl (by simp [D.plain, plains]) (by simp) ?_)
              rw [hR]
          · rw [groupTextR, g7] at e7
            simp only [if_true] at e7
            by_cases hT : groupText A B 0 (vt + 1) = s
            · have hR := hyes ⟨hl3.1, hl3.2, g7, hT⟩
              rw [hT] at e7
              have hd : decide (s = s) = true := decide_eq_true rfl
              clear hno hyes
              repeat' (first | (with_reducible first | refine aw_seq fun K hK => ?_ | refine aw_region (by kernel_rfl) ?_ | refine aw_condk ?_ | refine aw_block ?_) | ((with_reducible refine ev_aw ?_); first | (refine aw_draw (id := 11) (by kernel_rfl) _ _ (by kernel_rfl) (pl_Gp_5_11 _ (by kernel_rfl)) ?_) | (refine aw_draw (id := 14) (by kernel_rfl) _ _ (by kernel_rfl) (pl_Gp_5_14 _ (by kernel_rfl)) ?_)) | (with_reducible first | refine ru_four ?_ ?_ ?_ ?_ | refine ru_three ?_ ?_ ?_ | refine ru_two ?_ ?_ | refine rv_split ?_ ?_ | refine rv_two ?_ ?_ | refine rp_two ?_ ?_) | ((with_reducible refine evg ?_); simp only [go_sem, St.clean, cleanO, ↓reduceIte, Nat.reduceEqDiff, Nat.reduceBEq, Nat.reduceAdd, Nat.reduceMul, Nat.reduceSub, Nat.reduceLT, Nat.reduceLeDiff]) | (simp (disch := omega) only [wr, drop_at, str_at, int_at, Int.reduceSub, Int.reduceAdd, Int.reduceToNat, Int.toNat_zero, hw0, hil, hwl, hd, wr]) | ((with_reducible refine ev_call ?_); (first | (refine call_fn e2 rfl ?_) | (refine call_fn e7 rfl ?_)); refine k_run ?_) | ((with_reducible refine ev_guard ?_); (with_reducible first | refine guard_t ?_ ?_ rfl | refine guard_f ?_ ?_ rfl) <;> (intro h; (try simp only [h]); (try simp only [nrm] at h) <;> (try ((with_reducible exfalso); omega)))) | ((with_reducible refine ck_split (fun h => ?_) (fun h => ?_)) <;> (try simp only [nrm] at h) <;> (try ((with_reducible exfalso); omega))) | ((with_reducible refine And.intro ?_ ?_); (first | omega | focus (simp; done) | focus (simp; omega) | focus ((repeat' (with_reducible refine And.intro ?_ ?_)) <;> first | omega | rfl | (simp only [go_sem, refsL_app, refs_dmap] <;> fail) | (simp [refsL_app, refs_dmap, AV.refsL, AV.refs] <;> omega)))) | (with_reducible refine hJ _ (fun K hK => ?_) ?_ <;> clear hJ KJ) | ((with_reducible refine ev_less ?_); (refine ⟨rfl, ?_, ?_⟩ <;> simp only [go_sem, St.clean, cleanO, SubS, SubO, beq_self_eq_true, ↓reduceIte, Nat.reduceEqDiff, Nat.reduceBEq, Nat.reduceAdd, Nat.reduceMul, Nat.reduceSub, Nat.reduceLT, Nat.reduceLeDiff])) | ((with_reducible first | apply hK | (clear hK K; first | apply hK | (clear hK K; first | apply hK | (clear hK K; apply hK)))); clear hK K) | fail)
              all_goals first
                | contradiction
                | exact absurd trivial h
                | exact absurd (by omega) h
                | skip
              all_goals
                (first | refine res_tmp rfl (by simp [D.plain, plains]) (by simp) ?_ | refine res_at rfl (by simp [D.plain, plains]) (by simp) ?_ | refine res_two rfl (by simp [D.plain, plains]) (by simp) ?_ | refine res_three rfl (by simp [D.plain, plains]) (by simp) ?_)
                rw [hR]
            · have hR := hno (fun h => hT h.2.2.2)
              have hd : decide (groupText A B 0 (vt + 1) = s) = false := decide_eq_false hT
              clear hno hyes
              generalize groupText A B 0 (vt + 1) = T at *
              repeat' (first | (with_reducible first | refine aw_seq fun K hK => ?_ | refine aw_region (by kernel_rfl) ?_ | refine aw_condk ?_ | refine aw_block ?_) | ((with_reducible refine ev_aw ?_); first | (refine aw_draw (id := 11) (by kernel_rfl) _ _ (by kernel_rfl) (pl_Gp_5_11 _ (by kernel_rfl)) ?_) | (refine aw_draw (id := 14) (by kernel_rfl) _ _ (by kernel_rfl) (pl_Gp_5_14 _ (by kernel_rfl)) ?_)) | (with_reducible first | refine ru_four ?_ ?_ ?_ ?_ | refine ru_three ?_ ?_ ?_ | refine ru_two ?_ ?_ | refine rv_split ?_ ?_ | refine rv_two ?_ ?_ | refine rp_two ?_ ?_) | ((with_reducible refine evg ?_); simp only [go_sem, St.clean, cleanO, ↓reduceIte, Nat.reduceEqDiff, Nat.reduceBEq, Nat.reduceAdd, Nat.reduceMul, Nat.reduceSub, Nat.reduceLT, Nat.reduceLeDiff]) | (simp (disch := omega) only [wr, drop_at, str_at, int_at, Int.reduceSub, Int.reduceAdd, Int.reduceToNat, Int.toNat_zero, hw0, hil, hwl, hd, wr]) | ((with_reducible refine ev_call ?_); (first | (refine call_fn e2 rfl ?_) | (refine call_fn e7 rfl ?_)); refine k_run ?_) | ((with_reducible refine ev_guard ?_); (with_reducible first | refine guard_t ?_ ?_ rfl | refine guard_f ?_ ?_ rfl) <;> (intro h; (try simp only [h]); (try simp only [nrm] at h) <;> (try ((with_reducible exfalso); omega)))) | ((with_reducible refine ck_split (fun h => ?_) (fun h => ?_)) <;> (try simp only [nrm] at h) <;> (try ((with_reducible exfalso); omega))) | ((with_reducible refine And.intro ?_ ?_); (first | omega | focus (simp; done) | focus (simp; omega) | focus ((repeat' (with_reducible refine And.intro ?_ ?_)) <;> first | omega | rfl | (simp only [go_sem, refsL_app, refs_dmap] <;> fail) | (simp [refsL_app, refs_dmap, AV.refsL, AV.refs] <;> omega)))) | (with_reducible refine hJ _ (fun K hK => ?_) ?_ <;> clear hJ KJ) | ((with_reducible refine ev_less ?_); (refine ⟨rfl, ?_, ?_⟩ <;> simp only [go_sem, St.clean, cleanO, SubS, SubO, beq_self_eq_true, ↓reduceIte, Nat.reduceEqDiff, Nat.reduceBEq, Nat.reduceAdd, Nat.reduceMul, Nat.reduceSub, Nat.reduceLT, Nat.reduceLeDiff])) | ((with_reducible first | apply hK | (clear hK K; first | apply hK | (clear hK K; first | apply hK | (clear hK K; apply hK)))); clear hK K) | fail)
              all_goals first
                | contradiction
                | exact absurd trivial h
                | exact absurd (by omega) h
                | skip
              all_goals
                (first | refine res_tmp rfl (by simp [D.plain, plains]) (by simp) ?_ | refine res_at rfl (by simp [D.plain, plains]) (by simp) ?_ | refine res_two rfl (by simp [D.plain, plains]) (by simp) ?_ | refine res_three rfl (by simp [D.plain, plains]) (by simp) ?_)
                rw [hR]

set_option maxRecDepth 100000 in
theorem pl_Gp_15_5 (l : List Oper) (h : l = opsOf Tryd.f15 5) : planB l (.pure 0 (.pure 1 (.pure 2 (.pure 3 (.pure 4 (.pure 5 (.pure 6 (.pure 7 (.pure 8 PT.fin))))))))) [] = true := by
  subst h
  kernel_rfl

set_option maxRecDepth 100000 in
set_option maxHeartbeats 4000000 in
theorem l4Last_fn (s : ByteArray) (hs : s.size ≤ 1048576) : FnD Tryd.prog 15 [.str s] (.tu [.str (bareS s), .str (wordS s)]) := by
  have hsz := ba_size s
  have hcut : ∀ i, i < s.data.toList.length → s.data.toList.getD i 0 = 32 → lsF s.data.toList s.data.toList.length = lsF s.data.toList (i + 1) → bareS s = s.extract 0 i ∧ wordS s = s.extract (i + 1) s.size := fun i hi h e => by
    rw [lsF, if_pos h] at e
    rw [bareS, wordS, e, toB_ext, toB_ext]
    have hd : (s.data.toList.drop (i + 1)).take (s.size - (i + 1)) = s.data.toList.drop (i + 1) := List.take_of_length_le (by rw [List.length_drop]; omega)
    constructor
    · rw [List.drop_zero, Nat.sub_zero]
    · rw [hd]
  refine fn_go Tryd.func15 rfl rfl Tryd.ntmps15 Tryd.results15 (by simp only [slotsOf, argAV, List.map_cons, List.map_nil, Nat.reduceAdd]; rfl) (by simp) ?_
  repeat' (first | (with_reducible first | refine aw_seq fun K hK => ?_ | refine aw_region (by kernel_rfl) ?_ | refine aw_condk ?_ | refine aw_block ?_) | ((with_reducible refine ev_aw ?_); first | (refine aw_draw (id := 5) (by kernel_rfl) _ _ (by kernel_rfl) (pl_Gp_15_5 _ (by kernel_rfl)) ?_)) | (with_reducible first | refine ru_four ?_ ?_ ?_ ?_ | refine ru_three ?_ ?_ ?_ | refine ru_two ?_ ?_ | refine rv_split ?_ ?_ | refine rv_two ?_ ?_ | refine rp_two ?_ ?_) | ((with_reducible refine evg ?_); simp only [go_sem, St.clean, cleanO, ↓reduceIte, Nat.reduceEqDiff, Nat.reduceBEq, Nat.reduceAdd, Nat.reduceMul, Nat.reduceSub, Nat.reduceLT, Nat.reduceLeDiff]) | (simp (disch := omega) only [wr, drop_at, str_at, int_at, Int.reduceSub, Int.reduceAdd, Int.reduceToNat, Int.toNat_zero, wr]) | ((with_reducible refine ev_guard ?_); (with_reducible first | refine guard_t ?_ ?_ rfl | refine guard_f ?_ ?_ rfl) <;> (intro h; (try simp only [h]); (try simp only [nrm] at h) <;> (try ((with_reducible exfalso); omega)))) | ((with_reducible refine ck_split (fun h => ?_) (fun h => ?_)) <;> (try simp only [nrm] at h) <;> (try ((with_reducible exfalso); omega))) | ((with_reducible refine And.intro ?_ ?_); (first | omega | focus (simp; done) | focus (simp; omega) | focus ((repeat' (with_reducible refine And.intro ?_ ?_)) <;> first | omega | rfl | (simp only [go_sem, refsL_app, refs_dmap] <;> fail) | (simp [refsL_app, refs_dmap, AV.refsL, AV.refs] <;> omega)))) | (with_reducible refine hJ _ (fun K hK => ?_) ?_ <;> clear hJ KJ) | ((with_reducible refine ev_less ?_); (refine ⟨rfl, ?_, ?_⟩ <;> simp only [go_sem, St.clean, cleanO, SubS, SubO, beq_self_eq_true, ↓reduceIte, Nat.reduceEqDiff, Nat.reduceBEq, Nat.reduceAdd, Nat.reduceMul, Nat.reduceSub, Nat.reduceLT, Nat.reduceLeDiff])) | ((with_reducible first | apply hK | (clear hK K; first | apply hK | (clear hK K; first | apply hK | (clear hK K; apply hK)))); clear hK K) | fail)
  refine aw_loopU [2, 3, 4, 8, 9, 10, 11, 12, 13, 14, 15, 16, 17, 18, 19, 20, 21, 22] [] (fun i : Nat => [(4, .d (.int ((i : Int) - 1)))]) (fun _ => []) (fun i => i ≤ s.size ∧ lsF s.data.toList s.data.toList.length = lsF s.data.toList i) (fun i => i) s.size ⟨by omega, by rw [hsz]⟩ ?_ ?_
  · (refine lessW_of [] rfl ?_ <;> simp only [St.sws, St.sw, swS, swO, AV.sw, AV.swL, OB.sw, swp, St.upd, dropS, dropOs, Less, SubS, SubO, look, lookO, List.elem, List.cons_append, List.nil_append, cond_true, cond_false, and_true, true_and, beq_self_eq_true, ↓reduceIte, Nat.reduceEqDiff, Nat.reduceBEq, Nat.reduceAdd, Nat.reduceMul, Nat.reduceSub, Nat.reduceLT, Nat.reduceLeDiff] <;> try simp)
  · rintro i ⟨g1, g2⟩
    simp only [St.upd, dropS, dropOs, List.elem, List.cons_append, List.nil_append, cond_true, cond_false, beq_self_eq_true, ↓reduceIte, Nat.reduceEqDiff, Nat.reduceBEq, Nat.reduceAdd, Nat.reduceMul, Nat.reduceSub, Nat.reduceLT, Nat.reduceLeDiff]
    cases i with
    | zero =>
      rw [lsF] at g2
      repeat' (first | (with_reducible first | refine aw_seq fun K hK => ?_ | refine aw_region (by kernel_rfl) ?_ | refine aw_condk ?_ | refine aw_block ?_) | ((with_reducible refine ev_aw ?_); first | (refine aw_draw (id := 5) (by kernel_rfl) _ _ (by kernel_rfl) (pl_Gp_15_5 _ (by kernel_rfl)) ?_)) | (with_reducible first | refine ru_four ?_ ?_ ?_ ?_ | refine ru_three ?_ ?_ ?_ | refine ru_two ?_ ?_ | refine rv_split ?_ ?_ | refine rv_two ?_ ?_ | refine rp_two ?_ ?_) | ((with_reducible refine evg ?_); simp only [go_sem, St.clean, cleanO, ↓reduceIte, Nat.reduceEqDiff, Nat.reduceBEq, Nat.reduceAdd, Nat.reduceMul, Nat.reduceSub, Nat.reduceLT, Nat.reduceLeDiff]) | (simp (disch := omega) only [wr, drop_at, str_at, int_at, Int.reduceSub, Int.reduceAdd, Int.reduceToNat, Int.toNat_zero, wr]) | ((with_reducible refine ev_guard ?_); (with_reducible first | refine guard_t ?_ ?_ rfl | refine guard_f ?_ ?_ rfl) <;> (intro h; (try simp only [h]); (try simp only [nrm] at h) <;> (try ((with_reducible exfalso); omega)))) | ((with_reducible refine ck_split (fun h => ?_) (fun h => ?_)) <;> (try simp only [nrm] at h) <;> (try ((with_reducible exfalso); omega))) | ((with_reducible refine And.intro ?_ ?_); (first | omega | focus (simp; done) | focus (simp; omega) | focus ((repeat' (with_reducible refine And.intro ?_ ?_)) <;> first | omega | rfl | (simp only [go_sem, refsL_app, refs_dmap] <;> fail) | (simp [refsL_app, refs_dmap, AV.refsL, AV.refs] <;> omega)))) | (with_reducible refine hJ _ (fun K hK => ?_) ?_ <;> clear hJ KJ) | ((with_reducible refine ev_less ?_); (refine ⟨rfl, ?_, ?_⟩ <;> simp only [go_sem, St.clean, cleanO, SubS, SubO, beq_self_eq_true, ↓reduceIte, Nat.reduceEqDiff, Nat.reduceBEq, Nat.reduceAdd, Nat.reduceMul, Nat.reduceSub, Nat.reduceLT, Nat.reduceLeDiff])) | ((with_reducible first | apply hK | (clear hK K; first | apply hK | (clear hK K; first | apply hK | (clear hK K; apply hK)))); clear hK K) | fail)
      all_goals first
        | exact absurd h (by omega)
        | skip
      (first | refine res_tmp rfl (by simp [D.plain, plains]) (by simp) ?_ | refine res_at rfl (by simp [D.plain, plains]) (by simp) ?_ | refine res_two rfl (by simp [D.plain, plains]) (by simp) ?_ | refine res_three rfl (by simp [D.plain, plains]) (by simp) ?_)
      rw [bareS, wordS, g2, toB_of]
      rfl
    | succ i =>
      have hi : i < s.data.toList.length := by omega
      have hbe := byte_eq (a := s.data.toList.getD i 0) (b := 32)
      rw [show ((32 : UInt8).toNat : Int) = 32 from rfl] at hbe
      have hii : (((i + 1 : Nat) : Int) - 1).toNat = i := by omega
      have hi3 : (((i + 1 : Nat) : Int) - 1 + 1).toNat = i + 1 := by omega
      by_cases hb : s.data.toList.getD i 0 = 32
      · rw [decide_eq_true hb] at hbe
        obtain ⟨q1, q2⟩ := hcut i hi hb g2
        repeat' (first | (with_reducible first | refine aw_seq fun K hK => ?_ | refine aw_region (by kernel_rfl) ?_ | refine aw_condk ?_ | refine aw_block ?_) | ((with_reducible refine ev_aw ?_); first | (refine aw_draw (id := 5) (by kernel_rfl) _ _ (by kernel_rfl) (pl_Gp_15_5 _ (by kernel_rfl)) ?_)) | (with_reducible first | refine ru_four ?_ ?_ ?_ ?_ | refine ru_three ?_ ?_ ?_ | refine ru_two ?_ ?_ | refine rv_split ?_ ?_ | refine rv_two ?_ ?_ | refine rp_two ?_ ?_) | ((with_reducible refine evg ?_); simp only [go_sem, St.clean, cleanO, ↓reduceIte, Nat.reduceEqDiff, Nat.reduceBEq, Nat.reduceAdd, Nat.reduceMul, Nat.reduceSub, Nat.reduceLT, Nat.reduceLeDiff]) | (simp (disch := omega) only [wr, drop_at, str_at, int_at, Int.reduceSub, Int.reduceAdd, Int.reduceToNat, Int.toNat_zero, hii, hi3, hbe, Int.toNat_natCast, wr]) | ((with_reducible refine ev_guard ?_); (with_reducible first | refine guard_t ?_ ?_ rfl | refine guard_f ?_ ?_ rfl) <;> (intro h; (try simp only [h]); (try simp only [nrm] at h) <;> (try ((with_reducible exfalso); omega)))) | ((with_reducible refine ck_split (fun h => ?_) (fun h => ?_)) <;> (try simp only [nrm] at h) <;> (try ((with_reducible exfalso); omega))) | ((with_reducible refine And.intro ?_ ?_); (first | omega | focus (simp; done) | focus (simp; omega) | focus ((repeat' (with_reducible refine And.intro ?_ ?_)) <;> first | omega | rfl | (simp only [go_sem, refsL_app, refs_dmap] <;> fail) | (simp [refsL_app, refs_dmap, AV.refsL, AV.refs] <;> omega)))) | (with_reducible refine hJ _ (fun K hK => ?_) ?_ <;> clear hJ KJ) | ((with_reducible refine ev_less ?_); (refine ⟨rfl, ?_, ?_⟩ <;> simp only [go_sem, St.clean, cleanO, SubS, SubO, beq_self_eq_true, ↓reduceIte, Nat.reduceEqDiff, Nat.reduceBEq, Nat.reduceAdd, Nat.reduceMul, Nat.reduceSub, Nat.reduceLT, Nat.reduceLeDiff])) | ((with_reducible first | apply hK | (clear hK K; first | apply hK | (clear hK K; first | apply hK | (clear hK K; apply hK)))); clear hK K) | fail)
        all_goals first
          | contradiction
          | skip
        (first | refine res_tmp rfl (by simp [D.plain, plains]) (by simp) ?_ | refine res_at rfl (by simp [D.plain, plains]) (by simp) ?_ | refine res_two rfl (by simp [D.plain, plains]) (by simp) ?_ | refine res_three rfl (by simp [D.plain, plains]) (by simp) ?_)
        rw [q1, q2]
      · rw [decide_eq_false hb] at hbe
        rw [lsF, if_neg hb] at g2
        repeat' (first | (with_reducible first | refine aw_seq fun K hK => ?_ | refine aw_region (by kernel_rfl) ?_ | refine aw_condk ?_ | refine aw_block ?_) | ((with_reducible refine ev_aw ?_); first | (refine aw_draw (id := 5) (by kernel_rfl) _ _ (by kernel_rfl) (pl_Gp_15_5 _ (by kernel_rfl)) ?_)) | (with_reducible first | refine ru_four ?_ ?_ ?_ ?_ | refine ru_three ?_ ?_ ?_ | refine ru_two ?_ ?_ | refine rv_split ?_ ?_ | refine rv_two ?_ ?_ | refine rp_two ?_ ?_) | ((with_reducible refine evg ?_); simp only [go_sem, St.clean, cleanO, ↓reduceIte, Nat.reduceEqDiff, Nat.reduceBEq, Nat.reduceAdd, Nat.reduceMul, Nat.reduceSub, Nat.reduceLT, Nat.reduceLeDiff]) | (simp (disch := omega) only [wr, drop_at, str_at, int_at, Int.reduceSub, Int.reduceAdd, Int.reduceToNat, Int.toNat_zero, hii, hi3, hbe, Int.toNat_natCast, wr]) | ((with_reducible refine ev_guard ?_); (with_reducible first | refine guard_t ?_ ?_ rfl | refine guard_f ?_ ?_ rfl) <;> (intro h; (try simp only [h]); (try simp only [nrm] at h) <;> (try ((with_reducible exfalso); omega)))) | ((with_reducible refine ck_split (fun h => ?_) (fun h => ?_)) <;> (try simp only [nrm] at h) <;> (try ((with_reducible exfalso); omega))) | ((with_reducible refine And.intro ?_ ?_); (first | omega | focus (simp; done) | focus (simp; omega) | focus ((repeat' (with_reducible refine And.intro ?_ ?_)) <;> first | omega | rfl | (simp only [go_sem, refsL_app, refs_dmap] <;> fail) | (simp [refsL_app, refs_dmap, AV.refsL, AV.refs] <;> omega)))) | (with_reducible refine hJ _ (fun K hK => ?_) ?_ <;> clear hJ KJ) | ((with_reducible refine ev_less ?_); (refine ⟨rfl, ?_, ?_⟩ <;> simp only [go_sem, St.clean, cleanO, SubS, SubO, beq_self_eq_true, ↓reduceIte, Nat.reduceEqDiff, Nat.reduceBEq, Nat.reduceAdd, Nat.reduceMul, Nat.reduceSub, Nat.reduceLT, Nat.reduceLeDiff])) | ((with_reducible first | apply hK | (clear hK K; first | apply hK | (clear hK K; first | apply hK | (clear hK K; apply hK)))); clear hK K) | fail)
        all_goals first
          | contradiction
          | skip
        all_goals
          refine ⟨i, ⟨by omega, g2⟩, by omega, ?_⟩
          (refine lessW_of [] rfl ?_ <;> simp only [St.sws, St.sw, swS, swO, AV.sw, AV.swL, OB.sw, swp, St.upd, dropS, dropOs, Less, SubS, SubO, look, lookO, List.elem, List.cons_append, List.nil_append, cond_true, cond_false, and_true, true_and, beq_self_eq_true, ↓reduceIte, Nat.reduceEqDiff, Nat.reduceBEq, Nat.reduceAdd, Nat.reduceMul, Nat.reduceSub, Nat.reduceLT, Nat.reduceLeDiff] <;> try simp)
          all_goals (first | rfl | omega)

def ubD (b : ByteArray) : D := .tu [gp4 (unV b).1, .bool (unV b).2]

set_option maxRecDepth 100000 in
set_option maxHeartbeats 4000000 in
theorem l4Unbare_fn (b : ByteArray) : FnD Tryd.prog 16 [.str b] (ubD b) := by
  have hnot : (∀ c k a : Nat, c < 6 → k < 8 → a < 3 → ¬ (okGroup ((c : Int) + 1) ((k : Int) + 1) a 1 = true ∧ bareText ((c : Int) + 1) ((k : Int) + 1) a = b)) → ubD b = .tu [.ag [.int 0, .int 0, .int 0, .int 0], .bool false] := fun h => by
    rw [ubD, unV_no fun c k a h1 h2 => ?_]
    · rfl
    · obtain ⟨q1, q2, _, q4⟩ := ok_group h1
      have := h (c - 1).toNat (k - 1).toNat a.toNat (by omega) (by omega) (by omega)
      rw [show (((c - 1).toNat : Nat) : Int) + 1 = c by omega, show (((k - 1).toNat : Nat) : Int) + 1 = k by omega, show ((a.toNat : Nat) : Int) = a by omega] at this
      exact this ⟨h1, h2⟩
  have hgot : ∀ c k a : Int, okGroup c k a 1 = true → bareText c k a = b → ubD b = .tu [.ag [.int c, .int k, .int a, .int 1], .bool true] := fun c k a h1 h2 => by
    rw [ubD, unV_hit h1 h2]
    rfl
  generalize ubD b = R at *
  refine fn_go Tryd.func16 rfl rfl Tryd.ntmps16 Tryd.results16 (by simp only [slotsOf, argAV, List.map_cons, List.map_nil, Nat.reduceAdd]; rfl) (by simp) ?_
  repeat' (first | (with_reducible first | refine aw_seq fun K hK => ?_ | refine aw_region (by kernel_rfl) ?_ | refine aw_condk ?_ | refine aw_block ?_) | ((with_reducible refine evg ?_); simp only [go_sem, ↓reduceIte, Nat.reduceEqDiff, Nat.reduceBEq, Nat.reduceAdd, Nat.reduceMul, Nat.reduceSub, Nat.reduceLT, Nat.reduceLeDiff]) | (simp (disch := omega) only [wr, drop_at, str_at, int_at, Int.reduceSub, Int.reduceAdd, Int.reduceToNat, Int.toNat_zero, wr]) | ((with_reducible refine ev_guard ?_); (with_reducible first | refine guard_t ?_ ?_ rfl | refine guard_f ?_ ?_ rfl) <;> (intro h; (try simp only [h]); (try simp only [nrm] at h) <;> (try ((with_reducible exfalso); omega)))) | ((with_reducible refine ck_split (fun h => ?_) (fun h => ?_)) <;> (try simp only [nrm] at h) <;> (try ((with_reducible exfalso); omega))) | ((with_reducible refine And.intro ?_ ?_); (first | omega | focus (simp; done) | focus (simp; omega) | focus ((repeat' (with_reducible refine And.intro ?_ ?_)) <;> first | omega | rfl | (simp only [go_sem, refsL_app, refs_dmap] <;> fail) | (simp [refsL_app, refs_dmap, AV.refsL, AV.refs] <;> omega)))) | ((with_reducible first | apply hK | (clear hK K; first | apply hK | (clear hK K; first | apply hK | (clear hK K; apply hK)))); clear hK K) | fail)
  refine aw_loopU [3, 4, 5, 6, 7, 8, 9, 10, 11, 12, 13, 14, 15, 16, 17, 18, 19, 20, 21, 22, 23, 24, 25, 26, 27, 28, 29, 30, 31, 32] [7, 25, 28] (fun c : Nat => [(4, .d (.int ((c : Int) + 1)))]) (fun _ => []) (fun c => c ≤ 6 ∧ ∀ c' k a : Nat, c' < c → k < 8 → a < 3 → ¬ (okGroup ((c' : Int) + 1) ((k : Int) + 1) a 1 = true ∧ bareText ((c' : Int) + 1) ((k : Int) + 1) a = b)) (fun c => 6 - c) 0 ⟨by omega, fun c' k a hc => by omega⟩ ?_ ?_
  · (refine lessW_of [] rfl ?_ <;> simp only [St.sws, St.sw, swS, swO, AV.sw, AV.swL, OB.sw, swp, St.upd, dropS, dropOs, Less, SubS, SubO, look, lookO, List.elem, List.cons_append, List.nil_append, cond_true, cond_false, and_true, true_and, beq_self_eq_true, ↓reduceIte, Nat.reduceEqDiff, Nat.reduceBEq, Nat.reduceAdd, Nat.reduceMul, Nat.reduceSub, Nat.reduceLT, Nat.reduceLeDiff] <;> try simp)
  · rintro c ⟨c1, c2⟩
    simp only [St.upd, dropS, dropOs, List.elem, List.cons_append, List.nil_append, cond_true, cond_false, beq_self_eq_true, ↓reduceIte, Nat.reduceEqDiff, Nat.reduceBEq, Nat.reduceAdd, Nat.reduceMul, Nat.reduceSub, Nat.reduceLT, Nat.reduceLeDiff]
    by_cases hc : c < 6
    · repeat' (first | (with_reducible first | refine aw_seq fun K hK => ?_ | refine aw_region (by kernel_rfl) ?_ | refine aw_condk ?_ | refine aw_block ?_) | ((with_reducible refine evg ?_); simp only [go_sem, ↓reduceIte, Nat.reduceEqDiff, Nat.reduceBEq, Nat.reduceAdd, Nat.reduceMul, Nat.reduceSub, Nat.reduceLT, Nat.reduceLeDiff]) | (simp (disch := omega) only [wr, drop_at, str_at, int_at, Int.reduceSub, Int.reduceAdd, Int.reduceToNat, Int.toNat_zero, wr]) | ((with_reducible refine ev_guard ?_); (with_reducible first | refine guard_t ?_ ?_ rfl | refine guard_f ?_ ?_ rfl) <;> (intro h; (try simp only [h]); (try simp only [nrm] at h) <;> (try ((with_reducible exfalso); omega)))) | ((with_reducible refine ck_split (fun h => ?_) (fun h => ?_)) <;> (try simp only [nrm] at h) <;> (try ((with_reducible exfalso); omega))) | ((with_reducible refine And.intro ?_ ?_); (first | omega | focus (simp; done) | focus (simp; omega) | focus ((repeat' (with_reducible refine And.intro ?_ ?_)) <;> first | omega | rfl | (simp only [go_sem, refsL_app, refs_dmap] <;> fail) | (simp [refsL_app, refs_dmap, AV.refsL, AV.refs] <;> omega)))) | ((with_reducible first | apply hK | (clear hK K; first | apply hK | (clear hK K; first | apply hK | (clear hK K; apply hK)))); clear hK K) | fail)
      refine aw_loopU [3, 5, 6, 7, 12, 13, 14, 15, 16, 17, 18, 19, 20, 21, 22, 23, 24, 25, 26, 27, 28, 29, 30, 31, 32] [7, 25, 28] (fun k : Nat => [(5, .d (.int ((k : Int) + 1)))]) (fun _ => []) (fun k => k ≤ 8 ∧ ∀ k' a : Nat, k' < k → a < 3 → ¬ (okGroup ((c : Int) + 1) ((k' : Int) + 1) a 1 = true ∧ bareText ((c : Int) + 1) ((k' : Int) + 1) a = b)) (fun k => 8 - k) 0 ⟨by omega, fun k' a hk => by omega⟩ ?_ ?_
      · (refine lessW_of [] rfl ?_ <;> simp only [St.sws, St.sw, swS, swO, AV.sw, AV.swL, OB.sw, swp, St.upd, dropS, dropOs, Less, SubS, SubO, look, lookO, List.elem, List.cons_append, List.nil_append, cond_true, cond_false, and_true, true_and, beq_self_eq_true, ↓reduceIte, Nat.reduceEqDiff, Nat.reduceBEq, Nat.reduceAdd, Nat.reduceMul, Nat.reduceSub, Nat.reduceLT, Nat.reduceLeDiff] <;> try simp)
      · rintro k ⟨k1, k2⟩
        simp only [St.upd, dropS, dropOs, List.elem, List.cons_append, List.nil_append, cond_true, cond_false, beq_self_eq_true, ↓reduceIte, Nat.reduceEqDiff, Nat.reduceBEq, Nat.reduceAdd, Nat.reduceMul, Nat.reduceSub, Nat.reduceLT, Nat.reduceLeDiff]
        by_cases hk : k < 8
        · repeat' (first | (with_reducible first | refine aw_seq fun K hK => ?_ | refine aw_region (by kernel_rfl) ?_ | refine aw_condk ?_ | refine aw_block ?_) | ((with_reducible refine evg ?_); simp only [go_sem, ↓reduceIte, Nat.reduceEqDiff, Nat.reduceBEq, Nat.reduceAdd, Nat.reduceMul, Nat.reduceSub, Nat.reduceLT, Nat.reduceLeDiff]) | (simp (disch := omega) only [wr, drop_at, str_at, int_at, Int.reduceSub, Int.reduceAdd, Int.reduceToNat, Int.toNat_zero, wr]) | ((with_reducible refine ev_guard ?_); (with_reducible first | refine guard_t ?_ ?_ rfl | refine guard_f ?_ ?_ rfl) <;> (intro h; (try simp only [h]); (try simp only [nrm] at h) <;> (try ((with_reducible exfalso); omega)))) | ((with_reducible refine ck_split (fun h => ?_) (fun h => ?_)) <;> (try simp only [nrm] at h) <;> (try ((with_reducible exfalso); omega))) | ((with_reducible refine And.intro ?_ ?_); (first | omega | focus (simp; done) | focus (simp; omega) | focus ((repeat' (with_reducible refine And.intro ?_ ?_)) <;> first | omega | rfl | (simp only [go_sem, refsL_app, refs_dmap] <;> fail) | (simp [refsL_app, refs_dmap, AV.refsL, AV.refs] <;> omega)))) | ((with_reducible first | apply hK | (clear hK K; first | apply hK | (clear hK K; first | apply hK | (clear hK K; apply hK)))); clear hK K) | fail)
          refine aw_loopU [3, 6, 7, 16, 17, 18, 19, 20, 21, 22, 23, 24, 25, 26, 27, 28, 29, 30, 31, 32] [7, 25, 28] (fun a : Nat => [(6, .d (.int a))]) (fun _ => []) (fun a => a ≤ 3 ∧ ∀ a' : Nat, a' < a → ¬ (okGroup ((c : Int) + 1) ((k : Int) + 1) a' 1 = true ∧ bareText ((c : Int) + 1) ((k : Int) + 1) a' = b)) (fun a => 3 - a) 0 ⟨by omega, fun a' ha => by omega⟩ ?_ ?_
          · (refine lessW_of [] rfl ?_ <;> simp only [St.sws, St.sw, swS, swO, AV.sw, AV.swL, OB.sw, swp, St.upd, dropS, dropOs, Less, SubS, SubO, look, lookO, List.elem, List.cons_append, List.nil_append, cond_true, cond_false, and_true, true_and, beq_self_eq_true, ↓reduceIte, Nat.reduceEqDiff, Nat.reduceBEq, Nat.reduceAdd, Nat.reduceMul, Nat.reduceSub, Nat.reduceLT, Nat.reduceLeDiff] <;> try simp)
          · rintro a ⟨a1, a2⟩
            simp only [St.upd, dropS, dropOs, List.elem, List.cons_append, List.nil_append, cond_true, cond_false, beq_self_eq_true, ↓reduceIte, Nat.reduceEqDiff, Nat.reduceBEq, Nat.reduceAdd, Nat.reduceMul, Nat.reduceSub, Nat.reduceLT, Nat.reduceLeDiff]
            by_cases ha : a < 3
            · have e1 := l4Group_fn ((c : Int) + 1) ((k : Int) + 1) a 1
              have hnx : ¬ (okGroup ((c : Int) + 1) ((k : Int) + 1) a 1 = true ∧ bareText ((c : Int) + 1) ((k : Int) + 1) a = b) → ∀ a' : Nat, a' < a + 1 → ¬ (okGroup ((c : Int) + 1) ((k : Int) + 1) a' 1 = true ∧ bareText ((c : Int) + 1) ((k : Int) + 1) a' = b) := fun h a' ha' => by
                by_cases q : a' = a
                · subst q
                  exact h
                · exact a2 a' (by omega)
              cases g7 : okGroup ((c : Int) + 1) ((k : Int) + 1) a 1
              · rw [g7] at e1
                have hnx := hnx (by rw [g7]; simp)
                clear hnot hgot
                repeat' (first | (with_reducible first | refine aw_seq fun K hK => ?_ | refine aw_region (by kernel_rfl) ?_ | refine aw_condk ?_ | refine aw_block ?_) | ((with_reducible refine evg ?_); simp only [go_sem, ↓reduceIte, Nat.reduceEqDiff, Nat.reduceBEq, Nat.reduceAdd, Nat.reduceMul, Nat.reduceSub, Nat.reduceLT, Nat.reduceLeDiff]) | (simp (disch := omega) only [wr, drop_at, str_at, int_at, Int.reduceSub, Int.reduceAdd, Int.reduceToNat, Int.toNat_zero, wr]) | ((with_reducible refine ev_call ?_); (first | (refine call_fn e1 rfl ?_)); refine k_run ?_) | ((with_reducible refine ev_guard ?_); (with_reducible first | refine guard_t ?_ ?_ rfl | refine guard_f ?_ ?_ rfl) <;> (intro h; (try simp only [h]); (try simp only [nrm] at h) <;> (try ((with_reducible exfalso); omega)))) | ((with_reducible refine ck_split (fun h => ?_) (fun h => ?_)) <;> (try simp only [nrm] at h) <;> (try ((with_reducible exfalso); omega))) | ((with_reducible refine And.intro ?_ ?_); (first | omega | focus (simp; done) | focus (simp; omega) | focus ((repeat' (with_reducible refine And.intro ?_ ?_)) <;> first | omega | rfl | (simp only [go_sem, refsL_app, refs_dmap] <;> fail) | (simp [refsL_app, refs_dmap, AV.refsL, AV.refs] <;> omega)))) | ((with_reducible first | apply hK | (clear hK K; first | apply hK | (clear hK K; first | apply hK | (clear hK K; apply hK)))); clear hK K) | fail)
                all_goals first
                  | contradiction
                  | exact absurd trivial h
                  | skip
                all_goals
                  refine ⟨a + 1, ?_, ?_, by (refine lessW_of [] rfl ?_ <;> simp only [St.sws, St.sw, swS, swO, AV.sw, AV.swL, OB.sw, swp, St.upd, dropS, dropOs, Less, SubS, SubO, look, lookO, List.elem, List.cons_append, List.nil_append, cond_true, cond_false, and_true, true_and, beq_self_eq_true, ↓reduceIte, Nat.reduceEqDiff, Nat.reduceBEq, Nat.reduceAdd, Nat.reduceMul, Nat.reduceSub, Nat.reduceLT, Nat.reduceLeDiff] <;> try simp)⟩
                  · exact ⟨by omega, hnx⟩
                  · omega
              · rw [g7] at e1
                have e2 := l4Bare_fn _ _ _ _ g7
                by_cases hT : bareText ((c : Int) + 1) ((k : Int) + 1) a = b
                · have hR := hgot _ _ _ g7 hT
                  rw [hT] at e2
                  have hd : decide (b = b) = true := decide_eq_true rfl
                  clear hnot hgot
                  repeat' (first | (with_reducible first | refine aw_seq fun K hK => ?_ | refine aw_region (by kernel_rfl) ?_ | refine aw_condk ?_ | refine aw_block ?_) | ((with_reducible refine evg ?_); simp only [go_sem, ↓reduceIte, Nat.reduceEqDiff, Nat.reduceBEq, Nat.reduceAdd, Nat.reduceMul, Nat.reduceSub, Nat.reduceLT, Nat.reduceLeDiff]) | (simp (disch := omega) only [wr, drop_at, str_at, int_at, Int.reduceSub, Int.reduceAdd, Int.reduceToNat, Int.toNat_zero, hd, wr]) | ((with_reducible refine ev_call ?_); (first | (refine call_fn e1 rfl ?_) | (refine call_fn e2 rfl ?_)); refine k_run ?_) | ((with_reducible refine ev_guard ?_); (with_reducible first | refine guard_t ?_ ?_ rfl | refine guard_f ?_ ?_ rfl) <;> (intro h; (try simp only [h]); (try simp only [nrm] at h) <;> (try ((with_reducible exfalso); omega)))) | ((with_reducible refine ck_split (fun h => ?_) (fun h => ?_)) <;> (try simp only [nrm] at h) <;> (try ((with_reducible exfalso); omega))) | ((with_reducible refine And.intro ?_ ?_); (first | omega | focus (simp; done) | focus (simp; omega) | focus ((repeat' (with_reducible refine And.intro ?_ ?_)) <;> first | omega | rfl | (simp only [go_sem, refsL_app, refs_dmap] <;> fail) | (simp [refsL_app, refs_dmap, AV.refsL, AV.refs] <;> omega)))) | ((with_reducible first | apply hK | (clear hK K; first | apply hK | (clear hK K; first | apply hK | (clear hK K; apply hK)))); clear hK K) | fail)
                  all_goals first
                    | contradiction
                    | exact absurd trivial h
                    | skip
                  all_goals
                    (first | refine res_tmp rfl (by simp [D.plain, plains]) (by simp) ?_ | refine res_at rfl (by simp [D.plain, plains]) (by simp) ?_ | refine res_two rfl (by simp [D.plain, plains]) (by simp) ?_ | refine res_three rfl (by simp [D.plain, plains]) (by simp) ?_)
                    rw [hR]
                · have hnx := hnx (fun q => hT q.2)
                  have hd : decide (bareText ((c : Int) + 1) ((k : Int) + 1) a = b) = false := decide_eq_false hT
                  clear hnot hgot
                  generalize hTT : bareText ((c : Int) + 1) ((k : Int) + 1) a = T at e2 hd
                  repeat' (first | (with_reducible first | refine aw_seq fun K hK => ?_ | refine aw_region (by kernel_rfl) ?_ | refine aw_condk ?_ | refine aw_block ?_) | ((with_reducible refine evg ?_); simp only [go_sem, ↓reduceIte, Nat.reduceEqDiff, Nat.reduceBEq, Nat.reduceAdd, Nat.reduceMul, Nat.reduceSub, Nat.reduceLT, Nat.reduceLeDiff]) | (simp (disch := omega) only [wr, drop_at, str_at, int_at, Int.reduceSub, Int.reduceAdd, Int.reduceToNat, Int.toNat_zero, hd, wr]) | ((with_reducible refine ev_call ?_); (first | (refine call_fn e1 rfl ?_) | (refine call_fn e2 rfl ?_)); refine k_run ?_) | ((with_reducible refine ev_guard ?_); (with_reducible first | refine guard_t ?_ ?_ rfl | refine guard_f ?_ ?_ rfl) <;> (intro h; (try simp only [h]); (try simp only [nrm] at h) <;> (try ((with_reducible exfalso); omega)))) | ((with_reducible refine ck_split (fun h => ?_) (fun h => ?_)) <;> (try simp only [nrm] at h) <;> (try ((with_reducible exfalso); omega))) | ((with_reducible refine And.intro ?_ ?_); (first | omega | focus (simp; done) | focus (simp; omega) | focus ((repeat' (with_reducible refine And.intro ?_ ?_)) <;> first | omega | rfl | (simp only [go_sem, refsL_app, refs_dmap] <;> fail) | (simp [refsL_app, refs_dmap, AV.refsL, AV.refs] <;> omega)))) | ((with_reducible first | apply hK | (clear hK K; first | apply hK | (clear hK K; first | apply hK | (clear hK K; apply hK)))); clear hK K) | fail)
                  all_goals first
                    | contradiction
                    | exact absurd trivial h
                    | skip
                  all_goals
                    refine ⟨a + 1, ?_, ?_, by (refine lessW_of [] rfl ?_ <;> simp only [St.sws, St.sw, swS, swO, AV.sw, AV.swL, OB.sw, swp, St.upd, dropS, dropOs, Less, SubS, SubO, look, lookO, List.elem, List.cons_append, List.nil_append, cond_true, cond_false, and_true, true_and, beq_self_eq_true, ↓reduceIte, Nat.reduceEqDiff, Nat.reduceBEq, Nat.reduceAdd, Nat.reduceMul, Nat.reduceSub, Nat.reduceLT, Nat.reduceLeDiff] <;> try simp)⟩
                    · exact ⟨by omega, hnx⟩
                    · omega
            · have ha3 : a = 3 := by omega
              subst ha3
              repeat' (first | (with_reducible first | refine aw_seq fun K hK => ?_ | refine aw_region (by kernel_rfl) ?_ | refine aw_condk ?_ | refine aw_block ?_) | ((with_reducible refine evg ?_); simp only [go_sem, ↓reduceIte, Nat.reduceEqDiff, Nat.reduceBEq, Nat.reduceAdd, Nat.reduceMul, Nat.reduceSub, Nat.reduceLT, Nat.reduceLeDiff]) | (simp (disch := omega) only [wr, drop_at, str_at, int_at, Int.reduceSub, Int.reduceAdd, Int.reduceToNat, Int.toNat_zero, wr]) | ((with_reducible refine ev_guard ?_); (with_reducible first | refine guard_t ?_ ?_ rfl | refine guard_f ?_ ?_ rfl) <;> (intro h; (try simp only [h]); (try simp only [nrm] at h) <;> (try ((with_reducible exfalso); omega)))) | ((with_reducible refine ck_split (fun h => ?_) (fun h => ?_)) <;> (try simp only [nrm] at h) <;> (try ((with_reducible exfalso); omega))) | ((with_reducible refine And.intro ?_ ?_); (first | omega | focus (simp; done) | focus (simp; omega) | focus ((repeat' (with_reducible refine And.intro ?_ ?_)) <;> first | omega | rfl | (simp only [go_sem, refsL_app, refs_dmap] <;> fail) | (simp [refsL_app, refs_dmap, AV.refsL, AV.refs] <;> omega)))) | ((with_reducible first | apply hK | (clear hK K; first | apply hK | (clear hK K; first | apply hK | (clear hK K; apply hK)))); clear hK K) | fail)
              refine ⟨k + 1, ?_, ?_, by (refine lessW_of [] rfl ?_ <;> simp only [St.sws, St.sw, swS, swO, AV.sw, AV.swL, OB.sw, swp, St.upd, dropS, dropOs, Less, SubS, SubO, look, lookO, List.elem, List.cons_append, List.nil_append, cond_true, cond_false, and_true, true_and, beq_self_eq_true, ↓reduceIte, Nat.reduceEqDiff, Nat.reduceBEq, Nat.reduceAdd, Nat.reduceMul, Nat.reduceSub, Nat.reduceLT, Nat.reduceLeDiff] <;> try simp)⟩
              · refine ⟨by omega, fun k' a hk' ha => ?_⟩
                by_cases q : k' = k
                · subst q
                  exact a2 a ha
                · exact k2 k' a (by omega) ha
              · omega
        · have hk8 : k = 8 := by omega
          subst hk8
          repeat' (first | (with_reducible first | refine aw_seq fun K hK => ?_ | refine aw_region (by kernel_rfl) ?_ | refine aw_condk ?_ | refine aw_block ?_) | ((with_reducible refine evg ?_); simp only [go_sem, ↓reduceIte, Nat.reduceEqDiff, Nat.reduceBEq, Nat.reduceAdd, Nat.reduceMul, Nat.reduceSub, Nat.reduceLT, Nat.reduceLeDiff]) | (simp (disch := omega) only [wr, drop_at, str_at, int_at, Int.reduceSub, Int.reduceAdd, Int.reduceToNat, Int.toNat_zero, wr]) | ((with_reducible refine ev_guard ?_); (with_reducible first | refine guard_t ?_ ?_ rfl | refine guard_f ?_ ?_ rfl) <;> (intro h; (try simp only [h]); (try simp only [nrm] at h) <;> (try ((with_reducible exfalso); omega)))) | ((with_reducible refine ck_split (fun h => ?_) (fun h => ?_)) <;> (try simp only [nrm] at h) <;> (try ((with_reducible exfalso); omega))) | ((with_reducible refine And.intro ?_ ?_); (first | omega | focus (simp; done) | focus (simp; omega) | focus ((repeat' (with_reducible refine And.intro ?_ ?_)) <;> first | omega | rfl | (simp only [go_sem, refsL_app, refs_dmap] <;> fail) | (simp [refsL_app, refs_dmap, AV.refsL, AV.refs] <;> omega)))) | ((with_reducible first | apply hK | (clear hK K; first | apply hK | (clear hK K; first | apply hK | (clear hK K; apply hK)))); clear hK K) | fail)
          refine ⟨c + 1, ?_, ?_, by (refine lessW_of [] rfl ?_ <;> simp only [St.sws, St.sw, swS, swO, AV.sw, AV.swL, OB.sw, swp, St.upd, dropS, dropOs, Less, SubS, SubO, look, lookO, List.elem, List.cons_append, List.nil_append, cond_true, cond_false, and_true, true_and, beq_self_eq_true, ↓reduceIte, Nat.reduceEqDiff, Nat.reduceBEq, Nat.reduceAdd, Nat.reduceMul, Nat.reduceSub, Nat.reduceLT, Nat.reduceLeDiff] <;> try simp)⟩
          · refine ⟨by omega, fun c' k a hc' hk ha => ?_⟩
            by_cases q : c' = c
            · subst q
              exact k2 k a hk ha
            · exact c2 c' k a (by omega) hk ha
          · omega
    · have hc6 : c = 6 := by omega
      subst hc6
      have hR := hnot c2
      clear hnot hgot
      repeat' (first | (with_reducible first | refine aw_seq fun K hK => ?_ | refine aw_region (by kernel_rfl) ?_ | refine aw_condk ?_ | refine aw_block ?_) | ((with_reducible refine evg ?_); simp only [go_sem, ↓reduceIte, Nat.reduceEqDiff, Nat.reduceBEq, Nat.reduceAdd, Nat.reduceMul, Nat.reduceSub, Nat.reduceLT, Nat.reduceLeDiff]) | (simp (disch := omega) only [wr, drop_at, str_at, int_at, Int.reduceSub, Int.reduceAdd, Int.reduceToNat, Int.toNat_zero, wr]) | ((with_reducible refine ev_guard ?_); (with_reducible first | refine guard_t ?_ ?_ rfl | refine guard_f ?_ ?_ rfl) <;> (intro h; (try simp only [h]); (try simp only [nrm] at h) <;> (try ((with_reducible exfalso); omega)))) | ((with_reducible refine ck_split (fun h => ?_) (fun h => ?_)) <;> (try simp only [nrm] at h) <;> (try ((with_reducible exfalso); omega))) | ((with_reducible refine And.intro ?_ ?_); (first | omega | focus (simp; done) | focus (simp; omega) | focus ((repeat' (with_reducible refine And.intro ?_ ?_)) <;> first | omega | rfl | (simp only [go_sem, refsL_app, refs_dmap] <;> fail) | (simp [refsL_app, refs_dmap, AV.refsL, AV.refs] <;> omega)))) | ((with_reducible first | apply hK | (clear hK K; first | apply hK | (clear hK K; first | apply hK | (clear hK K; apply hK)))); clear hK K) | fail)
      (first | refine res_tmp rfl (by simp [D.plain, plains]) (by simp) ?_ | refine res_at rfl (by simp [D.plain, plains]) (by simp) ?_ | refine res_two rfl (by simp [D.plain, plains]) (by simp) ?_ | refine res_three rfl (by simp [D.plain, plains]) (by simp) ?_)
      rw [hR]

set_option maxRecDepth 100000 in
set_option maxHeartbeats 4000000 in
theorem specGp_fn (s : ByteArray) (hs : s.size ≤ 1048576) : FnD Tryd.prog 4 [.str s] (gpR s) := by
  have e1 := l4Last_fn s hs
  have e2 := l4Unbare_fn (bareS s)
  have e3 := l2Parse_fn (wordS s)
  have b3 := idxB_in (wordS s) tincWords
  have h9 : tincWords.length = 9 := rfl
  have hin : FnD Tryd.prog 7 [.str s] (gpR s) := by
    have hsp := gpV_spec s
    have hR : gpR s = .tu [gp4 (gpV s).1, .bool (gpV s).2] := rfl
    rw [ubD, gp4] at e2
    generalize gpV s = Z at *
    rw [hR]
    clear hR
    obtain ⟨⟨⟨c, k, a, t⟩, ok⟩, hu⟩ : ∃ u, unV (bareS s) = u := ⟨_, rfl⟩
    rw [hu] at e2 hsp
    simp only at e2 hsp
    clear hu
    generalize idxB (wordS s) tincWords = v at *
    generalize bareS s = B at *
    generalize wordS s = W at *
    cases ok
    · rw [if_neg (by simp)] at hsp
      subst hsp
      refine fn_go Tryd.func7 rfl rfl Tryd.ntmps7 Tryd.results7 (by simp only [slotsOf, argAV, List.map_cons, List.map_nil, Nat.reduceAdd]; rfl) (by simp) ?_
      repeat' (first | (with_reducible first | refine aw_seq fun K hK => ?_ | refine aw_region (by kernel_rfl) ?_ | refine aw_condk ?_ | refine aw_block ?_) | ((with_reducible refine evg ?_); simp only [go_sem, ↓reduceIte, Nat.reduceEqDiff, Nat.reduceBEq, Nat.reduceAdd, Nat.reduceMul, Nat.reduceSub, Nat.reduceLT, Nat.reduceLeDiff]) | (simp (disch := omega) only [wr, drop_at, str_at, int_at, Int.reduceSub, Int.reduceAdd, Int.reduceToNat, Int.toNat_zero, wr]) | ((with_reducible refine ev_call ?_); (first | (refine call_fn e1 rfl ?_) | (refine call_fn e2 rfl ?_) | (refine call_fn e3 rfl ?_)); refine k_run ?_) | ((with_reducible refine ev_guard ?_); (with_reducible first | refine guard_t ?_ ?_ rfl | refine guard_f ?_ ?_ rfl) <;> (intro h; (try simp only [h]); (try simp only [nrm] at h) <;> (try ((with_reducible exfalso); omega)))) | ((with_reducible refine ck_split (fun h => ?_) (fun h => ?_)) <;> (try simp only [nrm] at h) <;> (try ((with_reducible exfalso); omega))) | ((with_reducible refine And.intro ?_ ?_); (first | omega | focus (simp; done) | focus (simp; omega) | focus ((repeat' (with_reducible refine And.intro ?_ ?_)) <;> first | omega | rfl | (simp only [go_sem, refsL_app, refs_dmap] <;> fail) | (simp [refsL_app, refs_dmap, AV.refsL, AV.refs] <;> omega)))) | ((with_reducible first | apply hK | (clear hK K; first | apply hK | (clear hK K; first | apply hK | (clear hK K; apply hK)))); clear hK K) | fail)
      all_goals first
        | contradiction
        | exact absurd trivial h
        | skip
      all_goals (first | refine res_tmp rfl (by simp [D.plain, plains]) (by simp) ?_ | refine res_at rfl (by simp [D.plain, plains]) (by simp) ?_ | refine res_two rfl (by simp [D.plain, plains]) (by simp) ?_ | refine res_three rfl (by simp [D.plain, plains]) (by simp) ?_ | skip)
      all_goals rfl
    · by_cases hv : 0 ≤ v
      · rw [if_pos ⟨rfl, hv⟩] at hsp
        subst hsp
        have hd : (v + 1 == 0) = false := by rw [beq_eq_false_iff_ne]; omega
        refine fn_go Tryd.func7 rfl rfl Tryd.ntmps7 Tryd.results7 (by simp only [slotsOf, argAV, List.map_cons, List.map_nil, Nat.reduceAdd]; rfl) (by simp) ?_
        repeat' (first | (with_reducible first | refine aw_seq fun K hK => ?_ | refine aw_region (by kernel_rfl) ?_ | refine aw_condk ?_ | refine aw_block ?_) | ((with_reducible refine evg ?_); simp only [go_sem, ↓reduceIte, Nat.reduceEqDiff, Nat.reduceBEq, Nat.reduceAdd, Nat.reduceMul, Nat.reduceSub, Nat.reduceLT, Nat.reduceLeDiff]) | (simp (disch := omega) only [wr, drop_at, str_at, int_at, Int.reduceSub, Int.reduceAdd, Int.reduceToNat, Int.toNat_zero, hd, wr]) | ((with_reducible refine ev_call ?_); (first | (refine call_fn e1 rfl ?_) | (refine call_fn e2 rfl ?_) | (refine call_fn e3 rfl ?_)); refine k_run ?_) | ((with_reducible refine ev_guard ?_); (with_reducible first | refine guard_t ?_ ?_ rfl | refine guard_f ?_ ?_ rfl) <;> (intro h; (try simp only [h]); (try simp only [nrm] at h) <;> (try ((with_reducible exfalso); omega)))) | ((with_reducible refine ck_split (fun h => ?_) (fun h => ?_)) <;> (try simp only [nrm] at h) <;> (try ((with_reducible exfalso); omega))) | ((with_reducible refine And.intro ?_ ?_); (first | omega | focus (simp; done) | focus (simp; omega) | focus ((repeat' (with_reducible refine And.intro ?_ ?_)) <;> first | omega | rfl | (simp only [go_sem, refsL_app, refs_dmap] <;> fail) | (simp [refsL_app, refs_dmap, AV.refsL, AV.refs] <;> omega)))) | ((with_reducible first | apply hK | (clear hK K; first | apply hK | (clear hK K; first | apply hK | (clear hK K; apply hK)))); clear hK K) | fail)
        all_goals first
          | contradiction
          | exact absurd trivial h
          | skip
        all_goals (first | refine res_tmp rfl (by simp [D.plain, plains]) (by simp) ?_ | refine res_at rfl (by simp [D.plain, plains]) (by simp) ?_ | refine res_two rfl (by simp [D.plain, plains]) (by simp) ?_ | refine res_three rfl (by simp [D.plain, plains]) (by simp) ?_ | skip)
        all_goals rfl
      · rw [if_neg (by omega)] at hsp
        subst hsp
        have hv1 : v = -1 := by omega
        subst hv1
        refine fn_go Tryd.func7 rfl rfl Tryd.ntmps7 Tryd.results7 (by simp only [slotsOf, argAV, List.map_cons, List.map_nil, Nat.reduceAdd]; rfl) (by simp) ?_
        repeat' (first | (with_reducible first | refine aw_seq fun K hK => ?_ | refine aw_region (by kernel_rfl) ?_ | refine aw_condk ?_ | refine aw_block ?_) | ((with_reducible refine evg ?_); simp only [go_sem, ↓reduceIte, Nat.reduceEqDiff, Nat.reduceBEq, Nat.reduceAdd, Nat.reduceMul, Nat.reduceSub, Nat.reduceLT, Nat.reduceLeDiff]) | (simp (disch := omega) only [wr, drop_at, str_at, int_at, Int.reduceSub, Int.reduceAdd, Int.reduceToNat, Int.toNat_zero, wr]) | ((with_reducible refine ev_call ?_); (first | (refine call_fn e1 rfl ?_) | (refine call_fn e2 rfl ?_) | (refine call_fn e3 rfl ?_)); refine k_run ?_) | ((with_reducible refine ev_guard ?_); (with_reducible first | refine guard_t ?_ ?_ rfl | refine guard_f ?_ ?_ rfl) <;> (intro h; (try simp only [h]); (try simp only [nrm] at h) <;> (try ((with_reducible exfalso); omega)))) | ((with_reducible refine ck_split (fun h => ?_) (fun h => ?_)) <;> (try simp only [nrm] at h) <;> (try ((with_reducible exfalso); omega))) | ((with_reducible refine And.intro ?_ ?_); (first | omega | focus (simp; done) | focus (simp; omega) | focus ((repeat' (with_reducible refine And.intro ?_ ?_)) <;> first | omega | rfl | (simp only [go_sem, refsL_app, refs_dmap] <;> fail) | (simp [refsL_app, refs_dmap, AV.refsL, AV.refs] <;> omega)))) | ((with_reducible first | apply hK | (clear hK K; first | apply hK | (clear hK K; first | apply hK | (clear hK K; apply hK)))); clear hK K) | fail)
        all_goals first
          | contradiction
          | exact absurd trivial h
          | exact absurd h (by decide)
          | skip
        all_goals (first | refine res_tmp rfl (by simp [D.plain, plains]) (by simp) ?_ | refine res_at rfl (by simp [D.plain, plains]) (by simp) ?_ | refine res_two rfl (by simp [D.plain, plains]) (by simp) ?_ | refine res_three rfl (by simp [D.plain, plains]) (by simp) ?_ | skip)
        all_goals rfl
  rw [gpR] at hin ⊢
  generalize (gpV s).1.1 = x1 at *
  generalize (gpV s).1.2.1 = x2 at *
  generalize (gpV s).1.2.2.1 = x3 at *
  generalize (gpV s).1.2.2.2 = x4 at *
  generalize (gpV s).2 = ok at *
  refine fn_go Tryd.func4 rfl rfl Tryd.ntmps4 Tryd.results4 (by simp only [slotsOf, argAV, List.map_cons, List.map_nil, Nat.reduceAdd]; rfl) (by simp) ?_
  repeat' (first | (with_reducible first | refine aw_seq fun K hK => ?_ | refine aw_region (by kernel_rfl) ?_ | refine aw_condk ?_ | refine aw_block ?_) | ((with_reducible refine evg ?_); simp only [go_sem, ↓reduceIte, Nat.reduceEqDiff, Nat.reduceBEq, Nat.reduceAdd, Nat.reduceMul, Nat.reduceSub, Nat.reduceLT, Nat.reduceLeDiff]) | ((with_reducible refine ev_call ?_); (first | (refine call_fn hin rfl ?_)); refine k_run ?_) | ((with_reducible refine ev_guard ?_); (with_reducible first | refine guard_t ?_ ?_ rfl | refine guard_f ?_ ?_ rfl) <;> (intro h; (try simp only [h]); (try simp only [nrm] at h))) | ((with_reducible refine ck_split (fun h => ?_) (fun h => ?_)) <;> (try simp only [nrm] at h)) | ((with_reducible refine And.intro ?_ ?_); (first | omega | focus (simp; done) | focus (simp; omega) | focus ((repeat' (with_reducible refine And.intro ?_ ?_)) <;> first | omega | rfl | (simp only [go_sem, refsL_app, refs_dmap] <;> fail) | (simp [refsL_app, refs_dmap, AV.refsL, AV.refs] <;> omega)))) | ((with_reducible first | apply hK | (clear hK K; first | apply hK | (clear hK K; first | apply hK | (clear hK K; apply hK)))); clear hK K) | (simp (disch := omega) only [wr, drop_at, str_at, int_at, Int.reduceSub, Int.reduceAdd, Int.reduceToNat, Int.toNat_zero]) | fail)
  (first | refine res_tmp rfl (by simp [D.plain, plains]) (by simp) ?_ | refine res_at rfl (by simp [D.plain, plains]) (by simp) ?_ | refine res_two rfl (by simp [D.plain, plains]) (by simp) ?_ | refine res_three rfl (by simp [D.plain, plains]) (by simp) ?_)
  rfl

set_option maxRecDepth 100000 in
set_option maxHeartbeats 4000000 in
theorem eqGroup_fn (d l f s : Int) : FnD Tryd.prog 6 [.ag [.int d, .int l, .int f, .int s], .ag [.int d, .int l, .int f, .int s]] (.bool true) := by
  refine fn_go Tryd.func6 rfl rfl Tryd.ntmps6 Tryd.results6 (by simp only [slotsOf, argAV, List.map_cons, List.map_nil, Nat.reduceAdd]; rfl) (by simp) ?_
  repeat' (first | (with_reducible first | refine aw_seq fun K hK => ?_ | refine aw_region (by kernel_rfl) ?_ | refine aw_condk ?_ | refine aw_block ?_) | ((with_reducible first | refine evg ?_ | refine ev_guard ?_); simp only [go_sem, ↓reduceIte, Nat.reduceEqDiff, Nat.reduceBEq, Nat.reduceAdd, Nat.reduceMul, Nat.reduceSub, Nat.reduceLT, Nat.reduceLeDiff]) | (simp (disch := omega) only [wr, drop_at, str_at, int_at, Int.reduceSub, Int.reduceAdd, Int.reduceToNat, Int.toNat_zero, bne_self_eq_false]) | ((with_reducible refine ev_guard ?_); (with_reducible first | refine guard_t ?_ ?_ rfl | refine guard_f ?_ ?_ rfl) <;> (intro h; (try simp only [h]); (try simp only [nrm] at h) <;> (try ((with_reducible exfalso); omega)))) | ((with_reducible refine ck_split (fun h => ?_) (fun h => ?_)) <;> (try simp only [nrm] at h) <;> (try ((with_reducible exfalso); omega))) | ((with_reducible refine And.intro ?_ ?_); (first | omega | focus (simp; done) | focus (simp; omega) | focus ((repeat' (with_reducible refine And.intro ?_ ?_)) <;> first | omega | rfl | (simp only [go_sem, refsL_app, refs_dmap] <;> fail) | (simp [refsL_app, refs_dmap, AV.refsL, AV.refs] <;> omega)))) | ((with_reducible first | apply hK | (clear hK K; first | apply hK | (clear hK K; first | apply hK | (clear hK K; apply hK)))); clear hK K) | fail)
  all_goals first
    | exact absurd rfl h
    | skip
  all_goals (first | refine res_tmp rfl (by simp [D.plain, plains]) (by simp) ?_ | refine res_at rfl (by simp [D.plain, plains]) (by simp) ?_ | refine res_two rfl (by simp [D.plain, plains]) (by simp) ?_ | refine res_three rfl (by simp [D.plain, plains]) (by simp) ?_ | skip)
  all_goals rfl

set_option maxRecDepth 100000 in
set_option maxHeartbeats 4000000 in
theorem fnExactParseGroup_fn (s : ByteArray) : FnD Tryd.prog 3 [.str s] (.bool true) := by
  by_cases g : 1048576 < s.size
  · refine fn_go Tryd.func3 rfl rfl Tryd.ntmps3 Tryd.results3 (by simp only [slotsOf, argAV, List.map_cons, List.map_nil, Nat.reduceAdd]; rfl) (by simp) ?_
    repeat' (first | (with_reducible first | refine aw_seq fun K hK => ?_ | refine aw_region (by kernel_rfl) ?_ | refine aw_condk ?_ | refine aw_block ?_) | ((with_reducible refine evg ?_); simp only [go_sem, ↓reduceIte, Nat.reduceEqDiff, Nat.reduceBEq, Nat.reduceAdd, Nat.reduceMul, Nat.reduceSub, Nat.reduceLT, Nat.reduceLeDiff]) | (simp (disch := omega) only [wr, drop_at, str_at, int_at, Int.reduceSub, Int.reduceAdd, Int.reduceToNat, Int.toNat_zero, wr]) | ((with_reducible refine ev_guard ?_); (with_reducible first | refine guard_t ?_ ?_ rfl | refine guard_f ?_ ?_ rfl) <;> (intro h; (try simp only [h]); (try simp only [nrm] at h) <;> (try ((with_reducible exfalso); omega)))) | ((with_reducible refine ck_split (fun h => ?_) (fun h => ?_)) <;> (try simp only [nrm] at h) <;> (try ((with_reducible exfalso); omega))) | ((with_reducible refine And.intro ?_ ?_); (first | omega | focus (simp; done) | focus (simp; omega) | focus ((repeat' (with_reducible refine And.intro ?_ ?_)) <;> first | omega | rfl | (simp only [go_sem, refsL_app, refs_dmap] <;> fail) | (simp [refsL_app, refs_dmap, AV.refsL, AV.refs] <;> omega)))) | ((with_reducible first | apply hK | (clear hK K; first | apply hK | (clear hK K; first | apply hK | (clear hK K; apply hK)))); clear hK K) | fail)
    all_goals first
      | exact absurd (by omega) h
      | skip
    (first | refine res_tmp rfl (by simp [D.plain, plains]) (by simp) ?_ | refine res_at rfl (by simp [D.plain, plains]) (by simp) ?_ | refine res_two rfl (by simp [D.plain, plains]) (by simp) ?_ | refine res_three rfl (by simp [D.plain, plains]) (by simp) ?_)
    rfl
  · have h1 := specGp_fn s (by omega)
    have h2 := implGp_fn s (by omega)
    rw [gpR] at h1 h2
    generalize (gpV s).1.1 = x1 at *
    generalize (gpV s).1.2.1 = x2 at *
    generalize (gpV s).1.2.2.1 = x3 at *
    generalize (gpV s).1.2.2.2 = x4 at *
    generalize (gpV s).2 = ok at *
    have h3 := eqGroup_fn x1 x2 x3 x4
    refine fn_go Tryd.func3 rfl rfl Tryd.ntmps3 Tryd.results3 (by simp only [slotsOf, argAV, List.map_cons, List.map_nil, Nat.reduceAdd]; rfl) (by simp) ?_
    repeat' (first | (with_reducible first | refine aw_seq fun K hK => ?_ | refine aw_region (by kernel_rfl) ?_ | refine aw_condk ?_ | refine aw_block ?_) | ((with_reducible first | refine evg ?_ | refine ev_guard ?_); simp only [go_sem, ↓reduceIte, Nat.reduceEqDiff, Nat.reduceBEq, Nat.reduceAdd, Nat.reduceMul, Nat.reduceSub, Nat.reduceLT, Nat.reduceLeDiff]) | (simp (disch := omega) only [wr, drop_at, str_at, int_at, Int.reduceSub, Int.reduceAdd, Int.reduceToNat, Int.toNat_zero, bne_self_eq_false, wr]) | ((with_reducible refine ev_call ?_); (first | (refine call_fn h1 rfl ?_) | (refine call_fn h2 rfl ?_) | (refine call_fn h3 rfl ?_)); refine k_run ?_) | ((with_reducible refine ev_guard ?_); (with_reducible first | refine guard_t ?_ ?_ rfl | refine guard_f ?_ ?_ rfl) <;> (intro h; (try simp only [h]); (try simp only [nrm] at h) <;> (try ((with_reducible exfalso); omega)))) | ((with_reducible refine ck_split (fun h => ?_) (fun h => ?_)) <;> (try simp only [nrm] at h) <;> (try ((with_reducible exfalso); omega))) | ((with_reducible refine And.intro ?_ ?_); (first | omega | focus (simp; done) | focus (simp; omega) | focus ((repeat' (with_reducible refine And.intro ?_ ?_)) <;> first | omega | rfl | (simp only [go_sem, refsL_app, refs_dmap] <;> fail) | (simp [refsL_app, refs_dmap, AV.refsL, AV.refs] <;> omega)))) | ((with_reducible first | apply hK | (clear hK K; first | apply hK | (clear hK K; first | apply hK | (clear hK K; apply hK)))); clear hK K) | fail)
    all_goals first
      | exact absurd trivial h
      | exact absurd (by omega) h
      | skip
    all_goals (first | refine res_tmp rfl (by simp [D.plain, plains]) (by simp) ?_ | refine res_at rfl (by simp [D.plain, plains]) (by simp) ?_ | refine res_two rfl (by simp [D.plain, plains]) (by simp) ?_ | refine res_three rfl (by simp [D.plain, plains]) (by simp) ?_ | skip)
    all_goals rfl

end Go.Proofs.YteimddagjikcaaaDoor
