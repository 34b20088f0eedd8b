/- A drawn clan: the walk. -/
import Derived.Test.YtdeobicgildamaaGreatDoorDrC
import Derived.Test.YtdeobicgildamaaGreatDoorDrG2
import Derived.Test.YtdeobicgildamaaGreatDoorDrP
import Derived.Test.YtdeobicgildamaaGreatDoorFlowS
import Derived.WalkKit
import Derived.WalkSpells
import Derived.KernelRfl
namespace Go.Proofs.YtdeobicgildamaaGreatDoor
open Go.RowKit
set_option linter.unusedVariables false
set_option linter.unusedSimpArgs false

attribute [local go_sem] PerV.d PerV.cs perL famD curO codL perO

attribute [local simp] refs_dmap perC_all perC_plains ints_plain ints_all ints_all1 ints_plain_take curO codL perO

set_option maxRecDepth 100000 in
set_option maxHeartbeats 4000000 in
theorem year_hi (bs : List Int) (c : CurV) (hb : okCod bs) (h0 : okCur 100000 c) : FnS Tryz.prog 30 [(5000, curO bs c)] [.bp 5000 0] [(5000, curO bs (y19C bs c))] (.d (.int (y19V bs c))) := by
  have q1 := okCur_pick (bs := bs) (n := 16) h0
  have e1 := one_at 5000 bs 16 c hb (okCur_mono h0 (by omega))
  have e2 := pick_at 5000 bs 20 (pickC bs 16 c) hb (okCur_mono q1 (by omega))
  have p1 := pickV_le hb (n := 20) q1.1
  have p2 := p1.2 (by decide)
  unfold y19V y19C
  cases ho : oneV bs 16 c
  · rw [ho] at e1
    simp only [Bool.false_eq_true, if_false]
    generalize pickV bs 20 (pickC bs 16 c) = v at *
    generalize pickC bs 20 (pickC bs 16 c) = c2 at *
    generalize pickC bs 16 c = c1 at *
    refine fns_go Tryz.func30 rfl rfl Tryz.ntmps30 Tryz.results30 (by simp only [slotsA, Nat.reduceAdd]; rfl) (by simp) rfl ?_
    repeat' (first | (with_reducible first | refine aw_seq fun K hK => ?_ | refine aw_region (by kernel_rfl) ?_ | refine aw_condk ?_ | refine aw_block ?_) | ((with_reducible refine evg ?_); simp only [go_sem, ↓reduceIte, Nat.reduceEqDiff, Nat.reduceBEq, Nat.reduceAdd, Nat.reduceMul, Nat.reduceSub, Nat.reduceLT, Nat.reduceLeDiff]) | (simp (disch := omega) only [wr, drop_at, str_at, int_at, Int.reduceSub, Int.reduceAdd, Int.reduceToNat, Int.toNat_zero, wr]) | ((with_reducible refine ev_call ?_); (first | (refine call_s e1 ?_ ?_ ?_ ?_ ?_; (focus rfl); (focus first | exact trivial | exact And.intro rfl trivial | exact ⟨rfl, rfl, trivial⟩ | exact ⟨rfl, rfl, rfl, trivial⟩); (focus rfl); (focus (simp [-List.map_map, apartO, dropO, killN, obCells, refs_dmap, nofnsD, AV.refs, AV.refsL, AV.nofn, AV.nofns] <;> fail))) | (refine call_s e2 ?_ ?_ ?_ ?_ ?_; (focus rfl); (focus first | exact trivial | exact And.intro rfl trivial | exact ⟨rfl, rfl, trivial⟩ | exact ⟨rfl, rfl, rfl, trivial⟩); (focus rfl); (focus (simp [-List.map_map, apartO, dropO, killN, obCells, refs_dmap, nofnsD, AV.refs, AV.refsL, AV.nofn, AV.nofns] <;> fail)))); refine k_run ?_) | ((with_reducible refine ev_guard ?_); (with_reducible first | refine guard_t ?_ ?_ rfl | refine guard_f ?_ ?_ rfl) <;> (intro h; (try simp only [h]); (try simp only [nrm] at h) <;> (try ((with_reducible exfalso); omega)))) | ((with_reducible refine ck_split (fun h => ?_) (fun h => ?_)) <;> (try simp only [nrm] at h) <;> (try ((with_reducible exfalso); omega))) | ((with_reducible refine And.intro ?_ ?_); (first | omega | focus (simp; done) | focus (simp; omega) | focus ((repeat' (with_reducible refine And.intro ?_ ?_)) <;> first | omega | rfl | (simp only [go_sem, refsL_app, refs_dmap] <;> fail) | (simp [refsL_app, refs_dmap, AV.refsL, AV.refs] <;> omega)))) | ((with_reducible first | apply hK | (clear hK K; first | apply hK | (clear hK K; first | apply hK | (clear hK K; apply hK)))); clear hK K) | fail)
    all_goals exact ress_tmp (by simp [lensO, lookO, obCells]) ⟨rfl, trivial⟩ rfl
  · rw [ho] at e1
    simp only [if_true]
    have e3 := among_at 5000 6 bs [0, 3000, 1, 2999, -1] 5 (pickC bs 16 c) hb (okCur_mono q1 (by omega)) (by decide) (by decide) (by decide) (by decide) (by decide) (by decide)
    generalize amV bs [0, 3000, 1, 2999, -1] 5 (pickC bs 16 c) = v at *
    generalize pickC bs 5 (pickC bs 16 c) = c2 at *
    generalize pickC bs 16 c = c1 at *
    refine fns_go Tryz.func30 rfl rfl Tryz.ntmps30 Tryz.results30 (by simp only [slotsA, Nat.reduceAdd]; rfl) (by simp) rfl ?_
    repeat' (first | (with_reducible first | refine aw_seq fun K hK => ?_ | refine aw_region (by kernel_rfl) ?_ | refine aw_condk ?_ | refine aw_block ?_) | ((with_reducible refine evg ?_); simp only [go_sem, ↓reduceIte, Nat.reduceEqDiff, Nat.reduceBEq, Nat.reduceAdd, Nat.reduceMul, Nat.reduceSub, Nat.reduceLT, Nat.reduceLeDiff]) | (simp (disch := omega) only [wr, drop_at, str_at, int_at, Int.reduceSub, Int.reduceAdd, Int.reduceToNat, Int.toNat_zero, wr]) | ((with_reducible refine ev_call ?_); (first | (refine call_s e1 ?_ ?_ ?_ ?_ ?_; (focus rfl); (focus first | exact trivial | exact And.intro rfl trivial | exact ⟨rfl, rfl, trivial⟩ | exact ⟨rfl, rfl, rfl, trivial⟩); (focus rfl); (focus (simp [-List.map_map, apartO, dropO, killN, obCells, refs_dmap, nofnsD, AV.refs, AV.refsL, AV.nofn, AV.nofns] <;> fail))) | (refine call_s e3 ?_ ?_ ?_ ?_ ?_; (focus rfl); (focus first | exact trivial | exact And.intro rfl trivial | exact ⟨rfl, rfl, trivial⟩ | exact ⟨rfl, rfl, rfl, trivial⟩); (focus rfl); (focus (simp [-List.map_map, apartO, dropO, killN, obCells, refs_dmap, nofnsD, AV.refs, AV.refsL, AV.nofn, AV.nofns] <;> fail)))); refine k_run ?_) | ((with_reducible refine ev_guard ?_); (with_reducible first | refine guard_t ?_ ?_ rfl | refine guard_f ?_ ?_ rfl) <;> (intro h; (try simp only [h]); (try simp only [nrm] at h) <;> (try ((with_reducible exfalso); omega)))) | ((with_reducible refine ck_split (fun h => ?_) (fun h => ?_)) <;> (try simp only [nrm] at h) <;> (try ((with_reducible exfalso); omega))) | ((with_reducible refine And.intro ?_ ?_); (first | omega | focus (simp; done) | focus (simp; omega) | focus ((repeat' (with_reducible refine And.intro ?_ ?_)) <;> first | omega | rfl | (simp only [go_sem, refsL_app, refs_dmap] <;> fail) | (simp [refsL_app, refs_dmap, AV.refsL, AV.refs] <;> omega)))) | ((with_reducible first | apply hK | (clear hK K; first | apply hK | (clear hK K; first | apply hK | (clear hK K; apply hK)))); clear hK K) | fail)
    all_goals exact ress_tmp (by simp [lensO, lookO, obCells]) ⟨rfl, trivial⟩ rfl

theorem any_hi (t : Nat) (bs : List Int) (c : CurV) (hb : okCod bs) (h0 : okCur 50000 c) (ht : t < 5000) : FnS Tryz.prog 46 [(5000, curO bs c)] [.bp 5000 0] [(5000, curO bs (anyZ bs c).c), (t, .ds (perC (anyZ bs c).l))] (.ag [.bs t 0 (anyZ bs c).l.length 5]) := by
  have h := (any_fn bs c hb h0).sw 5001 t
  have e2 : swp 5001 t 5000 = 5000 := by
    have h1 : 5000 ≠ t := by omega
    simp [swp, h1]
  simpa only [curO, swO, AV.swL, AV.sw, OB.sw, sw_self, e2] using h

theorem perC_snoc2 (l : List PerV) (p : PerV) : (perC l).take (l.length * 5) ++ [.int p.id, .int p.born, .int p.died, .int p.one, .int p.two] = perC (l ++ [p]) := by
  rw [perC_all, perC, perC, recC_app]
  rfl

set_option maxRecDepth 100000 in
theorem pl_DrC2_28_7U (l : List Oper) (h : l = opsOf Tryz.f28 7) : planUB l (.pure 4 (.calc 0 (.three true 1 (.three true 2 (.calc 3 (.two false 5 (.calc 6 (.two true 7 (.one true 8 (.one false 9 PU.fin)) true 8 (.one true 7 (.one false 9 PU.fin)))) true 8 (.one false 5 (.calc 6 (.one true 7 (.one false 9 PU.fin)))))) false 5 (.calc 6 (.two true 2 (.calc 3 (.two true 7 (.one true 8 (.one false 9 PU.fin)) true 8 (.one true 7 (.one false 9 PU.fin)))) true 8 (.one true 2 (.calc 3 (.one true 7 (.one false 9 PU.fin)))))) true 8 (.two true 2 (.calc 3 (.one false 5 (.calc 6 (.one true 7 (.one false 9 PU.fin))))) false 5 (.calc 6 (.one true 2 (.calc 3 (.one true 7 (.one false 9 PU.fin))))))) false 5 (.calc 6 (.two true 1 (.two true 2 (.calc 3 (.two true 7 (.one true 8 (.one false 9 PU.fin)) true 8 (.one true 7 (.one false 9 PU.fin)))) true 8 (.one true 2 (.calc 3 (.one true 7 (.one false 9 PU.fin))))) true 8 (.one true 1 (.one true 2 (.calc 3 (.one true 7 (.one false 9 PU.fin))))))) true 8 (.two true 1 (.two true 2 (.calc 3 (.one false 5 (.calc 6 (.one true 7 (.one false 9 PU.fin))))) false 5 (.calc 6 (.one true 2 (.calc 3 (.one true 7 (.one false 9 PU.fin)))))) false 5 (.calc 6 (.one true 1 (.one true 2 (.calc 3 (.one true 7 (.one false 9 PU.fin)))))))))) [5, 9] = true := by
  subst h
  kernel_rfl

set_option maxRecDepth 100000 in
theorem pl_DrC2_28_9U (l : List Oper) (h : l = opsOf Tryz.f28 9) : planUB l (.pure 2 (.calc 0 (.two true 1 (.one true 3 (.one false 4 (.calc 5 (.calc 6 (.one false 7 PU.fin))))) true 3 (.two true 1 (.one false 4 (.calc 5 (.calc 6 (.one false 7 PU.fin)))) false 4 (.one true 1 (.calc 5 (.calc 6 (.one false 7 PU.fin)))))))) [4, 7] = true := by
  subst h
  kernel_rfl

set_option maxRecDepth 100000 in
theorem pl_DrC2_28_16V (l : List Oper) (h : l = opsOf Tryz.f28 16) : planVB l (.still 6 (.still 9 (.calc 0 (.calc 2 (.calc 10 (.split 1 (.split 3 (.split 4 (.calc 5 (.one 7 (.calc 8 (.split 11 (.one 12 (.one 13 (.calc 14 (.one 15 PV.fin)))) (.dead 4))))) (.one 7 (.calc 8 (.split 4 (.calc 5 (.split 11 (.one 12 (.one 13 (.calc 14 (.one 15 PV.fin)))) (.dead 4))) (.dead 6))))) (.one 7 (.calc 8 (.split 3 (.split 4 (.calc 5 (.split 11 (.one 12 (.one 13 (.calc 14 (.one 15 PV.fin)))) (.dead 4))) (.dead 6)) (.dead 7))))) (.split 3 (.split 4 (.calc 5 (.one 7 (.calc 8 (.split 1 (.split 11 (.one 12 (.one 13 (.calc 14 (.one 15 PV.fin)))) (.dead 4)) (.split 11 (.one 12 (.split 1 (.one 13 (.calc 14 (.one 15 PV.fin))) (.dead 3))) (.dead 5)))))) (.one 7 (.calc 8 (.split 1 (.split 4 (.calc 5 (.split 11 (.one 12 (.one 13 (.calc 14 (.one 15 PV.fin)))) (.dead 4))) (.dead 6)) (.split 4 (.calc 5 (.split 11 (.one 12 (.split 1 (.one 13 (.calc 14 (.one 15 PV.fin))) (.dead 3))) (.dead 5))) (.dead 7)))))) (.one 7 (.calc 8 (.split 1 (.split 3 (.split 4 (.calc 5 (.split 11 (.one 12 (.one 13 (.calc 14 (.one 15 PV.fin)))) (.dead 4))) (.dead 6)) (.dead 7)) (.split 3 (.split 4 (.calc 5 (.split 11 (.one 12 (.split 1 (.one 13 (.calc 14 (.one 15 PV.fin))) (.dead 3))) (.dead 5))) (.dead 7)) (.dead 8)))))))))))) [0, 1, 2, 3, 4, 5, 6, 8, 9, 10, 11, 14] = true := by
  subst h
  kernel_rfl

set_option maxRecDepth 100000 in
set_option maxHeartbeats 4000000 in
theorem clan_no (bs : List Int) (c : CurV) (hb : okCod bs) (h0 : okCur 40000 c) (ho : oneV bs 3 c = false) : FnS Tryz.prog 28 [(5000, curO bs c)] [.bp 5000 0] [(5000, curO bs (cla2 bs (cla1 bs (pickC bs 3 c))).c), (5001, .ds (perC (cla2 bs (cla1 bs (pickC bs 3 c))).l))] (.ag [.bs 5001 0 (cla2 bs (cla1 bs (pickC bs 3 c))).l.length 5]) := by
  have q1 := okCur_pick (bs := bs) (n := 3) h0
  have e1 := one_at 5000 bs 3 c hb (okCur_mono h0 (by omega))
  rw [ho] at e1
  generalize pickC bs 3 c = c1 at *
  have q2 := okCur_pick (bs := bs) (n := 3) q1
  have a1 := among_at 5000 13 bs [0, 1560, 1580] 3 c1 hb (okCur_mono q1 (by omega)) (by decide) (by decide) (by decide) (by decide) (by decide) (by decide)
  have q3 := okCur_pick (bs := bs) (n := 2) q2
  have a2 := among_at 5000 17 bs [0, 1570] 2 (pickC bs 3 c1) hb (okCur_mono q2 (by omega)) (by decide) (by decide) (by decide) (by decide) (by decide) (by decide)
  have b1 := pick_at 5000 bs 9 (pickC bs 2 (pickC bs 3 c1)) hb (okCur_mono q3 (by omega))
  have p1 := pickV_le hb (n := 9) q3.1
  have p2 := p1.2 (by decide)
  have q4 := okCur_pick (bs := bs) (n := 9) q3
  have hZ : cla1 bs c1 = claN bs (1 + pickV bs 9 (pickC bs 2 (pickC bs 3 c1))).toNat ⟨pickC bs 9 (pickC bs 2 (pickC bs 3 c1)), [⟨1, 1500, amV bs [0, 1560, 1580] 3 c1, 0, 0⟩, ⟨2, 1505, amV bs [0, 1570] 2 (pickC bs 3 c1), 0, 0⟩], 0⟩ := rfl
  have hY : ∀ Z, cla2 bs Z = claM bs (Z.l.length + 1) (pickV bs 4 Z.c).toNat ⟨pickC bs 4 Z.c, Z.l ++ [⟨Z.l.length + 1, 1530, 0, 0, 0⟩], 0⟩ := fun _ => rfl
  generalize cla1 bs c1 = Z at *
  generalize amV bs [0, 1560, 1580] 3 c1 = d1 at *
  generalize amV bs [0, 1570] 2 (pickC bs 3 c1) = d2 at *
  generalize pickV bs 9 (pickC bs 2 (pickC bs 3 c1)) = n1 at *
  generalize pickC bs 9 (pickC bs 2 (pickC bs 3 c1)) = c4 at *
  generalize pickC bs 2 (pickC bs 3 c1) = c3 at *
  generalize pickC bs 3 c1 = c2 at *
  obtain ⟨n, hn⟩ := Int.eq_ofNat_of_zero_le p1.1
  subst hn
  rw [show ((1 : Int) + (n : Int)).toNat = n + 1 by omega] at hZ
  refine fns_go Tryz.func28 rfl rfl Tryz.ntmps28 Tryz.results28 (by simp only [slotsA, Nat.reduceAdd]; rfl) (by simp) rfl ?_
  repeat' (first | (with_reducible first | refine aw_seq fun K hK => ?_ | refine aw_region (by kernel_rfl) ?_ | refine aw_condk ?_ | refine aw_block ?_) | ((with_reducible refine ev_aw ?_); first | (refine aw_drawJ (by kernel_rfl) (id := 7) _ _ (by kernel_rfl) (pl_DrC2_28_7U _ (by kernel_rfl)) (fun KJ hJ => ?_)) | (refine aw_drawJ (by kernel_rfl) (id := 9) _ _ (by kernel_rfl) (pl_DrC2_28_9U _ (by kernel_rfl)) (fun KJ hJ => ?_)) | (refine aw_drawW (by kernel_rfl) (id := 16) _ _ (by kernel_rfl) (pl_DrC2_28_16V _ (by kernel_rfl)) (fun KJ hJ => ?_))) | (with_reducible first | refine ru_four ?_ ?_ ?_ ?_ | refine ru_three ?_ ?_ ?_ | refine ru_two ?_ ?_ | refine rv_split ?_ ?_ | refine rv_two ?_ ?_ | refine rp_two ?_ ?_) | ((with_reducible refine evg ?_); simp only [go_sem, St.clean, cleanO, ↓reduceIte, Nat.reduceEqDiff, Nat.reduceBEq, Nat.reduceAdd, Nat.reduceMul, Nat.reduceSub, Nat.reduceLT, Nat.reduceLeDiff]) | (simp (disch := omega) only [wr, drop_at, str_at, int_at, Int.reduceSub, Int.reduceAdd, Int.reduceToNat, Int.toNat_zero, wr]) | ((with_reducible refine ev_call ?_); (first | (refine call_s e1 ?_ ?_ ?_ ?_ ?_; (focus rfl); (focus first | exact trivial | exact And.intro rfl trivial | exact ⟨rfl, rfl, trivial⟩ | exact ⟨rfl, rfl, rfl, trivial⟩); (focus rfl); (focus (simp [-List.map_map, apartO, dropO, killN, obCells, refs_dmap, nofnsD, AV.refs, AV.refsL, AV.nofn, AV.nofns] <;> fail))) | (refine call_s a1 ?_ ?_ ?_ ?_ ?_; (focus rfl); (focus first | exact trivial | exact And.intro rfl trivial | exact ⟨rfl, rfl, trivial⟩ | exact ⟨rfl, rfl, rfl, trivial⟩); (focus rfl); (focus (simp [-List.map_map, apartO, dropO, killN, obCells, refs_dmap, nofnsD, AV.refs, AV.refsL, AV.nofn, AV.nofns] <;> fail))) | (refine call_s a2 ?_ ?_ ?_ ?_ ?_; (focus rfl); (focus first | exact trivial | exact And.intro rfl trivial | exact ⟨rfl, rfl, trivial⟩ | exact ⟨rfl, rfl, rfl, trivial⟩); (focus rfl); (focus (simp [-List.map_map, apartO, dropO, killN, obCells, refs_dmap, nofnsD, AV.refs, AV.refsL, AV.nofn, AV.nofns] <;> fail))) | (refine call_s b1 ?_ ?_ ?_ ?_ ?_; (focus rfl); (focus first | exact trivial | exact And.intro rfl trivial | exact ⟨rfl, rfl, trivial⟩ | exact ⟨rfl, rfl, rfl, trivial⟩); (focus rfl); (focus (simp [-List.map_map, apartO, dropO, killN, obCells, refs_dmap, nofnsD, AV.refs, AV.refsL, AV.nofn, AV.nofns] <;> fail)))); refine k_run ?_) | ((with_reducible refine ev_guard ?_); (with_reducible first | refine guard_t ?_ ?_ rfl | refine guard_f ?_ ?_ rfl) <;> (intro h; (try simp only [h]); (try simp only [nrm] at h) <;> (try ((with_reducible exfalso); omega)))) | ((with_reducible refine ck_split (fun h => ?_) (fun h => ?_)) <;> (try simp only [nrm] at h) <;> (try ((with_reducible exfalso); omega))) | ((with_reducible refine And.intro ?_ ?_); (first | omega | focus (simp; done) | focus (simp; omega) | focus ((repeat' (with_reducible refine And.intro ?_ ?_)) <;> first | omega | rfl | (simp only [go_sem, refsL_app, refs_dmap] <;> fail) | (simp [refsL_app, refs_dmap, AV.refsL, AV.refs] <;> omega)))) | (with_reducible refine hJ _ (fun K hK => ?_) ?_ <;> clear hJ KJ) | ((with_reducible refine ev_less ?_); (refine ⟨rfl, ?_, ?_⟩ <;> simp only [go_sem, St.clean, cleanO, SubS, SubO, beq_self_eq_true, ↓reduceIte, Nat.reduceEqDiff, Nat.reduceBEq, Nat.reduceAdd, Nat.reduceMul, Nat.reduceSub, Nat.reduceLT, Nat.reduceLeDiff])) | ((with_reducible first | apply hK | (clear hK K; first | apply hK | (clear hK K; first | apply hK | (clear hK K; apply hK)))); clear hK K) | fail)
  refine aw_loopU [4, 5, 20, 21, 25, 26, 27, 28, 29, 30, 31, 32, 33, 34, 35, 36, 37, 38, 39, 40, 41, 42, 43, 44, 45, 46, 47, 48, 49, 50, 51] [3, 5, 20, 21, 31, 34, 38, 42, 43, 49, 50, 5000] (fun s : Nat × FamS => [(4, .d (.int s.1))]) (fun s => [(20, .ds (perC s.2.l)), (3, .av [.bs 20 0 s.2.l.length 5]), (5000, curO bs s.2.c)]) (fun s => claN bs s.1 s.2 = Z ∧ s.1 + s.2.l.length ≤ 11 ∧ okCur (40100 + 10 * s.2.l.length) s.2.c) (fun s => s.1) (n + 1, ⟨c4, [⟨1, 1500, d1, 0, 0⟩, ⟨2, 1505, d2, 0, 0⟩], 0⟩) ⟨hZ.symm, by simp only [List.length_cons, List.length_nil]; omega, okCur_mono q4 (by simp only [List.length_cons, List.length_nil]; omega)⟩ ?_ ?_
  · (refine lessW_of [] rfl ?_ <;> simp only [St.sws, St.sw, swS, swO, AV.sw, AV.swL, OB.sw, swp, St.upd, dropS, dropOs, Less, SubS, SubO, look, lookO, List.elem, List.cons_append, List.nil_append, cond_true, cond_false, and_true, true_and, beq_self_eq_true, ↓reduceIte, Nat.reduceEqDiff, Nat.reduceBEq, Nat.reduceAdd, Nat.reduceMul, Nat.reduceSub, Nat.reduceLT, Nat.reduceLeDiff] <;> try simp)
    all_goals (first | rfl | omega | (simp; done) | (refine ⟨?_, ?_⟩ <;> first | rfl | omega))
  · rintro ⟨k, ⟨c, l, id⟩⟩ ⟨g1, g2, g3⟩
    simp only at g1 g2 g3
    simp only [St.upd, dropS, dropOs, List.elem, List.cons_append, List.nil_append, cond_true, cond_false, beq_self_eq_true, ↓reduceIte, Nat.reduceEqDiff, Nat.reduceBEq, Nat.reduceAdd, Nat.reduceMul, Nat.reduceSub, Nat.reduceLT, Nat.reduceLeDiff]
    have hpl : (perC l).length = l.length * 5 := recC_len per_k l
    cases k with
    | zero =>
      rw [claN] at g1
      subst g1
      have r1 := pickV_le hb (n := 4) g3.1
      have r2 := r1.2 (by decide)
      have s1 := okCur_pick (bs := bs) (n := 4) g3
      have b2 := pick_at 5000 bs 4 c hb (okCur_mono g3 (by omega))
      have hY' := hY ⟨c, l, id⟩
      simp only at hY'
      generalize cla2 bs ⟨c, l, id⟩ = Y at *
      generalize pickV bs 4 c = n2 at *
      generalize pickC bs 4 c = c5 at *
      obtain ⟨m, hm⟩ := Int.eq_ofNat_of_zero_le r1.1
      subst hm
      rw [Int.toNat_natCast] at hY'
      have hsn := perC_snoc2 l ⟨l.length + 1, 1530, 0, 0, 0⟩
      simp only at hsn
      repeat' (first | (with_reducible first | refine aw_seq fun K hK => ?_ | refine aw_region (by kernel_rfl) ?_ | refine aw_condk ?_ | refine aw_block ?_) | ((with_reducible refine ev_aw ?_); first | (refine aw_drawJ (by kernel_rfl) (id := 7) _ _ (by kernel_rfl) (pl_DrC2_28_7U _ (by kernel_rfl)) (fun KJ hJ => ?_)) | (refine aw_drawJ (by kernel_rfl) (id := 9) _ _ (by kernel_rfl) (pl_DrC2_28_9U _ (by kernel_rfl)) (fun KJ hJ => ?_)) | (refine aw_drawW (by kernel_rfl) (id := 16) _ _ (by kernel_rfl) (pl_DrC2_28_16V _ (by kernel_rfl)) (fun KJ hJ => ?_))) | (with_reducible first | refine ru_four ?_ ?_ ?_ ?_ | refine ru_three ?_ ?_ ?_ | refine ru_two ?_ ?_ | refine rv_split ?_ ?_ | refine rv_two ?_ ?_ | refine rp_two ?_ ?_) | ((with_reducible refine evg ?_); simp only [go_sem, St.clean, cleanO, ↓reduceIte, Nat.reduceEqDiff, Nat.reduceBEq, Nat.reduceAdd, Nat.reduceMul, Nat.reduceSub, Nat.reduceLT, Nat.reduceLeDiff]) | (simp (disch := omega) only [wr, drop_at, str_at, int_at, Int.reduceSub, Int.reduceAdd, Int.reduceToNat, Int.toNat_zero, hsn, wr]) | ((with_reducible refine ev_call ?_); (first | (refine call_s b2 ?_ ?_ ?_ ?_ ?_; (focus rfl); (focus first | exact trivial | exact And.intro rfl trivial | exact ⟨rfl, rfl, trivial⟩ | exact ⟨rfl, rfl, rfl, trivial⟩); (focus rfl); (focus (simp [-List.map_map, apartO, dropO, killN, obCells, refs_dmap, nofnsD, AV.refs, AV.refsL, AV.nofn, AV.nofns] <;> fail)))); refine k_run ?_) | ((with_reducible refine ev_guard ?_); (with_reducible first | refine guard_t ?_ ?_ rfl | refine guard_f ?_ ?_ rfl) <;> (intro h; (try simp only [h]); (try simp only [nrm] at h) <;> (try ((with_reducible exfalso); omega)))) | ((with_reducible refine ck_split (fun h => ?_) (fun h => ?_)) <;> (try simp only [nrm] at h) <;> (try ((with_reducible exfalso); omega))) | ((with_reducible refine And.intro ?_ ?_); (first | omega | focus (simp; done) | focus (simp; omega) | focus ((repeat' (with_reducible refine And.intro ?_ ?_)) <;> first | omega | rfl | (simp only [go_sem, refsL_app, refs_dmap] <;> fail) | (simp [refsL_app, refs_dmap, AV.refsL, AV.refs] <;> omega)))) | (with_reducible refine hJ _ (fun K hK => ?_) ?_ <;> clear hJ KJ) | ((with_reducible refine ev_less ?_); (refine ⟨rfl, ?_, ?_⟩ <;> simp only [go_sem, St.clean, cleanO, SubS, SubO, beq_self_eq_true, ↓reduceIte, Nat.reduceEqDiff, Nat.reduceBEq, Nat.reduceAdd, Nat.reduceMul, Nat.reduceSub, Nat.reduceLT, Nat.reduceLeDiff])) | ((with_reducible first | apply hK | (clear hK K; first | apply hK | (clear hK K; first | apply hK | (clear hK K; apply hK)))); clear hK K) | fail)
      refine aw_loopU [7, 20, 52, 53, 55, 56, 60, 61, 62, 65, 66, 67, 68, 69, 70, 71, 72, 73, 74, 75, 76, 77, 78, 79, 80, 81, 82, 83, 84, 85, 86, 87, 88, 89] [3, 20, 52, 53, 55, 56, 60, 61, 62, 70, 79, 82, 87, 88, 5000] (fun s : Nat × FamS => [(7, .d (.int s.1))]) (fun s => [(61, .ds (perC s.2.l)), (3, .av [.bs 61 0 s.2.l.length 5]), (5000, curO bs s.2.c)]) (fun s => claM bs (l.length + 1) s.1 s.2 = Y ∧ s.1 ≤ 3 ∧ s.2.l.length ≤ 16 ∧ okCur (40300 + 10 * (3 - s.1)) s.2.c) (fun s => s.1) (m, ⟨c5, l ++ [⟨l.length + 1, 1530, 0, 0, 0⟩], 0⟩) ⟨hY'.symm, by simp only; omega, by simp only [List.length_append, List.length_singleton]; omega, okCur_mono s1 (by omega)⟩ ?_ ?_
      · simp only [List.length_append, List.length_singleton]
        (refine lessW_of [] rfl ?_ <;> simp only [St.sws, St.sw, swS, swO, AV.sw, AV.swL, OB.sw, swp, St.upd, dropS, dropOs, Less, SubS, SubO, look, lookO, List.elem, List.cons_append, List.nil_append, cond_true, cond_false, and_true, true_and, beq_self_eq_true, ↓reduceIte, Nat.reduceEqDiff, Nat.reduceBEq, Nat.reduceAdd, Nat.reduceMul, Nat.reduceSub, Nat.reduceLT, Nat.reduceLeDiff] <;> try simp)
        all_goals (first | rfl | omega | (simp; done) | (refine ⟨?_, ?_⟩ <;> first | rfl | omega))
      · rintro ⟨k, ⟨cc, L, d⟩⟩ ⟨f1, f2, f3, f4⟩
        simp only at f1 f2 f3 f4
        simp only [St.upd, dropS, dropOs, List.elem, List.cons_append, List.nil_append, cond_true, cond_false, beq_self_eq_true, ↓reduceIte, Nat.reduceEqDiff, Nat.reduceBEq, Nat.reduceAdd, Nat.reduceMul, Nat.reduceSub, Nat.reduceLT, Nat.reduceLeDiff]
        have hpL : (perC L).length = L.length * 5 := recC_len per_k L
        have hend : Y = ⟨cc, L, d⟩ → k = 0 ∨ ¬ L.length < 16 → True := fun _ _ => trivial
        cases k with
        | zero =>
          rw [claM] at f1
          subst f1
          repeat' (first | (with_reducible first | refine aw_seq fun K hK => ?_ | refine aw_region (by kernel_rfl) ?_ | refine aw_condk ?_ | refine aw_block ?_) | ((with_reducible refine ev_aw ?_); first | (refine aw_drawJ (by kernel_rfl) (id := 7) _ _ (by kernel_rfl) (pl_DrC2_28_7U _ (by kernel_rfl)) (fun KJ hJ => ?_)) | (refine aw_drawJ (by kernel_rfl) (id := 9) _ _ (by kernel_rfl) (pl_DrC2_28_9U _ (by kernel_rfl)) (fun KJ hJ => ?_)) | (refine aw_drawW (by kernel_rfl) (id := 16) _ _ (by kernel_rfl) (pl_DrC2_28_16V _ (by kernel_rfl)) (fun KJ hJ => ?_))) | (with_reducible first | refine ru_four ?_ ?_ ?_ ?_ | refine ru_three ?_ ?_ ?_ | refine ru_two ?_ ?_ | refine rv_split ?_ ?_ | refine rv_two ?_ ?_ | refine rp_two ?_ ?_) | ((with_reducible refine evg ?_); simp only [go_sem, St.clean, cleanO, ↓reduceIte, Nat.reduceEqDiff, Nat.reduceBEq, Nat.reduceAdd, Nat.reduceMul, Nat.reduceSub, Nat.reduceLT, Nat.reduceLeDiff]) | (simp (disch := omega) only [wr, drop_at, str_at, int_at, Int.reduceSub, Int.reduceAdd, Int.reduceToNat, Int.toNat_zero, wr]) | ((with_reducible refine ev_guard ?_); (with_reducible first | refine guard_t ?_ ?_ rfl | refine guard_f ?_ ?_ rfl) <;> (intro h; (try simp only [h]); (try simp only [nrm] at h) <;> (try ((with_reducible exfalso); omega)))) | ((with_reducible refine ck_split (fun h => ?_) (fun h => ?_)) <;> (try simp only [nrm] at h) <;> (try ((with_reducible exfalso); omega))) | ((with_reducible refine And.intro ?_ ?_); (first | omega | focus (simp; done) | focus (simp; omega) | focus ((repeat' (with_reducible refine And.intro ?_ ?_)) <;> first | omega | rfl | (simp only [go_sem, refsL_app, refs_dmap] <;> fail) | (simp [refsL_app, refs_dmap, AV.refsL, AV.refs] <;> omega)))) | (with_reducible refine hJ _ (fun K hK => ?_) ?_ <;> clear hJ KJ) | ((with_reducible refine ev_less ?_); (refine ⟨rfl, ?_, ?_⟩ <;> simp only [go_sem, St.clean, cleanO, SubS, SubO, beq_self_eq_true, ↓reduceIte, Nat.reduceEqDiff, Nat.reduceBEq, Nat.reduceAdd, Nat.reduceMul, Nat.reduceSub, Nat.reduceLT, Nat.reduceLeDiff])) | ((with_reducible first | apply hK | (clear hK K; first | apply hK | (clear hK K; first | apply hK | (clear hK K; apply hK)))); clear hK K) | fail)
          refine ress_step [(61, 5001)] (by simp) (by simp [lensO, lookO, obCells]) rfl ⟨rfl, rfl, trivial⟩ ?_
          simp only [go_sem, ↓reduceIte, Nat.reduceEqDiff, Nat.reduceBEq, Nat.reduceAdd, Nat.reduceMul, Nat.reduceSub, Nat.reduceLT, Nat.reduceLeDiff]
          rfl
        | succ k =>
          rw [claM] at f1
          by_cases hL : L.length < 16
          · rw [if_pos hL] at f1
            have u1 := pickV_le hb (n := 10) f4.1
            have u2 := u1.2 (by decide)
            have w1 := okCur_pick (bs := bs) (n := 10) f4
            have b3 := pick_at 5000 bs 10 cc hb (okCur_mono f4 (by omega))
            have hB : claB bs (l.length + 1) ⟨cc, L, d⟩ = ⟨pickC bs 10 cc, L ++ [⟨L.length + 1, 1552 + pickV bs 10 cc, 0, 3, l.length + 1⟩], 0⟩ := rfl
            rw [hB] at f1
            clear hB
            generalize pickV bs 10 cc = v at *
            generalize pickC bs 10 cc = cd at *
            have hsn2 := perC_snoc2 L ⟨L.length + 1, 1552 + v, 0, 3, l.length + 1⟩
            simp only at hsn2
            repeat' (first | (with_reducible first | refine aw_seq fun K hK => ?_ | refine aw_region (by kernel_rfl) ?_ | refine aw_condk ?_ | refine aw_block ?_) | ((with_reducible refine ev_aw ?_); first | (refine aw_drawJ (by kernel_rfl) (id := 7) _ _ (by kernel_rfl) (pl_DrC2_28_7U _ (by kernel_rfl)) (fun KJ hJ => ?_)) | (refine aw_drawJ (by kernel_rfl) (id := 9) _ _ (by kernel_rfl) (pl_DrC2_28_9U _ (by kernel_rfl)) (fun KJ hJ => ?_)) | (refine aw_drawW (by kernel_rfl) (id := 16) _ _ (by kernel_rfl) (pl_DrC2_28_16V _ (by kernel_rfl)) (fun KJ hJ => ?_))) | (with_reducible first | refine ru_four ?_ ?_ ?_ ?_ | refine ru_three ?_ ?_ ?_ | refine ru_two ?_ ?_ | refine rv_split ?_ ?_ | refine rv_two ?_ ?_ | refine rp_two ?_ ?_) | ((with_reducible refine evg ?_); simp only [go_sem, St.clean, cleanO, ↓reduceIte, Nat.reduceEqDiff, Nat.reduceBEq, Nat.reduceAdd, Nat.reduceMul, Nat.reduceSub, Nat.reduceLT, Nat.reduceLeDiff]) | (simp (disch := omega) only [wr, drop_at, str_at, int_at, Int.reduceSub, Int.reduceAdd, Int.reduceToNat, Int.toNat_zero, hsn2, wr]) | ((with_reducible refine ev_call ?_); (first | (refine call_s b3 ?_ ?_ ?_ ?_ ?_; (focus rfl); (focus first | exact trivial | exact And.intro rfl trivial | exact ⟨rfl, rfl, trivial⟩ | exact ⟨rfl, rfl, rfl, trivial⟩); (focus rfl); (focus (simp [-List.map_map, apartO, dropO, killN, obCells, refs_dmap, nofnsD, AV.refs, AV.refsL, AV.nofn, AV.nofns] <;> fail)))); refine k_run ?_) | ((with_reducible refine ev_guard ?_); (with_reducible first | refine guard_t ?_ ?_ rfl | refine guard_f ?_ ?_ rfl) <;> (intro h; (try simp only [h]); (try simp only [nrm] at h) <;> (try ((with_reducible exfalso); omega)))) | ((with_reducible refine ck_split (fun h => ?_) (fun h => ?_)) <;> (try simp only [nrm] at h) <;> (try ((with_reducible exfalso); omega))) | ((with_reducible refine And.intro ?_ ?_); (first | omega | focus (simp; done) | focus (simp; omega) | focus ((repeat' (with_reducible refine And.intro ?_ ?_)) <;> first | omega | rfl | (simp only [go_sem, refsL_app, refs_dmap] <;> fail) | (simp [refsL_app, refs_dmap, AV.refsL, AV.refs] <;> omega)))) | (with_reducible refine hJ _ (fun K hK => ?_) ?_ <;> clear hJ KJ) | ((with_reducible refine ev_less ?_); (refine ⟨rfl, ?_, ?_⟩ <;> simp only [go_sem, St.clean, cleanO, SubS, SubO, beq_self_eq_true, ↓reduceIte, Nat.reduceEqDiff, Nat.reduceBEq, Nat.reduceAdd, Nat.reduceMul, Nat.reduceSub, Nat.reduceLT, Nat.reduceLeDiff])) | ((with_reducible first | apply hK | (clear hK K; first | apply hK | (clear hK K; first | apply hK | (clear hK K; apply hK)))); clear hK K) | fail)
            all_goals
              refine ⟨(k, ⟨cd, L ++ [⟨L.length + 1, 1552 + v, 0, 3, l.length + 1⟩], 0⟩), ⟨f1, by simp only; omega, by simp only [List.length_append, List.length_singleton]; omega, okCur_mono w1 (by simp only; omega)⟩, by simp only; omega, ?_⟩
              simp only [List.length_append, List.length_singleton]
              (refine lessW_of [(88, 61)] rfl ?_ <;> simp only [St.sws, St.sw, swS, swO, AV.sw, AV.swL, OB.sw, swp, St.upd, dropS, dropOs, Less, SubS, SubO, look, lookO, List.elem, List.cons_append, List.nil_append, cond_true, cond_false, and_true, true_and, beq_self_eq_true, ↓reduceIte, Nat.reduceEqDiff, Nat.reduceBEq, Nat.reduceAdd, Nat.reduceMul, Nat.reduceSub, Nat.reduceLT, Nat.reduceLeDiff] <;> try simp)
              all_goals (first | rfl | omega | (simp; done) | (refine ⟨?_, ?_⟩ <;> first | rfl | omega))
          · rw [if_neg hL] at f1
            subst f1
            repeat' (first | (with_reducible first | refine aw_seq fun K hK => ?_ | refine aw_region (by kernel_rfl) ?_ | refine aw_condk ?_ | refine aw_block ?_) | ((with_reducible refine ev_aw ?_); first | (refine aw_drawJ (by kernel_rfl) (id := 7) _ _ (by kernel_rfl) (pl_DrC2_28_7U _ (by kernel_rfl)) (fun KJ hJ => ?_)) | (refine aw_drawJ (by kernel_rfl) (id := 9) _ _ (by kernel_rfl) (pl_DrC2_28_9U _ (by kernel_rfl)) (fun KJ hJ => ?_)) | (refine aw_drawW (by kernel_rfl) (id := 16) _ _ (by kernel_rfl) (pl_DrC2_28_16V _ (by kernel_rfl)) (fun KJ hJ => ?_))) | (with_reducible first | refine ru_four ?_ ?_ ?_ ?_ | refine ru_three ?_ ?_ ?_ | refine ru_two ?_ ?_ | refine rv_split ?_ ?_ | refine rv_two ?_ ?_ | refine rp_two ?_ ?_) | ((with_reducible refine evg ?_); simp only [go_sem, St.clean, cleanO, ↓reduceIte, Nat.reduceEqDiff, Nat.reduceBEq, Nat.reduceAdd, Nat.reduceMul, Nat.reduceSub, Nat.reduceLT, Nat.reduceLeDiff]) | (simp (disch := omega) only [wr, drop_at, str_at, int_at, Int.reduceSub, Int.reduceAdd, Int.reduceToNat, Int.toNat_zero, wr]) | ((with_reducible refine ev_guard ?_); (with_reducible first | refine guard_t ?_ ?_ rfl | refine guard_f ?_ ?_ rfl) <;> (intro h; (try simp only [h]); (try simp only [nrm] at h) <;> (try ((with_reducible exfalso); omega)))) | ((with_reducible refine ck_split (fun h => ?_) (fun h => ?_)) <;> (try simp only [nrm] at h) <;> (try ((with_reducible exfalso); omega))) | ((with_reducible refine And.intro ?_ ?_); (first | omega | focus (simp; done) | focus (simp; omega) | focus ((repeat' (with_reducible refine And.intro ?_ ?_)) <;> first | omega | rfl | (simp only [go_sem, refsL_app, refs_dmap] <;> fail) | (simp [refsL_app, refs_dmap, AV.refsL, AV.refs] <;> omega)))) | (with_reducible refine hJ _ (fun K hK => ?_) ?_ <;> clear hJ KJ) | ((with_reducible refine ev_less ?_); (refine ⟨rfl, ?_, ?_⟩ <;> simp only [go_sem, St.clean, cleanO, SubS, SubO, beq_self_eq_true, ↓reduceIte, Nat.reduceEqDiff, Nat.reduceBEq, Nat.reduceAdd, Nat.reduceMul, Nat.reduceSub, Nat.reduceLT, Nat.reduceLeDiff])) | ((with_reducible first | apply hK | (clear hK K; first | apply hK | (clear hK K; first | apply hK | (clear hK K; apply hK)))); clear hK K) | fail)
            all_goals (try omega)
            refine ress_step [(61, 5001)] (by simp) (by simp [lensO, lookO, obCells]) rfl ⟨rfl, rfl, trivial⟩ ?_
            simp only [go_sem, ↓reduceIte, Nat.reduceEqDiff, Nat.reduceBEq, Nat.reduceAdd, Nat.reduceMul, Nat.reduceSub, Nat.reduceLT, Nat.reduceLeDiff]
            rfl
    | succ k =>
      rw [claN] at g1
      have u1 := pickV_le hb (n := 12) g3.1
      have u2 := u1.2 (by decide)
      have w1 := okCur_pick (bs := bs) (n := 12) g3
      have b3 := pick_at 5000 bs 12 c hb (okCur_mono g3 (by omega))
      have b4 := one_at 5000 bs 3 (pickC bs 12 c) hb (okCur_mono w1 (by omega))
      have w2 := okCur_pick (bs := bs) (n := 3) w1
      have b5 := among_at 5000 42 bs [1, 40, 60] 3 (pickC bs 3 (pickC bs 12 c)) hb (okCur_mono w2 (by omega)) (by decide) (by decide) (by decide) (by decide) (by decide) (by decide)
      have w3 := okCur_pick (bs := bs) (n := 3) w2
      have ham : 0 ≤ amV bs [1, 40, 60] 3 (pickC bs 3 (pickC bs 12 c)) ∧ amV bs [1, 40, 60] 3 (pickC bs 3 (pickC bs 12 c)) ≤ 60 := by
        have hm : ∀ i : Nat, 0 ≤ ([1, 40, 60] : List Int).getD i 0 ∧ ([1, 40, 60] : List Int).getD i 0 ≤ 60 := fun i => by
          match i with
          | 0 => simp
          | 1 => simp
          | 2 => simp
          | n + 3 => simp
        exact hm _
      have hA : claA bs ⟨c, l, id⟩ = if oneV bs 3 (pickC bs 12 c) = true then ⟨pickC bs 3 (pickC bs 3 (pickC bs 12 c)), l ++ [⟨l.length + 1, 1525 + pickV bs 12 c, 1525 + pickV bs 12 c + amV bs [1, 40, 60] 3 (pickC bs 3 (pickC bs 12 c)), 1, 2⟩], 0⟩ else ⟨pickC bs 3 (pickC bs 12 c), l ++ [⟨l.length + 1, 1525 + pickV bs 12 c, 0, 1, 2⟩], 0⟩ := rfl
      rw [hA] at g1
      clear hA
      generalize pickV bs 12 c = v at *
      generalize amV bs [1, 40, 60] 3 (pickC bs 3 (pickC bs 12 c)) = am at *
      generalize pickC bs 3 (pickC bs 3 (pickC bs 12 c)) = ce at *
      generalize oneV bs 3 (pickC bs 12 c) = o at *
      generalize pickC bs 3 (pickC bs 12 c) = cd at *
      generalize pickC bs 12 c = cb at *
      cases o
      · rw [if_neg (by simp)] at g1
        have hsn2 := perC_snoc2 l ⟨l.length + 1, 1525 + v, 0, 1, 2⟩
        simp only at hsn2
        repeat' (first | (with_reducible first | refine aw_seq fun K hK => ?_ | refine aw_region (by kernel_rfl) ?_ | refine aw_condk ?_ | refine aw_block ?_) | ((with_reducible refine ev_aw ?_); first | (refine aw_drawJ (by kernel_rfl) (id := 7) _ _ (by kernel_rfl) (pl_DrC2_28_7U _ (by kernel_rfl)) (fun KJ hJ => ?_)) | (refine aw_drawJ (by kernel_rfl) (id := 9) _ _ (by kernel_rfl) (pl_DrC2_28_9U _ (by kernel_rfl)) (fun KJ hJ => ?_)) | (refine aw_drawW (by kernel_rfl) (id := 16) _ _ (by kernel_rfl) (pl_DrC2_28_16V _ (by kernel_rfl)) (fun KJ hJ => ?_))) | (with_reducible first | refine ru_four ?_ ?_ ?_ ?_ | refine ru_three ?_ ?_ ?_ | refine ru_two ?_ ?_ | refine rv_split ?_ ?_ | refine rv_two ?_ ?_ | refine rp_two ?_ ?_) | ((with_reducible refine evg ?_); simp only [go_sem, St.clean, cleanO, ↓reduceIte, Nat.reduceEqDiff, Nat.reduceBEq, Nat.reduceAdd, Nat.reduceMul, Nat.reduceSub, Nat.reduceLT, Nat.reduceLeDiff]) | (simp (disch := omega) only [wr, drop_at, str_at, int_at, Int.reduceSub, Int.reduceAdd, Int.reduceToNat, Int.toNat_zero, hsn2, wr]) | ((with_reducible refine ev_call ?_); (first | (refine call_s b3 ?_ ?_ ?_ ?_ ?_; (focus rfl); (focus first | exact trivial | exact And.intro rfl trivial | exact ⟨rfl, rfl, trivial⟩ | exact ⟨rfl, rfl, rfl, trivial⟩); (focus rfl); (focus (simp [-List.map_map, apartO, dropO, killN, obCells, refs_dmap, nofnsD, AV.refs, AV.refsL, AV.nofn, AV.nofns] <;> fail))) | (refine call_s b4 ?_ ?_ ?_ ?_ ?_; (focus rfl); (focus first | exact trivial | exact And.intro rfl trivial | exact ⟨rfl, rfl, trivial⟩ | exact ⟨rfl, rfl, rfl, trivial⟩); (focus rfl); (focus (simp [-List.map_map, apartO, dropO, killN, obCells, refs_dmap, nofnsD, AV.refs, AV.refsL, AV.nofn, AV.nofns] <;> fail))) | (refine call_s b5 ?_ ?_ ?_ ?_ ?_; (focus rfl); (focus first | exact trivial | exact And.intro rfl trivial | exact ⟨rfl, rfl, trivial⟩ | exact ⟨rfl, rfl, rfl, trivial⟩); (focus rfl); (focus (simp [-List.map_map, apartO, dropO, killN, obCells, refs_dmap, nofnsD, AV.refs, AV.refsL, AV.nofn, AV.nofns] <;> fail)))); refine k_run ?_) | ((with_reducible refine ev_guard ?_); (with_reducible first | refine guard_t ?_ ?_ rfl | refine guard_f ?_ ?_ rfl) <;> (intro h; (try simp only [h]); (try simp only [nrm] at h) <;> (try ((with_reducible exfalso); omega)))) | ((with_reducible refine ck_split (fun h => ?_) (fun h => ?_)) <;> (try simp only [nrm] at h) <;> (try ((with_reducible exfalso); omega))) | ((with_reducible refine And.intro ?_ ?_); (first | omega | focus (simp; done) | focus (simp; omega) | focus ((repeat' (with_reducible refine And.intro ?_ ?_)) <;> first | omega | rfl | (simp only [go_sem, refsL_app, refs_dmap] <;> fail) | (simp [refsL_app, refs_dmap, AV.refsL, AV.refs] <;> omega)))) | (with_reducible refine hJ _ (fun K hK => ?_) ?_ <;> clear hJ KJ) | ((with_reducible refine ev_less ?_); (refine ⟨rfl, ?_, ?_⟩ <;> simp only [go_sem, St.clean, cleanO, SubS, SubO, beq_self_eq_true, ↓reduceIte, Nat.reduceEqDiff, Nat.reduceBEq, Nat.reduceAdd, Nat.reduceMul, Nat.reduceSub, Nat.reduceLT, Nat.reduceLeDiff])) | ((with_reducible first | apply hK | (clear hK K; first | apply hK | (clear hK K; first | apply hK | (clear hK K; apply hK)))); clear hK K) | fail)
        all_goals
          refine ⟨(k, ⟨cd, l ++ [⟨l.length + 1, 1525 + v, 0, 1, 2⟩], 0⟩), ⟨g1, by simp only [List.length_append, List.length_singleton]; omega, okCur_mono w2 (by simp only [List.length_append, List.length_singleton]; omega)⟩, by simp only; omega, ?_⟩
          simp only [List.length_append, List.length_singleton]
          (refine lessW_of [(50, 20)] rfl ?_ <;> simp only [St.sws, St.sw, swS, swO, AV.sw, AV.swL, OB.sw, swp, St.upd, dropS, dropOs, Less, SubS, SubO, look, lookO, List.elem, List.cons_append, List.nil_append, cond_true, cond_false, and_true, true_and, beq_self_eq_true, ↓reduceIte, Nat.reduceEqDiff, Nat.reduceBEq, Nat.reduceAdd, Nat.reduceMul, Nat.reduceSub, Nat.reduceLT, Nat.reduceLeDiff] <;> try simp)
          all_goals (first | rfl | omega | (simp; done) | (refine ⟨?_, ?_⟩ <;> first | rfl | omega))
      · rw [if_pos rfl] at g1
        have hsn2 := perC_snoc2 l ⟨l.length + 1, 1525 + v, 1525 + v + am, 1, 2⟩
        simp only at hsn2
        repeat' (first | (with_reducible first | refine aw_seq fun K hK => ?_ | refine aw_region (by kernel_rfl) ?_ | refine aw_condk ?_ | refine aw_block ?_) | ((with_reducible refine ev_aw ?_); first | (refine aw_drawJ (by kernel_rfl) (id := 7) _ _ (by kernel_rfl) (pl_DrC2_28_7U _ (by kernel_rfl)) (fun KJ hJ => ?_)) | (refine aw_drawJ (by kernel_rfl) (id := 9) _ _ (by kernel_rfl) (pl_DrC2_28_9U _ (by kernel_rfl)) (fun KJ hJ => ?_)) | (refine aw_drawW (by kernel_rfl) (id := 16) _ _ (by kernel_rfl) (pl_DrC2_28_16V _ (by kernel_rfl)) (fun KJ hJ => ?_))) | (with_reducible first | refine ru_four ?_ ?_ ?_ ?_ | refine ru_three ?_ ?_ ?_ | refine ru_two ?_ ?_ | refine rv_split ?_ ?_ | refine rv_two ?_ ?_ | refine rp_two ?_ ?_) | ((with_reducible refine evg ?_); simp only [go_sem, St.clean, cleanO, ↓reduceIte, Nat.reduceEqDiff, Nat.reduceBEq, Nat.reduceAdd, Nat.reduceMul, Nat.reduceSub, Nat.reduceLT, Nat.reduceLeDiff]) | (simp (disch := omega) only [wr, drop_at, str_at, int_at, Int.reduceSub, Int.reduceAdd, Int.reduceToNat, Int.toNat_zero, hsn2, wr]) | ((with_reducible refine ev_call ?_); (first | (refine call_s b3 ?_ ?_ ?_ ?_ ?_; (focus rfl); (focus first | exact trivial | exact And.intro rfl trivial | exact ⟨rfl, rfl, trivial⟩ | exact ⟨rfl, rfl, rfl, trivial⟩); (focus rfl); (focus (simp [-List.map_map, apartO, dropO, killN, obCells, refs_dmap, nofnsD, AV.refs, AV.refsL, AV.nofn, AV.nofns] <;> fail))) | (refine call_s b4 ?_ ?_ ?_ ?_ ?_; (focus rfl); (focus first | exact trivial | exact And.intro rfl trivial | exact ⟨rfl, rfl, trivial⟩ | exact ⟨rfl, rfl, rfl, trivial⟩); (focus rfl); (focus (simp [-List.map_map, apartO, dropO, killN, obCells, refs_dmap, nofnsD, AV.refs, AV.refsL, AV.nofn, AV.nofns] <;> fail))) | (refine call_s b5 ?_ ?_ ?_ ?_ ?_; (focus rfl); (focus first | exact trivial | exact And.intro rfl trivial | exact ⟨rfl, rfl, trivial⟩ | exact ⟨rfl, rfl, rfl, trivial⟩); (focus rfl); (focus (simp [-List.map_map, apartO, dropO, killN, obCells, refs_dmap, nofnsD, AV.refs, AV.refsL, AV.nofn, AV.nofns] <;> fail)))); refine k_run ?_) | ((with_reducible refine ev_guard ?_); (with_reducible first | refine guard_t ?_ ?_ rfl | refine guard_f ?_ ?_ rfl) <;> (intro h; (try simp only [h]); (try simp only [nrm] at h) <;> (try ((with_reducible exfalso); omega)))) | ((with_reducible refine ck_split (fun h => ?_) (fun h => ?_)) <;> (try simp only [nrm] at h) <;> (try ((with_reducible exfalso); omega))) | ((with_reducible refine And.intro ?_ ?_); (first | omega | focus (simp; done) | focus (simp; omega) | focus ((repeat' (with_reducible refine And.intro ?_ ?_)) <;> first | omega | rfl | (simp only [go_sem, refsL_app, refs_dmap] <;> fail) | (simp [refsL_app, refs_dmap, AV.refsL, AV.refs] <;> omega)))) | (with_reducible refine hJ _ (fun K hK => ?_) ?_ <;> clear hJ KJ) | ((with_reducible refine ev_less ?_); (refine ⟨rfl, ?_, ?_⟩ <;> simp only [go_sem, St.clean, cleanO, SubS, SubO, beq_self_eq_true, ↓reduceIte, Nat.reduceEqDiff, Nat.reduceBEq, Nat.reduceAdd, Nat.reduceMul, Nat.reduceSub, Nat.reduceLT, Nat.reduceLeDiff])) | ((with_reducible first | apply hK | (clear hK K; first | apply hK | (clear hK K; first | apply hK | (clear hK K; apply hK)))); clear hK K) | fail)
        all_goals
          refine ⟨(k, ⟨ce, l ++ [⟨l.length + 1, 1525 + v, 1525 + v + am, 1, 2⟩], 0⟩), ⟨g1, by simp only [List.length_append, List.length_singleton]; omega, okCur_mono w3 (by simp only [List.length_append, List.length_singleton]; omega)⟩, by simp only; omega, ?_⟩
          simp only [List.length_append, List.length_singleton]
          (refine lessW_of [(50, 20)] rfl ?_ <;> simp only [St.sws, St.sw, swS, swO, AV.sw, AV.swL, OB.sw, swp, St.upd, dropS, dropOs, Less, SubS, SubO, look, lookO, List.elem, List.cons_append, List.nil_append, cond_true, cond_false, and_true, true_and, beq_self_eq_true, ↓reduceIte, Nat.reduceEqDiff, Nat.reduceBEq, Nat.reduceAdd, Nat.reduceMul, Nat.reduceSub, Nat.reduceLT, Nat.reduceLeDiff] <;> try simp)
          all_goals (first | rfl | omega | (simp; done) | (refine ⟨?_, ?_⟩ <;> first | rfl | omega))

set_option maxRecDepth 100000 in
set_option maxHeartbeats 4000000 in
theorem clan_fn (bs : List Int) (c : CurV) (hb : okCod bs) (h0 : okCur 40000 c) : FnS Tryz.prog 28 [(5000, curO bs c)] [.bp 5000 0] [(5000, curO bs (claZ bs c).c), (5001, .ds (perC (claZ bs c).l))] (.ag [.bs 5001 0 (claZ bs c).l.length 5]) := by
  unfold claZ
  cases ho : oneV bs 3 c
  · simp only [Bool.false_eq_true, if_false]
    exact clan_no bs c hb h0 ho
  · have q1 := okCur_pick (bs := bs) (n := 3) h0
    have e1 := one_at 5000 bs 3 c hb (okCur_mono h0 (by omega))
    rw [ho] at e1
    simp only [if_true]
    have e2 := any_hi 11 bs (pickC bs 3 c) hb (okCur_mono q1 (by omega)) (by decide)
    generalize anyZ bs (pickC bs 3 c) = Z at *
    generalize pickC bs 3 c = c1 at *
    obtain ⟨zc, zl, zi⟩ := Z
    refine fns_go Tryz.func28 rfl rfl Tryz.ntmps28 Tryz.results28 (by simp only [slotsA, Nat.reduceAdd]; rfl) (by simp) rfl ?_
    repeat' (first | (with_reducible first | refine aw_seq fun K hK => ?_ | refine aw_region (by kernel_rfl) ?_ | refine aw_condk ?_ | refine aw_block ?_) | ((with_reducible refine ev_aw ?_); first | (refine aw_drawJ (by kernel_rfl) (id := 7) _ _ (by kernel_rfl) (pl_DrC2_28_7U _ (by kernel_rfl)) (fun KJ hJ => ?_)) | (refine aw_drawJ (by kernel_rfl) (id := 9) _ _ (by kernel_rfl) (pl_DrC2_28_9U _ (by kernel_rfl)) (fun KJ hJ => ?_)) | (refine aw_drawW (by kernel_rfl) (id := 16) _ _ (by kernel_rfl) (pl_DrC2_28_16V _ (by kernel_rfl)) (fun KJ hJ => ?_))) | (with_reducible first | refine ru_four ?_ ?_ ?_ ?_ | refine ru_three ?_ ?_ ?_ | refine ru_two ?_ ?_ | refine rv_split ?_ ?_ | refine rv_two ?_ ?_ | refine rp_two ?_ ?_) | ((with_reducible refine evg ?_); simp only [go_sem, St.clean, cleanO, ↓reduceIte, Nat.reduceEqDiff, Nat.reduceBEq, Nat.reduceAdd, Nat.reduceMul, Nat.reduceSub, Nat.reduceLT, Nat.reduceLeDiff]) | (simp (disch := omega) only [wr, drop_at, str_at, int_at, Int.reduceSub, Int.reduceAdd, Int.reduceToNat, Int.toNat_zero, wr]) | ((with_reducible refine ev_call ?_); (first | (refine call_s e1 ?_ ?_ ?_ ?_ ?_; (focus rfl); (focus first | exact trivial | exact And.intro rfl trivial | exact ⟨rfl, rfl, trivial⟩ | exact ⟨rfl, rfl, rfl, trivial⟩); (focus rfl); (focus (simp [-List.map_map, apartO, dropO, killN, obCells, refs_dmap, nofnsD, AV.refs, AV.refsL, AV.nofn, AV.nofns] <;> fail))) | (refine call_s e2 ?_ ?_ ?_ ?_ ?_; (focus rfl); (focus first | exact trivial | exact And.intro rfl trivial | exact ⟨rfl, rfl, trivial⟩ | exact ⟨rfl, rfl, rfl, trivial⟩); (focus rfl); (focus (simp [-List.map_map, apartO, dropO, killN, obCells, refs_dmap, nofnsD, AV.refs, AV.refsL, AV.nofn, AV.nofns] <;> fail)))); refine k_run ?_) | ((with_reducible refine ev_guard ?_); (with_reducible first | refine guard_t ?_ ?_ rfl | refine guard_f ?_ ?_ rfl) <;> (intro h; (try simp only [h]); (try simp only [nrm] at h) <;> (try ((with_reducible exfalso); omega)))) | ((with_reducible refine ck_split (fun h => ?_) (fun h => ?_)) <;> (try simp only [nrm] at h) <;> (try ((with_reducible exfalso); omega))) | ((with_reducible refine And.intro ?_ ?_); (first | omega | focus (simp; done) | focus (simp; omega) | focus ((repeat' (with_reducible refine And.intro ?_ ?_)) <;> first | omega | rfl | (simp only [go_sem, refsL_app, refs_dmap] <;> fail) | (simp [refsL_app, refs_dmap, AV.refsL, AV.refs] <;> omega)))) | (with_reducible refine hJ _ (fun K hK => ?_) ?_ <;> clear hJ KJ) | ((with_reducible refine ev_less ?_); (refine ⟨rfl, ?_, ?_⟩ <;> simp only [go_sem, St.clean, cleanO, SubS, SubO, beq_self_eq_true, ↓reduceIte, Nat.reduceEqDiff, Nat.reduceBEq, Nat.reduceAdd, Nat.reduceMul, Nat.reduceSub, Nat.reduceLT, Nat.reduceLeDiff])) | ((with_reducible first | apply hK | (clear hK K; first | apply hK | (clear hK K; first | apply hK | (clear hK K; apply hK)))); clear hK K) | fail)
    all_goals
      refine ress_step [(11, 5001)] (by simp) (by simp [lensO, lookO, obCells]) rfl ⟨rfl, rfl, trivial⟩ ?_
      simp only [go_sem, ↓reduceIte, Nat.reduceEqDiff, Nat.reduceBEq, Nat.reduceAdd, Nat.reduceMul, Nat.reduceSub, Nat.reduceLT, Nat.reduceLeDiff]
      rfl

end Go.Proofs.YtdeobicgildamaaGreatDoor
