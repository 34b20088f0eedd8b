/- Draws of a clan, a person, a year. -/
import Derived.Test.YtdeobicgildamaaDrC2
import Derived.WalkKit
import Derived.WalkSpells
import Derived.KernelRfl
namespace Go.Proofs.Ytdeobicgildamaa
open Go.RowKit
set_option linter.unusedVariables false
set_option linter.unusedSimpArgs false

attribute [local go_sem] PerV.d PerV.cs perL famD curO codL perO

attribute [local simp] refs_dmap perC_all perC_plains ints_plain ints_all ints_all1 ints_plain_take curO codL perO

attribute [local go_sem] zero_cur

theorem clan_at (s t : Nat) (bs : List Int) (c : CurV) (hb : okCod bs) (h0 : okCur 40000 c) (hs : s < 5000) (ht : t < 5000) (hst : s ≠ t) : FnS Try.prog 51 [(s, curO bs c)] [.bp s 0] [(s, curO bs (claZ bs c).c), (t, .ds (perC (claZ bs c).l))] (.ag [.bs t 0 (claZ bs c).l.length 5]) := by
  have h := ((clan_fn bs c hb h0).sw 5000 s).sw 5001 t
  simpa only [curO, swO, AV.swL, AV.sw, OB.sw, sw_self, swp_1 hs, swp_2 hs hst] using h

theorem year_at (s : Nat) (bs : List Int) (c : CurV) (hb : okCod bs) (h0 : okCur 100000 c) (hs : s < 5000) : FnS Try.prog 53 [(s, curO bs c)] [.bp s 0] [(s, curO bs (y19C bs c))] (.d (.int (y19V bs c))) := by
  have h := (year_hi bs c hb h0).sw 5000 s
  simpa only [curO, swO, AV.swL, AV.sw, OB.sw, sw_self] using h

def sF (bs : List Int) : List PerV := (claZ bs cur0).l

def sB (bs : List Int) : Bool := oneV bs 2 (claZ bs cur0).c && decide (0 < (sF bs).length)

def sC (bs : List Int) : CurV := if sB bs = true then pickC bs 2 (claZ bs cur0).c else p18C bs (sF bs) (pickC bs 2 (claZ bs cur0).c)

def sP (bs : List Int) : Int := if sB bs = true then ((sF bs).getD 0 PerV.zero).id else p18V bs (sF bs) (pickC bs 2 (claZ bs cur0).c)

def sY (bs : List Int) : Int := y19V bs (sC bs)

theorem sF_len {bs : List Int} (hb : okCod bs) : (sF bs).length ≤ 17 := (claZ_ok hb (cur0_ok 0)).2

set_option maxRecDepth 100000 in
theorem pl_DrS_23_4U (l : List Oper) (h : l = opsOf Try.f23 4) : planUB l (.still 6 (.calc 1 (.three true 0 (.two true 2 (.still 3 (.calc 4 (.two true 5 (.one false 7 (.one false 8 (.still 9 (.still 10 PU.fin)))) false 7 (.two true 5 (.one false 8 (.still 9 (.still 10 PU.fin))) false 8 (.one true 5 (.still 9 (.still 10 PU.fin))))))) false 7 (.two true 2 (.still 3 (.calc 4 (.two true 5 (.one false 8 (.still 9 (.still 10 PU.fin))) false 8 (.one true 5 (.still 9 (.still 10 PU.fin)))))) false 8 (.one true 2 (.still 3 (.calc 4 (.one true 5 (.still 9 (.still 10 PU.fin)))))))) true 2 (.still 3 (.calc 4 (.three true 0 (.two true 5 (.one false 7 (.one false 8 (.still 9 (.still 10 PU.fin)))) false 7 (.two true 5 (.one false 8 (.still 9 (.still 10 PU.fin))) false 8 (.one true 5 (.still 9 (.still 10 PU.fin))))) true 5 (.two true 0 (.one false 7 (.one false 8 (.still 9 (.still 10 PU.fin)))) false 7 (.one true 0 (.one false 8 (.still 9 (.still 10 PU.fin))))) false 7 (.two true 0 (.two true 5 (.one false 8 (.still 9 (.still 10 PU.fin))) false 8 (.one true 5 (.still 9 (.still 10 PU.fin)))) true 5 (.one true 0 (.one false 8 (.still 9 (.still 10 PU.fin)))))))) false 7 (.two true 0 (.two true 2 (.still 3 (.calc 4 (.two true 5 (.one false 8 (.still 9 (.still 10 PU.fin))) false 8 (.one true 5 (.still 9 (.still 10 PU.fin)))))) false 8 (.one true 2 (.still 3 (.calc 4 (.one true 5 (.still 9 (.still 10 PU.fin))))))) true 2 (.still 3 (.calc 4 (.two true 0 (.two true 5 (.one false 8 (.still 9 (.still 10 PU.fin))) false 8 (.one true 5 (.still 9 (.still 10 PU.fin)))) true 5 (.one true 0 (.one false 8 (.still 9 (.still 10 PU.fin))))))))))) [7, 8] = true := by
  subst h
  kernel_rfl

set_option maxRecDepth 100000 in
theorem pl_DrS_23_5U (l : List Oper) (h : l = opsOf Try.f23 5) : planUB l (.still 1 (.still 4 (.two true 0 (.one true 2 (.one false 3 (.one false 5 (.one false 6 (.still 7 (.still 8 PU.fin)))))) true 2 (.two true 0 (.one false 3 (.one false 5 (.one false 6 (.still 7 (.still 8 PU.fin))))) false 3 (.two true 0 (.one false 5 (.one false 6 (.still 7 (.still 8 PU.fin)))) false 5 (.one true 0 (.one false 6 (.still 7 (.still 8 PU.fin))))))))) [3, 5, 6] = true := by
  subst h
  kernel_rfl

set_option maxRecDepth 100000 in
set_option maxHeartbeats 4000000 in
theorem drawSame_fn (bs : List Int) (hb : okCod bs) : FnD Try.prog 23 [codL bs] (.tu [famD (sF bs), .int (sP bs), .int (sY bs)]) := by
  have e1 := clan_at 9 11 bs cur0 hb (cur0_ok _) (by decide) (by decide) (by decide)
  obtain ⟨k1, k2⟩ := claZ_ok hb (cur0_ok 0)
  have e2 := one_at 9 bs 2 (claZ bs cur0).c hb (okCur_mono k1 (by omega))
  have q1 := okCur_pick (bs := bs) (n := 2) k1
  have e3 := year_at 9 bs (pickC bs 2 (claZ bs cur0).c) hb (okCur_mono q1 (by omega)) (by decide)
  have e4 := person_at 9 11 bs (claZ bs cur0).l (pickC bs 2 (claZ bs cur0).c) hb (okCur_mono q1 (by omega)) (by omega) (by decide) (by decide) (by decide)
  have q2 := p18_ok (bs := bs) (l := (claZ bs cur0).l) q1
  have e5 := year_at 9 bs (p18C bs (claZ bs cur0).l (pickC bs 2 (claZ bs cur0).c)) hb (okCur_mono q2 (by omega)) (by decide)
  have hY : sY bs = y19V bs (if sB bs = true then pickC bs 2 (claZ bs cur0).c else p18C bs (claZ bs cur0).l (pickC bs 2 (claZ bs cur0).c)) := rfl
  have hP : sP bs = if sB bs = true then ((claZ bs cur0).l.getD 0 PerV.zero).id else p18V bs (claZ bs cur0).l (pickC bs 2 (claZ bs cur0).c) := rfl
  have hB : sB bs = (oneV bs 2 (claZ bs cur0).c && decide (0 < (claZ bs cur0).l.length)) := rfl
  have hF : sF bs = (claZ bs cur0).l := rfl
  rw [hF, hP, hY]
  clear hF hP hY
  generalize sB bs = B at *
  generalize oneV bs 2 (claZ bs cur0).c = o at *
  generalize p18V bs (claZ bs cur0).l (pickC bs 2 (claZ bs cur0).c) = v at *
  generalize hc3 : p18C bs (claZ bs cur0).l (pickC bs 2 (claZ bs cur0).c) = c3 at *
  generalize pickC bs 2 (claZ bs cur0).c = c2 at *
  generalize claZ bs cur0 = Z at *
  obtain ⟨zc, zl, zi⟩ := Z
  simp only [cur0] at *
  have hpl : (perC zl).length = zl.length * 5 := recC_len per_k zl
  have hfin : D.ag [D.ls 5 zl.length (((perC zl).drop 0).take (zl.length * 5))] = famD zl := by
    rw [perC_raw zl]
    rfl
  have hp0 : 0 < zl.length → (perC zl).getD 0 (.v undef) = .int (zl.getD 0 PerV.zero).id := fun h => by
    have := per_get0 (l := zl) (i := 0) h
    simpa using this
  by_cases hz : 0 < zl.length
  · rw [decide_eq_true hz, Bool.and_true] at hB
    subst hB
    have hp := hp0 hz
    cases B
    · rw [if_neg (by simp), if_neg (by simp)]
      generalize y19V bs c3 = y at *
      generalize y19C bs c3 = c4 at *
      refine fn_go Try.func23 rfl rfl Try.ntmps23 Try.results23 (by simp only [slotsOf, argAV, List.map_cons, List.map_nil, Nat.reduceAdd]; rfl) (by simp) ?_
      repeat' (first | (with_reducible first | refine aw_seq fun K hK => ?_ | refine aw_region (by kernel_rfl) ?_ | refine aw_condk ?_ | refine aw_block ?_) | ((with_reducible refine ev_aw ?_); first | (refine aw_drawJ (by kernel_rfl) (id := 4) _ _ (by kernel_rfl) (pl_DrS_23_4U _ (by kernel_rfl)) (fun KJ hJ => ?_)) | (refine aw_drawJ (by kernel_rfl) (id := 5) _ _ (by kernel_rfl) (pl_DrS_23_5U _ (by kernel_rfl)) (fun KJ hJ => ?_))) | (with_reducible first | refine ru_four ?_ ?_ ?_ ?_ | refine ru_three ?_ ?_ ?_ | refine ru_two ?_ ?_ | refine rv_split ?_ ?_ | refine rv_two ?_ ?_ | refine rp_two ?_ ?_) | ((with_reducible refine evg ?_); simp only [go_sem, St.clean, cleanO, ↓reduceIte, Nat.reduceEqDiff, Nat.reduceBEq, Nat.reduceAdd, Nat.reduceMul, Nat.reduceSub, Nat.reduceLT, Nat.reduceLeDiff]) | (simp (disch := omega) only [wr, drop_at, str_at, int_at, Int.reduceSub, Int.reduceAdd, Int.reduceToNat, Int.toNat_zero, wr]) | ((with_reducible refine ev_call ?_); (first | (refine call_s e1 ?_ ?_ ?_ ?_ ?_; (focus rfl); (focus first | exact trivial | exact And.intro rfl trivial | exact ⟨rfl, rfl, trivial⟩ | exact ⟨rfl, rfl, rfl, trivial⟩); (focus rfl); (focus (simp [-List.map_map, apartO, dropO, killN, obCells, refs_dmap, nofnsD, AV.refs, AV.refsL, AV.nofn, AV.nofns] <;> fail))) | (refine call_s e2 ?_ ?_ ?_ ?_ ?_; (focus rfl); (focus first | exact trivial | exact And.intro rfl trivial | exact ⟨rfl, rfl, trivial⟩ | exact ⟨rfl, rfl, rfl, trivial⟩); (focus rfl); (focus (simp [-List.map_map, apartO, dropO, killN, obCells, refs_dmap, nofnsD, AV.refs, AV.refsL, AV.nofn, AV.nofns] <;> fail))) | (refine call_s e4 ?_ ?_ ?_ ?_ ?_; (focus rfl); (focus first | exact trivial | exact And.intro rfl trivial | exact ⟨rfl, rfl, trivial⟩ | exact ⟨rfl, rfl, rfl, trivial⟩); (focus rfl); (focus (simp [-List.map_map, apartO, dropO, killN, obCells, refs_dmap, nofnsD, AV.refs, AV.refsL, AV.nofn, AV.nofns] <;> fail))) | (refine call_s e5 ?_ ?_ ?_ ?_ ?_; (focus rfl); (focus first | exact trivial | exact And.intro rfl trivial | exact ⟨rfl, rfl, trivial⟩ | exact ⟨rfl, rfl, rfl, trivial⟩); (focus rfl); (focus (simp [-List.map_map, apartO, dropO, killN, obCells, refs_dmap, nofnsD, AV.refs, AV.refsL, AV.nofn, AV.nofns] <;> fail)))); refine k_run ?_) | ((with_reducible refine ev_guard ?_); (with_reducible first | refine guard_t ?_ ?_ rfl | refine guard_f ?_ ?_ rfl) <;> (intro h; (try simp only [h]); (try simp only [nrm] at h) <;> (try ((with_reducible exfalso); omega)))) | ((with_reducible refine ck_split (fun h => ?_) (fun h => ?_)) <;> (try simp only [nrm] at h) <;> (try ((with_reducible exfalso); omega))) | ((with_reducible refine And.intro ?_ ?_); (first | omega | focus (simp; done) | focus (simp; omega) | focus ((repeat' (with_reducible refine And.intro ?_ ?_)) <;> first | omega | rfl | (simp only [go_sem, refsL_app, refs_dmap] <;> fail) | (simp [refsL_app, refs_dmap, AV.refsL, AV.refs] <;> omega)))) | (with_reducible refine hJ _ (fun K hK => ?_) ?_ <;> clear hJ KJ) | ((with_reducible refine ev_less ?_); (refine ⟨rfl, ?_, ?_⟩ <;> simp only [go_sem, St.clean, cleanO, SubS, SubO, beq_self_eq_true, ↓reduceIte, Nat.reduceEqDiff, Nat.reduceBEq, Nat.reduceAdd, Nat.reduceMul, Nat.reduceSub, Nat.reduceLT, Nat.reduceLeDiff])) | ((with_reducible first | apply hK | (clear hK K; first | apply hK | (clear hK K; first | apply hK | (clear hK K; apply hK)))); clear hK K) | fail)
      (first | refine res_tmp rfl (by simp [D.plain, plains]) (by simp) ?_ | refine res_at rfl (by simp [D.plain, plains]) (by simp) ?_ | refine res_two rfl (by simp [D.plain, plains]) (by simp) ?_ | refine res_three rfl (by simp [D.plain, plains]) (by simp) ?_)
      exact congrArg (fun x => D.tu [x, _, _]) hfin
    · rw [if_pos rfl, if_pos rfl]
      generalize y19V bs c2 = y at *
      generalize y19C bs c2 = c4 at *
      refine fn_go Try.func23 rfl rfl Try.ntmps23 Try.results23 (by simp only [slotsOf, argAV, List.map_cons, List.map_nil, Nat.reduceAdd]; rfl) (by simp) ?_
      repeat' (first | (with_reducible first | refine aw_seq fun K hK => ?_ | refine aw_region (by kernel_rfl) ?_ | refine aw_condk ?_ | refine aw_block ?_) | ((with_reducible refine ev_aw ?_); first | (refine aw_drawJ (by kernel_rfl) (id := 4) _ _ (by kernel_rfl) (pl_DrS_23_4U _ (by kernel_rfl)) (fun KJ hJ => ?_)) | (refine aw_drawJ (by kernel_rfl) (id := 5) _ _ (by kernel_rfl) (pl_DrS_23_5U _ (by kernel_rfl)) (fun KJ hJ => ?_))) | (with_reducible first | refine ru_four ?_ ?_ ?_ ?_ | refine ru_three ?_ ?_ ?_ | refine ru_two ?_ ?_ | refine rv_split ?_ ?_ | refine rv_two ?_ ?_ | refine rp_two ?_ ?_) | ((with_reducible refine evg ?_); simp only [go_sem, St.clean, cleanO, ↓reduceIte, Nat.reduceEqDiff, Nat.reduceBEq, Nat.reduceAdd, Nat.reduceMul, Nat.reduceSub, Nat.reduceLT, Nat.reduceLeDiff]) | (simp (disch := omega) only [wr, drop_at, str_at, int_at, Int.reduceSub, Int.reduceAdd, Int.reduceToNat, Int.toNat_zero, hp, wr]) | ((with_reducible refine ev_call ?_); (first | (refine call_s e1 ?_ ?_ ?_ ?_ ?_; (focus rfl); (focus first | exact trivial | exact And.intro rfl trivial | exact ⟨rfl, rfl, trivial⟩ | exact ⟨rfl, rfl, rfl, trivial⟩); (focus rfl); (focus (simp [-List.map_map, apartO, dropO, killN, obCells, refs_dmap, nofnsD, AV.refs, AV.refsL, AV.nofn, AV.nofns] <;> fail))) | (refine call_s e2 ?_ ?_ ?_ ?_ ?_; (focus rfl); (focus first | exact trivial | exact And.intro rfl trivial | exact ⟨rfl, rfl, trivial⟩ | exact ⟨rfl, rfl, rfl, trivial⟩); (focus rfl); (focus (simp [-List.map_map, apartO, dropO, killN, obCells, refs_dmap, nofnsD, AV.refs, AV.refsL, AV.nofn, AV.nofns] <;> fail))) | (refine call_s e3 ?_ ?_ ?_ ?_ ?_; (focus rfl); (focus first | exact trivial | exact And.intro rfl trivial | exact ⟨rfl, rfl, trivial⟩ | exact ⟨rfl, rfl, rfl, trivial⟩); (focus rfl); (focus (simp [-List.map_map, apartO, dropO, killN, obCells, refs_dmap, nofnsD, AV.refs, AV.refsL, AV.nofn, AV.nofns] <;> fail)))); refine k_run ?_) | ((with_reducible refine ev_guard ?_); (with_reducible first | refine guard_t ?_ ?_ rfl | refine guard_f ?_ ?_ rfl) <;> (intro h; (try simp only [h]); (try simp only [nrm] at h) <;> (try ((with_reducible exfalso); omega)))) | ((with_reducible refine ck_split (fun h => ?_) (fun h => ?_)) <;> (try simp only [nrm] at h) <;> (try ((with_reducible exfalso); omega))) | ((with_reducible refine And.intro ?_ ?_); (first | omega | focus (simp; done) | focus (simp; omega) | focus ((repeat' (with_reducible refine And.intro ?_ ?_)) <;> first | omega | rfl | (simp only [go_sem, refsL_app, refs_dmap] <;> fail) | (simp [refsL_app, refs_dmap, AV.refsL, AV.refs] <;> omega)))) | (with_reducible refine hJ _ (fun K hK => ?_) ?_ <;> clear hJ KJ) | ((with_reducible refine ev_less ?_); (refine ⟨rfl, ?_, ?_⟩ <;> simp only [go_sem, St.clean, cleanO, SubS, SubO, beq_self_eq_true, ↓reduceIte, Nat.reduceEqDiff, Nat.reduceBEq, Nat.reduceAdd, Nat.reduceMul, Nat.reduceSub, Nat.reduceLT, Nat.reduceLeDiff])) | ((with_reducible first | apply hK | (clear hK K; first | apply hK | (clear hK K; first | apply hK | (clear hK K; apply hK)))); clear hK K) | fail)
      (first | refine res_tmp rfl (by simp [D.plain, plains]) (by simp) ?_ | refine res_at rfl (by simp [D.plain, plains]) (by simp) ?_ | refine res_two rfl (by simp [D.plain, plains]) (by simp) ?_ | refine res_three rfl (by simp [D.plain, plains]) (by simp) ?_)
      exact congrArg (fun x => D.tu [x, _, _]) hfin
  · rw [decide_eq_false hz, Bool.and_false] at hB
    subst hB
    rw [if_neg (by simp), if_neg (by simp)]
    generalize y19V bs c3 = y at *
    generalize y19C bs c3 = c4 at *
    cases o
    all_goals
      refine fn_go Try.func23 rfl rfl Try.ntmps23 Try.results23 (by simp only [slotsOf, argAV, List.map_cons, List.map_nil, Nat.reduceAdd]; rfl) (by simp) ?_
      repeat' (first | (with_reducible first | refine aw_seq fun K hK => ?_ | refine aw_region (by kernel_rfl) ?_ | refine aw_condk ?_ | refine aw_block ?_) | ((with_reducible refine ev_aw ?_); first | (refine aw_drawJ (by kernel_rfl) (id := 4) _ _ (by kernel_rfl) (pl_DrS_23_4U _ (by kernel_rfl)) (fun KJ hJ => ?_)) | (refine aw_drawJ (by kernel_rfl) (id := 5) _ _ (by kernel_rfl) (pl_DrS_23_5U _ (by kernel_rfl)) (fun KJ hJ => ?_))) | (with_reducible first | refine ru_four ?_ ?_ ?_ ?_ | refine ru_three ?_ ?_ ?_ | refine ru_two ?_ ?_ | refine rv_split ?_ ?_ | refine rv_two ?_ ?_ | refine rp_two ?_ ?_) | ((with_reducible refine evg ?_); simp only [go_sem, St.clean, cleanO, ↓reduceIte, Nat.reduceEqDiff, Nat.reduceBEq, Nat.reduceAdd, Nat.reduceMul, Nat.reduceSub, Nat.reduceLT, Nat.reduceLeDiff]) | (simp (disch := omega) only [wr, drop_at, str_at, int_at, Int.reduceSub, Int.reduceAdd, Int.reduceToNat, Int.toNat_zero, wr]) | ((with_reducible refine ev_call ?_); (first | (refine call_s e1 ?_ ?_ ?_ ?_ ?_; (focus rfl); (focus first | exact trivial | exact And.intro rfl trivial | exact ⟨rfl, rfl, trivial⟩ | exact ⟨rfl, rfl, rfl, trivial⟩); (focus rfl); (focus (simp [-List.map_map, apartO, dropO, killN, obCells, refs_dmap, nofnsD, AV.refs, AV.refsL, AV.nofn, AV.nofns] <;> fail))) | (refine call_s e2 ?_ ?_ ?_ ?_ ?_; (focus rfl); (focus first | exact trivial | exact And.intro rfl trivial | exact ⟨rfl, rfl, trivial⟩ | exact ⟨rfl, rfl, rfl, trivial⟩); (focus rfl); (focus (simp [-List.map_map, apartO, dropO, killN, obCells, refs_dmap, nofnsD, AV.refs, AV.refsL, AV.nofn, AV.nofns] <;> fail))) | (refine call_s e4 ?_ ?_ ?_ ?_ ?_; (focus rfl); (focus first | exact trivial | exact And.intro rfl trivial | exact ⟨rfl, rfl, trivial⟩ | exact ⟨rfl, rfl, rfl, trivial⟩); (focus rfl); (focus (simp [-List.map_map, apartO, dropO, killN, obCells, refs_dmap, nofnsD, AV.refs, AV.refsL, AV.nofn, AV.nofns] <;> fail))) | (refine call_s e5 ?_ ?_ ?_ ?_ ?_; (focus rfl); (focus first | exact trivial | exact And.intro rfl trivial | exact ⟨rfl, rfl, trivial⟩ | exact ⟨rfl, rfl, rfl, trivial⟩); (focus rfl); (focus (simp [-List.map_map, apartO, dropO, killN, obCells, refs_dmap, nofnsD, AV.refs, AV.refsL, AV.nofn, AV.nofns] <;> fail)))); refine k_run ?_) | ((with_reducible refine ev_guard ?_); (with_reducible first | refine guard_t ?_ ?_ rfl | refine guard_f ?_ ?_ rfl) <;> (intro h; (try simp only [h]); (try simp only [nrm] at h) <;> (try ((with_reducible exfalso); omega)))) | ((with_reducible refine ck_split (fun h => ?_) (fun h => ?_)) <;> (try simp only [nrm] at h) <;> (try ((with_reducible exfalso); omega))) | ((with_reducible refine And.intro ?_ ?_); (first | omega | focus (simp; done) | focus (simp; omega) | focus ((repeat' (with_reducible refine And.intro ?_ ?_)) <;> first | omega | rfl | (simp only [go_sem, refsL_app, refs_dmap] <;> fail) | (simp [refsL_app, refs_dmap, AV.refsL, AV.refs] <;> omega)))) | (with_reducible refine hJ _ (fun K hK => ?_) ?_ <;> clear hJ KJ) | ((with_reducible refine ev_less ?_); (refine ⟨rfl, ?_, ?_⟩ <;> simp only [go_sem, St.clean, cleanO, SubS, SubO, beq_self_eq_true, ↓reduceIte, Nat.reduceEqDiff, Nat.reduceBEq, Nat.reduceAdd, Nat.reduceMul, Nat.reduceSub, Nat.reduceLT, Nat.reduceLeDiff])) | ((with_reducible first | apply hK | (clear hK K; first | apply hK | (clear hK K; first | apply hK | (clear hK K; apply hK)))); clear hK K) | fail)
      all_goals (try omega)
      (first | refine res_tmp rfl (by simp [D.plain, plains]) (by simp) ?_ | refine res_at rfl (by simp [D.plain, plains]) (by simp) ?_ | refine res_two rfl (by simp [D.plain, plains]) (by simp) ?_ | refine res_three rfl (by simp [D.plain, plains]) (by simp) ?_)
      exact congrArg (fun x => D.tu [x, _, _]) hfin

end Go.Proofs.Ytdeobicgildamaa
