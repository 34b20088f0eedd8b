/- Draws of a clan, two persons, a year. -/
import Derived.Test.YtdeobicgildamaaGreatDoorDrS
import Derived.WalkKit
import Derived.WalkSpells
import Derived.KernelRfl
namespace Go.Proofs.YtdeobicgildamaaGreatDoor
open Go.RowKit
set_option linter.unusedVariables false
set_option linter.unusedSimpArgs false

attribute [local go_sem] PerV.d PerV.cs perL famD curO codL perO

attribute [local simp] refs_dmap perC_all perC_plains ints_plain ints_all ints_all1 ints_plain_take curO codL perO

attribute [local go_sem] zero_cur

def tB (bs : List Int) : Bool := oneV bs 2 (claZ bs cur0).c && decide (0 < (sF bs).length)

def tC (bs : List Int) : CurV := pickC bs 2 (claZ bs cur0).c

def tP (bs : List Int) : Int := if tB bs = true then ((sF bs).getD 0 PerV.zero).id else p18V bs (sF bs) (tC bs)

def tD (bs : List Int) : CurV := if tB bs = true then tC bs else p18C bs (sF bs) (tC bs)

def tQ (bs : List Int) : Int := p18V bs (sF bs) (tD bs)

def tY (bs : List Int) : Int := y19V bs (p18C bs (sF bs) (tD bs))

set_option maxRecDepth 100000 in
theorem pl_MkDt_11_4V (l : List Oper) (h : l = opsOf Tryz.f11 4) : planVB l (.still 6 (.still 9 (.calc 1 (.split 0 (.split 2 (.still 3 (.calc 4 (.split 5 (.split 7 (.one 8 (.one 10 (.one 11 (.still 12 (.still 13 (.still 14 PV.fin)))))) (.dead 6)) (.split 7 (.one 8 (.split 5 (.one 10 (.one 11 (.still 12 (.still 13 (.still 14 PV.fin))))) (.one 10 (.split 5 (.one 11 (.still 12 (.still 13 (.still 14 PV.fin)))) (.one 11 (.split 5 (.still 12 (.still 13 (.still 14 PV.fin))) (.dead 3))))))) (.dead 7))))) (.split 7 (.one 8 (.split 2 (.still 3 (.calc 4 (.split 5 (.one 10 (.one 11 (.still 12 (.still 13 (.still 14 PV.fin))))) (.one 10 (.split 5 (.one 11 (.still 12 (.still 13 (.still 14 PV.fin)))) (.one 11 (.split 5 (.still 12 (.still 13 (.still 14 PV.fin))) (.dead 3)))))))) (.one 10 (.split 2 (.still 3 (.calc 4 (.split 5 (.one 11 (.still 12 (.still 13 (.still 14 PV.fin)))) (.one 11 (.split 5 (.still 12 (.still 13 (.still 14 PV.fin))) (.dead 3)))))) (.one 11 (.split 2 (.still 3 (.calc 4 (.split 5 (.still 12 (.still 13 (.still 14 PV.fin))) (.dead 3)))) (.dead 6))))))) (.dead 10))) (.split 2 (.still 3 (.calc 4 (.split 5 (.split 7 (.one 8 (.split 0 (.one 10 (.one 11 (.still 12 (.still 13 (.still 14 PV.fin))))) (.one 10 (.split 0 (.one 11 (.still 12 (.still 13 (.still 14 PV.fin)))) (.dead 4))))) (.dead 7)) (.split 7 (.one 8 (.split 0 (.split 5 (.one 10 (.one 11 (.still 12 (.still 13 (.still 14 PV.fin))))) (.one 10 (.split 5 (.one 11 (.still 12 (.still 13 (.still 14 PV.fin)))) (.one 11 (.split 5 (.still 12 (.still 13 (.still 14 PV.fin))) (.dead 3)))))) (.split 5 (.one 10 (.split 0 (.one 11 (.still 12 (.still 13 (.still 14 PV.fin)))) (.dead 4))) (.one 10 (.split 0 (.split 5 (.one 11 (.still 12 (.still 13 (.still 14 PV.fin)))) (.one 11 (.split 5 (.still 12 (.still 13 (.still 14 PV.fin))) (.dead 3)))) (.split 5 (.dead 4) (.dead 5))))))) (.dead 8))))) (.split 7 (.one 8 (.split 0 (.split 2 (.still 3 (.calc 4 (.split 5 (.one 10 (.one 11 (.still 12 (.still 13 (.still 14 PV.fin))))) (.one 10 (.split 5 (.one 11 (.still 12 (.still 13 (.still 14 PV.fin)))) (.one 11 (.split 5 (.still 12 (.still 13 (.still 14 PV.fin))) (.dead 3)))))))) (.one 10 (.split 2 (.still 3 (.calc 4 (.split 5 (.one 11 (.still 12 (.still 13 (.still 14 PV.fin)))) (.one 11 (.split 5 (.still 12 (.still 13 (.still 14 PV.fin))) (.dead 3)))))) (.one 11 (.split 2 (.still 3 (.calc 4 (.split 5 (.still 12 (.still 13 (.still 14 PV.fin))) (.dead 3)))) (.dead 6)))))) (.split 2 (.still 3 (.calc 4 (.split 5 (.one 10 (.split 0 (.one 11 (.still 12 (.still 13 (.still 14 PV.fin)))) (.dead 4))) (.one 10 (.split 0 (.split 5 (.one 11 (.still 12 (.still 13 (.still 14 PV.fin)))) (.one 11 (.split 5 (.still 12 (.still 13 (.still 14 PV.fin))) (.dead 3)))) (.split 5 (.dead 4) (.dead 5))))))) (.one 10 (.split 0 (.split 2 (.still 3 (.calc 4 (.split 5 (.one 11 (.still 12 (.still 13 (.still 14 PV.fin)))) (.one 11 (.split 5 (.still 12 (.still 13 (.still 14 PV.fin))) (.dead 3)))))) (.one 11 (.split 2 (.still 3 (.calc 4 (.split 5 (.still 12 (.still 13 (.still 14 PV.fin))) (.dead 3)))) (.dead 6)))) (.split 2 (.still 3 (.calc 4 (.split 5 (.dead 4) (.dead 5)))) (.dead 8))))))) (.dead 11))))))) [0, 1, 2, 3, 4, 5, 6, 7, 9, 12, 13, 14] = true := by
  subst h
  kernel_rfl

set_option maxRecDepth 100000 in
theorem pl_MkDt_11_5V (l : List Oper) (h : l = opsOf Tryz.f11 5) : planVB l (.still 1 (.still 4 (.still 7 (.split 0 (.split 2 (.split 5 (.one 3 (.one 6 (.one 8 (.one 9 (.still 10 (.still 11 (.still 12 PV.fin))))))) (.one 3 (.split 5 (.one 6 (.one 8 (.one 9 (.still 10 (.still 11 (.still 12 PV.fin)))))) (.dead 6)))) (.split 5 (.dead 7) (.dead 8))) (.split 2 (.split 5 (.one 3 (.split 0 (.one 6 (.one 8 (.one 9 (.still 10 (.still 11 (.still 12 PV.fin)))))) (.one 6 (.split 0 (.one 8 (.one 9 (.still 10 (.still 11 (.still 12 PV.fin))))) (.one 8 (.split 0 (.one 9 (.still 10 (.still 11 (.still 12 PV.fin)))) (.dead 4))))))) (.one 3 (.split 0 (.split 5 (.one 6 (.one 8 (.one 9 (.still 10 (.still 11 (.still 12 PV.fin)))))) (.dead 6)) (.split 5 (.one 6 (.split 0 (.one 8 (.one 9 (.still 10 (.still 11 (.still 12 PV.fin))))) (.one 8 (.split 0 (.one 9 (.still 10 (.still 11 (.still 12 PV.fin)))) (.dead 4))))) (.dead 7))))) (.split 5 (.dead 8) (.dead 9))))))) [0, 1, 2, 4, 5, 7, 10, 11, 12] = true := by
  subst h
  kernel_rfl

set_option maxRecDepth 100000 in
set_option maxHeartbeats 4000000 in
theorem drawMTo_fn (bs : List Int) (hb : okCod bs) : FnD Tryz.prog 11 [codL bs] (.tu [famD (sF bs), .int (tP bs), .int (tQ bs), .int (tY bs)]) := by
  have e1 := clan_at 10 12 bs cur0 hb (cur0_ok _) (by decide) (by decide) (by decide)
  obtain ⟨k1, k2⟩ := claZ_ok hb (cur0_ok 0)
  have e2 := one_at 10 bs 2 (claZ bs cur0).c hb (okCur_mono k1 (by omega))
  have q1 := okCur_pick (bs := bs) (n := 2) k1
  have e4 := person_at 10 12 bs (claZ bs cur0).l (pickC bs 2 (claZ bs cur0).c) hb (okCur_mono q1 (by omega)) (by omega) (by decide) (by decide) (by decide)
  have q2 := p18_ok (bs := bs) (l := (claZ bs cur0).l) q1
  have e5 := year_at 10 bs (p18C bs (claZ bs cur0).l (pickC bs 2 (claZ bs cur0).c)) hb (okCur_mono q2 (by omega)) (by decide)
  have e6 := person_at 10 12 bs (claZ bs cur0).l (p18C bs (claZ bs cur0).l (pickC bs 2 (claZ bs cur0).c)) hb (okCur_mono q2 (by omega)) (by omega) (by decide) (by decide) (by decide)
  have q3 := p18_ok (bs := bs) (l := (claZ bs cur0).l) q2
  have e7 := year_at 10 bs (p18C bs (claZ bs cur0).l (p18C bs (claZ bs cur0).l (pickC bs 2 (claZ bs cur0).c))) hb (okCur_mono q3 (by omega)) (by decide)
  have hY : tY bs = y19V bs (p18C bs (claZ bs cur0).l (if tB bs = true then pickC bs 2 (claZ bs cur0).c else p18C bs (claZ bs cur0).l (pickC bs 2 (claZ bs cur0).c))) := rfl
  have hQ : tQ bs = p18V bs (claZ bs cur0).l (if tB bs = true then pickC bs 2 (claZ bs cur0).c else p18C bs (claZ bs cur0).l (pickC bs 2 (claZ bs cur0).c)) := rfl
  have hP : tP bs = if tB bs = true then ((claZ bs cur0).l.getD 0 PerV.zero).id else p18V bs (claZ bs cur0).l (pickC bs 2 (claZ bs cur0).c) := rfl
  have hB : tB bs = (oneV bs 2 (claZ bs cur0).c && decide (0 < (claZ bs cur0).l.length)) := rfl
  have hF : sF bs = (claZ bs cur0).l := rfl
  rw [hF, hP, hQ, hY]
  clear hF hP hQ hY
  generalize tB bs = B at *
  generalize oneV bs 2 (claZ bs cur0).c = o at *
  generalize hv2 : p18V bs (claZ bs cur0).l (p18C bs (claZ bs cur0).l (pickC bs 2 (claZ bs cur0).c)) = v2 at *
  generalize hc4 : p18C bs (claZ bs cur0).l (p18C bs (claZ bs cur0).l (pickC bs 2 (claZ bs cur0).c)) = c4 at *
  generalize hv : p18V bs (claZ bs cur0).l (pickC bs 2 (claZ bs cur0).c) = v at *
  generalize hc3 : p18C bs (claZ bs cur0).l (pickC bs 2 (claZ bs cur0).c) = c3 at *
  generalize pickC bs 2 (claZ bs cur0).c = c2 at *
  generalize claZ bs cur0 = Z at *
  obtain ⟨zc, zl, zi⟩ := Z
  simp only [cur0] at *
  have hpl : (perC zl).length = zl.length * 5 := recC_len per_k zl
  have hfin : D.ag [D.ls 5 zl.length (((perC zl).drop 0).take (zl.length * 5))] = famD zl := by
    rw [perC_raw zl]
    rfl
  have hp0 : 0 < zl.length → (perC zl).getD 0 (.v undef) = .int (zl.getD 0 PerV.zero).id := fun h => by
    have := per_get0 (l := zl) (i := 0) h
    simpa using this
  generalize hy4 : y19V bs c4 = y4 at *
  generalize y19C bs c4 = c5 at *
  generalize hy3 : y19V bs c3 = y3 at *
  generalize y19C bs c3 = c6 at *
  by_cases hz : 0 < zl.length
  · rw [decide_eq_true hz, Bool.and_true] at hB
    subst hB
    have hp := hp0 hz
    have hpz : 0 < (perC zl).length := by
      rw [hpl]
      omega
    cases B
    · rw [if_neg (by simp), if_neg (by simp), hv2, hc4, hy4]
      refine fn_go Tryz.func11 rfl rfl Tryz.ntmps11 Tryz.results11 (by simp only [slotsOf, argAV, List.map_cons, List.map_nil, Nat.reduceAdd]; rfl) (by simp) ?_
      repeat' (first | (with_reducible first | refine aw_seq fun K hK => ?_ | refine aw_region (by kernel_rfl) ?_ | refine aw_condk ?_ | refine aw_block ?_) | ((with_reducible refine ev_aw ?_); first | (refine aw_drawW (by kernel_rfl) (id := 4) _ _ (by kernel_rfl) (pl_MkDt_11_4V _ (by kernel_rfl)) (fun KJ hJ => ?_)) | (refine aw_drawW (by kernel_rfl) (id := 5) _ _ (by kernel_rfl) (pl_MkDt_11_5V _ (by kernel_rfl)) (fun KJ hJ => ?_))) | (with_reducible first | refine ru_four ?_ ?_ ?_ ?_ | refine ru_three ?_ ?_ ?_ | refine ru_two ?_ ?_ | refine rv_split ?_ ?_ | refine rv_two ?_ ?_ | refine rp_two ?_ ?_) | ((with_reducible refine evg ?_); simp only [go_sem, St.clean, cleanO, ↓reduceIte, Nat.reduceEqDiff, Nat.reduceBEq, Nat.reduceAdd, Nat.reduceMul, Nat.reduceSub, Nat.reduceLT, Nat.reduceLeDiff]) | (simp (disch := omega) only [wr, drop_at, str_at, int_at, Int.reduceSub, Int.reduceAdd, Int.reduceToNat, Int.toNat_zero, wr]) | ((with_reducible refine ev_call ?_); (first | (refine call_s e1 ?_ ?_ ?_ ?_ ?_; (focus rfl); (focus first | exact trivial | exact And.intro rfl trivial | exact ⟨rfl, rfl, trivial⟩ | exact ⟨rfl, rfl, rfl, trivial⟩); (focus rfl); (focus (simp [-List.map_map, apartO, dropO, killN, obCells, refs_dmap, nofnsD, AV.refs, AV.refsL, AV.nofn, AV.nofns] <;> fail))) | (refine call_s e2 ?_ ?_ ?_ ?_ ?_; (focus rfl); (focus first | exact trivial | exact And.intro rfl trivial | exact ⟨rfl, rfl, trivial⟩ | exact ⟨rfl, rfl, rfl, trivial⟩); (focus rfl); (focus (simp [-List.map_map, apartO, dropO, killN, obCells, refs_dmap, nofnsD, AV.refs, AV.refsL, AV.nofn, AV.nofns] <;> fail))) | (refine call_s e4 ?_ ?_ ?_ ?_ ?_; (focus rfl); (focus first | exact trivial | exact And.intro rfl trivial | exact ⟨rfl, rfl, trivial⟩ | exact ⟨rfl, rfl, rfl, trivial⟩); (focus rfl); (focus (simp [-List.map_map, apartO, dropO, killN, obCells, refs_dmap, nofnsD, AV.refs, AV.refsL, AV.nofn, AV.nofns] <;> fail))) | (refine call_s e6 ?_ ?_ ?_ ?_ ?_; (focus rfl); (focus first | exact trivial | exact And.intro rfl trivial | exact ⟨rfl, rfl, trivial⟩ | exact ⟨rfl, rfl, rfl, trivial⟩); (focus rfl); (focus (simp [-List.map_map, apartO, dropO, killN, obCells, refs_dmap, nofnsD, AV.refs, AV.refsL, AV.nofn, AV.nofns] <;> fail))) | (refine call_s e7 ?_ ?_ ?_ ?_ ?_; (focus rfl); (focus first | exact trivial | exact And.intro rfl trivial | exact ⟨rfl, rfl, trivial⟩ | exact ⟨rfl, rfl, rfl, trivial⟩); (focus rfl); (focus (simp [-List.map_map, apartO, dropO, killN, obCells, refs_dmap, nofnsD, AV.refs, AV.refsL, AV.nofn, AV.nofns] <;> fail)))); refine k_run ?_) | ((with_reducible refine ev_guard ?_); (with_reducible first | refine guard_t ?_ ?_ rfl | refine guard_f ?_ ?_ rfl) <;> (intro h; (try simp only [h]); (try simp only [nrm] at h) <;> (try ((with_reducible exfalso); omega)))) | ((with_reducible refine ck_split (fun h => ?_) (fun h => ?_)) <;> (try simp only [nrm] at h) <;> (try ((with_reducible exfalso); omega))) | ((with_reducible refine And.intro ?_ ?_); (first | omega | focus (simp; done) | focus (simp; omega) | focus ((repeat' (with_reducible refine And.intro ?_ ?_)) <;> first | omega | rfl | (simp only [go_sem, refsL_app, refs_dmap] <;> fail) | (simp [refsL_app, refs_dmap, AV.refsL, AV.refs] <;> omega)))) | (with_reducible refine hJ _ (fun K hK => ?_) ?_ <;> clear hJ KJ) | ((with_reducible refine ev_less ?_); (refine ⟨rfl, ?_, ?_⟩ <;> simp only [go_sem, St.clean, cleanO, SubS, SubO, beq_self_eq_true, ↓reduceIte, Nat.reduceEqDiff, Nat.reduceBEq, Nat.reduceAdd, Nat.reduceMul, Nat.reduceSub, Nat.reduceLT, Nat.reduceLeDiff])) | ((with_reducible first | apply hK | (clear hK K; first | apply hK | (clear hK K; first | apply hK | (clear hK K; apply hK)))); clear hK K) | fail)
      (first | refine res_tmp rfl (by simp [D.plain, plains]) (by simp) ?_ | refine res_at rfl (by simp [D.plain, plains]) (by simp) ?_ | refine res_two rfl (by simp [D.plain, plains]) (by simp) ?_ | refine res_three rfl (by simp [D.plain, plains]) (by simp) ?_)
      exact congrArg (fun x => D.tu [x, _, _, _]) hfin
    · rw [if_pos rfl, if_pos rfl, hv, hc3, hy3]
      refine fn_go Tryz.func11 rfl rfl Tryz.ntmps11 Tryz.results11 (by simp only [slotsOf, argAV, List.map_cons, List.map_nil, Nat.reduceAdd]; rfl) (by simp) ?_
      repeat' (first | (with_reducible first | refine aw_seq fun K hK => ?_ | refine aw_region (by kernel_rfl) ?_ | refine aw_condk ?_ | refine aw_block ?_) | ((with_reducible refine ev_aw ?_); first | (refine aw_drawW (by kernel_rfl) (id := 4) _ _ (by kernel_rfl) (pl_MkDt_11_4V _ (by kernel_rfl)) (fun KJ hJ => ?_)) | (refine aw_drawW (by kernel_rfl) (id := 5) _ _ (by kernel_rfl) (pl_MkDt_11_5V _ (by kernel_rfl)) (fun KJ hJ => ?_))) | (with_reducible first | refine ru_four ?_ ?_ ?_ ?_ | refine ru_three ?_ ?_ ?_ | refine ru_two ?_ ?_ | refine rv_split ?_ ?_ | refine rv_two ?_ ?_ | refine rp_two ?_ ?_) | ((with_reducible refine evg ?_); simp only [go_sem, St.clean, cleanO, ↓reduceIte, Nat.reduceEqDiff, Nat.reduceBEq, Nat.reduceAdd, Nat.reduceMul, Nat.reduceSub, Nat.reduceLT, Nat.reduceLeDiff]) | (simp (disch := omega) only [wr, drop_at, str_at, int_at, Int.reduceSub, Int.reduceAdd, Int.reduceToNat, Int.toNat_zero, hp, wr]) | ((with_reducible refine ev_call ?_); (first | (refine call_s e1 ?_ ?_ ?_ ?_ ?_; (focus rfl); (focus first | exact trivial | exact And.intro rfl trivial | exact ⟨rfl, rfl, trivial⟩ | exact ⟨rfl, rfl, rfl, trivial⟩); (focus rfl); (focus (simp [-List.map_map, apartO, dropO, killN, obCells, refs_dmap, nofnsD, AV.refs, AV.refsL, AV.nofn, AV.nofns] <;> fail))) | (refine call_s e2 ?_ ?_ ?_ ?_ ?_; (focus rfl); (focus first | exact trivial | exact And.intro rfl trivial | exact ⟨rfl, rfl, trivial⟩ | exact ⟨rfl, rfl, rfl, trivial⟩); (focus rfl); (focus (simp [-List.map_map, apartO, dropO, killN, obCells, refs_dmap, nofnsD, AV.refs, AV.refsL, AV.nofn, AV.nofns] <;> fail))) | (refine call_s e4 ?_ ?_ ?_ ?_ ?_; (focus rfl); (focus first | exact trivial | exact And.intro rfl trivial | exact ⟨rfl, rfl, trivial⟩ | exact ⟨rfl, rfl, rfl, trivial⟩); (focus rfl); (focus (simp [-List.map_map, apartO, dropO, killN, obCells, refs_dmap, nofnsD, AV.refs, AV.refsL, AV.nofn, AV.nofns] <;> fail))) | (refine call_s e5 ?_ ?_ ?_ ?_ ?_; (focus rfl); (focus first | exact trivial | exact And.intro rfl trivial | exact ⟨rfl, rfl, trivial⟩ | exact ⟨rfl, rfl, rfl, trivial⟩); (focus rfl); (focus (simp [-List.map_map, apartO, dropO, killN, obCells, refs_dmap, nofnsD, AV.refs, AV.refsL, AV.nofn, AV.nofns] <;> fail)))); refine k_run ?_) | ((with_reducible refine ev_guard ?_); (with_reducible first | refine guard_t ?_ ?_ rfl | refine guard_f ?_ ?_ rfl) <;> (intro h; (try simp only [h]); (try simp only [nrm] at h) <;> (try ((with_reducible exfalso); omega)))) | ((with_reducible refine ck_split (fun h => ?_) (fun h => ?_)) <;> (try simp only [nrm] at h) <;> (try ((with_reducible exfalso); omega))) | ((with_reducible refine And.intro ?_ ?_); (first | omega | focus (simp; done) | focus (simp; omega) | focus ((repeat' (with_reducible refine And.intro ?_ ?_)) <;> first | omega | rfl | (simp only [go_sem, refsL_app, refs_dmap] <;> fail) | (simp [refsL_app, refs_dmap, AV.refsL, AV.refs] <;> omega)))) | (with_reducible refine hJ _ (fun K hK => ?_) ?_ <;> clear hJ KJ) | ((with_reducible refine ev_less ?_); (refine ⟨rfl, ?_, ?_⟩ <;> simp only [go_sem, St.clean, cleanO, SubS, SubO, beq_self_eq_true, ↓reduceIte, Nat.reduceEqDiff, Nat.reduceBEq, Nat.reduceAdd, Nat.reduceMul, Nat.reduceSub, Nat.reduceLT, Nat.reduceLeDiff])) | ((with_reducible first | apply hK | (clear hK K; first | apply hK | (clear hK K; first | apply hK | (clear hK K; apply hK)))); clear hK K) | fail)
      all_goals (try (exact hpz))
      (first | refine res_tmp rfl (by simp [D.plain, plains]) (by simp) ?_ | refine res_at rfl (by simp [D.plain, plains]) (by simp) ?_ | refine res_two rfl (by simp [D.plain, plains]) (by simp) ?_ | refine res_three rfl (by simp [D.plain, plains]) (by simp) ?_)
      exact congrArg (fun x => D.tu [x, _, _, _]) hfin
  · rw [decide_eq_false hz, Bool.and_false] at hB
    subst hB
    rw [if_neg (by simp), if_neg (by simp), hv2, hc4, hy4]
    cases o
    all_goals
      refine fn_go Tryz.func11 rfl rfl Tryz.ntmps11 Tryz.results11 (by simp only [slotsOf, argAV, List.map_cons, List.map_nil, Nat.reduceAdd]; rfl) (by simp) ?_
      repeat' (first | (with_reducible first | refine aw_seq fun K hK => ?_ | refine aw_region (by kernel_rfl) ?_ | refine aw_condk ?_ | refine aw_block ?_) | ((with_reducible refine ev_aw ?_); first | (refine aw_drawW (by kernel_rfl) (id := 4) _ _ (by kernel_rfl) (pl_MkDt_11_4V _ (by kernel_rfl)) (fun KJ hJ => ?_)) | (refine aw_drawW (by kernel_rfl) (id := 5) _ _ (by kernel_rfl) (pl_MkDt_11_5V _ (by kernel_rfl)) (fun KJ hJ => ?_))) | (with_reducible first | refine ru_four ?_ ?_ ?_ ?_ | refine ru_three ?_ ?_ ?_ | refine ru_two ?_ ?_ | refine rv_split ?_ ?_ | refine rv_two ?_ ?_ | refine rp_two ?_ ?_) | ((with_reducible refine evg ?_); simp only [go_sem, St.clean, cleanO, ↓reduceIte, Nat.reduceEqDiff, Nat.reduceBEq, Nat.reduceAdd, Nat.reduceMul, Nat.reduceSub, Nat.reduceLT, Nat.reduceLeDiff]) | (simp (disch := omega) only [wr, drop_at, str_at, int_at, Int.reduceSub, Int.reduceAdd, Int.reduceToNat, Int.toNat_zero, wr]) | ((with_reducible refine ev_call ?_); (first | (refine call_s e1 ?_ ?_ ?_ ?_ ?_; (focus rfl); (focus first | exact trivial | exact And.intro rfl trivial | exact ⟨rfl, rfl, trivial⟩ | exact ⟨rfl, rfl, rfl, trivial⟩); (focus rfl); (focus (simp [-List.map_map, apartO, dropO, killN, obCells, refs_dmap, nofnsD, AV.refs, AV.refsL, AV.nofn, AV.nofns] <;> fail))) | (refine call_s e2 ?_ ?_ ?_ ?_ ?_; (focus rfl); (focus first | exact trivial | exact And.intro rfl trivial | exact ⟨rfl, rfl, trivial⟩ | exact ⟨rfl, rfl, rfl, trivial⟩); (focus rfl); (focus (simp [-List.map_map, apartO, dropO, killN, obCells, refs_dmap, nofnsD, AV.refs, AV.refsL, AV.nofn, AV.nofns] <;> fail))) | (refine call_s e4 ?_ ?_ ?_ ?_ ?_; (focus rfl); (focus first | exact trivial | exact And.intro rfl trivial | exact ⟨rfl, rfl, trivial⟩ | exact ⟨rfl, rfl, rfl, trivial⟩); (focus rfl); (focus (simp [-List.map_map, apartO, dropO, killN, obCells, refs_dmap, nofnsD, AV.refs, AV.refsL, AV.nofn, AV.nofns] <;> fail))) | (refine call_s e6 ?_ ?_ ?_ ?_ ?_; (focus rfl); (focus first | exact trivial | exact And.intro rfl trivial | exact ⟨rfl, rfl, trivial⟩ | exact ⟨rfl, rfl, rfl, trivial⟩); (focus rfl); (focus (simp [-List.map_map, apartO, dropO, killN, obCells, refs_dmap, nofnsD, AV.refs, AV.refsL, AV.nofn, AV.nofns] <;> fail))) | (refine call_s e7 ?_ ?_ ?_ ?_ ?_; (focus rfl); (focus first | exact trivial | exact And.intro rfl trivial | exact ⟨rfl, rfl, trivial⟩ | exact ⟨rfl, rfl, rfl, trivial⟩); (focus rfl); (focus (simp [-List.map_map, apartO, dropO, killN, obCells, refs_dmap, nofnsD, AV.refs, AV.refsL, AV.nofn, AV.nofns] <;> fail)))); refine k_run ?_) | ((with_reducible refine ev_guard ?_); (with_reducible first | refine guard_t ?_ ?_ rfl | refine guard_f ?_ ?_ rfl) <;> (intro h; (try simp only [h]); (try simp only [nrm] at h) <;> (try ((with_reducible exfalso); omega)))) | ((with_reducible refine ck_split (fun h => ?_) (fun h => ?_)) <;> (try simp only [nrm] at h) <;> (try ((with_reducible exfalso); omega))) | ((with_reducible refine And.intro ?_ ?_); (first | omega | focus (simp; done) | focus (simp; omega) | focus ((repeat' (with_reducible refine And.intro ?_ ?_)) <;> first | omega | rfl | (simp only [go_sem, refsL_app, refs_dmap] <;> fail) | (simp [refsL_app, refs_dmap, AV.refsL, AV.refs] <;> omega)))) | (with_reducible refine hJ _ (fun K hK => ?_) ?_ <;> clear hJ KJ) | ((with_reducible refine ev_less ?_); (refine ⟨rfl, ?_, ?_⟩ <;> simp only [go_sem, St.clean, cleanO, SubS, SubO, beq_self_eq_true, ↓reduceIte, Nat.reduceEqDiff, Nat.reduceBEq, Nat.reduceAdd, Nat.reduceMul, Nat.reduceSub, Nat.reduceLT, Nat.reduceLeDiff])) | ((with_reducible first | apply hK | (clear hK K; first | apply hK | (clear hK K; first | apply hK | (clear hK K; apply hK)))); clear hK K) | fail)
      all_goals (try omega)
      (first | refine res_tmp rfl (by simp [D.plain, plains]) (by simp) ?_ | refine res_at rfl (by simp [D.plain, plains]) (by simp) ?_ | refine res_two rfl (by simp [D.plain, plains]) (by simp) ?_ | refine res_three rfl (by simp [D.plain, plains]) (by simp) ?_)
      exact congrArg (fun x => D.tu [x, _, _, _]) hfin

end Go.Proofs.YtdeobicgildamaaGreatDoor
