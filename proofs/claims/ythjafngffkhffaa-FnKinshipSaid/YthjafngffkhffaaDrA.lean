/- Draws of two persons, and of a person to be added. -/
import Derived.Test.YthjafngffkhffaaDrH
import Derived.Test.YthjafngffkhffaaFlowT
import Derived.WalkKit
import Derived.WalkSpells
import Derived.KernelRfl
namespace Go.Proofs.Ythjafngffkhffaa
open Go.RowKit
set_option linter.unusedVariables false
set_option linter.unusedSimpArgs false

attribute [local go_sem] PerV.d PerV.cs perL famD curO codL perO

attribute [local simp] refs_dmap perC_all perC_plains ints_plain ints_all ints_all1 ints_plain_take curO codL perO

attribute [local go_sem] zero_cur

def dQ (bs : List Int) : Int := p18V bs (dF bs) (dHC bs)

set_option maxRecDepth 100000 in
theorem pl_DrA_43_4U (l : List Oper) (h : l = opsOf Try.f43 4) : planUB l (.still 1 (.still 2 (.two true 0 (.one true 3 (.one false 4 (.one false 5 (.still 6 (.still 7 PU.fin))))) true 3 (.two true 0 (.one false 4 (.one false 5 (.still 6 (.still 7 PU.fin)))) false 4 (.one true 0 (.one false 5 (.still 6 (.still 7 PU.fin)))))))) [4, 5] = true := by
  subst h
  kernel_rfl

set_option maxRecDepth 100000 in
set_option maxHeartbeats 4000000 in
theorem drawKin_fn (bs : List Int) (hb : okCod bs) : FnD Try.prog 43 [codL bs] (.tu [famD (dF bs), .int (dP bs), .int (dQ bs)]) := by
  have e1 := any_at 10 12 bs cur0 hb (cur0_ok _) (by decide) (by decide) (by decide)
  obtain ⟨k1, k2⟩ := anyZ_ok hb (cur0_ok 0)
  have e2 := person_at 10 12 bs (anyZ bs cur0).l (anyZ bs cur0).c hb (okCur_mono k1 (by omega)) (by omega) (by decide) (by decide) (by decide)
  have hF : dF bs = (anyZ bs cur0).l := rfl
  have hP : dP bs = p18V bs (anyZ bs cur0).l (anyZ bs cur0).c := rfl
  have hC : dHC bs = p18C bs (anyZ bs cur0).l (anyZ bs cur0).c := rfl
  have q1 : okCur 404 (dHC bs) := p18_ok k1
  have e3 := person_at 10 12 bs (anyZ bs cur0).l (dHC bs) hb (okCur_mono q1 (by omega)) (by omega) (by decide) (by decide) (by decide)
  have hQ : dQ bs = p18V bs (anyZ bs cur0).l (dHC bs) := rfl
  rw [← hC] at e2
  rw [hF, hP, hQ]
  generalize p18V bs (anyZ bs cur0).l (anyZ bs cur0).c = v at *
  generalize p18V bs (anyZ bs cur0).l (dHC bs) = y at *
  generalize p18C bs (anyZ bs cur0).l (dHC bs) = c3 at *
  generalize dHC bs = c2 at *
  generalize anyZ bs cur0 = Z at *
  obtain ⟨zc, zl, zi⟩ := Z
  simp only [cur0] at *
  have hpl : (perC zl).length = zl.length * 5 := recC_len per_k zl
  refine fn_go Try.func43 rfl rfl Try.ntmps43 Try.results43 (by simp only [slotsOf, argAV, List.map_cons, List.map_nil, Nat.reduceAdd]; rfl) (by simp) ?_
  repeat' (first | (with_reducible first | refine aw_seq fun K hK => ?_ | refine aw_region (by kernel_rfl) ?_ | refine aw_condk ?_ | refine aw_block ?_) | ((with_reducible refine ev_aw ?_); first | (refine aw_drawJ (by kernel_rfl) (id := 4) _ _ (by kernel_rfl) (pl_DrA_43_4U _ (by kernel_rfl)) (fun KJ hJ => ?_))) | (with_reducible first | refine ru_four ?_ ?_ ?_ ?_ | refine ru_three ?_ ?_ ?_ | refine ru_two ?_ ?_ | refine rv_split ?_ ?_ | refine rv_two ?_ ?_ | refine rp_two ?_ ?_) | ((with_reducible refine evg ?_); simp only [go_sem, St.clean, cleanO, ↓reduceIte, Nat.reduceEqDiff, Nat.reduceBEq, Nat.reduceAdd, Nat.reduceMul, Nat.reduceSub, Nat.reduceLT, Nat.reduceLeDiff]) | (simp (disch := omega) only [wr, drop_at, str_at, int_at, Int.reduceSub, Int.reduceAdd, Int.reduceToNat, Int.toNat_zero, wr]) | ((with_reducible refine ev_call ?_); (first | (refine call_s e1 ?_ ?_ ?_ ?_ ?_; (focus rfl); (focus first | exact trivial | exact And.intro rfl trivial | exact ⟨rfl, rfl, trivial⟩ | exact ⟨rfl, rfl, rfl, trivial⟩); (focus rfl); (focus (simp [-List.map_map, apartO, dropO, killN, obCells, refs_dmap, nofnsD, AV.refs, AV.refsL, AV.nofn, AV.nofns] <;> fail))) | (refine call_s e2 ?_ ?_ ?_ ?_ ?_; (focus rfl); (focus first | exact trivial | exact And.intro rfl trivial | exact ⟨rfl, rfl, trivial⟩ | exact ⟨rfl, rfl, rfl, trivial⟩); (focus rfl); (focus (simp [-List.map_map, apartO, dropO, killN, obCells, refs_dmap, nofnsD, AV.refs, AV.refsL, AV.nofn, AV.nofns] <;> fail))) | (refine call_s e3 ?_ ?_ ?_ ?_ ?_; (focus rfl); (focus first | exact trivial | exact And.intro rfl trivial | exact ⟨rfl, rfl, trivial⟩ | exact ⟨rfl, rfl, rfl, trivial⟩); (focus rfl); (focus (simp [-List.map_map, apartO, dropO, killN, obCells, refs_dmap, nofnsD, AV.refs, AV.refsL, AV.nofn, AV.nofns] <;> fail)))); refine k_run ?_) | ((with_reducible refine ev_guard ?_); (with_reducible first | refine guard_t ?_ ?_ rfl | refine guard_f ?_ ?_ rfl) <;> (intro h; (try simp only [h]); (try simp only [nrm] at h) <;> (try ((with_reducible exfalso); omega)))) | ((with_reducible refine ck_split (fun h => ?_) (fun h => ?_)) <;> (try simp only [nrm] at h) <;> (try ((with_reducible exfalso); omega))) | ((with_reducible refine And.intro ?_ ?_); (first | omega | focus (simp; done) | focus (simp; omega) | focus ((repeat' (with_reducible refine And.intro ?_ ?_)) <;> first | omega | rfl | (simp only [go_sem, refsL_app, refs_dmap] <;> fail) | (simp [refsL_app, refs_dmap, AV.refsL, AV.refs] <;> omega)))) | (with_reducible refine hJ _ (fun K hK => ?_) ?_ <;> clear hJ KJ) | ((with_reducible refine ev_less ?_); (refine ⟨rfl, ?_, ?_⟩ <;> simp only [go_sem, St.clean, cleanO, SubS, SubO, beq_self_eq_true, ↓reduceIte, Nat.reduceEqDiff, Nat.reduceBEq, Nat.reduceAdd, Nat.reduceMul, Nat.reduceSub, Nat.reduceLT, Nat.reduceLeDiff])) | ((with_reducible first | apply hK | (clear hK K; first | apply hK | (clear hK K; first | apply hK | (clear hK K; apply hK)))); clear hK K) | fail)
  (first | refine res_tmp rfl (by simp [D.plain, plains]) (by simp) ?_ | refine res_at rfl (by simp [D.plain, plains]) (by simp) ?_ | refine res_two rfl (by simp [D.plain, plains]) (by simp) ?_ | refine res_three rfl (by simp [D.plain, plains]) (by simp) ?_)
  show D.tu [D.ag [D.ls 5 zl.length (((perC zl).drop 0).take (zl.length * 5))], D.int v, D.int y] = _
  rw [perC_raw zl]
  rfl

def aTab : List Int := [1, 50, 998, 999, 1000, 3]

def dA2 (bs : List Int) : CurV := pickC bs 60 (pickC bs 6 (anyZ bs cur0).c)

def dA3 (bs : List Int) : CurV := p18C bs (dF bs) (dA2 bs)

def dA4 (bs : List Int) : CurV := p18C bs (dF bs) (dA3 bs)

def dAb (bs : List Int) : Int := 1590 + pickV bs 60 (pickC bs 6 (anyZ bs cur0).c)

def dA (bs : List Int) : PerV := ⟨amV bs aTab 6 (anyZ bs cur0).c, dAb bs, if oneV bs 3 (pickC bs 3 (dA4 bs)) = true then dAb bs + 30 else 0, if oneV bs 3 (dA4 bs) = true then 0 else p18V bs (dF bs) (dA2 bs), if oneV bs 3 (dA4 bs) = true then 0 else p18V bs (dF bs) (dA3 bs)⟩

set_option maxRecDepth 100000 in
theorem pl_DrA_44_3T (l : List Oper) (h : l = opsOf Try.f44 3) : planTB l [((1, 0, 0), []), ((1, 0, 3), []), ((1, 0, 6), []), ((1, 0, 9), []), ((0, 0, 1), []), ((0, 1, 7), []), ((0, 2, 10), []), ((0, 3, 13), []), ((0, 3, 2), [(0, 3, 2)]), ((0, 4, 7), [(0, 3, 1)]), ((0, 5, 10), [(0, 3, 1)]), ((0, 6, 13), [(0, 3, 1)]), ((0, 6, 10), [(0, 5, 7)]), ((0, 7, 13), [(0, 5, 7)]), ((0, 7, 13), [(0, 6, 10)]), ((0, 6, 4), [(0, 6, 4)]), ((0, 7, 7), [(0, 6, 2)]), ((0, 8, 10), [(0, 6, 2)]), ((0, 9, 13), [(0, 6, 2)]), ((0, 9, 10), [(0, 8, 7), (0, 6, 1)]), ((0, 10, 13), [(0, 8, 7), (0, 6, 1)]), ((0, 10, 13), [(0, 9, 10), (0, 6, 1)]), ((0, 9, 13), [(0, 8, 10), (0, 7, 7)]), ((2, 7, 5), []), ((0, 7, 4), [(0, 7, 4)]), ((0, 8, 10), [(0, 7, 7), (0, 5, 2)]), ((0, 9, 13), [(0, 7, 7), (0, 5, 2)]), ((0, 9, 4), [(0, 9, 4)]), ((0, 10, 13), [(0, 9, 10), (0, 6, 2)]), ((0, 10, 4), [(0, 10, 4)]), ((0, 10, 13), [(0, 9, 10), (0, 8, 7), (0, 7, 1)]), ((0, 7, 7), [(2, 6, 5)]), ((0, 8, 10), [(2, 4, 5)]), ((0, 9, 13), [(2, 3, 5)]), ((0, 8, 4), [(0, 8, 4)]), ((0, 9, 13), [(0, 8, 10), (0, 6, 7), (0, 4, 2)]), ((0, 9, 4), [(0, 9, 4)]), ((0, 8, 4), [(0, 8, 4)]), ((0, 6, 8), [(0, 6, 8)]), ((0, 7, 10), [(0, 6, 7), (2, 4, 5)]), ((0, 8, 13), [(0, 6, 7), (2, 3, 5)]), ((0, 8, 13), [(0, 7, 10), (2, 3, 5)]), ((0, 6, 4), [(0, 6, 4)]), ((0, 4, 10), [(0, 3, 8)]), ((0, 5, 13), [(0, 3, 8)]), ((0, 5, 13), [(0, 4, 10), (0, 3, 7), (2, 2, 5)]), ((0, 2, 11), [(0, 2, 11)]), ((0, 3, 13), [(0, 2, 10), (0, 1, 8)]), ((0, 1, 12), []), ((0, 2, 13), [(0, 1, 11)]), ((0, 1, 13), [(0, 0, 12)]), ((0, 0, 14), [])] [⟨1, [], [(0, 1)]⟩, ⟨1, [0], [(3, 2)]⟩, ⟨1, [0, 3], [(6, 3)]⟩, ⟨1, [0, 3, 6], [(9, 4)]⟩, ⟨0, [0, 3, 6, 9], [(1, 5), (7, 6), (10, 7), (13, 8)]⟩, ⟨0, [0, 1, 3, 6, 9], [(2, 9), (7, 10), (10, 11), (13, 12)]⟩, ⟨0, [0, 3, 6, 7, 9], [(1, 10), (10, 13), (13, 14)]⟩, ⟨0, [0, 3, 6, 9, 10], [(1, 11), (7, 13), (13, 15)]⟩, ⟨0, [0, 3, 6, 9, 13], [(1, 12), (7, 14), (10, 15)]⟩, ⟨0, [0, 1, 2, 3, 6, 9], [(4, 16), (7, 17), (10, 18), (13, 19)]⟩, ⟨0, [0, 1, 3, 6, 7, 9], [(2, 17), (10, 20), (13, 21)]⟩, ⟨0, [0, 1, 3, 6, 9, 10], [(2, 18), (7, 20), (13, 22)]⟩, ⟨0, [0, 1, 3, 6, 9, 13], [(2, 19), (7, 21), (10, 22)]⟩, ⟨0, [0, 3, 6, 7, 9, 10], [(1, 20), (13, 23)]⟩, ⟨0, [0, 3, 6, 7, 9, 13], [(1, 21), (10, 23)]⟩, ⟨0, [0, 3, 6, 9, 10, 13], [(1, 22), (7, 23)]⟩, ⟨2, [0, 1, 2, 3, 4, 6, 9], [(5, 24)]⟩, ⟨0, [0, 1, 2, 3, 6, 7, 9], [(4, 25), (10, 26), (13, 27)]⟩, ⟨0, [0, 1, 2, 3, 6, 9, 10], [(4, 28), (7, 26), (13, 29)]⟩, ⟨0, [0, 1, 2, 3, 6, 9, 13], [(4, 30), (7, 27), (10, 29)]⟩, ⟨0, [0, 1, 3, 6, 7, 9, 10], [(2, 26), (13, 31)]⟩, ⟨0, [0, 1, 3, 6, 7, 9, 13], [(2, 27), (10, 31)]⟩, ⟨0, [0, 1, 3, 6, 9, 10, 13], [(2, 29), (7, 31)]⟩, ⟨0, [0, 3, 6, 7, 9, 10, 13], [(1, 31)]⟩, ⟨0, [0, 1, 2, 3, 4, 5, 6, 9], [(7, 32), (10, 33), (13, 34)]⟩, ⟨2, [0, 1, 2, 3, 4, 6, 7, 9], [(5, 32)]⟩, ⟨0, [0, 1, 2, 3, 6, 7, 9, 10], [(4, 35), (13, 36)]⟩, ⟨0, [0, 1, 2, 3, 6, 7, 9, 13], [(4, 37), (10, 36)]⟩, ⟨2, [0, 1, 2, 3, 4, 6, 9, 10], [(5, 33)]⟩, ⟨0, [0, 1, 2, 3, 6, 9, 10, 13], [(4, 38), (7, 36)]⟩, ⟨2, [0, 1, 2, 3, 4, 6, 9, 13], [(5, 34)]⟩, ⟨0, [0, 1, 3, 6, 7, 9, 10, 13], [(2, 36)]⟩, ⟨0, [0, 1, 2, 3, 4, 5, 6, 7, 9], [(8, 39), (10, 40), (13, 41)]⟩, ⟨0, [0, 1, 2, 3, 4, 5, 6, 9, 10], [(7, 40), (13, 42)]⟩, ⟨0, [0, 1, 2, 3, 4, 5, 6, 9, 13], [(7, 41), (10, 42)]⟩, ⟨2, [0, 1, 2, 3, 4, 6, 7, 9, 10], [(5, 40)]⟩, ⟨0, [0, 1, 2, 3, 6, 7, 9, 10, 13], [(4, 43)]⟩, ⟨2, [0, 1, 2, 3, 4, 6, 7, 9, 13], [(5, 41)]⟩, ⟨2, [0, 1, 2, 3, 4, 6, 9, 10, 13], [(5, 42)]⟩, ⟨0, [0, 1, 2, 3, 4, 5, 6, 7, 8, 9], [(10, 44), (13, 45)]⟩, ⟨0, [0, 1, 2, 3, 4, 5, 6, 7, 9, 10], [(8, 44), (13, 46)]⟩, ⟨0, [0, 1, 2, 3, 4, 5, 6, 7, 9, 13], [(8, 45), (10, 46)]⟩, ⟨0, [0, 1, 2, 3, 4, 5, 6, 9, 10, 13], [(7, 46)]⟩, ⟨2, [0, 1, 2, 3, 4, 6, 7, 9, 10, 13], [(5, 46)]⟩, ⟨0, [0, 1, 2, 3, 4, 5, 6, 7, 8, 9, 10], [(11, 47), (13, 48)]⟩, ⟨0, [0, 1, 2, 3, 4, 5, 6, 7, 8, 9, 13], [(10, 48)]⟩, ⟨0, [0, 1, 2, 3, 4, 5, 6, 7, 9, 10, 13], [(8, 48)]⟩, ⟨0, [0, 1, 2, 3, 4, 5, 6, 7, 8, 9, 10, 11], [(12, 49), (13, 50)]⟩, ⟨0, [0, 1, 2, 3, 4, 5, 6, 7, 8, 9, 10, 13], [(11, 50)]⟩, ⟨0, [0, 1, 2, 3, 4, 5, 6, 7, 8, 9, 10, 11, 12], [(13, 51)]⟩, ⟨0, [0, 1, 2, 3, 4, 5, 6, 7, 8, 9, 10, 11, 13], [(12, 51)]⟩, ⟨0, [0, 1, 2, 3, 4, 5, 6, 7, 8, 9, 10, 11, 12, 13], [(14, 52)]⟩, ⟨0, [0, 1, 2, 3, 4, 5, 6, 7, 8, 9, 10, 11, 12, 13, 14], []⟩] = true := by
  subst h
  kernel_rfl

set_option maxRecDepth 100000 in
theorem pl_DrA_44_9U (l : List Oper) (h : l = opsOf Try.f44 9) : planUB l (.pure 0 (.two true 1 (.one false 2 (.one false 3 PU.fin)) false 2 (.one true 1 (.one false 3 PU.fin)))) [2, 3] = true := by
  subst h
  kernel_rfl

set_option maxRecDepth 100000 in
set_option maxHeartbeats 4000000 in
theorem drawAdd_fn (bs : List Int) (hb : okCod bs) : FnD Try.prog 44 [codL bs] (.tu [famD (dF bs), (dA bs).d]) := by
  have e1 := any_at 9 11 bs cur0 hb (cur0_ok _) (by decide) (by decide) (by decide)
  obtain ⟨k1, k2⟩ := anyZ_ok hb (cur0_ok 0)
  have e2 := among_at 9 13 bs aTab 6 (anyZ bs cur0).c hb (okCur_mono k1 (by omega)) (by decide) (by decide) (by decide) (by decide) (by decide) (by decide)
  have q1 := okCur_pick (bs := bs) (n := 6) k1
  have e3 := pick_at 9 bs 60 (pickC bs 6 (anyZ bs cur0).c) hb (okCur_mono q1 (by omega))
  have p1 := pickV_le hb (n := 60) q1.1
  have p2 := p1.2 (by decide)
  have q2 : okCur (404 + 0) (dA2 bs) := okCur_mono (okCur_pick (bs := bs) (n := 60) q1) (by omega)
  have e4 := person_at 9 11 bs (anyZ bs cur0).l (dA2 bs) hb (okCur_mono q2 (by omega)) (by omega) (by decide) (by decide) (by decide)
  have q3 : okCur (404 + 0 + 4) (dA3 bs) := p18_ok q2
  have e5 := person_at 9 11 bs (anyZ bs cur0).l (dA3 bs) hb (okCur_mono q3 (by omega)) (by omega) (by decide) (by decide) (by decide)
  have q4 : okCur (404 + 0 + 4 + 4) (dA4 bs) := p18_ok q3
  have e6 := one_at 9 bs 3 (dA4 bs) hb (okCur_mono q4 (by omega))
  have q5 := okCur_pick (bs := bs) (n := 3) q4
  have e7 := one_at 9 bs 3 (pickC bs 3 (dA4 bs)) hb (okCur_mono q5 (by omega))
  have hF : dF bs = (anyZ bs cur0).l := rfl
  have h2 : dA2 bs = pickC bs 60 (pickC bs 6 (anyZ bs cur0).c) := rfl
  have h3 : dA3 bs = p18C bs (anyZ bs cur0).l (dA2 bs) := rfl
  have h4 : dA4 bs = p18C bs (anyZ bs cur0).l (dA3 bs) := rfl
  have hA : dA bs = ⟨amV bs aTab 6 (anyZ bs cur0).c, 1590 + pickV bs 60 (pickC bs 6 (anyZ bs cur0).c), if oneV bs 3 (pickC bs 3 (dA4 bs)) = true then 1590 + pickV bs 60 (pickC bs 6 (anyZ bs cur0).c) + 30 else 0, if oneV bs 3 (dA4 bs) = true then 0 else p18V bs (anyZ bs cur0).l (dA2 bs), if oneV bs 3 (dA4 bs) = true then 0 else p18V bs (anyZ bs cur0).l (dA3 bs)⟩ := rfl
  rw [← h2] at e3
  rw [← h3] at e4
  rw [← h4] at e5
  rw [hF, hA]
  clear hF h2 h3 h4 hA
  generalize amV bs aTab 6 (anyZ bs cur0).c = v1 at *
  generalize pickV bs 60 (pickC bs 6 (anyZ bs cur0).c) = v2 at *
  generalize p18V bs (anyZ bs cur0).l (dA2 bs) = v3 at *
  generalize p18V bs (anyZ bs cur0).l (dA3 bs) = v4 at *
  generalize oneV bs 3 (pickC bs 3 (dA4 bs)) = o2 at *
  generalize oneV bs 3 (dA4 bs) = o1 at *
  generalize pickC bs 3 (pickC bs 3 (dA4 bs)) = c6 at *
  generalize pickC bs 3 (dA4 bs) = c5 at *
  generalize pickC bs 6 (anyZ bs cur0).c = c1 at *
  generalize dA4 bs = c4 at *
  generalize dA3 bs = c3 at *
  generalize dA2 bs = c2 at *
  generalize anyZ bs cur0 = Z at *
  obtain ⟨zc, zl, zi⟩ := Z
  simp only [cur0, aTab] at *
  have hpl : (perC zl).length = zl.length * 5 := recC_len per_k zl
  have hfin : D.ag [D.ls 5 zl.length (((perC zl).drop 0).take (zl.length * 5))] = famD zl := by
    rw [perC_raw zl]
    rfl
  cases o1
  all_goals
    cases o2
    all_goals
      refine fn_go Try.func44 rfl rfl Try.ntmps44 Try.results44 (by simp only [slotsOf, argAV, List.map_cons, List.map_nil, Nat.reduceAdd]; rfl) (by simp) ?_
      repeat' (first | (with_reducible first | refine aw_seq fun K hK => ?_ | refine aw_region (by kernel_rfl) ?_ | refine aw_condk ?_ | refine aw_block ?_) | ((with_reducible refine ev_aw ?_); first | (refine aw_drawT (by kernel_rfl) (id := 3) _ _ (by kernel_rfl) (pl_DrA_44_3T _ (by kernel_rfl)) ?_) | (refine aw_drawJ (by kernel_rfl) (id := 9) _ _ (by kernel_rfl) (pl_DrA_44_9U _ (by kernel_rfl)) (fun KJ hJ => ?_))) | ((with_reducible refine ev_rt ?_); first | refine rt_end ?_ | refine rt_0 rfl rfl (fun KJ hJ => ?_) | refine rt_1 rfl rfl (fun KJ hJ => ?_) | refine rt_2 rfl rfl rfl (fun KJ hJ => ?_)) | ((with_reducible refine ev_et ?_); first | exact et_nil | refine et_0 rfl rfl (fun K hK => ?_) ?_ | refine et_1 rfl rfl (fun K hK => ?_) ?_ | refine et_2 rfl rfl rfl (fun K hK => ?_) ?_) | (with_reducible refine hJ _ ?_ ?_ ?_ <;> clear hJ KJ) | (with_reducible first | refine ru_four ?_ ?_ ?_ ?_ | refine ru_three ?_ ?_ ?_ | refine ru_two ?_ ?_ | refine rv_split ?_ ?_ | refine rv_two ?_ ?_ | refine rp_two ?_ ?_) | ((with_reducible refine evg ?_); simp only [go_sem, St.clean, cleanO, ↓reduceIte, Nat.reduceEqDiff, Nat.reduceBEq, Nat.reduceAdd, Nat.reduceMul, Nat.reduceSub, Nat.reduceLT, Nat.reduceLeDiff]) | (simp (disch := omega) only [wr, drop_at, str_at, int_at, Int.reduceSub, Int.reduceAdd, Int.reduceToNat, Int.toNat_zero, wr]) | ((with_reducible refine ev_call ?_); (first | (refine call_s e1 ?_ ?_ ?_ ?_ ?_; (focus rfl); (focus first | exact trivial | exact And.intro rfl trivial | exact ⟨rfl, rfl, trivial⟩ | exact ⟨rfl, rfl, rfl, trivial⟩); (focus rfl); (focus (simp [-List.map_map, apartO, dropO, killN, obCells, refs_dmap, nofnsD, AV.refs, AV.refsL, AV.nofn, AV.nofns] <;> fail))) | (refine call_s e2 ?_ ?_ ?_ ?_ ?_; (focus rfl); (focus first | exact trivial | exact And.intro rfl trivial | exact ⟨rfl, rfl, trivial⟩ | exact ⟨rfl, rfl, rfl, trivial⟩); (focus rfl); (focus (simp [-List.map_map, apartO, dropO, killN, obCells, refs_dmap, nofnsD, AV.refs, AV.refsL, AV.nofn, AV.nofns] <;> fail))) | (refine call_s e3 ?_ ?_ ?_ ?_ ?_; (focus rfl); (focus first | exact trivial | exact And.intro rfl trivial | exact ⟨rfl, rfl, trivial⟩ | exact ⟨rfl, rfl, rfl, trivial⟩); (focus rfl); (focus (simp [-List.map_map, apartO, dropO, killN, obCells, refs_dmap, nofnsD, AV.refs, AV.refsL, AV.nofn, AV.nofns] <;> fail))) | (refine call_s e4 ?_ ?_ ?_ ?_ ?_; (focus rfl); (focus first | exact trivial | exact And.intro rfl trivial | exact ⟨rfl, rfl, trivial⟩ | exact ⟨rfl, rfl, rfl, trivial⟩); (focus rfl); (focus (simp [-List.map_map, apartO, dropO, killN, obCells, refs_dmap, nofnsD, AV.refs, AV.refsL, AV.nofn, AV.nofns] <;> fail))) | (refine call_s e5 ?_ ?_ ?_ ?_ ?_; (focus rfl); (focus first | exact trivial | exact And.intro rfl trivial | exact ⟨rfl, rfl, trivial⟩ | exact ⟨rfl, rfl, rfl, trivial⟩); (focus rfl); (focus (simp [-List.map_map, apartO, dropO, killN, obCells, refs_dmap, nofnsD, AV.refs, AV.refsL, AV.nofn, AV.nofns] <;> fail))) | (refine call_s e6 ?_ ?_ ?_ ?_ ?_; (focus rfl); (focus first | exact trivial | exact And.intro rfl trivial | exact ⟨rfl, rfl, trivial⟩ | exact ⟨rfl, rfl, rfl, trivial⟩); (focus rfl); (focus (simp [-List.map_map, apartO, dropO, killN, obCells, refs_dmap, nofnsD, AV.refs, AV.refsL, AV.nofn, AV.nofns] <;> fail))) | (refine call_s e7 ?_ ?_ ?_ ?_ ?_; (focus rfl); (focus first | exact trivial | exact And.intro rfl trivial | exact ⟨rfl, rfl, trivial⟩ | exact ⟨rfl, rfl, rfl, trivial⟩); (focus rfl); (focus (simp [-List.map_map, apartO, dropO, killN, obCells, refs_dmap, nofnsD, AV.refs, AV.refsL, AV.nofn, AV.nofns] <;> fail)))); refine k_run ?_) | ((with_reducible refine ev_guard ?_); (with_reducible first | refine guard_t ?_ ?_ rfl | refine guard_f ?_ ?_ rfl) <;> (intro h; (try simp only [h]); (try simp only [nrm] at h) <;> (try ((with_reducible exfalso); omega)))) | ((with_reducible refine ck_split (fun h => ?_) (fun h => ?_)) <;> (try simp only [nrm] at h) <;> (try ((with_reducible exfalso); omega))) | ((with_reducible refine And.intro ?_ ?_); (first | omega | focus (simp; done) | focus (simp; omega) | focus ((repeat' (with_reducible refine And.intro ?_ ?_)) <;> first | omega | rfl | (simp only [go_sem, refsL_app, refs_dmap] <;> fail) | (simp [refsL_app, refs_dmap, AV.refsL, AV.refs] <;> omega)))) | (with_reducible refine hJ _ (fun K hK => ?_) ?_ <;> clear hJ KJ) | ((with_reducible refine ev_less ?_); (refine ⟨rfl, ?_, ?_⟩ <;> simp only [go_sem, St.clean, cleanO, SubS, SubO, beq_self_eq_true, ↓reduceIte, Nat.reduceEqDiff, Nat.reduceBEq, Nat.reduceAdd, Nat.reduceMul, Nat.reduceSub, Nat.reduceLT, Nat.reduceLeDiff])) | ((with_reducible first | apply hK | (clear hK K; first | apply hK | (clear hK K; first | apply hK | (clear hK K; apply hK)))); clear hK K) | fail)
      all_goals first
        | exact absurd trivial h
        | skip
      (first | refine res_tmp rfl (by simp [D.plain, plains]) (by simp) ?_ | refine res_at rfl (by simp [D.plain, plains]) (by simp) ?_ | refine res_two rfl (by simp [D.plain, plains]) (by simp) ?_ | refine res_three rfl (by simp [D.plain, plains]) (by simp) ?_)
      exact congrArg (fun x => D.tu [x, _]) hfin

set_option maxRecDepth 100000 in
set_option maxHeartbeats 4000000 in
theorem drawBirth_fn (bs : List Int) (hb : okCod bs) : FnD Try.prog 46 [codL bs] (.tu [famD (dF bs), .int (dP bs)]) := by
  have e1 := drawKids_fn bs hb
  generalize dF bs = l at *
  generalize dP bs = v at *
  refine fn_go Try.func46 rfl rfl Try.ntmps46 Try.results46 (by simp only [slotsOf, argAV, List.map_cons, List.map_nil, Nat.reduceAdd]; rfl) (by simp) ?_
  repeat' (first | (with_reducible first | refine aw_seq fun K hK => ?_ | refine aw_region (by kernel_rfl) ?_ | refine aw_condk ?_ | refine aw_block ?_) | ((with_reducible refine evg ?_); simp only [go_sem, ↓reduceIte, Nat.reduceEqDiff, Nat.reduceBEq, Nat.reduceAdd, Nat.reduceMul, Nat.reduceSub, Nat.reduceLT, Nat.reduceLeDiff]) | (simp (disch := omega) only [wr, drop_at, str_at, int_at, Int.reduceSub, Int.reduceAdd, Int.reduceToNat, Int.toNat_zero, wr]) | ((with_reducible refine ev_call ?_); (first | (refine call_new e1 (famV_opn 5 l v) ?_ ?_ ?_ ?_; (focus rfl); (focus rfl); (focus (simp [-List.map_map, apartO, dropO, killN, obCells, refs_dmap, nofnsD, AV.refs, AV.refsL, AV.nofn, AV.nofns] <;> fail)))); refine k_run ?_) | ((with_reducible refine ev_guard ?_); (with_reducible first | refine guard_t ?_ ?_ rfl | refine guard_f ?_ ?_ rfl) <;> (intro h; (try simp only [h]); (try simp only [nrm] at h) <;> (try ((with_reducible exfalso); omega)))) | ((with_reducible refine ck_split (fun h => ?_) (fun h => ?_)) <;> (try simp only [nrm] at h) <;> (try ((with_reducible exfalso); omega))) | ((with_reducible refine And.intro ?_ ?_); (first | omega | focus (simp; done) | focus (simp; omega) | focus ((repeat' (with_reducible refine And.intro ?_ ?_)) <;> first | omega | rfl | (simp only [go_sem, refsL_app, refs_dmap] <;> fail) | (simp [refsL_app, refs_dmap, AV.refsL, AV.refs] <;> omega)))) | ((with_reducible first | apply hK | (clear hK K; first | apply hK | (clear hK K; first | apply hK | (clear hK K; apply hK)))); clear hK K) | fail)
  (first | refine res_tmp rfl (by simp [D.plain, plains]) (by simp) ?_ | refine res_at rfl (by simp [D.plain, plains]) (by simp) ?_ | refine res_two rfl (by simp [D.plain, plains]) (by simp) ?_ | refine res_three rfl (by simp [D.plain, plains]) (by simp) ?_)
  show D.tu [D.ag [D.ls 5 l.length (((perC l).drop 0).take (l.length * 5))], D.int v] = _
  rw [perC_raw l]
  rfl

end Go.Proofs.Ythjafngffkhffaa
