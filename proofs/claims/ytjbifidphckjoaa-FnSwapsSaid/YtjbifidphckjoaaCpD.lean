/- Draws of fields with regions, tinctures, ordinaries. -/
import Derived.Test.YtjbifidphckjoaaRgS
import Derived.Test.YtjbifidphckjoaaFldD
import Derived.WalkKit
import Derived.WalkSpells
import Derived.KernelRfl
namespace Go.Proofs.Ytjbifidphckjoaa
open Go.RowKit
set_option maxRecDepth 100000
set_option maxHeartbeats 4000000
set_option linter.unusedVariables false
set_option linter.unusedSimpArgs false

attribute [local go_sem] intL curO codL FdS.a

attribute [local simp] refs_dmap ints_plain ints_all ints_all1 ints_plain_take curO codL rg_plains

attribute [local go_sem] zeroQ_cur

def cfF (bs : List Int) : FdS := dvS bs curQ

def FdS.dd (z : FdS) : D := .ag [.int z.d, .int z.l, .int z.f, .int z.s]

def cR1 (bs : List Int) : List Int := arL (arS bs (cfF bs).c)

def cR2 (bs : List Int) : List Int := arL (arS bs (arS bs (cfF bs).c).c)

def cOx (bs : List Int) : Int := amV bs [(cfF bs).f, (cfF bs).s, atV bs (cfF bs).c] 3 (atC bs (cfF bs).c)

def cOo (bs : List Int) : Int := pickV bs 10 (cfF bs).c - 1

def cOl (bs : List Int) : Int := lnV bs (pickC bs 10 (cfF bs).c)

theorem cfF_ok (bs : List Int) : okCur 24 (cfF bs).c := okCur_mono (dvS_ok (curQ_ok 0)) (by omega)

theorem cR1_ok {bs : List Int} (hb : okCod bs) : (cR1 bs).length <= 25 /\ alI (cR1 bs) := by
 have h := arS_ok hb (cfF_ok bs)
 exact ⟨by rw [cR1, arL_len h]; exact h.2.2.1, arL_in h⟩

theorem cR2_ok {bs : List Int} (hb : okCod bs) : (cR2 bs).length <= 25 /\ alI (cR2 bs) := by
 have h := arS_ok hb (arS_ok hb (cfF_ok bs)).1
 exact ⟨by rw [cR2, arL_len h]; exact h.2.2.1, arL_in h⟩

set_option maxRecDepth 100000 in
theorem pl_CpD_26_3U (l : List Oper) (h : l = opsOf Try.f26 3) : planUB l (.still 1 (.still 4 (.two true 0 (.one false 2 (.calc 3 (.one false 5 (.one false 6 (.still 7 (.still 8 PU.fin)))))) false 2 (.calc 3 (.two true 0 (.one false 5 (.one false 6 (.still 7 (.still 8 PU.fin)))) false 5 (.one true 0 (.one false 6 (.still 7 (.still 8 PU.fin))))))))) [2, 5, 6] = true := by
 subst h
 kernel_rfl

theorem drawCO_fn (bs : List Int) (hb : okCod bs) : FnD Try.prog 26 [codL bs] (.tu [(cfF bs).dd, .int (cOo bs), .int (cOl bs)]) := by
 have e1 := divided_at 9 bs curQ hb (curQ_ok _)
 have h1 := cfF_ok bs
 have e2 := pick_at 9 bs 10 (cfF bs).c hb (okCur_mono h1 (by omega))
 have p1 := pickV_le hb (n := 10) h1.1
 have p2 := p1.2 (by decide)
 have q1 := okCur_pick (bs := bs) (n := 10) h1
 have e3 := line_at 9 bs (pickC bs 10 (cfF bs).c) hb (okCur_mono q1 (by omega))
 have hF : dvS bs curQ = cfF bs := rfl
 rw [hF] at e1
 unfold cOo cOl
 generalize lnV bs (pickC bs 10 (cfF bs).c) = v2 at *
 generalize lnC bs (pickC bs 10 (cfF bs).c) = c3 at *
 generalize pickC bs 10 (cfF bs).c = c2 at *
 generalize pickV bs 10 (cfF bs).c = v1 at *
 generalize cfF bs = z at *
 obtain ⟨fc, fd, fl, ff, fs⟩ := z
 simp only [curQ, FdS.a, FdS.dd] at *
 refine fn_go Try.func26 rfl rfl Try.ntmps26 Try.results26 (by simp only [slo, Nat.reduceAdd]; rfl) (by simp) ?_
 repeat' (first | (with_reducible first | refine aw_seq fun K hK => ?_ | refine aw_region (by kernel_rfl) ?_) | ((with_reducible refine ev_aw ?_); first | (refine aw_drawJ (by kernel_rfl) (id := 3) _ _ (by kernel_rfl) (pl_CpD_26_3U _ (by kernel_rfl)) (fun KJ hJ => ?_))) | (with_reducible first | refine ru_four ?_ ?_ ?_ ?_ | refine ru_three ?_ ?_ ?_ | refine ru_two ?_ ?_ | refine rv_split ?_ ?_ | refine rv_two ?_ ?_ | refine rp_two ?_ ?_) | ((with_reducible refine evg ?_); simp only [go_sem, St.clean, cleanO, ↓reduceIte, Nat.reduceEqDiff, Nat.reduceBEq, Nat.reduceAdd, Nat.reduceMul, Nat.reduceSub, Nat.reduceLT, Nat.reduceLeDiff]) | (simp (disch := omega) only [dsq, Int.reduceSub, Int.reduceAdd, Int.reduceToNat]) | ((with_reducible refine ev_call ?_); (first | (refine call_s e1 ?_ ?_ ?_ ?_ ?_; (focus rfl); (focus first | exact trivial | exact And.intro rfl trivial | exact ⟨rfl, rfl, trivial⟩ | exact ⟨rfl, rfl, rfl, trivial⟩); (focus rfl); (focus (simp [-List.map_map, apartO, dropO, killN, obCells, refs_dmap, nofnsD, AV.refs, AV.refsL, AV.nofn, AV.nofns] <;> fail))) | (refine call_s e2 ?_ ?_ ?_ ?_ ?_; (focus rfl); (focus first | exact trivial | exact And.intro rfl trivial | exact ⟨rfl, rfl, trivial⟩ | exact ⟨rfl, rfl, rfl, trivial⟩); (focus rfl); (focus (simp [-List.map_map, apartO, dropO, killN, obCells, refs_dmap, nofnsD, AV.refs, AV.refsL, AV.nofn, AV.nofns] <;> fail))) | (refine call_s e3 ?_ ?_ ?_ ?_ ?_; (focus rfl); (focus first | exact trivial | exact And.intro rfl trivial | exact ⟨rfl, rfl, trivial⟩ | exact ⟨rfl, rfl, rfl, trivial⟩); (focus rfl); (focus (simp [-List.map_map, apartO, dropO, killN, obCells, refs_dmap, nofnsD, AV.refs, AV.refsL, AV.nofn, AV.nofns] <;> fail)))); refine k_run ?_) | ((with_reducible refine And.intro ?_ ?_); (focus first | omega | (simp; done) | (simp; omega) | ((repeat' (with_reducible refine And.intro ?_ ?_)) <;> first | omega | rfl | (simp only [go_sem, refsL_app, refs_dmap] <;> fail) | (simp [refsL_app, refs_dmap, AV.refsL, AV.refs] <;> omega)))) | (with_reducible refine hJ _ (fun K hK => ?_) ?_ <;> clear hJ KJ) | ((with_reducible refine ev_less ?_); (refine ⟨rfl, ?_, ?_⟩ <;> simp only [go_sem, St.clean, cleanO, SubS, SubO, beq_self_eq_true, ↓reduceIte, Nat.reduceEqDiff, Nat.reduceBEq, Nat.reduceAdd, Nat.reduceMul, Nat.reduceSub, Nat.reduceLT, Nat.reduceLeDiff])) | ((with_reducible first | apply hK | (clear hK K; first | apply hK | (clear hK K; apply hK))); clear hK K) | fail)
 all_goals (try omega)
 refine res_at rfl (by simp [D.plain, plains]) (by simp) ?_
 rfl

set_option maxRecDepth 100000 in
theorem pl_CpD_30_4U (l : List Oper) (h : l = opsOf Try.f30 4) : planUB l (.still 2 (.three true 0 (.two true 1 (.one false 3 (.one false 4 (.one false 5 (.one false 6 PU.fin)))) false 3 (.two true 1 (.one false 4 (.one false 5 (.one false 6 PU.fin))) false 4 (.one true 1 (.one false 5 (.one false 6 PU.fin))))) true 1 (.two true 0 (.one false 3 (.one false 4 (.one false 5 (.one false 6 PU.fin)))) false 3 (.one true 0 (.one false 4 (.one false 5 (.one false 6 PU.fin))))) false 3 (.two true 0 (.two true 1 (.one false 4 (.one false 5 (.one false 6 PU.fin))) false 4 (.one true 1 (.one false 5 (.one false 6 PU.fin)))) true 1 (.one true 0 (.one false 4 (.one false 5 (.one false 6 PU.fin))))))) [3, 4, 5, 6] = true := by
 subst h
 kernel_rfl

theorem drawCT_fn (bs : List Int) (hb : okCod bs) : FnD Try.prog 30 [codL bs] (.tu [(cfF bs).dd, .ag [intL (cR1 bs)], .ag [intL (cR2 bs)]]) := by
 have e1 := divided_at 10 bs curQ hb (curQ_ok _)
 have h1 := cfF_ok bs
 have e2 := aregion_at 10 14 bs (cfF bs).c hb (okCur_mono h1 (by omega)) (by decide) (by decide) (by decide)
 have k1 := arS_ok hb h1
 have e3 := aregion_at 10 18 bs (arS bs (cfF bs).c).c hb (okCur_mono k1.1 (by omega)) (by decide) (by decide) (by decide)
 have k2 := arS_ok hb k1.1
 have hF : dvS bs curQ = cfF bs := rfl
 rw [hF] at e1
 unfold cR1 cR2
 generalize arS bs (arS bs (cfF bs).c).c = Y at *
 generalize arS bs (cfF bs).c = Z at *
 generalize cfF bs = z at *
 obtain ⟨zc, zl, o, n⟩ := Z
 obtain ⟨yc, yl, o2, n2⟩ := Y
 obtain ⟨fc, fd, fl, ff, fs⟩ := z
 obtain ⟨_, j1, j2, j3, _⟩ := k1
 obtain ⟨_, i1, i2, i3, _⟩ := k2
 simp only [curQ, arL, FdS.a, FdS.dd] at *
 have f1 := rg_raw zl o n j1
 have f2 := rg_raw yl o2 n2 i1
 have hm1 : (zl.map D.int).length = zl.length := List.length_map _
 have hm2 : (yl.map D.int).length = yl.length := List.length_map _
 generalize intL ((zl.drop o).take n) = fin at *
 generalize intL ((yl.drop o2).take n2) = fin2 at *
 refine fn_go Try.func30 rfl rfl Try.ntmps30 Try.results30 (by simp only [slo, Nat.reduceAdd]; rfl) (by simp) ?_
 repeat' (first | (with_reducible first | refine aw_seq fun K hK => ?_ | refine aw_region (by kernel_rfl) ?_) | ((with_reducible refine ev_aw ?_); first | (refine aw_drawJ (by kernel_rfl) (id := 4) _ _ (by kernel_rfl) (pl_CpD_30_4U _ (by kernel_rfl)) (fun KJ hJ => ?_))) | (with_reducible first | refine ru_four ?_ ?_ ?_ ?_ | refine ru_three ?_ ?_ ?_ | refine ru_two ?_ ?_ | refine rv_split ?_ ?_ | refine rv_two ?_ ?_ | refine rp_two ?_ ?_) | ((with_reducible refine evg ?_); simp only [go_sem, St.clean, cleanO, ↓reduceIte, Nat.reduceEqDiff, Nat.reduceBEq, Nat.reduceAdd, Nat.reduceMul, Nat.reduceSub, Nat.reduceLT, Nat.reduceLeDiff]) | (simp (disch := omega) only [dsq, Int.reduceSub, Int.reduceAdd, Int.reduceToNat]) | ((with_reducible refine ev_call ?_); (first | (refine call_s e1 ?_ ?_ ?_ ?_ ?_; (focus rfl); (focus first | exact trivial | exact And.intro rfl trivial | exact ⟨rfl, rfl, trivial⟩ | exact ⟨rfl, rfl, rfl, trivial⟩); (focus rfl); (focus (simp [-List.map_map, apartO, dropO, killN, obCells, refs_dmap, nofnsD, AV.refs, AV.refsL, AV.nofn, AV.nofns] <;> fail))) | (refine call_s e2 ?_ ?_ ?_ ?_ ?_; (focus rfl); (focus first | exact trivial | exact And.intro rfl trivial | exact ⟨rfl, rfl, trivial⟩ | exact ⟨rfl, rfl, rfl, trivial⟩); (focus rfl); (focus (simp [-List.map_map, apartO, dropO, killN, obCells, refs_dmap, nofnsD, AV.refs, AV.refsL, AV.nofn, AV.nofns] <;> fail))) | (refine call_s e3 ?_ ?_ ?_ ?_ ?_; (focus rfl); (focus first | exact trivial | exact And.intro rfl trivial | exact ⟨rfl, rfl, trivial⟩ | exact ⟨rfl, rfl, rfl, trivial⟩); (focus rfl); (focus (simp [-List.map_map, apartO, dropO, killN, obCells, refs_dmap, nofnsD, AV.refs, AV.refsL, AV.nofn, AV.nofns] <;> fail)))); refine k_run ?_) | ((with_reducible refine And.intro ?_ ?_); (focus first | omega | (simp; done) | (simp; omega) | ((repeat' (with_reducible refine And.intro ?_ ?_)) <;> first | omega | rfl | (simp only [go_sem, refsL_app, refs_dmap] <;> fail) | (simp [refsL_app, refs_dmap, AV.refsL, AV.refs] <;> omega)))) | (with_reducible refine hJ _ (fun K hK => ?_) ?_ <;> clear hJ KJ) | ((with_reducible refine ev_less ?_); (refine ⟨rfl, ?_, ?_⟩ <;> simp only [go_sem, St.clean, cleanO, SubS, SubO, beq_self_eq_true, ↓reduceIte, Nat.reduceEqDiff, Nat.reduceBEq, Nat.reduceAdd, Nat.reduceMul, Nat.reduceSub, Nat.reduceLT, Nat.reduceLeDiff])) | ((with_reducible first | apply hK | (clear hK K; first | apply hK | (clear hK K; apply hK))); clear hK K) | fail)
 all_goals (try omega)
 refine res_at rfl (by simp [D.plain, plains]) (by simp) ?_
 all_goals first | exact ⟨rg_plains _ _ _, rg_plains _ _ _⟩ | rw [← f1, ← f2]

end Go.Proofs.Ytjbifidphckjoaa
