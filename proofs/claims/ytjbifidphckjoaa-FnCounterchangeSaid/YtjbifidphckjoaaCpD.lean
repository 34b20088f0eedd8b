/- Draws of fields with regions, tinctures, ordinaries. -/
import Derived.Test.YtjbifidphckjoaaRgS
import Derived.Test.YtjbifidphckjoaaFldD
import Derived.WalkKit
import Derived.WalkSpells
import Derived.KernelRfl
namespace Go.Proofs.Ytjbifidphckjoaa
open Go.RowKit
set_option maxRecDepth 100000
set_option maxHeartbeats 4000000
set_option linter.unusedVariables false
set_option linter.unusedSimpArgs false

attribute [local go_sem] intL curO codL FdS.a

attribute [local simp] refs_dmap ints_plain ints_all ints_all1 ints_plain_take curO codL rg_plains

attribute [local go_sem] zeroQ_cur

def cfF (bs : List Int) : FdS := dvS bs curQ

def FdS.dd (z : FdS) : D := .ag [.int z.d, .int z.l, .int z.f, .int z.s]

def cR1 (bs : List Int) : List Int := arL (arS bs (cfF bs).c)

def cR2 (bs : List Int) : List Int := arL (arS bs (arS bs (cfF bs).c).c)

def cOx (bs : List Int) : Int := amV bs [(cfF bs).f, (cfF bs).s, atV bs (cfF bs).c] 3 (atC bs (cfF bs).c)

def cOo (bs : List Int) : Int := pickV bs 10 (cfF bs).c - 1

def cOl (bs : List Int) : Int := lnV bs (pickC bs 10 (cfF bs).c)

theorem cfF_ok (bs : List Int) : okCur 24 (cfF bs).c := okCur_mono (dvS_ok (curQ_ok 0)) (by omega)

theorem cR1_ok {bs : List Int} (hb : okCod bs) : (cR1 bs).length <= 25 /\ alI (cR1 bs) := by
 have h := arS_ok hb (cfF_ok bs)
 exact ⟨by rw [cR1, arL_len h]; exact h.2.2.1, arL_in h⟩

set_option maxRecDepth 100000 in
theorem pl_CpD_6_3U (l : List Oper) (h : l = opsOf Try.f6 3) : planUB l (.still 1 (.two true 0 (.one false 2 (.one false 3 (.one false 4 PU.fin))) false 2 (.one true 0 (.one false 3 (.one false 4 PU.fin))))) [2, 3, 4] = true := by
 subst h
 kernel_rfl

theorem drawCP_fn (bs : List Int) (hb : okCod bs) : FnD Try.prog 6 [codL bs] (.tu [(cfF bs).dd, .ag [intL (cR1 bs)]]) := by
 have e1 := divided_at 8 bs curQ hb (curQ_ok _)
 have h1 := cfF_ok bs
 have e2 := aregion_at 8 13 bs (cfF bs).c hb (okCur_mono h1 (by omega)) (by decide) (by decide) (by decide)
 have k1 := arS_ok hb h1
 have hF : dvS bs curQ = cfF bs := rfl
 rw [hF] at e1
 unfold cR1
 generalize arS bs (cfF bs).c = Z at *
 generalize cfF bs = z at *
 obtain ⟨zc, zl, o, n⟩ := Z
 obtain ⟨fc, fd, fl, ff, fs⟩ := z
 obtain ⟨_, j1, j2, j3, _⟩ := k1
 simp only [curQ, arL, FdS.a, FdS.dd] at *
 have f1 := rg_raw zl o n j1
 have hm1 : (zl.map D.int).length = zl.length := List.length_map _
 generalize intL ((zl.drop o).take n) = fin at *
 refine fn_go Try.func6 rfl rfl Try.ntmps6 Try.results6 (by simp only [slo, Nat.reduceAdd]; rfl) (by simp) ?_
 repeat' (first | (with_reducible first | refine aw_seq fun K hK => ?_ | refine aw_region (by kernel_rfl) ?_) | ((with_reducible refine ev_aw ?_); first | (refine aw_drawJ (by kernel_rfl) (id := 3) _ _ (by kernel_rfl) (pl_CpD_6_3U _ (by kernel_rfl)) (fun KJ hJ => ?_))) | (with_reducible first | refine ru_four ?_ ?_ ?_ ?_ | refine ru_three ?_ ?_ ?_ | refine ru_two ?_ ?_ | refine rv_split ?_ ?_ | refine rv_two ?_ ?_ | refine rp_two ?_ ?_) | ((with_reducible refine evg ?_); simp only [go_sem, St.clean, cleanO, ↓reduceIte, Nat.reduceEqDiff, Nat.reduceBEq, Nat.reduceAdd, Nat.reduceMul, Nat.reduceSub, Nat.reduceLT, Nat.reduceLeDiff]) | (simp (disch := omega) only [dsq, Int.reduceSub, Int.reduceAdd, Int.reduceToNat]) | ((with_reducible refine ev_call ?_); (first | (refine call_s e1 ?_ ?_ ?_ ?_ ?_; (focus rfl); (focus first | exact trivial | exact And.intro rfl trivial | exact ⟨rfl, rfl, trivial⟩ | exact ⟨rfl, rfl, rfl, trivial⟩); (focus rfl); (focus (simp [-List.map_map, apartO, dropO, killN, obCells, refs_dmap, nofnsD, AV.refs, AV.refsL, AV.nofn, AV.nofns] <;> fail))) | (refine call_s e2 ?_ ?_ ?_ ?_ ?_; (focus rfl); (focus first | exact trivial | exact And.intro rfl trivial | exact ⟨rfl, rfl, trivial⟩ | exact ⟨rfl, rfl, rfl, trivial⟩); (focus rfl); (focus (simp [-List.map_map, apartO, dropO, killN, obCells, refs_dmap, nofnsD, AV.refs, AV.refsL, AV.nofn, AV.nofns] <;> fail)))); refine k_run ?_) | ((with_reducible refine And.intro ?_ ?_); (focus first | omega | (simp; done) | (simp; omega) | ((repeat' (with_reducible refine And.intro ?_ ?_)) <;> first | omega | rfl | (simp only [go_sem, refsL_app, refs_dmap] <;> fail) | (simp [refsL_app, refs_dmap, AV.refsL, AV.refs] <;> omega)))) | (with_reducible refine hJ _ (fun K hK => ?_) ?_ <;> clear hJ KJ) | ((with_reducible refine ev_less ?_); (refine ⟨rfl, ?_, ?_⟩ <;> simp only [go_sem, St.clean, cleanO, SubS, SubO, beq_self_eq_true, ↓reduceIte, Nat.reduceEqDiff, Nat.reduceBEq, Nat.reduceAdd, Nat.reduceMul, Nat.reduceSub, Nat.reduceLT, Nat.reduceLeDiff])) | ((with_reducible first | apply hK | (clear hK K; first | apply hK | (clear hK K; apply hK))); clear hK K) | fail)
 all_goals (try omega)
 refine res_at rfl (by simp [D.plain, plains]) (by simp) ?_
 all_goals first | exact rg_plains _ _ _ | rw [← f1]

set_option maxRecDepth 100000 in
theorem pl_CpD_17_3V (l : List Oper) (h : l = opsOf Try.f17 3) : planVB l (.still 1 (.still 6 (.calc 2 (.calc 4 (.split 0 (.split 3 (.split 5 (.one 7 (.one 8 (.one 9 (.one 10 (.still 11 PV.fin))))) (.one 7 (.split 5 (.one 8 (.one 9 (.one 10 (.still 11 PV.fin)))) (.dead 4)))) (.split 5 (.one 7 (.split 3 (.one 8 (.one 9 (.one 10 (.still 11 PV.fin)))) (.dead 4))) (.one 7 (.split 3 (.split 5 (.one 8 (.one 9 (.one 10 (.still 11 PV.fin)))) (.dead 4)) (.split 5 (.dead 4) (.dead 5)))))) (.split 3 (.split 5 (.one 7 (.split 0 (.one 8 (.one 9 (.one 10 (.still 11 PV.fin)))) (.one 8 (.split 0 (.one 9 (.one 10 (.still 11 PV.fin))) (.one 9 (.split 0 (.one 10 (.still 11 PV.fin)) (.dead 2))))))) (.one 7 (.split 0 (.split 5 (.one 8 (.one 9 (.one 10 (.still 11 PV.fin)))) (.dead 4)) (.split 5 (.one 8 (.split 0 (.one 9 (.one 10 (.still 11 PV.fin))) (.one 9 (.split 0 (.one 10 (.still 11 PV.fin)) (.dead 2))))) (.dead 5))))) (.split 5 (.one 7 (.split 0 (.split 3 (.one 8 (.one 9 (.one 10 (.still 11 PV.fin)))) (.dead 4)) (.split 3 (.one 8 (.split 0 (.one 9 (.one 10 (.still 11 PV.fin))) (.one 9 (.split 0 (.one 10 (.still 11 PV.fin)) (.dead 2))))) (.dead 5)))) (.one 7 (.split 0 (.split 3 (.split 5 (.one 8 (.one 9 (.one 10 (.still 11 PV.fin)))) (.dead 4)) (.split 5 (.dead 4) (.dead 5))) (.split 3 (.split 5 (.one 8 (.split 0 (.one 9 (.one 10 (.still 11 PV.fin))) (.one 9 (.split 0 (.one 10 (.still 11 PV.fin)) (.dead 2))))) (.dead 5)) (.split 5 (.dead 5) (.dead 6)))))))))))) [0, 1, 2, 3, 4, 5, 6, 11] = true := by
 subst h
 kernel_rfl

theorem drawOT_fn (bs : List Int) (hb : okCod bs) : FnD Try.prog 17 [codL bs] (.tu [(cfF bs).dd, .int (cOx bs)]) := by
 have e1 := divided_at 8 bs curQ hb (curQ_ok _)
 have h1 := cfF_ok bs
 have e2 := atinc_at 8 bs (cfF bs).c hb (okCur_mono h1 (by omega))
 have q1 := atC_ok (bs := bs) h1
 have e3 := among_at 8 19 bs [(cfF bs).f, (cfF bs).s, atV bs (cfF bs).c] 3 (atC bs (cfF bs).c) hb (okCur_mono q1 (by omega)) (by decide) (by simp) (by simp) (by decide) (by decide) (by decide)
 have hF : dvS bs curQ = cfF bs := rfl
 rw [hF] at e1
 unfold cOx
 simp only [List.map] at e3
 generalize amV bs [(cfF bs).f, (cfF bs).s, atV bs (cfF bs).c] 3 (atC bs (cfF bs).c) = v3 at *
 generalize pickC bs 3 (atC bs (cfF bs).c) = c3 at *
 generalize atC bs (cfF bs).c = c2 at *
 generalize atV bs (cfF bs).c = v2 at *
 generalize cfF bs = z at *
 obtain ⟨fc, fd, fl, ff, fs⟩ := z
 simp only [curQ, FdS.a, FdS.dd] at *
 refine fn_go Try.func17 rfl rfl Try.ntmps17 Try.results17 (by simp only [slo, Nat.reduceAdd]; rfl) (by simp) ?_
 repeat' (first | (with_reducible first | refine aw_seq fun K hK => ?_ | refine aw_region (by kernel_rfl) ?_) | ((with_reducible refine ev_aw ?_); first | (refine aw_drawW (by kernel_rfl) (id := 3) _ _ (by kernel_rfl) (pl_CpD_17_3V _ (by kernel_rfl)) (fun KJ hJ => ?_))) | (with_reducible first | refine ru_four ?_ ?_ ?_ ?_ | refine ru_three ?_ ?_ ?_ | refine ru_two ?_ ?_ | refine rv_split ?_ ?_ | refine rv_two ?_ ?_ | refine rp_two ?_ ?_) | ((with_reducible refine evg ?_); simp only [go_sem, St.clean, cleanO, ↓reduceIte, Nat.reduceEqDiff, Nat.reduceBEq, Nat.reduceAdd, Nat.reduceMul, Nat.reduceSub, Nat.reduceLT, Nat.reduceLeDiff]) | (simp (disch := omega) only [dsq, Int.reduceSub, Int.reduceAdd, Int.reduceToNat]) | ((with_reducible refine ev_call ?_); (first | (refine call_s e1 ?_ ?_ ?_ ?_ ?_; (focus rfl); (focus first | exact trivial | exact And.intro rfl trivial | exact ⟨rfl, rfl, trivial⟩ | exact ⟨rfl, rfl, rfl, trivial⟩); (focus rfl); (focus (simp [-List.map_map, apartO, dropO, killN, obCells, refs_dmap, nofnsD, AV.refs, AV.refsL, AV.nofn, AV.nofns] <;> fail))) | (refine call_s e2 ?_ ?_ ?_ ?_ ?_; (focus rfl); (focus first | exact trivial | exact And.intro rfl trivial | exact ⟨rfl, rfl, trivial⟩ | exact ⟨rfl, rfl, rfl, trivial⟩); (focus rfl); (focus (simp [-List.map_map, apartO, dropO, killN, obCells, refs_dmap, nofnsD, AV.refs, AV.refsL, AV.nofn, AV.nofns] <;> fail))) | (refine call_s e3 ?_ ?_ ?_ ?_ ?_; (focus rfl); (focus first | exact trivial | exact And.intro rfl trivial | exact ⟨rfl, rfl, trivial⟩ | exact ⟨rfl, rfl, rfl, trivial⟩); (focus rfl); (focus (simp [-List.map_map, apartO, dropO, killN, obCells, refs_dmap, nofnsD, AV.refs, AV.refsL, AV.nofn, AV.nofns] <;> fail)))); refine k_run ?_) | ((with_reducible refine And.intro ?_ ?_); (focus first | omega | (simp; done) | (simp; omega) | ((repeat' (with_reducible refine And.intro ?_ ?_)) <;> first | omega | rfl | (simp only [go_sem, refsL_app, refs_dmap] <;> fail) | (simp [refsL_app, refs_dmap, AV.refsL, AV.refs] <;> omega)))) | (with_reducible refine hJ _ (fun K hK => ?_) ?_ <;> clear hJ KJ) | ((with_reducible refine ev_less ?_); (refine ⟨rfl, ?_, ?_⟩ <;> simp only [go_sem, St.clean, cleanO, SubS, SubO, beq_self_eq_true, ↓reduceIte, Nat.reduceEqDiff, Nat.reduceBEq, Nat.reduceAdd, Nat.reduceMul, Nat.reduceSub, Nat.reduceLT, Nat.reduceLeDiff])) | ((with_reducible first | apply hK | (clear hK K; first | apply hK | (clear hK K; apply hK))); clear hK K) | fail)
 all_goals (try omega)
 refine res_at rfl (by simp [D.plain, plains]) (by simp) ?_
 rfl

end Go.Proofs.Ytjbifidphckjoaa
