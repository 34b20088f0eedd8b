/- A drawn family that may be invalid: the walk. -/
import Derived.Test.YtdeobicgildamaaGreatDoorDrG
import Derived.Test.YtdeobicgildamaaGreatDoorDrF2
import Derived.Test.YtdeobicgildamaaGreatDoorFam3
import Derived.WalkKit
import Derived.WalkSpells
import Derived.KernelRfl
namespace Go.Proofs.YtdeobicgildamaaGreatDoor
open Go.RowKit
set_option linter.unusedVariables false
set_option linter.unusedSimpArgs false

attribute [local go_sem] PerV.d PerV.cs perL famD curO codL perO

attribute [local simp] refs_dmap perC_all perC_plains ints_plain ints_all ints_all1 ints_plain_take curO codL perO

theorem fam_at (t : Nat) (bs : List Int) (c : CurV) (hb : okCod bs) (h0 : okCur 100000 c) (ht : t < 5000) : FnS Tryz.prog 64 [(5000, curO bs c)] [.bp 5000 0] [(5000, curO bs (famZ bs c).c), (t, .ds (perC (famZ bs c).l))] (.ag [.bs t 0 (famZ bs c).l.length 5]) := by
  have h := (fam_fn bs c hb h0).sw 5001 t
  have e2 : swp 5001 t 5000 = 5000 := by
    have h1 : 5000 ≠ t := by omega
    simp [swp, h1]
  simpa only [curO, swO, AV.swL, AV.sw, OB.sw, sw_self, e2] using h

set_option maxRecDepth 100000 in
theorem pl_DrG2_46_17U (l : List Oper) (h : l = opsOf Tryz.f46 17) : planUB l (.pure 3 (.calc 0 (.two true 1 (.two true 2 (.one false 4 (.calc 5 (.calc 6 PU.fin))) false 4 (.calc 5 (.one true 2 (.calc 6 PU.fin)))) false 4 (.calc 5 (.one true 1 (.one true 2 (.calc 6 PU.fin))))))) [4] = true := by
  subst h
  kernel_rfl

set_option maxRecDepth 100000 in
set_option maxHeartbeats 4000000 in
theorem any_fn (bs : List Int) (c : CurV) (hb : okCod bs) (h0 : okCur 50000 c) : FnS Tryz.prog 46 [(5000, curO bs c)] [.bp 5000 0] [(5000, curO bs (anyZ bs c).c), (5001, .ds (perC (anyZ bs c).l))] (.ag [.bs 5001 0 (anyZ bs c).l.length 5]) := by
  have e0 := fam_at 8 bs c hb (okCur_mono h0 (by omega)) (by omega)
  obtain ⟨f1, f2, f3⟩ := famZ_ok hb h0
  have hZ : anyZ bs c = if (famZ bs c).l.length = 0 then famZ bs c else anyCh bs (famZ bs c) (pickV bs (famZ bs c).l.length (famZ bs c).c).toNat (pickV bs 30 (pickC bs (famZ bs c).l.length (famZ bs c).c)) (pickC bs 30 (pickC bs (famZ bs c).l.length (famZ bs c).c)) := rfl
  generalize famZ bs c = z at *
  generalize anyZ bs c = Z at *
  obtain ⟨zc, zl, zi⟩ := z
  simp only at f1 f2 f3 hZ e0
  have hpl : (perC zl).length = zl.length * 5 := recC_len per_k zl
  by_cases hz : zl.length = 0
  · rw [if_pos hz] at hZ
    subst hZ
    refine fns_go Tryz.func46 rfl rfl Tryz.ntmps46 Tryz.results46 (by simp only [slotsA, Nat.reduceAdd]; rfl) (by simp) rfl ?_
    repeat' (first | (with_reducible first | refine aw_seq fun K hK => ?_ | refine aw_region (by kernel_rfl) ?_ | refine aw_condk ?_ | refine aw_block ?_) | ((with_reducible refine ev_aw ?_); first | (refine aw_drawJ (by kernel_rfl) (id := 17) _ _ (by kernel_rfl) (pl_DrG2_46_17U _ (by kernel_rfl)) (fun KJ hJ => ?_))) | (with_reducible first | refine ru_four ?_ ?_ ?_ ?_ | refine ru_three ?_ ?_ ?_ | refine ru_two ?_ ?_ | refine rv_split ?_ ?_ | refine rv_two ?_ ?_ | refine rp_two ?_ ?_) | ((with_reducible refine evg ?_); simp only [go_sem, St.clean, cleanO, ↓reduceIte, Nat.reduceEqDiff, Nat.reduceBEq, Nat.reduceAdd, Nat.reduceMul, Nat.reduceSub, Nat.reduceLT, Nat.reduceLeDiff]) | (simp (disch := omega) only [wr, drop_at, str_at, int_at, Int.reduceSub, Int.reduceAdd, Int.reduceToNat, Int.toNat_zero, wr]) | ((with_reducible refine ev_call ?_); (first | (refine call_s e0 ?_ ?_ ?_ ?_ ?_; (focus rfl); (focus first | exact trivial | exact And.intro rfl trivial | exact ⟨rfl, rfl, trivial⟩ | exact ⟨rfl, rfl, rfl, trivial⟩); (focus rfl); (focus (simp [-List.map_map, apartO, dropO, killN, obCells, refs_dmap, nofnsD, AV.refs, AV.refsL, AV.nofn, AV.nofns] <;> fail)))); refine k_run ?_) | ((with_reducible refine ev_guard ?_); (with_reducible first | refine guard_t ?_ ?_ rfl | refine guard_f ?_ ?_ rfl) <;> (intro h; (try simp only [h]); (try simp only [nrm] at h) <;> (try ((with_reducible exfalso); omega)))) | ((with_reducible refine ck_split (fun h => ?_) (fun h => ?_)) <;> (try simp only [nrm] at h) <;> (try ((with_reducible exfalso); omega))) | ((with_reducible refine And.intro ?_ ?_); (first | omega | focus (simp; done) | focus (simp; omega) | focus ((repeat' (with_reducible refine And.intro ?_ ?_)) <;> first | omega | rfl | (simp only [go_sem, refsL_app, refs_dmap] <;> fail) | (simp [refsL_app, refs_dmap, AV.refsL, AV.refs] <;> omega)))) | (with_reducible refine hJ _ (fun K hK => ?_) ?_ <;> clear hJ KJ) | ((with_reducible refine ev_less ?_); (refine ⟨rfl, ?_, ?_⟩ <;> simp only [go_sem, St.clean, cleanO, SubS, SubO, beq_self_eq_true, ↓reduceIte, Nat.reduceEqDiff, Nat.reduceBEq, Nat.reduceAdd, Nat.reduceMul, Nat.reduceSub, Nat.reduceLT, Nat.reduceLeDiff])) | ((with_reducible first | apply hK | (clear hK K; first | apply hK | (clear hK K; first | apply hK | (clear hK K; apply hK)))); clear hK K) | fail)
    refine ress_step [(8, 5001)] (by simp) (by simp [lensO, lookO, obCells]) rfl ⟨rfl, rfl, trivial⟩ ?_
    simp only [go_sem, ↓reduceIte, Nat.reduceEqDiff, Nat.reduceBEq, Nat.reduceAdd, Nat.reduceMul, Nat.reduceSub, Nat.reduceLT, Nat.reduceLeDiff]
    rfl
  · rw [if_neg hz] at hZ
    have p1 := pickV_le hb (n := zl.length) f1.1
    have p2 := p1.2 (by omega)
    have q1 := okCur_pick (bs := bs) (n := zl.length) f1
    have q2 := okCur_pick (bs := bs) (n := 30) q1
    have e1 := pick_at 5000 bs zl.length zc hb (okCur_mono f1 (by omega))
    have e2 := pick_at 5000 bs 30 (pickC bs zl.length zc) hb (okCur_mono q1 (by omega))
    generalize pickC bs 30 (pickC bs zl.length zc) = c2 at *
    generalize pickV bs 30 (pickC bs zl.length zc) = n at *
    generalize pickC bs zl.length zc = c1 at *
    generalize pickV bs zl.length zc = v at *
    obtain ⟨k, rfl⟩ := Int.eq_ofNat_of_zero_le p1.1
    rw [Int.toNat_natCast] at hZ
    have hk : k < zl.length := by omega
    have hm : zl.getD k PerV.zero ∈ zl := by
      rw [List.getD_eq_getElem?_getD, List.getElem?_eq_getElem hk]
      exact List.getElem_mem hk
    obtain ⟨b1, b2, b3, b4⟩ := f3 _ hm
    have hat := per_at hk
    unfold anyCh at hZ
    simp only at hZ
    have hset := fun y => per_set y hk
    generalize zl.getD k PerV.zero = p at *
    obtain ⟨pi, pb, pd, po, pt⟩ := p
    simp only at b1 b2 b3 b4 hat hZ
    by_cases n0 : n = 0
    · subst n0
      rw [if_pos rfl] at hZ
      subst hZ
      have e3 := among_at 5000 31 bs [0, pi, 1, 999] 4 c2 hb (okCur_mono q2 (by omega)) (by decide) (by simp) (by simp) (by decide) (by decide) (by decide)
      generalize amV bs [0, pi, 1, 999] 4 c2 = am at *
      generalize pickC bs 4 c2 = c3 at *
      have hs := hset ⟨pi, pb, pd, am, pt⟩
      simp only at hs
      refine fns_go Tryz.func46 rfl rfl Tryz.ntmps46 Tryz.results46 (by simp only [slotsA, Nat.reduceAdd]; rfl) (by simp) rfl ?_
      repeat' (first | (with_reducible first | refine aw_seq fun K hK => ?_ | refine aw_region (by kernel_rfl) ?_ | refine aw_condk ?_ | refine aw_block ?_) | ((with_reducible refine ev_aw ?_); first | (refine aw_drawJ (by kernel_rfl) (id := 17) _ _ (by kernel_rfl) (pl_DrG2_46_17U _ (by kernel_rfl)) (fun KJ hJ => ?_))) | (with_reducible first | refine ru_four ?_ ?_ ?_ ?_ | refine ru_three ?_ ?_ ?_ | refine ru_two ?_ ?_ | refine rv_split ?_ ?_ | refine rv_two ?_ ?_ | refine rp_two ?_ ?_) | ((with_reducible refine evg ?_); simp only [go_sem, St.clean, cleanO, ↓reduceIte, Nat.reduceEqDiff, Nat.reduceBEq, Nat.reduceAdd, Nat.reduceMul, Nat.reduceSub, Nat.reduceLT, Nat.reduceLeDiff]) | (simp (disch := omega) only [wr, drop_at, str_at, int_at, Int.reduceSub, Int.reduceAdd, Int.reduceToNat, Int.toNat_zero, hat, wr]) | ((with_reducible refine ev_call ?_); (first | (refine call_s e0 ?_ ?_ ?_ ?_ ?_; (focus rfl); (focus first | exact trivial | exact And.intro rfl trivial | exact ⟨rfl, rfl, trivial⟩ | exact ⟨rfl, rfl, rfl, trivial⟩); (focus rfl); (focus (simp [-List.map_map, apartO, dropO, killN, obCells, refs_dmap, nofnsD, AV.refs, AV.refsL, AV.nofn, AV.nofns] <;> fail))) | (refine call_s e1 ?_ ?_ ?_ ?_ ?_; (focus rfl); (focus first | exact trivial | exact And.intro rfl trivial | exact ⟨rfl, rfl, trivial⟩ | exact ⟨rfl, rfl, rfl, trivial⟩); (focus rfl); (focus (simp [-List.map_map, apartO, dropO, killN, obCells, refs_dmap, nofnsD, AV.refs, AV.refsL, AV.nofn, AV.nofns] <;> fail))) | (refine call_s e2 ?_ ?_ ?_ ?_ ?_; (focus rfl); (focus first | exact trivial | exact And.intro rfl trivial | exact ⟨rfl, rfl, trivial⟩ | exact ⟨rfl, rfl, rfl, trivial⟩); (focus rfl); (focus (simp [-List.map_map, apartO, dropO, killN, obCells, refs_dmap, nofnsD, AV.refs, AV.refsL, AV.nofn, AV.nofns] <;> fail))) | (refine call_s e3 ?_ ?_ ?_ ?_ ?_; (focus rfl); (focus first | exact trivial | exact And.intro rfl trivial | exact ⟨rfl, rfl, trivial⟩ | exact ⟨rfl, rfl, rfl, trivial⟩); (focus rfl); (focus (simp [-List.map_map, apartO, dropO, killN, obCells, refs_dmap, nofnsD, AV.refs, AV.refsL, AV.nofn, AV.nofns] <;> fail)))); refine k_run ?_) | ((with_reducible refine ev_guard ?_); (with_reducible first | refine guard_t ?_ ?_ rfl | refine guard_f ?_ ?_ rfl) <;> (intro h; (try simp only [h]); (try simp only [nrm] at h) <;> (try ((with_reducible exfalso); omega)))) | ((with_reducible refine ck_split (fun h => ?_) (fun h => ?_)) <;> (try simp only [nrm] at h) <;> (try ((with_reducible exfalso); omega))) | ((with_reducible refine And.intro ?_ ?_); (first | omega | focus (simp; done) | focus (simp; omega) | focus ((repeat' (with_reducible refine And.intro ?_ ?_)) <;> first | omega | rfl | (simp only [go_sem, refsL_app, refs_dmap] <;> fail) | (simp [refsL_app, refs_dmap, AV.refsL, AV.refs] <;> omega)))) | (with_reducible refine hJ _ (fun K hK => ?_) ?_ <;> clear hJ KJ) | ((with_reducible refine ev_less ?_); (refine ⟨rfl, ?_, ?_⟩ <;> simp only [go_sem, St.clean, cleanO, SubS, SubO, beq_self_eq_true, ↓reduceIte, Nat.reduceEqDiff, Nat.reduceBEq, Nat.reduceAdd, Nat.reduceMul, Nat.reduceSub, Nat.reduceLT, Nat.reduceLeDiff])) | ((with_reducible first | apply hK | (clear hK K; first | apply hK | (clear hK K; first | apply hK | (clear hK K; apply hK)))); clear hK K) | fail)
      all_goals first
        | ((with_reducible exfalso)
           exact absurd trivial (by assumption))
        | (simp only [hs, List.length_set]
           refine ress_step [(8, 5001)] (by simp) (by simp [lensO, lookO, obCells]) rfl ⟨rfl, rfl, trivial⟩ ?_
           simp only [go_sem, ↓reduceIte, Nat.reduceEqDiff, Nat.reduceBEq, Nat.reduceAdd, Nat.reduceMul, Nat.reduceSub, Nat.reduceLT, Nat.reduceLeDiff]
           rfl)
    · skip
      by_cases n1 : n = 1
      · subst n1
        rw [if_neg (by decide)] at hZ
        rw [if_pos rfl] at hZ
        subst hZ
        have e3 := among_at 5000 37 bs [0, 3000, 1480] 3 c2 hb (okCur_mono q2 (by omega)) (by decide) (by simp) (by simp) (by decide) (by decide) (by decide)
        generalize amV bs [0, 3000, 1480] 3 c2 = am at *
        generalize pickC bs 3 c2 = c3 at *
        have hs := hset ⟨pi, am, pd, po, pt⟩
        simp only at hs
        refine fns_go Tryz.func46 rfl rfl Tryz.ntmps46 Tryz.results46 (by simp only [slotsA, Nat.reduceAdd]; rfl) (by simp) rfl ?_
        repeat' (first | (with_reducible first | refine aw_seq fun K hK => ?_ | refine aw_region (by kernel_rfl) ?_ | refine aw_condk ?_ | refine aw_block ?_) | ((with_reducible refine ev_aw ?_); first | (refine aw_drawJ (by kernel_rfl) (id := 17) _ _ (by kernel_rfl) (pl_DrG2_46_17U _ (by kernel_rfl)) (fun KJ hJ => ?_))) | (with_reducible first | refine ru_four ?_ ?_ ?_ ?_ | refine ru_three ?_ ?_ ?_ | refine ru_two ?_ ?_ | refine rv_split ?_ ?_ | refine rv_two ?_ ?_ | refine rp_two ?_ ?_) | ((with_reducible refine evg ?_); simp only [go_sem, St.clean, cleanO, ↓reduceIte, Nat.reduceEqDiff, Nat.reduceBEq, Nat.reduceAdd, Nat.reduceMul, Nat.reduceSub, Nat.reduceLT, Nat.reduceLeDiff]) | (simp (disch := omega) only [wr, drop_at, str_at, int_at, Int.reduceSub, Int.reduceAdd, Int.reduceToNat, Int.toNat_zero, hat, wr]) | ((with_reducible refine ev_call ?_); (first | (refine call_s e0 ?_ ?_ ?_ ?_ ?_; (focus rfl); (focus first | exact trivial | exact And.intro rfl trivial | exact ⟨rfl, rfl, trivial⟩ | exact ⟨rfl, rfl, rfl, trivial⟩); (focus rfl); (focus (simp [-List.map_map, apartO, dropO, killN, obCells, refs_dmap, nofnsD, AV.refs, AV.refsL, AV.nofn, AV.nofns] <;> fail))) | (refine call_s e1 ?_ ?_ ?_ ?_ ?_; (focus rfl); (focus first | exact trivial | exact And.intro rfl trivial | exact ⟨rfl, rfl, trivial⟩ | exact ⟨rfl, rfl, rfl, trivial⟩); (focus rfl); (focus (simp [-List.map_map, apartO, dropO, killN, obCells, refs_dmap, nofnsD, AV.refs, AV.refsL, AV.nofn, AV.nofns] <;> fail))) | (refine call_s e2 ?_ ?_ ?_ ?_ ?_; (focus rfl); (focus first | exact trivial | exact And.intro rfl trivial | exact ⟨rfl, rfl, trivial⟩ | exact ⟨rfl, rfl, rfl, trivial⟩); (focus rfl); (focus (simp [-List.map_map, apartO, dropO, killN, obCells, refs_dmap, nofnsD, AV.refs, AV.refsL, AV.nofn, AV.nofns] <;> fail))) | (refine call_s e3 ?_ ?_ ?_ ?_ ?_; (focus rfl); (focus first | exact trivial | exact And.intro rfl trivial | exact ⟨rfl, rfl, trivial⟩ | exact ⟨rfl, rfl, rfl, trivial⟩); (focus rfl); (focus (simp [-List.map_map, apartO, dropO, killN, obCells, refs_dmap, nofnsD, AV.refs, AV.refsL, AV.nofn, AV.nofns] <;> fail)))); refine k_run ?_) | ((with_reducible refine ev_guard ?_); (with_reducible first | refine guard_t ?_ ?_ rfl | refine guard_f ?_ ?_ rfl) <;> (intro h; (try simp only [h]); (try simp only [nrm] at h) <;> (try ((with_reducible exfalso); omega)))) | ((with_reducible refine ck_split (fun h => ?_) (fun h => ?_)) <;> (try simp only [nrm] at h) <;> (try ((with_reducible exfalso); omega))) | ((with_reducible refine And.intro ?_ ?_); (first | omega | focus (simp; done) | focus (simp; omega) | focus ((repeat' (with_reducible refine And.intro ?_ ?_)) <;> first | omega | rfl | (simp only [go_sem, refsL_app, refs_dmap] <;> fail) | (simp [refsL_app, refs_dmap, AV.refsL, AV.refs] <;> omega)))) | (with_reducible refine hJ _ (fun K hK => ?_) ?_ <;> clear hJ KJ) | ((with_reducible refine ev_less ?_); (refine ⟨rfl, ?_, ?_⟩ <;> simp only [go_sem, St.clean, cleanO, SubS, SubO, beq_self_eq_true, ↓reduceIte, Nat.reduceEqDiff, Nat.reduceBEq, Nat.reduceAdd, Nat.reduceMul, Nat.reduceSub, Nat.reduceLT, Nat.reduceLeDiff])) | ((with_reducible first | apply hK | (clear hK K; first | apply hK | (clear hK K; first | apply hK | (clear hK K; apply hK)))); clear hK K) | fail)
        all_goals first
          | ((with_reducible exfalso)
             exact absurd trivial (by assumption))
          | (simp only [hs, List.length_set]
             refine ress_step [(8, 5001)] (by simp) (by simp [lensO, lookO, obCells]) rfl ⟨rfl, rfl, trivial⟩ ?_
             simp only [go_sem, ↓reduceIte, Nat.reduceEqDiff, Nat.reduceBEq, Nat.reduceAdd, Nat.reduceMul, Nat.reduceSub, Nat.reduceLT, Nat.reduceLeDiff]
             rfl)
      · skip
        by_cases n2 : n = 2
        · subst n2
          rw [if_neg (by decide)] at hZ
          rw [if_neg (by decide)] at hZ
          rw [if_pos rfl] at hZ
          subst hZ
          have hs := hset ⟨pi, pb, pb - 1, po, pt⟩
          simp only at hs
          refine fns_go Tryz.func46 rfl rfl Tryz.ntmps46 Tryz.results46 (by simp only [slotsA, Nat.reduceAdd]; rfl) (by simp) rfl ?_
          repeat' (first | (with_reducible first | refine aw_seq fun K hK => ?_ | refine aw_region (by kernel_rfl) ?_ | refine aw_condk ?_ | refine aw_block ?_) | ((with_reducible refine ev_aw ?_); first | (refine aw_drawJ (by kernel_rfl) (id := 17) _ _ (by kernel_rfl) (pl_DrG2_46_17U _ (by kernel_rfl)) (fun KJ hJ => ?_))) | (with_reducible first | refine ru_four ?_ ?_ ?_ ?_ | refine ru_three ?_ ?_ ?_ | refine ru_two ?_ ?_ | refine rv_split ?_ ?_ | refine rv_two ?_ ?_ | refine rp_two ?_ ?_) | ((with_reducible refine evg ?_); simp only [go_sem, St.clean, cleanO, ↓reduceIte, Nat.reduceEqDiff, Nat.reduceBEq, Nat.reduceAdd, Nat.reduceMul, Nat.reduceSub, Nat.reduceLT, Nat.reduceLeDiff]) | (simp (disch := omega) only [wr, drop_at, str_at, int_at, Int.reduceSub, Int.reduceAdd, Int.reduceToNat, Int.toNat_zero, hat, wr]) | ((with_reducible refine ev_call ?_); (first | (refine call_s e0 ?_ ?_ ?_ ?_ ?_; (focus rfl); (focus first | exact trivial | exact And.intro rfl trivial | exact ⟨rfl, rfl, trivial⟩ | exact ⟨rfl, rfl, rfl, trivial⟩); (focus rfl); (focus (simp [-List.map_map, apartO, dropO, killN, obCells, refs_dmap, nofnsD, AV.refs, AV.refsL, AV.nofn, AV.nofns] <;> fail))) | (refine call_s e1 ?_ ?_ ?_ ?_ ?_; (focus rfl); (focus first | exact trivial | exact And.intro rfl trivial | exact ⟨rfl, rfl, trivial⟩ | exact ⟨rfl, rfl, rfl, trivial⟩); (focus rfl); (focus (simp [-List.map_map, apartO, dropO, killN, obCells, refs_dmap, nofnsD, AV.refs, AV.refsL, AV.nofn, AV.nofns] <;> fail))) | (refine call_s e2 ?_ ?_ ?_ ?_ ?_; (focus rfl); (focus first | exact trivial | exact And.intro rfl trivial | exact ⟨rfl, rfl, trivial⟩ | exact ⟨rfl, rfl, rfl, trivial⟩); (focus rfl); (focus (simp [-List.map_map, apartO, dropO, killN, obCells, refs_dmap, nofnsD, AV.refs, AV.refsL, AV.nofn, AV.nofns] <;> fail)))); refine k_run ?_) | ((with_reducible refine ev_guard ?_); (with_reducible first | refine guard_t ?_ ?_ rfl | refine guard_f ?_ ?_ rfl) <;> (intro h; (try simp only [h]); (try simp only [nrm] at h) <;> (try ((with_reducible exfalso); omega)))) | ((with_reducible refine ck_split (fun h => ?_) (fun h => ?_)) <;> (try simp only [nrm] at h) <;> (try ((with_reducible exfalso); omega))) | ((with_reducible refine And.intro ?_ ?_); (first | omega | focus (simp; done) | focus (simp; omega) | focus ((repeat' (with_reducible refine And.intro ?_ ?_)) <;> first | omega | rfl | (simp only [go_sem, refsL_app, refs_dmap] <;> fail) | (simp [refsL_app, refs_dmap, AV.refsL, AV.refs] <;> omega)))) | (with_reducible refine hJ _ (fun K hK => ?_) ?_ <;> clear hJ KJ) | ((with_reducible refine ev_less ?_); (refine ⟨rfl, ?_, ?_⟩ <;> simp only [go_sem, St.clean, cleanO, SubS, SubO, beq_self_eq_true, ↓reduceIte, Nat.reduceEqDiff, Nat.reduceBEq, Nat.reduceAdd, Nat.reduceMul, Nat.reduceSub, Nat.reduceLT, Nat.reduceLeDiff])) | ((with_reducible first | apply hK | (clear hK K; first | apply hK | (clear hK K; first | apply hK | (clear hK K; apply hK)))); clear hK K) | fail)
          all_goals first
            | ((with_reducible exfalso)
               exact absurd trivial (by assumption))
            | (simp only [hs, List.length_set]
               refine ress_step [(8, 5001)] (by simp) (by simp [lensO, lookO, obCells]) rfl ⟨rfl, rfl, trivial⟩ ?_
               simp only [go_sem, ↓reduceIte, Nat.reduceEqDiff, Nat.reduceBEq, Nat.reduceAdd, Nat.reduceMul, Nat.reduceSub, Nat.reduceLT, Nat.reduceLeDiff]
               rfl)
        · skip
          by_cases n3 : n = 3
          · subst n3
            rw [if_neg (by decide)] at hZ
            rw [if_neg (by decide)] at hZ
            rw [if_neg (by decide)] at hZ
            rw [if_pos rfl] at hZ
            subst hZ
            have e3 := among_at 5000 49 bs [0, 1000, 1] 3 c2 hb (okCur_mono q2 (by omega)) (by decide) (by simp) (by simp) (by decide) (by decide) (by decide)
            generalize amV bs [0, 1000, 1] 3 c2 = am at *
            generalize pickC bs 3 c2 = c3 at *
            have hs := hset ⟨am, pb, pd, po, pt⟩
            simp only at hs
            refine fns_go Tryz.func46 rfl rfl Tryz.ntmps46 Tryz.results46 (by simp only [slotsA, Nat.reduceAdd]; rfl) (by simp) rfl ?_
            repeat' (first | (with_reducible first | refine aw_seq fun K hK => ?_ | refine aw_region (by kernel_rfl) ?_ | refine aw_condk ?_ | refine aw_block ?_) | ((with_reducible refine ev_aw ?_); first | (refine aw_drawJ (by kernel_rfl) (id := 17) _ _ (by kernel_rfl) (pl_DrG2_46_17U _ (by kernel_rfl)) (fun KJ hJ => ?_))) | (with_reducible first | refine ru_four ?_ ?_ ?_ ?_ | refine ru_three ?_ ?_ ?_ | refine ru_two ?_ ?_ | refine rv_split ?_ ?_ | refine rv_two ?_ ?_ | refine rp_two ?_ ?_) | ((with_reducible refine evg ?_); simp only [go_sem, St.clean, cleanO, ↓reduceIte, Nat.reduceEqDiff, Nat.reduceBEq, Nat.reduceAdd, Nat.reduceMul, Nat.reduceSub, Nat.reduceLT, Nat.reduceLeDiff]) | (simp (disch := omega) only [wr, drop_at, str_at, int_at, Int.reduceSub, Int.reduceAdd, Int.reduceToNat, Int.toNat_zero, hat, wr]) | ((with_reducible refine ev_call ?_); (first | (refine call_s e0 ?_ ?_ ?_ ?_ ?_; (focus rfl); (focus first | exact trivial | exact And.intro rfl trivial | exact ⟨rfl, rfl, trivial⟩ | exact ⟨rfl, rfl, rfl, trivial⟩); (focus rfl); (focus (simp [-List.map_map, apartO, dropO, killN, obCells, refs_dmap, nofnsD, AV.refs, AV.refsL, AV.nofn, AV.nofns] <;> fail))) | (refine call_s e1 ?_ ?_ ?_ ?_ ?_; (focus rfl); (focus first | exact trivial | exact And.intro rfl trivial | exact ⟨rfl, rfl, trivial⟩ | exact ⟨rfl, rfl, rfl, trivial⟩); (focus rfl); (focus (simp [-List.map_map, apartO, dropO, killN, obCells, refs_dmap, nofnsD, AV.refs, AV.refsL, AV.nofn, AV.nofns] <;> fail))) | (refine call_s e2 ?_ ?_ ?_ ?_ ?_; (focus rfl); (focus first | exact trivial | exact And.intro rfl trivial | exact ⟨rfl, rfl, trivial⟩ | exact ⟨rfl, rfl, rfl, trivial⟩); (focus rfl); (focus (simp [-List.map_map, apartO, dropO, killN, obCells, refs_dmap, nofnsD, AV.refs, AV.refsL, AV.nofn, AV.nofns] <;> fail))) | (refine call_s e3 ?_ ?_ ?_ ?_ ?_; (focus rfl); (focus first | exact trivial | exact And.intro rfl trivial | exact ⟨rfl, rfl, trivial⟩ | exact ⟨rfl, rfl, rfl, trivial⟩); (focus rfl); (focus (simp [-List.map_map, apartO, dropO, killN, obCells, refs_dmap, nofnsD, AV.refs, AV.refsL, AV.nofn, AV.nofns] <;> fail)))); refine k_run ?_) | ((with_reducible refine ev_guard ?_); (with_reducible first | refine guard_t ?_ ?_ rfl | refine guard_f ?_ ?_ rfl) <;> (intro h; (try simp only [h]); (try simp only [nrm] at h) <;> (try ((with_reducible exfalso); omega)))) | ((with_reducible refine ck_split (fun h => ?_) (fun h => ?_)) <;> (try simp only [nrm] at h) <;> (try ((with_reducible exfalso); omega))) | ((with_reducible refine And.intro ?_ ?_); (first | omega | focus (simp; done) | focus (simp; omega) | focus ((repeat' (with_reducible refine And.intro ?_ ?_)) <;> first | omega | rfl | (simp only [go_sem, refsL_app, refs_dmap] <;> fail) | (simp [refsL_app, refs_dmap, AV.refsL, AV.refs] <;> omega)))) | (with_reducible refine hJ _ (fun K hK => ?_) ?_ <;> clear hJ KJ) | ((with_reducible refine ev_less ?_); (refine ⟨rfl, ?_, ?_⟩ <;> simp only [go_sem, St.clean, cleanO, SubS, SubO, beq_self_eq_true, ↓reduceIte, Nat.reduceEqDiff, Nat.reduceBEq, Nat.reduceAdd, Nat.reduceMul, Nat.reduceSub, Nat.reduceLT, Nat.reduceLeDiff])) | ((with_reducible first | apply hK | (clear hK K; first | apply hK | (clear hK K; first | apply hK | (clear hK K; apply hK)))); clear hK K) | fail)
            all_goals first
              | ((with_reducible exfalso)
                 exact absurd trivial (by assumption))
              | (simp only [hs, List.length_set]
                 refine ress_step [(8, 5001)] (by simp) (by simp [lensO, lookO, obCells]) rfl ⟨rfl, rfl, trivial⟩ ?_
                 simp only [go_sem, ↓reduceIte, Nat.reduceEqDiff, Nat.reduceBEq, Nat.reduceAdd, Nat.reduceMul, Nat.reduceSub, Nat.reduceLT, Nat.reduceLeDiff]
                 rfl)
          · skip
            by_cases n4 : n = 4
            · subst n4
              rw [if_neg (by decide)] at hZ
              rw [if_neg (by decide)] at hZ
              rw [if_neg (by decide)] at hZ
              rw [if_neg (by decide)] at hZ
              rw [if_pos rfl] at hZ
              subst hZ
              have hi : ((zl.length : Int) - 1) = ((zl.length - 1 : Nat) : Int) := by omega
              have hlast := per_get0 (l := zl) (i := zl.length - 1) (by omega)
              have hm2 : zl.getD (zl.length - 1) PerV.zero ∈ zl := by
                rw [List.getD_eq_getElem?_getD, List.getElem?_eq_getElem (by omega : zl.length - 1 < zl.length)]
                exact List.getElem_mem _
              obtain ⟨d1, d2, _⟩ := f3 _ hm2
              obtain ⟨M, hM⟩ : ∃ M, anyM bs ⟨zc, zl, zi⟩ c2 = M := ⟨_, rfl⟩
              rw [hM]
              unfold anyM at hM
              simp only at hM
              generalize (zl.getD (zl.length - 1) PerV.zero).id = li at *
              refine fns_go Tryz.func46 rfl rfl Tryz.ntmps46 Tryz.results46 (by simp only [slotsA, Nat.reduceAdd]; rfl) (by simp) rfl ?_
              repeat' (first | (with_reducible first | refine aw_seq fun K hK => ?_ | refine aw_region (by kernel_rfl) ?_ | refine aw_condk ?_ | refine aw_block ?_) | ((with_reducible refine ev_aw ?_); first | (refine aw_drawJ (by kernel_rfl) (id := 17) _ _ (by kernel_rfl) (pl_DrG2_46_17U _ (by kernel_rfl)) (fun KJ hJ => ?_))) | (with_reducible first | refine ru_four ?_ ?_ ?_ ?_ | refine ru_three ?_ ?_ ?_ | refine ru_two ?_ ?_ | refine rv_split ?_ ?_ | refine rv_two ?_ ?_ | refine rp_two ?_ ?_) | ((with_reducible refine evg ?_); simp only [go_sem, St.clean, cleanO, ↓reduceIte, Nat.reduceEqDiff, Nat.reduceBEq, Nat.reduceAdd, Nat.reduceMul, Nat.reduceSub, Nat.reduceLT, Nat.reduceLeDiff]) | (simp (disch := omega) only [wr, drop_at, str_at, int_at, Int.reduceSub, Int.reduceAdd, Int.reduceToNat, Int.toNat_zero, hat, hi, hlast, wr]) | ((with_reducible refine ev_call ?_); (first | (refine call_s e0 ?_ ?_ ?_ ?_ ?_; (focus rfl); (focus first | exact trivial | exact And.intro rfl trivial | exact ⟨rfl, rfl, trivial⟩ | exact ⟨rfl, rfl, rfl, trivial⟩); (focus rfl); (focus (simp [-List.map_map, apartO, dropO, killN, obCells, refs_dmap, nofnsD, AV.refs, AV.refsL, AV.nofn, AV.nofns] <;> fail))) | (refine call_s e1 ?_ ?_ ?_ ?_ ?_; (focus rfl); (focus first | exact trivial | exact And.intro rfl trivial | exact ⟨rfl, rfl, trivial⟩ | exact ⟨rfl, rfl, rfl, trivial⟩); (focus rfl); (focus (simp [-List.map_map, apartO, dropO, killN, obCells, refs_dmap, nofnsD, AV.refs, AV.refsL, AV.nofn, AV.nofns] <;> fail))) | (refine call_s e2 ?_ ?_ ?_ ?_ ?_; (focus rfl); (focus first | exact trivial | exact And.intro rfl trivial | exact ⟨rfl, rfl, trivial⟩ | exact ⟨rfl, rfl, rfl, trivial⟩); (focus rfl); (focus (simp [-List.map_map, apartO, dropO, killN, obCells, refs_dmap, nofnsD, AV.refs, AV.refsL, AV.nofn, AV.nofns] <;> fail)))); refine k_run ?_) | ((with_reducible refine ev_guard ?_); (with_reducible first | refine guard_t ?_ ?_ rfl | refine guard_f ?_ ?_ rfl) <;> (intro h; (try simp only [h]); (try simp only [nrm] at h) <;> (try ((with_reducible exfalso); omega)))) | ((with_reducible refine ck_split (fun h => ?_) (fun h => ?_)) <;> (try simp only [nrm] at h) <;> (try ((with_reducible exfalso); omega))) | ((with_reducible refine And.intro ?_ ?_); (first | omega | focus (simp; done) | focus (simp; omega) | focus ((repeat' (with_reducible refine And.intro ?_ ?_)) <;> first | omega | rfl | (simp only [go_sem, refsL_app, refs_dmap] <;> fail) | (simp [refsL_app, refs_dmap, AV.refsL, AV.refs] <;> omega)))) | (with_reducible refine hJ _ (fun K hK => ?_) ?_ <;> clear hJ KJ) | ((with_reducible refine ev_less ?_); (refine ⟨rfl, ?_, ?_⟩ <;> simp only [go_sem, St.clean, cleanO, SubS, SubO, beq_self_eq_true, ↓reduceIte, Nat.reduceEqDiff, Nat.reduceBEq, Nat.reduceAdd, Nat.reduceMul, Nat.reduceSub, Nat.reduceLT, Nat.reduceLeDiff])) | ((with_reducible first | apply hK | (clear hK K; first | apply hK | (clear hK K; first | apply hK | (clear hK K; apply hK)))); clear hK K) | fail)
              all_goals (try ((with_reducible exfalso); exact absurd trivial (by assumption)))
              refine aw_loopU [6, 8, 10, 16, 20, 22, 55, 57, 60, 61, 64, 65, 66, 67, 68, 69, 70, 71, 72, 73, 74, 75, 76, 77, 78, 79] [3, 8, 10, 16, 20, 22, 55, 57, 60, 61, 66, 68, 77, 78, 5000] (fun s : FamS => [(6, .d (.int s.id))]) (fun s => [(8, .ds (perC s.l)), (3, .av [.bs 8 0 s.l.length 5]), (5000, curO bs s.c)]) (fun s => manyN bs (18 - s.l.length) s = M ∧ s.l.length ≤ 17 ∧ okCur (50304 + 2 * s.l.length) s.c ∧ 0 ≤ s.id ∧ s.id ≤ 100 + s.l.length ∧ k < s.l.length ∧ ((perC s.l).drop (k * 5)).take 5 = [.int pi, .int pb, .int pd, .int po, .int pt]) (fun s => 18 - s.l.length) ⟨c2, zl, li + 1⟩ ⟨hM, by simp only; omega, okCur_mono q2 (by omega), by simp only; omega, by simp only; omega, hk, hat⟩ ?_ ?_
              · (refine lessW_of [] rfl ?_ <;> simp only [St.sws, St.sw, swS, swO, AV.sw, AV.swL, OB.sw, swp, St.upd, dropS, dropOs, Less, SubS, SubO, look, lookO, List.elem, List.cons_append, List.nil_append, cond_true, cond_false, and_true, true_and, beq_self_eq_true, ↓reduceIte, Nat.reduceEqDiff, Nat.reduceBEq, Nat.reduceAdd, Nat.reduceMul, Nat.reduceSub, Nat.reduceLT, Nat.reduceLeDiff] <;> try simp)
                try rfl
              · rintro ⟨cc, cl, ci⟩ ⟨g1, g2, g3, g4, g5, g6, g7⟩
                simp only at g1 g2 g3 g4 g5 g6 g7
                simp only [St.upd, dropS, dropOs, List.elem, List.cons_append, List.nil_append, cond_true, cond_false, beq_self_eq_true, ↓reduceIte, Nat.reduceEqDiff, Nat.reduceBEq, Nat.reduceAdd, Nat.reduceMul, Nat.reduceSub, Nat.reduceLT, Nat.reduceLeDiff]
                have hpl2 : (perC cl).length = cl.length * 5 := recC_len per_k cl
                have r1 := pickV_le hb (n := 2) g3.1
                have r2 := r1.2 (by decide)
                have s1 := okCur_pick (bs := bs) (n := 2) g3
                have e4 := pick_at 5000 bs 2 cc hb (okCur_mono g3 (by omega))
                rw [show 18 - cl.length = (17 - cl.length) + 1 by omega, manyN] at g1
                simp only at g1
                generalize pickV bs 2 cc = w at *
                generalize pickC bs 2 cc = c3 at *
                by_cases hlt : (cl.length : Int) < 16 + w
                · rw [if_pos hlt] at g1
                  repeat' (first | (with_reducible first | refine aw_seq fun K hK => ?_ | refine aw_region (by kernel_rfl) ?_ | refine aw_condk ?_ | refine aw_block ?_) | ((with_reducible refine ev_aw ?_); first | (refine aw_drawJ (by kernel_rfl) (id := 17) _ _ (by kernel_rfl) (pl_DrG2_46_17U _ (by kernel_rfl)) (fun KJ hJ => ?_))) | (with_reducible first | refine ru_four ?_ ?_ ?_ ?_ | refine ru_three ?_ ?_ ?_ | refine ru_two ?_ ?_ | refine rv_split ?_ ?_ | refine rv_two ?_ ?_ | refine rp_two ?_ ?_) | ((with_reducible refine evg ?_); simp only [go_sem, St.clean, cleanO, ↓reduceIte, Nat.reduceEqDiff, Nat.reduceBEq, Nat.reduceAdd, Nat.reduceMul, Nat.reduceSub, Nat.reduceLT, Nat.reduceLeDiff]) | (simp (disch := omega) only [wr, drop_at, str_at, int_at, Int.reduceSub, Int.reduceAdd, Int.reduceToNat, Int.toNat_zero, wr]) | ((with_reducible refine ev_call ?_); (first | (refine call_s e4 ?_ ?_ ?_ ?_ ?_; (focus rfl); (focus first | exact trivial | exact And.intro rfl trivial | exact ⟨rfl, rfl, trivial⟩ | exact ⟨rfl, rfl, rfl, trivial⟩); (focus rfl); (focus (simp [-List.map_map, apartO, dropO, killN, obCells, refs_dmap, nofnsD, AV.refs, AV.refsL, AV.nofn, AV.nofns] <;> fail)))); refine k_run ?_) | ((with_reducible refine ev_guard ?_); (with_reducible first | refine guard_t ?_ ?_ rfl | refine guard_f ?_ ?_ rfl) <;> (intro h; (try simp only [h]); (try simp only [nrm] at h) <;> (try ((with_reducible exfalso); omega)))) | ((with_reducible refine ck_split (fun h => ?_) (fun h => ?_)) <;> (try simp only [nrm] at h) <;> (try ((with_reducible exfalso); omega))) | ((with_reducible refine And.intro ?_ ?_); (first | omega | focus (simp; done) | focus (simp; omega) | focus ((repeat' (with_reducible refine And.intro ?_ ?_)) <;> first | omega | rfl | (simp only [go_sem, refsL_app, refs_dmap] <;> fail) | (simp [refsL_app, refs_dmap, AV.refsL, AV.refs] <;> omega)))) | (with_reducible refine hJ _ (fun K hK => ?_) ?_ <;> clear hJ KJ) | ((with_reducible refine ev_less ?_); (refine ⟨rfl, ?_, ?_⟩ <;> simp only [go_sem, St.clean, cleanO, SubS, SubO, beq_self_eq_true, ↓reduceIte, Nat.reduceEqDiff, Nat.reduceBEq, Nat.reduceAdd, Nat.reduceMul, Nat.reduceSub, Nat.reduceLT, Nat.reduceLeDiff])) | ((with_reducible first | apply hK | (clear hK K; first | apply hK | (clear hK K; first | apply hK | (clear hK K; apply hK)))); clear hK K) | fail)
                  all_goals (try omega)
                  refine ⟨⟨c3, cl ++ [⟨ci, 1700, 0, 0, 0⟩], ci + 1⟩, ⟨by simp only [List.length_append, List.length_singleton]; rw [show 18 - (cl.length + 1) = 17 - cl.length by omega]; exact g1, by simp only [List.length_append, List.length_singleton]; omega, by simp only [List.length_append, List.length_singleton]; exact okCur_mono s1 (by omega), by simp only; omega, by simp only [List.length_append, List.length_singleton]; omega, by simp only [List.length_append, List.length_singleton]; omega, ?_⟩, by simp only [List.length_append, List.length_singleton]; omega, ?_⟩
                  · rw [perC_app, List.drop_append_of_le_length (by omega), List.take_append_of_le_length (by rw [List.length_drop]; omega)]
                    exact g7
                  · have hsn : perC (cl ++ [⟨ci, 1700, 0, 0, 0⟩]) = perC cl ++ [D.int ci, D.int 1700, D.int 0, D.int 0, D.int 0] := by
                      rw [perC, recC_app]
                      rfl
                    rw [← perC_all cl] at hsn
                    simp only [hsn, List.length_append, List.length_singleton]
                    (refine lessW_of [(78, 8)] rfl ?_ <;> simp only [St.sws, St.sw, swS, swO, AV.sw, AV.swL, OB.sw, swp, St.upd, dropS, dropOs, Less, SubS, SubO, look, lookO, List.elem, List.cons_append, List.nil_append, cond_true, cond_false, and_true, true_and, beq_self_eq_true, ↓reduceIte, Nat.reduceEqDiff, Nat.reduceBEq, Nat.reduceAdd, Nat.reduceMul, Nat.reduceSub, Nat.reduceLT, Nat.reduceLeDiff] <;> try simp)
                    all_goals (first | rfl | omega | (simp; done))
                · rw [if_neg hlt] at g1
                  subst g1
                  have hs := per_set ⟨pi, pb, pd, po, pt⟩ g6
                  simp only at hs
                  repeat' (first | (with_reducible first | refine aw_seq fun K hK => ?_ | refine aw_region (by kernel_rfl) ?_ | refine aw_condk ?_ | refine aw_block ?_) | ((with_reducible refine ev_aw ?_); first | (refine aw_drawJ (by kernel_rfl) (id := 17) _ _ (by kernel_rfl) (pl_DrG2_46_17U _ (by kernel_rfl)) (fun KJ hJ => ?_))) | (with_reducible first | refine ru_four ?_ ?_ ?_ ?_ | refine ru_three ?_ ?_ ?_ | refine ru_two ?_ ?_ | refine rv_split ?_ ?_ | refine rv_two ?_ ?_ | refine rp_two ?_ ?_) | ((with_reducible refine evg ?_); simp only [go_sem, St.clean, cleanO, ↓reduceIte, Nat.reduceEqDiff, Nat.reduceBEq, Nat.reduceAdd, Nat.reduceMul, Nat.reduceSub, Nat.reduceLT, Nat.reduceLeDiff]) | (simp (disch := omega) only [wr, drop_at, str_at, int_at, Int.reduceSub, Int.reduceAdd, Int.reduceToNat, Int.toNat_zero, g7, wr]) | ((with_reducible refine ev_call ?_); (first | (refine call_s e4 ?_ ?_ ?_ ?_ ?_; (focus rfl); (focus first | exact trivial | exact And.intro rfl trivial | exact ⟨rfl, rfl, trivial⟩ | exact ⟨rfl, rfl, rfl, trivial⟩); (focus rfl); (focus (simp [-List.map_map, apartO, dropO, killN, obCells, refs_dmap, nofnsD, AV.refs, AV.refsL, AV.nofn, AV.nofns] <;> fail)))); refine k_run ?_) | ((with_reducible refine ev_guard ?_); (with_reducible first | refine guard_t ?_ ?_ rfl | refine guard_f ?_ ?_ rfl) <;> (intro h; (try simp only [h]); (try simp only [nrm] at h) <;> (try ((with_reducible exfalso); omega)))) | ((with_reducible refine ck_split (fun h => ?_) (fun h => ?_)) <;> (try simp only [nrm] at h) <;> (try ((with_reducible exfalso); omega))) | ((with_reducible refine And.intro ?_ ?_); (first | omega | focus (simp; done) | focus (simp; omega) | focus ((repeat' (with_reducible refine And.intro ?_ ?_)) <;> first | omega | rfl | (simp only [go_sem, refsL_app, refs_dmap] <;> fail) | (simp [refsL_app, refs_dmap, AV.refsL, AV.refs] <;> omega)))) | (with_reducible refine hJ _ (fun K hK => ?_) ?_ <;> clear hJ KJ) | ((with_reducible refine ev_less ?_); (refine ⟨rfl, ?_, ?_⟩ <;> simp only [go_sem, St.clean, cleanO, SubS, SubO, beq_self_eq_true, ↓reduceIte, Nat.reduceEqDiff, Nat.reduceBEq, Nat.reduceAdd, Nat.reduceMul, Nat.reduceSub, Nat.reduceLT, Nat.reduceLeDiff])) | ((with_reducible first | apply hK | (clear hK K; first | apply hK | (clear hK K; first | apply hK | (clear hK K; apply hK)))); clear hK K) | fail)
                  all_goals (try omega)
                  all_goals
                    simp only [hs, List.length_set]
                    refine ress_step [(8, 5001)] (by simp) (by simp [lensO, lookO, obCells]) rfl ⟨rfl, rfl, trivial⟩ ?_
                    simp only [go_sem, ↓reduceIte, Nat.reduceEqDiff, Nat.reduceBEq, Nat.reduceAdd, Nat.reduceMul, Nat.reduceSub, Nat.reduceLT, Nat.reduceLeDiff]
                    rfl
            · skip
              rw [if_neg n0, if_neg n1, if_neg n2, if_neg n3, if_neg n4] at hZ
              subst hZ
              have hs := hset ⟨pi, pb, pd, po, pt⟩
              simp only at hs
              refine fns_go Tryz.func46 rfl rfl Tryz.ntmps46 Tryz.results46 (by simp only [slotsA, Nat.reduceAdd]; rfl) (by simp) rfl ?_
              repeat' (first | (with_reducible first | refine aw_seq fun K hK => ?_ | refine aw_region (by kernel_rfl) ?_ | refine aw_condk ?_ | refine aw_block ?_) | ((with_reducible refine ev_aw ?_); first | (refine aw_drawJ (by kernel_rfl) (id := 17) _ _ (by kernel_rfl) (pl_DrG2_46_17U _ (by kernel_rfl)) (fun KJ hJ => ?_))) | (with_reducible first | refine ru_four ?_ ?_ ?_ ?_ | refine ru_three ?_ ?_ ?_ | refine ru_two ?_ ?_ | refine rv_split ?_ ?_ | refine rv_two ?_ ?_ | refine rp_two ?_ ?_) | ((with_reducible refine evg ?_); simp only [go_sem, St.clean, cleanO, ↓reduceIte, Nat.reduceEqDiff, Nat.reduceBEq, Nat.reduceAdd, Nat.reduceMul, Nat.reduceSub, Nat.reduceLT, Nat.reduceLeDiff]) | (simp (disch := omega) only [wr, drop_at, str_at, int_at, Int.reduceSub, Int.reduceAdd, Int.reduceToNat, Int.toNat_zero, hat, wr]) | ((with_reducible refine ev_call ?_); (first | (refine call_s e0 ?_ ?_ ?_ ?_ ?_; (focus rfl); (focus first | exact trivial | exact And.intro rfl trivial | exact ⟨rfl, rfl, trivial⟩ | exact ⟨rfl, rfl, rfl, trivial⟩); (focus rfl); (focus (simp [-List.map_map, apartO, dropO, killN, obCells, refs_dmap, nofnsD, AV.refs, AV.refsL, AV.nofn, AV.nofns] <;> fail))) | (refine call_s e1 ?_ ?_ ?_ ?_ ?_; (focus rfl); (focus first | exact trivial | exact And.intro rfl trivial | exact ⟨rfl, rfl, trivial⟩ | exact ⟨rfl, rfl, rfl, trivial⟩); (focus rfl); (focus (simp [-List.map_map, apartO, dropO, killN, obCells, refs_dmap, nofnsD, AV.refs, AV.refsL, AV.nofn, AV.nofns] <;> fail))) | (refine call_s e2 ?_ ?_ ?_ ?_ ?_; (focus rfl); (focus first | exact trivial | exact And.intro rfl trivial | exact ⟨rfl, rfl, trivial⟩ | exact ⟨rfl, rfl, rfl, trivial⟩); (focus rfl); (focus (simp [-List.map_map, apartO, dropO, killN, obCells, refs_dmap, nofnsD, AV.refs, AV.refsL, AV.nofn, AV.nofns] <;> fail)))); refine k_run ?_) | ((with_reducible refine ev_guard ?_); (with_reducible first | refine guard_t ?_ ?_ rfl | refine guard_f ?_ ?_ rfl) <;> (intro h; (try simp only [h]); (try simp only [nrm] at h) <;> (try ((with_reducible exfalso); omega)))) | ((with_reducible refine ck_split (fun h => ?_) (fun h => ?_)) <;> (try simp only [nrm] at h) <;> (try ((with_reducible exfalso); omega))) | ((with_reducible refine And.intro ?_ ?_); (first | omega | focus (simp; done) | focus (simp; omega) | focus ((repeat' (with_reducible refine And.intro ?_ ?_)) <;> first | omega | rfl | (simp only [go_sem, refsL_app, refs_dmap] <;> fail) | (simp [refsL_app, refs_dmap, AV.refsL, AV.refs] <;> omega)))) | (with_reducible refine hJ _ (fun K hK => ?_) ?_ <;> clear hJ KJ) | ((with_reducible refine ev_less ?_); (refine ⟨rfl, ?_, ?_⟩ <;> simp only [go_sem, St.clean, cleanO, SubS, SubO, beq_self_eq_true, ↓reduceIte, Nat.reduceEqDiff, Nat.reduceBEq, Nat.reduceAdd, Nat.reduceMul, Nat.reduceSub, Nat.reduceLT, Nat.reduceLeDiff])) | ((with_reducible first | apply hK | (clear hK K; first | apply hK | (clear hK K; first | apply hK | (clear hK K; apply hK)))); clear hK K) | fail)
              all_goals first
                | ((with_reducible exfalso)
                   exact absurd trivial (by assumption))
                | (simp only [hs, List.length_set]
                   refine ress_step [(8, 5001)] (by simp) (by simp [lensO, lookO, obCells]) rfl ⟨rfl, rfl, trivial⟩ ?_
                   simp only [go_sem, ↓reduceIte, Nat.reduceEqDiff, Nat.reduceBEq, Nat.reduceAdd, Nat.reduceMul, Nat.reduceSub, Nat.reduceLT, Nat.reduceLeDiff]
                   rfl)

end Go.Proofs.YtdeobicgildamaaGreatDoor
