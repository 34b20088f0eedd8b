/- Draws of fields, tinctures and lines. -/
import Derived.Test.YtjbifidphckjoaaCur
import Derived.WalkKit
import Derived.WalkSpells
import Derived.KernelRfl
namespace Go.Proofs.Ytjbifidphckjoaa
open Go.RowKit
set_option maxRecDepth 100000
set_option maxHeartbeats 4000000
set_option linter.unusedVariables false
set_option linter.unusedSimpArgs false

attribute [local go_sem] curO codL

attribute [local simp] refs_dmap curO codL

def tcV (bs : List Int) (c : CurV) : Int := 1 + pickV bs 9 c

theorem tinc_at (s : Nat) (bs : List Int) (c : CurV) (hb : okCod bs) (h0 : okCur 900000 c) : FnS Try.prog 84 [(s, curO bs c)] [.bp s 0] [(s, curO bs (pickC bs 9 c))] (.d (.int (tcV bs c))) := by
 have hi : FnS Try.prog 84 [(5000, curO bs c)] [.bp 5000 0] [(5000, curO bs (pickC bs 9 c))] (.d (.int (tcV bs c))) := by
  have e1 := pick_at 5000 bs 9 c hb h0
  have p1 := pickV_le hb (n := 9) h0.1
  have p2 := p1.2 (by decide)
  unfold tcV
  generalize pickV bs 9 c = v at *
  generalize pickC bs 9 c = c1 at *
  refine fns_go Try.func84 rfl rfl Try.ntmps84 Try.results84 (by simp only [slotsA, Nat.reduceAdd]; rfl) (by simp) rfl ?_
  repeat' (first | (with_reducible first | refine aw_seq fun K hK => ?_ | refine aw_region (by kernel_rfl) ?_) | ((with_reducible refine evg ?_); simp only [go_sem, ↓reduceIte, Nat.reduceEqDiff, Nat.reduceBEq, Nat.reduceAdd, Nat.reduceMul, Nat.reduceSub, Nat.reduceLT, Nat.reduceLeDiff]) | (simp (disch := omega) only [dsq, Int.reduceSub, Int.reduceAdd, Int.reduceToNat]) | ((with_reducible refine ev_call ?_); (first | (refine call_s e1 ?_ ?_ ?_ ?_ ?_; (focus rfl); (focus first | exact trivial | exact And.intro rfl trivial | exact ⟨rfl, rfl, trivial⟩ | exact ⟨rfl, rfl, rfl, trivial⟩); (focus rfl); (focus (simp [-List.map_map, apartO, dropO, killN, obCells, refs_dmap, nofnsD, AV.refs, AV.refsL, AV.nofn, AV.nofns] <;> fail)))); refine k_run ?_) | ((with_reducible refine And.intro ?_ ?_); (focus first | omega | (simp; done) | (simp; omega) | ((repeat' (with_reducible refine And.intro ?_ ?_)) <;> first | omega | rfl | (simp only [go_sem, refsL_app, refs_dmap] <;> fail) | (simp [refsL_app, refs_dmap, AV.refsL, AV.refs] <;> omega)))) | ((with_reducible first | apply hK | (clear hK K; first | apply hK | (clear hK K; apply hK))); clear hK K) | fail)
  all_goals exact ress_tmp (by simp [lensO, lookO, obCells]) ⟨rfl, trivial⟩ rfl
 have h := hi.sw 5000 s
 simpa only [curO, swO, AV.swL, AV.sw, OB.sw, swp, if_true] using h

def at5 : List Int := [0, 10, -1, 9, 1]

def atV (bs : List Int) (c : CurV) : Int := if oneV bs 16 c = true then amV bs at5 5 (pickC bs 16 c) else tcV bs (pickC bs 16 c)

def atC (bs : List Int) (c : CurV) : CurV := if oneV bs 16 c = true then pickC bs 5 (pickC bs 16 c) else pickC bs 9 (pickC bs 16 c)

theorem atC_ok {bs : List Int} {n : Nat} {c : CurV} (h : okCur n c) : okCur (n + 4) (atC bs c) := by
 have q1 := okCur_pick (bs := bs) (n := 16) h
 unfold atC
 split
 · exact okCur_pick q1
 · exact okCur_pick q1

theorem atinc_at (s : Nat) (bs : List Int) (c : CurV) (hb : okCod bs) (h0 : okCur 800000 c) : FnS Try.prog 54 [(s, curO bs c)] [.bp s 0] [(s, curO bs (atC bs c))] (.d (.int (atV bs c))) := by
 have hi : FnS Try.prog 54 [(5000, curO bs c)] [.bp 5000 0] [(5000, curO bs (atC bs c))] (.d (.int (atV bs c))) := by
  have q1 := okCur_pick (bs := bs) (n := 16) h0
  have e1 := one_at 5000 bs 16 c hb (okCur_mono h0 (by omega))
  have e2 := tinc_at 5000 bs (pickC bs 16 c) hb (okCur_mono q1 (by omega))
  have e3 := among_at 5000 6 bs at5 5 (pickC bs 16 c) hb (okCur_mono q1 (by omega)) (by decide) (by decide) (by decide) (by decide) (by decide) (by decide)
  simp only [at5, List.map] at e3
  unfold atV atC
  simp only [at5]
  cases ho : oneV bs 16 c
  ·
   rw [ho] at e1
   rw [if_neg (by simp), if_neg (by simp)]
   generalize tcV bs (pickC bs 16 c) = v at *
   generalize pickC bs 9 (pickC bs 16 c) = c2 at *
   generalize pickC bs 16 c = c1 at *
   refine fns_go Try.func54 rfl rfl Try.ntmps54 Try.results54 (by simp only [slotsA, Nat.reduceAdd]; rfl) (by simp) rfl ?_
   repeat' (first | (with_reducible first | refine aw_seq fun K hK => ?_ | refine aw_region (by kernel_rfl) ?_ | refine aw_condk ?_) | ((with_reducible refine evg ?_); simp only [go_sem, ↓reduceIte, Nat.reduceEqDiff, Nat.reduceBEq, Nat.reduceAdd, Nat.reduceMul, Nat.reduceSub, Nat.reduceLT, Nat.reduceLeDiff]) | (simp (disch := omega) only [dsq, Int.reduceSub, Int.reduceAdd, Int.reduceToNat]) | ((with_reducible refine ev_call ?_); (first | (refine call_s e1 ?_ ?_ ?_ ?_ ?_; (focus rfl); (focus first | exact trivial | exact And.intro rfl trivial | exact ⟨rfl, rfl, trivial⟩ | exact ⟨rfl, rfl, rfl, trivial⟩); (focus rfl); (focus (simp [-List.map_map, apartO, dropO, killN, obCells, refs_dmap, nofnsD, AV.refs, AV.refsL, AV.nofn, AV.nofns] <;> fail))) | (refine call_s e2 ?_ ?_ ?_ ?_ ?_; (focus rfl); (focus first | exact trivial | exact And.intro rfl trivial | exact ⟨rfl, rfl, trivial⟩ | exact ⟨rfl, rfl, rfl, trivial⟩); (focus rfl); (focus (simp [-List.map_map, apartO, dropO, killN, obCells, refs_dmap, nofnsD, AV.refs, AV.refsL, AV.nofn, AV.nofns] <;> fail)))); refine k_run ?_) | ((with_reducible refine ck_split (fun h => ?_) (fun h => ?_)) <;> (try simp only [nrm] at h) <;> (try ((with_reducible exfalso); omega))) | ((with_reducible refine And.intro ?_ ?_); (focus first | omega | (simp; done) | (simp; omega) | ((repeat' (with_reducible refine And.intro ?_ ?_)) <;> first | omega | rfl | (simp only [go_sem, refsL_app, refs_dmap] <;> fail) | (simp [refsL_app, refs_dmap, AV.refsL, AV.refs] <;> omega)))) | ((with_reducible first | apply hK | (clear hK K; first | apply hK | (clear hK K; apply hK))); clear hK K) | fail)
   all_goals exact ress_tmp (by simp [lensO, lookO, obCells]) ⟨rfl, trivial⟩ rfl
  ·
   rw [ho] at e1
   rw [if_pos rfl, if_pos rfl]
   generalize amV bs [0, 10, -1, 9, 1] 5 (pickC bs 16 c) = v at *
   generalize pickC bs 5 (pickC bs 16 c) = c2 at *
   generalize pickC bs 16 c = c1 at *
   refine fns_go Try.func54 rfl rfl Try.ntmps54 Try.results54 (by simp only [slotsA, Nat.reduceAdd]; rfl) (by simp) rfl ?_
   repeat' (first | (with_reducible first | refine aw_seq fun K hK => ?_ | refine aw_region (by kernel_rfl) ?_ | refine aw_condk ?_) | ((with_reducible refine evg ?_); simp only [go_sem, ↓reduceIte, Nat.reduceEqDiff, Nat.reduceBEq, Nat.reduceAdd, Nat.reduceMul, Nat.reduceSub, Nat.reduceLT, Nat.reduceLeDiff]) | (simp (disch := omega) only [dsq, Int.reduceSub, Int.reduceAdd, Int.reduceToNat]) | ((with_reducible refine ev_call ?_); (first | (refine call_s e1 ?_ ?_ ?_ ?_ ?_; (focus rfl); (focus first | exact trivial | exact And.intro rfl trivial | exact ⟨rfl, rfl, trivial⟩ | exact ⟨rfl, rfl, rfl, trivial⟩); (focus rfl); (focus (simp [-List.map_map, apartO, dropO, killN, obCells, refs_dmap, nofnsD, AV.refs, AV.refsL, AV.nofn, AV.nofns] <;> fail))) | (refine call_s e3 ?_ ?_ ?_ ?_ ?_; (focus rfl); (focus first | exact trivial | exact And.intro rfl trivial | exact ⟨rfl, rfl, trivial⟩ | exact ⟨rfl, rfl, rfl, trivial⟩); (focus rfl); (focus (simp [-List.map_map, apartO, dropO, killN, obCells, refs_dmap, nofnsD, AV.refs, AV.refsL, AV.nofn, AV.nofns] <;> fail)))); refine k_run ?_) | ((with_reducible refine ck_split (fun h => ?_) (fun h => ?_)) <;> (try simp only [nrm] at h) <;> (try ((with_reducible exfalso); omega))) | ((with_reducible refine And.intro ?_ ?_); (focus first | omega | (simp; done) | (simp; omega) | ((repeat' (with_reducible refine And.intro ?_ ?_)) <;> first | omega | rfl | (simp only [go_sem, refsL_app, refs_dmap] <;> fail) | (simp [refsL_app, refs_dmap, AV.refsL, AV.refs] <;> omega)))) | ((with_reducible first | apply hK | (clear hK K; first | apply hK | (clear hK K; apply hK))); clear hK K) | fail)
   all_goals exact ress_tmp (by simp [lensO, lookO, obCells]) ⟨rfl, trivial⟩ rfl
 have h := hi.sw 5000 s
 simpa only [curO, swO, AV.swL, AV.sw, OB.sw, swp, if_true] using h

def ln7 : List Int := [0, 1, 2, 3, 4, -1, 5]

def lnV (bs : List Int) (c : CurV) : Int := amV bs ln7 (5 + pickV bs 24 c / 11).toNat (pickC bs 24 c)

def lnC (bs : List Int) (c : CurV) : CurV := pickC bs ((5 + pickV bs 24 c / 11).toNat : Nat) (pickC bs 24 c)

theorem ressF_step {P : Program} {σ : St} {rs : List ResultVar} {ob ob' : List (Nat × OB)} {res : AV} (ps : List (Nat × Nat)) (hlen : rs.length <= 4) (hl : lensO ob ob') (ho : offSw ob ps = true) (hs : SubO (swsO ps σ.ob) ob') (h : resStep P σ rs (fun xs => swsA ps (joinR xs) = res)) : ResS P rs σ ob ob' res := by
 obtain ⟨p, xs, h1, h2, h3⟩ := resStep_sound h
 exact ⟨hlen, hl, ps, ho, hs, by rw [h1]; exact ⟨h2, h3⟩⟩

structure FdS where
 c : CurV
 d : Int
 l : Int
 f : Int
 s : Int

def FdS.a (z : FdS) : AV := .d (.ag [.int z.d, .int z.l, .int z.f, .int z.s])

def fd6 : List Int := [0, 0, 1, 2, 3, 4]

def fdS (bs : List Int) (c : CurV) : FdS :=
 if oneV bs 2 (pickC bs 9 c) = true then ⟨pickC bs 2 (pickC bs 9 c), 0, 0, tcV bs c, 0⟩
 else ⟨pickC bs 8 (pickC bs 6 (pickC bs 7 (pickC bs 2 (pickC bs 9 c)))), 1 + pickV bs 7 (pickC bs 2 (pickC bs 9 c)), amV bs fd6 6 (pickC bs 7 (pickC bs 2 (pickC bs 9 c))), tcV bs c, 1 + (tcV bs c + pickV bs 8 (pickC bs 6 (pickC bs 7 (pickC bs 2 (pickC bs 9 c))))).tmod 9⟩

theorem fdS_ok {bs : List Int} {n : Nat} {c : CurV} (h : okCur n c) : okCur (n + 10) (fdS bs c).c := by
 have q1 := okCur_pick (bs := bs) (n := 9) h
 have q2 := okCur_pick (bs := bs) (n := 2) q1
 have q3 := okCur_pick (bs := bs) (n := 7) q2
 have q4 := okCur_pick (bs := bs) (n := 6) q3
 have q5 := okCur_pick (bs := bs) (n := 8) q4
 unfold fdS
 split
 · exact okCur_mono q2 (by omega)
 · exact okCur_mono q5 (by omega)

attribute [local go_sem] FdS.a

set_option maxRecDepth 100000 in
theorem pl_FldD_98_6U (l : List Oper) (h : l = opsOf Try.f98 6) : planUB l (.pure 2 (.calc 0 (.two true 1 (.one false 3 (.calc 4 (.calc 5 (.calc 6 (.calc 7 (.one false 8 PU.fin)))))) false 3 (.one true 1 (.calc 4 (.calc 5 (.calc 6 (.calc 7 (.one false 8 PU.fin))))))))) [3, 8] = true := by
 subst h
 kernel_rfl

theorem field_at (s : Nat) (bs : List Int) (c : CurV) (hb : okCod bs) (h0 : okCur 700000 c) : FnS Try.prog 98 [(s, curO bs c)] [.bp s 0] [(s, curO bs (fdS bs c).c)] (fdS bs c).a := by
 have hi : FnS Try.prog 98 [(5000, curO bs c)] [.bp 5000 0] [(5000, curO bs (fdS bs c).c)] (fdS bs c).a := by
  have q1 := okCur_pick (bs := bs) (n := 9) h0
  have q2 := okCur_pick (bs := bs) (n := 2) q1
  have q3 := okCur_pick (bs := bs) (n := 7) q2
  have q4 := okCur_pick (bs := bs) (n := 6) q3
  have e1 := tinc_at 5000 bs c hb (okCur_mono h0 (by omega))
  have e2 := one_at 5000 bs 2 (pickC bs 9 c) hb (okCur_mono q1 (by omega))
  have e3 := pick_at 5000 bs 7 (pickC bs 2 (pickC bs 9 c)) hb (okCur_mono q2 (by omega))
  have e4 := among_at 5000 15 bs fd6 6 (pickC bs 7 (pickC bs 2 (pickC bs 9 c))) hb (okCur_mono q3 (by omega)) (by decide) (by decide) (by decide) (by decide) (by decide) (by decide)
  have e5 := pick_at 5000 bs 8 (pickC bs 6 (pickC bs 7 (pickC bs 2 (pickC bs 9 c)))) hb (okCur_mono q4 (by omega))
  have p1 := pickV_le hb (n := 9) h0.1
  have p2 := p1.2 (by decide)
  have p3 := pickV_le hb (n := 7) q2.1
  have p4 := p3.2 (by decide)
  have p5 := pickV_le hb (n := 8) q4.1
  have p6 := p5.2 (by decide)
  have ht : 1 <= tcV bs c /\ tcV bs c <= 9 := by
   unfold tcV
   omega
  simp only [fd6, List.map] at e4
  unfold fdS
  simp only [fd6]
  generalize pickV bs 8 (pickC bs 6 (pickC bs 7 (pickC bs 2 (pickC bs 9 c)))) = v8 at *
  generalize pickC bs 8 (pickC bs 6 (pickC bs 7 (pickC bs 2 (pickC bs 9 c)))) = c8 at *
  generalize amV bs [0, 0, 1, 2, 3, 4] 6 (pickC bs 7 (pickC bs 2 (pickC bs 9 c))) = v6 at *
  generalize pickC bs 6 (pickC bs 7 (pickC bs 2 (pickC bs 9 c))) = c6 at *
  generalize pickV bs 7 (pickC bs 2 (pickC bs 9 c)) = v7 at *
  generalize pickC bs 7 (pickC bs 2 (pickC bs 9 c)) = c7 at *
  generalize pickC bs 2 (pickC bs 9 c) = c2 at *
  generalize tcV bs c = t at *
  cases ho : oneV bs 2 (pickC bs 9 c)
  ·
   rw [ho] at e2
   rw [if_neg (by simp)]
   generalize pickC bs 9 c = c9 at *
   have w1 : 0 <= (t + v8).tmod 9 /\ (t + v8).tmod 9 < 9 := by
    rw [Int.tmod_eq_emod_of_nonneg (by omega)]
    omega
   refine fns_go Try.func98 rfl rfl Try.ntmps98 Try.results98 (by simp only [slotsA, Nat.reduceAdd]; rfl) (by simp) rfl ?_
   repeat' (first | (with_reducible first | refine aw_seq fun K hK => ?_ | refine aw_region (by kernel_rfl) ?_ | refine aw_condk ?_) | ((with_reducible refine ev_aw ?_); first | (refine aw_drawJ (by kernel_rfl) (id := 6) _ _ (by kernel_rfl) (pl_FldD_98_6U _ (by kernel_rfl)) (fun KJ hJ => ?_))) | (with_reducible first | refine ru_four ?_ ?_ ?_ ?_ | refine ru_three ?_ ?_ ?_ | refine ru_two ?_ ?_ | refine rv_split ?_ ?_ | refine rv_two ?_ ?_ | refine rp_two ?_ ?_) | ((with_reducible refine evg ?_); simp only [go_sem, St.clean, cleanO, ↓reduceIte, Nat.reduceEqDiff, Nat.reduceBEq, Nat.reduceAdd, Nat.reduceMul, Nat.reduceSub, Nat.reduceLT, Nat.reduceLeDiff]) | (simp (disch := omega) only [dsq, Int.reduceSub, Int.reduceAdd, Int.reduceToNat]) | ((with_reducible refine ev_call ?_); (first | (refine call_s e1 ?_ ?_ ?_ ?_ ?_; (focus rfl); (focus first | exact trivial | exact And.intro rfl trivial | exact ⟨rfl, rfl, trivial⟩ | exact ⟨rfl, rfl, rfl, trivial⟩); (focus rfl); (focus (simp [-List.map_map, apartO, dropO, killN, obCells, refs_dmap, nofnsD, AV.refs, AV.refsL, AV.nofn, AV.nofns] <;> fail))) | (refine call_s e2 ?_ ?_ ?_ ?_ ?_; (focus rfl); (focus first | exact trivial | exact And.intro rfl trivial | exact ⟨rfl, rfl, trivial⟩ | exact ⟨rfl, rfl, rfl, trivial⟩); (focus rfl); (focus (simp [-List.map_map, apartO, dropO, killN, obCells, refs_dmap, nofnsD, AV.refs, AV.refsL, AV.nofn, AV.nofns] <;> fail))) | (refine call_s e3 ?_ ?_ ?_ ?_ ?_; (focus rfl); (focus first | exact trivial | exact And.intro rfl trivial | exact ⟨rfl, rfl, trivial⟩ | exact ⟨rfl, rfl, rfl, trivial⟩); (focus rfl); (focus (simp [-List.map_map, apartO, dropO, killN, obCells, refs_dmap, nofnsD, AV.refs, AV.refsL, AV.nofn, AV.nofns] <;> fail))) | (refine call_s e4 ?_ ?_ ?_ ?_ ?_; (focus rfl); (focus first | exact trivial | exact And.intro rfl trivial | exact ⟨rfl, rfl, trivial⟩ | exact ⟨rfl, rfl, rfl, trivial⟩); (focus rfl); (focus (simp [-List.map_map, apartO, dropO, killN, obCells, refs_dmap, nofnsD, AV.refs, AV.refsL, AV.nofn, AV.nofns] <;> fail))) | (refine call_s e5 ?_ ?_ ?_ ?_ ?_; (focus rfl); (focus first | exact trivial | exact And.intro rfl trivial | exact ⟨rfl, rfl, trivial⟩ | exact ⟨rfl, rfl, rfl, trivial⟩); (focus rfl); (focus (simp [-List.map_map, apartO, dropO, killN, obCells, refs_dmap, nofnsD, AV.refs, AV.refsL, AV.nofn, AV.nofns] <;> fail)))); refine k_run ?_) | ((with_reducible refine ck_split (fun h => ?_) (fun h => ?_)) <;> (try simp only [nrm] at h) <;> (try ((with_reducible exfalso); omega))) | ((with_reducible refine And.intro ?_ ?_); (focus first | omega | (simp; done) | (simp; omega) | ((repeat' (with_reducible refine And.intro ?_ ?_)) <;> first | omega | rfl | (simp only [go_sem, refsL_app, refs_dmap] <;> fail) | (simp [refsL_app, refs_dmap, AV.refsL, AV.refs] <;> omega)))) | (with_reducible refine hJ _ (fun K hK => ?_) ?_ <;> clear hJ KJ) | ((with_reducible refine ev_less ?_); (refine ⟨rfl, ?_, ?_⟩ <;> simp only [go_sem, St.clean, cleanO, SubS, SubO, beq_self_eq_true, ↓reduceIte, Nat.reduceEqDiff, Nat.reduceBEq, Nat.reduceAdd, Nat.reduceMul, Nat.reduceSub, Nat.reduceLT, Nat.reduceLeDiff])) | ((with_reducible first | apply hK | (clear hK K; first | apply hK | (clear hK K; apply hK))); clear hK K) | fail)
   all_goals
    refine ressF_step [] (by simp) (by simp [lensO, lookO, obCells]) rfl ⟨rfl, trivial⟩ ?_
    simp only [go_sem, ↓reduceIte, Nat.reduceEqDiff, Nat.reduceBEq, Nat.reduceAdd, Nat.reduceMul, Nat.reduceSub, Nat.reduceLT, Nat.reduceLeDiff]
    rfl
  ·
   rw [ho] at e2
   rw [if_pos rfl]
   generalize pickC bs 9 c = c9 at *
   refine fns_go Try.func98 rfl rfl Try.ntmps98 Try.results98 (by simp only [slotsA, Nat.reduceAdd]; rfl) (by simp) rfl ?_
   repeat' (first | (with_reducible first | refine aw_seq fun K hK => ?_ | refine aw_region (by kernel_rfl) ?_ | refine aw_condk ?_) | ((with_reducible refine ev_aw ?_); first | (refine aw_drawJ (by kernel_rfl) (id := 6) _ _ (by kernel_rfl) (pl_FldD_98_6U _ (by kernel_rfl)) (fun KJ hJ => ?_))) | (with_reducible first | refine ru_four ?_ ?_ ?_ ?_ | refine ru_three ?_ ?_ ?_ | refine ru_two ?_ ?_ | refine rv_split ?_ ?_ | refine rv_two ?_ ?_ | refine rp_two ?_ ?_) | ((with_reducible refine evg ?_); simp only [go_sem, St.clean, cleanO, ↓reduceIte, Nat.reduceEqDiff, Nat.reduceBEq, Nat.reduceAdd, Nat.reduceMul, Nat.reduceSub, Nat.reduceLT, Nat.reduceLeDiff]) | (simp (disch := omega) only [dsq, Int.reduceSub, Int.reduceAdd, Int.reduceToNat]) | ((with_reducible refine ev_call ?_); (first | (refine call_s e1 ?_ ?_ ?_ ?_ ?_; (focus rfl); (focus first | exact trivial | exact And.intro rfl trivial | exact ⟨rfl, rfl, trivial⟩ | exact ⟨rfl, rfl, rfl, trivial⟩); (focus rfl); (focus (simp [-List.map_map, apartO, dropO, killN, obCells, refs_dmap, nofnsD, AV.refs, AV.refsL, AV.nofn, AV.nofns] <;> fail))) | (refine call_s e2 ?_ ?_ ?_ ?_ ?_; (focus rfl); (focus first | exact trivial | exact And.intro rfl trivial | exact ⟨rfl, rfl, trivial⟩ | exact ⟨rfl, rfl, rfl, trivial⟩); (focus rfl); (focus (simp [-List.map_map, apartO, dropO, killN, obCells, refs_dmap, nofnsD, AV.refs, AV.refsL, AV.nofn, AV.nofns] <;> fail)))); refine k_run ?_) | ((with_reducible refine ck_split (fun h => ?_) (fun h => ?_)) <;> (try simp only [nrm] at h) <;> (try ((with_reducible exfalso); omega))) | ((with_reducible refine And.intro ?_ ?_); (focus first | omega | (simp; done) | (simp; omega) | ((repeat' (with_reducible refine And.intro ?_ ?_)) <;> first | omega | rfl | (simp only [go_sem, refsL_app, refs_dmap] <;> fail) | (simp [refsL_app, refs_dmap, AV.refsL, AV.refs] <;> omega)))) | (with_reducible refine hJ _ (fun K hK => ?_) ?_ <;> clear hJ KJ) | ((with_reducible refine ev_less ?_); (refine ⟨rfl, ?_, ?_⟩ <;> simp only [go_sem, St.clean, cleanO, SubS, SubO, beq_self_eq_true, ↓reduceIte, Nat.reduceEqDiff, Nat.reduceBEq, Nat.reduceAdd, Nat.reduceMul, Nat.reduceSub, Nat.reduceLT, Nat.reduceLeDiff])) | ((with_reducible first | apply hK | (clear hK K; first | apply hK | (clear hK K; apply hK))); clear hK K) | fail)
   all_goals
    refine ressF_step [] (by simp) (by simp [lensO, lookO, obCells]) rfl ⟨rfl, trivial⟩ ?_
    simp only [go_sem, ↓reduceIte, Nat.reduceEqDiff, Nat.reduceBEq, Nat.reduceAdd, Nat.reduceMul, Nat.reduceSub, Nat.reduceLT, Nat.reduceLeDiff]
    rfl
 have h := hi.sw 5000 s
 simpa only [curO, swO, AV.swL, AV.sw, OB.sw, swp, if_true, FdS.a] using h

def an5 : List Int := [-1, 8, 0, 7, 1]

def an4 : List Int := [-1, 5, 1, 4]

def an3 : List Int := [0, 10, 9]

def anK (bs : List Int) (z : FdS) (k : Int) (c : CurV) : FdS :=
 if k = 0 then ⟨pickC bs 5 c, amV bs an5 5 c, z.l, z.f, z.s⟩ else if k = 1 then ⟨pickC bs 4 c, z.d, amV bs an4 4 c, z.f, z.s⟩
 else if k = 2 then ⟨pickC bs 3 c, z.d, z.l, amV bs an3 3 c, z.s⟩ else if k = 3 then ⟨pickC bs 4 c, z.d, z.l, z.f, amV bs [0, 10, z.f, 9] 4 c⟩ else ⟨c, z.d, z.l, z.f, z.s⟩

def anS (bs : List Int) (c : CurV) : FdS := anK bs (fdS bs c) (pickV bs 24 (fdS bs c).c) (pickC bs 24 (fdS bs c).c)

theorem anS_ok {bs : List Int} {n : Nat} {c : CurV} (h : okCur n c) : okCur (n + 14) (anS bs c).c := by
 have h1 := fdS_ok (bs := bs) h
 have q1 := okCur_pick (bs := bs) (n := 24) h1
 unfold anS anK
 repeat' split
 · exact okCur_mono (okCur_pick (bs := bs) (n := 5) q1) (by omega)
 · exact okCur_mono (okCur_pick (bs := bs) (n := 4) q1) (by omega)
 · exact okCur_mono (okCur_pick (bs := bs) (n := 3) q1) (by omega)
 · exact okCur_mono (okCur_pick (bs := bs) (n := 4) q1) (by omega)
 · exact okCur_mono q1 (by omega)

theorem anyField_at (s : Nat) (bs : List Int) (c : CurV) (hb : okCod bs) (h0 : okCur 600000 c) : FnS Try.prog 74 [(s, curO bs c)] [.bp s 0] [(s, curO bs (anS bs c).c)] (anS bs c).a := by
 have hi : FnS Try.prog 74 [(5000, curO bs c)] [.bp 5000 0] [(5000, curO bs (anS bs c).c)] (anS bs c).a := by
  have h1 := fdS_ok (bs := bs) h0
  have e1 := field_at 5000 bs c hb (okCur_mono h0 (by omega))
  have q1 := okCur_pick (bs := bs) (n := 24) h1
  have e2 := pick_at 5000 bs 24 (fdS bs c).c hb (okCur_mono h1 (by omega))
  have a1 := among_at 5000 11 bs an5 5 (pickC bs 24 (fdS bs c).c) hb (okCur_mono q1 (by omega)) (by decide) (by decide) (by decide) (by decide) (by decide) (by decide)
  have a2 := among_at 5000 17 bs an4 4 (pickC bs 24 (fdS bs c).c) hb (okCur_mono q1 (by omega)) (by decide) (by decide) (by decide) (by decide) (by decide) (by decide)
  have a3 := among_at 5000 23 bs an3 3 (pickC bs 24 (fdS bs c).c) hb (okCur_mono q1 (by omega)) (by decide) (by decide) (by decide) (by decide) (by decide) (by decide)
  have a4 := among_at 5000 31 bs [0, 10, (fdS bs c).f, 9] 4 (pickC bs 24 (fdS bs c).c) hb (okCur_mono q1 (by omega)) (by decide) (by simp) (by simp) (by decide) (by decide) (by decide)
  have hA : anS bs c = anK bs (fdS bs c) (pickV bs 24 (fdS bs c).c) (pickC bs 24 (fdS bs c).c) := rfl
  unfold anK at hA
  generalize anS bs c = A at *
  simp only [an5, an4, an3, List.map] at a1 a2 a3 a4 hA
  generalize amV bs [-1, 8, 0, 7, 1] 5 (pickC bs 24 (fdS bs c).c) = v1 at *
  generalize amV bs [-1, 5, 1, 4] 4 (pickC bs 24 (fdS bs c).c) = v2 at *
  generalize amV bs [0, 10, 9] 3 (pickC bs 24 (fdS bs c).c) = v3 at *
  generalize amV bs [0, 10, (fdS bs c).f, 9] 4 (pickC bs 24 (fdS bs c).c) = v4 at *
  generalize pickC bs 5 (pickC bs 24 (fdS bs c).c) = c5 at *
  generalize pickC bs 4 (pickC bs 24 (fdS bs c).c) = c4 at *
  generalize pickC bs 3 (pickC bs 24 (fdS bs c).c) = c3 at *
  generalize pickV bs 24 (fdS bs c).c = k at *
  generalize pickC bs 24 (fdS bs c).c = c2 at *
  generalize fdS bs c = z at *
  obtain ⟨zc, zd, zl, zf, zs⟩ := z
  simp only [FdS.a] at e1 e2 a4 hA
  by_cases x0 : k = 0
  ·
   rw [if_pos x0] at hA
   subst hA
   refine fns_go Try.func74 rfl rfl Try.ntmps74 Try.results74 (by simp only [slotsA, Nat.reduceAdd]; rfl) (by simp) rfl ?_
   repeat' (first | (with_reducible first | refine aw_seq fun K hK => ?_ | refine aw_region (by kernel_rfl) ?_ | refine aw_condk ?_ | refine aw_block ?_) | ((with_reducible refine evg ?_); simp only [go_sem, ↓reduceIte, Nat.reduceEqDiff, Nat.reduceBEq, Nat.reduceAdd, Nat.reduceMul, Nat.reduceSub, Nat.reduceLT, Nat.reduceLeDiff]) | (simp (disch := omega) only [dsq, Int.reduceSub, Int.reduceAdd, Int.reduceToNat]) | ((with_reducible refine ev_call ?_); (first | (refine call_s e1 ?_ ?_ ?_ ?_ ?_; (focus rfl); (focus first | exact trivial | exact And.intro rfl trivial | exact ⟨rfl, rfl, trivial⟩ | exact ⟨rfl, rfl, rfl, trivial⟩); (focus rfl); (focus (simp [-List.map_map, apartO, dropO, killN, obCells, refs_dmap, nofnsD, AV.refs, AV.refsL, AV.nofn, AV.nofns] <;> fail))) | (refine call_s e2 ?_ ?_ ?_ ?_ ?_; (focus rfl); (focus first | exact trivial | exact And.intro rfl trivial | exact ⟨rfl, rfl, trivial⟩ | exact ⟨rfl, rfl, rfl, trivial⟩); (focus rfl); (focus (simp [-List.map_map, apartO, dropO, killN, obCells, refs_dmap, nofnsD, AV.refs, AV.refsL, AV.nofn, AV.nofns] <;> fail))) | (refine call_s a1 ?_ ?_ ?_ ?_ ?_; (focus rfl); (focus first | exact trivial | exact And.intro rfl trivial | exact ⟨rfl, rfl, trivial⟩ | exact ⟨rfl, rfl, rfl, trivial⟩); (focus rfl); (focus (simp [-List.map_map, apartO, dropO, killN, obCells, refs_dmap, nofnsD, AV.refs, AV.refsL, AV.nofn, AV.nofns] <;> fail)))); refine k_run ?_) | ((with_reducible refine ck_split (fun h => ?_) (fun h => ?_)) <;> (try simp only [nrm] at h) <;> (try ((with_reducible exfalso); omega))) | ((with_reducible refine And.intro ?_ ?_); (focus first | omega | (simp; done) | (simp; omega) | ((repeat' (with_reducible refine And.intro ?_ ?_)) <;> first | omega | rfl | (simp only [go_sem, refsL_app, refs_dmap] <;> fail) | (simp [refsL_app, refs_dmap, AV.refsL, AV.refs] <;> omega)))) | ((with_reducible first | apply hK | (clear hK K; first | apply hK | (clear hK K; apply hK))); clear hK K) | fail)
   all_goals (try omega)
   all_goals
    refine ressF_step [] (by simp) (by simp [lensO, lookO, obCells]) rfl ⟨rfl, trivial⟩ ?_
    simp only [go_sem, ↓reduceIte, Nat.reduceEqDiff, Nat.reduceBEq, Nat.reduceAdd, Nat.reduceMul, Nat.reduceSub, Nat.reduceLT, Nat.reduceLeDiff]
    rfl
  rw [if_neg x0] at hA
  by_cases x1 : k = 1
  ·
   rw [if_pos x1] at hA
   subst hA
   refine fns_go Try.func74 rfl rfl Try.ntmps74 Try.results74 (by simp only [slotsA, Nat.reduceAdd]; rfl) (by simp) rfl ?_
   repeat' (first | (with_reducible first | refine aw_seq fun K hK => ?_ | refine aw_region (by kernel_rfl) ?_ | refine aw_condk ?_ | refine aw_block ?_) | ((with_reducible refine evg ?_); simp only [go_sem, ↓reduceIte, Nat.reduceEqDiff, Nat.reduceBEq, Nat.reduceAdd, Nat.reduceMul, Nat.reduceSub, Nat.reduceLT, Nat.reduceLeDiff]) | (simp (disch := omega) only [dsq, Int.reduceSub, Int.reduceAdd, Int.reduceToNat]) | ((with_reducible refine ev_call ?_); (first | (refine call_s e1 ?_ ?_ ?_ ?_ ?_; (focus rfl); (focus first | exact trivial | exact And.intro rfl trivial | exact ⟨rfl, rfl, trivial⟩ | exact ⟨rfl, rfl, rfl, trivial⟩); (focus rfl); (focus (simp [-List.map_map, apartO, dropO, killN, obCells, refs_dmap, nofnsD, AV.refs, AV.refsL, AV.nofn, AV.nofns] <;> fail))) | (refine call_s e2 ?_ ?_ ?_ ?_ ?_; (focus rfl); (focus first | exact trivial | exact And.intro rfl trivial | exact ⟨rfl, rfl, trivial⟩ | exact ⟨rfl, rfl, rfl, trivial⟩); (focus rfl); (focus (simp [-List.map_map, apartO, dropO, killN, obCells, refs_dmap, nofnsD, AV.refs, AV.refsL, AV.nofn, AV.nofns] <;> fail))) | (refine call_s a2 ?_ ?_ ?_ ?_ ?_; (focus rfl); (focus first | exact trivial | exact And.intro rfl trivial | exact ⟨rfl, rfl, trivial⟩ | exact ⟨rfl, rfl, rfl, trivial⟩); (focus rfl); (focus (simp [-List.map_map, apartO, dropO, killN, obCells, refs_dmap, nofnsD, AV.refs, AV.refsL, AV.nofn, AV.nofns] <;> fail)))); refine k_run ?_) | ((with_reducible refine ck_split (fun h => ?_) (fun h => ?_)) <;> (try simp only [nrm] at h) <;> (try ((with_reducible exfalso); omega))) | ((with_reducible refine And.intro ?_ ?_); (focus first | omega | (simp; done) | (simp; omega) | ((repeat' (with_reducible refine And.intro ?_ ?_)) <;> first | omega | rfl | (simp only [go_sem, refsL_app, refs_dmap] <;> fail) | (simp [refsL_app, refs_dmap, AV.refsL, AV.refs] <;> omega)))) | ((with_reducible first | apply hK | (clear hK K; first | apply hK | (clear hK K; apply hK))); clear hK K) | fail)
   all_goals (try omega)
   all_goals
    refine ressF_step [] (by simp) (by simp [lensO, lookO, obCells]) rfl ⟨rfl, trivial⟩ ?_
    simp only [go_sem, ↓reduceIte, Nat.reduceEqDiff, Nat.reduceBEq, Nat.reduceAdd, Nat.reduceMul, Nat.reduceSub, Nat.reduceLT, Nat.reduceLeDiff]
    rfl
  rw [if_neg x1] at hA
  by_cases x2 : k = 2
  ·
   rw [if_pos x2] at hA
   subst hA
   refine fns_go Try.func74 rfl rfl Try.ntmps74 Try.results74 (by simp only [slotsA, Nat.reduceAdd]; rfl) (by simp) rfl ?_
   repeat' (first | (with_reducible first | refine aw_seq fun K hK => ?_ | refine aw_region (by kernel_rfl) ?_ | refine aw_condk ?_ | refine aw_block ?_) | ((with_reducible refine evg ?_); simp only [go_sem, ↓reduceIte, Nat.reduceEqDiff, Nat.reduceBEq, Nat.reduceAdd, Nat.reduceMul, Nat.reduceSub, Nat.reduceLT, Nat.reduceLeDiff]) | (simp (disch := omega) only [dsq, Int.reduceSub, Int.reduceAdd, Int.reduceToNat]) | ((with_reducible refine ev_call ?_); (first | (refine call_s e1 ?_ ?_ ?_ ?_ ?_; (focus rfl); (focus first | exact trivial | exact And.intro rfl trivial | exact ⟨rfl, rfl, trivial⟩ | exact ⟨rfl, rfl, rfl, trivial⟩); (focus rfl); (focus (simp [-List.map_map, apartO, dropO, killN, obCells, refs_dmap, nofnsD, AV.refs, AV.refsL, AV.nofn, AV.nofns] <;> fail))) | (refine call_s e2 ?_ ?_ ?_ ?_ ?_; (focus rfl); (focus first | exact trivial | exact And.intro rfl trivial | exact ⟨rfl, rfl, trivial⟩ | exact ⟨rfl, rfl, rfl, trivial⟩); (focus rfl); (focus (simp [-List.map_map, apartO, dropO, killN, obCells, refs_dmap, nofnsD, AV.refs, AV.refsL, AV.nofn, AV.nofns] <;> fail))) | (refine call_s a3 ?_ ?_ ?_ ?_ ?_; (focus rfl); (focus first | exact trivial | exact And.intro rfl trivial | exact ⟨rfl, rfl, trivial⟩ | exact ⟨rfl, rfl, rfl, trivial⟩); (focus rfl); (focus (simp [-List.map_map, apartO, dropO, killN, obCells, refs_dmap, nofnsD, AV.refs, AV.refsL, AV.nofn, AV.nofns] <;> fail)))); refine k_run ?_) | ((with_reducible refine ck_split (fun h => ?_) (fun h => ?_)) <;> (try simp only [nrm] at h) <;> (try ((with_reducible exfalso); omega))) | ((with_reducible refine And.intro ?_ ?_); (focus first | omega | (simp; done) | (simp; omega) | ((repeat' (with_reducible refine And.intro ?_ ?_)) <;> first | omega | rfl | (simp only [go_sem, refsL_app, refs_dmap] <;> fail) | (simp [refsL_app, refs_dmap, AV.refsL, AV.refs] <;> omega)))) | ((with_reducible first | apply hK | (clear hK K; first | apply hK | (clear hK K; apply hK))); clear hK K) | fail)
   all_goals (try omega)
   all_goals
    refine ressF_step [] (by simp) (by simp [lensO, lookO, obCells]) rfl ⟨rfl, trivial⟩ ?_
    simp only [go_sem, ↓reduceIte, Nat.reduceEqDiff, Nat.reduceBEq, Nat.reduceAdd, Nat.reduceMul, Nat.reduceSub, Nat.reduceLT, Nat.reduceLeDiff]
    rfl
  rw [if_neg x2] at hA
  by_cases x3 : k = 3
  ·
   rw [if_pos x3] at hA
   subst hA
   refine fns_go Try.func74 rfl rfl Try.ntmps74 Try.results74 (by simp only [slotsA, Nat.reduceAdd]; rfl) (by simp) rfl ?_
   repeat' (first | (with_reducible first | refine aw_seq fun K hK => ?_ | refine aw_region (by kernel_rfl) ?_ | refine aw_condk ?_ | refine aw_block ?_) | ((with_reducible refine evg ?_); simp only [go_sem, ↓reduceIte, Nat.reduceEqDiff, Nat.reduceBEq, Nat.reduceAdd, Nat.reduceMul, Nat.reduceSub, Nat.reduceLT, Nat.reduceLeDiff]) | (simp (disch := omega) only [dsq, Int.reduceSub, Int.reduceAdd, Int.reduceToNat]) | ((with_reducible refine ev_call ?_); (first | (refine call_s e1 ?_ ?_ ?_ ?_ ?_; (focus rfl); (focus first | exact trivial | exact And.intro rfl trivial | exact ⟨rfl, rfl, trivial⟩ | exact ⟨rfl, rfl, rfl, trivial⟩); (focus rfl); (focus (simp [-List.map_map, apartO, dropO, killN, obCells, refs_dmap, nofnsD, AV.refs, AV.refsL, AV.nofn, AV.nofns] <;> fail))) | (refine call_s e2 ?_ ?_ ?_ ?_ ?_; (focus rfl); (focus first | exact trivial | exact And.intro rfl trivial | exact ⟨rfl, rfl, trivial⟩ | exact ⟨rfl, rfl, rfl, trivial⟩); (focus rfl); (focus (simp [-List.map_map, apartO, dropO, killN, obCells, refs_dmap, nofnsD, AV.refs, AV.refsL, AV.nofn, AV.nofns] <;> fail))) | (refine call_s a4 ?_ ?_ ?_ ?_ ?_; (focus rfl); (focus first | exact trivial | exact And.intro rfl trivial | exact ⟨rfl, rfl, trivial⟩ | exact ⟨rfl, rfl, rfl, trivial⟩); (focus rfl); (focus (simp [-List.map_map, apartO, dropO, killN, obCells, refs_dmap, nofnsD, AV.refs, AV.refsL, AV.nofn, AV.nofns] <;> fail)))); refine k_run ?_) | ((with_reducible refine ck_split (fun h => ?_) (fun h => ?_)) <;> (try simp only [nrm] at h) <;> (try ((with_reducible exfalso); omega))) | ((with_reducible refine And.intro ?_ ?_); (focus first | omega | (simp; done) | (simp; omega) | ((repeat' (with_reducible refine And.intro ?_ ?_)) <;> first | omega | rfl | (simp only [go_sem, refsL_app, refs_dmap] <;> fail) | (simp [refsL_app, refs_dmap, AV.refsL, AV.refs] <;> omega)))) | ((with_reducible first | apply hK | (clear hK K; first | apply hK | (clear hK K; apply hK))); clear hK K) | fail)
   all_goals (try omega)
   all_goals
    refine ressF_step [] (by simp) (by simp [lensO, lookO, obCells]) rfl ⟨rfl, trivial⟩ ?_
    simp only [go_sem, ↓reduceIte, Nat.reduceEqDiff, Nat.reduceBEq, Nat.reduceAdd, Nat.reduceMul, Nat.reduceSub, Nat.reduceLT, Nat.reduceLeDiff]
    rfl
  ·
   rw [if_neg x3] at hA
   subst hA
   refine fns_go Try.func74 rfl rfl Try.ntmps74 Try.results74 (by simp only [slotsA, Nat.reduceAdd]; rfl) (by simp) rfl ?_
   repeat' (first | (with_reducible first | refine aw_seq fun K hK => ?_ | refine aw_region (by kernel_rfl) ?_ | refine aw_condk ?_ | refine aw_block ?_) | ((with_reducible refine evg ?_); simp only [go_sem, ↓reduceIte, Nat.reduceEqDiff, Nat.reduceBEq, Nat.reduceAdd, Nat.reduceMul, Nat.reduceSub, Nat.reduceLT, Nat.reduceLeDiff]) | (simp (disch := omega) only [dsq, Int.reduceSub, Int.reduceAdd, Int.reduceToNat]) | ((with_reducible refine ev_call ?_); (first | (refine call_s e1 ?_ ?_ ?_ ?_ ?_; (focus rfl); (focus first | exact trivial | exact And.intro rfl trivial | exact ⟨rfl, rfl, trivial⟩ | exact ⟨rfl, rfl, rfl, trivial⟩); (focus rfl); (focus (simp [-List.map_map, apartO, dropO, killN, obCells, refs_dmap, nofnsD, AV.refs, AV.refsL, AV.nofn, AV.nofns] <;> fail))) | (refine call_s e2 ?_ ?_ ?_ ?_ ?_; (focus rfl); (focus first | exact trivial | exact And.intro rfl trivial | exact ⟨rfl, rfl, trivial⟩ | exact ⟨rfl, rfl, rfl, trivial⟩); (focus rfl); (focus (simp [-List.map_map, apartO, dropO, killN, obCells, refs_dmap, nofnsD, AV.refs, AV.refsL, AV.nofn, AV.nofns] <;> fail)))); refine k_run ?_) | ((with_reducible refine ck_split (fun h => ?_) (fun h => ?_)) <;> (try simp only [nrm] at h) <;> (try ((with_reducible exfalso); omega))) | ((with_reducible refine And.intro ?_ ?_); (focus first | omega | (simp; done) | (simp; omega) | ((repeat' (with_reducible refine And.intro ?_ ?_)) <;> first | omega | rfl | (simp only [go_sem, refsL_app, refs_dmap] <;> fail) | (simp [refsL_app, refs_dmap, AV.refsL, AV.refs] <;> omega)))) | ((with_reducible first | apply hK | (clear hK K; first | apply hK | (clear hK K; apply hK))); clear hK K) | fail)
   all_goals (try omega)
   all_goals
    refine ressF_step [] (by simp) (by simp [lensO, lookO, obCells]) rfl ⟨rfl, trivial⟩ ?_
    simp only [go_sem, ↓reduceIte, Nat.reduceEqDiff, Nat.reduceBEq, Nat.reduceAdd, Nat.reduceMul, Nat.reduceSub, Nat.reduceLT, Nat.reduceLeDiff]
    rfl
 have h := hi.sw 5000 s
 simpa only [curO, swO, AV.swL, AV.sw, OB.sw, swp, if_true, FdS.a] using h

def dvB (bs : List Int) (z : FdS) : Bool := decide (z.d = 0) && !(oneV bs 8 z.c)

def dvK (bs : List Int) (z : FdS) (c : CurV) : FdS :=
 ⟨pickC bs 5 (pickC bs 4 (pickC bs 5 (pickC bs 7 c))), 1 + pickV bs 7 c, pickV bs 5 (pickC bs 7 c), 1 + pickV bs 4 (pickC bs 5 (pickC bs 7 c)), 5 + pickV bs 5 (pickC bs 4 (pickC bs 5 (pickC bs 7 c)))⟩

def dvS (bs : List Int) (c : CurV) : FdS :=
 if (anS bs c).d = 0 then (if oneV bs 8 (anS bs c).c = true then ⟨pickC bs 8 (anS bs c).c, (anS bs c).d, (anS bs c).l, (anS bs c).f, (anS bs c).s⟩ else dvK bs (anS bs c) (pickC bs 8 (anS bs c).c)) else anS bs c

theorem dvS_ok {bs : List Int} {n : Nat} {c : CurV} (h : okCur n c) : okCur (n + 24) (dvS bs c).c := by
 have h1 := anS_ok (bs := bs) h
 have q1 := okCur_pick (bs := bs) (n := 8) h1
 have q2 := okCur_pick (bs := bs) (n := 7) q1
 have q3 := okCur_pick (bs := bs) (n := 5) q2
 have q4 := okCur_pick (bs := bs) (n := 4) q3
 have q5 := okCur_pick (bs := bs) (n := 5) q4
 unfold dvS dvK
 repeat' split
 · exact okCur_mono q1 (by omega)
 · exact okCur_mono q5 (by omega)
 · exact okCur_mono h1 (by omega)

theorem divided_at (s : Nat) (bs : List Int) (c : CurV) (hb : okCod bs) (h0 : okCur 500000 c) : FnS Try.prog 32 [(s, curO bs c)] [.bp s 0] [(s, curO bs (dvS bs c).c)] (dvS bs c).a := by
 have hi : FnS Try.prog 32 [(5000, curO bs c)] [.bp 5000 0] [(5000, curO bs (dvS bs c).c)] (dvS bs c).a := by
  have h1 := anS_ok (bs := bs) h0
  have e1 := anyField_at 5000 bs c hb (okCur_mono h0 (by omega))
  have q1 := okCur_pick (bs := bs) (n := 8) h1
  have q2 := okCur_pick (bs := bs) (n := 7) q1
  have q3 := okCur_pick (bs := bs) (n := 5) q2
  have q4 := okCur_pick (bs := bs) (n := 4) q3
  have e2 := one_at 5000 bs 8 (anS bs c).c hb (okCur_mono h1 (by omega))
  have b1 := pick_at 5000 bs 7 (pickC bs 8 (anS bs c).c) hb (okCur_mono q1 (by omega))
  have b2 := pick_at 5000 bs 5 (pickC bs 7 (pickC bs 8 (anS bs c).c)) hb (okCur_mono q2 (by omega))
  have b3 := pick_at 5000 bs 4 (pickC bs 5 (pickC bs 7 (pickC bs 8 (anS bs c).c))) hb (okCur_mono q3 (by omega))
  have b4 := pick_at 5000 bs 5 (pickC bs 4 (pickC bs 5 (pickC bs 7 (pickC bs 8 (anS bs c).c)))) hb (okCur_mono q4 (by omega))
  have p1 := pickV_le hb (n := 7) q1.1
  have p2 := pickV_le hb (n := 5) q2.1
  have p3 := pickV_le hb (n := 4) q3.1
  have p4 := pickV_le hb (n := 5) q4.1
  have t1 := p1.2 (by decide)
  have t2 := p2.2 (by decide)
  have t3 := p3.2 (by decide)
  have t4 := p4.2 (by decide)
  have hA : dvS bs c = if (anS bs c).d = 0 then (if oneV bs 8 (anS bs c).c = true then ⟨pickC bs 8 (anS bs c).c, (anS bs c).d, (anS bs c).l, (anS bs c).f, (anS bs c).s⟩ else dvK bs (anS bs c) (pickC bs 8 (anS bs c).c)) else anS bs c := rfl
  unfold dvK at hA
  generalize dvS bs c = A at *
  generalize pickV bs 5 (pickC bs 4 (pickC bs 5 (pickC bs 7 (pickC bs 8 (anS bs c).c)))) = w4 at *
  generalize pickC bs 5 (pickC bs 4 (pickC bs 5 (pickC bs 7 (pickC bs 8 (anS bs c).c)))) = c5 at *
  generalize pickV bs 4 (pickC bs 5 (pickC bs 7 (pickC bs 8 (anS bs c).c))) = w3 at *
  generalize pickC bs 4 (pickC bs 5 (pickC bs 7 (pickC bs 8 (anS bs c).c))) = c4 at *
  generalize pickV bs 5 (pickC bs 7 (pickC bs 8 (anS bs c).c)) = w2 at *
  generalize pickC bs 5 (pickC bs 7 (pickC bs 8 (anS bs c).c)) = c3 at *
  generalize pickV bs 7 (pickC bs 8 (anS bs c).c) = w1 at *
  generalize pickC bs 7 (pickC bs 8 (anS bs c).c) = c2 at *
  generalize pickC bs 8 (anS bs c).c = c1 at *
  generalize oneV bs 8 (anS bs c).c = o at *
  generalize anS bs c = z at *
  obtain ⟨zc, zd, zl, zf, zs⟩ := z
  simp only [FdS.a] at e1 e2 hA
  by_cases x0 : zd = 0
  ·
   rw [if_pos x0] at hA
   cases o
   ·
    rw [if_neg (by simp)] at hA
    subst hA
    refine fns_go Try.func32 rfl rfl Try.ntmps32 Try.results32 (by simp only [slotsA, Nat.reduceAdd]; rfl) (by simp) rfl ?_
    repeat' (first | (with_reducible first | refine aw_seq fun K hK => ?_ | refine aw_region (by kernel_rfl) ?_ | refine aw_condk ?_) | ((with_reducible refine evg ?_); simp only [go_sem, ↓reduceIte, Nat.reduceEqDiff, Nat.reduceBEq, Nat.reduceAdd, Nat.reduceMul, Nat.reduceSub, Nat.reduceLT, Nat.reduceLeDiff]) | (simp (disch := omega) only [dsq, Int.reduceSub, Int.reduceAdd, Int.reduceToNat]) | ((with_reducible refine ev_call ?_); (first | (refine call_s e1 ?_ ?_ ?_ ?_ ?_; (focus rfl); (focus first | exact trivial | exact And.intro rfl trivial | exact ⟨rfl, rfl, trivial⟩ | exact ⟨rfl, rfl, rfl, trivial⟩); (focus rfl); (focus (simp [-List.map_map, apartO, dropO, killN, obCells, refs_dmap, nofnsD, AV.refs, AV.refsL, AV.nofn, AV.nofns] <;> fail))) | (refine call_s e2 ?_ ?_ ?_ ?_ ?_; (focus rfl); (focus first | exact trivial | exact And.intro rfl trivial | exact ⟨rfl, rfl, trivial⟩ | exact ⟨rfl, rfl, rfl, trivial⟩); (focus rfl); (focus (simp [-List.map_map, apartO, dropO, killN, obCells, refs_dmap, nofnsD, AV.refs, AV.refsL, AV.nofn, AV.nofns] <;> fail))) | (refine call_s b1 ?_ ?_ ?_ ?_ ?_; (focus rfl); (focus first | exact trivial | exact And.intro rfl trivial | exact ⟨rfl, rfl, trivial⟩ | exact ⟨rfl, rfl, rfl, trivial⟩); (focus rfl); (focus (simp [-List.map_map, apartO, dropO, killN, obCells, refs_dmap, nofnsD, AV.refs, AV.refsL, AV.nofn, AV.nofns] <;> fail))) | (refine call_s b2 ?_ ?_ ?_ ?_ ?_; (focus rfl); (focus first | exact trivial | exact And.intro rfl trivial | exact ⟨rfl, rfl, trivial⟩ | exact ⟨rfl, rfl, rfl, trivial⟩); (focus rfl); (focus (simp [-List.map_map, apartO, dropO, killN, obCells, refs_dmap, nofnsD, AV.refs, AV.refsL, AV.nofn, AV.nofns] <;> fail))) | (refine call_s b3 ?_ ?_ ?_ ?_ ?_; (focus rfl); (focus first | exact trivial | exact And.intro rfl trivial | exact ⟨rfl, rfl, trivial⟩ | exact ⟨rfl, rfl, rfl, trivial⟩); (focus rfl); (focus (simp [-List.map_map, apartO, dropO, killN, obCells, refs_dmap, nofnsD, AV.refs, AV.refsL, AV.nofn, AV.nofns] <;> fail))) | (refine call_s b4 ?_ ?_ ?_ ?_ ?_; (focus rfl); (focus first | exact trivial | exact And.intro rfl trivial | exact ⟨rfl, rfl, trivial⟩ | exact ⟨rfl, rfl, rfl, trivial⟩); (focus rfl); (focus (simp [-List.map_map, apartO, dropO, killN, obCells, refs_dmap, nofnsD, AV.refs, AV.refsL, AV.nofn, AV.nofns] <;> fail)))); refine k_run ?_) | ((with_reducible refine ev_guard ?_); (with_reducible first | refine guard_t ?_ ?_ rfl | refine guard_f ?_ ?_ rfl) <;> (intro h; (try simp only [h]); (try simp only [nrm] at h) <;> (try ((with_reducible exfalso); omega)))) | ((with_reducible refine ck_split (fun h => ?_) (fun h => ?_)) <;> (try simp only [nrm] at h) <;> (try ((with_reducible exfalso); omega))) | ((with_reducible refine And.intro ?_ ?_); (focus first | omega | (simp; done) | (simp; omega) | ((repeat' (with_reducible refine And.intro ?_ ?_)) <;> first | omega | rfl | (simp only [go_sem, refsL_app, refs_dmap] <;> fail) | (simp [refsL_app, refs_dmap, AV.refsL, AV.refs] <;> omega)))) | ((with_reducible first | apply hK | (clear hK K; first | apply hK | (clear hK K; apply hK))); clear hK K) | fail)
    all_goals (try omega)
    all_goals
     refine ressF_step [] (by simp) (by simp [lensO, lookO, obCells]) rfl ⟨rfl, trivial⟩ ?_
     simp only [go_sem, ↓reduceIte, Nat.reduceEqDiff, Nat.reduceBEq, Nat.reduceAdd, Nat.reduceMul, Nat.reduceSub, Nat.reduceLT, Nat.reduceLeDiff]
     rfl
   ·
    rw [if_pos rfl] at hA
    subst hA
    refine fns_go Try.func32 rfl rfl Try.ntmps32 Try.results32 (by simp only [slotsA, Nat.reduceAdd]; rfl) (by simp) rfl ?_
    repeat' (first | (with_reducible first | refine aw_seq fun K hK => ?_ | refine aw_region (by kernel_rfl) ?_ | refine aw_condk ?_) | ((with_reducible refine evg ?_); simp only [go_sem, ↓reduceIte, Nat.reduceEqDiff, Nat.reduceBEq, Nat.reduceAdd, Nat.reduceMul, Nat.reduceSub, Nat.reduceLT, Nat.reduceLeDiff]) | (simp (disch := omega) only [dsq, Int.reduceSub, Int.reduceAdd, Int.reduceToNat]) | ((with_reducible refine ev_call ?_); (first | (refine call_s e1 ?_ ?_ ?_ ?_ ?_; (focus rfl); (focus first | exact trivial | exact And.intro rfl trivial | exact ⟨rfl, rfl, trivial⟩ | exact ⟨rfl, rfl, rfl, trivial⟩); (focus rfl); (focus (simp [-List.map_map, apartO, dropO, killN, obCells, refs_dmap, nofnsD, AV.refs, AV.refsL, AV.nofn, AV.nofns] <;> fail))) | (refine call_s e2 ?_ ?_ ?_ ?_ ?_; (focus rfl); (focus first | exact trivial | exact And.intro rfl trivial | exact ⟨rfl, rfl, trivial⟩ | exact ⟨rfl, rfl, rfl, trivial⟩); (focus rfl); (focus (simp [-List.map_map, apartO, dropO, killN, obCells, refs_dmap, nofnsD, AV.refs, AV.refsL, AV.nofn, AV.nofns] <;> fail)))); refine k_run ?_) | ((with_reducible refine ev_guard ?_); (with_reducible first | refine guard_t ?_ ?_ rfl | refine guard_f ?_ ?_ rfl) <;> (intro h; (try simp only [h]); (try simp only [nrm] at h) <;> (try ((with_reducible exfalso); omega)))) | ((with_reducible refine ck_split (fun h => ?_) (fun h => ?_)) <;> (try simp only [nrm] at h) <;> (try ((with_reducible exfalso); omega))) | ((with_reducible refine And.intro ?_ ?_); (focus first | omega | (simp; done) | (simp; omega) | ((repeat' (with_reducible refine And.intro ?_ ?_)) <;> first | omega | rfl | (simp only [go_sem, refsL_app, refs_dmap] <;> fail) | (simp [refsL_app, refs_dmap, AV.refsL, AV.refs] <;> omega)))) | ((with_reducible first | apply hK | (clear hK K; first | apply hK | (clear hK K; apply hK))); clear hK K) | fail)
    all_goals (try omega)
    all_goals
     refine ressF_step [] (by simp) (by simp [lensO, lookO, obCells]) rfl ⟨rfl, trivial⟩ ?_
     simp only [go_sem, ↓reduceIte, Nat.reduceEqDiff, Nat.reduceBEq, Nat.reduceAdd, Nat.reduceMul, Nat.reduceSub, Nat.reduceLT, Nat.reduceLeDiff]
     rfl
  ·
   rw [if_neg x0] at hA
   subst hA
   refine fns_go Try.func32 rfl rfl Try.ntmps32 Try.results32 (by simp only [slotsA, Nat.reduceAdd]; rfl) (by simp) rfl ?_
   repeat' (first | (with_reducible first | refine aw_seq fun K hK => ?_ | refine aw_region (by kernel_rfl) ?_ | refine aw_condk ?_) | ((with_reducible refine evg ?_); simp only [go_sem, ↓reduceIte, Nat.reduceEqDiff, Nat.reduceBEq, Nat.reduceAdd, Nat.reduceMul, Nat.reduceSub, Nat.reduceLT, Nat.reduceLeDiff]) | (simp (disch := omega) only [dsq, Int.reduceSub, Int.reduceAdd, Int.reduceToNat]) | ((with_reducible refine ev_call ?_); (first | (refine call_s e1 ?_ ?_ ?_ ?_ ?_; (focus rfl); (focus first | exact trivial | exact And.intro rfl trivial | exact ⟨rfl, rfl, trivial⟩ | exact ⟨rfl, rfl, rfl, trivial⟩); (focus rfl); (focus (simp [-List.map_map, apartO, dropO, killN, obCells, refs_dmap, nofnsD, AV.refs, AV.refsL, AV.nofn, AV.nofns] <;> fail)))); refine k_run ?_) | ((with_reducible refine ev_guard ?_); (with_reducible first | refine guard_t ?_ ?_ rfl | refine guard_f ?_ ?_ rfl) <;> (intro h; (try simp only [h]); (try simp only [nrm] at h) <;> (try ((with_reducible exfalso); omega)))) | ((with_reducible refine ck_split (fun h => ?_) (fun h => ?_)) <;> (try simp only [nrm] at h) <;> (try ((with_reducible exfalso); omega))) | ((with_reducible refine And.intro ?_ ?_); (focus first | omega | (simp; done) | (simp; omega) | ((repeat' (with_reducible refine And.intro ?_ ?_)) <;> first | omega | rfl | (simp only [go_sem, refsL_app, refs_dmap] <;> fail) | (simp [refsL_app, refs_dmap, AV.refsL, AV.refs] <;> omega)))) | ((with_reducible first | apply hK | (clear hK K; first | apply hK | (clear hK K; apply hK))); clear hK K) | fail)
   all_goals (try omega)
   all_goals
    refine ressF_step [] (by simp) (by simp [lensO, lookO, obCells]) rfl ⟨rfl, trivial⟩ ?_
    simp only [go_sem, ↓reduceIte, Nat.reduceEqDiff, Nat.reduceBEq, Nat.reduceAdd, Nat.reduceMul, Nat.reduceSub, Nat.reduceLT, Nat.reduceLeDiff]
    rfl
 have h := hi.sw 5000 s
 simpa only [curO, swO, AV.swL, AV.sw, OB.sw, swp, if_true, FdS.a] using h

end Go.Proofs.Ytjbifidphckjoaa
