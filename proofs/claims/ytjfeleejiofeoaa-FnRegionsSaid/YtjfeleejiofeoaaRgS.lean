/- Draws of regions. -/
import Derived.Test.YtjfeleejiofeoaaRgR
import Derived.WalkKit
import Derived.WalkSpells
import Derived.KernelRfl
namespace Go.Proofs.Ytjfeleejiofeoaa
open Go.RowKit
set_option linter.unusedVariables false
set_option linter.unusedSimpArgs false

attribute [local go_sem] intL curO codL

attribute [local simp] refs_dmap ints_plain ints_all ints_all1 ints_plain_take curO codL

theorem zeroQ_cur : zeroV Try.prog 100 = [Value.slice none 0 0, Value.int IntKind.i64 0, Value.int IntKind.u64 0] := by kernel_rfl

attribute [local go_sem] zeroQ_cur

def curQ : CurV := ⟨0, 0⟩

theorem curQ_ok (n : Nat) : okCur n curQ := ⟨Int.le_refl _, Int.natCast_nonneg _⟩

theorem aregion_at (s t : Nat) (bs : List Int) (c : CurV) (hb : okCod bs) (h0 : okCur 50000 c) (hs : s < 5000) (ht : t < 5000) (hst : s ≠ t) : FnS Try.prog 78 [(s, curO bs c)] [.bp s 0] [(s, curO bs (arS bs c).c), (t, .ds ((arS bs c).z.map D.int))] (.ag [.bs t (arS bs c).o (arS bs c).n 1]) := by
  have h := ((any_region bs c hb h0).sw 5000 s).sw 5001 t
  simpa only [curO, swO, AV.swL, AV.sw, OB.sw, sw_self, swpQ_1 hs, swpQ_2 hs hst] using h

theorem rg_raw (zs : List Int) (o n : Nat) (h : o + n ≤ zs.length) : D.ls 1 n (((zs.map D.int).drop o).take (n * 1)) = intL ((zs.drop o).take n) := by
  have hl : ((zs.drop o).take n).length = n := by
    simp
    omega
  rw [intL, hl, Nat.mul_one, List.map_take, List.map_drop]

theorem rg_plains (zs : List Int) (o n : Nat) : plains (((zs.map D.int).drop o).take n) := by
  rw [← List.map_drop, ← List.map_take]
  exact ints_plain _

attribute [local simp] rg_plains

def r1 (bs : List Int) : List Int := arL (arS bs curQ)

def r2 (bs : List Int) : List Int := arL (arS bs (arS bs curQ).c)

def h5 : List Int := [1, 2, 3, 0, 4]

def rH (bs : List Int) : Int := amV bs h5 (3 + pickV bs 24 (arS bs (arS bs curQ).c).c / 11).toNat (pickC bs 24 (arS bs (arS bs curQ).c).c)

theorem r1_ok {bs : List Int} (hb : okCod bs) : (r1 bs).length ≤ 25 ∧ alI (r1 bs) := by
  have h := arS_ok hb (curQ_ok 0)
  exact ⟨by rw [r1, arL_len h]; exact h.2.2.1, arL_in h⟩

theorem r2_ok {bs : List Int} (hb : okCod bs) : (r2 bs).length ≤ 25 ∧ alI (r2 bs) := by
  have h := arS_ok hb (arS_ok hb (curQ_ok 0)).1
  exact ⟨by rw [r2, arL_len h]; exact h.2.2.1, arL_in h⟩

set_option maxRecDepth 100000 in
set_option maxHeartbeats 4000000 in
theorem drawValid_fn (bs : List Int) (hb : okCod bs) : FnD Try.prog 82 [codL bs] (.ag [intL (r1 bs)]) := by
  have e1 := aregion_at 6 8 bs curQ hb (curQ_ok _) (by decide) (by decide) (by decide)
  have k1 := arS_ok hb (curQ_ok 0)
  have hF : r1 bs = arL (arS bs curQ) := rfl
  rw [hF]
  clear hF
  generalize arS bs curQ = Z at *
  obtain ⟨zc, zl, o, n⟩ := Z
  obtain ⟨_, j1, j2, j3, _⟩ := k1
  simp only [curQ, arL] at *
  have hfin := congrArg (fun x => D.ag [x]) (rg_raw zl o n j1)
  have hm : (zl.map D.int).length = zl.length := List.length_map _
  generalize intL ((zl.drop o).take n) = fin at *
  refine fn_go Try.func82 rfl rfl Try.ntmps82 Try.results82 (by simp only [slotsOf, argAV, List.map_cons, List.map_nil, Nat.reduceAdd]; rfl) (by simp) ?_
  repeat' (first | (with_reducible first | refine aw_seq fun K hK => ?_ | refine aw_region (by kernel_rfl) ?_ | refine aw_condk ?_ | refine aw_block ?_) | ((with_reducible refine evg ?_); simp only [go_sem, ↓reduceIte, Nat.reduceEqDiff, Nat.reduceBEq, Nat.reduceAdd, Nat.reduceMul, Nat.reduceSub, Nat.reduceLT, Nat.reduceLeDiff]) | (simp (disch := omega) only [wr, drop_at, str_at, int_at, Int.reduceSub, Int.reduceAdd, Int.reduceToNat, Int.toNat_zero, wr]) | ((with_reducible refine ev_call ?_); (first | (refine call_s e1 ?_ ?_ ?_ ?_ ?_; (focus rfl); (focus first | exact trivial | exact And.intro rfl trivial | exact ⟨rfl, rfl, trivial⟩ | exact ⟨rfl, rfl, rfl, trivial⟩); (focus rfl); (focus (simp [-List.map_map, apartO, dropO, killN, obCells, refs_dmap, nofnsD, AV.refs, AV.refsL, AV.nofn, AV.nofns] <;> fail)))); refine k_run ?_) | ((with_reducible refine ev_guard ?_); (with_reducible first | refine guard_t ?_ ?_ rfl | refine guard_f ?_ ?_ rfl) <;> (intro h; (try simp only [h]); (try simp only [nrm] at h) <;> (try ((with_reducible exfalso); omega)))) | ((with_reducible refine ck_split (fun h => ?_) (fun h => ?_)) <;> (try simp only [nrm] at h) <;> (try ((with_reducible exfalso); omega))) | ((with_reducible refine And.intro ?_ ?_); (first | omega | focus (simp; done) | focus (simp; omega) | focus ((repeat' (with_reducible refine And.intro ?_ ?_)) <;> first | omega | rfl | (simp only [go_sem, refsL_app, refs_dmap] <;> fail) | (simp [refsL_app, refs_dmap, AV.refsL, AV.refs] <;> omega)))) | ((with_reducible first | apply hK | (clear hK K; first | apply hK | (clear hK K; first | apply hK | (clear hK K; apply hK)))); clear hK K) | fail)
  all_goals (try omega)
  (first | refine res_tmp rfl (by simp [D.plain, plains]) (by simp) ?_ | refine res_at rfl (by simp [D.plain, plains]) (by simp) ?_ | refine res_two rfl (by simp [D.plain, plains]) (by simp) ?_ | refine res_three rfl (by simp [D.plain, plains]) (by simp) ?_)
  all_goals first | exact hfin | exact rg_plains _ _ _

set_option maxRecDepth 100000 in
set_option maxHeartbeats 4000000 in
theorem drawPieces_fn (bs : List Int) (hb : okCod bs) : FnD Try.prog 45 [codL bs] (.ag [intL (r1 bs)]) := by
  have e1 := drawValid_fn bs hb
  generalize r1 bs = zs at *
  refine fn_go Try.func45 rfl rfl Try.ntmps45 Try.results45 (by simp only [slotsOf, argAV, List.map_cons, List.map_nil, Nat.reduceAdd]; rfl) (by simp) ?_
  repeat' (first | (with_reducible first | refine aw_seq fun K hK => ?_ | refine aw_region (by kernel_rfl) ?_ | refine aw_condk ?_ | refine aw_block ?_) | ((with_reducible refine evg ?_); simp only [go_sem, ↓reduceIte, Nat.reduceEqDiff, Nat.reduceBEq, Nat.reduceAdd, Nat.reduceMul, Nat.reduceSub, Nat.reduceLT, Nat.reduceLeDiff]) | (simp (disch := omega) only [wr, drop_at, str_at, int_at, Int.reduceSub, Int.reduceAdd, Int.reduceToNat, Int.toNat_zero, wr]) | ((with_reducible refine ev_call ?_); (first | (refine call_fn e1 rfl ?_)); refine k_run ?_) | ((with_reducible refine ev_guard ?_); (with_reducible first | refine guard_t ?_ ?_ rfl | refine guard_f ?_ ?_ rfl) <;> (intro h; (try simp only [h]); (try simp only [nrm] at h) <;> (try ((with_reducible exfalso); omega)))) | ((with_reducible refine ck_split (fun h => ?_) (fun h => ?_)) <;> (try simp only [nrm] at h) <;> (try ((with_reducible exfalso); omega))) | ((with_reducible refine And.intro ?_ ?_); (first | omega | focus (simp; done) | focus (simp; omega) | focus ((repeat' (with_reducible refine And.intro ?_ ?_)) <;> first | omega | rfl | (simp only [go_sem, refsL_app, refs_dmap] <;> fail) | (simp [refsL_app, refs_dmap, AV.refsL, AV.refs] <;> omega)))) | ((with_reducible first | apply hK | (clear hK K; first | apply hK | (clear hK K; first | apply hK | (clear hK K; apply hK)))); clear hK K) | fail)
  (first | refine res_tmp rfl (by simp [D.plain, plains]) (by simp) ?_ | refine res_at rfl (by simp [D.plain, plains]) (by simp) ?_ | refine res_two rfl (by simp [D.plain, plains]) (by simp) ?_ | refine res_three rfl (by simp [D.plain, plains]) (by simp) ?_)
  exact congrArg (fun x => D.ag [x]) (ints_raw zs)

set_option maxRecDepth 100000 in
theorem pl_RgS_40_3U (l : List Oper) (h : l = opsOf Try.f40 3) : planUB l (.still 1 (.still 3 (.still 5 (.three true 0 (.two false 2 (.two true 4 (.one false 6 (.calc 7 (.calc 8 (.still 9 (.one false 10 (.one false 11 (.one false 12 (.still 13 PU.fin)))))))) false 6 (.calc 7 (.calc 8 (.one true 4 (.still 9 (.one false 10 (.one false 11 (.one false 12 (.still 13 PU.fin))))))))) true 4 (.one false 2 (.one false 6 (.calc 7 (.calc 8 (.still 9 (.one false 10 (.one false 11 (.one false 12 (.still 13 PU.fin)))))))))) false 2 (.three true 0 (.two true 4 (.one false 6 (.calc 7 (.calc 8 (.still 9 (.one false 10 (.one false 11 (.one false 12 (.still 13 PU.fin)))))))) false 6 (.calc 7 (.calc 8 (.one true 4 (.still 9 (.one false 10 (.one false 11 (.one false 12 (.still 13 PU.fin))))))))) true 4 (.two true 0 (.one false 6 (.calc 7 (.calc 8 (.still 9 (.one false 10 (.one false 11 (.one false 12 (.still 13 PU.fin)))))))) false 6 (.calc 7 (.calc 8 (.still 9 (.two true 0 (.one false 10 (.one false 11 (.one false 12 (.still 13 PU.fin)))) false 10 (.one true 0 (.one false 11 (.one false 12 (.still 13 PU.fin))))))))) false 6 (.calc 7 (.calc 8 (.two true 0 (.one true 4 (.still 9 (.one false 10 (.one false 11 (.one false 12 (.still 13 PU.fin)))))) true 4 (.still 9 (.two true 0 (.one false 10 (.one false 11 (.one false 12 (.still 13 PU.fin)))) false 10 (.one true 0 (.one false 11 (.one false 12 (.still 13 PU.fin)))))))))) true 4 (.two true 0 (.one false 2 (.one false 6 (.calc 7 (.calc 8 (.still 9 (.one false 10 (.one false 11 (.one false 12 (.still 13 PU.fin))))))))) false 2 (.two true 0 (.one false 6 (.calc 7 (.calc 8 (.still 9 (.one false 10 (.one false 11 (.one false 12 (.still 13 PU.fin)))))))) false 6 (.calc 7 (.calc 8 (.still 9 (.two true 0 (.one false 10 (.one false 11 (.one false 12 (.still 13 PU.fin)))) false 10 (.one true 0 (.one false 11 (.one false 12 (.still 13 PU.fin)))))))))))))) [2, 6, 10, 11, 12] = true := by
  subst h
  kernel_rfl

set_option maxRecDepth 100000 in
set_option maxHeartbeats 4000000 in
theorem drawComb_fn (bs : List Int) (hb : okCod bs) : FnD Try.prog 40 [codL bs] (.tu [.ag [intL (r1 bs)], .ag [intL (r2 bs)], .int (rH bs)]) := by
  have e1 := aregion_at 9 11 bs curQ hb (curQ_ok _) (by decide) (by decide) (by decide)
  have k1 := arS_ok hb (curQ_ok 0)
  have e2 := aregion_at 9 14 bs (arS bs curQ).c hb (okCur_mono k1.1 (by omega)) (by decide) (by decide) (by decide)
  have k2 := arS_ok hb k1.1
  have a1 := pick_at 9 bs 24 (arS bs (arS bs curQ).c).c hb (okCur_mono k2.1 (by omega))
  have q1 := okCur_pick (bs := bs) (n := 24) k2.1
  have p1 := pickV_le hb (n := 24) k2.1.1
  have p2 := p1.2 (by decide)
  have hm : ∃ m : Nat, 3 + pickV bs 24 (arS bs (arS bs curQ).c).c / 11 = (m : Int) ∧ 3 ≤ m ∧ m ≤ 5 := ⟨(3 + pickV bs 24 (arS bs (arS bs curQ).c).c / 11).toNat, by omega, by omega, by omega⟩
  obtain ⟨m, m1, m2, m3⟩ := hm
  have a2 := among_at 9 16 bs h5 m (pickC bs 24 (arS bs (arS bs curQ).c).c) hb (okCur_mono q1 (by omega)) (by omega) (by simp only [h5, List.length_cons, List.length_nil]; omega) (by decide) (by decide) (by decide) (by decide)
  have hH : rH bs = amV bs h5 m (pickC bs 24 (arS bs (arS bs curQ).c).c) := by
    rw [rH, m1, Int.toNat_natCast]
  have h1 : r1 bs = arL (arS bs curQ) := rfl
  have h2 : r2 bs = arL (arS bs (arS bs curQ).c) := rfl
  rw [hH, h1, h2]
  clear hH h1 h2
  generalize amV bs h5 m (pickC bs 24 (arS bs (arS bs curQ).c).c) = hv at *
  generalize pickC bs m (pickC bs 24 (arS bs (arS bs curQ).c).c) = c4 at *
  generalize pickC bs 24 (arS bs (arS bs curQ).c).c = c3 at *
  generalize pickV bs 24 (arS bs (arS bs curQ).c).c = v at *
  have m1' : 3 + v.tdiv 11 = (m : Int) := by rw [Int.tdiv_eq_ediv_of_nonneg (by omega)]; exact m1
  generalize arS bs (arS bs curQ).c = Y at *
  generalize arS bs curQ = Z at *
  obtain ⟨zc, zl, o, n⟩ := Z
  obtain ⟨yc, yl, o2, n2⟩ := Y
  obtain ⟨_, j1, j2, j3, _⟩ := k1
  obtain ⟨_, i1, i2, i3, _⟩ := k2
  simp only [curQ, arL] at *
  simp only [h5, List.map] at a2
  have f1 := rg_raw zl o n j1
  have f2 := rg_raw yl o2 n2 i1
  have hm1 : (zl.map D.int).length = zl.length := List.length_map _
  have hm2 : (yl.map D.int).length = yl.length := List.length_map _
  generalize intL ((zl.drop o).take n) = fin at *
  generalize intL ((yl.drop o2).take n2) = fin2 at *
  have w1 : 0 ≤ v.tdiv 11 ∧ v.tdiv 11 ≤ 2 := by
    rw [Int.tdiv_eq_ediv_of_nonneg (by omega)]
    omega
  refine fn_go Try.func40 rfl rfl Try.ntmps40 Try.results40 (by simp only [slotsOf, argAV, List.map_cons, List.map_nil, Nat.reduceAdd]; rfl) (by simp) ?_
  repeat' (first | (with_reducible first | refine aw_seq fun K hK => ?_ | refine aw_region (by kernel_rfl) ?_ | refine aw_condk ?_ | refine aw_block ?_) | ((with_reducible refine ev_aw ?_); first | (refine aw_drawJ (by kernel_rfl) (id := 3) _ _ (by kernel_rfl) (pl_RgS_40_3U _ (by kernel_rfl)) (fun KJ hJ => ?_))) | (with_reducible first | refine ru_four ?_ ?_ ?_ ?_ | refine ru_three ?_ ?_ ?_ | refine ru_two ?_ ?_ | refine rv_split ?_ ?_ | refine rv_two ?_ ?_ | refine rp_two ?_ ?_) | ((with_reducible refine evg ?_); simp only [go_sem, St.clean, cleanO, ↓reduceIte, Nat.reduceEqDiff, Nat.reduceBEq, Nat.reduceAdd, Nat.reduceMul, Nat.reduceSub, Nat.reduceLT, Nat.reduceLeDiff]) | (simp (disch := omega) only [wr, drop_at, str_at, int_at, Int.reduceSub, Int.reduceAdd, Int.reduceToNat, Int.toNat_zero, m1', wr]) | ((with_reducible refine ev_call ?_); (first | (refine call_s e1 ?_ ?_ ?_ ?_ ?_; (focus rfl); (focus first | exact trivial | exact And.intro rfl trivial | exact ⟨rfl, rfl, trivial⟩ | exact ⟨rfl, rfl, rfl, trivial⟩); (focus rfl); (focus (simp [-List.map_map, apartO, dropO, killN, obCells, refs_dmap, nofnsD, AV.refs, AV.refsL, AV.nofn, AV.nofns] <;> fail))) | (refine call_s e2 ?_ ?_ ?_ ?_ ?_; (focus rfl); (focus first | exact trivial | exact And.intro rfl trivial | exact ⟨rfl, rfl, trivial⟩ | exact ⟨rfl, rfl, rfl, trivial⟩); (focus rfl); (focus (simp [-List.map_map, apartO, dropO, killN, obCells, refs_dmap, nofnsD, AV.refs, AV.refsL, AV.nofn, AV.nofns] <;> fail))) | (refine call_s a1 ?_ ?_ ?_ ?_ ?_; (focus rfl); (focus first | exact trivial | exact And.intro rfl trivial | exact ⟨rfl, rfl, trivial⟩ | exact ⟨rfl, rfl, rfl, trivial⟩); (focus rfl); (focus (simp [-List.map_map, apartO, dropO, killN, obCells, refs_dmap, nofnsD, AV.refs, AV.refsL, AV.nofn, AV.nofns] <;> fail))) | (refine call_s a2 ?_ ?_ ?_ ?_ ?_; (focus rfl); (focus first | exact trivial | exact And.intro rfl trivial | exact ⟨rfl, rfl, trivial⟩ | exact ⟨rfl, rfl, rfl, trivial⟩); (focus rfl); (focus (simp [-List.map_map, apartO, dropO, killN, obCells, refs_dmap, nofnsD, AV.refs, AV.refsL, AV.nofn, AV.nofns] <;> fail)))); refine k_run ?_) | ((with_reducible refine ev_guard ?_); (with_reducible first | refine guard_t ?_ ?_ rfl | refine guard_f ?_ ?_ rfl) <;> (intro h; (try simp only [h]); (try simp only [nrm] at h) <;> (try ((with_reducible exfalso); omega)))) | ((with_reducible refine ck_split (fun h => ?_) (fun h => ?_)) <;> (try simp only [nrm] at h) <;> (try ((with_reducible exfalso); omega))) | ((with_reducible refine And.intro ?_ ?_); (first | omega | focus (simp; done) | focus (simp; omega) | focus ((repeat' (with_reducible refine And.intro ?_ ?_)) <;> first | omega | rfl | (simp only [go_sem, refsL_app, refs_dmap] <;> fail) | (simp [refsL_app, refs_dmap, AV.refsL, AV.refs] <;> omega)))) | (with_reducible refine hJ _ (fun K hK => ?_) ?_ <;> clear hJ KJ) | ((with_reducible refine ev_less ?_); (refine ⟨rfl, ?_, ?_⟩ <;> simp only [go_sem, St.clean, cleanO, SubS, SubO, beq_self_eq_true, ↓reduceIte, Nat.reduceEqDiff, Nat.reduceBEq, Nat.reduceAdd, Nat.reduceMul, Nat.reduceSub, Nat.reduceLT, Nat.reduceLeDiff])) | ((with_reducible first | apply hK | (clear hK K; first | apply hK | (clear hK K; first | apply hK | (clear hK K; apply hK)))); clear hK K) | fail)
  all_goals (try omega)
  (first | refine res_tmp rfl (by simp [D.plain, plains]) (by simp) ?_ | refine res_at rfl (by simp [D.plain, plains]) (by simp) ?_ | refine res_two rfl (by simp [D.plain, plains]) (by simp) ?_ | refine res_three rfl (by simp [D.plain, plains]) (by simp) ?_)
  all_goals first | exact ⟨rg_plains _ _ _, rg_plains _ _ _⟩ | rw [← f1, ← f2]

end Go.Proofs.Ytjfeleejiofeoaa
