/- Drawn pictures, valid or not. -/
import Derived.Test.YtjbifidphckjoaaPc
import Derived.WalkKit
import Derived.WalkSpells
import Derived.KernelRfl
namespace Go.Proofs.Ytjbifidphckjoaa
open Go.RowKit
set_option maxRecDepth 100000
set_option maxHeartbeats 4000000
set_option linter.unusedVariables false
set_option linter.unusedSimpArgs false

attribute [local go_sem] intL gridD lookO_lo killO_grid delO_grid putO_lo gridO_app dropGe dropGe_grid cleanO_grid gridC_len gridC_refs gridQ_refs lens_len rowsD_len setG_len dropO_grid killR_nil killR_cons killR_grid killN_lo newN_gridN hasN_cons hasN_grid Nat.le_refl refs_dmap newN_all killSs_gridN killOs_gridN killSs_gridN0 killOs_gridN0 loS_nil loS_cons loL_nil loL_cons lo_bp lo_bs lo_ag lo_tu lo_fc lo_d lo_un loO_nil loO_ds loO_av loO_dead loO_grid loL_gridC loL_dmap picZ_len List.length_append len24_len curO codL

attribute [local simp] ints_plain ints_all ints_all1 ints_plain_take refs_dmap curO codL

theorem pkN_ok {bs : List Int} : ∀ (n : Nat) {m : Nat} {s : PkS}, okCur m s.c -> okCur (m + 4 * n) (pkN bs n s).c
 | 0, _, _, h => h
 | n + 1, m, s, h => by
  have h1 := okCur_pick (bs := bs) (n := 7) h
  have h2 := okCur_pick (bs := bs) (n := 9) h1
  have h3 : okCur (m + 2 + 2) (pkOne bs s).c := h2
  exact okCur_mono (pkN_ok n h3) (by omega)

theorem pkS_ok {bs : List Int} (hb : okCod bs) {n : Nat} {c : CurV} (h : okCur n c) : okCur (n + 24) (pkS bs c).c := by
 have h1 := fdS_ok (bs := bs) h
 have h2 := okCur_pick (bs := bs) (n := 4) h1
 have p1 := pickV_le hb (n := 4) h1.1
 have p2 := p1.2 (by decide)
 exact okCur_mono (pkN_ok (bs := bs) (pickV bs 4 (fdS bs c).c).toNat (s := ⟨pickC bs 4 (fdS bs c).c, tinctZ (fdS bs c).d (fdS bs c).l.toNat (fdS bs c).f (fdS bs c).s⟩) h2) (by omega)

theorem newN_all1 {k B : Nat} {o : OB} {zs : List (List Int)} {r : List (Nat × OB)} (h : k < B) : newN [(k, o)] (gridO B zs r) = gridN B zs.length ++ newN [(k, o)] r := by
 induction zs generalizing B with
 | nil => rfl
 | cons z zs ih =>
  have hne : ¬ k = B := by omega
  simp only [gridO, newN, lookO, if_neg hne, ih (show k < B + 1 by omega), List.length_cons, gridN, List.cons_append]

attribute [local simp] newN_all1

attribute [local go_sem] newN_all1

structure ApS where
 c : CurV
 zs : List (List Int)
 o : Nat

def apG (bs : List Int) (Z : PkS) : ApS :=
 if pickV bs 30 Z.c = 0 then ⟨pickC bs 2 (pickC bs 20 (pickC bs 30 Z.c)), setG (picZ Z.h) (pickV bs 20 (pickC bs 30 Z.c)).toNat 23 (amV bs [0, 1] 2 (pickC bs 20 (pickC bs 30 Z.c))), 0⟩
 else if pickV bs 30 Z.c = 1 then ⟨pickC bs 3 (pickC bs 12 (pickC bs 30 Z.c)), setG (picZ Z.h) 3 (pickV bs 12 (pickC bs 30 Z.c)).toNat (amV bs [0, 10, -1] 3 (pickC bs 12 (pickC bs 30 Z.c))), 0⟩
 else if pickV bs 30 Z.c = 2 then ⟨pickC bs 30 Z.c, picZ Z.h, 1⟩
 else if pickV bs 30 Z.c = 3 then ⟨pickC bs 30 Z.c, (picZ Z.h).set 2 ((picZ Z.h).getD 2 [] ++ [1]), 0⟩
 else ⟨pickC bs 30 Z.c, picZ Z.h, 0⟩

def apS (bs : List Int) (c : CurV) : ApS := apG bs (pkS bs c)

theorem rowQ_far {y : Nat} (hy : y < 24) : ∃ N, (∀ k, k < 100000 -> ¬ k = N /\ (N == k) = false) /\ (gridC 1000000000 len24).getD y .un = .bs N 0 20 1 /\ (∀ (Y : List (List Int)) (r : List (Nat × OB)), y < Y.length -> lookO (gridO 1000000000 Y r) N = some (.ds ((Y.getD y []).map D.int))) ∧
  (∀ (Y : List (List Int)) (r : List (Nat × OB)) (z : List Int), y < Y.length -> putO (gridO 1000000000 Y r) N (.ds (z.map D.int)) = gridO 1000000000 (Y.set y z) r) := by
 refine ⟨y + 1000000000, fun k hk => ⟨by omega, by rw [beq_eq_false_iff_ne]; omega⟩, ?_, fun _ _ h => lookO_row h, fun _ _ _ h => putO_row h⟩
 rw [gridC_at (by simpa using hy)]
 congr 1
 rw [len24, List.getD_eq_getElem?_getD, List.getElem?_replicate, if_pos hy]
 rfl

theorem lens_cur {o1 o2 x : OB} {zs : List (List Int)} (h : (obCells o2).length = (obCells o1).length) (hd : lookO [(5000, o1)] 5000 = some o1) : lensO [(5000, o1)] ((5000, o2) :: (14, x) :: gridO 1000000000 zs []) := by
 rw [lensO, hd]
 refine ⟨h, trivial, lensO_row fun i => ?_⟩
 have hne : ¬ 5000 = 1000000000 + i := by omega
 simp only [lookO, hne, if_false]

set_option maxRecDepth 100000 in
theorem pl_AnP_58_4U (l : List Oper) (h : l = opsOf Try.f58 4) : planUB l (.still 0 (.still 1 (.still 3 (.still 5 (.three true 2 (.two false 4 (.one true 6 (.one false 7 (.still 8 (.one false 9 PU.fin)))) true 6 (.one false 4 (.one false 7 (.still 8 (.one false 9 PU.fin))))) false 4 (.two true 2 (.one true 6 (.one false 7 (.still 8 (.one false 9 PU.fin)))) true 6 (.two true 2 (.one false 7 (.still 8 (.one false 9 PU.fin))) false 7 (.one true 2 (.still 8 (.one false 9 PU.fin))))) true 6 (.two true 2 (.one false 4 (.one false 7 (.still 8 (.one false 9 PU.fin)))) false 4 (.two true 2 (.one false 7 (.still 8 (.one false 9 PU.fin))) false 7 (.one true 2 (.still 8 (.one false 9 PU.fin)))))))))) [4, 7, 9] = true := by
 subst h
 kernel_rfl

set_option maxRecDepth 100000 in
theorem pl_AnP_58_6U (l : List Oper) (h : l = opsOf Try.f58 6) : planUB l (.still 0 (.still 1 (.still 5 (.two false 2 (.still 3 (.two true 4 (.one true 6 (.one false 7 (.still 8 (.one false 9 PU.fin)))) true 6 (.two true 4 (.one false 7 (.still 8 (.one false 9 PU.fin))) false 7 (.one true 4 (.still 8 (.one false 9 PU.fin)))))) true 6 (.one false 2 (.still 3 (.two true 4 (.one false 7 (.still 8 (.one false 9 PU.fin))) false 7 (.one true 4 (.still 8 (.one false 9 PU.fin)))))))))) [2, 7, 9] = true := by
 subst h
 kernel_rfl

theorem anp_e (bs : List Int) (c : CurV) (hb : okCod bs) (h0 : okCur 400000 c) (v0 : ¬ pickV bs 30 (pkS bs c).c = 0) (v1 : ¬ pickV bs 30 (pkS bs c).c = 1) (v2 : ¬ pickV bs 30 (pkS bs c).c = 2) (v3 : ¬ pickV bs 30 (pkS bs c).c = 3) : FnS Try.prog 58 [(5000, curO bs c)] [.bp 5000 0] ((5000, curO bs (pickC bs 30 (pkS bs c).c)) :: (14, .av (gridC 1000000000 len24)) :: gridO 1000000000 (picZ (pkS bs c).h) []) (.bs 14 0 24 1) := by
 have e1 := picture_14 bs c hb (okCur_mono h0 (by omega))
 have k1 := pkS_ok (bs := bs) hb h0
 have e2 := pick_at 5000 bs 30 (pkS bs c).c hb (okCur_mono k1 (by omega))
 generalize pickV bs 30 (pkS bs c).c = v at *
 generalize pickC bs 30 (pkS bs c).c = c2 at *
 generalize pkS bs c = Z at *
 obtain ⟨c1, h⟩ := Z
 simp only [curO, codL] at e2
 refine fns_go Try.func58 rfl rfl Try.ntmps58 Try.results58 (by simp only [slotsA, Nat.reduceAdd]; rfl) (by simp) (by simp (disch := omega) only [geAll, geAll_grid]; rfl) ?_
 repeat' (first | (with_reducible first | refine aw_seq fun K hK => ?_ | refine aw_region (by kernel_rfl) ?_ | refine aw_condk ?_ | refine aw_block ?_) | ((with_reducible refine ev_aw ?_); first | (refine aw_drawJ (by kernel_rfl) (id := 4) _ _ (by kernel_rfl) (pl_AnP_58_4U _ (by kernel_rfl)) (fun KJ hJ => ?_)) | (refine aw_drawJ (by kernel_rfl) (id := 6) _ _ (by kernel_rfl) (pl_AnP_58_6U _ (by kernel_rfl)) (fun KJ hJ => ?_))) | (with_reducible first | refine ru_four ?_ ?_ ?_ ?_ | refine ru_three ?_ ?_ ?_ | refine ru_two ?_ ?_ | refine rv_split ?_ ?_ | refine rv_two ?_ ?_ | refine rp_two ?_ ?_) | ((with_reducible refine evg ?_); simp only [go_sem, St.clean, cleanO, ↓reduceIte, Nat.reduceEqDiff, Nat.reduceBEq, Nat.reduceAdd, Nat.reduceMul, Nat.reduceSub, Nat.reduceLT, Nat.reduceLeDiff]) | (simp (disch := omega) only [dsq, Int.reduceSub, Int.reduceAdd, Int.reduceToNat]) | ((with_reducible refine ev_call ?_); (first | (refine call_s e1 ?_ ?_ ?_ ?_ ?_; (focus rfl); (focus first | exact trivial | exact And.intro rfl trivial | exact ⟨rfl, rfl, trivial⟩ | (simp (disch := omega) only [SubO, lookO, subO_grid, hasG_nil, hasG_cons, hasG_self, hasG_lo, hasG_hi, lookO_lo, lookO_hi, true_and, and_true, Nat.reduceEqDiff, ↓reduceIte] <;> fail)); (focus (simp [newN, lookO, newN_all, ltAll, ltAll_grid, ltAll_grid0] <;> fail)); (focus (simp (disch := omega) only [dropO, killN, dropO_grid, killR_nil, killR_cons, killR_grid, killR_hi, killN_grid, apartO, Nat.reduceEqDiff, ↓reduceIte]; (first | (rw [apartO_hi ?_ ?_]; rotate_left; (focus omega); (focus (simp [AV.lo, AV.loL] <;> fail))) | (rw [apartO_lo ?_ ?_]; rotate_left; (focus (simp (disch := omega) [loO_ds, loO_av, loO_nil, loO_grid, loL_gridC, AV.lo, AV.loL] <;> fail)); (focus (simp [AV.lo, AV.loL] <;> fail))) | skip); (simp [-List.map_map, apartO, dropO, killN, obCells, refs_dmap, nofnsD, AV.refs, AV.refsL, AV.nofn, AV.nofns, all_grid, gridC_refs, gridC_refsR, gridC_nofns] <;> fail)))) | (refine call_s e2 ?_ ?_ ?_ ?_ ?_; (focus rfl); (focus (simp (disch := omega) only [SubO, lookO, subO_grid, hasG_nil, hasG_cons, hasG_self, hasG_lo, hasG_hi, lookO_lo, lookO_hi, true_and, and_true, Nat.reduceEqDiff, ↓reduceIte] <;> fail)); (focus (simp [newN, lookO, ltAll, newN_gridN, hasN_cons, hasN_grid, setG_len, lens_len] <;> fail)); (focus (simp (disch := omega) only [dropO, killN, dropO_grid, killR_nil, killR_cons, killR_grid, killR_hi, killN_grid, apartO, Nat.reduceEqDiff, ↓reduceIte]; (first | (rw [apartO_hi ?_ ?_]; rotate_left; (focus omega); (focus (simp [AV.lo, AV.loL] <;> fail))) | (rw [apartO_lo ?_ ?_]; rotate_left; (focus (simp (disch := omega) [loO_ds, loO_av, loO_nil, loO_grid, loL_gridC, AV.lo, AV.loL] <;> fail)); (focus (simp [AV.lo, AV.loL] <;> fail))) | skip); (simp [-List.map_map, apartO, dropO, killN, obCells, refs_dmap, nofnsD, AV.refs, AV.refsL, AV.nofn, AV.nofns, all_grid, gridC_refs, gridC_refsR, gridC_nofns] <;> fail))))); refine k_run ?_) | ((with_reducible refine ck_split (fun h => ?_) (fun h => ?_)) <;> (try simp only [nrm] at h) <;> (try ((with_reducible exfalso); omega))) | ((with_reducible refine And.intro ?_ ?_); (focus first | omega | (simp; done) | (simp; omega) | ((repeat' (with_reducible refine And.intro ?_ ?_)) <;> first | omega | rfl | (simp only [go_sem, refsL_app, refs_dmap] <;> fail) | (simp [refsL_app, refs_dmap, AV.refsL, AV.refs] <;> omega)))) | (with_reducible refine hJ _ (fun K hK => ?_) ?_ <;> clear hJ KJ) | ((with_reducible refine ev_less ?_); (refine ⟨rfl, ?_, ?_⟩ <;> simp only [go_sem, St.clean, cleanO, SubS, SubO, beq_self_eq_true, ↓reduceIte, Nat.reduceEqDiff, Nat.reduceBEq, Nat.reduceAdd, Nat.reduceMul, Nat.reduceSub, Nat.reduceLT, Nat.reduceLeDiff])) | ((with_reducible first | apply hK | (clear hK K; first | apply hK | (clear hK K; apply hK))); clear hK K) | fail)
 all_goals first
  | exact absurd trivial (by assumption)
  | (simp (disch := omega) only [SubO, lookO, lookO_lo, Nat.reduceEqDiff, ↓reduceIte, subO_grid, hasG_cons, hasG_self, true_and, and_true] <;> fail)
  | (refine ress_tmp ?_ ?_ rfl; (focus exact lens_cur rfl rfl); (focus (simp (disch := omega) only [SubO, lookO, lookO_lo, Nat.reduceEqDiff, ↓reduceIte, subO_grid, hasG_cons, hasG_self, true_and, and_true] <;> fail)))

theorem anp_2 (bs : List Int) (c : CurV) (hb : okCod bs) (h0 : okCur 400000 c) (v2 : pickV bs 30 (pkS bs c).c = 2) : FnS Try.prog 58 [(5000, curO bs c)] [.bp 5000 0] ((5000, curO bs (pickC bs 30 (pkS bs c).c)) :: (14, .av (gridC 1000000000 len24)) :: gridO 1000000000 (picZ (pkS bs c).h) []) (.bs 14 1 23 1) := by
 have e1 := picture_14 bs c hb (okCur_mono h0 (by omega))
 have k1 := pkS_ok (bs := bs) hb h0
 have e2 := pick_at 5000 bs 30 (pkS bs c).c hb (okCur_mono k1 (by omega))
 rw [v2] at e2
 clear v2
 generalize pickC bs 30 (pkS bs c).c = c2 at *
 generalize pkS bs c = Z at *
 obtain ⟨c1, h⟩ := Z
 simp only [curO, codL] at e2
 refine fns_go Try.func58 rfl rfl Try.ntmps58 Try.results58 (by simp only [slotsA, Nat.reduceAdd]; rfl) (by simp) (by simp (disch := omega) only [geAll, geAll_grid]; rfl) ?_
 repeat' (first | (with_reducible first | refine aw_seq fun K hK => ?_ | refine aw_region (by kernel_rfl) ?_ | refine aw_condk ?_ | refine aw_block ?_) | ((with_reducible refine ev_aw ?_); first | (refine aw_drawJ (by kernel_rfl) (id := 4) _ _ (by kernel_rfl) (pl_AnP_58_4U _ (by kernel_rfl)) (fun KJ hJ => ?_)) | (refine aw_drawJ (by kernel_rfl) (id := 6) _ _ (by kernel_rfl) (pl_AnP_58_6U _ (by kernel_rfl)) (fun KJ hJ => ?_))) | (with_reducible first | refine ru_four ?_ ?_ ?_ ?_ | refine ru_three ?_ ?_ ?_ | refine ru_two ?_ ?_ | refine rv_split ?_ ?_ | refine rv_two ?_ ?_ | refine rp_two ?_ ?_) | ((with_reducible refine evg ?_); simp only [go_sem, St.clean, cleanO, ↓reduceIte, Nat.reduceEqDiff, Nat.reduceBEq, Nat.reduceAdd, Nat.reduceMul, Nat.reduceSub, Nat.reduceLT, Nat.reduceLeDiff]) | (simp (disch := omega) only [dsq, Int.reduceSub, Int.reduceAdd, Int.reduceToNat]) | ((with_reducible refine ev_call ?_); (first | (refine call_s e1 ?_ ?_ ?_ ?_ ?_; (focus rfl); (focus first | exact trivial | exact And.intro rfl trivial | exact ⟨rfl, rfl, trivial⟩ | (simp (disch := omega) only [SubO, lookO, subO_grid, hasG_nil, hasG_cons, hasG_self, hasG_lo, hasG_hi, lookO_lo, lookO_hi, true_and, and_true, Nat.reduceEqDiff, ↓reduceIte] <;> fail)); (focus (simp [newN, lookO, newN_all, ltAll, ltAll_grid, ltAll_grid0] <;> fail)); (focus (simp (disch := omega) only [dropO, killN, dropO_grid, killR_nil, killR_cons, killR_grid, killR_hi, killN_grid, apartO, Nat.reduceEqDiff, ↓reduceIte]; (first | (rw [apartO_hi ?_ ?_]; rotate_left; (focus omega); (focus (simp [AV.lo, AV.loL] <;> fail))) | (rw [apartO_lo ?_ ?_]; rotate_left; (focus (simp (disch := omega) [loO_ds, loO_av, loO_nil, loO_grid, loL_gridC, AV.lo, AV.loL] <;> fail)); (focus (simp [AV.lo, AV.loL] <;> fail))) | skip); (simp [-List.map_map, apartO, dropO, killN, obCells, refs_dmap, nofnsD, AV.refs, AV.refsL, AV.nofn, AV.nofns, all_grid, gridC_refs, gridC_refsR, gridC_nofns] <;> fail)))) | (refine call_s e2 ?_ ?_ ?_ ?_ ?_; (focus rfl); (focus (simp (disch := omega) only [SubO, lookO, subO_grid, hasG_nil, hasG_cons, hasG_self, hasG_lo, hasG_hi, lookO_lo, lookO_hi, true_and, and_true, Nat.reduceEqDiff, ↓reduceIte] <;> fail)); (focus (simp [newN, lookO, ltAll, newN_gridN, hasN_cons, hasN_grid, setG_len, lens_len] <;> fail)); (focus (simp (disch := omega) only [dropO, killN, dropO_grid, killR_nil, killR_cons, killR_grid, killR_hi, killN_grid, apartO, Nat.reduceEqDiff, ↓reduceIte]; (first | (rw [apartO_hi ?_ ?_]; rotate_left; (focus omega); (focus (simp [AV.lo, AV.loL] <;> fail))) | (rw [apartO_lo ?_ ?_]; rotate_left; (focus (simp (disch := omega) [loO_ds, loO_av, loO_nil, loO_grid, loL_gridC, AV.lo, AV.loL] <;> fail)); (focus (simp [AV.lo, AV.loL] <;> fail))) | skip); (simp [-List.map_map, apartO, dropO, killN, obCells, refs_dmap, nofnsD, AV.refs, AV.refsL, AV.nofn, AV.nofns, all_grid, gridC_refs, gridC_refsR, gridC_nofns] <;> fail))))); refine k_run ?_) | ((with_reducible refine ck_split (fun h => ?_) (fun h => ?_)) <;> (try simp only [nrm] at h) <;> (try ((with_reducible exfalso); omega))) | ((with_reducible refine And.intro ?_ ?_); (focus first | omega | (simp; done) | (simp; omega) | ((repeat' (with_reducible refine And.intro ?_ ?_)) <;> first | omega | rfl | (simp only [go_sem, refsL_app, refs_dmap] <;> fail) | (simp [refsL_app, refs_dmap, AV.refsL, AV.refs] <;> omega)))) | (with_reducible refine hJ _ (fun K hK => ?_) ?_ <;> clear hJ KJ) | ((with_reducible refine ev_less ?_); (refine ⟨rfl, ?_, ?_⟩ <;> simp only [go_sem, St.clean, cleanO, SubS, SubO, beq_self_eq_true, ↓reduceIte, Nat.reduceEqDiff, Nat.reduceBEq, Nat.reduceAdd, Nat.reduceMul, Nat.reduceSub, Nat.reduceLT, Nat.reduceLeDiff])) | ((with_reducible first | apply hK | (clear hK K; first | apply hK | (clear hK K; apply hK))); clear hK K) | fail)
 all_goals first
  | exact absurd trivial (by assumption)
  | (simp (disch := omega) only [SubO, lookO, lookO_lo, Nat.reduceEqDiff, ↓reduceIte, subO_grid, hasG_cons, hasG_self, true_and, and_true] <;> fail)
  | (refine ress_tmp ?_ ?_ rfl; (focus exact lens_cur rfl rfl); (focus (simp (disch := omega) only [SubO, lookO, lookO_lo, Nat.reduceEqDiff, ↓reduceIte, subO_grid, hasG_cons, hasG_self, true_and, and_true] <;> fail)))

theorem anp_0 (bs : List Int) (c : CurV) (hb : okCod bs) (h0 : okCur 400000 c) (v0 : pickV bs 30 (pkS bs c).c = 0) : FnS Try.prog 58 [(5000, curO bs c)] [.bp 5000 0] ((5000, curO bs (pickC bs 2 (pickC bs 20 (pickC bs 30 (pkS bs c).c)))) :: (14, .av (gridC 1000000000 len24)) :: gridO 1000000000 (setG (picZ (pkS bs c).h) (pickV bs 20 (pickC bs 30 (pkS bs c).c)).toNat 23 (amV bs [0, 1] 2 (pickC bs 20 (pickC bs 30 (pkS bs c).c)))) []) (.bs 14 0 24 1) := by
 have e1 := picture_14 bs c hb (okCur_mono h0 (by omega))
 have k1 := pkS_ok (bs := bs) hb h0
 have e2 := pick_at 5000 bs 30 (pkS bs c).c hb (okCur_mono k1 (by omega))
 have q1 := okCur_pick (bs := bs) (n := 30) k1
 have e3 := pick_at 5000 bs 20 (pickC bs 30 (pkS bs c).c) hb (okCur_mono q1 (by omega))
 have p1 := pickV_le hb (n := 20) q1.1
 have p2 := p1.2 (by decide)
 have q2 := okCur_pick (bs := bs) (n := 20) q1
 have e4 := among_at 5000 16 bs [0, 1] 2 (pickC bs 20 (pickC bs 30 (pkS bs c).c)) hb (okCur_mono q2 (by omega)) (by decide) (by decide) (by decide) (by decide) (by decide) (by decide)
 simp only [List.map] at e4
 obtain ⟨x, hx⟩ := Int.eq_ofNat_of_zero_le p1.1
 rw [v0] at e2
 clear v0
 rw [hx] at e3 p1 p2
 rw [hx, Int.toNat_natCast]
 clear hx
 generalize amV bs [0, 1] 2 (pickC bs 20 (pickC bs 30 (pkS bs c).c)) = t at *
 generalize pickC bs ((2 : Nat) : Int) (pickC bs 20 (pickC bs 30 (pkS bs c).c)) = c4 at *
 generalize pickC bs 20 (pickC bs 30 (pkS bs c).c) = c3 at *
 generalize pickC bs 30 (pkS bs c).c = c2 at *
 generalize pkS bs c = Z at *
 obtain ⟨c1, h⟩ := Z
 have okN := picZ_ok h
 generalize picZ h = Y at *
 rw [setG]
 have hY1 := okN.1
 have hY2 := okN.2 23 (by decide)
 have hlr : ((Y.getD 23 []).map D.int).length = 20 := by simpa using hY2
 have h24 : (gridC 1000000000 len24).length = 24 := by simp
 obtain ⟨N, hfar, hat, hrow, hput⟩ := rowQ_far (y := 23) (by decide)
 obtain ⟨f1, f2⟩ := hfar 16 (by decide)
 obtain ⟨f3, f4⟩ := hfar 14 (by decide)
 obtain ⟨f5, f6⟩ := hfar 5000 (by decide)
 clear hfar
 have hyY : 23 < Y.length := by omega
 have hrow := fun r => hrow Y r hyY
 have hput := fun r z => hput Y r z hyY
 simp only [curO, codL] at e2 e3 e4
 refine fns_go Try.func58 rfl rfl Try.ntmps58 Try.results58 (by simp only [slotsA, Nat.reduceAdd]; rfl) (by simp) (by simp (disch := omega) only [geAll, geAll_grid]; rfl) ?_
 repeat' (first | (with_reducible first | refine aw_seq fun K hK => ?_ | refine aw_region (by kernel_rfl) ?_ | refine aw_condk ?_ | refine aw_block ?_) | ((with_reducible refine ev_aw ?_); first | (refine aw_drawJ (by kernel_rfl) (id := 4) _ _ (by kernel_rfl) (pl_AnP_58_4U _ (by kernel_rfl)) (fun KJ hJ => ?_)) | (refine aw_drawJ (by kernel_rfl) (id := 6) _ _ (by kernel_rfl) (pl_AnP_58_6U _ (by kernel_rfl)) (fun KJ hJ => ?_))) | (with_reducible first | refine ru_four ?_ ?_ ?_ ?_ | refine ru_three ?_ ?_ ?_ | refine ru_two ?_ ?_ | refine rv_split ?_ ?_ | refine rv_two ?_ ?_ | refine rp_two ?_ ?_) | ((with_reducible refine evg ?_); simp only [go_sem, St.clean, cleanO, ↓reduceIte, Nat.reduceEqDiff, Nat.reduceBEq, Nat.reduceAdd, Nat.reduceMul, Nat.reduceSub, Nat.reduceLT, Nat.reduceLeDiff]) | (simp (disch := omega) only [dsq, Int.reduceSub, Int.reduceAdd, Int.reduceToNat, wr, h24, hat, hrow, hput, hlr, map_set, f1, f2, f3, f4, f5, f6, ↓reduceIte]) | ((with_reducible refine ev_call ?_); (first | (refine call_s e1 ?_ ?_ ?_ ?_ ?_; (focus rfl); (focus first | exact trivial | exact And.intro rfl trivial | exact ⟨rfl, rfl, trivial⟩ | (simp (disch := omega) only [SubO, lookO, subO_grid, hasG_nil, hasG_cons, hasG_self, hasG_lo, hasG_hi, lookO_lo, lookO_hi, true_and, and_true, Nat.reduceEqDiff, ↓reduceIte] <;> fail)); (focus (simp [newN, lookO, newN_all, ltAll, ltAll_grid, ltAll_grid0] <;> fail)); (focus (simp (disch := omega) only [dropO, killN, dropO_grid, killR_nil, killR_cons, killR_grid, killR_hi, killN_grid, apartO, Nat.reduceEqDiff, ↓reduceIte]; (first | (rw [apartO_hi ?_ ?_]; rotate_left; (focus omega); (focus (simp [AV.lo, AV.loL] <;> fail))) | (rw [apartO_lo ?_ ?_]; rotate_left; (focus (simp (disch := omega) [loO_ds, loO_av, loO_nil, loO_grid, loL_gridC, AV.lo, AV.loL] <;> fail)); (focus (simp [AV.lo, AV.loL] <;> fail))) | skip); (simp [-List.map_map, apartO, dropO, killN, obCells, refs_dmap, nofnsD, AV.refs, AV.refsL, AV.nofn, AV.nofns, all_grid, gridC_refs, gridC_refsR, gridC_nofns] <;> fail)))) | (refine call_s e2 ?_ ?_ ?_ ?_ ?_; (focus rfl); (focus (simp (disch := omega) only [SubO, lookO, subO_grid, hasG_nil, hasG_cons, hasG_self, hasG_lo, hasG_hi, lookO_lo, lookO_hi, true_and, and_true, Nat.reduceEqDiff, ↓reduceIte] <;> fail)); (focus (simp [newN, lookO, ltAll, newN_gridN, hasN_cons, hasN_grid, setG_len, lens_len] <;> fail)); (focus (simp (disch := omega) only [dropO, killN, dropO_grid, killR_nil, killR_cons, killR_grid, killR_hi, killN_grid, apartO, Nat.reduceEqDiff, ↓reduceIte]; (first | (rw [apartO_hi ?_ ?_]; rotate_left; (focus omega); (focus (simp [AV.lo, AV.loL] <;> fail))) | (rw [apartO_lo ?_ ?_]; rotate_left; (focus (simp (disch := omega) [loO_ds, loO_av, loO_nil, loO_grid, loL_gridC, AV.lo, AV.loL] <;> fail)); (focus (simp [AV.lo, AV.loL] <;> fail))) | skip); (simp [-List.map_map, apartO, dropO, killN, obCells, refs_dmap, nofnsD, AV.refs, AV.refsL, AV.nofn, AV.nofns, all_grid, gridC_refs, gridC_refsR, gridC_nofns] <;> fail)))) | (refine call_s e3 ?_ ?_ ?_ ?_ ?_; (focus rfl); (focus (simp (disch := omega) only [SubO, lookO, subO_grid, hasG_nil, hasG_cons, hasG_self, hasG_lo, hasG_hi, lookO_lo, lookO_hi, true_and, and_true, Nat.reduceEqDiff, ↓reduceIte] <;> fail)); (focus (simp [newN, lookO, ltAll, newN_gridN, hasN_cons, hasN_grid, setG_len, lens_len] <;> fail)); (focus (simp (disch := omega) only [dropO, killN, dropO_grid, killR_nil, killR_cons, killR_grid, killR_hi, killN_grid, apartO, Nat.reduceEqDiff, ↓reduceIte]; (first | (rw [apartO_hi ?_ ?_]; rotate_left; (focus omega); (focus (simp [AV.lo, AV.loL] <;> fail))) | (rw [apartO_lo ?_ ?_]; rotate_left; (focus (simp (disch := omega) [loO_ds, loO_av, loO_nil, loO_grid, loL_gridC, AV.lo, AV.loL] <;> fail)); (focus (simp [AV.lo, AV.loL] <;> fail))) | skip); (simp [-List.map_map, apartO, dropO, killN, obCells, refs_dmap, nofnsD, AV.refs, AV.refsL, AV.nofn, AV.nofns, all_grid, gridC_refs, gridC_refsR, gridC_nofns] <;> fail)))) | (refine call_s e4 ?_ ?_ ?_ ?_ ?_; (focus rfl); (focus (simp (disch := omega) only [SubO, lookO, subO_grid, hasG_nil, hasG_cons, hasG_self, hasG_lo, hasG_hi, lookO_lo, lookO_hi, true_and, and_true, Nat.reduceEqDiff, ↓reduceIte] <;> fail)); (focus (simp [newN, lookO, ltAll, newN_gridN, hasN_cons, hasN_grid, setG_len, lens_len] <;> fail)); (focus (simp (disch := omega) only [dropO, killN, dropO_grid, killR_nil, killR_cons, killR_grid, killR_hi, killN_grid, apartO, Nat.reduceEqDiff, ↓reduceIte]; (first | (rw [apartO_hi ?_ ?_]; rotate_left; (focus omega); (focus (simp [AV.lo, AV.loL] <;> fail))) | (rw [apartO_lo ?_ ?_]; rotate_left; (focus (simp (disch := omega) [loO_ds, loO_av, loO_nil, loO_grid, loL_gridC, AV.lo, AV.loL] <;> fail)); (focus (simp [AV.lo, AV.loL] <;> fail))) | skip); (simp [-List.map_map, apartO, dropO, killN, obCells, refs_dmap, nofnsD, AV.refs, AV.refsL, AV.nofn, AV.nofns, all_grid, gridC_refs, gridC_refsR, gridC_nofns] <;> fail))))); refine k_run ?_) | ((with_reducible refine ck_split (fun h => ?_) (fun h => ?_)) <;> (try simp only [nrm] at h) <;> (try ((with_reducible exfalso); omega))) | ((with_reducible refine And.intro ?_ ?_); (focus first | omega | (simp; done) | (simp; omega) | ((repeat' (with_reducible refine And.intro ?_ ?_)) <;> first | omega | rfl | (simp only [go_sem, refsL_app, refs_dmap] <;> fail) | (simp [refsL_app, refs_dmap, AV.refsL, AV.refs] <;> omega)))) | (with_reducible refine hJ _ (fun K hK => ?_) ?_ <;> clear hJ KJ) | ((with_reducible refine ev_less ?_); (refine ⟨rfl, ?_, ?_⟩ <;> simp only [go_sem, St.clean, cleanO, SubS, SubO, beq_self_eq_true, ↓reduceIte, Nat.reduceEqDiff, Nat.reduceBEq, Nat.reduceAdd, Nat.reduceMul, Nat.reduceSub, Nat.reduceLT, Nat.reduceLeDiff])) | ((with_reducible first | apply hK | (clear hK K; first | apply hK | (clear hK K; apply hK))); clear hK K) | fail)
 all_goals first
  | exact absurd trivial (by assumption)
  | (simp (disch := omega) only [SubO, lookO, lookO_lo, Nat.reduceEqDiff, ↓reduceIte, subO_grid, hasG_cons, hasG_self, true_and, and_true] <;> fail)
  | (refine ress_tmp ?_ ?_ rfl; (focus exact lens_cur rfl rfl); (focus (simp (disch := omega) only [SubO, lookO, lookO_lo, Nat.reduceEqDiff, ↓reduceIte, subO_grid, hasG_cons, hasG_self, true_and, and_true] <;> fail)))

theorem anp_1 (bs : List Int) (c : CurV) (hb : okCod bs) (h0 : okCur 400000 c) (v1 : pickV bs 30 (pkS bs c).c = 1) : FnS Try.prog 58 [(5000, curO bs c)] [.bp 5000 0] ((5000, curO bs (pickC bs 3 (pickC bs 12 (pickC bs 30 (pkS bs c).c)))) :: (14, .av (gridC 1000000000 len24)) :: gridO 1000000000 (setG (picZ (pkS bs c).h) 3 (pickV bs 12 (pickC bs 30 (pkS bs c).c)).toNat (amV bs [0, 10, -1] 3 (pickC bs 12 (pickC bs 30 (pkS bs c).c)))) []) (.bs 14 0 24 1) := by
 have e1 := picture_14 bs c hb (okCur_mono h0 (by omega))
 have k1 := pkS_ok (bs := bs) hb h0
 have e2 := pick_at 5000 bs 30 (pkS bs c).c hb (okCur_mono k1 (by omega))
 have q1 := okCur_pick (bs := bs) (n := 30) k1
 have e3 := pick_at 5000 bs 12 (pickC bs 30 (pkS bs c).c) hb (okCur_mono q1 (by omega))
 have p1 := pickV_le hb (n := 12) q1.1
 have p2 := p1.2 (by decide)
 have q2 := okCur_pick (bs := bs) (n := 12) q1
 have e4 := among_at 5000 27 bs [0, 10, -1] 3 (pickC bs 12 (pickC bs 30 (pkS bs c).c)) hb (okCur_mono q2 (by omega)) (by decide) (by decide) (by decide) (by decide) (by decide) (by decide)
 simp only [List.map] at e4
 obtain ⟨x, hx⟩ := Int.eq_ofNat_of_zero_le p1.1
 rw [v1] at e2
 clear v1
 rw [hx] at e3 p1 p2
 rw [hx, Int.toNat_natCast]
 clear hx
 generalize amV bs [0, 10, -1] 3 (pickC bs 12 (pickC bs 30 (pkS bs c).c)) = t at *
 generalize pickC bs ((3 : Nat) : Int) (pickC bs 12 (pickC bs 30 (pkS bs c).c)) = c4 at *
 generalize pickC bs 12 (pickC bs 30 (pkS bs c).c) = c3 at *
 generalize pickC bs 30 (pkS bs c).c = c2 at *
 generalize pkS bs c = Z at *
 obtain ⟨c1, h⟩ := Z
 have okN := picZ_ok h
 generalize picZ h = Y at *
 rw [setG]
 have hY1 := okN.1
 have hY2 := okN.2 x (by omega)
 have hlr : ((Y.getD x []).map D.int).length = 20 := by simpa using hY2
 have h24 : (gridC 1000000000 len24).length = 24 := by simp
 obtain ⟨N, hfar, hat, hrow, hput⟩ := rowQ_far (y := x) (by omega)
 obtain ⟨f1, f2⟩ := hfar 27 (by decide)
 obtain ⟨f3, f4⟩ := hfar 14 (by decide)
 obtain ⟨f5, f6⟩ := hfar 5000 (by decide)
 clear hfar
 have hyY : x < Y.length := by omega
 have hrow := fun r => hrow Y r hyY
 have hput := fun r z => hput Y r z hyY
 simp only [curO, codL] at e2 e3 e4
 refine fns_go Try.func58 rfl rfl Try.ntmps58 Try.results58 (by simp only [slotsA, Nat.reduceAdd]; rfl) (by simp) (by simp (disch := omega) only [geAll, geAll_grid]; rfl) ?_
 repeat' (first | (with_reducible first | refine aw_seq fun K hK => ?_ | refine aw_region (by kernel_rfl) ?_ | refine aw_condk ?_ | refine aw_block ?_) | ((with_reducible refine ev_aw ?_); first | (refine aw_drawJ (by kernel_rfl) (id := 4) _ _ (by kernel_rfl) (pl_AnP_58_4U _ (by kernel_rfl)) (fun KJ hJ => ?_)) | (refine aw_drawJ (by kernel_rfl) (id := 6) _ _ (by kernel_rfl) (pl_AnP_58_6U _ (by kernel_rfl)) (fun KJ hJ => ?_))) | (with_reducible first | refine ru_four ?_ ?_ ?_ ?_ | refine ru_three ?_ ?_ ?_ | refine ru_two ?_ ?_ | refine rv_split ?_ ?_ | refine rv_two ?_ ?_ | refine rp_two ?_ ?_) | ((with_reducible refine evg ?_); simp only [go_sem, St.clean, cleanO, ↓reduceIte, Nat.reduceEqDiff, Nat.reduceBEq, Nat.reduceAdd, Nat.reduceMul, Nat.reduceSub, Nat.reduceLT, Nat.reduceLeDiff]) | (simp (disch := omega) only [dsq, Int.reduceSub, Int.reduceAdd, Int.reduceToNat, wr, h24, hat, hrow, hput, hlr, map_set, f1, f2, f3, f4, f5, f6, ↓reduceIte]) | ((with_reducible refine ev_call ?_); (first | (refine call_s e1 ?_ ?_ ?_ ?_ ?_; (focus rfl); (focus first | exact trivial | exact And.intro rfl trivial | exact ⟨rfl, rfl, trivial⟩ | (simp (disch := omega) only [SubO, lookO, subO_grid, hasG_nil, hasG_cons, hasG_self, hasG_lo, hasG_hi, lookO_lo, lookO_hi, true_and, and_true, Nat.reduceEqDiff, ↓reduceIte] <;> fail)); (focus (simp [newN, lookO, newN_all, ltAll, ltAll_grid, ltAll_grid0] <;> fail)); (focus (simp (disch := omega) only [dropO, killN, dropO_grid, killR_nil, killR_cons, killR_grid, killR_hi, killN_grid, apartO, Nat.reduceEqDiff, ↓reduceIte]; (first | (rw [apartO_hi ?_ ?_]; rotate_left; (focus omega); (focus (simp [AV.lo, AV.loL] <;> fail))) | (rw [apartO_lo ?_ ?_]; rotate_left; (focus (simp (disch := omega) [loO_ds, loO_av, loO_nil, loO_grid, loL_gridC, AV.lo, AV.loL] <;> fail)); (focus (simp [AV.lo, AV.loL] <;> fail))) | skip); (simp [-List.map_map, apartO, dropO, killN, obCells, refs_dmap, nofnsD, AV.refs, AV.refsL, AV.nofn, AV.nofns, all_grid, gridC_refs, gridC_refsR, gridC_nofns] <;> fail)))) | (refine call_s e2 ?_ ?_ ?_ ?_ ?_; (focus rfl); (focus (simp (disch := omega) only [SubO, lookO, subO_grid, hasG_nil, hasG_cons, hasG_self, hasG_lo, hasG_hi, lookO_lo, lookO_hi, true_and, and_true, Nat.reduceEqDiff, ↓reduceIte] <;> fail)); (focus (simp [newN, lookO, ltAll, newN_gridN, hasN_cons, hasN_grid, setG_len, lens_len] <;> fail)); (focus (simp (disch := omega) only [dropO, killN, dropO_grid, killR_nil, killR_cons, killR_grid, killR_hi, killN_grid, apartO, Nat.reduceEqDiff, ↓reduceIte]; (first | (rw [apartO_hi ?_ ?_]; rotate_left; (focus omega); (focus (simp [AV.lo, AV.loL] <;> fail))) | (rw [apartO_lo ?_ ?_]; rotate_left; (focus (simp (disch := omega) [loO_ds, loO_av, loO_nil, loO_grid, loL_gridC, AV.lo, AV.loL] <;> fail)); (focus (simp [AV.lo, AV.loL] <;> fail))) | skip); (simp [-List.map_map, apartO, dropO, killN, obCells, refs_dmap, nofnsD, AV.refs, AV.refsL, AV.nofn, AV.nofns, all_grid, gridC_refs, gridC_refsR, gridC_nofns] <;> fail)))) | (refine call_s e3 ?_ ?_ ?_ ?_ ?_; (focus rfl); (focus (simp (disch := omega) only [SubO, lookO, subO_grid, hasG_nil, hasG_cons, hasG_self, hasG_lo, hasG_hi, lookO_lo, lookO_hi, true_and, and_true, Nat.reduceEqDiff, ↓reduceIte] <;> fail)); (focus (simp [newN, lookO, ltAll, newN_gridN, hasN_cons, hasN_grid, setG_len, lens_len] <;> fail)); (focus (simp (disch := omega) only [dropO, killN, dropO_grid, killR_nil, killR_cons, killR_grid, killR_hi, killN_grid, apartO, Nat.reduceEqDiff, ↓reduceIte]; (first | (rw [apartO_hi ?_ ?_]; rotate_left; (focus omega); (focus (simp [AV.lo, AV.loL] <;> fail))) | (rw [apartO_lo ?_ ?_]; rotate_left; (focus (simp (disch := omega) [loO_ds, loO_av, loO_nil, loO_grid, loL_gridC, AV.lo, AV.loL] <;> fail)); (focus (simp [AV.lo, AV.loL] <;> fail))) | skip); (simp [-List.map_map, apartO, dropO, killN, obCells, refs_dmap, nofnsD, AV.refs, AV.refsL, AV.nofn, AV.nofns, all_grid, gridC_refs, gridC_refsR, gridC_nofns] <;> fail)))) | (refine call_s e4 ?_ ?_ ?_ ?_ ?_; (focus rfl); (focus (simp (disch := omega) only [SubO, lookO, subO_grid, hasG_nil, hasG_cons, hasG_self, hasG_lo, hasG_hi, lookO_lo, lookO_hi, true_and, and_true, Nat.reduceEqDiff, ↓reduceIte] <;> fail)); (focus (simp [newN, lookO, ltAll, newN_gridN, hasN_cons, hasN_grid, setG_len, lens_len] <;> fail)); (focus (simp (disch := omega) only [dropO, killN, dropO_grid, killR_nil, killR_cons, killR_grid, killR_hi, killN_grid, apartO, Nat.reduceEqDiff, ↓reduceIte]; (first | (rw [apartO_hi ?_ ?_]; rotate_left; (focus omega); (focus (simp [AV.lo, AV.loL] <;> fail))) | (rw [apartO_lo ?_ ?_]; rotate_left; (focus (simp (disch := omega) [loO_ds, loO_av, loO_nil, loO_grid, loL_gridC, AV.lo, AV.loL] <;> fail)); (focus (simp [AV.lo, AV.loL] <;> fail))) | skip); (simp [-List.map_map, apartO, dropO, killN, obCells, refs_dmap, nofnsD, AV.refs, AV.refsL, AV.nofn, AV.nofns, all_grid, gridC_refs, gridC_refsR, gridC_nofns] <;> fail))))); refine k_run ?_) | ((with_reducible refine ck_split (fun h => ?_) (fun h => ?_)) <;> (try simp only [nrm] at h) <;> (try ((with_reducible exfalso); omega))) | ((with_reducible refine And.intro ?_ ?_); (focus first | omega | (simp; done) | (simp; omega) | ((repeat' (with_reducible refine And.intro ?_ ?_)) <;> first | omega | rfl | (simp only [go_sem, refsL_app, refs_dmap] <;> fail) | (simp [refsL_app, refs_dmap, AV.refsL, AV.refs] <;> omega)))) | (with_reducible refine hJ _ (fun K hK => ?_) ?_ <;> clear hJ KJ) | ((with_reducible refine ev_less ?_); (refine ⟨rfl, ?_, ?_⟩ <;> simp only [go_sem, St.clean, cleanO, SubS, SubO, beq_self_eq_true, ↓reduceIte, Nat.reduceEqDiff, Nat.reduceBEq, Nat.reduceAdd, Nat.reduceMul, Nat.reduceSub, Nat.reduceLT, Nat.reduceLeDiff])) | ((with_reducible first | apply hK | (clear hK K; first | apply hK | (clear hK K; apply hK))); clear hK K) | fail)
 all_goals first
  | exact absurd trivial (by assumption)
  | (simp (disch := omega) only [SubO, lookO, lookO_lo, Nat.reduceEqDiff, ↓reduceIte, subO_grid, hasG_cons, hasG_self, true_and, and_true] <;> fail)
  | (refine ress_tmp ?_ ?_ rfl; (focus exact lens_cur rfl rfl); (focus (simp (disch := omega) only [SubO, lookO, lookO_lo, Nat.reduceEqDiff, ↓reduceIte, subO_grid, hasG_cons, hasG_self, true_and, and_true] <;> fail)))

theorem lookO_kill_of {s t : Nat} {cs : List D} (hts : t ≠ s) : ∀ {ob : List (Nat × OB)}, lookO ob t = some (.ds cs) -> lookO (killO s ob) t = some (.ds cs)
 | [], h => by simp [lookO] at h
 | (k, x) :: r, h => by
  simp only [lookO] at h
  simp only [killO]
  by_cases e : k = t
  ·
   rw [if_pos e] at h
   have e2 : ¬ k = s := fun q => hts (by omega)
   rw [if_neg e2]
   cases x with
   | ds _ => simp only [lookO, if_pos e, OB.refs, Bool.false_eq_true, if_false]; exact h
   | av _ => simp at h
   | mp _ => simp at h
   | it _ _ _ => simp at h
   | dead => simp at h
  ·
   rw [if_neg e] at h
   split
   · exact lookO_kill_of hts h
   ·
    simp only [lookO, if_neg e]
    exact lookO_kill_of hts h

theorem lookO_del_of {b t : Nat} (htb : t ≠ b) : ∀ {ob : List (Nat × OB)}, lookO (delO ob b) t = lookO ob t
 | [] => rfl
 | (k, x) :: r => by
  simp only [delO]
  by_cases e : k = t
  ·
   have e2 : ¬ k = b := fun q => htb (by omega)
   rw [if_neg e2]
   simp only [lookO, if_pos e]
  ·
   split
   · simp only [lookO, if_neg e, lookO_del_of htb]
   · simp only [lookO, if_neg e, lookO_del_of htb]

theorem hasG_grow {B i t : Nat} {ob : List (Nat × OB)} {Y : List (List Int)} {z : List Int} (ht : t < B) (hi : i < Y.length) (h1 : lookO ob t = some (.ds (z.map D.int))) (h2 : ∀ j, j < Y.length -> j ≠ i -> lookO ob (j + B) = some (.ds ((Y.getD j []).map D.int))) : HasG (swO t (i + B) ob) B (Y.set i z) := by
 intro j hj
 rw [List.length_set] at hj
 rw [getD_set _ _ _ _ _ hi]
 by_cases e : i = j
 ·
  subst e
  rw [if_pos rfl]
  have := lookO_sw_of (m := t) (n := i + B) h1
  rwa [swp, if_pos rfl] at this
 ·
  rw [if_neg e]
  have := lookO_sw_of (m := t) (n := i + B) (h2 j hj (fun q => e q.symm))
  rwa [swp, if_neg (by omega), if_neg (by omega)] at this

theorem swL_mid {B t n m : Nat} {a b : List Nat} (ht : t < B) : AV.swL t (a.length + B) ((gridC B (a ++ n :: b)).take a.length ++ [.bs t 0 m 1] ++ (gridC B (a ++ n :: b)).drop (a.length + 1)) = gridC B (a ++ m :: b) := by
 have e0 : gridC B (a ++ n :: b) = gridC B a ++ (.bs (B + a.length) 0 n 1 :: gridC (B + a.length + 1) b) := by rw [gridC_app]; rfl
 have e9 : gridC B (a ++ m :: b) = gridC B a ++ (.bs (B + a.length) 0 m 1 :: gridC (B + a.length + 1) b) := by rw [gridC_app]; rfl
 have e1 : (gridC B (a ++ n :: b)).take a.length = gridC B a := by
  rw [e0, List.take_append_of_le_length (by simp), List.take_of_length_le (by simp)]
 have e2 : (gridC B (a ++ n :: b)).drop (a.length + 1) = gridC (B + a.length + 1) b := by
  rw [e0, List.drop_append, List.drop_of_length_le (by simp), gridC_len, List.nil_append, show a.length + 1 - a.length = 1 by omega]
  rfl
 rw [e1, e2, e9, List.append_assoc, swL_app, gridC_sw ht (by omega)]
 simp only [List.cons_append, List.nil_append, AV.swL, AV.sw]
 rw [gridC_sw0 (by omega) (by omega), swp, if_pos rfl, Nat.add_comm]

theorem lookO_skip {k t : Nat} {o : OB} {r : List (Nat × OB)} (h : ¬ k = t) : lookO ((k, o) :: r) t = lookO r t := by simp only [lookO, if_neg h]

def len21 : List Nat := [20, 20] ++ 21 :: List.replicate 21 20

theorem rowQ_grow : ∃ N, (∀ k, k < 100000 -> ¬ k = N /\ (N == k) = false) /\ (gridC 1000000000 len24).getD 2 .un = .bs N 0 20 1 /\ (∀ (Y : List (List Int)) (r : List (Nat × OB)), 2 < Y.length -> lookO (gridO 1000000000 Y r) N = some (.ds ((Y.getD 2 []).map D.int))) ∧
  (∀ (Y : List (List Int)) (z : List Int) (o1 o2 o3 : OB), 2 < Y.length -> HasG (swO 41 N ((41, .ds (z.map D.int)) :: (40, o1) :: (5000, o2) :: (14, o3) :: killO 41 (delO (gridO 1000000000 Y []) N))) 1000000000 (Y.set 2 z)) ∧
  AV.swL 41 N ((gridC 1000000000 len24).take 2 ++ [.bs 41 0 21 1] ++ (gridC 1000000000 len24).drop (2 + 1)) = gridC 1000000000 len21 := by
 refine ⟨2 + 1000000000, fun k hk => ⟨by omega, by rw [beq_eq_false_iff_ne]; omega⟩, ?_, fun _ _ h => lookO_row h, fun Y z o1 o2 o3 h => ?_, ?_⟩
 ·
  rw [gridC_at (by decide)]
  rfl
 ·
  refine hasG_grow (by omega) h (by simp only [lookO, if_true]) (fun j hj hne => ?_)
  rw [lookO_skip (by omega), lookO_skip (by omega), lookO_skip (by omega), lookO_skip (by omega)]
  refine lookO_kill_of (by omega) ?_
  rw [lookO_del_of (by omega)]
  exact lookO_row hj
 · exact swL_mid (a := [20, 20]) (n := 20) (m := 21) (b := List.replicate 21 20) (B := 1000000000) (t := 41) (by omega)

theorem anp_3 (bs : List Int) (c : CurV) (hb : okCod bs) (h0 : okCur 400000 c) (v3 : pickV bs 30 (pkS bs c).c = 3) : FnS Try.prog 58 [(5000, curO bs c)] [.bp 5000 0] ((5000, curO bs (pickC bs 30 (pkS bs c).c)) :: (14, .av (gridC 1000000000 len21)) :: gridO 1000000000 ((picZ (pkS bs c).h).set 2 ((picZ (pkS bs c).h).getD 2 [] ++ [1])) []) (.bs 14 0 24 1) := by
 have e1 := picture_14 bs c hb (okCur_mono h0 (by omega))
 have k1 := pkS_ok (bs := bs) hb h0
 have e2 := pick_at 5000 bs 30 (pkS bs c).c hb (okCur_mono k1 (by omega))
 rw [v3] at e2
 clear v3
 generalize pickC bs 30 (pkS bs c).c = c2 at *
 generalize pkS bs c = Z at *
 obtain ⟨c1, h⟩ := Z
 have okN := picZ_ok h
 generalize picZ h = Y at *
 have hY1 := okN.1
 have hY2 := okN.2 2 (by decide)
 have hlr : ((Y.getD 2 []).map D.int).length = 20 := by simpa using hY2
 have hlq : (List.map AV.d ((Y.getD 2 []).map D.int)).length = 20 := by rw [List.length_map]; exact hlr
 have htk : ((Y.getD 2 []).map D.int).take 20 = (Y.getD 2 []).map D.int := List.take_of_length_le (by omega)
 have h24 : (gridC 1000000000 len24).length = 24 := by simp
 obtain ⟨N, hfar, hat, hrow, hgr, hsw⟩ := rowQ_grow
 obtain ⟨f1, f2⟩ := hfar 40 (by decide)
 obtain ⟨f3, f4⟩ := hfar 14 (by decide)
 obtain ⟨f5, f6⟩ := hfar 5000 (by decide)
 obtain ⟨f7, f8⟩ := hfar 41 (by decide)
 have hyY : 2 < Y.length := by omega
 have hrow := fun r => hrow Y r hyY
 have hgr := fun z o1 o2 o3 => hgr Y z o1 o2 o3 hyY
 have hm1 : (Y.getD 2 []).map D.int ++ [.v (.int .i64 1)] = ((Y.getD 2 []) ++ [1]).map D.int := by rw [List.map_append]; rfl
 simp only [curO, codL] at e2
 refine fns_go Try.func58 rfl rfl Try.ntmps58 Try.results58 (by simp only [slotsA, Nat.reduceAdd]; rfl) (by simp) (by simp (disch := omega) only [geAll, geAll_grid]; rfl) ?_
 repeat' (first | (with_reducible first | refine aw_seq fun K hK => ?_ | refine aw_region (by kernel_rfl) ?_ | refine aw_condk ?_ | refine aw_block ?_) | ((with_reducible refine ev_aw ?_); first | (refine aw_drawJ (by kernel_rfl) (id := 4) _ _ (by kernel_rfl) (pl_AnP_58_4U _ (by kernel_rfl)) (fun KJ hJ => ?_)) | (refine aw_drawJ (by kernel_rfl) (id := 6) _ _ (by kernel_rfl) (pl_AnP_58_6U _ (by kernel_rfl)) (fun KJ hJ => ?_))) | (with_reducible first | refine ru_four ?_ ?_ ?_ ?_ | refine ru_three ?_ ?_ ?_ | refine ru_two ?_ ?_ | refine rv_split ?_ ?_ | refine rv_two ?_ ?_ | refine rp_two ?_ ?_) | ((with_reducible refine evg ?_); simp only [go_sem, St.clean, cleanO, ↓reduceIte, Nat.reduceEqDiff, Nat.reduceBEq, Nat.reduceAdd, Nat.reduceMul, Nat.reduceSub, Nat.reduceLT, Nat.reduceLeDiff]) | (simp (disch := omega) only [dsq, Int.reduceSub, Int.reduceAdd, Int.reduceToNat, wr, h24, hat, hrow, hlr, hlq, htk, map_set, f1, f2, f3, f4, f5, f6, f7, f8, ↓reduceIte, refsL_app', refs_dmap]) | ((with_reducible refine ev_call ?_); (first | (refine call_s e1 ?_ ?_ ?_ ?_ ?_; (focus rfl); (focus first | exact trivial | exact And.intro rfl trivial | exact ⟨rfl, rfl, trivial⟩ | (simp (disch := omega) only [SubO, lookO, subO_grid, hasG_nil, hasG_cons, hasG_self, hasG_lo, hasG_hi, lookO_lo, lookO_hi, true_and, and_true, Nat.reduceEqDiff, ↓reduceIte] <;> fail)); (focus (simp [newN, lookO, newN_all, ltAll, ltAll_grid, ltAll_grid0] <;> fail)); (focus (simp (disch := omega) only [dropO, killN, dropO_grid, killR_nil, killR_cons, killR_grid, killR_hi, killN_grid, apartO, Nat.reduceEqDiff, ↓reduceIte]; (first | (rw [apartO_hi ?_ ?_]; rotate_left; (focus omega); (focus (simp [AV.lo, AV.loL] <;> fail))) | (rw [apartO_lo ?_ ?_]; rotate_left; (focus (simp (disch := omega) [loO_ds, loO_av, loO_nil, loO_grid, loL_gridC, AV.lo, AV.loL] <;> fail)); (focus (simp [AV.lo, AV.loL] <;> fail))) | skip); (simp [-List.map_map, apartO, dropO, killN, obCells, refs_dmap, nofnsD, AV.refs, AV.refsL, AV.nofn, AV.nofns, all_grid, gridC_refs, gridC_refsR, gridC_nofns] <;> fail)))) | (refine call_s e2 ?_ ?_ ?_ ?_ ?_; (focus rfl); (focus (simp (disch := omega) only [SubO, lookO, subO_grid, hasG_nil, hasG_cons, hasG_self, hasG_lo, hasG_hi, lookO_lo, lookO_hi, true_and, and_true, Nat.reduceEqDiff, ↓reduceIte] <;> fail)); (focus (simp [newN, lookO, ltAll, newN_gridN, hasN_cons, hasN_grid, setG_len, lens_len] <;> fail)); (focus (simp (disch := omega) only [dropO, killN, dropO_grid, killR_nil, killR_cons, killR_grid, killR_hi, killN_grid, apartO, Nat.reduceEqDiff, ↓reduceIte]; (first | (rw [apartO_hi ?_ ?_]; rotate_left; (focus omega); (focus (simp [AV.lo, AV.loL] <;> fail))) | (rw [apartO_lo ?_ ?_]; rotate_left; (focus (simp (disch := omega) [loO_ds, loO_av, loO_nil, loO_grid, loL_gridC, AV.lo, AV.loL] <;> fail)); (focus (simp [AV.lo, AV.loL] <;> fail))) | skip); (simp [-List.map_map, apartO, dropO, killN, obCells, refs_dmap, nofnsD, AV.refs, AV.refsL, AV.nofn, AV.nofns, all_grid, gridC_refs, gridC_refsR, gridC_nofns] <;> fail))))); refine k_run ?_) | ((with_reducible refine ck_split (fun h => ?_) (fun h => ?_)) <;> (try simp only [nrm] at h) <;> (try ((with_reducible exfalso); omega))) | ((with_reducible refine And.intro ?_ ?_); (focus first | omega | (simp; done) | (simp; omega) | ((repeat' (with_reducible refine And.intro ?_ ?_)) <;> first | omega | rfl | (simp only [go_sem, refsL_app, refs_dmap] <;> fail) | (simp [refsL_app, refs_dmap, AV.refsL, AV.refs] <;> omega)))) | (with_reducible refine hJ _ (fun K hK => ?_) ?_ <;> clear hJ KJ) | ((with_reducible refine ev_less ?_); (refine ⟨rfl, ?_, ?_⟩ <;> simp only [go_sem, St.clean, cleanO, SubS, SubO, beq_self_eq_true, ↓reduceIte, Nat.reduceEqDiff, Nat.reduceBEq, Nat.reduceAdd, Nat.reduceMul, Nat.reduceSub, Nat.reduceLT, Nat.reduceLeDiff])) | ((with_reducible first | apply hK | (clear hK K; first | apply hK | (clear hK K; apply hK))); clear hK K) | fail)
 all_goals first | exact absurd trivial (by assumption) | skip
 rw [hm1]
 have g1 : ¬ N = 40 := fun e => f1 e.symm
 have g2 : ¬ N = 14 := fun e => f3 e.symm
 have g3 : ¬ N = 5000 := fun e => f5 e.symm
 refine ressF_step [(41, N)] (by simp) (lens_cur rfl rfl) (by simp [offSw, f5]) ?_ ?_
 ·
  simp only [swsO, SubO, subO_grid]
  refine ⟨?_, ?_, hgr _ _ _ _, trivial⟩
  · simp [swO, swp, lookO, OB.sw, AV.swL, AV.sw, f1, f3, f5, g1, g2, g3]
  ·
   simp only [swO, swp, lookO, OB.sw, f1, f3, f5, g1, g2, g3, if_true, if_false, Nat.reduceEqDiff]
   exact congrArg (fun x => some (OB.av x)) hsw
 · simp [resStep, look, swsA, joinR, AV.sw, swp, f3]

theorem len21_lens {Y : List (List Int)} (hY : ok20 Y) : lens (Y.set 2 (Y.getD 2 [] ++ [1])) = len21 := by
 have h2 := hY.2 2 (by decide)
 have e : lens Y = len24 := ok20_lens hY
 rw [lens, List.map_set, show List.map List.length Y = len24 from e, List.length_append, h2]
 decide

theorem anyPic_14 (bs : List Int) (c : CurV) (hb : okCod bs) (h0 : okCur 400000 c) : FnS Try.prog 58 [(5000, curO bs c)] [.bp 5000 0] ((5000, curO bs (apS bs c).c) :: (14, .av (gridC 1000000000 (lens (apS bs c).zs))) :: gridO 1000000000 (apS bs c).zs []) (.bs 14 (apS bs c).o (24 - (apS bs c).o) 1) := by
 have hP := picZ_lens (pkS bs c).h
 unfold apS apG
 by_cases v0 : pickV bs 30 (pkS bs c).c = 0
 ·
  rw [if_pos v0]
  simp only [lens_setG, hP]
  exact anp_0 bs c hb h0 v0
 ·
  rw [if_neg v0]
  by_cases v1 : pickV bs 30 (pkS bs c).c = 1
  ·
   rw [if_pos v1]
   simp only [lens_setG, hP]
   exact anp_1 bs c hb h0 v1
  ·
   rw [if_neg v1]
   by_cases v2 : pickV bs 30 (pkS bs c).c = 2
   ·
    rw [if_pos v2]
    simp only [hP]
    exact anp_2 bs c hb h0 v2
   ·
    rw [if_neg v2]
    by_cases v3 : pickV bs 30 (pkS bs c).c = 3
    ·
     rw [if_pos v3]
     simp only [len21_lens (picZ_ok (pkS bs c).h)]
     exact anp_3 bs c hb h0 v3
    ·
     rw [if_neg v3]
     simp only [hP]
     exact anp_e bs c hb h0 v0 v1 v2 v3

theorem apS_ok {bs : List Int} (hb : okCod bs) {n : Nat} {c : CurV} (h : okCur n c) : okCur (n + 40) (apS bs c).c /\ (apS bs c).zs.length = 24 /\ (apS bs c).o <= 1 /\ ∀ z ∈ (apS bs c).zs, z.length <= 21 := by
 have k1 := pkS_ok (bs := bs) hb h
 have q1 := okCur_pick (bs := bs) (n := 30) k1
 have q2 := okCur_pick (bs := bs) (n := 20) q1
 have q3 := okCur_pick (bs := bs) (n := 2) q2
 have q4 := okCur_pick (bs := bs) (n := 12) q1
 have q5 := okCur_pick (bs := bs) (n := 3) q4
 have hl := picZ_len (pkS bs c).h
 have hle : ∀ {Y : List (List Int)}, (∀ k ∈ lens Y, k <= 21) -> ∀ z ∈ Y, z.length <= 21 := fun h z hz => h _ (List.mem_map_of_mem hz)
 have h24 : ∀ k ∈ len24, k <= 21 := by decide
 have h21 : ∀ k ∈ len21, k <= 21 := by decide
 unfold apS apG
 split
 ·
  refine ⟨okCur_mono q3 (by omega), by rw [setG_len]; exact hl, Nat.zero_le 1, hle ?_⟩
  simp only [lens_setG, picZ_lens]
  exact h24
 ·
  split
  ·
   refine ⟨okCur_mono q5 (by omega), by rw [setG_len]; exact hl, Nat.zero_le 1, hle ?_⟩
   simp only [lens_setG, picZ_lens]
   exact h24
  ·
   split
   ·
    refine ⟨okCur_mono q1 (by omega), hl, Nat.le_refl 1, hle ?_⟩
    rw [picZ_lens]
    exact h24
   ·
    split
    ·
     refine ⟨okCur_mono q1 (by omega), by rw [List.length_set]; exact hl, Nat.zero_le 1, hle ?_⟩
     simp only [len21_lens (picZ_ok (pkS bs c).h)]
     exact h21
    ·
     refine ⟨okCur_mono q1 (by omega), hl, Nat.zero_le 1, hle ?_⟩
     rw [picZ_lens]
     exact h24

end Go.Proofs.Ytjbifidphckjoaa
