/- A drawn picture. -/
import Derived.Test.YtjbifidphckjoaaCtY
import Derived.Test.YtjbifidphckjoaaPic4
import Derived.Test.YtjbifidphckjoaaRgP
import Derived.Test.YtjbifidphckjoaaFldD
import Derived.WalkKit
import Derived.WalkSpells
import Derived.KernelRfl
namespace Go.Proofs.Ytjbifidphckjoaa
open Go.RowKit
set_option maxRecDepth 100000
set_option maxHeartbeats 4000000
set_option linter.unusedVariables false
set_option linter.unusedSimpArgs false

attribute [local go_sem] intL gridD lookO_lo killO_grid delO_grid putO_lo gridO_app dropGe dropGe_grid cleanO_grid gridC_len gridC_refs gridQ_refs lens_len rowsD_len setG_len dropO_grid killR_nil killR_cons killR_grid killN_lo newN_gridN hasN_cons hasN_grid Nat.le_refl refs_dmap newN_all killSs_gridN killOs_gridN killSs_gridN0 killOs_gridN0 loS_nil loS_cons loL_nil loL_cons lo_bp lo_bs lo_ag lo_tu lo_fc lo_d lo_un loO_nil loO_ds loO_av loO_dead loO_grid loL_gridC loL_dmap picZ_len List.length_append len24_len curO codL

attribute [local simp] ints_plain ints_all ints_all1 ints_plain_take refs_dmap curO codL

structure PkS where
 c : CurV
 h : Nat -> Nat -> Int

def pkOne (bs : List Int) (s : PkS) : PkS := ⟨pickC bs 9 (pickC bs 7 s.c), ptH s.h (regZ (odP (1 + pickV bs 7 s.c))) (tcV bs (pickC bs 7 s.c))⟩

def pkN (bs : List Int) : Nat -> PkS -> PkS
 | 0, s => s
 | n + 1, s => pkN bs n (pkOne bs s)

def pkS (bs : List Int) (c : CurV) : PkS :=
 pkN bs (pickV bs 4 (fdS bs c).c).toNat ⟨pickC bs 4 (fdS bs c).c, tinctZ (fdS bs c).d (fdS bs c).l.toNat (fdS bs c).f (fdS bs c).s⟩

theorem fdS_field {bs : List Int} (hb : okCod bs) {c : CurV} {n : Nat} (h : okCur n c) : okField (fdS bs c).d (fdS bs c).l (fdS bs c).f (fdS bs c).s = true := by
 have q1 := okCur_pick (bs := bs) (n := 9) h
 have q2 := okCur_pick (bs := bs) (n := 2) q1
 have q3 := okCur_pick (bs := bs) (n := 7) q2
 have q4 := okCur_pick (bs := bs) (n := 6) q3
 have p1 := pickV_le hb (n := 9) h.1
 have p2 := p1.2 (by decide)
 have p3 := pickV_le hb (n := 7) q2.1
 have p4 := p3.2 (by decide)
 have p5 := pickV_le hb (n := 8) q4.1
 have p6 := p5.2 (by decide)
 have p7 := pickV_le hb (n := 6) q3.1
 have p8 := p7.2 (by decide)
 have ht : 1 <= tcV bs c /\ tcV bs c <= 9 := by
  unfold tcV
  omega
 have hm : amV bs fd6 6 (pickC bs 7 (pickC bs 2 (pickC bs 9 c))) ∈ fd6 := getD_mem 0 (by simp [fd6]; omega)
 have hall : ∀ x ∈ fd6, 0 <= x /\ x <= 4 := by decide
 have hl := hall _ hm
 unfold fdS
 generalize amV bs fd6 6 (pickC bs 7 (pickC bs 2 (pickC bs 9 c))) = l at *
 generalize tcV bs c = t at *
 generalize pickV bs 8 (pickC bs 6 (pickC bs 7 (pickC bs 2 (pickC bs 9 c)))) = v8 at *
 generalize pickV bs 7 (pickC bs 2 (pickC bs 9 c)) = v7 at *
 split
 ·
  simp only [okField]
  rw [inR_iff.2 (by omega), inR_iff.2 (by omega), inR_iff.2 (by omega)]
  rfl
 ·
  simp only [okField]
  have hw : (t + v8).tmod 9 = (t + v8) % 9 := Int.tmod_eq_emod_of_nonneg (by omega)
  rw [hw, inR_iff.2 (by omega), inR_iff.2 (by omega), inR_iff.2 (by omega), if_neg (by omega), inR_iff.2 (by omega)]
  have : 1 + (t + v8) % 9 ≠ t := by omega
  simp [this]

theorem pict_opn (s : Nat) (h : Nat -> Nat -> Int) (hs : s < 1000000000) : Opn (.tu [.ls 1 24 (rowsD (picZ h)), .bool true]) (.tu [.bs s 0 24 1, .d (.bool true)]) ((s, .av (gridC 1000000000 len24)) :: gridO 1000000000 (picZ h) []) := by
 have q := opn_tu (opnL_cons (picZ_opn s h hs) (opnL_v (x := .bool true) opnL_nil) (by simp [apartN]))
 rwa [List.append_nil] at q

theorem regQ2_good (p : Int -> Int -> Bool) : okReg (regZ p) = true := by
 simp only [okReg, Bool.and_eq_true, decide_eq_true_eq, List.all_eq_true, List.mem_range]
 refine ⟨regZ_len p, fun y hy => ?_⟩
 rw [regZ_at hy, okRow, rowI, Bool.and_eq_true, decide_eq_true_eq, beq_iff_eq, Int.toNat_natCast]
 refine ⟨Int.natCast_nonneg _, ?_⟩
 apply Nat.eq_of_testBit_eq
 intro x
 simp only [Nat.testBit_and, rowN_bit, cellP, Bool.and_true]
 cases decide (x < 20) <;> cases inSh x y <;> cases p x y <;> rfl

theorem regZ_row (p : Int -> Int -> Bool) (y : Int) (h : inR y 0 23 = true) : 0 <= (regZ p).getD y.toNat 0 /\ (regZ p).getD y.toNat 0 < 9223372036854775808 := by
 have := inR_iff.1 h
 exact (regZ_ok p).2 y.toNat (by omega)

theorem rowQ_name {y : Nat} (hy : y < 24) : ∃ N, (gridC 1000000000 len24).getD y .un = .bs N 0 20 1 /\ (∀ (Y : List (List Int)) (r : List (Nat × OB)), y < Y.length -> lookO (gridO 1000000000 Y r) N = some (.ds ((Y.getD y []).map D.int))) ∧
  (∀ (Y : List (List Int)) (r : List (Nat × OB)) (z : List Int), y < Y.length -> putO (gridO 1000000000 Y r) N (.ds (z.map D.int)) = gridO 1000000000 (Y.set y z) r) := by
 refine ⟨y + 1000000000, ?_, fun _ _ h => lookO_row h, fun _ _ _ h => putO_row h⟩
 rw [gridC_at (by simpa using hy)]
 congr 1
 rw [len24, List.getD_eq_getElem?_getD, List.getElem?_replicate, if_pos hy]
 rfl

theorem lensO_row {ob : List (Nat × OB)} : ∀ {zs : List (List Int)} {B : Nat}, (∀ i, lookO ob (B + i) = none) -> lensO ob (gridO B zs [])
 | [], _, _ => trivial
 | z :: zs, B, h => by
  have h0 := h 0
  rw [Nat.add_zero] at h0
  refine ⟨?_, lensO_row (fun i => by rw [Nat.add_assoc]; exact h (1 + i))⟩
  rw [h0]
  trivial

theorem picture_14 (bs : List Int) (c : CurV) (hb : okCod bs) (h0 : okCur 500000 c) : FnS Try.prog 89 [(5000, curO bs c)] [.bp 5000 0] ((5000, curO bs (pkS bs c).c) :: (14, .av (gridC 1000000000 len24)) :: gridO 1000000000 (picZ (pkS bs c).h) []) (.bs 14 0 24 1) := by
 have e1 := field_at 5000 bs c hb (okCur_mono h0 (by omega))
 have h1 := fdS_ok (bs := bs) h0
 have hfd := fdS_field hb h0
 have e2 := specFPic_fn (fdS bs c).d (fdS bs c).l (fdS bs c).f (fdS bs c).s
 rw [fpicR, if_pos hfd] at e2
 simp only [gridD, picZ_len] at e2
 have o2 := pict_opn 14 (tinctZ (fdS bs c).d (fdS bs c).l.toNat (fdS bs c).f (fdS bs c).s) (by decide)
 have e3 := pick_at 5000 bs 4 (fdS bs c).c hb (okCur_mono h1 (by omega))
 have p1 := pickV_le hb (n := 4) h1.1
 have p2 := p1.2 (by decide)
 have q1 := okCur_pick (bs := bs) (n := 4) h1
 have hS : pkS bs c = pkN bs (pickV bs 4 (fdS bs c).c).toNat ⟨pickC bs 4 (fdS bs c).c, tinctZ (fdS bs c).d (fdS bs c).l.toNat (fdS bs c).f (fdS bs c).s⟩ := rfl
 generalize pkS bs c = S at *
 generalize tinctZ (fdS bs c).d (fdS bs c).l.toNat (fdS bs c).f (fdS bs c).s = h at *
 generalize pickV bs 4 (fdS bs c).c = n0 at *
 generalize pickC bs 4 (fdS bs c).c = c1 at *
 generalize fdS bs c = z at *
 obtain ⟨zc, zd, zl, zf, zs⟩ := z
 simp only [FdS.a] at e1 e2 e3 hS
 simp only [curO, codL] at e3
 obtain ⟨n, hn⟩ := Int.eq_ofNat_of_zero_le p1.1
 subst hn
 rw [Int.toNat_natCast] at hS
 clear hfd
 refine fns_go Try.func89 rfl rfl Try.ntmps89 Try.results89 (by simp only [slotsA, Nat.reduceAdd]; rfl) (by simp) (by simp (disch := omega) only [geAll, geAll_grid]; rfl) ?_
 repeat' (first | (with_reducible first | refine aw_seq fun K hK => ?_ | refine aw_region (by kernel_rfl) ?_ | refine aw_condk ?_ | refine aw_block ?_) | ((with_reducible refine evg ?_); simp only [go_sem, ↓reduceIte, Nat.reduceEqDiff, Nat.reduceBEq, Nat.reduceAdd, Nat.reduceMul, Nat.reduceSub, Nat.reduceLT, Nat.reduceLeDiff]) | (simp (disch := omega) only [dsq, Int.reduceSub, Int.reduceAdd, Int.reduceToNat]) | ((with_reducible refine ev_call ?_); (first | (refine call_s e1 ?_ ?_ ?_ ?_ ?_; (focus rfl); (focus first | exact trivial | exact And.intro rfl trivial | exact ⟨rfl, rfl, trivial⟩ | exact ⟨rfl, rfl, rfl, trivial⟩); (focus rfl); (focus (simp [-List.map_map, apartO, dropO, killN, obCells, refs_dmap, nofnsD, AV.refs, AV.refsL, AV.nofn, AV.nofns] <;> fail))) | (refine call_new e2 o2 ?_ ?_ ?_ ?_; (focus first | rfl | ((try simp only [List.nil_append, List.append_nil, List.cons_append]); (repeat' first | (with_reducible refine mapD_cons ?_ ?_) | exact mapD_nil | exact toD_d | (apply toD_grid <;> (simp (disch := omega) only [lookO, lookO_lo, lookO_hi, hasG_nil, hasG_cons, hasG_self, hasG_lo, hasG_hi, lens_len, Nat.reduceEqDiff, ↓reduceIte]; first | done | rfl)) | (apply toD_nums <;> (simp (disch := omega) only [lookO, lookO_lo, lookO_hi, hasG_nil, hasG_cons, hasG_self, hasG_lo, hasG_hi, lens_len, Nat.reduceEqDiff, ↓reduceIte]; first | done | rfl)) | (apply toD_reg <;> (simp (disch := omega) only [lookO, lookO_lo, lookO_hi, hasG_nil, hasG_cons, hasG_self, hasG_lo, hasG_hi, lens_len, Nat.reduceEqDiff, ↓reduceIte]; first | done | rfl)) | (refine toD_rows ?_ rfl <;> (simp (disch := omega) only [lookO, lookO_lo, lookO_hi, hasG_nil, hasG_cons, hasG_self, hasG_lo, hasG_hi, lens_len, Nat.reduceEqDiff, ↓reduceIte]; first | done | rfl))) <;> fail)); (focus (simp [newN, lookO, newN_all, ltAll, ltAll_grid, ltAll_grid0] <;> fail)); (focus (simp (disch := omega) only [dropO, killN, dropO_grid, killR_nil, killR_cons, killR_grid, killR_hi, killN_grid, apartO, Nat.reduceEqDiff, ↓reduceIte]; (first | (rw [apartO_hi ?_ ?_]; rotate_left; (focus omega); (focus (simp [AV.lo, AV.loL] <;> fail))) | (rw [apartO_lo ?_ ?_]; rotate_left; (focus (simp (disch := omega) [loO_ds, loO_av, loO_nil, loO_grid, loL_gridC, AV.lo, AV.loL] <;> fail)); (focus (simp [AV.lo, AV.loL] <;> fail))) | skip); (simp [-List.map_map, apartO, dropO, killN, obCells, refs_dmap, nofnsD, AV.refs, AV.refsL, AV.nofn, AV.nofns, all_grid, gridC_refs, gridC_refsR, gridC_nofns] <;> fail)))) | (refine call_s e3 ?_ ?_ ?_ ?_ ?_; (focus rfl); (focus (simp (disch := omega) only [SubO, lookO, subO_grid, hasG_nil, hasG_cons, hasG_self, hasG_lo, hasG_hi, lookO_lo, lookO_hi, true_and, and_true, Nat.reduceEqDiff, ↓reduceIte] <;> fail)); (focus (simp [newN, lookO, ltAll, newN_gridN, hasN_cons, hasN_grid, setG_len, lens_len] <;> fail)); (focus (simp (disch := omega) only [dropO, killN, dropO_grid, killR_nil, killR_cons, killR_grid, killR_hi, killN_grid, apartO, Nat.reduceEqDiff, ↓reduceIte]; (first | (rw [apartO_hi ?_ ?_]; rotate_left; (focus omega); (focus (simp [AV.lo, AV.loL] <;> fail))) | (rw [apartO_lo ?_ ?_]; rotate_left; (focus (simp (disch := omega) [loO_ds, loO_av, loO_nil, loO_grid, loL_gridC, AV.lo, AV.loL] <;> fail)); (focus (simp [AV.lo, AV.loL] <;> fail))) | skip); (simp [-List.map_map, apartO, dropO, killN, obCells, refs_dmap, nofnsD, AV.refs, AV.refsL, AV.nofn, AV.nofns, all_grid, gridC_refs, gridC_refsR, gridC_nofns] <;> fail))))); refine k_run ?_) | ((with_reducible refine ck_split (fun h => ?_) (fun h => ?_)) <;> (try simp only [nrm] at h) <;> (try ((with_reducible exfalso); omega))) | ((with_reducible refine And.intro ?_ ?_); (focus first | omega | (simp; done) | (simp; omega) | ((repeat' (with_reducible refine And.intro ?_ ?_)) <;> first | omega | rfl | (simp only [go_sem, refsL_app, refs_dmap] <;> fail) | (simp [refsL_app, refs_dmap, AV.refsL, AV.refs] <;> omega)))) | ((with_reducible first | apply hK | (clear hK K; first | apply hK | (clear hK K; apply hK))); clear hK K) | fail)
 refine aw_loopG [5, 6, 7, 8, 9, 10, 19, 20, 21, 22, 23, 24, 25, 26, 27, 28, 29, 30, 31, 32, 33, 34, 35, 36, 37, 38, 39, 40, 41, 42, 43, 44, 45, 46, 47, 48, 49, 50] [6, 25, 27, 31, 43, 5000] 1000000000 (fun s : Nat × PkS => [(5, .d (.int s.1))]) (fun s => (5000, curO bs s.2.c) :: gridO 1000000000 (picZ s.2.h) []) (fun s => pkN bs s.1 s.2 = S /\ s.1 <= 3 /\ okCur (600000 + 10 * (3 - s.1)) s.2.c) (fun s => s.1) (n, ⟨c1, h⟩) ⟨hS.symm, by simp only; omega, okCur_mono q1 (by simp only; omega)⟩ ?_ ?_
 ·
  (refine lessW_of [] ?_ ?_ <;> simp (disch := omega) only [okSw, decide_eq_true_eq, Bool.and_eq_true, Bool.or_eq_true, St.updG, St.asAv, avO, dropGe, dropGe_grid, subO_grid, gridO_nil, gridO_app, gridQ_put, take_zero, hasG_nil, hasG_snoc, hasG_cons, hasG_next, hasG_self, hasG_lo, hasG_hi, lookO_lo, lookO_hi, lookO_row, lookKN, swO_grid, swO_grid0, gridC_sw0, gridC_sw, lsq, lookO, List.elem, List.cons_append, List.nil_append, cond_true, cond_false, and_true, true_and, beq_self_eq_true, ↓reduceIte, Nat.reduceEqDiff, Nat.reduceBEq, Nat.reduceAdd, Nat.reduceMul, Nat.reduceSub, Nat.reduceLT, Nat.reduceLeDiff] <;> try simp)
  all_goals exact of_eq_true hasG_self
 ·
  rintro ⟨k, ⟨c, hh⟩⟩ ⟨g1, g2, g3⟩
  simp only at g1 g2 g3
  simp only [St.updG, St.asAv, avO, dropS, dropOs, dropGe, dropGe_grid, dropGe_keep, gridO_nil, List.elem, List.cons_append, List.nil_append, gridO_app, cond_true, cond_false, beq_self_eq_true, ↓reduceIte, Nat.reduceEqDiff, Nat.reduceBEq, Nat.reduceAdd, Nat.reduceMul, Nat.reduceSub, Nat.reduceLT, Nat.reduceLeDiff]
  cases k with
  | zero =>
   rw [pkN] at g1
   subst g1
   repeat' (first | (with_reducible first | refine aw_seq fun K hK => ?_ | refine aw_region (by kernel_rfl) ?_ | refine aw_condk ?_ | refine aw_block ?_) | ((with_reducible refine evg ?_); simp only [go_sem, ↓reduceIte, Nat.reduceEqDiff, Nat.reduceBEq, Nat.reduceAdd, Nat.reduceMul, Nat.reduceSub, Nat.reduceLT, Nat.reduceLeDiff]) | (simp (disch := omega) only [dsq, Int.reduceSub, Int.reduceAdd, Int.reduceToNat]) | ((with_reducible refine ck_split (fun h => ?_) (fun h => ?_)) <;> (try simp only [nrm] at h) <;> (try ((with_reducible exfalso); omega))) | ((with_reducible refine And.intro ?_ ?_); (focus first | omega | (simp; done) | (simp; omega) | ((repeat' (with_reducible refine And.intro ?_ ?_)) <;> first | omega | rfl | (simp only [go_sem, refsL_app, refs_dmap] <;> fail) | (simp [refsL_app, refs_dmap, AV.refsL, AV.refs] <;> omega)))) | ((with_reducible first | apply hK | (clear hK K; first | apply hK | (clear hK K; apply hK))); clear hK K) | fail)
   all_goals (try omega)
   refine ress_tmp ?_ ?_ rfl
   ·
    simp [lensO, lookO, obCells]
    refine lensO_row fun i => ?_
    have hne : ¬ 1000000000 + i = 5000 := by omega
    have hne2 : ¬ 5000 = 1000000000 + i := by omega
    simp [lookO, hne, hne2]
   · simp (disch := omega) only [SubO, lookO, lookO_lo, Nat.reduceEqDiff, ↓reduceIte, subO_grid, hasG_cons, hasG_self, true_and, and_true]
  | succ k =>
   rw [pkN] at g1
   have hO : pkOne bs ⟨c, hh⟩ = ⟨pickC bs 9 (pickC bs 7 c), ptH hh (regZ (odP (1 + pickV bs 7 c))) (tcV bs (pickC bs 7 c))⟩ := rfl
   rw [hO] at g1
   have u1 := pickV_le hb (n := 7) g3.1
   have u2 := u1.2 (by decide)
   have w1 := okCur_pick (bs := bs) (n := 7) g3
   have b1 := pick_at 5000 bs 7 c hb (okCur_mono g3 (by omega))
   have b2 := tinc_at 5000 bs (pickC bs 7 c) hb (okCur_mono w1 (by omega))
   have w2 := okCur_pick (bs := bs) (n := 9) w1
   generalize tcV bs (pickC bs 7 c) = t at *
   generalize pickC bs 9 (pickC bs 7 c) = c3 at *
   generalize pickV bs 7 c = v at *
   generalize pickC bs 7 c = c2 at *
   have e4 := ordCells_fn (1 + v) (by omega)
   have hreg := fun x y => l9Has_fn (regZ (odP (1 + v))) x y (regZ_len _) (fun hy => regZ_row _ y hy)
   simp only [intL, regZ_len] at hreg
   have hall := ptN_all (h := hh) (reg := regZ (odP (1 + v))) (t := t) (fun x y hx hy hq => hasZ_sh (regQ2_good _) hq)
   generalize regZ (odP (1 + v)) = reg at *
   simp only [curO, codL] at b1 b2
   repeat' (first | (with_reducible first | refine aw_seq fun K hK => ?_ | refine aw_region (by kernel_rfl) ?_ | refine aw_condk ?_ | refine aw_block ?_) | ((with_reducible refine evg ?_); simp only [go_sem, ↓reduceIte, Nat.reduceEqDiff, Nat.reduceBEq, Nat.reduceAdd, Nat.reduceMul, Nat.reduceSub, Nat.reduceLT, Nat.reduceLeDiff]) | (simp (disch := omega) only [dsq, Int.reduceSub, Int.reduceAdd, Int.reduceToNat]) | ((with_reducible refine ev_call ?_); (first | (refine call_s b1 ?_ ?_ ?_ ?_ ?_; (focus rfl); (focus (simp (disch := omega) only [SubO, lookO, subO_grid, hasG_nil, hasG_cons, hasG_self, hasG_lo, hasG_hi, lookO_lo, lookO_hi, true_and, and_true, Nat.reduceEqDiff, ↓reduceIte] <;> fail)); (focus (simp [newN, lookO, ltAll, newN_gridN, hasN_cons, hasN_grid, setG_len, lens_len] <;> fail)); (focus (simp (disch := omega) only [dropO, killN, dropO_grid, killR_nil, killR_cons, killR_grid, killR_hi, killN_grid, apartO, Nat.reduceEqDiff, ↓reduceIte]; (first | (rw [apartO_hi ?_ ?_]; rotate_left; (focus omega); (focus (simp [AV.lo, AV.loL] <;> fail))) | (rw [apartO_lo ?_ ?_]; rotate_left; (focus (simp (disch := omega) [loO_ds, loO_av, loO_nil, loO_grid, loL_gridC, AV.lo, AV.loL] <;> fail)); (focus (simp [AV.lo, AV.loL] <;> fail))) | skip); (simp [-List.map_map, apartO, dropO, killN, obCells, refs_dmap, nofnsD, AV.refs, AV.refsL, AV.nofn, AV.nofns, all_grid, gridC_refs, gridC_refsR, gridC_nofns] <;> fail)))) | (refine call_s b2 ?_ ?_ ?_ ?_ ?_; (focus rfl); (focus (simp (disch := omega) only [SubO, lookO, subO_grid, hasG_nil, hasG_cons, hasG_self, hasG_lo, hasG_hi, lookO_lo, lookO_hi, true_and, and_true, Nat.reduceEqDiff, ↓reduceIte] <;> fail)); (focus (simp [newN, lookO, ltAll, newN_gridN, hasN_cons, hasN_grid, setG_len, lens_len] <;> fail)); (focus (simp (disch := omega) only [dropO, killN, dropO_grid, killR_nil, killR_cons, killR_grid, killR_hi, killN_grid, apartO, Nat.reduceEqDiff, ↓reduceIte]; (first | (rw [apartO_hi ?_ ?_]; rotate_left; (focus omega); (focus (simp [AV.lo, AV.loL] <;> fail))) | (rw [apartO_lo ?_ ?_]; rotate_left; (focus (simp (disch := omega) [loO_ds, loO_av, loO_nil, loO_grid, loL_gridC, AV.lo, AV.loL] <;> fail)); (focus (simp [AV.lo, AV.loL] <;> fail))) | skip); (simp [-List.map_map, apartO, dropO, killN, obCells, refs_dmap, nofnsD, AV.refs, AV.refsL, AV.nofn, AV.nofns, all_grid, gridC_refs, gridC_refsR, gridC_nofns] <;> fail)))) | (refine call_fn e4 rfl ?_)); refine k_run ?_) | ((with_reducible refine ck_split (fun h => ?_) (fun h => ?_)) <;> (try simp only [nrm] at h) <;> (try ((with_reducible exfalso); omega))) | ((with_reducible refine And.intro ?_ ?_); (focus first | omega | (simp; done) | (simp; omega) | ((repeat' (with_reducible refine And.intro ?_ ?_)) <;> first | omega | rfl | (simp only [go_sem, refsL_app, refs_dmap] <;> fail) | (simp [refsL_app, refs_dmap, AV.refsL, AV.refs] <;> omega)))) | ((with_reducible first | apply hK | (clear hK K; first | apply hK | (clear hK K; apply hK))); clear hK K) | fail)
   refine aw_loopG [9, 10, 32, 33, 34, 35, 36, 37, 38, 39, 40, 41, 42, 43, 44, 45, 46, 47, 48, 49, 50] [43] 1000000000 (fun y : Nat => [(9, .d (.int y))]) (fun y => gridO 1000000000 (ptN reg t (picZ hh) (20 * y)) []) (fun y => y <= 24) (fun y => 24 - y) 0 (by omega) ?_ ?_
   ·
    (refine lessW_of [] ?_ ?_ <;> simp (disch := omega) only [okSw, decide_eq_true_eq, Bool.and_eq_true, Bool.or_eq_true, St.updG, St.asAv, avO, dropGe, dropGe_grid, subO_grid, gridO_nil, gridO_app, gridQ_put, take_zero, hasG_nil, hasG_snoc, hasG_cons, hasG_next, hasG_self, hasG_lo, hasG_hi, lookO_lo, lookO_hi, lookO_row, lookKN, swO_grid, swO_grid0, gridC_sw0, gridC_sw, lsq, lookO, List.elem, List.cons_append, List.nil_append, cond_true, cond_false, and_true, true_and, beq_self_eq_true, ↓reduceIte, Nat.reduceEqDiff, Nat.reduceBEq, Nat.reduceAdd, Nat.reduceMul, Nat.reduceSub, Nat.reduceLT, Nat.reduceLeDiff] <;> try simp)
    all_goals exact of_eq_true hasG_self
   ·
    rintro y y1
    simp only [St.updG, St.asAv, avO, dropS, dropOs, dropGe, dropGe_grid, dropGe_keep, gridO_nil, List.elem, List.cons_append, List.nil_append, gridO_app, cond_true, cond_false, beq_self_eq_true, ↓reduceIte, Nat.reduceEqDiff, Nat.reduceBEq, Nat.reduceAdd, Nat.reduceMul, Nat.reduceSub, Nat.reduceLT, Nat.reduceLeDiff]
    by_cases hy : y < 24
    ·
     repeat' (first | (with_reducible first | refine aw_seq fun K hK => ?_ | refine aw_region (by kernel_rfl) ?_ | refine aw_condk ?_ | refine aw_block ?_) | ((with_reducible refine evg ?_); simp only [go_sem, ↓reduceIte, Nat.reduceEqDiff, Nat.reduceBEq, Nat.reduceAdd, Nat.reduceMul, Nat.reduceSub, Nat.reduceLT, Nat.reduceLeDiff]) | (simp (disch := omega) only [dsq, Int.reduceSub, Int.reduceAdd, Int.reduceToNat]) | ((with_reducible refine ck_split (fun h => ?_) (fun h => ?_)) <;> (try simp only [nrm] at h) <;> (try ((with_reducible exfalso); omega))) | ((with_reducible refine And.intro ?_ ?_); (focus first | omega | (simp; done) | (simp; omega) | ((repeat' (with_reducible refine And.intro ?_ ?_)) <;> first | omega | rfl | (simp only [go_sem, refsL_app, refs_dmap] <;> fail) | (simp [refsL_app, refs_dmap, AV.refsL, AV.refs] <;> omega)))) | ((with_reducible first | apply hK | (clear hK K; first | apply hK | (clear hK K; apply hK))); clear hK K) | fail)
     refine aw_loopG [10, 36, 37, 38, 39, 40, 41, 42, 43, 44, 45, 46, 47, 48, 49, 50] [43] 1000000000 (fun x : Nat => [(10, .d (.int x))]) (fun x => gridO 1000000000 (ptN reg t (picZ hh) (20 * y + x)) []) (fun x => x <= 20) (fun x => 20 - x) 0 (by omega) ?_ ?_
     ·
      (refine lessW_of [] ?_ ?_ <;> simp (disch := omega) only [okSw, decide_eq_true_eq, Bool.and_eq_true, Bool.or_eq_true, St.updG, St.asAv, avO, dropGe, dropGe_grid, subO_grid, gridO_nil, gridO_app, gridQ_put, take_zero, hasG_nil, hasG_snoc, hasG_cons, hasG_next, hasG_self, hasG_lo, hasG_hi, lookO_lo, lookO_hi, lookO_row, lookKN, swO_grid, swO_grid0, gridC_sw0, gridC_sw, lsq, lookO, List.elem, List.cons_append, List.nil_append, cond_true, cond_false, and_true, true_and, beq_self_eq_true, ↓reduceIte, Nat.reduceEqDiff, Nat.reduceBEq, Nat.reduceAdd, Nat.reduceMul, Nat.reduceSub, Nat.reduceLT, Nat.reduceLeDiff] <;> try simp)
      all_goals exact of_eq_true hasG_self
     ·
      rintro x x1
      simp only [St.updG, St.asAv, avO, dropS, dropOs, dropGe, dropGe_grid, dropGe_keep, gridO_nil, List.elem, List.cons_append, List.nil_append, gridO_app, cond_true, cond_false, beq_self_eq_true, ↓reduceIte, Nat.reduceEqDiff, Nat.reduceBEq, Nat.reduceAdd, Nat.reduceMul, Nat.reduceSub, Nat.reduceLT, Nat.reduceLeDiff]
      have okN := ptN_ok (reg := reg) (t := t) (picZ_ok hh) (20 * y + x)
      by_cases hx : x < 20
      ·
       have e5 := hreg x y
       cases q : hasZ reg x y
       ·
        have hnx := ptN_no (zs := picZ hh) (t := t) hx q
        rw [q] at e5
        generalize ptN reg t (picZ hh) (20 * y + x) = Y at *
        repeat' (first | (with_reducible first | refine aw_seq fun K hK => ?_ | refine aw_region (by kernel_rfl) ?_ | refine aw_condk ?_ | refine aw_block ?_) | ((with_reducible refine evg ?_); simp only [go_sem, ↓reduceIte, Nat.reduceEqDiff, Nat.reduceBEq, Nat.reduceAdd, Nat.reduceMul, Nat.reduceSub, Nat.reduceLT, Nat.reduceLeDiff]) | (simp (disch := omega) only [dsq, Int.reduceSub, Int.reduceAdd, Int.reduceToNat]) | ((with_reducible refine ev_call ?_); (first | (refine call_fn e5 rfl ?_)); refine k_run ?_) | ((with_reducible refine ck_split (fun h => ?_) (fun h => ?_)) <;> (try simp only [nrm] at h) <;> (try ((with_reducible exfalso); omega))) | ((with_reducible refine And.intro ?_ ?_); (focus first | omega | (simp; done) | (simp; omega) | ((repeat' (with_reducible refine And.intro ?_ ?_)) <;> first | omega | rfl | (simp only [go_sem, refsL_app, refs_dmap] <;> fail) | (simp [refsL_app, refs_dmap, AV.refsL, AV.refs] <;> omega)))) | ((with_reducible first | apply hK | (clear hK K; first | apply hK | (clear hK K; apply hK))); clear hK K) | fail)
        refine ⟨x + 1, by omega, by omega, ?_⟩
        rw [show 20 * y + (x + 1) = 20 * y + x + 1 from rfl, hnx]
        (refine lessW_of [] ?_ ?_ <;> simp (disch := omega) only [okSw, decide_eq_true_eq, Bool.and_eq_true, Bool.or_eq_true, St.updG, St.asAv, avO, dropGe, dropGe_grid, subO_grid, gridO_nil, gridO_app, gridQ_put, take_zero, hasG_nil, hasG_snoc, hasG_cons, hasG_next, hasG_self, hasG_lo, hasG_hi, lookO_lo, lookO_hi, lookO_row, lookKN, swO_grid, swO_grid0, gridC_sw0, gridC_sw, lsq, lookO, List.elem, List.cons_append, List.nil_append, cond_true, cond_false, and_true, true_and, beq_self_eq_true, ↓reduceIte, Nat.reduceEqDiff, Nat.reduceBEq, Nat.reduceAdd, Nat.reduceMul, Nat.reduceSub, Nat.reduceLT, Nat.reduceLeDiff] <;> try simp)
        all_goals exact of_eq_true hasG_self
       ·
        have hnx := ptN_yes (zs := picZ hh) (t := t) hx q
        rw [q] at e5
        generalize ptN reg t (picZ hh) (20 * y + x) = Y at *
        have hY1 := okN.1
        have hY2 := okN.2 y hy
        have hlr : ((Y.getD y []).map D.int).length = 20 := by simpa using hY2
        have h24 : (gridC 1000000000 len24).length = 24 := by simp
        obtain ⟨N, hat, hrow, hput⟩ := rowQ_name hy
        have hyY : y < Y.length := by omega
        have hrow := fun r => hrow Y r hyY
        have hput := fun r z => hput Y r z hyY
        repeat' (first | (with_reducible first | refine aw_seq fun K hK => ?_ | refine aw_region (by kernel_rfl) ?_ | refine aw_condk ?_ | refine aw_block ?_) | ((with_reducible refine evg ?_); simp only [go_sem, ↓reduceIte, Nat.reduceEqDiff, Nat.reduceBEq, Nat.reduceAdd, Nat.reduceMul, Nat.reduceSub, Nat.reduceLT, Nat.reduceLeDiff]) | (simp (disch := omega) only [dsq, Int.reduceSub, Int.reduceAdd, Int.reduceToNat, wr, h24, hat, hrow, hput, hlr, map_set]) | ((with_reducible refine ev_call ?_); (first | (refine call_fn e5 rfl ?_)); refine k_run ?_) | ((with_reducible refine ck_split (fun h => ?_) (fun h => ?_)) <;> (try simp only [nrm] at h) <;> (try ((with_reducible exfalso); omega))) | ((with_reducible refine And.intro ?_ ?_); (focus first | omega | (simp; done) | (simp; omega) | ((repeat' (with_reducible refine And.intro ?_ ?_)) <;> first | omega | rfl | (simp only [go_sem, refsL_app, refs_dmap] <;> fail) | (simp [refsL_app, refs_dmap, AV.refsL, AV.refs] <;> omega)))) | ((with_reducible first | apply hK | (clear hK K; first | apply hK | (clear hK K; apply hK))); clear hK K) | fail)
        refine ⟨x + 1, by omega, by omega, ?_⟩
        rw [show 20 * y + (x + 1) = 20 * y + x + 1 from rfl, hnx]
        (refine lessW_of [] ?_ ?_ <;> simp (disch := omega) only [okSw, decide_eq_true_eq, Bool.and_eq_true, Bool.or_eq_true, St.updG, St.asAv, avO, dropGe, dropGe_grid, subO_grid, gridO_nil, gridO_app, gridQ_put, take_zero, hasG_nil, hasG_snoc, hasG_cons, hasG_next, hasG_self, hasG_lo, hasG_hi, lookO_lo, lookO_hi, lookO_row, lookKN, swO_grid, swO_grid0, gridC_sw0, gridC_sw, lsq, lookO, List.elem, List.cons_append, List.nil_append, cond_true, cond_false, and_true, true_and, beq_self_eq_true, ↓reduceIte, Nat.reduceEqDiff, Nat.reduceBEq, Nat.reduceAdd, Nat.reduceMul, Nat.reduceSub, Nat.reduceLT, Nat.reduceLeDiff] <;> try simp)
        all_goals exact of_eq_true hasG_self
      ·
       repeat' (first | (with_reducible first | refine aw_seq fun K hK => ?_ | refine aw_region (by kernel_rfl) ?_ | refine aw_condk ?_ | refine aw_block ?_) | ((with_reducible refine evg ?_); simp only [go_sem, ↓reduceIte, Nat.reduceEqDiff, Nat.reduceBEq, Nat.reduceAdd, Nat.reduceMul, Nat.reduceSub, Nat.reduceLT, Nat.reduceLeDiff]) | (simp (disch := omega) only [dsq, Int.reduceSub, Int.reduceAdd, Int.reduceToNat]) | ((with_reducible refine ck_split (fun h => ?_) (fun h => ?_)) <;> (try simp only [nrm] at h) <;> (try ((with_reducible exfalso); omega))) | ((with_reducible refine And.intro ?_ ?_); (focus first | omega | (simp; done) | (simp; omega) | ((repeat' (with_reducible refine And.intro ?_ ?_)) <;> first | omega | rfl | (simp only [go_sem, refsL_app, refs_dmap] <;> fail) | (simp [refsL_app, refs_dmap, AV.refsL, AV.refs] <;> omega)))) | ((with_reducible first | apply hK | (clear hK K; first | apply hK | (clear hK K; apply hK))); clear hK K) | fail)
       have e : x = 20 := by omega
       subst e
       refine ⟨y + 1, by omega, by omega, ?_⟩
       rw [show 20 * (y + 1) = 20 * y + 20 by omega]
       (refine lessW_of [] ?_ ?_ <;> simp (disch := omega) only [okSw, decide_eq_true_eq, Bool.and_eq_true, Bool.or_eq_true, St.updG, St.asAv, avO, dropGe, dropGe_grid, subO_grid, gridO_nil, gridO_app, gridQ_put, take_zero, hasG_nil, hasG_snoc, hasG_cons, hasG_next, hasG_self, hasG_lo, hasG_hi, lookO_lo, lookO_hi, lookO_row, lookKN, swO_grid, swO_grid0, gridC_sw0, gridC_sw, lsq, lookO, List.elem, List.cons_append, List.nil_append, cond_true, cond_false, and_true, true_and, beq_self_eq_true, ↓reduceIte, Nat.reduceEqDiff, Nat.reduceBEq, Nat.reduceAdd, Nat.reduceMul, Nat.reduceSub, Nat.reduceLT, Nat.reduceLeDiff] <;> try simp)
       all_goals exact of_eq_true hasG_self
    ·
     have e : y = 24 := by omega
     subst e
     rw [show 20 * 24 = 480 from rfl, hall]
     repeat' (first | (with_reducible first | refine aw_seq fun K hK => ?_ | refine aw_region (by kernel_rfl) ?_ | refine aw_condk ?_ | refine aw_block ?_) | ((with_reducible refine evg ?_); simp only [go_sem, ↓reduceIte, Nat.reduceEqDiff, Nat.reduceBEq, Nat.reduceAdd, Nat.reduceMul, Nat.reduceSub, Nat.reduceLT, Nat.reduceLeDiff]) | (simp (disch := omega) only [dsq, Int.reduceSub, Int.reduceAdd, Int.reduceToNat]) | ((with_reducible refine ck_split (fun h => ?_) (fun h => ?_)) <;> (try simp only [nrm] at h) <;> (try ((with_reducible exfalso); omega))) | ((with_reducible refine And.intro ?_ ?_); (focus first | omega | (simp; done) | (simp; omega) | ((repeat' (with_reducible refine And.intro ?_ ?_)) <;> first | omega | rfl | (simp only [go_sem, refsL_app, refs_dmap] <;> fail) | (simp [refsL_app, refs_dmap, AV.refsL, AV.refs] <;> omega)))) | ((with_reducible first | apply hK | (clear hK K; first | apply hK | (clear hK K; apply hK))); clear hK K) | fail)
     refine ⟨(k, ⟨c3, ptH hh reg t⟩), ⟨g1, by simp only; omega, okCur_mono w2 (by simp only; omega)⟩, by simp only; omega, ?_⟩
     (refine lessW_of [] ?_ ?_ <;> simp (disch := omega) only [okSw, decide_eq_true_eq, Bool.and_eq_true, Bool.or_eq_true, St.updG, St.asAv, avO, dropGe, dropGe_grid, subO_grid, gridO_nil, gridO_app, gridQ_put, take_zero, hasG_nil, hasG_snoc, hasG_cons, hasG_next, hasG_self, hasG_lo, hasG_hi, lookO_lo, lookO_hi, lookO_row, lookKN, swO_grid, swO_grid0, gridC_sw0, gridC_sw, lsq, lookO, List.elem, List.cons_append, List.nil_append, cond_true, cond_false, and_true, true_and, beq_self_eq_true, ↓reduceIte, Nat.reduceEqDiff, Nat.reduceBEq, Nat.reduceAdd, Nat.reduceMul, Nat.reduceSub, Nat.reduceLT, Nat.reduceLeDiff] <;> try simp)
     all_goals exact of_eq_true hasG_self

end Go.Proofs.Ytjbifidphckjoaa
