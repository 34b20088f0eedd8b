/- Draws of pictures with tinctures or fields. -/
import Derived.Test.YtjbifidphckjoaaAnP
import Derived.Test.YtjbifidphckjoaaCpD
import Derived.Test.YtjbifidphckjoaaPic5
import Derived.WalkKit
import Derived.WalkSpells
import Derived.KernelRfl
namespace Go.Proofs.Ytjbifidphckjoaa
open Go.RowKit
set_option maxRecDepth 100000
set_option maxHeartbeats 4000000
set_option linter.unusedVariables false
set_option linter.unusedSimpArgs false

attribute [local go_sem] intL gridD lookO_lo killO_grid delO_grid putO_lo gridO_app dropGe dropGe_grid cleanO_grid gridC_len gridC_refs gridQ_refs lens_len rowsD_len setG_len dropO_grid killR_nil killR_cons killR_grid killN_lo newN_gridN hasN_cons hasN_grid Nat.le_refl refs_dmap newN_all killSs_gridN killOs_gridN killSs_gridN0 killOs_gridN0 loS_nil loS_cons loL_nil loL_cons lo_bp lo_bs lo_ag lo_tu lo_fc lo_d lo_un loO_nil loO_ds loO_av loO_dead loO_grid loL_gridC loL_dmap picZ_len List.length_append len24_len curO codL newN_all1

attribute [local simp] ints_plain ints_all ints_all1 ints_plain_take refs_dmap curO codL newN_all1

attribute [local go_sem] zeroQ_cur FdS.a

theorem gridC_drop {B : Nat} : ∀ {ls : List Nat} {o : Nat}, (gridC B ls).drop o = gridC (B + o) (ls.drop o)
 | ls, 0 => rfl
 | [], o + 1 => by simp [gridC]
 | n :: r, o + 1 => by
  have := gridC_drop (B := B + 1) (ls := r) (o := o)
  simp only [gridC, List.drop_succ_cons, this]
  rw [show B + 1 + o = B + (o + 1) by omega]

theorem hasG_drop {ob : List (Nat × OB)} {B o : Nat} {zs : List (List Int)} (h : HasG ob B zs) : HasG ob (B + o) (zs.drop o) := fun i hi => by
 rw [List.length_drop] at hi
 have := h (o + i) (by omega)
 rw [show i + (B + o) = o + i + B by omega, this]
 simp [List.getD_eq_getElem?_getD, List.getElem?_drop]

theorem own_gridO {ob : List (Nat × OB)} {s B n m o : Nat} {zs : List (List Int)} (h1 : lookO ob s = some (.av (gridC B (lens zs)))) (h2 : HasG ob B zs) (hn : n = (zs.drop o).length) (hs : s < B) : ∃ p ss, own ob (m + 2) (.bs s o n 1) = some (p, .ls 1 n (rowsD (zs.drop o)), ss) /\ p /\ ss.Nodup := by
 subst hn
 obtain ⟨p, ss, e1, e2, e3, e4⟩ := ownL_grid m (hasG_drop (o := o) h2)
 have e5 : (lens zs).drop o = lens (zs.drop o) := by simp [lens]
 refine ⟨p, s :: ss, ?_, e2, List.nodup_cons.2 ⟨fun hb => by have := e4 s hb; omega, e3⟩⟩
 simp only [own, h1, Nat.mul_one, gridC_drop, e5]
 rw [List.take_of_length_le (by simp), e1]

theorem resAt_grid2 {σ : St} {s B n o : Nat} {zs : List (List Int)} {x : D} (hx : x.plain) (h1 : lookO σ.ob s = some (.av (gridC B (lens zs)))) (h2 : HasG σ.ob B zs) (hn : n = (zs.drop o).length) (hs : s < B) : ResAt σ (.tu [.bs s o n 1, .d x]) (.tu [.ls 1 n (rowsD (zs.drop o)), x]) := by
 obtain ⟨p, ss, e1, e2, e3⟩ := own_gridO (m := 17) (o := o) h1 h2 hn hs
 refine res_at (q := p /\ x.plain /\ True) (ss := ss ++ ([] ++ [])) (d := .tu [.ls 1 n (rowsD (zs.drop o)), x]) ?_ ⟨e2, hx, trivial⟩ (by simpa using e3) rfl
 have q : own σ.ob 19 (.d x) = some (x.plain, x, []) := rfl
 have e9 : ownL (own σ.ob 19) [.bs s o n 1, .d x] = some (p /\ x.plain /\ True, [.ls 1 n (rowsD (zs.drop o)), x], ss ++ ([] ++ [])) := by
  simp only [ownL, e1, q]
 show own σ.ob (19 + 1) (.tu [.bs s o n 1, .d x]) = _
 simp only [own, e9]

theorem swpZ {a b s : Nat} (h1 : ¬ s = a) (h2 : ¬ s = b) : swp a b s = s := by rw [swp, if_neg h1, if_neg h2]

theorem anyPic_at (s t : Nat) (bs : List Int) (c : CurV) (hb : okCod bs) (h0 : okCur 400000 c) (hs : s < 5000) (ht : t < 5000) (hst : ¬ s = t) (h14 : ¬ s = 14) : FnS Try.prog 58 [(s, curO bs c)] [.bp s 0] ((s, curO bs (apS bs c).c) :: (t, .av (gridC 1000000000 (lens (apS bs c).zs))) :: gridO 1000000000 (apS bs c).zs []) (.bs t (apS bs c).o (24 - (apS bs c).o) 1) := by
 have q := ((anyPic_14 bs c hb h0).sw 5000 s).sw 14 t
 have g1 : swp 5000 s 14 = 14 := swpZ (by decide) (fun e => h14 e.symm)
 have g2 : swp 14 t s = s := swpZ h14 hst
 have g3 : swp 14 t 14 = t := by rw [swp, if_pos rfl]
 simpa only [curO, swO, OB.sw, AV.sw, AV.swL, sw_self, g1, g2, g3, gridC_sw0 (show 5000 < 1000000000 by decide) (show s < 1000000000 by omega), swO_grid0 (show 5000 < 1000000000 by decide) (show s < 1000000000 by omega), gridC_sw0 (show 14 < 1000000000 by decide) (show t < 1000000000 by omega), swO_grid0 (show 14 < 1000000000 by decide) (show t < 1000000000 by omega)] using q

def swP (bs : List Int) : List (List Int) := (apS bs curQ).zs.drop (apS bs curQ).o

def swA (bs : List Int) : Int := atV bs (apS bs curQ).c

def swB (bs : List Int) : Int := atV bs (atC bs (apS bs curQ).c)

theorem region_as (s t : Nat) (bs : List Int) (c : CurV) (hb : okCod bs) (h0 : okCur 50000 c) (hs : s < 5000) (ht : t < 5000) (hst : ¬ s = t) : FnS Try.prog 56 [(s, curO bs c)] [.bp s 0] [(s, curO bs (rgS bs c).c), (t, .ds ((rgS bs c).z.map D.int))] (.ag [.bs t 0 24 1]) := by
 have q := (region_at t bs c hb h0 ht).sw 5000 s
 have g1 : swp 5000 s t = t := swpZ (by omega) (fun e => hst e.symm)
 simpa only [curO, swO, AV.swL, AV.sw, OB.sw, sw_self, g1] using q

def crR (bs : List Int) : RegS := rgS bs (cfF bs).c

def crK (bs : List Int) : Bool := okDiv (cfF bs).d (cfF bs).l (cfF bs).f (cfF bs).s && okReg (crR bs).z

def crP (bs : List Int) : List (List Int) :=
 if crK bs = true then
  if oneV bs 4 (crR bs).c = true then (apS bs (pickC bs 4 (crR bs).c)).zs.drop (apS bs (pickC bs 4 (crR bs).c)).o
  else picZ (ctrZ (cfF bs).d (cfF bs).l.toNat (cfF bs).f (cfF bs).s (crR bs).z)
 else (apS bs (crR bs).c).zs.drop (apS bs (crR bs).c).o

theorem crR_ok {bs : List Int} (hb : okCod bs) : okRS 64 (crR bs) := rgS_ok hb (cfF_ok bs)

theorem ap_ok {bs : List Int} (hb : okCod bs) {n : Nat} {c : CurV} (h : okCur n c) : ((apS bs c).zs.drop (apS bs c).o).length <= 24 /\ ∀ z ∈ (apS bs c).zs.drop (apS bs c).o, z.length <= 21 := by
 obtain ⟨_, h1, _, h3⟩ := apS_ok hb h
 exact ⟨by rw [List.length_drop]; omega, fun z hz => h3 z (List.mem_of_mem_drop hz)⟩

theorem crP_ok {bs : List Int} (hb : okCod bs) : (crP bs).length <= 24 /\ ∀ z ∈ crP bs, z.length <= 21 := by
 have h1 := (crR_ok hb).1
 unfold crP
 split
 ·
  split
  · exact ap_ok hb (okCur_pick (bs := bs) (n := 4) h1)
  ·
   refine ⟨by rw [picZ_len]; exact Nat.le_refl _, fun z hz => ?_⟩
   have h24 : ∀ k ∈ len24, k <= 21 := by decide
   rw [← picZ_lens (ctrZ (cfF bs).d (cfF bs).l.toNat (cfF bs).f (cfF bs).s (crR bs).z)] at h24
   exact h24 _ (List.mem_map_of_mem hz)
 · exact ap_ok hb h1

set_option maxRecDepth 100000 in
theorem pl_SwD_20_3U (l : List Oper) (h : l = opsOf Try.f20 3) : planUB l (.pure 1 (.two true 0 (.one false 2 (.one true 3 (.still 4 (.still 5 (.still 6 (.still 7 (.still 8 PU.fin))))))) false 2 (.one true 0 (.one true 3 (.still 4 (.still 5 (.still 6 (.still 7 (.still 8 PU.fin))))))))) [2] = true := by
 subst h
 kernel_rfl

set_option maxRecDepth 100000 in
theorem pl_SwD_20_5 (l : List Oper) (h : l = opsOf Try.f20 5) : planB l (.pure 0 (.pure 1 (.pure 2 PT.fin))) [3] = true := by
 subst h
 kernel_rfl

set_option maxRecDepth 100000 in
theorem pl_SwD_20_6U (l : List Oper) (h : l = opsOf Try.f20 6) : planUB l (.pure 0 (.two false 1 (.still 3 (.one true 2 (.one false 4 PU.fin))) true 2 (.one false 1 (.still 3 (.one false 4 PU.fin))))) [1, 4] = true := by
 subst h
 kernel_rfl

theorem drawCR_n (bs : List Int) (hb : okCod bs) (hk : crK bs = false) : FnD Try.prog 20 [codL bs] (.tu [gridD ((apS bs (crR bs).c).zs.drop (apS bs (crR bs).c).o), (cfF bs).dd]) := by
 have e1 := divided_at 10 bs curQ hb (curQ_ok _)
 have hF : dvS bs curQ = cfF bs := rfl
 rw [hF] at e1
 have h1 := cfF_ok bs
 have e2 := region_as 10 16 bs (cfF bs).c hb (okCur_mono h1 (by omega)) (by decide) (by decide) (by decide)
 have hR : rgS bs (cfF bs).c = crR bs := rfl
 rw [hR] at e2
 have hr := crR_ok hb
 obtain ⟨r1, r2, r3⟩ := hr
 have e3 := anyPic_at 10 29 bs (crR bs).c hb (okCur_mono r1 (by omega)) (by decide) (by decide) (by decide) (by decide)
 have e4 := specCtr_fn (cfF bs).d (cfF bs).l (cfF bs).f (cfF bs).s (crR bs).z (by omega)
 obtain ⟨k1, k2, k3, _⟩ := apS_ok hb r1
 rw [ctrR, ← crK, hk] at e4
 generalize apS bs (crR bs).c = Z at *
 generalize crR bs = R at *
 generalize cfF bs = z at *
 obtain ⟨fc, fd, fl, ff, fs⟩ := z
 obtain ⟨rc, rz⟩ := R
 obtain ⟨c1, zs, o⟩ := Z
 simp only [curQ, FdS.a, FdS.dd] at *
 have hlen : (zs.drop o).length = 24 - o := by rw [List.length_drop, k2]
 have hraw := ints_raw rz
 rw [r2] at hraw
 simp only [gridD, hlen]
 refine fn_go Try.func20 rfl rfl Try.ntmps20 Try.results20 (by simp only [slo, Nat.reduceAdd]; rfl) (by simp) ?_
 repeat' (first | (with_reducible first | refine aw_seq fun K hK => ?_ | refine aw_region (by kernel_rfl) ?_ | refine aw_condk ?_) | ((with_reducible refine ev_aw ?_); first | (refine aw_drawJ (by kernel_rfl) (id := 3) _ _ (by kernel_rfl) (pl_SwD_20_3U _ (by kernel_rfl)) (fun KJ hJ => ?_)) | (refine aw_draw (id := 5) (by kernel_rfl) _ _ (by kernel_rfl) (pl_SwD_20_5 _ (by kernel_rfl)) ?_) | (refine aw_drawJ (by kernel_rfl) (id := 6) _ _ (by kernel_rfl) (pl_SwD_20_6U _ (by kernel_rfl)) (fun KJ hJ => ?_))) | (with_reducible first | refine ru_four ?_ ?_ ?_ ?_ | refine ru_three ?_ ?_ ?_ | refine ru_two ?_ ?_ | refine rv_split ?_ ?_ | refine rv_two ?_ ?_ | refine rp_two ?_ ?_) | ((with_reducible refine evg ?_); simp only [go_sem, St.clean, cleanO, ↓reduceIte, Nat.reduceEqDiff, Nat.reduceBEq, Nat.reduceAdd, Nat.reduceMul, Nat.reduceSub, Nat.reduceLT, Nat.reduceLeDiff]) | (simp (disch := omega) only [dsq, Int.reduceSub, Int.reduceAdd, Int.reduceToNat, wr, k2]) | ((with_reducible refine ev_call ?_); (first | (refine call_s e1 ?_ ?_ ?_ ?_ ?_; (focus rfl); (focus first | exact trivial | exact And.intro rfl trivial | exact ⟨rfl, rfl, trivial⟩ | exact ⟨rfl, rfl, rfl, trivial⟩); (focus rfl); (focus (simp [-List.map_map, apartO, dropO, killN, obCells, refs_dmap, nofnsD, AV.refs, AV.refsL, AV.nofn, AV.nofns] <;> fail))) | (refine call_s e2 ?_ ?_ ?_ ?_ ?_; (focus rfl); (focus first | exact trivial | exact And.intro rfl trivial | exact ⟨rfl, rfl, trivial⟩ | exact ⟨rfl, rfl, rfl, trivial⟩); (focus rfl); (focus (simp [-List.map_map, apartO, dropO, killN, obCells, refs_dmap, nofnsD, AV.refs, AV.refsL, AV.nofn, AV.nofns] <;> fail))) | (refine call_fn2 e4 rfl ?_ ?_; (focus (simp only [hraw] <;> fail))) | (refine call_s e3 ?_ ?_ ?_ ?_ ?_; (focus rfl); (focus first | exact trivial | exact And.intro rfl trivial | exact ⟨rfl, rfl, trivial⟩ | (simp (disch := omega) only [SubO, lookO, subO_grid, hasG_nil, hasG_cons, hasG_self, hasG_lo, hasG_hi, lookO_lo, lookO_hi, true_and, and_true, Nat.reduceEqDiff, ↓reduceIte] <;> fail)); (focus (simp [newN, lookO, newN_all, ltAll, ltAll_grid, ltAll_grid0] <;> fail)); (focus (simp (disch := omega) only [dropO, killN, dropO_grid, killR_nil, killR_cons, killR_grid, killR_hi, killN_grid, apartO, Nat.reduceEqDiff, ↓reduceIte]; (first | (rw [apartO_hi ?_ ?_]; rotate_left; (focus omega); (focus (simp [AV.lo, AV.loL] <;> fail))) | (rw [apartO_lo ?_ ?_]; rotate_left; (focus (simp (disch := omega) [loO_ds, loO_av, loO_nil, loO_grid, loL_gridC, AV.lo, AV.loL] <;> fail)); (focus (simp [AV.lo, AV.loL] <;> fail))) | skip); (simp [-List.map_map, apartO, dropO, killN, obCells, refs_dmap, nofnsD, AV.refs, AV.refsL, AV.nofn, AV.nofns, all_grid, gridC_refs, gridC_refsR, gridC_nofns] <;> fail))))); refine k_run ?_) | ((with_reducible refine ev_guard ?_); (with_reducible first | refine guard_t ?_ ?_ rfl | refine guard_f ?_ ?_ rfl) <;> (intro h; (try simp only [h]); (try simp only [nrm] at h) <;> (try ((with_reducible exfalso); omega)))) | ((with_reducible refine ck_split (fun h => ?_) (fun h => ?_)) <;> (try simp only [nrm] at h) <;> (try ((with_reducible exfalso); omega))) | ((with_reducible refine And.intro ?_ ?_); (focus first | omega | (simp; done) | (simp; omega) | ((repeat' (with_reducible refine And.intro ?_ ?_)) <;> first | omega | rfl | (simp only [go_sem, refsL_app, refs_dmap] <;> fail) | (simp [refsL_app, refs_dmap, AV.refsL, AV.refs] <;> omega)))) | (with_reducible refine hJ _ (fun K hK => ?_) ?_ <;> clear hJ KJ) | ((with_reducible refine ev_less ?_); (refine ⟨rfl, ?_, ?_⟩ <;> simp only [go_sem, St.clean, cleanO, SubS, SubO, beq_self_eq_true, ↓reduceIte, Nat.reduceEqDiff, Nat.reduceBEq, Nat.reduceAdd, Nat.reduceMul, Nat.reduceSub, Nat.reduceLT, Nat.reduceLeDiff])) | ((with_reducible first | apply hK | (clear hK K; first | apply hK | (clear hK K; apply hK))); clear hK K) | fail)
 all_goals first
  | exact absurd trivial (by assumption)
  | (simp (disch := omega) only [SubO, lookO, lookO_lo, Nat.reduceEqDiff, ↓reduceIte, subO_grid, hasG_cons, hasG_self, true_and, and_true] <;> fail)
  | (refine resAt_grid2 (B := 1000000000) ?_ ?_ ?_ ?_ ?_; (focus (simp [D.plain, plains])); (focus rfl); (focus (simp (disch := omega) only [hasG_cons, hasG_self])); (focus exact hlen.symm); (focus decide))

theorem drawCR_a (bs : List Int) (hb : okCod bs) (hk : crK bs = true) (ho : oneV bs 4 (crR bs).c = true) : FnD Try.prog 20 [codL bs] (.tu [gridD ((apS bs (pickC bs 4 (crR bs).c)).zs.drop (apS bs (pickC bs 4 (crR bs).c)).o), (cfF bs).dd]) := by
 have e1 := divided_at 10 bs curQ hb (curQ_ok _)
 have hF : dvS bs curQ = cfF bs := rfl
 rw [hF] at e1
 have h1 := cfF_ok bs
 have e2 := region_as 10 16 bs (cfF bs).c hb (okCur_mono h1 (by omega)) (by decide) (by decide) (by decide)
 have hR : rgS bs (cfF bs).c = crR bs := rfl
 rw [hR] at e2
 have hr := crR_ok hb
 obtain ⟨r1, r2, r3⟩ := hr
 have e5 := one_at 10 bs 4 (crR bs).c hb (okCur_mono r1 (by omega))
 rw [ho] at e5
 have q1 := okCur_pick (bs := bs) (n := 4) r1
 have e3 := anyPic_at 10 29 bs (pickC bs 4 (crR bs).c) hb (okCur_mono q1 (by omega)) (by decide) (by decide) (by decide) (by decide)
 have e4 := specCtr_fn (cfF bs).d (cfF bs).l (cfF bs).f (cfF bs).s (crR bs).z (by omega)
 obtain ⟨k1, k2, k3, _⟩ := apS_ok hb q1
 rw [ctrR, ← crK, hk, if_pos rfl, gridD, picZ_len] at e4
 generalize apS bs (pickC bs 4 (crR bs).c) = Z at *
 generalize pickC bs 4 (crR bs).c = c2 at *
 generalize crR bs = R at *
 generalize cfF bs = z at *
 obtain ⟨fc, fd, fl, ff, fs⟩ := z
 obtain ⟨rc, rz⟩ := R
 obtain ⟨c1, zs, o⟩ := Z
 simp only [curQ, FdS.a, FdS.dd] at *
 have hlen : (zs.drop o).length = 24 - o := by rw [List.length_drop, k2]
 have hraw := ints_raw rz
 rw [r2] at hraw
 simp only [gridD, hlen]
 clear hF hR
 generalize rowsD (picZ (ctrZ fd fl.toNat ff fs rz)) = Z0 at *
 refine fn_go Try.func20 rfl rfl Try.ntmps20 Try.results20 (by simp only [slo, Nat.reduceAdd]; rfl) (by simp) ?_
 repeat' (first | (with_reducible first | refine aw_seq fun K hK => ?_ | refine aw_region (by kernel_rfl) ?_ | refine aw_condk ?_) | ((with_reducible refine ev_aw ?_); first | (refine aw_drawJ (by kernel_rfl) (id := 3) _ _ (by kernel_rfl) (pl_SwD_20_3U _ (by kernel_rfl)) (fun KJ hJ => ?_)) | (refine aw_draw (id := 5) (by kernel_rfl) _ _ (by kernel_rfl) (pl_SwD_20_5 _ (by kernel_rfl)) ?_) | (refine aw_drawJ (by kernel_rfl) (id := 6) _ _ (by kernel_rfl) (pl_SwD_20_6U _ (by kernel_rfl)) (fun KJ hJ => ?_))) | (with_reducible first | refine ru_four ?_ ?_ ?_ ?_ | refine ru_three ?_ ?_ ?_ | refine ru_two ?_ ?_ | refine rv_split ?_ ?_ | refine rv_two ?_ ?_ | refine rp_two ?_ ?_) | ((with_reducible refine evg ?_); simp only [go_sem, St.clean, cleanO, ↓reduceIte, Nat.reduceEqDiff, Nat.reduceBEq, Nat.reduceAdd, Nat.reduceMul, Nat.reduceSub, Nat.reduceLT, Nat.reduceLeDiff]) | (simp (disch := omega) only [dsq, Int.reduceSub, Int.reduceAdd, Int.reduceToNat, wr, k2]) | ((with_reducible refine ev_call ?_); (first | (refine call_s e1 ?_ ?_ ?_ ?_ ?_; (focus rfl); (focus first | exact trivial | exact And.intro rfl trivial | exact ⟨rfl, rfl, trivial⟩ | exact ⟨rfl, rfl, rfl, trivial⟩); (focus rfl); (focus (simp [-List.map_map, apartO, dropO, killN, obCells, refs_dmap, nofnsD, AV.refs, AV.refsL, AV.nofn, AV.nofns] <;> fail))) | (refine call_s e2 ?_ ?_ ?_ ?_ ?_; (focus rfl); (focus first | exact trivial | exact And.intro rfl trivial | exact ⟨rfl, rfl, trivial⟩ | exact ⟨rfl, rfl, rfl, trivial⟩); (focus rfl); (focus (simp [-List.map_map, apartO, dropO, killN, obCells, refs_dmap, nofnsD, AV.refs, AV.refsL, AV.nofn, AV.nofns] <;> fail))) | (refine call_fn2 e4 rfl ?_ ?_; (focus (simp only [hraw] <;> fail))) | (refine call_s e5 ?_ ?_ ?_ ?_ ?_; (focus rfl); (focus first | exact trivial | exact And.intro rfl trivial | exact ⟨rfl, rfl, trivial⟩ | exact ⟨rfl, rfl, rfl, trivial⟩); (focus rfl); (focus (simp [-List.map_map, apartO, dropO, killN, obCells, refs_dmap, nofnsD, AV.refs, AV.refsL, AV.nofn, AV.nofns] <;> fail))) | (refine call_s e3 ?_ ?_ ?_ ?_ ?_; (focus rfl); (focus first | exact trivial | exact And.intro rfl trivial | exact ⟨rfl, rfl, trivial⟩ | (simp (disch := omega) only [SubO, lookO, subO_grid, hasG_nil, hasG_cons, hasG_self, hasG_lo, hasG_hi, lookO_lo, lookO_hi, true_and, and_true, Nat.reduceEqDiff, ↓reduceIte] <;> fail)); (focus (simp [newN, lookO, newN_all, ltAll, ltAll_grid, ltAll_grid0] <;> fail)); (focus (simp (disch := omega) only [dropO, killN, dropO_grid, killR_nil, killR_cons, killR_grid, killR_hi, killN_grid, apartO, Nat.reduceEqDiff, ↓reduceIte]; (first | (rw [apartO_hi ?_ ?_]; rotate_left; (focus omega); (focus (simp [AV.lo, AV.loL] <;> fail))) | (rw [apartO_lo ?_ ?_]; rotate_left; (focus (simp (disch := omega) [loO_ds, loO_av, loO_nil, loO_grid, loL_gridC, AV.lo, AV.loL] <;> fail)); (focus (simp [AV.lo, AV.loL] <;> fail))) | skip); (simp [-List.map_map, apartO, dropO, killN, obCells, refs_dmap, nofnsD, AV.refs, AV.refsL, AV.nofn, AV.nofns, all_grid, gridC_refs, gridC_refsR, gridC_nofns] <;> fail))))); refine k_run ?_) | ((with_reducible refine ev_guard ?_); (with_reducible first | refine guard_t ?_ ?_ rfl | refine guard_f ?_ ?_ rfl) <;> (intro h; (try simp only [h]); (try simp only [nrm] at h) <;> (try ((with_reducible exfalso); omega)))) | ((with_reducible refine ck_split (fun h => ?_) (fun h => ?_)) <;> (try simp only [nrm] at h) <;> (try ((with_reducible exfalso); omega))) | ((with_reducible refine And.intro ?_ ?_); (focus first | omega | (simp; done) | (simp; omega) | ((repeat' (with_reducible refine And.intro ?_ ?_)) <;> first | omega | rfl | (simp only [go_sem, refsL_app, refs_dmap] <;> fail) | (simp [refsL_app, refs_dmap, AV.refsL, AV.refs] <;> omega)))) | (with_reducible refine hJ _ (fun K hK => ?_) ?_ <;> clear hJ KJ) | ((with_reducible refine ev_less ?_); (refine ⟨rfl, ?_, ?_⟩ <;> simp only [go_sem, St.clean, cleanO, SubS, SubO, beq_self_eq_true, ↓reduceIte, Nat.reduceEqDiff, Nat.reduceBEq, Nat.reduceAdd, Nat.reduceMul, Nat.reduceSub, Nat.reduceLT, Nat.reduceLeDiff])) | ((with_reducible first | apply hK | (clear hK K; first | apply hK | (clear hK K; apply hK))); clear hK K) | fail)
 all_goals first
  | exact absurd trivial (by assumption)
  | (simp (disch := omega) only [SubO, lookO, lookO_lo, Nat.reduceEqDiff, ↓reduceIte, subO_grid, hasG_cons, hasG_self, true_and, and_true] <;> fail)
  | (refine resAt_grid2 (B := 1000000000) ?_ ?_ ?_ ?_ ?_; (focus (simp [D.plain, plains])); (focus rfl); (focus (simp (disch := omega) only [hasG_cons, hasG_self])); (focus exact hlen.symm); (focus decide))

theorem drawCR_b (bs : List Int) (hb : okCod bs) (hk : crK bs = true) (ho : oneV bs 4 (crR bs).c = false) : FnD Try.prog 20 [codL bs] (.tu [gridD (picZ (ctrZ (cfF bs).d (cfF bs).l.toNat (cfF bs).f (cfF bs).s (crR bs).z)), (cfF bs).dd]) := by
 have e1 := divided_at 10 bs curQ hb (curQ_ok _)
 have hF : dvS bs curQ = cfF bs := rfl
 rw [hF] at e1
 have h1 := cfF_ok bs
 have e2 := region_as 10 16 bs (cfF bs).c hb (okCur_mono h1 (by omega)) (by decide) (by decide) (by decide)
 have hR : rgS bs (cfF bs).c = crR bs := rfl
 rw [hR] at e2
 have hr := crR_ok hb
 obtain ⟨r1, r2, r3⟩ := hr
 have e5 := one_at 10 bs 4 (crR bs).c hb (okCur_mono r1 (by omega))
 rw [ho] at e5
 simp only [curO, codL] at e5
 have e4 := specCtr_fn (cfF bs).d (cfF bs).l (cfF bs).f (cfF bs).s (crR bs).z (by omega)
 rw [ctrR, ← crK, hk, if_pos rfl, gridD, picZ_len] at e4
 have o4 := pict_opn 17 (ctrZ (cfF bs).d (cfF bs).l.toNat (cfF bs).f (cfF bs).s (crR bs).z) (by decide)
 rw [← ints_raw, r2] at e4
 generalize crR bs = R at *
 generalize cfF bs = z at *
 obtain ⟨fc, fd, fl, ff, fs⟩ := z
 obtain ⟨rc, rz⟩ := R
 simp only [curQ, FdS.a, FdS.dd] at *
 have hraw := ints_raw rz
 rw [r2] at hraw
 rw [gridD, picZ_len]
 refine fn_go Try.func20 rfl rfl Try.ntmps20 Try.results20 (by simp only [slo, Nat.reduceAdd]; rfl) (by simp) ?_
 repeat' (first | (with_reducible first | refine aw_seq fun K hK => ?_ | refine aw_region (by kernel_rfl) ?_ | refine aw_condk ?_) | ((with_reducible refine ev_aw ?_); first | (refine aw_drawJ (by kernel_rfl) (id := 3) _ _ (by kernel_rfl) (pl_SwD_20_3U _ (by kernel_rfl)) (fun KJ hJ => ?_)) | (refine aw_draw (id := 5) (by kernel_rfl) _ _ (by kernel_rfl) (pl_SwD_20_5 _ (by kernel_rfl)) ?_) | (refine aw_drawJ (by kernel_rfl) (id := 6) _ _ (by kernel_rfl) (pl_SwD_20_6U _ (by kernel_rfl)) (fun KJ hJ => ?_))) | (with_reducible first | refine ru_four ?_ ?_ ?_ ?_ | refine ru_three ?_ ?_ ?_ | refine ru_two ?_ ?_ | refine rv_split ?_ ?_ | refine rv_two ?_ ?_ | refine rp_two ?_ ?_) | ((with_reducible refine evg ?_); simp only [go_sem, St.clean, cleanO, ↓reduceIte, Nat.reduceEqDiff, Nat.reduceBEq, Nat.reduceAdd, Nat.reduceMul, Nat.reduceSub, Nat.reduceLT, Nat.reduceLeDiff]) | (simp (disch := omega) only [dsq, Int.reduceSub, Int.reduceAdd, Int.reduceToNat, wr, picZ_len]) | ((with_reducible refine ev_call ?_); (first | (refine call_s e1 ?_ ?_ ?_ ?_ ?_; (focus rfl); (focus first | exact trivial | exact And.intro rfl trivial | exact ⟨rfl, rfl, trivial⟩ | exact ⟨rfl, rfl, rfl, trivial⟩); (focus rfl); (focus (simp [-List.map_map, apartO, dropO, killN, obCells, refs_dmap, nofnsD, AV.refs, AV.refsL, AV.nofn, AV.nofns] <;> fail))) | (refine call_s e2 ?_ ?_ ?_ ?_ ?_; (focus rfl); (focus first | exact trivial | exact And.intro rfl trivial | exact ⟨rfl, rfl, trivial⟩ | exact ⟨rfl, rfl, rfl, trivial⟩); (focus rfl); (focus (simp [-List.map_map, apartO, dropO, killN, obCells, refs_dmap, nofnsD, AV.refs, AV.refsL, AV.nofn, AV.nofns] <;> fail))) | (refine call_new e4 o4 ?_ ?_ ?_ ?_; (focus first | rfl | ((try simp only [List.nil_append, List.append_nil, List.cons_append]); (repeat' first | (with_reducible refine mapD_cons ?_ ?_) | exact mapD_nil | exact toD_d | (apply toD_grid <;> (simp (disch := omega) only [lookO, lookO_lo, lookO_hi, hasG_nil, hasG_cons, hasG_self, hasG_lo, hasG_hi, lens_len, Nat.reduceEqDiff, ↓reduceIte]; first | done | rfl)) | (apply toD_nums <;> (simp (disch := omega) only [lookO, lookO_lo, lookO_hi, hasG_nil, hasG_cons, hasG_self, hasG_lo, hasG_hi, lens_len, Nat.reduceEqDiff, ↓reduceIte]; first | done | rfl)) | (apply toD_reg <;> (simp (disch := omega) only [lookO, lookO_lo, lookO_hi, hasG_nil, hasG_cons, hasG_self, hasG_lo, hasG_hi, lens_len, Nat.reduceEqDiff, ↓reduceIte]; first | done | rfl)) | (refine toD_rows ?_ rfl <;> (simp (disch := omega) only [lookO, lookO_lo, lookO_hi, hasG_nil, hasG_cons, hasG_self, hasG_lo, hasG_hi, lens_len, Nat.reduceEqDiff, ↓reduceIte]; first | done | rfl))) <;> fail)); (focus (simp [newN, lookO, newN_all, ltAll, ltAll_grid, ltAll_grid0] <;> fail)); (focus (simp (disch := omega) only [dropO, killN, dropO_grid, killR_nil, killR_cons, killR_grid, killR_hi, killN_grid, apartO, Nat.reduceEqDiff, ↓reduceIte]; (first | (rw [apartO_hi ?_ ?_]; rotate_left; (focus omega); (focus (simp [AV.lo, AV.loL] <;> fail))) | (rw [apartO_lo ?_ ?_]; rotate_left; (focus (simp (disch := omega) [loO_ds, loO_av, loO_nil, loO_grid, loL_gridC, AV.lo, AV.loL] <;> fail)); (focus (simp [AV.lo, AV.loL] <;> fail))) | skip); (simp [-List.map_map, apartO, dropO, killN, obCells, refs_dmap, nofnsD, AV.refs, AV.refsL, AV.nofn, AV.nofns, all_grid, gridC_refs, gridC_refsR, gridC_nofns] <;> fail)))) | (refine call_s e5 ?_ ?_ ?_ ?_ ?_; (focus rfl); (focus (simp (disch := omega) only [SubO, lookO, subO_grid, hasG_nil, hasG_cons, hasG_self, hasG_lo, hasG_hi, lookO_lo, lookO_hi, true_and, and_true, Nat.reduceEqDiff, ↓reduceIte] <;> fail)); (focus (simp [newN, lookO, ltAll, newN_gridN, hasN_cons, hasN_grid, setG_len, lens_len] <;> fail)); (focus (simp (disch := omega) only [dropO, killN, dropO_grid, killR_nil, killR_cons, killR_grid, killR_hi, killN_grid, apartO, Nat.reduceEqDiff, ↓reduceIte]; (first | (rw [apartO_hi ?_ ?_]; rotate_left; (focus omega); (focus (simp [AV.lo, AV.loL] <;> fail))) | (rw [apartO_lo ?_ ?_]; rotate_left; (focus (simp (disch := omega) [loO_ds, loO_av, loO_nil, loO_grid, loL_gridC, AV.lo, AV.loL] <;> fail)); (focus (simp [AV.lo, AV.loL] <;> fail))) | skip); (simp [-List.map_map, apartO, dropO, killN, obCells, refs_dmap, nofnsD, AV.refs, AV.refsL, AV.nofn, AV.nofns, all_grid, gridC_refs, gridC_refsR, gridC_nofns] <;> fail))))); refine k_run ?_) | ((with_reducible refine ev_guard ?_); (with_reducible first | refine guard_t ?_ ?_ rfl | refine guard_f ?_ ?_ rfl) <;> (intro h; (try simp only [h]); (try simp only [nrm] at h) <;> (try ((with_reducible exfalso); omega)))) | ((with_reducible refine ck_split (fun h => ?_) (fun h => ?_)) <;> (try simp only [nrm] at h) <;> (try ((with_reducible exfalso); omega))) | ((with_reducible refine And.intro ?_ ?_); (focus first | omega | (simp; done) | (simp; omega) | ((repeat' (with_reducible refine And.intro ?_ ?_)) <;> first | omega | rfl | (simp only [go_sem, refsL_app, refs_dmap] <;> fail) | (simp [refsL_app, refs_dmap, AV.refsL, AV.refs] <;> omega)))) | (with_reducible refine hJ _ (fun K hK => ?_) ?_ <;> clear hJ KJ) | ((with_reducible refine ev_less ?_); (refine ⟨rfl, ?_, ?_⟩ <;> simp only [go_sem, St.clean, cleanO, SubS, SubO, beq_self_eq_true, ↓reduceIte, Nat.reduceEqDiff, Nat.reduceBEq, Nat.reduceAdd, Nat.reduceMul, Nat.reduceSub, Nat.reduceLT, Nat.reduceLeDiff])) | ((with_reducible first | apply hK | (clear hK K; first | apply hK | (clear hK K; apply hK))); clear hK K) | fail)
 all_goals first
  | exact absurd trivial (by assumption)
  | (simp (disch := omega) only [SubO, lookO, lookO_lo, Nat.reduceEqDiff, ↓reduceIte, subO_grid, hasG_cons, hasG_self, true_and, and_true] <;> fail)
  | (refine resAt_grid2 (B := 1000000000) (zs := picZ (ctrZ fd fl.toNat ff fs rz)) (o := 0) ?_ ?_ ?_ ?_ ?_; (focus (simp [D.plain, plains])); (focus (rw [picZ_lens]; rfl)); (focus (simp (disch := omega) only [hasG_cons, hasG_self])); (focus exact (by rw [List.drop_zero, picZ_len])); (focus decide))

theorem drawCR_fn (bs : List Int) (hb : okCod bs) : FnD Try.prog 20 [codL bs] (.tu [gridD (crP bs), (cfF bs).dd]) := by
 unfold crP
 cases hk : crK bs
 ·
  rw [if_neg (by simp)]
  exact drawCR_n bs hb hk
 ·
  rw [if_pos rfl]
  cases ho : oneV bs 4 (crR bs).c
  ·
   rw [if_neg (by simp)]
   exact drawCR_b bs hb hk ho
  ·
   rw [if_pos rfl]
   exact drawCR_a bs hb hk ho

end Go.Proofs.Ytjbifidphckjoaa
