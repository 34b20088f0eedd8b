/- Draws of pictures with tinctures or fields. -/
import Derived.Test.YtjbifidphckjoaaAnP
import Derived.Test.YtjbifidphckjoaaCpD
import Derived.Test.YtjbifidphckjoaaPic5
import Derived.WalkKit
import Derived.WalkSpells
import Derived.KernelRfl
namespace Go.Proofs.Ytjbifidphckjoaa
open Go.RowKit
set_option maxRecDepth 100000
set_option maxHeartbeats 4000000
set_option linter.unusedVariables false
set_option linter.unusedSimpArgs false

attribute [local go_sem] intL gridD lookO_lo killO_grid delO_grid putO_lo gridO_app dropGe dropGe_grid cleanO_grid gridC_len gridC_refs gridQ_refs lens_len rowsD_len setG_len dropO_grid killR_nil killR_cons killR_grid killN_lo newN_gridN hasN_cons hasN_grid Nat.le_refl refs_dmap newN_all killSs_gridN killOs_gridN killSs_gridN0 killOs_gridN0 loS_nil loS_cons loL_nil loL_cons lo_bp lo_bs lo_ag lo_tu lo_fc lo_d lo_un loO_nil loO_ds loO_av loO_dead loO_grid loL_gridC loL_dmap picZ_len List.length_append len24_len curO codL newN_all1

attribute [local simp] ints_plain ints_all ints_all1 ints_plain_take refs_dmap curO codL newN_all1

attribute [local go_sem] zeroQ_cur FdS.a

theorem gridC_drop {B : Nat} : ∀ {ls : List Nat} {o : Nat}, (gridC B ls).drop o = gridC (B + o) (ls.drop o)
 | ls, 0 => rfl
 | [], o + 1 => by simp [gridC]
 | n :: r, o + 1 => by
  have := gridC_drop (B := B + 1) (ls := r) (o := o)
  simp only [gridC, List.drop_succ_cons, this]
  rw [show B + 1 + o = B + (o + 1) by omega]

theorem hasG_drop {ob : List (Nat × OB)} {B o : Nat} {zs : List (List Int)} (h : HasG ob B zs) : HasG ob (B + o) (zs.drop o) := fun i hi => by
 rw [List.length_drop] at hi
 have := h (o + i) (by omega)
 rw [show i + (B + o) = o + i + B by omega, this]
 simp [List.getD_eq_getElem?_getD, List.getElem?_drop]

theorem own_gridO {ob : List (Nat × OB)} {s B n m o : Nat} {zs : List (List Int)} (h1 : lookO ob s = some (.av (gridC B (lens zs)))) (h2 : HasG ob B zs) (hn : n = (zs.drop o).length) (hs : s < B) : ∃ p ss, own ob (m + 2) (.bs s o n 1) = some (p, .ls 1 n (rowsD (zs.drop o)), ss) /\ p /\ ss.Nodup := by
 subst hn
 obtain ⟨p, ss, e1, e2, e3, e4⟩ := ownL_grid m (hasG_drop (o := o) h2)
 have e5 : (lens zs).drop o = lens (zs.drop o) := by simp [lens]
 refine ⟨p, s :: ss, ?_, e2, List.nodup_cons.2 ⟨fun hb => by have := e4 s hb; omega, e3⟩⟩
 simp only [own, h1, Nat.mul_one, gridC_drop, e5]
 rw [List.take_of_length_le (by simp), e1]

theorem resAt_grid3 {σ : St} {s B n o : Nat} {zs : List (List Int)} {x y : D} (hx : x.plain) (hy : y.plain) (h1 : lookO σ.ob s = some (.av (gridC B (lens zs)))) (h2 : HasG σ.ob B zs) (hn : n = (zs.drop o).length) (hs : s < B) : ResAt σ (.tu [.bs s o n 1, .d x, .d y]) (.tu [.ls 1 n (rowsD (zs.drop o)), x, y]) := by
 obtain ⟨p, ss, e1, e2, e3⟩ := own_gridO (m := 17) (o := o) h1 h2 hn hs
 refine res_at (q := p /\ x.plain /\ y.plain /\ True) (ss := ss ++ ([] ++ ([] ++ []))) (d := .tu [.ls 1 n (rowsD (zs.drop o)), x, y]) ?_ ⟨e2, hx, hy, trivial⟩ (by simpa using e3) rfl
 have q : own σ.ob 19 (.d x) = some (x.plain, x, []) := rfl
 have q2 : own σ.ob 19 (.d y) = some (y.plain, y, []) := rfl
 have e9 : ownL (own σ.ob 19) [.bs s o n 1, .d x, .d y] = some (p /\ x.plain /\ y.plain /\ True, [.ls 1 n (rowsD (zs.drop o)), x, y], ss ++ ([] ++ ([] ++ []))) := by
  simp only [ownL, e1, q, q2]
 show own σ.ob (19 + 1) (.tu [.bs s o n 1, .d x, .d y]) = _
 simp only [own, e9]

theorem res_three_at {P : Program} {σ : St} {t u v : Nat} {res : D} (h : ResAt σ (.tu [look σ.sl t, look σ.sl u, look σ.sl v]) res) : ResOk P [.tmp t, .tmp u, .tmp v] σ res := by
 obtain ⟨q, ss, h1, h2, h3⟩ := h
 exact res_three h1 h2 h3 rfl

theorem swpZ {a b s : Nat} (h1 : ¬ s = a) (h2 : ¬ s = b) : swp a b s = s := by rw [swp, if_neg h1, if_neg h2]

theorem anyPic_at (s t : Nat) (bs : List Int) (c : CurV) (hb : okCod bs) (h0 : okCur 400000 c) (hs : s < 5000) (ht : t < 5000) (hst : ¬ s = t) (h14 : ¬ s = 14) : FnS Try.prog 58 [(s, curO bs c)] [.bp s 0] ((s, curO bs (apS bs c).c) :: (t, .av (gridC 1000000000 (lens (apS bs c).zs))) :: gridO 1000000000 (apS bs c).zs []) (.bs t (apS bs c).o (24 - (apS bs c).o) 1) := by
 have q := ((anyPic_14 bs c hb h0).sw 5000 s).sw 14 t
 have g1 : swp 5000 s 14 = 14 := swpZ (by decide) (fun e => h14 e.symm)
 have g2 : swp 14 t s = s := swpZ h14 hst
 have g3 : swp 14 t 14 = t := by rw [swp, if_pos rfl]
 simpa only [curO, swO, OB.sw, AV.sw, AV.swL, sw_self, g1, g2, g3, gridC_sw0 (show 5000 < 1000000000 by decide) (show s < 1000000000 by omega), swO_grid0 (show 5000 < 1000000000 by decide) (show s < 1000000000 by omega), gridC_sw0 (show 14 < 1000000000 by decide) (show t < 1000000000 by omega), swO_grid0 (show 14 < 1000000000 by decide) (show t < 1000000000 by omega)] using q

def swP (bs : List Int) : List (List Int) := (apS bs curQ).zs.drop (apS bs curQ).o

def swA (bs : List Int) : Int := atV bs (apS bs curQ).c

def swB (bs : List Int) : Int := atV bs (atC bs (apS bs curQ).c)

theorem swP_ok {bs : List Int} (hb : okCod bs) : (swP bs).length <= 24 /\ ∀ z ∈ swP bs, z.length <= 21 := by
 obtain ⟨_, h1, _, h3⟩ := apS_ok hb (curQ_ok 0)
 exact ⟨by rw [swP, List.length_drop]; omega, fun z hz => h3 z (List.mem_of_mem_drop hz)⟩

theorem drawSw_fn (bs : List Int) (hb : okCod bs) : FnD Try.prog 22 [codL bs] (.tu [gridD (swP bs), .int (swA bs), .int (swB bs)]) := by
 have e1 := anyPic_at 9 11 bs curQ hb (curQ_ok _) (by decide) (by decide) (by decide) (by decide)
 obtain ⟨k1, k2, k3, _⟩ := apS_ok hb (curQ_ok 0)
 have e2 := atinc_at 9 bs (apS bs curQ).c hb (okCur_mono k1 (by omega))
 have q1 := atC_ok (bs := bs) k1
 have e3 := atinc_at 9 bs (atC bs (apS bs curQ).c) hb (okCur_mono q1 (by omega))
 unfold swP swA swB
 generalize atV bs (atC bs (apS bs curQ).c) = vb at *
 generalize atC bs (atC bs (apS bs curQ).c) = c3 at *
 generalize atV bs (apS bs curQ).c = va at *
 generalize atC bs (apS bs curQ).c = c2 at *
 generalize apS bs curQ = Z at *
 obtain ⟨c1, zs, o⟩ := Z
 simp only at k2 k3
 have hlen : (zs.drop o).length = 24 - o := by rw [List.length_drop, k2]
 have hll : (lens zs).length = 24 := by rw [lens_len, k2]
 simp only [gridD, hlen]
 simp only [curQ] at e1
 simp only [curO, codL] at e2 e3
 refine fn_go Try.func22 rfl rfl Try.ntmps22 Try.results22 (by simp only [slo, Nat.reduceAdd]; rfl) (by simp) ?_
 repeat' (first | (with_reducible first | refine aw_seq fun K hK => ?_ | refine aw_region (by kernel_rfl) ?_) | ((with_reducible refine evg ?_); simp only [go_sem, ↓reduceIte, Nat.reduceEqDiff, Nat.reduceBEq, Nat.reduceAdd, Nat.reduceMul, Nat.reduceSub, Nat.reduceLT, Nat.reduceLeDiff]) | (simp (disch := omega) only [dsq, Int.reduceSub, Int.reduceAdd, Int.reduceToNat, wr, k2]) | ((with_reducible refine ev_call ?_); (first | (refine call_s e1 ?_ ?_ ?_ ?_ ?_; (focus rfl); (focus first | exact trivial | exact And.intro rfl trivial | exact ⟨rfl, rfl, trivial⟩ | (simp (disch := omega) only [SubO, lookO, subO_grid, hasG_nil, hasG_cons, hasG_self, hasG_lo, hasG_hi, lookO_lo, lookO_hi, true_and, and_true, Nat.reduceEqDiff, ↓reduceIte] <;> fail)); (focus (simp [newN, lookO, newN_all, ltAll, ltAll_grid, ltAll_grid0] <;> fail)); (focus (simp (disch := omega) only [dropO, killN, dropO_grid, killR_nil, killR_cons, killR_grid, killR_hi, killN_grid, apartO, Nat.reduceEqDiff, ↓reduceIte]; (first | (rw [apartO_hi ?_ ?_]; rotate_left; (focus omega); (focus (simp [AV.lo, AV.loL] <;> fail))) | (rw [apartO_lo ?_ ?_]; rotate_left; (focus (simp (disch := omega) [loO_ds, loO_av, loO_nil, loO_grid, loL_gridC, AV.lo, AV.loL] <;> fail)); (focus (simp [AV.lo, AV.loL] <;> fail))) | skip); (simp [-List.map_map, apartO, dropO, killN, obCells, refs_dmap, nofnsD, AV.refs, AV.refsL, AV.nofn, AV.nofns, all_grid, gridC_refs, gridC_refsR, gridC_nofns] <;> fail)))) | (refine call_s e2 ?_ ?_ ?_ ?_ ?_; (focus rfl); (focus (simp (disch := omega) only [SubO, lookO, subO_grid, hasG_nil, hasG_cons, hasG_self, hasG_lo, hasG_hi, lookO_lo, lookO_hi, true_and, and_true, Nat.reduceEqDiff, ↓reduceIte] <;> fail)); (focus (simp [newN, lookO, ltAll, newN_gridN, hasN_cons, hasN_grid, setG_len, lens_len] <;> fail)); (focus (simp (disch := omega) only [dropO, killN, dropO_grid, killR_nil, killR_cons, killR_grid, killR_hi, killN_grid, apartO, Nat.reduceEqDiff, ↓reduceIte]; (first | (rw [apartO_hi ?_ ?_]; rotate_left; (focus omega); (focus (simp [AV.lo, AV.loL] <;> fail))) | (rw [apartO_lo ?_ ?_]; rotate_left; (focus (simp (disch := omega) [loO_ds, loO_av, loO_nil, loO_grid, loL_gridC, AV.lo, AV.loL] <;> fail)); (focus (simp [AV.lo, AV.loL] <;> fail))) | skip); (simp [-List.map_map, apartO, dropO, killN, obCells, refs_dmap, nofnsD, AV.refs, AV.refsL, AV.nofn, AV.nofns, all_grid, gridC_refs, gridC_refsR, gridC_nofns] <;> fail)))) | (refine call_s e3 ?_ ?_ ?_ ?_ ?_; (focus rfl); (focus (simp (disch := omega) only [SubO, lookO, subO_grid, hasG_nil, hasG_cons, hasG_self, hasG_lo, hasG_hi, lookO_lo, lookO_hi, true_and, and_true, Nat.reduceEqDiff, ↓reduceIte] <;> fail)); (focus (simp [newN, lookO, ltAll, newN_gridN, hasN_cons, hasN_grid, setG_len, lens_len] <;> fail)); (focus (simp (disch := omega) only [dropO, killN, dropO_grid, killR_nil, killR_cons, killR_grid, killR_hi, killN_grid, apartO, Nat.reduceEqDiff, ↓reduceIte]; (first | (rw [apartO_hi ?_ ?_]; rotate_left; (focus omega); (focus (simp [AV.lo, AV.loL] <;> fail))) | (rw [apartO_lo ?_ ?_]; rotate_left; (focus (simp (disch := omega) [loO_ds, loO_av, loO_nil, loO_grid, loL_gridC, AV.lo, AV.loL] <;> fail)); (focus (simp [AV.lo, AV.loL] <;> fail))) | skip); (simp [-List.map_map, apartO, dropO, killN, obCells, refs_dmap, nofnsD, AV.refs, AV.refsL, AV.nofn, AV.nofns, all_grid, gridC_refs, gridC_refsR, gridC_nofns] <;> fail))))); refine k_run ?_) | ((with_reducible refine And.intro ?_ ?_); (focus first | omega | (simp; done) | (simp; omega) | ((repeat' (with_reducible refine And.intro ?_ ?_)) <;> first | omega | rfl | (simp only [go_sem, refsL_app, refs_dmap] <;> fail) | (simp [refsL_app, refs_dmap, AV.refsL, AV.refs] <;> omega)))) | ((with_reducible first | apply hK | (clear hK K; first | apply hK | (clear hK K; apply hK))); clear hK K) | fail)
 refine res_three_at ?_
 have hg := resAt_grid3 (σ := ⟨17, [], (9, curO bs c3) :: (11, .av (gridC 1000000000 (lens zs))) :: gridO 1000000000 zs []⟩) (s := 11) (o := o) (B := 1000000000) (zs := zs) (n := 24 - o) (x := .int va) (y := .int vb) trivial trivial rfl (by rw [hasG_cons (by decide), hasG_cons (by decide)]; exact of_eq_true hasG_self) hlen.symm (by decide)
 exact hg

def crR (bs : List Int) : RegS := rgS bs (cfF bs).c

def crK (bs : List Int) : Bool := okDiv (cfF bs).d (cfF bs).l (cfF bs).f (cfF bs).s && okReg (crR bs).z

def crP (bs : List Int) : List (List Int) :=
 if crK bs = true then
  if oneV bs 4 (crR bs).c = true then (apS bs (pickC bs 4 (crR bs).c)).zs.drop (apS bs (pickC bs 4 (crR bs).c)).o
  else picZ (ctrZ (cfF bs).d (cfF bs).l.toNat (cfF bs).f (cfF bs).s (crR bs).z)
 else (apS bs (crR bs).c).zs.drop (apS bs (crR bs).c).o

end Go.Proofs.Ytjbifidphckjoaa
