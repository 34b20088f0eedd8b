/- Pictures that are drawn cell by cell: what comes out. -/
import Derived.Test.YtjbifidphckjoaaGrid3
import Derived.WalkKit
import Derived.WalkSpells
import Derived.KernelRfl
namespace Go.Proofs.Ytjbifidphckjoaa
open Go.RowKit
set_option maxRecDepth 100000
set_option maxHeartbeats 4000000
set_option linter.unusedVariables false
set_option linter.unusedSimpArgs false

attribute [local go_sem] intL gridD lookO_lo killO_grid delO_grid putO_lo gridO_app dropGe dropGe_grid cleanO_grid gridC_len gridC_refs gridQ_refs lens_len rowsD_len setG_len dropO_grid killR_nil killR_cons killR_grid killN_lo newN_gridN hasN_cons hasN_grid Nat.le_refl refs_dmap newN_all killSs_gridN killOs_gridN killSs_gridN0 killOs_gridN0 loS_nil loS_cons loL_nil loL_cons lo_bp lo_bs lo_ag lo_tu lo_fc lo_d lo_un loO_nil loO_ds loO_av loO_dead loO_grid loL_gridC loL_dmap

attribute [local simp] ints_plain ints_all ints_all1 ints_plain_take refs_dmap pairs_plain pairs_all

theorem getD_set {α : Type} (l : List α) (i j : Nat) (v d : α) (h : i < l.length) : (l.set i v).getD j d = if i = j then v else l.getD j d := by
 simp only [List.getD_eq_getElem?_getD, List.getElem?_set]
 by_cases e : i = j
 ·
  subst e
  simp [h]
 · simp [e]

theorem setG_get {zs : List (List Int)} (hz : ok20 zs) {x y x' y' : Nat} {v : Int} (hx : x < 20) (hy : y < 24) : ((setG zs x y v).getD y' []).getD x' 0 = if x = x' /\ y = y' then v else (zs.getD y' []).getD x' 0 := by
 rw [setG, getD_set _ _ _ _ _ (by rw [hz.1]; exact hy)]
 by_cases e : y = y'
 ·
  subst e
  rw [if_pos rfl, getD_set _ _ _ _ _ (by rw [hz.2 y hy]; exact hx)]
  simp
 · rw [if_neg e, if_neg (fun q => e q.2)]

theorem ext20 {a b : List (List Int)} (ha : ok20 a) (hb : ok20 b) (h : ∀ x y, x < 20 -> y < 24 -> (a.getD y []).getD x 0 = (b.getD y []).getD x 0) : a = b := by
 apply List.ext_getElem (by rw [ha.1, hb.1])
 intro y h1 h2
 have hy : y < 24 := by rw [ha.1] at h1; exact h1
 have e1 : a.getD y [] = a[y] := by simp [List.getD_eq_getElem?_getD, h1]
 have e2 : b.getD y [] = b[y] := by simp [List.getD_eq_getElem?_getD, h2]
 have l1 := ha.2 y hy
 have l2 := hb.2 y hy
 rw [e1] at l1
 rw [e2] at l2
 apply List.ext_getElem (by rw [l1, l2])
 intro x g1 g2
 have := h x y (by rw [l1] at g1; exact g1) hy
 rw [e1, e2] at this
 simpa [List.getD_eq_getElem?_getD, g1, g2] using this

def picZ (h : Nat -> Nat -> Int) : List (List Int) := tab (fun y => tab (fun x => if inSh (x : Nat) (y : Nat) then h x y else 0) 20) 24

theorem picZ_ok (h : Nat -> Nat -> Int) : ok20 (picZ h) := ⟨tab_len _ _, fun y hy => by rw [picZ, tab_at [] hy, tab_len]⟩

theorem picZ_at {h : Nat -> Nat -> Int} {x y : Nat} (hx : x < 20) (hy : y < 24) : ((picZ h).getD y []).getD x 0 = if inSh (x : Nat) (y : Nat) then h x y else 0 := by
 rw [picZ, tab_at [] hy, tab_at 0 hx]

theorem picZ_congr {h k : Nat -> Nat -> Int} (hk : ∀ x y, x < 20 -> y < 24 -> inSh (x : Nat) (y : Nat) = true -> h x y = k x y) : picZ h = picZ k := ext20 (picZ_ok h) (picZ_ok k) (fun x y hx hy => by
 rw [picZ_at hx hy, picZ_at hx hy]
 split
 ·
  rename_i e
  exact hk x y hx hy e
 · rfl)

theorem picN_at {h : Nat -> Nat -> Int} {C : List Nat} {zs : List (List Int)} (hz : ok20 zs) (hC : ∀ c ∈ C, c < 480) {x y : Nat} (hx : x < 20) (hy : y < 24) : ∀ i, i <= C.length -> ((picN h C zs i).getD y []).getD x 0 = if 20 * y + x ∈ C.take i then h x y else (zs.getD y []).getD x 0
 | 0, _ => by simp [picN]
 | i + 1, hi => by
  have hc := hC _ (getD_mem 0 (show i < C.length by omega))
  rw [picN, setG_get (picN_ok hz i) (by omega) (by omega), picN_at hz hC hx hy i (by omega), take_next 0 (by omega)]
  by_cases e : C.getD i 0 = 20 * y + x
  ·
   rw [e, if_pos (by omega), if_pos (by simp)]
   rw [show (20 * y + x) % 20 = x by omega, show (20 * y + x) / 20 = y by omega]
  ·
   rw [if_neg (by omega)]
   have : (20 * y + x ∈ C.take i ++ [C.getD i 0]) ↔ (20 * y + x ∈ C.take i) := by
    simp only [List.mem_append, List.mem_singleton]
    constructor
    ·
     rintro (q | q)
     · exact q
     · exact absurd q.symm e
    · exact .inl
   simp only [this]

theorem grid0_ok : ok20 grid0 := ⟨List.length_replicate, fun y hy => by
 rw [grid0, List.getD_eq_getElem?_getD, List.getElem?_replicate, if_pos hy]
 exact List.length_replicate⟩

theorem grid0_at {x y : Nat} : (grid0.getD y []).getD x 0 = 0 := by
 simp only [grid0, row0, List.getD_eq_getElem?_getD, List.getElem?_replicate]
 split
 ·
  simp only [Option.getD_some, List.getElem?_replicate]
  split <;> rfl
 · rfl

theorem picN_all (h : Nat -> Nat -> Int) : picN h (cellsN shZ 480) grid0 (cellsN shZ 480).length = picZ h := by
 refine ext20 (picN_ok grid0_ok _) (picZ_ok h) (fun x y hx hy => ?_)
 rw [picN_at grid0_ok (fun c hc => (cellsN_mem hc).1) hx hy _ (Nat.le_refl _), picZ_at hx hy, List.take_length, grid0_at]
 have : (20 * y + x ∈ cellsN shZ 480) ↔ inSh (x : Nat) (y : Nat) = true := by
  simp only [cellsN, List.mem_filter, List.mem_range]
  rw [show (20 * y + x) % 20 = x by omega, show (20 * y + x) / 20 = y by omega, shZ_has hx hy]
  constructor
  · exact fun q => q.2
  · exact fun q => ⟨by omega, q⟩
 simp only [this]

theorem grid0_opn : Opn (gridD grid0) (.bs 4 0 24 1) ((4, .av (gridC 1000000000 len24)) :: gridO 1000000000 grid0 []) := opn_grid 4 1000000000 grid0 (by decide)

@[simp] theorem picZ_len (h : Nat -> Nat -> Int) : (picZ h).length = 24 := (picZ_ok h).1

@[simp] theorem grid0_len : grid0.length = 24 := grid0_ok.1

attribute [local go_sem] picZ_len grid0_len

theorem each_s (g : FuncId) (fs cs : List D) (h : Nat -> Nat -> Int) (hf : ∀ x y : Nat, x < 20 -> y < 24 -> inSh x y = true -> FnD Try.prog g (fs ++ [.int x, .int y] ++ cs) (.int (h x y))) : FnS Try.prog 76 ((5, .ds (shZ.map D.int)) :: (4, .av (gridC 1000000000 len24)) :: (1, .av [.fc g (fs.map AV.d) (cs.map AV.d)]) :: (3, .av [.bs 4 0 24 1]) :: gridO 1000000000 grid0 []) [.ag [.bs 5 0 24 1], .fc 77 [] [.bp 1 0, .bp 3 0]] ((5, .ds (shZ.map D.int)) :: (4, .av (gridC 1000000000 len24)) :: (1, .av [.fc g (fs.map AV.d) (cs.map AV.d)]) :: (3, .av [.bs 4 0 24 1]) :: gridO 1000000000 (picZ h) []) (.tu []) := by
 have q := ((((each_hi g fs cs grid0 h grid0_ok hf).pm (rng 10000 1000000000 2000000)).sw 5003 5).sw 5001 1).sw 5002 3
 rw [picN_all] at q
 have q := q.sw 5000 4
 have l1 : grid0.length <= 2000000 := by rw [grid0_ok.1]; decide
 have l2 : (picZ h).length <= 2000000 := by rw [(picZ_ok h).1]; decide
 have l3 : len24.length <= 2000000 := by rw [len24_len]; decide
 have f1 : ∀ l : List D, AV.pmL (rng 10000 1000000000 2000000) (l.map AV.d) = l.map AV.d := fun l => pmL_d l
 have f2 : ∀ (a b : Nat) (l : List D), AV.swL a b (l.map AV.d) = l.map AV.d := fun a b l => swL_d l
 simpa only [outO, pmO, OB.pm, pmL_grid1 l3, pmO_grid1 l1, pmO_grid1 l2, AV.pmL, AV.pm, f1, f2, rng1_lo (show 5000 < 10000 by decide), rng1_lo (show 5001 < 10000 by decide), rng1_lo (show 5002 < 10000 by decide), rng1_lo (show 5003 < 10000 by decide), swO, OB.sw, AV.sw, AV.swL, swp, Nat.reduceEqDiff, ↓reduceIte, gridC_sw0 (show 5003 < 1000000000 by decide) (show 5 < 1000000000 by decide), gridC_sw0 (show 5001 < 1000000000 by decide) (show 1 < 1000000000 by decide), gridC_sw0 (show 5002 < 1000000000 by decide) (show 3 < 1000000000 by decide), gridC_sw0 (show 5000 < 1000000000 by decide) (show 4 < 1000000000 by decide), swO_grid0 (show 5003 < 1000000000 by decide) (show 5 < 1000000000 by decide), swO_grid0 (show 5001 < 1000000000 by decide) (show 1 < 1000000000 by decide), swO_grid0 (show 5002 < 1000000000 by decide) (show 3 < 1000000000 by decide), swO_grid0 (show 5000 < 1000000000 by decide) (show 4 < 1000000000 by decide)] using q

theorem pictured_4 (g : FuncId) (fs cs : List D) (h : Nat -> Nat -> Int) (hf : ∀ x y : Nat, x < 20 -> y < 24 -> inSh x y = true -> FnD Try.prog g (fs ++ [.int x, .int y] ++ cs) (.int (h x y))) : FnS Try.prog 36 [] [.fc g (fs.map AV.d) (cs.map AV.d)] ((4, .av (gridC 1000000000 len24)) :: gridO 1000000000 (picZ h) []) (.bs 4 0 24 1) := by
 have e1 := each_s g fs cs h hf
 have l1 : grid0.length = 24 := grid0_ok.1
 have l2 := (picZ_ok h).1
 have e2 : FnD Try.prog 13 [] (.ag [.ls 1 24 (shZ.map D.int)]) := shieldRegion_fn
 refine fns_go Try.func36 rfl rfl Try.ntmps36 Try.results36 (by simp only [slotsA, Nat.reduceAdd]; rfl) (by simp) rfl ?_
 repeat' (first | (with_reducible first | refine aw_seq fun K hK => ?_ | refine aw_region (by kernel_rfl) ?_) | ((with_reducible refine evg ?_); simp only [go_sem, ↓reduceIte, Nat.reduceEqDiff, Nat.reduceBEq, Nat.reduceAdd, Nat.reduceMul, Nat.reduceSub, Nat.reduceLT, Nat.reduceLeDiff]) | (simp (disch := omega) only [dsq, Int.reduceSub, Int.reduceAdd, Int.reduceToNat]) | ((with_reducible refine ev_call ?_); (first | (refine call_new grid_fn grid0_opn ?_ ?_ ?_ ?_; (focus first | rfl | ((try simp only [List.nil_append, List.append_nil, List.cons_append]); (repeat' first | (with_reducible refine mapD_cons ?_ ?_) | exact mapD_nil | exact toD_d | (apply toD_grid <;> (simp (disch := omega) only [lookO, lookO_lo, lookO_hi, hasG_nil, hasG_cons, hasG_self, hasG_lo, hasG_hi, lens_len, Nat.reduceEqDiff, ↓reduceIte]; first | done | rfl)) | (apply toD_nums <;> (simp (disch := omega) only [lookO, lookO_lo, lookO_hi, hasG_nil, hasG_cons, hasG_self, hasG_lo, hasG_hi, lens_len, Nat.reduceEqDiff, ↓reduceIte]; first | done | rfl)) | (apply toD_reg <;> (simp (disch := omega) only [lookO, lookO_lo, lookO_hi, hasG_nil, hasG_cons, hasG_self, hasG_lo, hasG_hi, lens_len, Nat.reduceEqDiff, ↓reduceIte]; first | done | rfl)) | (refine toD_rows ?_ rfl <;> (simp (disch := omega) only [lookO, lookO_lo, lookO_hi, hasG_nil, hasG_cons, hasG_self, hasG_lo, hasG_hi, lens_len, Nat.reduceEqDiff, ↓reduceIte]; first | done | rfl))) <;> fail)); (focus (simp [newN, lookO, newN_all, ltAll, ltAll_grid, ltAll_grid0] <;> fail)); (focus (simp (disch := omega) only [dropO, killN, dropO_grid, killR_nil, killR_cons, killR_grid, killR_hi, killN_grid, apartO, Nat.reduceEqDiff, ↓reduceIte]; (first | (rw [apartO_hi ?_ ?_]; rotate_left; (focus omega); (focus (simp [AV.lo, AV.loL] <;> fail))) | (rw [apartO_lo ?_ ?_]; rotate_left; (focus (simp (disch := omega) [loO_ds, loO_av, loO_nil, loO_grid, loL_gridC, AV.lo, AV.loL] <;> fail)); (focus (simp [AV.lo, AV.loL] <;> fail))) | skip); (simp [-List.map_map, apartO, dropO, killN, obCells, refs_dmap, nofnsD, AV.refs, AV.refsL, AV.nofn, AV.nofns, all_grid, gridC_refs, gridC_refsR, gridC_nofns] <;> fail)))) | (refine call_fn e2 rfl ?_) | (refine call_s e1 ?_ ?_ ?_ ?_ ?_; (focus rfl); (focus (simp (disch := omega) only [SubO, lookO, subO_grid, hasG_nil, hasG_cons, hasG_self, hasG_lo, hasG_hi, lookO_lo, lookO_hi, true_and, and_true, Nat.reduceEqDiff, ↓reduceIte] <;> fail)); (focus (simp [newN, lookO, ltAll, newN_gridN, hasN_cons, hasN_grid, setG_len, lens_len] <;> fail)); (focus (simp [-List.map_map, apartO, dropO, killN, obCells, refs_dmap, nofnsD, AV.refs, AV.refsL, AV.nofn, AV.nofns, all_grid, dropO_grid, killR_nil, killR_cons, killR_grid, killN_lo, gridC_refs, gridC_nofns] <;> fail)))); refine k_run ?_) | ((with_reducible refine And.intro ?_ ?_); (focus first | omega | (simp; done) | (simp; omega) | ((repeat' (with_reducible refine And.intro ?_ ?_)) <;> first | omega | rfl | (simp only [go_sem, refsL_app, refs_dmap] <;> fail) | (simp [refsL_app, refs_dmap, AV.refsL, AV.refs] <;> omega)))) | ((with_reducible first | apply hK | (clear hK K; first | apply hK | (clear hK K; apply hK))); clear hK K) | fail)
 refine ress_tmp (lensO_nil _) ?_ rfl
 simp only [SubO, lookO, Nat.reduceEqDiff, ↓reduceIte, subO_grid]
 refine ⟨trivial, ?_, trivial⟩
 rw [hasG_cons (by decide), hasG_cons (by decide), hasG_cons (by decide), hasG_cons (by decide)]
 exact of_eq_true hasG_self

theorem pictured_s (s : Nat) (g : FuncId) (fs cs : List D) (h : Nat -> Nat -> Int) (hs : s < 1000000000) (hf : ∀ x y : Nat, x < 20 -> y < 24 -> inSh x y = true -> FnD Try.prog g (fs ++ [.int x, .int y] ++ cs) (.int (h x y))) : FnS Try.prog 36 [] [.fc g (fs.map AV.d) (cs.map AV.d)] ((s, .av (gridC 1000000000 len24)) :: gridO 1000000000 (picZ h) []) (.bs s 0 24 1) := by
 have q := (pictured_4 g fs cs h hf).sw 4 s
 have f2 : ∀ l : List D, AV.swL 4 s (l.map AV.d) = l.map AV.d := fun l => swL_d l
 simpa only [swO, OB.sw, AV.sw, AV.swL, f2, sw_self, gridC_sw0 (show 4 < 1000000000 by decide) hs, swO_grid0 (show 4 < 1000000000 by decide) hs] using q

theorem picZ_lens (h : Nat -> Nat -> Int) : lens (picZ h) = len24 := ok20_lens (picZ_ok h)

end Go.Proofs.Ytjbifidphckjoaa
