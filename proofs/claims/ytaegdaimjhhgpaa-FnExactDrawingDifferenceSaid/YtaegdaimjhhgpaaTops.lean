/- Arms are drawn: one cell, the field's cells, the ordinary's cells. -/
import Derived.Test.YtaegdaimjhhgpaaShape
import Derived.Test.YtaegdaimjhhgpaaGrid4
import Derived.WalkKit
import Derived.WalkSpells
import Derived.KernelRfl
namespace Go.Proofs.Ytaegdaimjhhgpaa
section

open Go.RowKit
set_option linter.unusedVariables false
set_option linter.unusedSimpArgs false

theorem picN_len (h : Nat → Nat → Int) (C : List Nat) (zs : List (List Int)) : ∀ i, (picN h C zs i).length = zs.length
  | 0 => rfl
  | i + 1 => by rw [picN, setG_len, picN_len h C zs i]

attribute [local go_sem] intL gridD lookO_lo killO_grid delO_grid putO_lo gridO_app dropGe dropGe_grid cleanO_grid gridC_len gridC_refs gridQ_refs lens_len rowsD_len setG_len dropO_grid killR_nil killR_cons killR_grid killN_lo newN_gridN hasN_cons hasN_grid Nat.le_refl refs_dmap newN_all killSs_gridN killOs_gridN killSs_gridN0 killOs_gridN0 loS_nil loS_cons loL_nil loL_cons lo_bp lo_bs lo_ag lo_tu lo_fc lo_d lo_un loO_nil loO_ds loO_av loO_dead loO_grid loL_gridC loL_dmap picZ_len List.length_append picN_len

attribute [local simp] ints_plain ints_all ints_all1 ints_plain_take refs_dmap pairs_plain pairs_all

abbrev topO (L T : List (List Int)) : List (Nat × OB) := (5000, .av (gridC 10000 len24)) :: (5001, .av (gridC 10024 len24)) :: (5002, .av [.bs 5000 0 24 1]) :: (5003, .av [.bs 5001 0 24 1]) :: gridO 10000 (L ++ T) []

theorem len24b_at {y : Nat} (h : y < 24) : (gridC 10024 len24).getD y .un = .bs (y + 10024) 0 20 1 := by
  rw [gridC_at (by simpa using h)]
  congr 1
  rw [len24, List.getD_eq_getElem?_getD, List.getElem?_replicate, if_pos h]
  rfl

theorem app_lo {L T : List (List Int)} {y : Nat} (hL : L.length = 24) (hy : y < 24) : (L ++ T).getD y [] = L.getD y [] := by
  simp only [List.getD_eq_getElem?_getD]
  rw [List.getElem?_append_left (by omega)]

theorem app_hi {L T : List (List Int)} {y : Nat} (hL : L.length = 24) : (L ++ T).getD (y + 24) [] = T.getD y [] := by
  simp only [List.getD_eq_getElem?_getD]
  rw [List.getElem?_append_right (by omega), show y + 24 - L.length = y by omega]

theorem look_lo {L T : List (List Int)} {y : Nat} (hL : L.length = 24) (hy : y < 24) : lookO (gridO 10000 (L ++ T) []) (y + 10000) = some (.ds ((L.getD y []).map D.int)) := by
  rw [lookO_row (by rw [List.length_append]; omega), app_lo hL hy]

theorem look_hi {L T : List (List Int)} {y : Nat} (hL : L.length = 24) (hT : T.length = 24) (hy : y < 24) : lookO (gridO 10000 (L ++ T) []) (y + 10024) = some (.ds ((T.getD y []).map D.int)) := by
  rw [show y + 10024 = (y + 24) + 10000 by omega, lookO_row (by rw [List.length_append]; omega), app_hi hL]

theorem put_lo {L T : List (List Int)} {y : Nat} {z : List Int} (hL : L.length = 24) (hy : y < 24) : putO (gridO 10000 (L ++ T) []) (y + 10000) (.ds (z.map D.int)) = gridO 10000 (L.set y z ++ T) [] := by
  rw [putO_row (by rw [List.length_append]; omega), List.set_append, if_pos (by omega)]

theorem put_hi {L T : List (List Int)} {y : Nat} {z : List Int} (hL : L.length = 24) (hT : T.length = 24) (hy : y < 24) : putO (gridO 10000 (L ++ T) []) (y + 10024) (.ds (z.map D.int)) = gridO 10000 (L ++ T.set y z) [] := by
  rw [show y + 10024 = (y + 24) + 10000 by omega, putO_row (by rw [List.length_append]; omega), List.set_append, if_neg (by omega), show y + 24 - L.length = y by omega]

theorem lens_app (L T : List (List Int)) : lens (L ++ T) = lens L ++ lens T := by simp [lens]

theorem hasG_app {ob : List (Nat × OB)} {B : Nat} {a b : List (List Int)} : HasG ob B (a ++ b) = (HasG ob B a ∧ HasG ob (B + a.length) b) := by
  apply propext
  simp only [HasG]
  constructor
  · intro h
    refine ⟨fun i hi => ?_, fun i hi => ?_⟩
    · rw [h i (by rw [List.length_append]; omega)]
      simp only [List.getD_eq_getElem?_getD]
      rw [List.getElem?_append_left hi]
    · rw [show i + (B + a.length) = (i + a.length) + B by omega, h (i + a.length) (by rw [List.length_append]; omega)]
      simp only [List.getD_eq_getElem?_getD]
      rw [List.getElem?_append_right (by omega), show i + a.length - a.length = i by omega]
  · rintro ⟨h1, h2⟩ i hi
    rw [List.length_append] at hi
    by_cases q : i < a.length
    · rw [h1 i q]
      simp only [List.getD_eq_getElem?_getD]
      rw [List.getElem?_append_left q]
    · have := h2 (i - a.length) (by omega)
      rw [show i - a.length + (B + a.length) = i + B by omega] at this
      rw [this]
      simp only [List.getD_eq_getElem?_getD]
      rw [List.getElem?_append_right (by omega)]

theorem topO_lens {X : List (Nat × OB)} {L T L' T' : List (List Int)} (hX : ∀ p ∈ X, p.1 < 5000) (h1 : lens L' = lens L) (h2 : lens T' = lens T) : lensO (topO L T) (topO L' T') := by
  simp only [topO, lensO, lookO, Nat.reduceEqDiff, ↓reduceIte, true_and]
  refine lensO_grid (zs := L ++ T) (by simp only [lensO]) ?_ (by rw [lens_app, lens_app, h1, h2])
  rw [hasG_cons (by decide), hasG_cons (by decide), hasG_cons (by decide), hasG_cons (by decide)]
  exact of_eq_true hasG_self

set_option maxRecDepth 100000 in
theorem pl_Tops_129_0U (l : List Oper) (h : l = opsOf Try.f129 0) : planUB l (.pure 0 (.pure 1 (.pure 2 (.pure 3 (.pure 4 (.pure 10 (.still 6 (.still 9 (.still 11 (.one true 5 (.still 7 (.pure 8 (.pure 12 (.one false 13 (.still 14 (.one false 15 PU.fin)))))))))))))))) [13, 15] = true := by
  subst h
  kernel_rfl

set_option maxRecDepth 100000 in
set_option maxHeartbeats 4000000 in
theorem paint_hi (L T : List (List Int)) (x y : Nat) (v t : Int) (hL : ok20 L) (hT : ok20 T) (hx : x < 20) (hy : y < 24) : FnS Try.prog 129 (topO L T) [.d (.int x), .d (.int y), .d (.int v), .d (.int t), .bp 5002 0, .bp 5003 0] (topO (setG L x y v) (setG T x y t)) (.tu []) := by
  have hL1 := hL.1
  have hT1 := hT.1
  have hL2 := hL.2 y hy
  have hT2 := hT.2 y hy
  have e1 := look_lo (T := T) hL1 hy
  have e2 := look_hi hL1 hT1 hy
  have e3 : lookO (gridO 10000 (L.set y ((L.getD y []).set x v) ++ T) []) (y + 10024) = some (.ds ((T.getD y []).map D.int)) := look_hi (by rw [List.length_set]; exact hL1) hT1 hy
  have p1 : ∀ z : List Int, putO (gridO 10000 (L ++ T) []) (y + 10000) (.ds (z.map D.int)) = gridO 10000 (L.set y z ++ T) [] := fun z => put_lo hL1 hy
  have p2 : ∀ z : List Int, putO (gridO 10000 (L.set y ((L.getD y []).set x v) ++ T) []) (y + 10024) (.ds (z.map D.int)) = gridO 10000 (L.set y ((L.getD y []).set x v) ++ T.set y z) [] := fun z => put_hi (by rw [List.length_set]; exact hL1) hT1 hy
  have hlr : ((L.getD y []).map D.int).length = 20 := by simpa using hL2
  have hlt : ((T.getD y []).map D.int).length = 20 := by simpa using hT2
  have h24 : (gridC 10000 len24).length = 24 := by simp
  have h24b : (gridC 10024 len24).length = 24 := by simp
  have hLT : (L ++ T).length = 48 := by rw [List.length_append]; omega
  refine fns_go Try.func129 rfl rfl Try.ntmps129 Try.results129 (by simp only [slotsA, Nat.reduceAdd]; rfl) (by simp) (by simp (disch := omega) only [geAll, geAll_grid]; rfl) ?_
  repeat' (first | (with_reducible first | refine aw_seq fun K hK => ?_ | refine aw_region (by kernel_rfl) ?_ | refine aw_condk ?_ | refine aw_block ?_) | ((with_reducible refine ev_aw ?_); first | (refine aw_drawU (id := 0) (by kernel_rfl) _ _ (by kernel_rfl) (pl_Tops_129_0U _ (by kernel_rfl)) ?_)) | (with_reducible first | refine ru_four ?_ ?_ ?_ ?_ | refine ru_three ?_ ?_ ?_ | refine ru_two ?_ ?_ | refine rp_two ?_ ?_) | ((with_reducible refine evg ?_); simp only [go_sem, St.clean, cleanO, ↓reduceIte, Nat.reduceEqDiff, Nat.reduceBEq, Nat.reduceAdd, Nat.reduceMul, Nat.reduceSub, Nat.reduceLT, Nat.reduceLeDiff]) | (simp (disch := omega) only [wr, drop_at, str_at, int_at, Int.reduceSub, Int.reduceAdd, Int.reduceToNat, Int.toNat_zero, wr, len24_at, len24b_at, e1, e2, hlr, hlt, h24, h24b, map_set, p1, e3, p2]) | ((with_reducible refine ev_guard ?_); (with_reducible first | refine guard_t ?_ ?_ rfl | refine guard_f ?_ ?_ rfl) <;> (intro h; (try simp only [h]); (try simp only [nrm] at h) <;> (try ((with_reducible exfalso); omega)))) | ((with_reducible refine ck_split (fun h => ?_) (fun h => ?_)) <;> (try simp only [nrm] at h) <;> (try ((with_reducible exfalso); omega))) | ((with_reducible refine And.intro ?_ ?_); (first | omega | focus (simp; done) | focus (simp; omega) | focus ((repeat' (with_reducible refine And.intro ?_ ?_)) <;> first | omega | rfl | (simp only [go_sem, refsL_app, refs_dmap] <;> fail) | (simp [refsL_app, refs_dmap, AV.refsL, AV.refs] <;> omega)))) | (with_reducible refine hJ _ (fun K hK => ?_) ?_ <;> clear hJ KJ) | ((with_reducible refine ev_less ?_); (refine ⟨rfl, ?_, ?_⟩ <;> simp only [go_sem, St.clean, cleanO, SubS, SubO, beq_self_eq_true, ↓reduceIte, Nat.reduceEqDiff, Nat.reduceBEq, Nat.reduceAdd, Nat.reduceMul, Nat.reduceSub, Nat.reduceLT, Nat.reduceLeDiff])) | ((with_reducible first | apply hK | (clear hK K; first | apply hK | (clear hK K; first | apply hK | (clear hK K; apply hK)))); clear hK K) | fail)
  refine ress_unit (topO_lens (X := []) (by simp) (lens_setG L x y v) (lens_setG T x y t)) ?_
  simp only [topO, SubO, lookO, Nat.reduceEqDiff, ↓reduceIte, subO_grid]
  refine ⟨trivial, trivial, trivial, trivial, ?_, trivial⟩
  rw [hasG_cons (by decide), hasG_cons (by decide), hasG_cons (by decide), hasG_cons (by decide)]
  exact of_eq_true hasG_self

abbrev armsA (x : ArmsV) : List AV := [.d (.int x.fd), .d (.int x.fl), .d (.int x.ff), .d (.int x.fs), .d (.int x.o), .d (.int x.l), .d (.int x.t), .d (.int x.c1), .d (.int x.k1), .d (.int x.a1), .d (.int x.t1), .d (.int x.c2), .d (.int x.k2), .d (.int x.a2), .d (.int x.t2)]

abbrev topF (x : ArmsV) (c : Int) (L T : List (List Int)) : List (Nat × OB) := (5004, .av [.fc 129 [] [.bp 5002 0, .bp 5003 0]]) :: (5005, .av (armsA x)) :: (5007, .av [.d (.int c)]) :: topO L T

theorem topF_lens (x : ArmsV) (c c' : Int) {L T L' T' : List (List Int)} (h1 : lens L' = lens L) (h2 : lens T' = lens T) : lensO (topF x c L T) (topF x c' L' T') := by
  simp only [topF, topO, lensO, lookO, Nat.reduceEqDiff, ↓reduceIte, true_and]
  refine ⟨rfl, lensO_grid (zs := L ++ T) (by simp only [lensO]) ?_ (by rw [lens_app, lens_app, h1, h2])⟩
  rw [hasG_cons (by decide), hasG_cons (by decide), hasG_cons (by decide), hasG_cons (by decide), hasG_cons (by decide), hasG_cons (by decide), hasG_cons (by decide)]
  exact of_eq_true hasG_self

set_option maxRecDepth 100000 in
theorem pl_Tops_130_0U (l : List Oper) (h : l = opsOf Try.f130 0) : planUB l (.pure 0 (.pure 1 (.pure 2 (.still 5 (.still 6 (.one true 3 (.one true 4 (.one true 7 (.one false 8 PU.fin))))))))) [8] = true := by
  subst h
  kernel_rfl

set_option maxRecDepth 100000 in
set_option maxHeartbeats 4000000 in
theorem field1_hi (x : ArmsV) (l : Nat) (c : Int) (hfl : x.fl = l) (h5 : l < 5) (L T : List (List Int)) (a b : Nat) (hL : ok20 L) (hT : ok20 T) (ha : a < 20) (hb : b < 24) : FnS Try.prog 130 (topF x c L T) [.d (.int a), .d (.int b), .bp 5004 0, .bp 5005 0] (topF x c (setG L a b 1) (setG T a b (tinctZ x.fd l x.ff x.fs a b))) (.tu []) := by
  have hL1 := hL.1
  have hT1 := hT.1
  have hLT : (L ++ T).length = 48 := by rw [List.length_append]; omega
  have e1 := at_fn x.fd l a b x.ff x.fs h5 ha hb
  rw [← hfl] at e1
  have e2 := paint_hi L T a b 1 (tinctZ x.fd l x.ff x.fs a b) hL hT ha hb
  generalize tinctZ x.fd l x.ff x.fs a b = t at *
  have hl1 := lens_setG L a b 1
  have hl2 := lens_setG T a b t
  have hLT2 : (setG L a b 1 ++ setG T a b t).length = 48 := by rw [List.length_append, setG_len, setG_len]; omega
  refine fns_go Try.func130 rfl rfl Try.ntmps130 Try.results130 (by simp only [slotsA, Nat.reduceAdd]; rfl) (by simp) (by simp (disch := omega) only [geAll, geAll_grid]; rfl) ?_
  repeat' (first | (with_reducible first | refine aw_seq fun K hK => ?_ | refine aw_region (by kernel_rfl) ?_ | refine aw_condk ?_ | refine aw_block ?_) | ((with_reducible refine ev_aw ?_); first | (refine aw_drawU (id := 0) (by kernel_rfl) _ _ (by kernel_rfl) (pl_Tops_130_0U _ (by kernel_rfl)) ?_)) | (with_reducible first | refine ru_four ?_ ?_ ?_ ?_ | refine ru_three ?_ ?_ ?_ | refine ru_two ?_ ?_ | refine rp_two ?_ ?_) | ((with_reducible refine evg ?_); simp only [go_sem, St.clean, cleanO, ↓reduceIte, Nat.reduceEqDiff, Nat.reduceBEq, Nat.reduceAdd, Nat.reduceMul, Nat.reduceSub, Nat.reduceLT, Nat.reduceLeDiff]) | (simp (disch := omega) only [wr, drop_at, str_at, int_at, Int.reduceSub, Int.reduceAdd, Int.reduceToNat, Int.toNat_zero, wr]) | ((with_reducible refine ev_call ?_); (first | (refine call_fn e1 rfl ?_) | (refine call_s e2 ?_ ?_ ?_ ?_ ?_; (focus rfl); (focus (simp (disch := omega) only [SubO, lookO, subO_grid, hasG_nil, hasG_cons, hasG_self, hasG_lo, hasG_hi, lookO_lo, lookO_hi, true_and, and_true, Nat.reduceEqDiff, ↓reduceIte] <;> fail)); (focus (simp [newN, lookO, ltAll, newN_gridN, hasN_cons, hasN_grid, setG_len, lens_len] <;> fail)); (focus (simp [-List.map_map, apartO, dropO, killN, obCells, refs_dmap, nofnsD, AV.refs, AV.refsL, AV.nofn, AV.nofns, all_grid, dropO_grid, killR_nil, killR_cons, killR_grid, killN_lo, gridC_refs, gridC_nofns] <;> fail)))); refine k_run ?_) | ((with_reducible refine ev_guard ?_); (with_reducible first | refine guard_t ?_ ?_ rfl | refine guard_f ?_ ?_ rfl) <;> (intro h; (try simp only [h]); (try simp only [nrm] at h) <;> (try ((with_reducible exfalso); omega)))) | ((with_reducible refine ck_split (fun h => ?_) (fun h => ?_)) <;> (try simp only [nrm] at h) <;> (try ((with_reducible exfalso); omega))) | ((with_reducible refine And.intro ?_ ?_); (first | omega | focus (simp; done) | focus (simp; omega) | focus ((repeat' (with_reducible refine And.intro ?_ ?_)) <;> first | omega | rfl | (simp only [go_sem, refsL_app, refs_dmap] <;> fail) | (simp [refsL_app, refs_dmap, AV.refsL, AV.refs] <;> omega)))) | (with_reducible refine hJ _ (fun K hK => ?_) ?_ <;> clear hJ KJ) | ((with_reducible refine ev_less ?_); (refine ⟨rfl, ?_, ?_⟩ <;> simp only [go_sem, St.clean, cleanO, SubS, SubO, beq_self_eq_true, ↓reduceIte, Nat.reduceEqDiff, Nat.reduceBEq, Nat.reduceAdd, Nat.reduceMul, Nat.reduceSub, Nat.reduceLT, Nat.reduceLeDiff])) | ((with_reducible first | apply hK | (clear hK K; first | apply hK | (clear hK K; first | apply hK | (clear hK K; apply hK)))); clear hK K) | fail)
  refine ress_unit (topF_lens x c c hl1 hl2) ?_
  simp (disch := omega) only [topF, topO, SubO, lookO, lookO_lo, Nat.reduceEqDiff, ↓reduceIte, subO_grid, hasG_cons, hasG_self, true_and, and_true]

set_option maxRecDepth 100000 in
set_option maxHeartbeats 4000000 in
theorem ord1_hi (x : ArmsV) (c : Int) (L T : List (List Int)) (a b : Nat) (hL : ok20 L) (hT : ok20 T) (ha : a < 20) (hb : b < 24) : FnS Try.prog 131 (topF x c L T) [.d (.int a), .d (.int b), .bp 5004 0, .bp 5007 0, .bp 5005 0] (topF x c (setG L a b c) (setG T a b x.t)) (.tu []) := by
  have hL1 := hL.1
  have hT1 := hT.1
  have hLT : (L ++ T).length = 48 := by rw [List.length_append]; omega
  have e2 := paint_hi L T a b c x.t hL hT ha hb
  have hl1 := lens_setG L a b c
  have hl2 := lens_setG T a b x.t
  have hLT2 : (setG L a b c ++ setG T a b x.t).length = 48 := by rw [List.length_append, setG_len, setG_len]; omega
  refine fns_go Try.func131 rfl rfl Try.ntmps131 Try.results131 (by simp only [slotsA, Nat.reduceAdd]; rfl) (by simp) (by simp (disch := omega) only [geAll, geAll_grid]; rfl) ?_
  repeat' (first | (with_reducible first | refine aw_seq fun K hK => ?_ | refine aw_region (by kernel_rfl) ?_ | refine aw_condk ?_ | refine aw_block ?_) | ((with_reducible refine evg ?_); simp only [go_sem, ↓reduceIte, Nat.reduceEqDiff, Nat.reduceBEq, Nat.reduceAdd, Nat.reduceMul, Nat.reduceSub, Nat.reduceLT, Nat.reduceLeDiff]) | (simp (disch := omega) only [wr, drop_at, str_at, int_at, Int.reduceSub, Int.reduceAdd, Int.reduceToNat, Int.toNat_zero, wr]) | ((with_reducible refine ev_call ?_); (first | (refine call_s e2 ?_ ?_ ?_ ?_ ?_; (focus rfl); (focus (simp (disch := omega) only [SubO, lookO, subO_grid, hasG_nil, hasG_cons, hasG_self, hasG_lo, hasG_hi, lookO_lo, lookO_hi, true_and, and_true, Nat.reduceEqDiff, ↓reduceIte] <;> fail)); (focus (simp [newN, lookO, ltAll, newN_gridN, hasN_cons, hasN_grid, setG_len, lens_len] <;> fail)); (focus (simp [-List.map_map, apartO, dropO, killN, obCells, refs_dmap, nofnsD, AV.refs, AV.refsL, AV.nofn, AV.nofns, all_grid, dropO_grid, killR_nil, killR_cons, killR_grid, killN_lo, gridC_refs, gridC_nofns] <;> fail)))); refine k_run ?_) | ((with_reducible refine ev_guard ?_); (with_reducible first | refine guard_t ?_ ?_ rfl | refine guard_f ?_ ?_ rfl) <;> (intro h; (try simp only [h]); (try simp only [nrm] at h) <;> (try ((with_reducible exfalso); omega)))) | ((with_reducible refine ck_split (fun h => ?_) (fun h => ?_)) <;> (try simp only [nrm] at h) <;> (try ((with_reducible exfalso); omega))) | ((with_reducible refine And.intro ?_ ?_); (first | omega | focus (simp; done) | focus (simp; omega) | focus ((repeat' (with_reducible refine And.intro ?_ ?_)) <;> first | omega | rfl | (simp only [go_sem, refsL_app, refs_dmap] <;> fail) | (simp [refsL_app, refs_dmap, AV.refsL, AV.refs] <;> omega)))) | ((with_reducible first | apply hK | (clear hK K; first | apply hK | (clear hK K; first | apply hK | (clear hK K; apply hK)))); clear hK K) | fail)
  refine ress_unit (topF_lens x c c hl1 hl2) ?_
  simp (disch := omega) only [topF, topO, SubO, lookO, lookO_lo, Nat.reduceEqDiff, ↓reduceIte, subO_grid, hasG_cons, hasG_self, true_and, and_true]

theorem picN_lens {h : Nat → Nat → Int} {C : List Nat} {zs : List (List Int)} (hz : ok20 zs) (i : Nat) : lens (picN h C zs i) = lens zs := (ok20_lens (picN_ok hz i)).trans (ok20_lens hz).symm

abbrev topE (zs : List Int) (x : ArmsV) (c : Int) (L T : List (List Int)) : List (Nat × OB) := (5006, .ds (zs.map D.int)) :: topF x c L T

theorem topE_lens (zs : List Int) (x : ArmsV) (c c' : Int) {L T L' T' : List (List Int)} (h1 : lens L' = lens L) (h2 : lens T' = lens T) : lensO (topE zs x c L T) (topE zs x c' L' T') := by
  simp only [topE, topF, topO, lensO, lookO, Nat.reduceEqDiff, ↓reduceIte, true_and]
  refine ⟨rfl, lensO_grid (zs := L ++ T) (by simp only [lensO]) ?_ (by rw [lens_app, lens_app, h1, h2])⟩
  rw [hasG_cons (by decide), hasG_cons (by decide), hasG_cons (by decide), hasG_cons (by decide), hasG_cons (by decide), hasG_cons (by decide), hasG_cons (by decide), hasG_cons (by decide)]
  exact of_eq_true hasG_self

set_option maxRecDepth 100000 in
set_option maxHeartbeats 4000000 in
theorem each2_hi (x : ArmsV) (c : Int) (l : Nat) (hfl : x.fl = l) (h5 : l < 5) (zs : List Int) (L T : List (List Int)) (hz : okReg zs = true) (hL : ok20 L) (hT : ok20 T) : FnS Try.prog 111 (topE zs x c L T) [.ag [.bs 5006 0 24 1], .fc 130 [] [.bp 5004 0, .bp 5005 0]] (topE zs x c (picN (fun _ _ => 1) (cellsN zs 480) L (cellsN zs 480).length) (picN (tinctZ x.fd l x.ff x.fs) (cellsN zs 480) T (cellsN zs 480).length)) (.tu []) := by
  have hL1 := hL.1
  have hT1 := hT.1
  have hLT : (L ++ T).length = 48 := by rw [List.length_append]; omega
  have hzl := okReg_len hz
  have e1 := cells_fn zs hz
  rw [← ints_raw zs, hzl] at e1
  have hmem : ∀ c ∈ cellsN zs 480, c < 480 := fun c hc => (cellsN_mem hc).1
  have hlen := cellsN_len zs 480
  have hl2 := pairs_len (cellsN zs 480)
  have hshl : (zs.map D.int).length = 24 := by simpa using hzl
  generalize cellsN zs 480 = C at *
  refine fns_go Try.func111 rfl rfl Try.ntmps111 Try.results111 (by simp only [slotsA, Nat.reduceAdd]; rfl) (by simp) (by simp (disch := omega) only [geAll, geAll_grid]; rfl) ?_
  repeat' (first | (with_reducible first | refine aw_seq fun K hK => ?_ | refine aw_region (by kernel_rfl) ?_ | refine aw_condk ?_ | refine aw_block ?_) | ((with_reducible refine evg ?_); simp only [go_sem, ↓reduceIte, Nat.reduceEqDiff, Nat.reduceBEq, Nat.reduceAdd, Nat.reduceMul, Nat.reduceSub, Nat.reduceLT, Nat.reduceLeDiff]) | (simp (disch := omega) only [wr, drop_at, str_at, int_at, Int.reduceSub, Int.reduceAdd, Int.reduceToNat, Int.toNat_zero, wr]) | ((with_reducible refine ev_call ?_); (first | (refine call_fn e1 rfl ?_)); refine k_run ?_) | ((with_reducible refine ev_guard ?_); (with_reducible first | refine guard_t ?_ ?_ rfl | refine guard_f ?_ ?_ rfl) <;> (intro h; (try simp only [h]); (try simp only [nrm] at h) <;> (try ((with_reducible exfalso); omega)))) | ((with_reducible refine ck_split (fun h => ?_) (fun h => ?_)) <;> (try simp only [nrm] at h) <;> (try ((with_reducible exfalso); omega))) | ((with_reducible refine And.intro ?_ ?_); (first | omega | focus (simp; done) | focus (simp; omega) | focus ((repeat' (with_reducible refine And.intro ?_ ?_)) <;> first | omega | rfl | (simp only [go_sem, refsL_app, refs_dmap] <;> fail) | (simp [refsL_app, refs_dmap, AV.refsL, AV.refs] <;> omega)))) | ((with_reducible first | apply hK | (clear hK K; first | apply hK | (clear hK K; first | apply hK | (clear hK K; apply hK)))); clear hK K) | fail)
  refine aw_loopG [5, 9, 10, 11, 12, 13, 14, 15, 16, 17, 18, 19] [5, 18] 10000 (fun i : Nat => [(9, .d (.int i))]) (fun i => gridO 10000 (picN (fun _ _ => 1) C L i ++ picN (tinctZ x.fd l x.ff x.fs) C T i) []) (fun i => i ≤ C.length) (fun i => C.length - i) 0 (by omega) ?_ ?_
  · (refine lessW_of [] ?_ ?_ <;> simp (disch := omega) only [okSw, decide_eq_true_eq, Bool.and_eq_true, Bool.or_eq_true, St.updG, St.asAv, avO, dropGe, dropGe_grid, subO_grid, gridO_nil, gridO_app, gridQ_put, take_zero, hasG_nil, hasG_snoc, hasG_cons, hasG_next, hasG_self, hasG_lo, hasG_hi, lookO_lo, lookO_hi, lookO_row, lookKN, swO_grid, swO_grid0, gridC_sw0, gridC_sw, St.sws, St.sw, swS, swO, AV.sw, AV.swL, OB.sw, swp, St.upd, dropS, dropOs, Less, SubS, SubO, look, lookO, List.elem, List.cons_append, List.nil_append, cond_true, cond_false, and_true, true_and, beq_self_eq_true, ↓reduceIte, Nat.reduceEqDiff, Nat.reduceBEq, Nat.reduceAdd, Nat.reduceMul, Nat.reduceSub, Nat.reduceLT, Nat.reduceLeDiff] <;> try simp)
    exact of_eq_true hasG_self
  · rintro i g1
    simp only [St.updG, St.asAv, avO, dropS, dropOs, dropGe, dropGe_grid, dropGe_keep, gridO_nil, List.elem, List.cons_append, List.nil_append, gridO_app, cond_true, cond_false, beq_self_eq_true, ↓reduceIte, Nat.reduceEqDiff, Nat.reduceBEq, Nat.reduceAdd, Nat.reduceMul, Nat.reduceSub, Nat.reduceLT, Nat.reduceLeDiff]
    have ok1 := picN_ok (h := fun _ _ => 1) (C := C) hL i
    have ok2 := picN_ok (h := (tinctZ x.fd l x.ff x.fs)) (C := C) hT i
    have k1 := ok1.1
    have k2 := ok2.1
    by_cases hi : i < C.length
    · have hc := hmem _ (getD_mem 0 hi)
      have e2 := field1_hi x l c hfl h5 _ _ (C.getD i 0 % 20) (C.getD i 0 / 20) ok1 ok2 (by omega) (by omega)
      repeat' (first | (with_reducible first | refine aw_seq fun K hK => ?_ | refine aw_region (by kernel_rfl) ?_ | refine aw_condk ?_ | refine aw_block ?_) | ((with_reducible refine evg ?_); simp only [go_sem, ↓reduceIte, Nat.reduceEqDiff, Nat.reduceBEq, Nat.reduceAdd, Nat.reduceMul, Nat.reduceSub, Nat.reduceLT, Nat.reduceLeDiff]) | (simp (disch := omega) only [wr, drop_at, str_at, int_at, Int.reduceSub, Int.reduceAdd, Int.reduceToNat, Int.toNat_zero, wr, pairG_at, List.getD_cons_zero, List.getD_cons_succ]) | ((with_reducible refine ev_call ?_); (first | (refine call_s e2 ?_ ?_ ?_ ?_ ?_; (focus rfl); (focus (simp (disch := omega) only [SubO, lookO, subO_grid, hasG_nil, hasG_cons, hasG_self, hasG_lo, hasG_hi, lookO_lo, lookO_hi, true_and, and_true, Nat.reduceEqDiff, ↓reduceIte] <;> fail)); (focus (simp [newN, lookO, ltAll, newN_gridN, hasN_cons, hasN_grid, setG_len, lens_len] <;> fail)); (focus (simp [-List.map_map, apartO, dropO, killN, obCells, refs_dmap, nofnsD, AV.refs, AV.refsL, AV.nofn, AV.nofns, all_grid, dropO_grid, killR_nil, killR_cons, killR_grid, killN_lo, gridC_refs, gridC_nofns] <;> fail)))); refine k_run ?_) | ((with_reducible refine ev_guard ?_); (with_reducible first | refine guard_t ?_ ?_ rfl | refine guard_f ?_ ?_ rfl) <;> (intro h; (try simp only [h]); (try simp only [nrm] at h) <;> (try ((with_reducible exfalso); omega)))) | ((with_reducible refine ck_split (fun h => ?_) (fun h => ?_)) <;> (try simp only [nrm] at h) <;> (try ((with_reducible exfalso); omega))) | ((with_reducible refine And.intro ?_ ?_); (first | omega | focus (simp; done) | focus (simp; omega) | focus ((repeat' (with_reducible refine And.intro ?_ ?_)) <;> first | omega | rfl | (simp only [go_sem, refsL_app, refs_dmap] <;> fail) | (simp [refsL_app, refs_dmap, AV.refsL, AV.refs] <;> omega)))) | ((with_reducible first | apply hK | (clear hK K; first | apply hK | (clear hK K; first | apply hK | (clear hK K; apply hK)))); clear hK K) | fail)
      refine ⟨i + 1, by omega, by omega, ?_⟩
      (refine lessW_of [] ?_ ?_ <;> simp (disch := omega) only [okSw, decide_eq_true_eq, Bool.and_eq_true, Bool.or_eq_true, St.updG, St.asAv, avO, dropGe, dropGe_grid, subO_grid, gridO_nil, gridO_app, gridQ_put, take_zero, hasG_nil, hasG_snoc, hasG_cons, hasG_next, hasG_self, hasG_lo, hasG_hi, lookO_lo, lookO_hi, lookO_row, lookKN, swO_grid, swO_grid0, gridC_sw0, gridC_sw, St.sws, St.sw, swS, swO, AV.sw, AV.swL, OB.sw, swp, St.upd, dropS, dropOs, Less, SubS, SubO, look, lookO, List.elem, List.cons_append, List.nil_append, cond_true, cond_false, and_true, true_and, beq_self_eq_true, ↓reduceIte, Nat.reduceEqDiff, Nat.reduceBEq, Nat.reduceAdd, Nat.reduceMul, Nat.reduceSub, Nat.reduceLT, Nat.reduceLeDiff] <;> try simp)
      simp only [← List.getD_eq_getElem?_getD]
      rw [picN, picN]
      exact of_eq_true hasG_self
    · repeat' (first | (with_reducible first | refine aw_seq fun K hK => ?_ | refine aw_region (by kernel_rfl) ?_ | refine aw_condk ?_ | refine aw_block ?_) | ((with_reducible refine evg ?_); simp only [go_sem, ↓reduceIte, Nat.reduceEqDiff, Nat.reduceBEq, Nat.reduceAdd, Nat.reduceMul, Nat.reduceSub, Nat.reduceLT, Nat.reduceLeDiff]) | (simp (disch := omega) only [wr, drop_at, str_at, int_at, Int.reduceSub, Int.reduceAdd, Int.reduceToNat, Int.toNat_zero, wr]) | ((with_reducible refine ev_guard ?_); (with_reducible first | refine guard_t ?_ ?_ rfl | refine guard_f ?_ ?_ rfl) <;> (intro h; (try simp only [h]); (try simp only [nrm] at h) <;> (try ((with_reducible exfalso); omega)))) | ((with_reducible refine ck_split (fun h => ?_) (fun h => ?_)) <;> (try simp only [nrm] at h) <;> (try ((with_reducible exfalso); omega))) | ((with_reducible refine And.intro ?_ ?_); (first | omega | focus (simp; done) | focus (simp; omega) | focus ((repeat' (with_reducible refine And.intro ?_ ?_)) <;> first | omega | rfl | (simp only [go_sem, refsL_app, refs_dmap] <;> fail) | (simp [refsL_app, refs_dmap, AV.refsL, AV.refs] <;> omega)))) | ((with_reducible first | apply hK | (clear hK K; first | apply hK | (clear hK K; first | apply hK | (clear hK K; apply hK)))); clear hK K) | fail)
      have e : i = C.length := by omega
      subst e
      refine ress_unit (topE_lens zs x c c (picN_lens hL _) (picN_lens hT _)) ?_
      simp (disch := omega) only [topE, topF, topO, SubO, lookO, lookO_lo, Nat.reduceEqDiff, ↓reduceIte, subO_grid, hasG_cons, hasG_self, true_and, and_true]

set_option maxRecDepth 100000 in
set_option maxHeartbeats 4000000 in
theorem each3_hi (x : ArmsV) (c : Int) (zs : List Int) (L T : List (List Int)) (hz : okReg zs = true) (hL : ok20 L) (hT : ok20 T) : FnS Try.prog 111 (topE zs x c L T) [.ag [.bs 5006 0 24 1], .fc 131 [] [.bp 5004 0, .bp 5007 0, .bp 5005 0]] (topE zs x c (picN (fun _ _ => c) (cellsN zs 480) L (cellsN zs 480).length) (picN (fun _ _ => x.t) (cellsN zs 480) T (cellsN zs 480).length)) (.tu []) := by
  have hL1 := hL.1
  have hT1 := hT.1
  have hLT : (L ++ T).length = 48 := by rw [List.length_append]; omega
  have hzl := okReg_len hz
  have e1 := cells_fn zs hz
  rw [← ints_raw zs, hzl] at e1
  have hmem : ∀ c ∈ cellsN zs 480, c < 480 := fun c hc => (cellsN_mem hc).1
  have hlen := cellsN_len zs 480
  have hl2 := pairs_len (cellsN zs 480)
  have hshl : (zs.map D.int).length = 24 := by simpa using hzl
  generalize cellsN zs 480 = C at *
  refine fns_go Try.func111 rfl rfl Try.ntmps111 Try.results111 (by simp only [slotsA, Nat.reduceAdd]; rfl) (by simp) (by simp (disch := omega) only [geAll, geAll_grid]; rfl) ?_
  repeat' (first | (with_reducible first | refine aw_seq fun K hK => ?_ | refine aw_region (by kernel_rfl) ?_ | refine aw_condk ?_ | refine aw_block ?_) | ((with_reducible refine evg ?_); simp only [go_sem, ↓reduceIte, Nat.reduceEqDiff, Nat.reduceBEq, Nat.reduceAdd, Nat.reduceMul, Nat.reduceSub, Nat.reduceLT, Nat.reduceLeDiff]) | (simp (disch := omega) only [wr, drop_at, str_at, int_at, Int.reduceSub, Int.reduceAdd, Int.reduceToNat, Int.toNat_zero, wr]) | ((with_reducible refine ev_call ?_); (first | (refine call_fn e1 rfl ?_)); refine k_run ?_) | ((with_reducible refine ev_guard ?_); (with_reducible first | refine guard_t ?_ ?_ rfl | refine guard_f ?_ ?_ rfl) <;> (intro h; (try simp only [h]); (try simp only [nrm] at h) <;> (try ((with_reducible exfalso); omega)))) | ((with_reducible refine ck_split (fun h => ?_) (fun h => ?_)) <;> (try simp only [nrm] at h) <;> (try ((with_reducible exfalso); omega))) | ((with_reducible refine And.intro ?_ ?_); (first | omega | focus (simp; done) | focus (simp; omega) | focus ((repeat' (with_reducible refine And.intro ?_ ?_)) <;> first | omega | rfl | (simp only [go_sem, refsL_app, refs_dmap] <;> fail) | (simp [refsL_app, refs_dmap, AV.refsL, AV.refs] <;> omega)))) | ((with_reducible first | apply hK | (clear hK K; first | apply hK | (clear hK K; first | apply hK | (clear hK K; apply hK)))); clear hK K) | fail)
  refine aw_loopG [5, 9, 10, 11, 12, 13, 14, 15, 16, 17, 18, 19] [5, 18] 10000 (fun i : Nat => [(9, .d (.int i))]) (fun i => gridO 10000 (picN (fun _ _ => c) C L i ++ picN (fun _ _ => x.t) C T i) []) (fun i => i ≤ C.length) (fun i => C.length - i) 0 (by omega) ?_ ?_
  · (refine lessW_of [] ?_ ?_ <;> simp (disch := omega) only [okSw, decide_eq_true_eq, Bool.and_eq_true, Bool.or_eq_true, St.updG, St.asAv, avO, dropGe, dropGe_grid, subO_grid, gridO_nil, gridO_app, gridQ_put, take_zero, hasG_nil, hasG_snoc, hasG_cons, hasG_next, hasG_self, hasG_lo, hasG_hi, lookO_lo, lookO_hi, lookO_row, lookKN, swO_grid, swO_grid0, gridC_sw0, gridC_sw, St.sws, St.sw, swS, swO, AV.sw, AV.swL, OB.sw, swp, St.upd, dropS, dropOs, Less, SubS, SubO, look, lookO, List.elem, List.cons_append, List.nil_append, cond_true, cond_false, and_true, true_and, beq_self_eq_true, ↓reduceIte, Nat.reduceEqDiff, Nat.reduceBEq, Nat.reduceAdd, Nat.reduceMul, Nat.reduceSub, Nat.reduceLT, Nat.reduceLeDiff] <;> try simp)
    exact of_eq_true hasG_self
  · rintro i g1
    simp only [St.updG, St.asAv, avO, dropS, dropOs, dropGe, dropGe_grid, dropGe_keep, gridO_nil, List.elem, List.cons_append, List.nil_append, gridO_app, cond_true, cond_false, beq_self_eq_true, ↓reduceIte, Nat.reduceEqDiff, Nat.reduceBEq, Nat.reduceAdd, Nat.reduceMul, Nat.reduceSub, Nat.reduceLT, Nat.reduceLeDiff]
    have ok1 := picN_ok (h := fun _ _ => c) (C := C) hL i
    have ok2 := picN_ok (h := (fun _ _ => x.t)) (C := C) hT i
    have k1 := ok1.1
    have k2 := ok2.1
    by_cases hi : i < C.length
    · have hc := hmem _ (getD_mem 0 hi)
      have e2 := ord1_hi x c _ _ (C.getD i 0 % 20) (C.getD i 0 / 20) ok1 ok2 (by omega) (by omega)
      repeat' (first | (with_reducible first | refine aw_seq fun K hK => ?_ | refine aw_region (by kernel_rfl) ?_ | refine aw_condk ?_ | refine aw_block ?_) | ((with_reducible refine evg ?_); simp only [go_sem, ↓reduceIte, Nat.reduceEqDiff, Nat.reduceBEq, Nat.reduceAdd, Nat.reduceMul, Nat.reduceSub, Nat.reduceLT, Nat.reduceLeDiff]) | (simp (disch := omega) only [wr, drop_at, str_at, int_at, Int.reduceSub, Int.reduceAdd, Int.reduceToNat, Int.toNat_zero, wr, pairG_at, List.getD_cons_zero, List.getD_cons_succ]) | ((with_reducible refine ev_call ?_); (first | (refine call_s e2 ?_ ?_ ?_ ?_ ?_; (focus rfl); (focus (simp (disch := omega) only [SubO, lookO, subO_grid, hasG_nil, hasG_cons, hasG_self, hasG_lo, hasG_hi, lookO_lo, lookO_hi, true_and, and_true, Nat.reduceEqDiff, ↓reduceIte] <;> fail)); (focus (simp [newN, lookO, ltAll, newN_gridN, hasN_cons, hasN_grid, setG_len, lens_len] <;> fail)); (focus (simp [-List.map_map, apartO, dropO, killN, obCells, refs_dmap, nofnsD, AV.refs, AV.refsL, AV.nofn, AV.nofns, all_grid, dropO_grid, killR_nil, killR_cons, killR_grid, killN_lo, gridC_refs, gridC_nofns] <;> fail)))); refine k_run ?_) | ((with_reducible refine ev_guard ?_); (with_reducible first | refine guard_t ?_ ?_ rfl | refine guard_f ?_ ?_ rfl) <;> (intro h; (try simp only [h]); (try simp only [nrm] at h) <;> (try ((with_reducible exfalso); omega)))) | ((with_reducible refine ck_split (fun h => ?_) (fun h => ?_)) <;> (try simp only [nrm] at h) <;> (try ((with_reducible exfalso); omega))) | ((with_reducible refine And.intro ?_ ?_); (first | omega | focus (simp; done) | focus (simp; omega) | focus ((repeat' (with_reducible refine And.intro ?_ ?_)) <;> first | omega | rfl | (simp only [go_sem, refsL_app, refs_dmap] <;> fail) | (simp [refsL_app, refs_dmap, AV.refsL, AV.refs] <;> omega)))) | ((with_reducible first | apply hK | (clear hK K; first | apply hK | (clear hK K; first | apply hK | (clear hK K; apply hK)))); clear hK K) | fail)
      refine ⟨i + 1, by omega, by omega, ?_⟩
      (refine lessW_of [] ?_ ?_ <;> simp (disch := omega) only [okSw, decide_eq_true_eq, Bool.and_eq_true, Bool.or_eq_true, St.updG, St.asAv, avO, dropGe, dropGe_grid, subO_grid, gridO_nil, gridO_app, gridQ_put, take_zero, hasG_nil, hasG_snoc, hasG_cons, hasG_next, hasG_self, hasG_lo, hasG_hi, lookO_lo, lookO_hi, lookO_row, lookKN, swO_grid, swO_grid0, gridC_sw0, gridC_sw, St.sws, St.sw, swS, swO, AV.sw, AV.swL, OB.sw, swp, St.upd, dropS, dropOs, Less, SubS, SubO, look, lookO, List.elem, List.cons_append, List.nil_append, cond_true, cond_false, and_true, true_and, beq_self_eq_true, ↓reduceIte, Nat.reduceEqDiff, Nat.reduceBEq, Nat.reduceAdd, Nat.reduceMul, Nat.reduceSub, Nat.reduceLT, Nat.reduceLeDiff] <;> try simp)
      simp only [← List.getD_eq_getElem?_getD]
      rw [picN, picN]
      exact of_eq_true hasG_self
    · repeat' (first | (with_reducible first | refine aw_seq fun K hK => ?_ | refine aw_region (by kernel_rfl) ?_ | refine aw_condk ?_ | refine aw_block ?_) | ((with_reducible refine evg ?_); simp only [go_sem, ↓reduceIte, Nat.reduceEqDiff, Nat.reduceBEq, Nat.reduceAdd, Nat.reduceMul, Nat.reduceSub, Nat.reduceLT, Nat.reduceLeDiff]) | (simp (disch := omega) only [wr, drop_at, str_at, int_at, Int.reduceSub, Int.reduceAdd, Int.reduceToNat, Int.toNat_zero, wr]) | ((with_reducible refine ev_guard ?_); (with_reducible first | refine guard_t ?_ ?_ rfl | refine guard_f ?_ ?_ rfl) <;> (intro h; (try simp only [h]); (try simp only [nrm] at h) <;> (try ((with_reducible exfalso); omega)))) | ((with_reducible refine ck_split (fun h => ?_) (fun h => ?_)) <;> (try simp only [nrm] at h) <;> (try ((with_reducible exfalso); omega))) | ((with_reducible refine And.intro ?_ ?_); (first | omega | focus (simp; done) | focus (simp; omega) | focus ((repeat' (with_reducible refine And.intro ?_ ?_)) <;> first | omega | rfl | (simp only [go_sem, refsL_app, refs_dmap] <;> fail) | (simp [refsL_app, refs_dmap, AV.refsL, AV.refs] <;> omega)))) | ((with_reducible first | apply hK | (clear hK K; first | apply hK | (clear hK K; first | apply hK | (clear hK K; apply hK)))); clear hK K) | fail)
      have e : i = C.length := by omega
      subst e
      refine ress_unit (topE_lens zs x c c (picN_lens hL _) (picN_lens hT _)) ?_
      simp (disch := omega) only [topE, topF, topO, SubO, lookO, lookO_lo, Nat.reduceEqDiff, ↓reduceIte, subO_grid, hasG_cons, hasG_self, true_and, and_true]

end

section

open Go.RowKit
set_option linter.unusedVariables false
set_option linter.unusedSimpArgs false

def putP (p : Bool) (zs : List (List Int)) (x y : Nat) (v : Int) : List (List Int) := if p then setG zs x y v else zs

def rowG (p : Nat → Nat → Bool) (v : Int) (bx y : Nat) (zs : List (List Int)) : Nat → List (List Int)
  | 0 => zs
  | n + 1 => putP (p (bx + n) y) (rowG p v bx y zs n) (bx + n) y v

def boxG (p : Nat → Nat → Bool) (v : Int) (bx by' s : Nat) (zs : List (List Int)) : Nat → List (List Int)
  | 0 => zs
  | n + 1 => rowG p v bx (by' + n) (boxG p v bx by' s zs n) s

theorem putP_len (p : Bool) (zs : List (List Int)) (x y : Nat) (v : Int) : (putP p zs x y v).length = zs.length := by
  unfold putP
  split
  · rw [setG_len]
  · rfl

theorem putP_ok {p : Bool} {zs : List (List Int)} {x y : Nat} {v : Int} (h : ok20 zs) : ok20 (putP p zs x y v) := by
  unfold putP
  split
  · exact ok20_set h
  · exact h

theorem rowG_len (p : Nat → Nat → Bool) (v : Int) (bx y : Nat) (zs : List (List Int)) : ∀ n, (rowG p v bx y zs n).length = zs.length
  | 0 => rfl
  | n + 1 => by rw [rowG, putP_len, rowG_len p v bx y zs n]

theorem rowG_ok {p : Nat → Nat → Bool} {v : Int} {bx y : Nat} {zs : List (List Int)} (h : ok20 zs) : ∀ n, ok20 (rowG p v bx y zs n)
  | 0 => h
  | n + 1 => putP_ok (rowG_ok h n)

theorem boxG_len (p : Nat → Nat → Bool) (v : Int) (bx by' s : Nat) (zs : List (List Int)) : ∀ n, (boxG p v bx by' s zs n).length = zs.length
  | 0 => rfl
  | n + 1 => by rw [boxG, rowG_len, boxG_len p v bx by' s zs n]

theorem boxG_ok {p : Nat → Nat → Bool} {v : Int} {bx by' s : Nat} {zs : List (List Int)} (h : ok20 zs) : ∀ n, ok20 (boxG p v bx by' s zs n)
  | 0 => h
  | n + 1 => rowG_ok (boxG_ok h n) s

theorem ok_lens {a b : List (List Int)} (ha : ok20 a) (hb : ok20 b) : lens a = lens b := (ok20_lens ha).trans (ok20_lens hb).symm

attribute [local go_sem] intL gridD lookO_lo killO_grid delO_grid putO_lo gridO_app dropGe dropGe_grid cleanO_grid gridC_len gridC_refs gridQ_refs lens_len rowsD_len setG_len dropO_grid killR_nil killR_cons killR_grid killN_lo newN_gridN hasN_cons hasN_grid Nat.le_refl refs_dmap newN_all killSs_gridN killOs_gridN killSs_gridN0 killOs_gridN0 loS_nil loS_cons loL_nil loL_cons lo_bp lo_bs lo_ag lo_tu lo_fc lo_d lo_un loO_nil loO_ds loO_av loO_dead loO_grid loL_gridC loL_dmap picZ_len List.length_append picN_len putP_len rowG_len boxG_len

attribute [local simp] putP_len rowG_len boxG_len ints_plain ints_all ints_all1 ints_plain_take refs_dmap pairs_plain pairs_all

structure GrpV where
  (c k a t : Int)

abbrev topB (g : GrpV) (bx by' s : Nat) (x : ArmsV) (c : Int) (L T : List (List Int)) : List (Nat × OB) := (5008, .av [.d (.int g.c), .d (.int g.k), .d (.int g.a), .d (.int g.t)]) :: (5009, .av [.d (.int bx), .d (.int by'), .d (.int s)]) :: topF x c L T

theorem topB_lens (g : GrpV) (bx by' s : Nat) (x : ArmsV) (c c' : Int) {L T L' T' : List (List Int)} (h1 : lens L' = lens L) (h2 : lens T' = lens T) : lensO (topB g bx by' s x c L T) (topB g bx by' s x c' L' T') := by
  simp only [topB, topF, topO, lensO, lookO, Nat.reduceEqDiff, ↓reduceIte, true_and]
  refine ⟨rfl, lensO_grid (zs := L ++ T) (by simp only [lensO]) ?_ (by rw [lens_app, lens_app, h1, h2])⟩
  rw [hasG_cons (by decide), hasG_cons (by decide), hasG_cons (by decide), hasG_cons (by decide), hasG_cons (by decide), hasG_cons (by decide), hasG_cons (by decide), hasG_cons (by decide), hasG_cons (by decide)]
  exact of_eq_true hasG_self

def shpP (g : GrpV) (bx by' s : Nat) (x y : Nat) : Bool := shpZ g.k g.a s ((x : Int) - bx) ((y : Int) - by')

set_option maxRecDepth 100000 in
set_option maxHeartbeats 4000000 in
theorem box1_hi (g : GrpV) (bx by' s : Nat) (x : ArmsV) (c : Int) (L T : List (List Int)) (a b : Nat) (hk : 1 ≤ g.k ∧ g.k ≤ 8) (hs : 1 ≤ s ∧ s ≤ 8) (hx : bx + s ≤ 20) (hy : by' + s ≤ 24) (ha : bx ≤ a ∧ a < bx + s) (hb : by' ≤ b ∧ b < by' + s) (hL : ok20 L) (hT : ok20 T) : FnS Try.prog 133 (topB g bx by' s x c L T) [.d (.int a), .d (.int b), .bp 5008 0, .bp 5009 0, .bp 5004 0, .bp 5007 0] (topB g bx by' s x c (putP (shpP g bx by' s a b) L a b c) (putP (shpP g bx by' s a b) T a b g.t)) (.d (.bool true)) := by
  have hL1 := hL.1
  have hT1 := hT.1
  have hLT : (L ++ T).length = 48 := by rw [List.length_append]; omega
  have e1 := shape_fn g.k g.a s ((a : Int) - bx) ((b : Int) - by') hk (by omega) (by omega) (by omega)
  have e2 := paint_hi L T a b c g.t hL hT (by omega) (by omega)
  change FnD Try.prog 134 _ (.bool (shpP g bx by' s a b)) at e1
  have hl1 : lens (putP (shpP g bx by' s a b) L a b c) = lens L := ok_lens (putP_ok hL) hL
  have hl2 : lens (putP (shpP g bx by' s a b) T a b g.t) = lens T := ok_lens (putP_ok hT) hT
  cases q : shpP g bx by' s a b
  · rw [q] at e1 hl1 hl2
    simp only [putP, Bool.false_eq_true, if_false]
    refine fns_go Try.func133 rfl rfl Try.ntmps133 Try.results133 (by simp only [slotsA, Nat.reduceAdd]; rfl) (by simp) (by simp (disch := omega) only [geAll, geAll_grid]; rfl) ?_
    repeat' (first | (with_reducible first | refine aw_seq fun K hK => ?_ | refine aw_region (by kernel_rfl) ?_ | refine aw_condk ?_ | refine aw_block ?_) | ((with_reducible refine evg ?_); simp only [go_sem, ↓reduceIte, Nat.reduceEqDiff, Nat.reduceBEq, Nat.reduceAdd, Nat.reduceMul, Nat.reduceSub, Nat.reduceLT, Nat.reduceLeDiff]) | (simp (disch := omega) only [wr, drop_at, str_at, int_at, Int.reduceSub, Int.reduceAdd, Int.reduceToNat, Int.toNat_zero, wr]) | ((with_reducible refine ev_call ?_); (first | (refine call_fn e1 rfl ?_)); refine k_run ?_) | ((with_reducible refine ev_guard ?_); (with_reducible first | refine guard_t ?_ ?_ rfl | refine guard_f ?_ ?_ rfl) <;> (intro h; (try simp only [h]); (try simp only [nrm] at h) <;> (try ((with_reducible exfalso); omega)))) | ((with_reducible refine ck_split (fun h => ?_) (fun h => ?_)) <;> (try simp only [nrm] at h) <;> (try ((with_reducible exfalso); omega))) | ((with_reducible refine And.intro ?_ ?_); (first | omega | focus (simp; done) | focus (simp; omega) | focus ((repeat' (with_reducible refine And.intro ?_ ?_)) <;> first | omega | rfl | (simp only [go_sem, refsL_app, refs_dmap] <;> fail) | (simp [refsL_app, refs_dmap, AV.refsL, AV.refs] <;> omega)))) | ((with_reducible first | apply hK | (clear hK K; first | apply hK | (clear hK K; first | apply hK | (clear hK K; apply hK)))); clear hK K) | fail)
    refine ress_tmp (topB_lens g bx by' s x c c rfl rfl) ?_ rfl
    simp (disch := omega) only [topB, topF, topO, SubO, lookO, lookO_lo, Nat.reduceEqDiff, ↓reduceIte, subO_grid, hasG_cons, hasG_self, true_and, and_true]
  · rw [q] at e1 hl1 hl2
    simp only [putP, if_true] at hl1 hl2 ⊢
    refine fns_go Try.func133 rfl rfl Try.ntmps133 Try.results133 (by simp only [slotsA, Nat.reduceAdd]; rfl) (by simp) (by simp (disch := omega) only [geAll, geAll_grid]; rfl) ?_
    repeat' (first | (with_reducible first | refine aw_seq fun K hK => ?_ | refine aw_region (by kernel_rfl) ?_ | refine aw_condk ?_ | refine aw_block ?_) | ((with_reducible refine evg ?_); simp only [go_sem, ↓reduceIte, Nat.reduceEqDiff, Nat.reduceBEq, Nat.reduceAdd, Nat.reduceMul, Nat.reduceSub, Nat.reduceLT, Nat.reduceLeDiff]) | (simp (disch := omega) only [wr, drop_at, str_at, int_at, Int.reduceSub, Int.reduceAdd, Int.reduceToNat, Int.toNat_zero, wr]) | ((with_reducible refine ev_call ?_); (first | (refine call_fn e1 rfl ?_) | (refine call_s e2 ?_ ?_ ?_ ?_ ?_; (focus rfl); (focus (simp (disch := omega) only [SubO, lookO, subO_grid, hasG_nil, hasG_cons, hasG_self, hasG_lo, hasG_hi, lookO_lo, lookO_hi, true_and, and_true, Nat.reduceEqDiff, ↓reduceIte] <;> fail)); (focus (simp [newN, lookO, ltAll, newN_gridN, hasN_cons, hasN_grid, setG_len, lens_len] <;> fail)); (focus (simp [-List.map_map, apartO, dropO, killN, obCells, refs_dmap, nofnsD, AV.refs, AV.refsL, AV.nofn, AV.nofns, all_grid, dropO_grid, killR_nil, killR_cons, killR_grid, killN_lo, gridC_refs, gridC_nofns] <;> fail)))); refine k_run ?_) | ((with_reducible refine ev_guard ?_); (with_reducible first | refine guard_t ?_ ?_ rfl | refine guard_f ?_ ?_ rfl) <;> (intro h; (try simp only [h]); (try simp only [nrm] at h) <;> (try ((with_reducible exfalso); omega)))) | ((with_reducible refine ck_split (fun h => ?_) (fun h => ?_)) <;> (try simp only [nrm] at h) <;> (try ((with_reducible exfalso); omega))) | ((with_reducible refine And.intro ?_ ?_); (first | omega | focus (simp; done) | focus (simp; omega) | focus ((repeat' (with_reducible refine And.intro ?_ ?_)) <;> first | omega | rfl | (simp only [go_sem, refsL_app, refs_dmap] <;> fail) | (simp [refsL_app, refs_dmap, AV.refsL, AV.refs] <;> omega)))) | ((with_reducible first | apply hK | (clear hK K; first | apply hK | (clear hK K; first | apply hK | (clear hK K; apply hK)))); clear hK K) | fail)
    refine ress_tmp (topB_lens g bx by' s x c c hl1 hl2) ?_ rfl
    simp (disch := omega) only [topB, topF, topO, SubO, lookO, lookO_lo, Nat.reduceEqDiff, ↓reduceIte, subO_grid, hasG_cons, hasG_self, true_and, and_true]

set_option maxRecDepth 100000 in
set_option maxHeartbeats 4000000 in
theorem boxAll_hi (g : GrpV) (bx by' s : Nat) (x : ArmsV) (c : Int) (L T : List (List Int)) (hk : 1 ≤ g.k ∧ g.k ≤ 8) (hs : 1 ≤ s ∧ s ≤ 8) (hx : bx + s ≤ 20) (hy : by' + s ≤ 24) (hL : ok20 L) (hT : ok20 T) : FnS Try.prog 132 (topB g bx by' s x c L T) [.d (.ag [.int bx, .int by', .int s]), .fc 133 [] [.bp 5008 0, .bp 5009 0, .bp 5004 0, .bp 5007 0]] (topB g bx by' s x c (boxG (shpP g bx by' s) c bx by' s L s) (boxG (shpP g bx by' s) g.t bx by' s T s)) (.d (.bool true)) := by
  have hL1 := hL.1
  have hT1 := hT.1
  have hLT : (L ++ T).length = 48 := by rw [List.length_append]; omega
  have hstep := fun (L T : List (List Int)) a b => box1_hi g bx by' s x c L T a b hk hs hx hy
  generalize shpP g bx by' s = P at *
  refine fns_go Try.func132 rfl rfl Try.ntmps132 Try.results132 (by simp only [slotsA, Nat.reduceAdd]; rfl) (by simp) (by simp (disch := omega) only [geAll, geAll_grid]; rfl) ?_
  repeat' (first | (with_reducible first | refine aw_seq fun K hK => ?_ | refine aw_region (by kernel_rfl) ?_ | refine aw_condk ?_ | refine aw_block ?_) | ((with_reducible refine evg ?_); simp only [go_sem, ↓reduceIte, Nat.reduceEqDiff, Nat.reduceBEq, Nat.reduceAdd, Nat.reduceMul, Nat.reduceSub, Nat.reduceLT, Nat.reduceLeDiff]) | (simp (disch := omega) only [wr, drop_at, str_at, int_at, Int.reduceSub, Int.reduceAdd, Int.reduceToNat, Int.toNat_zero, wr]) | ((with_reducible refine ev_guard ?_); (with_reducible first | refine guard_t ?_ ?_ rfl | refine guard_f ?_ ?_ rfl) <;> (intro h; (try simp only [h]); (try simp only [nrm] at h) <;> (try ((with_reducible exfalso); omega)))) | ((with_reducible refine ck_split (fun h => ?_) (fun h => ?_)) <;> (try simp only [nrm] at h) <;> (try ((with_reducible exfalso); omega))) | ((with_reducible refine And.intro ?_ ?_); (first | omega | focus (simp; done) | focus (simp; omega) | focus ((repeat' (with_reducible refine And.intro ?_ ?_)) <;> first | omega | rfl | (simp only [go_sem, refsL_app, refs_dmap] <;> fail) | (simp [refsL_app, refs_dmap, AV.refsL, AV.refs] <;> omega)))) | ((with_reducible first | apply hK | (clear hK K; first | apply hK | (clear hK K; first | apply hK | (clear hK K; apply hK)))); clear hK K) | fail)
  refine aw_loopG [4, 5, 6, 9, 10, 11, 12, 13, 14, 15, 16, 17, 18, 19, 20, 21, 22, 23, 24, 25, 26, 27, 28, 29, 30, 31, 32, 33] [32] 10000 (fun j : Nat => [(5, .d (.int ((by' : Int) + j)))]) (fun j => gridO 10000 (boxG P c bx by' s L j ++ boxG P g.t bx by' s T j) []) (fun j => j ≤ s) (fun j => s - j) 0 (by omega) ?_ ?_
  · (refine lessW_of [] ?_ ?_ <;> simp (disch := omega) only [okSw, decide_eq_true_eq, Bool.and_eq_true, Bool.or_eq_true, St.updG, St.asAv, avO, dropGe, dropGe_grid, subO_grid, gridO_nil, gridO_app, gridQ_put, take_zero, hasG_nil, hasG_snoc, hasG_cons, hasG_next, hasG_self, hasG_lo, hasG_hi, lookO_lo, lookO_hi, lookO_row, lookKN, swO_grid, swO_grid0, gridC_sw0, gridC_sw, St.sws, St.sw, swS, swO, AV.sw, AV.swL, OB.sw, swp, St.upd, dropS, dropOs, Less, SubS, SubO, look, lookO, List.elem, List.cons_append, List.nil_append, cond_true, cond_false, and_true, true_and, beq_self_eq_true, ↓reduceIte, Nat.reduceEqDiff, Nat.reduceBEq, Nat.reduceAdd, Nat.reduceMul, Nat.reduceSub, Nat.reduceLT, Nat.reduceLeDiff] <;> try simp)
    all_goals first
      | rfl
      | exact of_eq_true hasG_self
      | exact ⟨by omega, of_eq_true hasG_self⟩
  · rintro j g1
    simp only [St.updG, St.asAv, avO, dropS, dropOs, dropGe, dropGe_grid, dropGe_keep, gridO_nil, List.elem, List.cons_append, List.nil_append, gridO_app, cond_true, cond_false, beq_self_eq_true, ↓reduceIte, Nat.reduceEqDiff, Nat.reduceBEq, Nat.reduceAdd, Nat.reduceMul, Nat.reduceSub, Nat.reduceLT, Nat.reduceLeDiff]
    have k1 := boxG_ok (p := P) (v := c) (bx := bx) (by' := by') (s := s) hL j
    have k2 := boxG_ok (p := P) (v := g.t) (bx := bx) (by' := by') (s := s) hT j
    by_cases hj : j < s
    · repeat' (first | (with_reducible first | refine aw_seq fun K hK => ?_ | refine aw_region (by kernel_rfl) ?_ | refine aw_condk ?_ | refine aw_block ?_) | ((with_reducible refine evg ?_); simp only [go_sem, ↓reduceIte, Nat.reduceEqDiff, Nat.reduceBEq, Nat.reduceAdd, Nat.reduceMul, Nat.reduceSub, Nat.reduceLT, Nat.reduceLeDiff]) | (simp (disch := omega) only [wr, drop_at, str_at, int_at, Int.reduceSub, Int.reduceAdd, Int.reduceToNat, Int.toNat_zero, wr]) | ((with_reducible refine ev_guard ?_); (with_reducible first | refine guard_t ?_ ?_ rfl | refine guard_f ?_ ?_ rfl) <;> (intro h; (try simp only [h]); (try simp only [nrm] at h) <;> (try ((with_reducible exfalso); omega)))) | ((with_reducible refine ck_split (fun h => ?_) (fun h => ?_)) <;> (try simp only [nrm] at h) <;> (try ((with_reducible exfalso); omega))) | ((with_reducible refine And.intro ?_ ?_); (first | omega | focus (simp; done) | focus (simp; omega) | focus ((repeat' (with_reducible refine And.intro ?_ ?_)) <;> first | omega | rfl | (simp only [go_sem, refsL_app, refs_dmap] <;> fail) | (simp [refsL_app, refs_dmap, AV.refsL, AV.refs] <;> omega)))) | ((with_reducible first | apply hK | (clear hK K; first | apply hK | (clear hK K; first | apply hK | (clear hK K; apply hK)))); clear hK K) | fail)
      refine aw_loopG [4, 6, 20, 21, 22, 23, 24, 25, 26, 27, 28, 29, 30, 31, 32, 33] [32] 10000 (fun i : Nat => [(6, .d (.int ((bx : Int) + i)))]) (fun i => gridO 10000 (rowG P c bx (by' + j) (boxG P c bx by' s L j) i ++ rowG P g.t bx (by' + j) (boxG P g.t bx by' s T j) i) []) (fun i => i ≤ s) (fun i => s - i) 0 (by omega) ?_ ?_
      · (refine lessW_of [] ?_ ?_ <;> simp (disch := omega) only [okSw, decide_eq_true_eq, Bool.and_eq_true, Bool.or_eq_true, St.updG, St.asAv, avO, dropGe, dropGe_grid, subO_grid, gridO_nil, gridO_app, gridQ_put, take_zero, hasG_nil, hasG_snoc, hasG_cons, hasG_next, hasG_self, hasG_lo, hasG_hi, lookO_lo, lookO_hi, lookO_row, lookKN, swO_grid, swO_grid0, gridC_sw0, gridC_sw, St.sws, St.sw, swS, swO, AV.sw, AV.swL, OB.sw, swp, St.upd, dropS, dropOs, Less, SubS, SubO, look, lookO, List.elem, List.cons_append, List.nil_append, cond_true, cond_false, and_true, true_and, beq_self_eq_true, ↓reduceIte, Nat.reduceEqDiff, Nat.reduceBEq, Nat.reduceAdd, Nat.reduceMul, Nat.reduceSub, Nat.reduceLT, Nat.reduceLeDiff] <;> try simp)
        all_goals first
          | rfl
          | exact of_eq_true hasG_self
          | exact ⟨by omega, of_eq_true hasG_self⟩
      · rintro i f1
        simp only [St.updG, St.asAv, avO, dropS, dropOs, dropGe, dropGe_grid, dropGe_keep, gridO_nil, List.elem, List.cons_append, List.nil_append, gridO_app, cond_true, cond_false, beq_self_eq_true, ↓reduceIte, Nat.reduceEqDiff, Nat.reduceBEq, Nat.reduceAdd, Nat.reduceMul, Nat.reduceSub, Nat.reduceLT, Nat.reduceLeDiff]
        by_cases hi : i < s
        · have e1 := hstep _ _ (bx + i) (by' + j) (by omega) (by omega) (rowG_ok (p := P) (v := c) (bx := bx) (y := by' + j) k1 i) (rowG_ok (p := P) (v := g.t) (bx := bx) (y := by' + j) k2 i)
          repeat' (first | (with_reducible first | refine aw_seq fun K hK => ?_ | refine aw_region (by kernel_rfl) ?_ | refine aw_condk ?_ | refine aw_block ?_) | ((with_reducible refine evg ?_); simp only [go_sem, ↓reduceIte, Nat.reduceEqDiff, Nat.reduceBEq, Nat.reduceAdd, Nat.reduceMul, Nat.reduceSub, Nat.reduceLT, Nat.reduceLeDiff]) | (simp (disch := omega) only [wr, drop_at, str_at, int_at, Int.reduceSub, Int.reduceAdd, Int.reduceToNat, Int.toNat_zero, wr]) | ((with_reducible refine ev_call ?_); (first | (refine call_s e1 ?_ ?_ ?_ ?_ ?_; (focus rfl); (focus (simp (disch := omega) only [SubO, lookO, subO_grid, hasG_nil, hasG_cons, hasG_self, hasG_lo, hasG_hi, lookO_lo, lookO_hi, true_and, and_true, Nat.reduceEqDiff, ↓reduceIte] <;> fail)); (focus (simp [newN, lookO, ltAll, newN_gridN, hasN_cons, hasN_grid, setG_len, lens_len] <;> fail)); (focus (simp [-List.map_map, apartO, dropO, killN, obCells, refs_dmap, nofnsD, AV.refs, AV.refsL, AV.nofn, AV.nofns, all_grid, dropO_grid, killR_nil, killR_cons, killR_grid, killN_lo, gridC_refs, gridC_nofns] <;> fail)))); refine k_run ?_) | ((with_reducible refine ev_guard ?_); (with_reducible first | refine guard_t ?_ ?_ rfl | refine guard_f ?_ ?_ rfl) <;> (intro h; (try simp only [h]); (try simp only [nrm] at h) <;> (try ((with_reducible exfalso); omega)))) | ((with_reducible refine ck_split (fun h => ?_) (fun h => ?_)) <;> (try simp only [nrm] at h) <;> (try ((with_reducible exfalso); omega))) | ((with_reducible refine And.intro ?_ ?_); (first | omega | focus (simp; done) | focus (simp; omega) | focus ((repeat' (with_reducible refine And.intro ?_ ?_)) <;> first | omega | rfl | (simp only [go_sem, refsL_app, refs_dmap] <;> fail) | (simp [refsL_app, refs_dmap, AV.refsL, AV.refs] <;> omega)))) | ((with_reducible first | apply hK | (clear hK K; first | apply hK | (clear hK K; first | apply hK | (clear hK K; apply hK)))); clear hK K) | fail)
          refine ⟨i + 1, by omega, by omega, ?_⟩
          (refine lessW_of [] ?_ ?_ <;> simp (disch := omega) only [okSw, decide_eq_true_eq, Bool.and_eq_true, Bool.or_eq_true, St.updG, St.asAv, avO, dropGe, dropGe_grid, subO_grid, gridO_nil, gridO_app, gridQ_put, take_zero, hasG_nil, hasG_snoc, hasG_cons, hasG_next, hasG_self, hasG_lo, hasG_hi, lookO_lo, lookO_hi, lookO_row, lookKN, swO_grid, swO_grid0, gridC_sw0, gridC_sw, St.sws, St.sw, swS, swO, AV.sw, AV.swL, OB.sw, swp, St.upd, dropS, dropOs, Less, SubS, SubO, look, lookO, List.elem, List.cons_append, List.nil_append, cond_true, cond_false, and_true, true_and, beq_self_eq_true, ↓reduceIte, Nat.reduceEqDiff, Nat.reduceBEq, Nat.reduceAdd, Nat.reduceMul, Nat.reduceSub, Nat.reduceLT, Nat.reduceLeDiff] <;> try simp)
          all_goals first
            | omega
            | rfl
            | exact of_eq_true hasG_self
            | exact ⟨by omega, of_eq_true hasG_self⟩
        · repeat' (first | (with_reducible first | refine aw_seq fun K hK => ?_ | refine aw_region (by kernel_rfl) ?_ | refine aw_condk ?_ | refine aw_block ?_) | ((with_reducible refine evg ?_); simp only [go_sem, ↓reduceIte, Nat.reduceEqDiff, Nat.reduceBEq, Nat.reduceAdd, Nat.reduceMul, Nat.reduceSub, Nat.reduceLT, Nat.reduceLeDiff]) | (simp (disch := omega) only [wr, drop_at, str_at, int_at, Int.reduceSub, Int.reduceAdd, Int.reduceToNat, Int.toNat_zero, wr]) | ((with_reducible refine ev_guard ?_); (with_reducible first | refine guard_t ?_ ?_ rfl | refine guard_f ?_ ?_ rfl) <;> (intro h; (try simp only [h]); (try simp only [nrm] at h) <;> (try ((with_reducible exfalso); omega)))) | ((with_reducible refine ck_split (fun h => ?_) (fun h => ?_)) <;> (try simp only [nrm] at h) <;> (try ((with_reducible exfalso); omega))) | ((with_reducible refine And.intro ?_ ?_); (first | omega | focus (simp; done) | focus (simp; omega) | focus ((repeat' (with_reducible refine And.intro ?_ ?_)) <;> first | omega | rfl | (simp only [go_sem, refsL_app, refs_dmap] <;> fail) | (simp [refsL_app, refs_dmap, AV.refsL, AV.refs] <;> omega)))) | ((with_reducible first | apply hK | (clear hK K; first | apply hK | (clear hK K; first | apply hK | (clear hK K; apply hK)))); clear hK K) | fail)
          have e : i = s := by omega
          subst e
          refine ⟨j + 1, by omega, by omega, ?_⟩
          (refine lessW_of [] ?_ ?_ <;> simp (disch := omega) only [okSw, decide_eq_true_eq, Bool.and_eq_true, Bool.or_eq_true, St.updG, St.asAv, avO, dropGe, dropGe_grid, subO_grid, gridO_nil, gridO_app, gridQ_put, take_zero, hasG_nil, hasG_snoc, hasG_cons, hasG_next, hasG_self, hasG_lo, hasG_hi, lookO_lo, lookO_hi, lookO_row, lookKN, swO_grid, swO_grid0, gridC_sw0, gridC_sw, St.sws, St.sw, swS, swO, AV.sw, AV.swL, OB.sw, swp, St.upd, dropS, dropOs, Less, SubS, SubO, look, lookO, List.elem, List.cons_append, List.nil_append, cond_true, cond_false, and_true, true_and, beq_self_eq_true, ↓reduceIte, Nat.reduceEqDiff, Nat.reduceBEq, Nat.reduceAdd, Nat.reduceMul, Nat.reduceSub, Nat.reduceLT, Nat.reduceLeDiff] <;> try simp)
          all_goals first
            | omega
            | rfl
            | exact of_eq_true hasG_self
            | exact ⟨by omega, of_eq_true hasG_self⟩
    · repeat' (first | (with_reducible first | refine aw_seq fun K hK => ?_ | refine aw_region (by kernel_rfl) ?_ | refine aw_condk ?_ | refine aw_block ?_) | ((with_reducible refine evg ?_); simp only [go_sem, ↓reduceIte, Nat.reduceEqDiff, Nat.reduceBEq, Nat.reduceAdd, Nat.reduceMul, Nat.reduceSub, Nat.reduceLT, Nat.reduceLeDiff]) | (simp (disch := omega) only [wr, drop_at, str_at, int_at, Int.reduceSub, Int.reduceAdd, Int.reduceToNat, Int.toNat_zero, wr]) | ((with_reducible refine ev_guard ?_); (with_reducible first | refine guard_t ?_ ?_ rfl | refine guard_f ?_ ?_ rfl) <;> (intro h; (try simp only [h]); (try simp only [nrm] at h) <;> (try ((with_reducible exfalso); omega)))) | ((with_reducible refine ck_split (fun h => ?_) (fun h => ?_)) <;> (try simp only [nrm] at h) <;> (try ((with_reducible exfalso); omega))) | ((with_reducible refine And.intro ?_ ?_); (first | omega | focus (simp; done) | focus (simp; omega) | focus ((repeat' (with_reducible refine And.intro ?_ ?_)) <;> first | omega | rfl | (simp only [go_sem, refsL_app, refs_dmap] <;> fail) | (simp [refsL_app, refs_dmap, AV.refsL, AV.refs] <;> omega)))) | ((with_reducible first | apply hK | (clear hK K; first | apply hK | (clear hK K; first | apply hK | (clear hK K; apply hK)))); clear hK K) | fail)
      have e : j = s := by omega
      subst e
      refine ress_tmp (topB_lens g bx by' j x c c (ok_lens k1 hL) (ok_lens k2 hT)) ?_ rfl
      simp (disch := omega) only [topB, topF, topO, SubO, lookO, lookO_lo, Nat.reduceEqDiff, ↓reduceIte, subO_grid, hasG_cons, hasG_self, true_and, and_true]

end

section

open Go.RowKit
set_option linter.unusedVariables false
set_option linter.unusedSimpArgs false

theorem pmL_top1 : AV.pmL (rng 10000 1000000000 2000000) (gridC 10000 len24) = gridC 1000000000 len24 := pmL_grid1 (by decide)

theorem pmL_top2 : AV.pmL (rng 10000 1000000000 2000000) (gridC 10024 len24) = gridC 1000000024 len24 := pmL_gridC 24 (by decide)

abbrev topN (x : ArmsV) (c : Int) (L T : List (List Int)) : List (Nat × OB) := (7, .av [.fc 129 [] [.bp 4 0, .bp 5 0]]) :: (1, .av (armsA x)) :: (6, .av [.d (.int c)]) :: (16, .av (gridC 1000000000 len24)) :: (17, .av (gridC 1000000024 len24)) :: (4, .av [.bs 16 0 24 1]) :: (5, .av [.bs 17 0 24 1]) :: gridO 1000000000 (L ++ T) []

theorem each2_s (x : ArmsV) (c : Int) (l : Nat) (hfl : x.fl = l) (h5 : l < 5) (zs : List Int) (L T : List (List Int)) (hz : okReg zs = true) (hL : ok20 L) (hT : ok20 T) : FnS Try.prog 111 ((19, .ds (zs.map D.int)) :: topN x c L T) [.ag [.bs 19 0 24 1], .fc 130 [] [.bp 7 0, .bp 1 0]] ((19, .ds (zs.map D.int)) :: topN x c (picN (fun _ _ => 1) (cellsN zs 480) L (cellsN zs 480).length) (picN (tinctZ x.fd l x.ff x.fs) (cellsN zs 480) T (cellsN zs 480).length)) (.tu []) := by
  have q := (((((((((each2_hi x c l hfl h5 zs L T hz hL hT).pm (rng 10000 1000000000 2000000)).sw 5000 16).sw 5001 17).sw 5002 4).sw 5003 5).sw 5004 7).sw 5005 1).sw 5007 6).sw 5006 19
  have l1 : (L ++ T).length ≤ 2000000 := by rw [List.length_append, hL.1, hT.1]; decide
  have l2 : (picN (fun _ _ => 1) (cellsN zs 480) L (cellsN zs 480).length ++ picN (tinctZ x.fd l x.ff x.fs) (cellsN zs 480) T (cellsN zs 480).length).length ≤ 2000000 := by rw [List.length_append, picN_len, picN_len, hL.1, hT.1]; decide
  simpa (disch := decide) only [topE, topB, topF, topO, topN, armsA, pmO, OB.pm, pmL_top1, pmL_top2, AV.pmL, AV.pm, rng1_lo (show 5000 < 10000 by decide), rng1_lo (show 5001 < 10000 by decide), rng1_lo (show 5002 < 10000 by decide), rng1_lo (show 5003 < 10000 by decide), rng1_lo (show 5004 < 10000 by decide), rng1_lo (show 5005 < 10000 by decide), rng1_lo (show 5006 < 10000 by decide), rng1_lo (show 5007 < 10000 by decide), rng1_lo (show 5008 < 10000 by decide), rng1_lo (show 5009 < 10000 by decide), pmO_grid1 l1, pmO_grid1 l2, swO, OB.sw, AV.sw, AV.swL, swp, Nat.reduceEqDiff, ↓reduceIte, gridC_sw0, swO_grid0] using q

theorem each3_s (x : ArmsV) (c : Int) (zs : List Int) (L T : List (List Int)) (hz : okReg zs = true) (hL : ok20 L) (hT : ok20 T) : FnS Try.prog 111 ((28, .ds (zs.map D.int)) :: topN x c L T) [.ag [.bs 28 0 24 1], .fc 131 [] [.bp 7 0, .bp 6 0, .bp 1 0]] ((28, .ds (zs.map D.int)) :: topN x c (picN (fun _ _ => c) (cellsN zs 480) L (cellsN zs 480).length) (picN (fun _ _ => x.t) (cellsN zs 480) T (cellsN zs 480).length)) (.tu []) := by
  have q := (((((((((each3_hi x c zs L T hz hL hT).pm (rng 10000 1000000000 2000000)).sw 5000 16).sw 5001 17).sw 5002 4).sw 5003 5).sw 5004 7).sw 5005 1).sw 5007 6).sw 5006 28
  have l1 : (L ++ T).length ≤ 2000000 := by rw [List.length_append, hL.1, hT.1]; decide
  have l2 : (picN (fun _ _ => c) (cellsN zs 480) L (cellsN zs 480).length ++ picN (fun _ _ => x.t) (cellsN zs 480) T (cellsN zs 480).length).length ≤ 2000000 := by rw [List.length_append, picN_len, picN_len, hL.1, hT.1]; decide
  simpa (disch := decide) only [topE, topB, topF, topO, topN, armsA, pmO, OB.pm, pmL_top1, pmL_top2, AV.pmL, AV.pm, rng1_lo (show 5000 < 10000 by decide), rng1_lo (show 5001 < 10000 by decide), rng1_lo (show 5002 < 10000 by decide), rng1_lo (show 5003 < 10000 by decide), rng1_lo (show 5004 < 10000 by decide), rng1_lo (show 5005 < 10000 by decide), rng1_lo (show 5006 < 10000 by decide), rng1_lo (show 5007 < 10000 by decide), rng1_lo (show 5008 < 10000 by decide), rng1_lo (show 5009 < 10000 by decide), pmO_grid1 l1, pmO_grid1 l2, swO, OB.sw, AV.sw, AV.swL, swp, Nat.reduceEqDiff, ↓reduceIte, gridC_sw0, swO_grid0] using q

theorem boxAll_s (g : GrpV) (bx by' s : Nat) (x : ArmsV) (c : Int) (L T : List (List Int)) (hk : 1 ≤ g.k ∧ g.k ≤ 8) (hs : 1 ≤ s ∧ s ≤ 8) (hx : bx + s ≤ 20) (hy : by' + s ≤ 24) (hL : ok20 L) (hT : ok20 T) : FnS Try.prog 132 ((13, .av [.d (.int g.c), .d (.int g.k), .d (.int g.a), .d (.int g.t)]) :: (15, .av [.d (.int bx), .d (.int by'), .d (.int s)]) :: topN x c L T) [.d (.ag [.int bx, .int by', .int s]), .fc 133 [] [.bp 13 0, .bp 15 0, .bp 7 0, .bp 6 0]] ((13, .av [.d (.int g.c), .d (.int g.k), .d (.int g.a), .d (.int g.t)]) :: (15, .av [.d (.int bx), .d (.int by'), .d (.int s)]) :: topN x c (boxG (shpP g bx by' s) c bx by' s L s) (boxG (shpP g bx by' s) g.t bx by' s T s)) (.d (.bool true)) := by
  have q := ((((((((((boxAll_hi g bx by' s x c L T hk hs hx hy hL hT).pm (rng 10000 1000000000 2000000)).sw 5000 16).sw 5001 17).sw 5002 4).sw 5003 5).sw 5004 7).sw 5005 1).sw 5007 6).sw 5008 13).sw 5009 15
  have l1 : (L ++ T).length ≤ 2000000 := by rw [List.length_append, hL.1, hT.1]; decide
  have l2 : (boxG (shpP g bx by' s) c bx by' s L s ++ boxG (shpP g bx by' s) g.t bx by' s T s).length ≤ 2000000 := by rw [List.length_append, boxG_len, boxG_len, hL.1, hT.1]; decide
  simpa (disch := decide) only [topE, topB, topF, topO, topN, armsA, pmO, OB.pm, pmL_top1, pmL_top2, AV.pmL, AV.pm, rng1_lo (show 5000 < 10000 by decide), rng1_lo (show 5001 < 10000 by decide), rng1_lo (show 5002 < 10000 by decide), rng1_lo (show 5003 < 10000 by decide), rng1_lo (show 5004 < 10000 by decide), rng1_lo (show 5005 < 10000 by decide), rng1_lo (show 5006 < 10000 by decide), rng1_lo (show 5007 < 10000 by decide), rng1_lo (show 5008 < 10000 by decide), rng1_lo (show 5009 < 10000 by decide), pmO_grid1 l1, pmO_grid1 l2, swO, OB.sw, AV.sw, AV.swL, swp, Nat.reduceEqDiff, ↓reduceIte, gridC_sw0, swO_grid0] using q

end

end Go.Proofs.Ytaegdaimjhhgpaa
