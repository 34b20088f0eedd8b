/- PaintArms: contracts and the law. -/
import Derived.Test.YtaegdaimjhhgpaaTops4
import Derived.Test.YtaegdaimjhhgpaaDrawP
import Derived.Test.YtaegdaimjhhgpaaPic4
import Derived.WalkKit
import Derived.WalkSpells
import Derived.KernelRfl
namespace Go.Proofs.Ytaegdaimjhhgpaa
open Go.RowKit
set_option linter.unusedVariables false
set_option linter.unusedSimpArgs false

attribute [local go_sem] intL gridD lookO_lo killO_grid delO_grid putO_lo gridO_app dropGe dropGe_grid cleanO_grid gridC_len gridC_refs gridQ_refs lens_len rowsD_len setG_len dropO_grid killR_nil killR_cons killR_grid killN_lo newN_gridN hasN_cons hasN_grid Nat.le_refl refs_dmap newN_all killSs_gridN killOs_gridN killSs_gridN0 killOs_gridN0 loS_nil loS_cons loL_nil loL_cons lo_bp lo_bs lo_ag lo_tu lo_fc lo_d lo_un loO_nil loO_ds loO_av loO_dead loO_grid loL_gridC loL_dmap picZ_len allD_grid refsL_app' numsR_len ArmsV.d len24_len

attribute [local simp] ints_plain ints_all ints_all1 ints_plain_take refs_dmap gridC_refs

theorem T4_len (x : ArmsV) : (T4 x).length = 24 := (T4_ok x).1

theorem L4_len (x : ArmsV) : (L4 x).length = 24 := (L4_ok x).1

attribute [local simp] T4_len L4_len

attribute [local go_sem] T4_len L4_len

theorem gridO_names {B : Nat} {zs : List (List Int)} {r : List (Nat × OB)} {p : Nat × OB} (h : p ∈ gridO B zs r) : (B ≤ p.1 ∧ p.1 < B + zs.length) ∨ p ∈ r := by
  induction zs generalizing B with
  | nil => exact .inr h
  | cons z zs ih =>
    simp only [gridO, List.mem_cons] at h
    rw [List.length_cons]
    rcases h with rfl | h
    · exact .inl ⟨Nat.le_refl _, by simp only []; omega⟩
    · rcases ih h with q | q
      · exact .inl ⟨by omega, by omega⟩
      · exact .inr q

/-- Two lists of rows, opened. -/
theorem two_opn (s t : Nat) (hst : s ≠ t) (hs : s < 1000000000) (ht : t < 1000000000) {L T : List (List Int)} (hL : ok20 L) (hT : ok20 T) : Opn (.tu [.ls 1 24 (rowsD L), .ls 1 24 (rowsD T)]) (.tu [.bs s 0 24 1, .bs t 0 24 1]) ((s, .av (gridC 1000000000 len24)) :: gridO 1000000000 L ((t, .av (gridC 1000000024 len24)) :: gridO 1000000024 T [])) := by
  have o1 := opn_grid s 1000000000 L hs
  have o2 := opn_grid t 1000000024 T (by omega)
  rw [hL.1, ok20_lens hL] at o1
  rw [hT.1, ok20_lens hT] at o2
  have := opn_tu (opnL_cons o1 (opnL_cons o2 opnL_nil (by simp [apartN])) ?_)
  · simpa only [List.cons_append, gridO_app, List.nil_append, List.append_nil] using this
  · simp only [apartN, List.all_eq_true, bne_iff_ne, List.append_nil]
    intro p hp q hq e
    rw [List.mem_cons] at hp hq
    have hp2 : p.1 = s ∨ (1000000000 ≤ p.1 ∧ p.1 < 1000000024) := by
      rcases hp with rfl | hp
      · exact .inl rfl
      · rcases gridO_names hp with h | h
        · rw [hL.1] at h
          exact .inr ⟨h.1, h.2⟩
        · exact absurd h (by simp)
    have hq2 : q.1 = t ∨ 1000000024 ≤ q.1 := by
      rcases hq with rfl | hq
      · exact .inl rfl
      · rcases gridO_names hq with h | h
        · exact .inr h.1
        · exact absurd h (by simp)
    omega

/-- The result of PaintArms. -/
def paintR (x : ArmsV) : D := if okArms x then .tu [gridD (T4 x), .bool true] else .tu [gridD [], .bool false]

theorem gridT_opn (s : Nat) (hs : s < 1000000000) {L : List (List Int)} (hL : ok20 L) (ok : Bool) : Opn (.tu [.ls 1 24 (rowsD L), .bool ok]) (.tu [.bs s 0 24 1, .d (.bool ok)]) ((s, .av (gridC 1000000000 len24)) :: gridO 1000000000 L []) := by
  have := gridR_opn s L ok hs
  rwa [gridD, hL.1, ok20_lens hL] at this

set_option maxRecDepth 100000 in
set_option maxHeartbeats 4000000 in
theorem specPaint_fn (x : ArmsV) : FnD Try.prog 51 [x.d] (paintR x) := by
  have e1 := l5Good_fn x
  cases g : okArms x
  · rw [g] at e1
    rw [paintR, g]
    refine fn_go Try.func51 rfl rfl Try.ntmps51 Try.results51 (by simp only [slotsOf, argAV, List.map_cons, List.map_nil, Nat.reduceAdd]; rfl) (by simp) ?_
    repeat' (first | (with_reducible first | refine aw_seq fun K hK => ?_ | refine aw_region (by kernel_rfl) ?_ | refine aw_condk ?_ | refine aw_block ?_) | ((with_reducible refine evg ?_); simp only [go_sem, ↓reduceIte, Nat.reduceEqDiff, Nat.reduceBEq, Nat.reduceAdd, Nat.reduceMul, Nat.reduceSub, Nat.reduceLT, Nat.reduceLeDiff]) | ((with_reducible refine ev_call ?_); (first | (refine call_fn e1 rfl ?_)); refine k_run ?_) | ((with_reducible refine ev_guard ?_); (with_reducible first | refine guard_t ?_ ?_ rfl | refine guard_f ?_ ?_ rfl) <;> (intro h; (try simp only [h]); (try simp only [nrm] at h))) | ((with_reducible refine ck_split (fun h => ?_) (fun h => ?_)) <;> (try simp only [nrm] at h)) | ((with_reducible refine And.intro ?_ ?_); (first | omega | focus (simp; done) | focus (simp; omega) | focus ((repeat' (with_reducible refine And.intro ?_ ?_)) <;> first | omega | rfl | (simp only [go_sem, refsL_app, refs_dmap] <;> fail) | (simp [refsL_app, refs_dmap, AV.refsL, AV.refs] <;> omega)))) | ((with_reducible first | apply hK | (clear hK K; first | apply hK | (clear hK K; first | apply hK | (clear hK K; apply hK)))); clear hK K) | (simp (disch := omega) only [wr, drop_at, str_at, int_at, Int.reduceSub, Int.reduceAdd, Int.reduceToNat, Int.toNat_zero]) | fail)
    (first | refine res_tmp rfl (by simp [D.plain, plains]) (by simp) ?_ | refine res_at rfl (by simp [D.plain, plains]) (by simp) ?_ | refine res_two rfl (by simp [D.plain, plains]) (by simp) ?_ | refine res_three rfl (by simp [D.plain, plains]) (by simp) ?_)
    rfl
  · rw [g] at e1
    have e2 := l12Draw_fn x g
    have o2 := gridT_opn 12 (by decide) (T4_ok x) true
    rw [paintR, g, if_pos rfl, gridD, T4_len]
    refine fn_go Try.func51 rfl rfl Try.ntmps51 Try.results51 (by simp only [slotsOf, argAV, List.map_cons, List.map_nil, Nat.reduceAdd]; rfl) (by simp) ?_
    repeat' (first | (with_reducible first | refine aw_seq fun K hK => ?_ | refine aw_region (by kernel_rfl) ?_ | refine aw_condk ?_ | refine aw_block ?_) | ((with_reducible refine evg ?_); simp only [go_sem, ↓reduceIte, Nat.reduceEqDiff, Nat.reduceBEq, Nat.reduceAdd, Nat.reduceMul, Nat.reduceSub, Nat.reduceLT, Nat.reduceLeDiff]) | (simp (disch := omega) only [wr, drop_at, str_at, int_at, Int.reduceSub, Int.reduceAdd, Int.reduceToNat, Int.toNat_zero, wr]) | ((with_reducible refine ev_call ?_); (first | (refine call_fn e1 rfl ?_) | (refine call_new (dst := some 12) e2 o2 ?_ ?_ ?_ ?_; (focus first | rfl | ((try simp only [List.nil_append, List.append_nil, List.cons_append]); (repeat' first | (with_reducible refine mapD_cons ?_ ?_) | exact mapD_nil | exact toD_d | (apply toD_grid <;> (simp (disch := omega) only [lookO, lookO_lo, lookO_hi, hasG_nil, hasG_cons, hasG_self, hasG_lo, hasG_hi, lens_len, Nat.reduceEqDiff, ↓reduceIte]; first | done | rfl)) | (apply toD_nums <;> (simp (disch := omega) only [lookO, lookO_lo, lookO_hi, hasG_nil, hasG_cons, hasG_self, hasG_lo, hasG_hi, lens_len, Nat.reduceEqDiff, ↓reduceIte]; first | done | rfl)) | (apply toD_reg <;> (simp (disch := omega) only [lookO, lookO_lo, lookO_hi, hasG_nil, hasG_cons, hasG_self, hasG_lo, hasG_hi, lens_len, Nat.reduceEqDiff, ↓reduceIte]; first | done | rfl)) | (refine toD_rows ?_ rfl <;> (simp (disch := omega) only [lookO, lookO_lo, lookO_hi, hasG_nil, hasG_cons, hasG_self, hasG_lo, hasG_hi, lens_len, Nat.reduceEqDiff, ↓reduceIte]; first | done | rfl))) <;> fail)); (focus (simp [newN, lookO, newN_all, ltAll, ltAll_grid, ltAll_grid0] <;> fail)); (focus (simp (disch := omega) only [dropO, killN, dropO_grid, killR_nil, killR_cons, killR_grid, killR_hi, killN_grid, apartO, Nat.reduceEqDiff, ↓reduceIte]; (first | (rw [apartO_hi ?_ ?_]; rotate_left; (focus omega); (focus (simp [AV.lo, AV.loL] <;> fail))) | (rw [apartO_lo ?_ ?_]; rotate_left; (focus (simp (disch := omega) [loO_ds, loO_av, loO_nil, loO_grid, loL_gridC] <;> fail)); (focus (simp [AV.lo, AV.loL] <;> fail))) | skip); (simp [-List.map_map, apartO, dropO, killN, obCells, refs_dmap, nofnsD, AV.refs, AV.refsL, AV.nofn, AV.nofns, all_grid, gridC_refs, gridC_refsR, gridC_nofns] <;> fail))))); refine k_run ?_) | ((with_reducible refine ev_guard ?_); (with_reducible first | refine guard_t ?_ ?_ rfl | refine guard_f ?_ ?_ rfl) <;> (intro h; (try simp only [h]); (try simp only [nrm] at h) <;> (try ((with_reducible exfalso); omega)))) | ((with_reducible refine ck_split (fun h => ?_) (fun h => ?_)) <;> (try simp only [nrm] at h) <;> (try ((with_reducible exfalso); omega))) | ((with_reducible refine And.intro ?_ ?_); (first | omega | focus (simp; done) | focus (simp; omega) | focus ((repeat' (with_reducible refine And.intro ?_ ?_)) <;> first | omega | rfl | (simp only [go_sem, refsL_app, refs_dmap] <;> fail) | (simp [refsL_app, refs_dmap, AV.refsL, AV.refs] <;> omega)))) | ((with_reducible first | apply hK | (clear hK K; first | apply hK | (clear hK K; first | apply hK | (clear hK K; apply hK)))); clear hK K) | fail)
    exact res_gridB rfl rfl (by rw [ok20_lens (T4_ok x)]; rfl) (by rw [hasG_cons (by decide)]; exact of_eq_true hasG_self) (T4_len x).symm (by decide) rfl

set_option maxRecDepth 100000 in
set_option maxHeartbeats 4000000 in
theorem implPaint_fn (x : ArmsV) : FnD Try.prog 52 [x.d] (paintR x) := by
  have e1 := isValidArms_fn x
  have hnil : leD (.tu [.v (.slice none 0 0), .bool false]) (.tu [gridD [], .bool false]) := leD_tu (lesD_cons leD_nil (lesD_refl _))
  cases g : okArms x
  · rw [g] at e1
    rw [paintR, g]
    refine fnd_le ?_ hnil
    refine fn_go Try.func52 rfl rfl Try.ntmps52 Try.results52 (by simp only [slotsOf, argAV, List.map_cons, List.map_nil, Nat.reduceAdd]; rfl) (by simp) ?_
    repeat' (first | (with_reducible first | refine aw_seq fun K hK => ?_ | refine aw_region (by kernel_rfl) ?_ | refine aw_condk ?_ | refine aw_block ?_) | ((with_reducible refine evg ?_); simp only [go_sem, ↓reduceIte, Nat.reduceEqDiff, Nat.reduceBEq, Nat.reduceAdd, Nat.reduceMul, Nat.reduceSub, Nat.reduceLT, Nat.reduceLeDiff]) | ((with_reducible refine ev_call ?_); (first | (refine call_fn e1 rfl ?_)); refine k_run ?_) | ((with_reducible refine ev_guard ?_); (with_reducible first | refine guard_t ?_ ?_ rfl | refine guard_f ?_ ?_ rfl) <;> (intro h; (try simp only [h]); (try simp only [nrm] at h))) | ((with_reducible refine ck_split (fun h => ?_) (fun h => ?_)) <;> (try simp only [nrm] at h)) | ((with_reducible refine And.intro ?_ ?_); (first | omega | focus (simp; done) | focus (simp; omega) | focus ((repeat' (with_reducible refine And.intro ?_ ?_)) <;> first | omega | rfl | (simp only [go_sem, refsL_app, refs_dmap] <;> fail) | (simp [refsL_app, refs_dmap, AV.refsL, AV.refs] <;> omega)))) | ((with_reducible first | apply hK | (clear hK K; first | apply hK | (clear hK K; first | apply hK | (clear hK K; apply hK)))); clear hK K) | (simp (disch := omega) only [wr, drop_at, str_at, int_at, Int.reduceSub, Int.reduceAdd, Int.reduceToNat, Int.toNat_zero]) | fail)
    (first | refine res_tmp rfl (by simp [D.plain, plains]) (by simp) ?_ | refine res_at rfl (by simp [D.plain, plains]) (by simp) ?_ | refine res_two rfl (by simp [D.plain, plains]) (by simp) ?_ | refine res_three rfl (by simp [D.plain, plains]) (by simp) ?_)
    rfl
  · rw [g] at e1
    have e2 := tops_fn x g
    have o2 := two_opn 12 13 (by decide) (by decide) (by decide) (L4_ok x) (T4_ok x)
    rw [paintR, g, if_pos rfl, gridD, T4_len]
    refine fn_go Try.func52 rfl rfl Try.ntmps52 Try.results52 (by simp only [slotsOf, argAV, List.map_cons, List.map_nil, Nat.reduceAdd]; rfl) (by simp) ?_
    repeat' (first | (with_reducible first | refine aw_seq fun K hK => ?_ | refine aw_region (by kernel_rfl) ?_ | refine aw_condk ?_ | refine aw_block ?_) | ((with_reducible refine evg ?_); simp only [go_sem, ↓reduceIte, Nat.reduceEqDiff, Nat.reduceBEq, Nat.reduceAdd, Nat.reduceMul, Nat.reduceSub, Nat.reduceLT, Nat.reduceLeDiff]) | (simp (disch := omega) only [wr, drop_at, str_at, int_at, Int.reduceSub, Int.reduceAdd, Int.reduceToNat, Int.toNat_zero, wr]) | ((with_reducible refine ev_call ?_); (first | (refine call_fn e1 rfl ?_) | (refine call_new (dst := some 11) e2 o2 ?_ ?_ ?_ ?_; (focus first | rfl | ((try simp only [List.nil_append, List.append_nil, List.cons_append]); (repeat' first | (with_reducible refine mapD_cons ?_ ?_) | exact mapD_nil | exact toD_d | (apply toD_grid <;> (simp (disch := omega) only [lookO, lookO_lo, lookO_hi, hasG_nil, hasG_cons, hasG_self, hasG_lo, hasG_hi, lens_len, Nat.reduceEqDiff, ↓reduceIte]; first | done | rfl)) | (apply toD_nums <;> (simp (disch := omega) only [lookO, lookO_lo, lookO_hi, hasG_nil, hasG_cons, hasG_self, hasG_lo, hasG_hi, lens_len, Nat.reduceEqDiff, ↓reduceIte]; first | done | rfl)) | (apply toD_reg <;> (simp (disch := omega) only [lookO, lookO_lo, lookO_hi, hasG_nil, hasG_cons, hasG_self, hasG_lo, hasG_hi, lens_len, Nat.reduceEqDiff, ↓reduceIte]; first | done | rfl)) | (refine toD_rows ?_ rfl <;> (simp (disch := omega) only [lookO, lookO_lo, lookO_hi, hasG_nil, hasG_cons, hasG_self, hasG_lo, hasG_hi, lens_len, Nat.reduceEqDiff, ↓reduceIte]; first | done | rfl))) <;> fail)); (focus (simp [newN, lookO, newN_all, ltAll, ltAll_grid, ltAll_grid0] <;> fail)); (focus (simp (disch := omega) only [dropO, killN, dropO_grid, killR_nil, killR_cons, killR_grid, killR_hi, killN_grid, apartO, Nat.reduceEqDiff, ↓reduceIte]; (first | (rw [apartO_hi ?_ ?_]; rotate_left; (focus omega); (focus (simp [AV.lo, AV.loL] <;> fail))) | (rw [apartO_lo ?_ ?_]; rotate_left; (focus (simp (disch := omega) [loO_ds, loO_av, loO_nil, loO_grid, loL_gridC] <;> fail)); (focus (simp [AV.lo, AV.loL] <;> fail))) | skip); (simp [-List.map_map, apartO, dropO, killN, obCells, refs_dmap, nofnsD, AV.refs, AV.refsL, AV.nofn, AV.nofns, all_grid, gridC_refs, gridC_refsR, gridC_nofns] <;> fail))))); refine k_run ?_) | ((with_reducible refine ev_guard ?_); (with_reducible first | refine guard_t ?_ ?_ rfl | refine guard_f ?_ ?_ rfl) <;> (intro h; (try simp only [h]); (try simp only [nrm] at h) <;> (try ((with_reducible exfalso); omega)))) | ((with_reducible refine ck_split (fun h => ?_) (fun h => ?_)) <;> (try simp only [nrm] at h) <;> (try ((with_reducible exfalso); omega))) | ((with_reducible refine And.intro ?_ ?_); (first | omega | focus (simp; done) | focus (simp; omega) | focus ((repeat' (with_reducible refine And.intro ?_ ?_)) <;> first | omega | rfl | (simp only [go_sem, refsL_app, refs_dmap] <;> fail) | (simp [refsL_app, refs_dmap, AV.refsL, AV.refs] <;> omega)))) | ((with_reducible first | apply hK | (clear hK K; first | apply hK | (clear hK K; first | apply hK | (clear hK K; apply hK)))); clear hK K) | fail)
    have l4 := L4_len x
    refine res_gridB (s := 13) (B := 1000000024) (zs := T4 x) rfl rfl ?_ ?_ (T4_len x).symm (by decide) rfl
    · rw [ok20_lens (T4_ok x)]
      simp (disch := omega) only [lookO, lookO_lo, Nat.reduceEqDiff, ↓reduceIte]
    · simp (disch := omega) only [hasG_cons, hasG_lo, hasG_self]

theorem tot_20 {zs : List (List Int)} (h : ok20 zs) : tot zs = 480 := by
  rw [← lens_sum, ok20_lens h]
  decide

theorem paintR_ex (x : ArmsV) : ∃ (ws : List (List Int)) (ok : Bool), paintR x = .tu [gridD ws, .bool ok] ∧ ws.length ≤ 24 ∧ tot ws ≤ 480 := by
  unfold paintR
  split
  · exact ⟨_, _, rfl, by rw [T4_len]; exact Nat.le_refl _, by rw [tot_20 (T4_ok x)]; exact Nat.le_refl _⟩
  · exact ⟨[], false, rfl, by simp, by simp [tot]⟩

set_option maxRecDepth 100000 in
set_option maxHeartbeats 4000000 in
theorem fnExactPaintArms_fn (x : ArmsV) : FnD Try.prog 12 [x.d] (.bool true) := by
  have h1 := toArmsP_fn x
  have h3 := specPaint_fn x
  have h4 := implPaint_fn x
  obtain ⟨ws, ok, e, hw1, hw2⟩ := paintR_ex x
  have hwr := rowsP_le hw2
  have h6 := eqIntSS_fn ws ws (by omega) (by omega) (fun z hz => by have := hwr z hz; omega)
  rw [decide_eq_true rfl] at h6
  have h7 := heldIntSS_fn 1 (lens ws) (by simp; omega) (by rw [lens_sum]; omega) (by omega) (by omega)
  have h9 := markIntSS_1 20 ws 1 (by omega) (by omega) (by omega) (by omega) (by decide)
  have o2 : Opn (.tu [gridD ws, .bool ok]) (.tu [.bs 20 0 ws.length 1, .d (.bool ok)]) ((20, .av (gridC 1000000000 (lens ws))) :: gridO 1000000000 ws []) := by
    have := opn_tu (opnL_cons (opn_grid 20 1000000000 ws (by decide)) (opnL_v (x := .bool ok) opnL_nil) (by simp [apartN]))
    rw [List.append_nil] at this
    exact this
  rw [e] at h3 h4
  have hk2 : (lens ws).length = ws.length := by simp
  have hm2 : (numsR 1 (lens ws)).length = ws.length := by simp
  refine fn_go Try.func12 rfl rfl Try.ntmps12 Try.results12 (by simp only [slotsOf, argAV, List.map_cons, List.map_nil, Nat.reduceAdd]; rfl) (by simp) ?_
  repeat' (first | (with_reducible first | refine aw_seq fun K hK => ?_ | refine aw_region (by kernel_rfl) ?_ | refine aw_condk ?_ | refine aw_block ?_) | ((with_reducible first | refine evg ?_ | refine ev_guard ?_); simp only [go_sem, ↓reduceIte, Nat.reduceEqDiff, Nat.reduceBEq, Nat.reduceAdd, Nat.reduceMul, Nat.reduceSub, Nat.reduceLT, Nat.reduceLeDiff]) | (simp (disch := omega) only [wr, drop_at, str_at, int_at, Int.reduceSub, Int.reduceAdd, Int.reduceToNat, Int.toNat_zero, wr, killR_hi, lens_sum, bne_self_eq_false, killOs_nl, killOs_ds, killOs_gc, killOs_go]) | ((with_reducible refine ev_call ?_); (first | (refine call_fn h1 rfl ?_) | (refine call_fn h3 rfl ?_) | (refine call_new (dst := some 20) h4 o2 ?_ ?_ ?_ ?_; (focus first | rfl | ((try simp only [List.nil_append, List.append_nil, List.cons_append]); (repeat' first | (with_reducible refine mapD_cons ?_ ?_) | exact mapD_nil | exact toD_d | (apply toD_grid <;> (simp (disch := omega) only [lookO, lookO_lo, lookO_hi, hasG_nil, hasG_cons, hasG_self, hasG_lo, hasG_hi, lens_len, Nat.reduceEqDiff, ↓reduceIte]; first | done | rfl)) | (apply toD_nums <;> (simp (disch := omega) only [lookO, lookO_lo, lookO_hi, hasG_nil, hasG_cons, hasG_self, hasG_lo, hasG_hi, lens_len, Nat.reduceEqDiff, ↓reduceIte]; first | done | rfl)) | (apply toD_reg <;> (simp (disch := omega) only [lookO, lookO_lo, lookO_hi, hasG_nil, hasG_cons, hasG_self, hasG_lo, hasG_hi, lens_len, Nat.reduceEqDiff, ↓reduceIte]; first | done | rfl)) | (refine toD_rows ?_ rfl <;> (simp (disch := omega) only [lookO, lookO_lo, lookO_hi, hasG_nil, hasG_cons, hasG_self, hasG_lo, hasG_hi, lens_len, Nat.reduceEqDiff, ↓reduceIte]; first | done | rfl))) <;> fail)); (focus (simp [newN, lookO, newN_all, ltAll, ltAll_grid, ltAll_grid0] <;> fail)); (focus (simp (disch := omega) only [dropO, killN, dropO_grid, killR_nil, killR_cons, killR_grid, killR_hi, killN_grid, apartO, Nat.reduceEqDiff, ↓reduceIte]; (first | (rw [apartO_hi ?_ ?_]; rotate_left; (focus omega); (focus (simp [AV.lo, AV.loL] <;> fail))) | (rw [apartO_lo ?_ ?_]; rotate_left; (focus (simp (disch := omega) [loO_ds, loO_av, loO_nil, loO_grid, loL_gridC] <;> fail)); (focus (simp [AV.lo, AV.loL] <;> fail))) | skip); (simp [-List.map_map, apartO, dropO, killN, obCells, refs_dmap, nofnsD, AV.refs, AV.refsL, AV.nofn, AV.nofns, all_grid, gridC_refs, gridC_refsR, gridC_nofns] <;> fail)))) | (refine call_fn h4 rfl ?_) | (refine call_fn h6 ?_ ?_; (focus ((try simp only [List.nil_append, List.append_nil, List.cons_append]); (repeat' first | (with_reducible refine mapD_cons ?_ ?_) | exact mapD_nil | exact toD_d | (apply toD_grid <;> (simp (disch := omega) only [lookO, lookO_lo, lookO_hi, hasG_nil, hasG_cons, hasG_self, hasG_lo, hasG_hi, lens_len, Nat.reduceEqDiff, ↓reduceIte]; first | done | rfl)) | (apply toD_nums <;> (simp (disch := omega) only [lookO, lookO_lo, lookO_hi, hasG_nil, hasG_cons, hasG_self, hasG_lo, hasG_hi, lens_len, Nat.reduceEqDiff, ↓reduceIte]; first | done | rfl)) | (apply toD_reg <;> (simp (disch := omega) only [lookO, lookO_lo, lookO_hi, hasG_nil, hasG_cons, hasG_self, hasG_lo, hasG_hi, lens_len, Nat.reduceEqDiff, ↓reduceIte]; first | done | rfl)) | (refine toD_rows ?_ rfl <;> (simp (disch := omega) only [lookO, lookO_lo, lookO_hi, hasG_nil, hasG_cons, hasG_self, hasG_lo, hasG_hi, lens_len, Nat.reduceEqDiff, ↓reduceIte]; first | done | rfl))) <;> fail))) | (refine call_fn h7 ?_ ?_; (focus ((try simp only [List.nil_append, List.append_nil, List.cons_append]); (repeat' first | (with_reducible refine mapD_cons ?_ ?_) | exact mapD_nil | exact toD_d | (apply toD_grid <;> (simp (disch := omega) only [lookO, lookO_lo, lookO_hi, hasG_nil, hasG_cons, hasG_self, hasG_lo, hasG_hi, lens_len, Nat.reduceEqDiff, ↓reduceIte]; first | done | rfl)) | (apply toD_nums <;> (simp (disch := omega) only [lookO, lookO_lo, lookO_hi, hasG_nil, hasG_cons, hasG_self, hasG_lo, hasG_hi, lens_len, Nat.reduceEqDiff, ↓reduceIte]; first | done | rfl)) | (apply toD_reg <;> (simp (disch := omega) only [lookO, lookO_lo, lookO_hi, hasG_nil, hasG_cons, hasG_self, hasG_lo, hasG_hi, lens_len, Nat.reduceEqDiff, ↓reduceIte]; first | done | rfl)) | (refine toD_rows ?_ rfl <;> (simp (disch := omega) only [lookO, lookO_lo, lookO_hi, hasG_nil, hasG_cons, hasG_self, hasG_lo, hasG_hi, lens_len, Nat.reduceEqDiff, ↓reduceIte]; first | done | rfl))) <;> fail))) | (refine call_s h9 ?_ ?_ ?_ ?_ ?_; (focus rfl); (focus (simp (disch := omega) only [SubO, lookO, subO_grid, hasG_nil, hasG_cons, hasG_self, hasG_lo, hasG_hi, lookO_lo, lookO_hi, true_and, and_true, Nat.reduceEqDiff, ↓reduceIte] <;> fail)); (focus (simp [newN, lookO, ltAll, newN_gridN, hasN_cons, hasN_grid, setG_len, lens_len] <;> fail)); (focus (simp (disch := omega) only [dropO, killN, dropO_grid, killR_nil, killR_cons, killR_grid, killR_hi, killN_grid, apartO, Nat.reduceEqDiff, ↓reduceIte]; (first | (rw [apartO_hi ?_ ?_]; rotate_left; (focus omega); (focus (simp [AV.lo, AV.loL] <;> fail))) | (rw [apartO_lo ?_ ?_]; rotate_left; (focus (simp (disch := omega) [loO_ds, loO_av, loO_nil, loO_grid, loL_gridC] <;> fail)); (focus (simp [AV.lo, AV.loL] <;> fail))) | skip); (simp [-List.map_map, apartO, dropO, killN, obCells, refs_dmap, nofnsD, AV.refs, AV.refsL, AV.nofn, AV.nofns, all_grid, gridC_refs, gridC_refsR, gridC_nofns] <;> fail))))); refine k_run ?_) | ((with_reducible refine ev_guard ?_); (with_reducible first | refine guard_t ?_ ?_ rfl | refine guard_f ?_ ?_ rfl) <;> (intro h; (try simp only [h]); (try simp only [nrm] at h) <;> (try ((with_reducible exfalso); omega)))) | ((with_reducible refine ck_split (fun h => ?_) (fun h => ?_)) <;> (try simp only [nrm] at h) <;> (try ((with_reducible exfalso); omega))) | ((with_reducible refine And.intro ?_ ?_); (first | omega | focus (simp; done) | focus (simp; omega) | focus ((repeat' (with_reducible refine And.intro ?_ ?_)) <;> first | omega | rfl | (simp only [go_sem, refsL_app, refs_dmap] <;> fail) | (simp [refsL_app, refs_dmap, AV.refsL, AV.refs] <;> omega)))) | ((with_reducible first | apply hK | (clear hK K; first | apply hK | (clear hK K; first | apply hK | (clear hK K; apply hK)))); clear hK K) | fail)
  all_goals (first | refine res_tmp rfl (by simp [D.plain, plains]) (by simp) ?_ | refine res_at rfl (by simp [D.plain, plains]) (by simp) ?_ | refine res_two rfl (by simp [D.plain, plains]) (by simp) ?_ | refine res_three rfl (by simp [D.plain, plains]) (by simp) ?_ | skip)
  all_goals rfl

end Go.Proofs.Ytaegdaimjhhgpaa
