/- FieldPicture: contracts and law. -/
import Derived.Test.YtjbifidphckjoaaPic3
import Derived.WalkKit
import Derived.WalkSpells
import Derived.KernelRfl
namespace Go.Proofs.Ytjbifidphckjoaa
open Go.RowKit
set_option maxRecDepth 100000
set_option maxHeartbeats 4000000
set_option linter.unusedVariables false
set_option linter.unusedSimpArgs false

attribute [local go_sem] intL gridD lookO_lo killO_grid delO_grid putO_lo gridO_app dropGe dropGe_grid cleanO_grid gridC_len gridC_refs gridQ_refs lens_len rowsD_len setG_len dropO_grid killR_nil killR_cons killR_grid killN_lo newN_gridN hasN_cons hasN_grid Nat.le_refl refs_dmap newN_all killSs_gridN killOs_gridN killSs_gridN0 killOs_gridN0 loS_nil loS_cons loL_nil loL_cons lo_bp lo_bs lo_ag lo_tu lo_fc lo_d lo_un loO_nil loO_ds loO_av loO_dead loO_grid loL_gridC loL_dmap picZ_len allD_grid refsL_app' numsR_len

attribute [local simp] ints_plain ints_all ints_all1 ints_plain_take refs_dmap gridC_refs

def empZ : List Int := List.replicate 24 0

theorem l9Empty_fn : FnD Try.prog 60 [] (.ag [intL empZ]) := by
 refine fn_go Try.func60 rfl rfl Try.ntmps60 Try.results60 (by simp only [slo, Nat.reduceAdd]; rfl) (by simp) ?_
 repeat' (first | (with_reducible first | refine aw_seq fun K hK => ?_ | refine aw_region (by kernel_rfl) ?_) | ((with_reducible refine evg ?_); simp only [go_sem, ↓reduceIte, Nat.reduceEqDiff, Nat.reduceBEq, Nat.reduceAdd, Nat.reduceMul, Nat.reduceSub, Nat.reduceLT, Nat.reduceLeDiff]) | (simp (disch := omega) only [dsq, Int.reduceSub, Int.reduceAdd, Int.reduceToNat]) | ((with_reducible refine And.intro ?_ ?_); (focus first | omega | (simp; done) | (simp; omega) | ((repeat' (with_reducible refine And.intro ?_ ?_)) <;> first | omega | rfl | (simp only [go_sem, refsL_app, refs_dmap] <;> fail) | (simp [refsL_app, refs_dmap, AV.refsL, AV.refs] <;> omega)))) | ((with_reducible first | apply hK | (clear hK K; first | apply hK | (clear hK K; apply hK))); clear hK K) | fail)
 refine res_at rfl (by simp [D.plain, plains]) (by simp) ?_
 rfl

theorem empZ_ok : okReg empZ = true := by decide +kernel

theorem empZ_has (x y : Int) : hasZ empZ x y = false := by
 have : empZ.getD y.toNat 0 = 0 := by
  rw [empZ, List.getD_eq_getElem?_getD, List.getElem?_replicate]
  split <;> rfl
 rw [hasZ, bitZ, this]
 simp

theorem ctr_emp (d : Int) (l : Nat) (f s : Int) : ctrZ d l f s empZ = tinctZ d l f s := by
 funext x y
 rw [ctrZ, empZ_has]
 rfl

theorem picZ_opn (s : Nat) (h : Nat -> Nat -> Int) (hs : s < 1000000000) : Opn (.ls 1 24 (rowsD (picZ h))) (.bs s 0 24 1) ((s, .av (gridC 1000000000 len24)) :: gridO 1000000000 (picZ h) []) := by
 have := opn_grid s 1000000000 (picZ h) hs
 rw [picZ_len, picZ_lens] at this
 exact this

def fpicR (d l f s : Int) : D := if okField d l f s then .tu [gridD (picZ (tinctZ d l.toNat f s)), .bool true] else .tu [gridD [], .bool false]

set_option maxRecDepth 100000 in
theorem pl_Pic4_105_3 (l : List Oper) (h : l = opsOf Try.f105 3) : planB l (.pure 0 (.one 1 (.one 2 (.pure 3 (.pure 4 PT.fin))))) [] = true := by
 subst h
 kernel_rfl

theorem specFPic_fn (d l f s : Int) : FnD Try.prog 105 [.ag [.int d, .int l, .int f, .int s]] (fpicR d l f s) := by
 have e1 := l3Good_fn d l f s
 cases g : okField d l f s
 ·
  rw [g] at e1
  rw [fpicR, g]
  refine fn_go Try.func105 rfl rfl Try.ntmps105 Try.results105 (by simp only [slo, Nat.reduceAdd]; rfl) (by simp) ?_
  repeat' (first | (with_reducible first | refine aw_seq fun K hK => ?_ | refine aw_region (by kernel_rfl) ?_ | refine aw_condk ?_) | ((with_reducible refine ev_aw ?_); first | (refine aw_draw (id := 3) (by kernel_rfl) _ _ (by kernel_rfl) (pl_Pic4_105_3 _ (by kernel_rfl)) ?_)) | (with_reducible first | refine ru_four ?_ ?_ ?_ ?_ | refine ru_three ?_ ?_ ?_ | refine ru_two ?_ ?_ | refine rv_split ?_ ?_ | refine rv_two ?_ ?_ | refine rp_two ?_ ?_) | ((with_reducible refine evg ?_); simp only [go_sem, St.clean, cleanO, ↓reduceIte, Nat.reduceEqDiff, Nat.reduceBEq, Nat.reduceAdd, Nat.reduceMul, Nat.reduceSub, Nat.reduceLT, Nat.reduceLeDiff]) | ((with_reducible refine ev_call ?_); (first | (refine call_fn e1 rfl ?_)); refine k_run ?_) | ((with_reducible refine ck_split (fun h => ?_) (fun h => ?_)) <;> (try simp only [nrm] at h)) | ((with_reducible refine And.intro ?_ ?_); (focus first | omega | (simp; done) | (simp; omega) | ((repeat' (with_reducible refine And.intro ?_ ?_)) <;> first | omega | rfl | (simp only [go_sem, refsL_app, refs_dmap] <;> fail) | (simp [refsL_app, refs_dmap, AV.refsL, AV.refs] <;> omega)))) | (with_reducible refine hJ _ (fun K hK => ?_) ?_ <;> clear hJ KJ) | ((with_reducible refine ev_less ?_); (refine ⟨rfl, ?_, ?_⟩ <;> simp only [go_sem, St.clean, cleanO, SubS, SubO, beq_self_eq_true, ↓reduceIte, Nat.reduceEqDiff, Nat.reduceBEq, Nat.reduceAdd, Nat.reduceMul, Nat.reduceSub, Nat.reduceLT, Nat.reduceLeDiff])) | ((with_reducible first | apply hK | (clear hK K; first | apply hK | (clear hK K; apply hK))); clear hK K) | (simp (disch := omega) only [dsq, Int.reduceSub, Int.reduceAdd, Int.reduceToNat]) | fail)
  refine res_two rfl (by simp [D.plain, plains]) (by simp) ?_
  rfl
 ·
  rw [g] at e1
  rw [fpicR, g]
  have hin := okField_in g
  obtain ⟨l, rfl⟩ := Int.eq_ofNat_of_zero_le hin.2.1.1
  have e2 := l14Picture_fn d l f s empZ g empZ_ok
  rw [ctr_emp, ← ints_raw empZ] at e2
  have e3 := l9Empty_fn
  have hR : (if true = true then D.tu [gridD (picZ (tinctZ d ((l : Nat) : Int).toNat f s)), .bool true] else D.tu [gridD [], .bool false]) = .tu [.ls 1 24 (rowsD (picZ (tinctZ d l f s))), .bool true] := by
   rw [if_pos rfl, Int.toNat_natCast, gridD, picZ_len]
  rw [hR]
  simp only [gridD, picZ_len] at e2
  have o2 := picZ_opn 10 (tinctZ d l f s) (by decide)
  refine fn_go Try.func105 rfl rfl Try.ntmps105 Try.results105 (by simp only [slo, Nat.reduceAdd]; rfl) (by simp) ?_
  repeat' (first | (with_reducible first | refine aw_seq fun K hK => ?_ | refine aw_region (by kernel_rfl) ?_ | refine aw_condk ?_) | ((with_reducible refine ev_aw ?_); first | (refine aw_draw (id := 3) (by kernel_rfl) _ _ (by kernel_rfl) (pl_Pic4_105_3 _ (by kernel_rfl)) ?_)) | (with_reducible first | refine ru_four ?_ ?_ ?_ ?_ | refine ru_three ?_ ?_ ?_ | refine ru_two ?_ ?_ | refine rv_split ?_ ?_ | refine rv_two ?_ ?_ | refine rp_two ?_ ?_) | ((with_reducible refine evg ?_); simp only [go_sem, St.clean, cleanO, ↓reduceIte, Nat.reduceEqDiff, Nat.reduceBEq, Nat.reduceAdd, Nat.reduceMul, Nat.reduceSub, Nat.reduceLT, Nat.reduceLeDiff]) | (simp (disch := omega) only [dsq, Int.reduceSub, Int.reduceAdd, Int.reduceToNat]) | ((with_reducible refine ev_call ?_); (first | (refine call_fn e1 rfl ?_) | (refine call_fn e3 rfl ?_) | (refine call_new e2 o2 ?_ ?_ ?_ ?_; (focus first | rfl | ((try simp only [List.nil_append, List.append_nil, List.cons_append]); (repeat' first | (with_reducible refine mapD_cons ?_ ?_) | exact mapD_nil | exact toD_d | (apply toD_grid <;> (simp (disch := omega) only [lookO, lookO_lo, lookO_hi, hasG_nil, hasG_cons, hasG_self, hasG_lo, hasG_hi, lens_len, Nat.reduceEqDiff, ↓reduceIte]; first | done | rfl)) | (apply toD_nums <;> (simp (disch := omega) only [lookO, lookO_lo, lookO_hi, hasG_nil, hasG_cons, hasG_self, hasG_lo, hasG_hi, lens_len, Nat.reduceEqDiff, ↓reduceIte]; first | done | rfl)) | (apply toD_reg <;> (simp (disch := omega) only [lookO, lookO_lo, lookO_hi, hasG_nil, hasG_cons, hasG_self, hasG_lo, hasG_hi, lens_len, Nat.reduceEqDiff, ↓reduceIte]; first | done | rfl)) | (refine toD_rows ?_ rfl <;> (simp (disch := omega) only [lookO, lookO_lo, lookO_hi, hasG_nil, hasG_cons, hasG_self, hasG_lo, hasG_hi, lens_len, Nat.reduceEqDiff, ↓reduceIte]; first | done | rfl))) <;> fail)); (focus (simp [newN, lookO, newN_all, ltAll, ltAll_grid, ltAll_grid0] <;> fail)); (focus (simp (disch := omega) only [dropO, killN, dropO_grid, killR_nil, killR_cons, killR_grid, killR_hi, killN_grid, apartO, Nat.reduceEqDiff, ↓reduceIte]; (first | (rw [apartO_hi ?_ ?_]; rotate_left; (focus omega); (focus (simp [AV.lo, AV.loL] <;> fail))) | (rw [apartO_lo ?_ ?_]; rotate_left; (focus (simp (disch := omega) [loO_ds, loO_av, loO_nil, loO_grid, loL_gridC, AV.lo, AV.loL] <;> fail)); (focus (simp [AV.lo, AV.loL] <;> fail))) | skip); (simp [-List.map_map, apartO, dropO, killN, obCells, refs_dmap, nofnsD, AV.refs, AV.refsL, AV.nofn, AV.nofns, all_grid, gridC_refs, gridC_refsR, gridC_nofns] <;> fail))))); refine k_run ?_) | ((with_reducible refine ck_split (fun h => ?_) (fun h => ?_)) <;> (try simp only [nrm] at h) <;> (try ((with_reducible exfalso); omega))) | ((with_reducible refine And.intro ?_ ?_); (focus first | omega | (simp; done) | (simp; omega) | ((repeat' (with_reducible refine And.intro ?_ ?_)) <;> first | omega | rfl | (simp only [go_sem, refsL_app, refs_dmap] <;> fail) | (simp [refsL_app, refs_dmap, AV.refsL, AV.refs] <;> omega)))) | (with_reducible refine hJ _ (fun K hK => ?_) ?_ <;> clear hJ KJ) | ((with_reducible refine ev_less ?_); (refine ⟨rfl, ?_, ?_⟩ <;> simp only [go_sem, St.clean, cleanO, SubS, SubO, beq_self_eq_true, ↓reduceIte, Nat.reduceEqDiff, Nat.reduceBEq, Nat.reduceAdd, Nat.reduceMul, Nat.reduceSub, Nat.reduceLT, Nat.reduceLeDiff])) | ((with_reducible first | apply hK | (clear hK K; first | apply hK | (clear hK K; apply hK))); clear hK K) | fail)
  exact res_gridB rfl rfl (by rw [picZ_lens]; rfl) (by rw [hasG_cons (by decide)]; exact of_eq_true hasG_self) (by rw [picZ_len]) (by decide) rfl

theorem implFPic_fn (d l f s : Int) : FnD Try.prog 15 [.ag [.int d, .int l, .int f, .int s]] (fpicR d l f s) := by
 have e1 := isValidField_fn d l f s
 have hnil : leD (.tu [.v (.slice none 0 0), .bool false]) (.tu [gridD [], .bool false]) := leD_tu (lesD_cons leD_nil (lesD_refl _))
 cases g : okField d l f s
 ·
  rw [g] at e1
  rw [fpicR, g]
  refine fnd_le ?_ hnil
  refine fn_go Try.func15 rfl rfl Try.ntmps15 Try.results15 (by simp only [slo, Nat.reduceAdd]; rfl) (by simp) ?_
  repeat' (first | (with_reducible first | refine aw_seq fun K hK => ?_ | refine aw_region (by kernel_rfl) ?_ | refine aw_condk ?_) | ((with_reducible refine evg ?_); simp only [go_sem, ↓reduceIte, Nat.reduceEqDiff, Nat.reduceBEq, Nat.reduceAdd, Nat.reduceMul, Nat.reduceSub, Nat.reduceLT, Nat.reduceLeDiff]) | ((with_reducible refine ev_call ?_); (first | (refine call_fn e1 rfl ?_)); refine k_run ?_) | ((with_reducible refine ck_split (fun h => ?_) (fun h => ?_)) <;> (try simp only [nrm] at h)) | ((with_reducible refine And.intro ?_ ?_); (focus first | omega | (simp; done) | (simp; omega) | ((repeat' (with_reducible refine And.intro ?_ ?_)) <;> first | omega | rfl | (simp only [go_sem, refsL_app, refs_dmap] <;> fail) | (simp [refsL_app, refs_dmap, AV.refsL, AV.refs] <;> omega)))) | ((with_reducible first | apply hK | (clear hK K; first | apply hK | (clear hK K; apply hK))); clear hK K) | (simp (disch := omega) only [dsq, Int.reduceSub, Int.reduceAdd, Int.reduceToNat]) | fail)
  refine res_two rfl (by simp [D.plain, plains]) (by simp) ?_
  rfl
 ·
  rw [g] at e1
  rw [fpicR, g]
  have hin := okField_in g
  obtain ⟨l, rfl⟩ := Int.eq_ofNat_of_zero_le hin.2.1.1
  have e4 := pictured_s 9 40 [.ag [.int d, .int l, .int f, .int s]] [] (tinctZ d l f s) (by decide) (fun x y hx hy _ => at_fn d l x y f s (by omega) hx hy)
  have hR : (if true = true then D.tu [gridD (picZ (tinctZ d ((l : Nat) : Int).toNat f s)), .bool true] else D.tu [gridD [], .bool false]) = .tu [.ls 1 24 (rowsD (picZ (tinctZ d l f s))), .bool true] := by
   rw [if_pos rfl, Int.toNat_natCast, gridD, picZ_len]
  rw [hR]
  refine fn_go Try.func15 rfl rfl Try.ntmps15 Try.results15 (by simp only [slo, Nat.reduceAdd]; rfl) (by simp) ?_
  repeat' (first | (with_reducible first | refine aw_seq fun K hK => ?_ | refine aw_region (by kernel_rfl) ?_ | refine aw_condk ?_) | ((with_reducible refine evg ?_); simp only [go_sem, ↓reduceIte, Nat.reduceEqDiff, Nat.reduceBEq, Nat.reduceAdd, Nat.reduceMul, Nat.reduceSub, Nat.reduceLT, Nat.reduceLeDiff]) | (simp (disch := omega) only [dsq, Int.reduceSub, Int.reduceAdd, Int.reduceToNat]) | ((with_reducible refine ev_call ?_); (first | (refine call_fn e1 rfl ?_) | (refine call_fc e4 rfl rfl ?_ ?_ ?_ ?_ ?_; (focus (simp [newN, lookO, newN_all, ltAll, ltAll_grid, ltAll_grid0] <;> fail)); (focus (simp [-List.map_map, apartO, dropO, killN, obCells, refs_dmap, nofnsD, AV.refs, AV.refsL, AV.nofn, AV.nofns, all_grid, gridC_refs, gridC_nofns] <;> fail)); (focus (simp [plainOs, OB.plain, AV.plain, AV.plains, gridC_plains, plainOs_gridE] <;> fail)); (focus (simp [AV.plain] <;> fail)))); refine k_run ?_) | ((with_reducible refine ck_split (fun h => ?_) (fun h => ?_)) <;> (try simp only [nrm] at h) <;> (try ((with_reducible exfalso); omega))) | ((with_reducible refine And.intro ?_ ?_); (focus first | omega | (simp; done) | (simp; omega) | ((repeat' (with_reducible refine And.intro ?_ ?_)) <;> first | omega | rfl | (simp only [go_sem, refsL_app, refs_dmap] <;> fail) | (simp [refsL_app, refs_dmap, AV.refsL, AV.refs] <;> omega)))) | ((with_reducible first | apply hK | (clear hK K; first | apply hK | (clear hK K; apply hK))); clear hK K) | fail)
  exact res_gridB rfl rfl (by rw [picZ_lens]; rfl) (by rw [hasG_cons (by decide)]; exact of_eq_true hasG_self) rfl (by decide) rfl

theorem tot_pic (h : Nat -> Nat -> Int) : tot (picZ h) = 480 := by
 rw [← lens_sum, picZ_lens]
 decide

end Go.Proofs.Ytjbifidphckjoaa
