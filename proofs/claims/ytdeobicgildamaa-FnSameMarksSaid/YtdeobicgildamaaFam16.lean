/- Heirs of a person who live in a year: the program's side. -/
import Derived.Test.YtdeobicgildamaaFam14
import Derived.WalkKit
import Derived.WalkSpells
import Derived.KernelRfl
namespace Go.Proofs.Ytdeobicgildamaa
open Go.RowKit
set_option linter.unusedVariables false
set_option linter.unusedSimpArgs false

attribute [local go_sem] PerV.d PerV.cs perL famD intL

attribute [local simp] refs_dmap perC_all perC_plains ints_plain ints_all ints_all1 ints_plain_take

def hrL (l : List PerV) (id : Int) : List Int := hrF l 3000 id []

theorem okL_nil (l : List PerV) : okL l [] := ⟨List.nodup_nil, fun a ha => by simp at ha⟩

theorem hrL_ok {l : List PerV} (h : okFam l = true) {id : Int} (hid : 0 ≤ findP l id) : okL l (hrL l id) := hrF_ok h 3000 id [] hid (okL_nil l)

theorem hrL_len {l : List PerV} (h : okFam l = true) {id : Int} (hid : 0 ≤ findP l id) : (hrL l id).length ≤ 16 := Nat.le_trans (okL_len (hrL_ok h hid)) (okFam_len h)

def heirI (l : List PerV) (id y : Int) : List Int := (hrL l id).filter (livI l y)

theorem dn3000 {l : List PerV} (h : okFam l = true) {id : Int} (hid : 0 ≤ findP l id) : dnG l 3000 id := ⟨hid, by have := born_in h hid; omega⟩

def heirsR (l : List PerV) (id y : Int) : D := if askF l id && inR y 1 2999 then .tu [intL (heirI l id y), .bool true] else .tu [intL [], .bool false]

theorem succ_top (l : List PerV) (id : Int) (hok : okFam l = true) (hid : 0 ≤ findP l id) : FnS Try.prog 71 [(20, .ds [])] [.d (famD l), .d (.int id), .bs 20 0 0 1] [(21, .ds ((hrL l id).map D.int))] (.bs 21 0 (hrL l id).length 1) := by
  have h := ((succ_fn l hok 3000 id [] (dn3000 hok hid) (okL_nil l)).sw 5000 20).sw 5001 21
  have e1 : swp 5000 20 5001 = 5001 := by decide
  have e2 : swp 5001 21 20 = 20 := by decide
  simp only [swO, AV.swL, AV.sw, OB.sw, sw_self, e1, e2] at h
  exact h

theorem delI_take (zs : List Int) (q : Int → Bool) : ((delI zs q).map D.int).take (zs.filter q).length = (zs.filter q).map D.int := by
  rw [delI, List.map_append, List.take_append_of_le_length (by simp)]
  exact List.take_of_length_le (by simp)

set_option maxRecDepth 100000 in
theorem pl_Fam16_45_3U (l : List Oper) (h : l = opsOf Try.f45 3) : planUB l (.still 2 (.still 5 (.three true 0 (.two true 1 (.one true 3 (.one false 4 (.one false 6 (.still 7 (.still 8 PU.fin))))) true 3 (.one true 1 (.one false 4 (.one false 6 (.still 7 (.still 8 PU.fin)))))) true 1 (.two true 0 (.one true 3 (.one false 4 (.one false 6 (.still 7 (.still 8 PU.fin))))) true 3 (.two true 0 (.one false 4 (.one false 6 (.still 7 (.still 8 PU.fin)))) false 4 (.one true 0 (.one false 6 (.still 7 (.still 8 PU.fin)))))) true 3 (.two true 0 (.one true 1 (.one false 4 (.one false 6 (.still 7 (.still 8 PU.fin))))) true 1 (.two true 0 (.one false 4 (.one false 6 (.still 7 (.still 8 PU.fin)))) false 4 (.one true 0 (.one false 6 (.still 7 (.still 8 PU.fin))))))))) [4, 6] = true := by
  subst h
  kernel_rfl

set_option maxRecDepth 100000 in
set_option maxHeartbeats 4000000 in
theorem implHeirs0_fn (l : List PerV) (id y : Int) (hl : l.length ≤ 1048576) (h : (askF l id && inR y 1 2999) = false) : FnD Try.prog 45 [famD l, .int id, .int y] (.tu [.v (.slice none 0 0), .bool false]) := by
  have e1 := has_fn l id (by omega)
  have e2 := isYear_fn y
  cases g : askF l id
  · rw [g] at e1
    refine fn_go Try.func45 rfl rfl Try.ntmps45 Try.results45 (by simp only [slotsOf, argAV, List.map_cons, List.map_nil, Nat.reduceAdd]; rfl) (by simp) ?_
    repeat' (first | (with_reducible first | refine aw_seq fun K hK => ?_ | refine aw_region (by kernel_rfl) ?_ | refine aw_condk ?_ | refine aw_block ?_) | ((with_reducible refine ev_aw ?_); first | (refine aw_drawJ (by kernel_rfl) (id := 3) _ _ (by kernel_rfl) (pl_Fam16_45_3U _ (by kernel_rfl)) (fun KJ hJ => ?_))) | (with_reducible first | refine ru_four ?_ ?_ ?_ ?_ | refine ru_three ?_ ?_ ?_ | refine ru_two ?_ ?_ | refine rv_split ?_ ?_ | refine rv_two ?_ ?_ | refine rp_two ?_ ?_) | ((with_reducible refine evg ?_); simp only [go_sem, St.clean, cleanO, ↓reduceIte, Nat.reduceEqDiff, Nat.reduceBEq, Nat.reduceAdd, Nat.reduceMul, Nat.reduceSub, Nat.reduceLT, Nat.reduceLeDiff]) | (simp (disch := omega) only [wr, drop_at, str_at, int_at, Int.reduceSub, Int.reduceAdd, Int.reduceToNat, Int.toNat_zero, wr]) | ((with_reducible refine ev_call ?_); (first | (refine call_fn e1 rfl ?_) | (refine call_fn e2 rfl ?_)); refine k_run ?_) | ((with_reducible refine ev_guard ?_); (with_reducible first | refine guard_t ?_ ?_ rfl | refine guard_f ?_ ?_ rfl) <;> (intro h; (try simp only [h]); (try simp only [nrm] at h) <;> (try ((with_reducible exfalso); omega)))) | ((with_reducible refine ck_split (fun h => ?_) (fun h => ?_)) <;> (try simp only [nrm] at h) <;> (try ((with_reducible exfalso); omega))) | ((with_reducible refine And.intro ?_ ?_); (first | omega | focus (simp; done) | focus (simp; omega) | focus ((repeat' (with_reducible refine And.intro ?_ ?_)) <;> first | omega | rfl | (simp only [go_sem, refsL_app, refs_dmap] <;> fail) | (simp [refsL_app, refs_dmap, AV.refsL, AV.refs] <;> omega)))) | (with_reducible refine hJ _ (fun K hK => ?_) ?_ <;> clear hJ KJ) | ((with_reducible refine ev_less ?_); (refine ⟨rfl, ?_, ?_⟩ <;> simp only [go_sem, St.clean, cleanO, SubS, SubO, beq_self_eq_true, ↓reduceIte, Nat.reduceEqDiff, Nat.reduceBEq, Nat.reduceAdd, Nat.reduceMul, Nat.reduceSub, Nat.reduceLT, Nat.reduceLeDiff])) | ((with_reducible first | apply hK | (clear hK K; first | apply hK | (clear hK K; first | apply hK | (clear hK K; apply hK)))); clear hK K) | fail)
    all_goals (first | refine res_tmp rfl (by simp [D.plain, plains]) (by simp) ?_ | refine res_at rfl (by simp [D.plain, plains]) (by simp) ?_ | refine res_two rfl (by simp [D.plain, plains]) (by simp) ?_ | refine res_three rfl (by simp [D.plain, plains]) (by simp) ?_ | skip)
    all_goals rfl
  · rw [g, Bool.true_and] at h
    rw [g] at e1
    rw [h] at e2
    refine fn_go Try.func45 rfl rfl Try.ntmps45 Try.results45 (by simp only [slotsOf, argAV, List.map_cons, List.map_nil, Nat.reduceAdd]; rfl) (by simp) ?_
    repeat' (first | (with_reducible first | refine aw_seq fun K hK => ?_ | refine aw_region (by kernel_rfl) ?_ | refine aw_condk ?_ | refine aw_block ?_) | ((with_reducible refine ev_aw ?_); first | (refine aw_drawJ (by kernel_rfl) (id := 3) _ _ (by kernel_rfl) (pl_Fam16_45_3U _ (by kernel_rfl)) (fun KJ hJ => ?_))) | (with_reducible first | refine ru_four ?_ ?_ ?_ ?_ | refine ru_three ?_ ?_ ?_ | refine ru_two ?_ ?_ | refine rv_split ?_ ?_ | refine rv_two ?_ ?_ | refine rp_two ?_ ?_) | ((with_reducible refine evg ?_); simp only [go_sem, St.clean, cleanO, ↓reduceIte, Nat.reduceEqDiff, Nat.reduceBEq, Nat.reduceAdd, Nat.reduceMul, Nat.reduceSub, Nat.reduceLT, Nat.reduceLeDiff]) | (simp (disch := omega) only [wr, drop_at, str_at, int_at, Int.reduceSub, Int.reduceAdd, Int.reduceToNat, Int.toNat_zero, wr]) | ((with_reducible refine ev_call ?_); (first | (refine call_fn e1 rfl ?_) | (refine call_fn e2 rfl ?_)); refine k_run ?_) | ((with_reducible refine ev_guard ?_); (with_reducible first | refine guard_t ?_ ?_ rfl | refine guard_f ?_ ?_ rfl) <;> (intro h; (try simp only [h]); (try simp only [nrm] at h) <;> (try ((with_reducible exfalso); omega)))) | ((with_reducible refine ck_split (fun h => ?_) (fun h => ?_)) <;> (try simp only [nrm] at h) <;> (try ((with_reducible exfalso); omega))) | ((with_reducible refine And.intro ?_ ?_); (first | omega | focus (simp; done) | focus (simp; omega) | focus ((repeat' (with_reducible refine And.intro ?_ ?_)) <;> first | omega | rfl | (simp only [go_sem, refsL_app, refs_dmap] <;> fail) | (simp [refsL_app, refs_dmap, AV.refsL, AV.refs] <;> omega)))) | (with_reducible refine hJ _ (fun K hK => ?_) ?_ <;> clear hJ KJ) | ((with_reducible refine ev_less ?_); (refine ⟨rfl, ?_, ?_⟩ <;> simp only [go_sem, St.clean, cleanO, SubS, SubO, beq_self_eq_true, ↓reduceIte, Nat.reduceEqDiff, Nat.reduceBEq, Nat.reduceAdd, Nat.reduceMul, Nat.reduceSub, Nat.reduceLT, Nat.reduceLeDiff])) | ((with_reducible first | apply hK | (clear hK K; first | apply hK | (clear hK K; first | apply hK | (clear hK K; apply hK)))); clear hK K) | fail)
    all_goals (first | refine res_tmp rfl (by simp [D.plain, plains]) (by simp) ?_ | refine res_at rfl (by simp [D.plain, plains]) (by simp) ?_ | refine res_two rfl (by simp [D.plain, plains]) (by simp) ?_ | refine res_three rfl (by simp [D.plain, plains]) (by simp) ?_ | skip)
    all_goals rfl

set_option maxRecDepth 100000 in
set_option maxHeartbeats 4000000 in
theorem implHeirs1_fn (l : List PerV) (id y : Int) (hl : l.length ≤ 1048576) (h : (askF l id && inR y 1 2999) = true) : FnD Try.prog 45 [famD l, .int id, .int y] (.tu [intL (heirI l id y), .bool true]) := by
  rw [Bool.and_eq_true] at h
  have e1 := has_fn l id (by omega)
  have e2 := isYear_fn y
  rw [h.1] at e1
  rw [h.2] at e2
  obtain ⟨hok, hid⟩ := askF_iff.1 h.1
  have e3 := succ_top l id hok hid
  have hz := hrL_ok hok hid
  have hzl := hrL_len hok hid
  have e4 := living_s 21 l y (hrL l id) hl (by omega) hz.2
  have hd := delI_take (hrL l id) (livI l y)
  have hf := List.length_filter_le (livI l y) (hrL l id)
  refine fn_go Try.func45 rfl rfl Try.ntmps45 Try.results45 (by simp only [slotsOf, argAV, List.map_cons, List.map_nil, Nat.reduceAdd]; rfl) (by simp) ?_
  repeat' (first | (with_reducible first | refine aw_seq fun K hK => ?_ | refine aw_region (by kernel_rfl) ?_ | refine aw_condk ?_ | refine aw_block ?_) | ((with_reducible refine ev_aw ?_); first | (refine aw_drawJ (by kernel_rfl) (id := 3) _ _ (by kernel_rfl) (pl_Fam16_45_3U _ (by kernel_rfl)) (fun KJ hJ => ?_))) | (with_reducible first | refine ru_four ?_ ?_ ?_ ?_ | refine ru_three ?_ ?_ ?_ | refine ru_two ?_ ?_ | refine rv_split ?_ ?_ | refine rv_two ?_ ?_ | refine rp_two ?_ ?_) | ((with_reducible refine evg ?_); simp only [go_sem, St.clean, cleanO, ↓reduceIte, Nat.reduceEqDiff, Nat.reduceBEq, Nat.reduceAdd, Nat.reduceMul, Nat.reduceSub, Nat.reduceLT, Nat.reduceLeDiff]) | (simp (disch := omega) only [wr, drop_at, str_at, int_at, Int.reduceSub, Int.reduceAdd, Int.reduceToNat, Int.toNat_zero, wr]) | ((with_reducible refine ev_call ?_); (first | (refine call_fn e1 rfl ?_) | (refine call_fn e2 rfl ?_) | (refine call_s e3 ?_ ?_ ?_ ?_ ?_; (focus rfl); (focus first | exact trivial | exact And.intro rfl trivial | exact ⟨rfl, rfl, trivial⟩ | exact ⟨rfl, rfl, rfl, trivial⟩); (focus rfl); (focus (simp [-List.map_map, apartO, dropO, killN, obCells, refs_dmap, nofnsD, AV.refs, AV.refsL, AV.nofn, AV.nofns] <;> fail))) | (refine call_s e4 ?_ ?_ ?_ ?_ ?_; (focus rfl); (focus first | exact trivial | exact And.intro rfl trivial | exact ⟨rfl, rfl, trivial⟩ | exact ⟨rfl, rfl, rfl, trivial⟩); (focus rfl); (focus (simp [-List.map_map, apartO, dropO, killN, obCells, refs_dmap, nofnsD, AV.refs, AV.refsL, AV.nofn, AV.nofns] <;> fail)))); refine k_run ?_) | ((with_reducible refine ev_guard ?_); (with_reducible first | refine guard_t ?_ ?_ rfl | refine guard_f ?_ ?_ rfl) <;> (intro h; (try simp only [h]); (try simp only [nrm] at h) <;> (try ((with_reducible exfalso); omega)))) | ((with_reducible refine ck_split (fun h => ?_) (fun h => ?_)) <;> (try simp only [nrm] at h) <;> (try ((with_reducible exfalso); omega))) | ((with_reducible refine And.intro ?_ ?_); (first | omega | focus (simp; done) | focus (simp; omega) | focus ((repeat' (with_reducible refine And.intro ?_ ?_)) <;> first | omega | rfl | (simp only [go_sem, refsL_app, refs_dmap] <;> fail) | (simp [refsL_app, refs_dmap, AV.refsL, AV.refs] <;> omega)))) | (with_reducible refine hJ _ (fun K hK => ?_) ?_ <;> clear hJ KJ) | ((with_reducible refine ev_less ?_); (refine ⟨rfl, ?_, ?_⟩ <;> simp only [go_sem, St.clean, cleanO, SubS, SubO, beq_self_eq_true, ↓reduceIte, Nat.reduceEqDiff, Nat.reduceBEq, Nat.reduceAdd, Nat.reduceMul, Nat.reduceSub, Nat.reduceLT, Nat.reduceLeDiff])) | ((with_reducible first | apply hK | (clear hK K; first | apply hK | (clear hK K; first | apply hK | (clear hK K; apply hK)))); clear hK K) | fail)
  (first | refine res_tmp rfl (by simp [D.plain, plains]) (by simp) ?_ | refine res_at rfl (by simp [D.plain, plains]) (by simp) ?_ | refine res_two rfl (by simp [D.plain, plains]) (by simp) ?_ | refine res_three rfl (by simp [D.plain, plains]) (by simp) ?_)
  rw [List.drop_zero, Nat.mul_one, hd]
  rfl

def headR (l : List PerV) (id y : Int) : D := if askF l id && inR y 1 2999 then (if livI l y id then .tu [.int id, .bool true] else if heirI l id y = [] then .tu [.int 0, .bool false] else .tu [.int ((heirI l id y).getD 0 0), .bool true]) else .tu [.int 0, .bool false]

end Go.Proofs.Ytdeobicgildamaa
