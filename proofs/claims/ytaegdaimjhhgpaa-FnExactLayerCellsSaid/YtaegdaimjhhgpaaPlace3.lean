/- PlaceCharges: contracts. -/
import Derived.Test.YtaegdaimjhhgpaaPlace2
import Derived.WalkKit
import Derived.WalkSpells
import Derived.KernelRfl
namespace Go.Proofs.Ytaegdaimjhhgpaa
open Go.RowKit
set_option linter.unusedVariables false
set_option linter.unusedSimpArgs false

attribute [local go_sem] intL BoxV.d BoxV.cs boxL ArmsV.d

attribute [local simp] ints_plain ints_all ints_all1 ints_plain_take boxC_plains boxC_all

def onL (x : ArmsV) : List BoxV := (grpP (sideZ x false) x.c1 x.k1 x.a1 x.t1).1

def arL (x : ArmsV) : List BoxV := (grpP (sideZ x true) x.c2 x.k2 x.a2 x.t2).1

def placeR (x : ArmsV) : D := if okArms x then .tu [boxL (onL x), boxL (arL x), .bool true] else .tu [boxL [], boxL [], .bool false]

set_option maxRecDepth 100000 in
theorem pl_Place3_38_3 (l : List Oper) (h : l = opsOf Try.f38 3) : planB l (.pure 0 (.pure 2 (.pure 3 (.one 1 (.one 4 (.pure 5 (.pure 6 (.pure 7 (.pure 8 (.pure 9 PT.fin)))))))))) [] = true := by
  subst h
  kernel_rfl

set_option maxRecDepth 100000 in
theorem pl_Place3_38_4 (l : List Oper) (h : l = opsOf Try.f38 4) : planB l (.pure 0 (.pure 2 (.pure 3 (.one 1 (.one 4 (.pure 5 (.pure 6 (.pure 7 (.pure 8 (.pure 9 PT.fin)))))))))) [] = true := by
  subst h
  kernel_rfl

set_option maxRecDepth 100000 in
set_option maxHeartbeats 4000000 in
theorem implPlace_fn (x : ArmsV) : FnD Try.prog 38 [x.d] (placeR x) := by
  have e1 := isValidArms_fn x
  have hnil : leD (.tu [.v (.slice none 0 0), .v (.slice none 0 0), .bool false]) (.tu [boxL [], boxL [], .bool false]) := leD_tu (lesD_cons leD_nil (lesD_cons leD_nil (lesD_refl _)))
  cases g : okArms x
  · rw [g] at e1
    rw [placeR, g]
    refine fnd_le ?_ hnil
    refine fn_go Try.func38 rfl rfl Try.ntmps38 Try.results38 (by simp only [slotsOf, argAV, List.map_cons, List.map_nil, Nat.reduceAdd]; rfl) (by simp) ?_
    repeat' (first | (with_reducible first | refine aw_seq fun K hK => ?_ | refine aw_region (by kernel_rfl) ?_ | refine aw_condk ?_ | refine aw_block ?_) | ((with_reducible refine ev_aw ?_); first | (refine aw_draw (id := 3) (by kernel_rfl) _ _ (by kernel_rfl) (pl_Place3_38_3 _ (by kernel_rfl)) ?_) | (refine aw_draw (id := 4) (by kernel_rfl) _ _ (by kernel_rfl) (pl_Place3_38_4 _ (by kernel_rfl)) ?_)) | (with_reducible first | refine ru_four ?_ ?_ ?_ ?_ | refine ru_three ?_ ?_ ?_ | refine ru_two ?_ ?_ | refine rp_two ?_ ?_) | ((with_reducible refine evg ?_); simp only [go_sem, St.clean, cleanO, ↓reduceIte, Nat.reduceEqDiff, Nat.reduceBEq, Nat.reduceAdd, Nat.reduceMul, Nat.reduceSub, Nat.reduceLT, Nat.reduceLeDiff]) | ((with_reducible refine ev_call ?_); (first | (refine call_fn e1 rfl ?_)); refine k_run ?_) | ((with_reducible refine ev_guard ?_); (with_reducible first | refine guard_t ?_ ?_ rfl | refine guard_f ?_ ?_ rfl) <;> (intro h; (try simp only [h]); (try simp only [nrm] at h))) | ((with_reducible refine ck_split (fun h => ?_) (fun h => ?_)) <;> (try simp only [nrm] at h)) | ((with_reducible refine And.intro ?_ ?_); (first | omega | focus (simp; done) | focus (simp; omega) | focus ((repeat' (with_reducible refine And.intro ?_ ?_)) <;> first | omega | rfl | (simp only [go_sem, refsL_app, refs_dmap] <;> fail) | (simp [refsL_app, refs_dmap, AV.refsL, AV.refs] <;> omega)))) | (with_reducible refine hJ _ (fun K hK => ?_) ?_ <;> clear hJ KJ) | ((with_reducible refine ev_less ?_); (refine ⟨rfl, ?_, ?_⟩ <;> simp only [go_sem, St.clean, cleanO, SubS, SubO, beq_self_eq_true, ↓reduceIte, Nat.reduceEqDiff, Nat.reduceBEq, Nat.reduceAdd, Nat.reduceMul, Nat.reduceSub, Nat.reduceLT, Nat.reduceLeDiff])) | ((with_reducible first | apply hK | (clear hK K; first | apply hK | (clear hK K; first | apply hK | (clear hK K; apply hK)))); clear hK K) | (simp (disch := omega) only [wr, drop_at, str_at, int_at, Int.reduceSub, Int.reduceAdd, Int.reduceToNat, Int.toNat_zero]) | fail)
    (first | refine res_tmp rfl (by simp [D.plain, plains]) (by simp) ?_ | refine res_at rfl (by simp [D.plain, plains]) (by simp) ?_ | refine res_two rfl (by simp [D.plain, plains]) (by simp) ?_ | refine res_three rfl (by simp [D.plain, plains]) (by simp) ?_)
    rfl
  · rw [g] at e1
    have hin := okArms_in g
    have e2 := band_fn x g
    have e3 := ground_fn x g
    have hc1 : 0 ≤ x.c1 ∧ x.c1 ≤ 40 := by
      cases hn : noGroup x.c1 x.k1 x.a1 x.t1
      · have := okGroupN_in hin.2.2.1 hn
        omega
      · have := noGroup_in hn
        omega
    have hc2 : 0 ≤ x.c2 ∧ x.c2 ≤ 40 := by
      cases hn : noGroup x.c2 x.k2 x.a2 x.t2
      · have := okGroupN_in hin.2.2.2.1 hn
        omega
      · have := noGroup_in hn
        omega
    have e4 := boxesFor_fn (sideZ x false) (regZ_good _) x.c1 x.k1 x.a1 x.t1 hc1
    have e5 := boxesFor_fn (sideZ x true) (regZ_good _) x.c2 x.k2 x.a2 x.t2 hc2
    rw [grp_on x g] at e4
    rw [grp_around x g] at e5
    rw [placeR, g, if_pos rfl]
    change FnD Try.prog 87 _ (.tu [boxL (onL x), .bool true]) at e4
    change FnD Try.prog 87 _ (.tu [boxL (arL x), .bool true]) at e5
    generalize onL x = os at *
    generalize arL x = ar at *
    generalize sideZ x false = z1 at *
    generalize sideZ x true = z2 at *
    rw [← ints_raw z1] at e4
    rw [← ints_raw z2] at e5
    obtain ⟨fd, fl, ff, fs, o, l, t, c1, k1, a1, t1, c2, k2, a2, t2⟩ := x
    refine fn_go Try.func38 rfl rfl Try.ntmps38 Try.results38 (by simp only [slotsOf, argAV, List.map_cons, List.map_nil, Nat.reduceAdd]; rfl) (by simp) ?_
    repeat' (first | (with_reducible first | refine aw_seq fun K hK => ?_ | refine aw_region (by kernel_rfl) ?_ | refine aw_condk ?_ | refine aw_block ?_) | ((with_reducible refine ev_aw ?_); first | (refine aw_draw (id := 3) (by kernel_rfl) _ _ (by kernel_rfl) (pl_Place3_38_3 _ (by kernel_rfl)) ?_) | (refine aw_draw (id := 4) (by kernel_rfl) _ _ (by kernel_rfl) (pl_Place3_38_4 _ (by kernel_rfl)) ?_)) | (with_reducible first | refine ru_four ?_ ?_ ?_ ?_ | refine ru_three ?_ ?_ ?_ | refine ru_two ?_ ?_ | refine rp_two ?_ ?_) | ((with_reducible refine evg ?_); simp only [go_sem, St.clean, cleanO, ↓reduceIte, Nat.reduceEqDiff, Nat.reduceBEq, Nat.reduceAdd, Nat.reduceMul, Nat.reduceSub, Nat.reduceLT, Nat.reduceLeDiff]) | (simp (disch := omega) only [wr, drop_at, str_at, int_at, Int.reduceSub, Int.reduceAdd, Int.reduceToNat, Int.toNat_zero, wr]) | ((with_reducible refine ev_call ?_); (first | (refine call_fn e1 rfl ?_) | (refine call_fn e2 rfl ?_) | (refine call_fn e3 rfl ?_) | (refine call_fn e4 rfl ?_) | (refine call_fn e5 rfl ?_)); refine k_run ?_) | ((with_reducible refine ev_guard ?_); (with_reducible first | refine guard_t ?_ ?_ rfl | refine guard_f ?_ ?_ rfl) <;> (intro h; (try simp only [h]); (try simp only [nrm] at h) <;> (try ((with_reducible exfalso); omega)))) | ((with_reducible refine ck_split (fun h => ?_) (fun h => ?_)) <;> (try simp only [nrm] at h) <;> (try ((with_reducible exfalso); omega))) | ((with_reducible refine And.intro ?_ ?_); (first | omega | focus (simp; done) | focus (simp; omega) | focus ((repeat' (with_reducible refine And.intro ?_ ?_)) <;> first | omega | rfl | (simp only [go_sem, refsL_app, refs_dmap] <;> fail) | (simp [refsL_app, refs_dmap, AV.refsL, AV.refs] <;> omega)))) | (with_reducible refine hJ _ (fun K hK => ?_) ?_ <;> clear hJ KJ) | ((with_reducible refine ev_less ?_); (refine ⟨rfl, ?_, ?_⟩ <;> simp only [go_sem, St.clean, cleanO, SubS, SubO, beq_self_eq_true, ↓reduceIte, Nat.reduceEqDiff, Nat.reduceBEq, Nat.reduceAdd, Nat.reduceMul, Nat.reduceSub, Nat.reduceLT, Nat.reduceLeDiff])) | ((with_reducible first | apply hK | (clear hK K; first | apply hK | (clear hK K; first | apply hK | (clear hK K; apply hK)))); clear hK K) | fail)
    (first | refine res_tmp rfl (by simp [D.plain, plains]) (by simp) ?_ | refine res_at rfl (by simp [D.plain, plains]) (by simp) ?_ | refine res_two rfl (by simp [D.plain, plains]) (by simp) ?_ | refine res_three rfl (by simp [D.plain, plains]) (by simp) ?_)
    simp

set_option maxRecDepth 100000 in
theorem pl_Place3_84_3 (l : List Oper) (h : l = opsOf Try.f84 3) : planB l (.pure 0 (.pure 2 (.pure 3 (.pure 4 (.one 1 (.one 5 (.pure 6 (.pure 7 (.pure 8 (.pure 9 (.pure 10 PT.fin))))))))))) [] = true := by
  subst h
  kernel_rfl

set_option maxRecDepth 100000 in
theorem pl_Place3_84_8 (l : List Oper) (h : l = opsOf Try.f84 8) : planB l (.pure 0 (.pure 2 (.pure 3 (.pure 4 (.one 1 (.one 5 (.pure 6 (.pure 7 (.pure 8 (.pure 9 (.pure 10 PT.fin))))))))))) [] = true := by
  subst h
  kernel_rfl

set_option maxRecDepth 100000 in
set_option maxHeartbeats 4000000 in
theorem l11Place_fn (x : ArmsV) (g : okArms x = true) : FnD Try.prog 84 [x.d] (.tu [boxL (onL x), boxL (arL x), .bool true]) := by
  have hin := okArms_in g
  have e1 := l11Region_fn x g false
  have e2 := l11Region_fn x g true
  have n1 := l4None_fn x.c1 x.k1 x.a1 x.t1
  have n2 := l4None_fn x.c2 x.k2 x.a2 x.t2
  have q1 := grp_on x g
  have q2 := grp_around x g
  have hz1 : okReg (sideZ x false) = true := regZ_good _
  have hz2 : okReg (sideZ x true) = true := regZ_good _
  unfold onL arL
  generalize sideZ x false = z1 at *
  generalize sideZ x true = z2 at *
  cases g1 : noGroup x.c1 x.k1 x.a1 x.t1 <;> cases g2 : noGroup x.c2 x.k2 x.a2 x.t2 <;> rw [g1] at n1 <;> rw [g2] at n2
  · have i1 := okGroupN_in hin.2.2.1 g1
    have i2 := okGroupN_in hin.2.2.2.1 g2
    have e3 := l11Largest_fn z1 x.c1.toNat hz1 (by omega)
    have e4 := l11Largest_fn z2 x.c2.toNat hz2 (by omega)
    rw [largeR_P, show ((x.c1.toNat : Nat) : Int) = x.c1 by omega] at e3
    rw [largeR_P, show ((x.c2.toNat : Nat) : Int) = x.c2 by omega] at e4
    simp only [grpP, g1, g2, Bool.false_eq_true, if_false] at q1 q2 ⊢
    rw [q1, ← ints_raw z1] at e3
    rw [q2, ← ints_raw z2] at e4
    generalize (largeP z1 x.c1.toNat 8).1 = os at *
    generalize (largeP z2 x.c2.toNat 8).1 = ar at *
    obtain ⟨fd, fl, ff, fs, o, l, t, c1, k1, a1, t1, c2, k2, a2, t2⟩ := x
    refine fn_go Try.func84 rfl rfl Try.ntmps84 Try.results84 (by simp only [slotsOf, argAV, List.map_cons, List.map_nil, Nat.reduceAdd]; rfl) (by simp) ?_
    repeat' (first | (with_reducible first | refine aw_seq fun K hK => ?_ | refine aw_region (by kernel_rfl) ?_ | refine aw_condk ?_ | refine aw_block ?_) | ((with_reducible refine ev_aw ?_); first | (refine aw_draw (id := 3) (by kernel_rfl) _ _ (by kernel_rfl) (pl_Place3_84_3 _ (by kernel_rfl)) ?_) | (refine aw_draw (id := 8) (by kernel_rfl) _ _ (by kernel_rfl) (pl_Place3_84_8 _ (by kernel_rfl)) ?_)) | (with_reducible first | refine ru_four ?_ ?_ ?_ ?_ | refine ru_three ?_ ?_ ?_ | refine ru_two ?_ ?_ | refine rp_two ?_ ?_) | ((with_reducible refine evg ?_); simp only [go_sem, St.clean, cleanO, ↓reduceIte, Nat.reduceEqDiff, Nat.reduceBEq, Nat.reduceAdd, Nat.reduceMul, Nat.reduceSub, Nat.reduceLT, Nat.reduceLeDiff]) | (simp (disch := omega) only [wr, drop_at, str_at, int_at, Int.reduceSub, Int.reduceAdd, Int.reduceToNat, Int.toNat_zero, wr]) | ((with_reducible refine ev_call ?_); (first | (refine call_fn e1 rfl ?_) | (refine call_fn e2 rfl ?_) | (refine call_fn e3 rfl ?_) | (refine call_fn e4 rfl ?_) | (refine call_fn n1 rfl ?_) | (refine call_fn n2 rfl ?_)); refine k_run ?_) | ((with_reducible refine ev_guard ?_); (with_reducible first | refine guard_t ?_ ?_ rfl | refine guard_f ?_ ?_ rfl) <;> (intro h; (try simp only [h]); (try simp only [nrm] at h) <;> (try ((with_reducible exfalso); omega)))) | ((with_reducible refine ck_split (fun h => ?_) (fun h => ?_)) <;> (try simp only [nrm] at h) <;> (try ((with_reducible exfalso); omega))) | ((with_reducible refine And.intro ?_ ?_); (first | omega | focus (simp; done) | focus (simp; omega) | focus ((repeat' (with_reducible refine And.intro ?_ ?_)) <;> first | omega | rfl | (simp only [go_sem, refsL_app, refs_dmap] <;> fail) | (simp [refsL_app, refs_dmap, AV.refsL, AV.refs] <;> omega)))) | (with_reducible refine hJ _ (fun K hK => ?_) ?_ <;> clear hJ KJ) | ((with_reducible refine ev_less ?_); (refine ⟨rfl, ?_, ?_⟩ <;> simp only [go_sem, St.clean, cleanO, SubS, SubO, beq_self_eq_true, ↓reduceIte, Nat.reduceEqDiff, Nat.reduceBEq, Nat.reduceAdd, Nat.reduceMul, Nat.reduceSub, Nat.reduceLT, Nat.reduceLeDiff])) | ((with_reducible first | apply hK | (clear hK K; first | apply hK | (clear hK K; first | apply hK | (clear hK K; apply hK)))); clear hK K) | fail)
    (first | refine res_tmp rfl (by simp [D.plain, plains]) (by simp) ?_ | refine res_at rfl (by simp [D.plain, plains]) (by simp) ?_ | refine res_two rfl (by simp [D.plain, plains]) (by simp) ?_ | refine res_three rfl (by simp [D.plain, plains]) (by simp) ?_)
    simp
  · have i1 := okGroupN_in hin.2.2.1 g1
    have e3 := l11Largest_fn z1 x.c1.toNat hz1 (by omega)
    rw [largeR_P, show ((x.c1.toNat : Nat) : Int) = x.c1 by omega] at e3
    simp only [grpP, g1, g2, Bool.false_eq_true, if_false, if_true] at q1 q2 ⊢
    rw [q1, ← ints_raw z1] at e3
    generalize (largeP z1 x.c1.toNat 8).1 = os at *
    obtain ⟨fd, fl, ff, fs, o, l, t, c1, k1, a1, t1, c2, k2, a2, t2⟩ := x
    refine fn_go Try.func84 rfl rfl Try.ntmps84 Try.results84 (by simp only [slotsOf, argAV, List.map_cons, List.map_nil, Nat.reduceAdd]; rfl) (by simp) ?_
    repeat' (first | (with_reducible first | refine aw_seq fun K hK => ?_ | refine aw_region (by kernel_rfl) ?_ | refine aw_condk ?_ | refine aw_block ?_) | ((with_reducible refine ev_aw ?_); first | (refine aw_draw (id := 3) (by kernel_rfl) _ _ (by kernel_rfl) (pl_Place3_84_3 _ (by kernel_rfl)) ?_) | (refine aw_draw (id := 8) (by kernel_rfl) _ _ (by kernel_rfl) (pl_Place3_84_8 _ (by kernel_rfl)) ?_)) | (with_reducible first | refine ru_four ?_ ?_ ?_ ?_ | refine ru_three ?_ ?_ ?_ | refine ru_two ?_ ?_ | refine rp_two ?_ ?_) | ((with_reducible refine evg ?_); simp only [go_sem, St.clean, cleanO, ↓reduceIte, Nat.reduceEqDiff, Nat.reduceBEq, Nat.reduceAdd, Nat.reduceMul, Nat.reduceSub, Nat.reduceLT, Nat.reduceLeDiff]) | (simp (disch := omega) only [wr, drop_at, str_at, int_at, Int.reduceSub, Int.reduceAdd, Int.reduceToNat, Int.toNat_zero, wr]) | ((with_reducible refine ev_call ?_); (first | (refine call_fn e1 rfl ?_) | (refine call_fn e2 rfl ?_) | (refine call_fn e3 rfl ?_) | (refine call_fn n1 rfl ?_) | (refine call_fn n2 rfl ?_)); refine k_run ?_) | ((with_reducible refine ev_guard ?_); (with_reducible first | refine guard_t ?_ ?_ rfl | refine guard_f ?_ ?_ rfl) <;> (intro h; (try simp only [h]); (try simp only [nrm] at h) <;> (try ((with_reducible exfalso); omega)))) | ((with_reducible refine ck_split (fun h => ?_) (fun h => ?_)) <;> (try simp only [nrm] at h) <;> (try ((with_reducible exfalso); omega))) | ((with_reducible refine And.intro ?_ ?_); (first | omega | focus (simp; done) | focus (simp; omega) | focus ((repeat' (with_reducible refine And.intro ?_ ?_)) <;> first | omega | rfl | (simp only [go_sem, refsL_app, refs_dmap] <;> fail) | (simp [refsL_app, refs_dmap, AV.refsL, AV.refs] <;> omega)))) | (with_reducible refine hJ _ (fun K hK => ?_) ?_ <;> clear hJ KJ) | ((with_reducible refine ev_less ?_); (refine ⟨rfl, ?_, ?_⟩ <;> simp only [go_sem, St.clean, cleanO, SubS, SubO, beq_self_eq_true, ↓reduceIte, Nat.reduceEqDiff, Nat.reduceBEq, Nat.reduceAdd, Nat.reduceMul, Nat.reduceSub, Nat.reduceLT, Nat.reduceLeDiff])) | ((with_reducible first | apply hK | (clear hK K; first | apply hK | (clear hK K; first | apply hK | (clear hK K; apply hK)))); clear hK K) | fail)
    (first | refine res_tmp rfl (by simp [D.plain, plains]) (by simp) ?_ | refine res_at rfl (by simp [D.plain, plains]) (by simp) ?_ | refine res_two rfl (by simp [D.plain, plains]) (by simp) ?_ | refine res_three rfl (by simp [D.plain, plains]) (by simp) ?_)
    simp [show boxC ([] : List BoxV) = [] from rfl]
  · have i2 := okGroupN_in hin.2.2.2.1 g2
    have e4 := l11Largest_fn z2 x.c2.toNat hz2 (by omega)
    rw [largeR_P, show ((x.c2.toNat : Nat) : Int) = x.c2 by omega] at e4
    simp only [grpP, g1, g2, Bool.false_eq_true, if_false, if_true] at q1 q2 ⊢
    rw [q2, ← ints_raw z2] at e4
    generalize (largeP z2 x.c2.toNat 8).1 = ar at *
    obtain ⟨fd, fl, ff, fs, o, l, t, c1, k1, a1, t1, c2, k2, a2, t2⟩ := x
    refine fn_go Try.func84 rfl rfl Try.ntmps84 Try.results84 (by simp only [slotsOf, argAV, List.map_cons, List.map_nil, Nat.reduceAdd]; rfl) (by simp) ?_
    repeat' (first | (with_reducible first | refine aw_seq fun K hK => ?_ | refine aw_region (by kernel_rfl) ?_ | refine aw_condk ?_ | refine aw_block ?_) | ((with_reducible refine ev_aw ?_); first | (refine aw_draw (id := 3) (by kernel_rfl) _ _ (by kernel_rfl) (pl_Place3_84_3 _ (by kernel_rfl)) ?_) | (refine aw_draw (id := 8) (by kernel_rfl) _ _ (by kernel_rfl) (pl_Place3_84_8 _ (by kernel_rfl)) ?_)) | (with_reducible first | refine ru_four ?_ ?_ ?_ ?_ | refine ru_three ?_ ?_ ?_ | refine ru_two ?_ ?_ | refine rp_two ?_ ?_) | ((with_reducible refine evg ?_); simp only [go_sem, St.clean, cleanO, ↓reduceIte, Nat.reduceEqDiff, Nat.reduceBEq, Nat.reduceAdd, Nat.reduceMul, Nat.reduceSub, Nat.reduceLT, Nat.reduceLeDiff]) | (simp (disch := omega) only [wr, drop_at, str_at, int_at, Int.reduceSub, Int.reduceAdd, Int.reduceToNat, Int.toNat_zero, wr]) | ((with_reducible refine ev_call ?_); (first | (refine call_fn e1 rfl ?_) | (refine call_fn e2 rfl ?_) | (refine call_fn e4 rfl ?_) | (refine call_fn n1 rfl ?_) | (refine call_fn n2 rfl ?_)); refine k_run ?_) | ((with_reducible refine ev_guard ?_); (with_reducible first | refine guard_t ?_ ?_ rfl | refine guard_f ?_ ?_ rfl) <;> (intro h; (try simp only [h]); (try simp only [nrm] at h) <;> (try ((with_reducible exfalso); omega)))) | ((with_reducible refine ck_split (fun h => ?_) (fun h => ?_)) <;> (try simp only [nrm] at h) <;> (try ((with_reducible exfalso); omega))) | ((with_reducible refine And.intro ?_ ?_); (first | omega | focus (simp; done) | focus (simp; omega) | focus ((repeat' (with_reducible refine And.intro ?_ ?_)) <;> first | omega | rfl | (simp only [go_sem, refsL_app, refs_dmap] <;> fail) | (simp [refsL_app, refs_dmap, AV.refsL, AV.refs] <;> omega)))) | (with_reducible refine hJ _ (fun K hK => ?_) ?_ <;> clear hJ KJ) | ((with_reducible refine ev_less ?_); (refine ⟨rfl, ?_, ?_⟩ <;> simp only [go_sem, St.clean, cleanO, SubS, SubO, beq_self_eq_true, ↓reduceIte, Nat.reduceEqDiff, Nat.reduceBEq, Nat.reduceAdd, Nat.reduceMul, Nat.reduceSub, Nat.reduceLT, Nat.reduceLeDiff])) | ((with_reducible first | apply hK | (clear hK K; first | apply hK | (clear hK K; first | apply hK | (clear hK K; apply hK)))); clear hK K) | fail)
    (first | refine res_tmp rfl (by simp [D.plain, plains]) (by simp) ?_ | refine res_at rfl (by simp [D.plain, plains]) (by simp) ?_ | refine res_two rfl (by simp [D.plain, plains]) (by simp) ?_ | refine res_three rfl (by simp [D.plain, plains]) (by simp) ?_)
    simp [show boxC ([] : List BoxV) = [] from rfl]
  · simp only [grpP, g1, g2, if_true]
    obtain ⟨fd, fl, ff, fs, o, l, t, c1, k1, a1, t1, c2, k2, a2, t2⟩ := x
    refine fn_go Try.func84 rfl rfl Try.ntmps84 Try.results84 (by simp only [slotsOf, argAV, List.map_cons, List.map_nil, Nat.reduceAdd]; rfl) (by simp) ?_
    repeat' (first | (with_reducible first | refine aw_seq fun K hK => ?_ | refine aw_region (by kernel_rfl) ?_ | refine aw_condk ?_ | refine aw_block ?_) | ((with_reducible refine ev_aw ?_); first | (refine aw_draw (id := 3) (by kernel_rfl) _ _ (by kernel_rfl) (pl_Place3_84_3 _ (by kernel_rfl)) ?_) | (refine aw_draw (id := 8) (by kernel_rfl) _ _ (by kernel_rfl) (pl_Place3_84_8 _ (by kernel_rfl)) ?_)) | (with_reducible first | refine ru_four ?_ ?_ ?_ ?_ | refine ru_three ?_ ?_ ?_ | refine ru_two ?_ ?_ | refine rp_two ?_ ?_) | ((with_reducible refine evg ?_); simp only [go_sem, St.clean, cleanO, ↓reduceIte, Nat.reduceEqDiff, Nat.reduceBEq, Nat.reduceAdd, Nat.reduceMul, Nat.reduceSub, Nat.reduceLT, Nat.reduceLeDiff]) | (simp (disch := omega) only [wr, drop_at, str_at, int_at, Int.reduceSub, Int.reduceAdd, Int.reduceToNat, Int.toNat_zero, wr]) | ((with_reducible refine ev_call ?_); (first | (refine call_fn e1 rfl ?_) | (refine call_fn e2 rfl ?_) | (refine call_fn n1 rfl ?_) | (refine call_fn n2 rfl ?_)); refine k_run ?_) | ((with_reducible refine ev_guard ?_); (with_reducible first | refine guard_t ?_ ?_ rfl | refine guard_f ?_ ?_ rfl) <;> (intro h; (try simp only [h]); (try simp only [nrm] at h) <;> (try ((with_reducible exfalso); omega)))) | ((with_reducible refine ck_split (fun h => ?_) (fun h => ?_)) <;> (try simp only [nrm] at h) <;> (try ((with_reducible exfalso); omega))) | ((with_reducible refine And.intro ?_ ?_); (first | omega | focus (simp; done) | focus (simp; omega) | focus ((repeat' (with_reducible refine And.intro ?_ ?_)) <;> first | omega | rfl | (simp only [go_sem, refsL_app, refs_dmap] <;> fail) | (simp [refsL_app, refs_dmap, AV.refsL, AV.refs] <;> omega)))) | (with_reducible refine hJ _ (fun K hK => ?_) ?_ <;> clear hJ KJ) | ((with_reducible refine ev_less ?_); (refine ⟨rfl, ?_, ?_⟩ <;> simp only [go_sem, St.clean, cleanO, SubS, SubO, beq_self_eq_true, ↓reduceIte, Nat.reduceEqDiff, Nat.reduceBEq, Nat.reduceAdd, Nat.reduceMul, Nat.reduceSub, Nat.reduceLT, Nat.reduceLeDiff])) | ((with_reducible first | apply hK | (clear hK K; first | apply hK | (clear hK K; first | apply hK | (clear hK K; apply hK)))); clear hK K) | fail)
    (first | refine res_tmp rfl (by simp [D.plain, plains]) (by simp) ?_ | refine res_at rfl (by simp [D.plain, plains]) (by simp) ?_ | refine res_two rfl (by simp [D.plain, plains]) (by simp) ?_ | refine res_three rfl (by simp [D.plain, plains]) (by simp) ?_)
    simp [show boxC ([] : List BoxV) = [] from rfl]

theorem place_opn (s u : Nat) (h : s ≠ u) (a b : List BoxV) (ok : Bool) : Opn (.tu [boxL a, boxL b, .bool ok]) (.tu [.bs s 0 a.length 3, .bs u 0 b.length 3, .d (.bool ok)]) [(s, .ds (boxC a)), (u, .ds (boxC b))] :=
  opn_tu (opnL_cons (opn_ls s (boxC_plains a)) (opnL_cons (opn_ls u (boxC_plains b)) (opnL_v opnL_nil) rfl) (by simp [apartN, h]))

end Go.Proofs.Ytaegdaimjhhgpaa
