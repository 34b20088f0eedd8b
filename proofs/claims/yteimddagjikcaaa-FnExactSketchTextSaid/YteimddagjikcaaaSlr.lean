/- SketchText, in the program and in the reference; the law. -/
import Derived.Test.YteimddagjikcaaaSlq
import Derived.WalkKit
import Derived.WalkSpells
import Derived.KernelRfl
namespace Go.Proofs.Yteimddagjikcaaa
open Go.RowKit
set_option linter.unusedVariables false
set_option linter.unusedSimpArgs false

attribute [local go_sem] ArmsV.d ArmsV.cs SlV.cs slL skD skO

attribute [local simp] slC_all slC_plains slC_len

theorem tinc1 : (⟨#[32]⟩ : ByteArray) ++ tincWord 1 = goldB := by decide

def skQ0 (x : ArmsV) (l : List SlV) : ByteArray := if x.o = 0 then ⟨#[]⟩ else ordText x.o x.l ++ slA l 0

def skQ1 (x : ArmsV) (l : List SlV) : ByteArray := if noGroup x.c1 x.k1 x.a1 x.t1 = true then ⟨#[]⟩ else bareText x.c1 x.k1 x.a1 ++ slA l (skI x)

def skQ2 (x : ArmsV) (l : List SlV) : ByteArray := if noGroup x.c2 x.k2 x.a2 x.t2 = true then ⟨#[]⟩ else bareText x.c2 x.k2 x.a2 ++ slA l (skJ x)

theorem gold_facts {x : ArmsV} (h : goldA x = true) : (¬ x.o = 0 → x.t = 1) ∧ (noGroup x.c1 x.k1 x.a1 x.t1 = false → x.t1 = 1) ∧ (noGroup x.c2 x.k2 x.a2 x.t2 = false → x.t2 = 1) := by
  rw [gold_iff, Bool.and_eq_true, Bool.and_eq_true, beq_iff_eq, beq_iff_eq, beq_iff_eq] at h
  obtain ⟨h1, h2, h3⟩ := h
  refine ⟨fun g => ?_, fun g => ?_, fun g => ?_⟩
  · rw [h1, bT, if_neg g]
  · rw [h2, bT1, g]
    rfl
  · rw [h3, bT2, g]
    rfl

theorem bareText_ne (c k a : Int) (b : ByteArray) : ¬ bareText c k a ++ b = ⟨#[]⟩ := ne_of_size (by
  have e : ({ data := #[32] } : ByteArray).size = 1 := rfl
  unfold bareText
  split <;> (simp only [ByteArray.size_append]; omega))

theorem ordText_ne (o k : Int) (b : ByteArray) : ¬ ordText o k ++ b = ⟨#[]⟩ := ne_of_size (by
  have e : ({ data := #[97, 32] } : ByteArray).size = 2 := rfl
  unfold ordText lined
  repeat' split
  all_goals (simp only [ByteArray.size_append]; omega))

theorem joinedF_sk (x : ArmsV) (l : List SlV) (h : okArms x = true) : joinedF (fieldText x.fd x.fl x.ff x.fs) (skQ0 x l) (skQ1 x l) (skQ2 x l) (x.o == 7) = skT x l := by
  obtain ⟨hf, ha, ho⟩ := ok_arms h
  have g1 := bareText_ne x.c1 x.k1 x.a1 (slA l (skI x))
  have g2 := bareText_ne x.c2 x.k2 x.a2 (slA l (skJ x))
  have g0 := ordText_ne x.o x.l (slA l 0)
  rcases ho with ⟨h0, e1⟩ | ⟨h0, hl, ht, hg⟩
  · cases e2 : noGroup x.c2 x.k2 x.a2 x.t2
    · simp [joinedF, skT, skT1, skT2, skQ0, skQ1, skQ2, h0, e1, e2, g2, joinW, ByteArray.append_assoc]
    · simp [joinedF, skT, skT1, skT2, skQ0, skQ1, skQ2, h0, e1, e2]
  · have h0' : ¬ x.o = 0 := by omega
    have o1 : skQ0 x l = ordText x.o x.l ++ slA l 0 := by rw [skQ0, if_neg h0']
    unfold joinedF
    rw [o1, if_neg g0]
    by_cases h7 : x.o = 7
    all_goals
      cases e1 : noGroup x.c1 x.k1 x.a1 x.t1
      all_goals
        cases e2 : noGroup x.c2 x.k2 x.a2 x.t2
        all_goals simp [skT, skT1, skT2, skQ1, skQ2, h0', e1, e2, g1, g2, joinW, h7, ByteArray.append_assoc]

theorem sText_fn (x : ArmsV) (l : List SlV) (h : okArms x = true) (hG : goldA x = true) (hs : l.all (fun s => okSlot s.m s.n) = true) (hn : l.length = (plL x).length) : FnD Try.prog 69 [skD x l] (.str (skT x l)) := by
  obtain ⟨t1, t2, t3⟩ := gold_facts hG
  have z1 := fieldText_size x.fd x.fl x.ff x.fs
  have z2 := ordText_size x.o x.l
  have z3 := bareText_size x.c1 x.k1 x.a1
  have z4 := bareText_size x.c2 x.k2 x.a2
  have z5 := slA_size l 0
  have z6 := slA_size l (skI x)
  have z7 := slA_size l (skJ x)
  have z8 := ordS_size x
  have z9 := groupS_size x.c1 x.k1 x.a1 x.t1
  have z10 := groupS_size x.c2 x.k2 x.a2 x.t2
  have e0 : ({ data := #[] } : ByteArray).size = 0 := rfl
  have e9 := joined_fn (fieldText x.fd x.fl x.ff x.fs) (skQ0 x l) (skQ1 x l) (skQ2 x l) (x.o == 7) (by omega) (by unfold skQ0; split <;> (try simp only [ByteArray.size_append]) <;> omega) (by unfold skQ1; split <;> (try simp only [ByteArray.size_append]) <;> omega) (by unfold skQ2; split <;> (try simp only [ByteArray.size_append]) <;> omega)
  rw [joinedF_sk x l h] at e9
  have hp := plL_len x
  have hln : l.length = (if x.o = 0 then 0 else 1) + (if noGroup x.c1 x.k1 x.a1 x.t1 = true then 0 else 1) + (if noGroup x.c2 x.k2 x.a2 x.t2 = true then 0 else 1) := by
    rw [hn, plL, List.length_append, List.length_append]
    split <;> split <;> split <;> rfl
  refine sText_hi x l _ _ _ _ (skQ0 x l) (skQ1 x l) (skQ2 x l) _ _ (skI x) (skJ x) (skJ x + if noGroup x.c2 x.k2 x.a2 x.t2 = true then 0 else 1) hs (by omega) (pieces_fn x h) (by omega) (by omega) (by omega) ?_ ?_ ?_ e9
  · unfold PcR skQ0 skI ordS
    by_cases h0 : x.o = 0
    · exact .inl ⟨if_pos h0, if_pos h0, if_pos h0⟩
    · refine .inr ⟨?_, if_neg h0, by rw [if_neg h0] at hln; omega, ordText x.o x.l, ?_, if_neg h0⟩
      · rw [if_neg h0, ByteArray.append_assoc]
        exact ordText_ne _ _ _
      · rw [if_neg h0, t1 h0, ByteArray.append_assoc, tinc1]
  · unfold PcR skQ1 groupS skJ
    cases e1 : noGroup x.c1 x.k1 x.a1 x.t1
    · refine .inr ⟨?_, rfl, ?_, bareText x.c1 x.k1 x.a1, ?_, rfl⟩
      · rw [if_neg (by simp), groupText, ByteArray.append_assoc]
        exact bareText_ne _ _ _ _
      · rw [e1] at hln
        simp only [Bool.false_eq_true, if_false] at hln
        unfold skI
        omega
      · rw [if_neg (by simp), groupText, t2 e1, ByteArray.append_assoc, tinc1]
    · exact .inl ⟨rfl, rfl, rfl⟩
  · unfold PcR skQ2 groupS
    cases e2 : noGroup x.c2 x.k2 x.a2 x.t2
    · refine .inr ⟨?_, rfl, ?_, bareText x.c2 x.k2 x.a2, ?_, rfl⟩
      · rw [if_neg (by simp), groupText, ByteArray.append_assoc]
        exact bareText_ne _ _ _ _
      · rw [e2] at hln
        simp only [Bool.false_eq_true, if_false] at hln
        unfold skJ skI
        omega
      · rw [if_neg (by simp), groupText, t3 e2, ByteArray.append_assoc, tinc1]
    · exact .inl ⟨rfl, rfl, rfl⟩

theorem okSk_in {x : ArmsV} {l : List SlV} (h : okSk x l = true) : okArms x = true ∧ goldA x = true ∧ l.all (fun s => okSlot s.m s.n) = true ∧ l.length = (plL x).length := by
  unfold okSk at h
  simp only [Bool.and_eq_true, decide_eq_true_eq] at h
  exact ⟨h.1, h.2.2.2.2, h.2.1, h.2.2.1⟩

def skR (x : ArmsV) (l : List SlV) : D := if okSk x l = true then .tu [.str (skT x l), .bool true] else .tu [.str ⟨#[]⟩, .bool false]

set_option maxRecDepth 100000 in
set_option maxHeartbeats 4000000 in
theorem implSk_fn (x : ArmsV) (l : List SlV) (hl : l.length ≤ 9223372036854775807) : FnD Try.prog 35 [skD x l] (skR x l) := by
  have e1 := isValidSketch_fn x l hl
  unfold skR
  cases g : okSk x l
  · rw [g] at e1
    rw [if_neg (by simp)]
    refine fn_go Try.func35 rfl rfl Try.ntmps35 Try.results35 (by simp only [slotsOf, argAV, List.map_cons, List.map_nil, Nat.reduceAdd]; rfl) (by simp) ?_
    repeat' (first | (with_reducible first | refine aw_seq fun K hK => ?_ | refine aw_region (by kernel_rfl) ?_ | refine aw_condk ?_ | refine aw_block ?_) | ((with_reducible refine evg ?_); simp only [go_sem, ↓reduceIte, Nat.reduceEqDiff, Nat.reduceBEq, Nat.reduceAdd, Nat.reduceMul, Nat.reduceSub, Nat.reduceLT, Nat.reduceLeDiff]) | (simp (disch := omega) only [wr, drop_at, str_at, int_at, Int.reduceSub, Int.reduceAdd, Int.reduceToNat, Int.toNat_zero, wr]) | ((with_reducible refine ev_call ?_); (first | (refine call_fn e1 rfl ?_)); refine k_run ?_) | ((with_reducible refine ev_guard ?_); (with_reducible first | refine guard_t ?_ ?_ rfl | refine guard_f ?_ ?_ rfl) <;> (intro h; (try simp only [h]); (try simp only [nrm] at h) <;> (try ((with_reducible exfalso); omega)))) | ((with_reducible refine ck_split (fun h => ?_) (fun h => ?_)) <;> (try simp only [nrm] at h) <;> (try ((with_reducible exfalso); omega))) | ((with_reducible refine And.intro ?_ ?_); (first | omega | focus (simp; done) | focus (simp; omega) | focus ((repeat' (with_reducible refine And.intro ?_ ?_)) <;> first | omega | rfl | (simp only [go_sem, refsL_app, refs_dmap] <;> fail) | (simp [refsL_app, refs_dmap, AV.refsL, AV.refs] <;> omega)))) | ((with_reducible first | apply hK | (clear hK K; first | apply hK | (clear hK K; first | apply hK | (clear hK K; apply hK)))); clear hK K) | fail)
    (first | refine res_tmp rfl (by simp [D.plain, plains]) (by simp) ?_ | refine res_at rfl (by simp [D.plain, plains]) (by simp) ?_ | refine res_two rfl (by simp [D.plain, plains]) (by simp) ?_ | refine res_three rfl (by simp [D.plain, plains]) (by simp) ?_)
    rfl
  · obtain ⟨h1, h2, h3, h4⟩ := okSk_in g
    rw [g] at e1
    have e2 := sText_fn x l h1 h2 h3 h4
    rw [if_pos rfl]
    refine fn_go Try.func35 rfl rfl Try.ntmps35 Try.results35 (by simp only [slotsOf, argAV, List.map_cons, List.map_nil, Nat.reduceAdd]; rfl) (by simp) ?_
    repeat' (first | (with_reducible first | refine aw_seq fun K hK => ?_ | refine aw_region (by kernel_rfl) ?_ | refine aw_condk ?_ | refine aw_block ?_) | ((with_reducible refine evg ?_); simp only [go_sem, ↓reduceIte, Nat.reduceEqDiff, Nat.reduceBEq, Nat.reduceAdd, Nat.reduceMul, Nat.reduceSub, Nat.reduceLT, Nat.reduceLeDiff]) | (simp (disch := omega) only [wr, drop_at, str_at, int_at, Int.reduceSub, Int.reduceAdd, Int.reduceToNat, Int.toNat_zero, wr]) | ((with_reducible refine ev_call ?_); (first | (refine call_fn e1 rfl ?_) | (refine call_fn e2 rfl ?_)); refine k_run ?_) | ((with_reducible refine ev_guard ?_); (with_reducible first | refine guard_t ?_ ?_ rfl | refine guard_f ?_ ?_ rfl) <;> (intro h; (try simp only [h]); (try simp only [nrm] at h) <;> (try ((with_reducible exfalso); omega)))) | ((with_reducible refine ck_split (fun h => ?_) (fun h => ?_)) <;> (try simp only [nrm] at h) <;> (try ((with_reducible exfalso); omega))) | ((with_reducible refine And.intro ?_ ?_); (first | omega | focus (simp; done) | focus (simp; omega) | focus ((repeat' (with_reducible refine And.intro ?_ ?_)) <;> first | omega | rfl | (simp only [go_sem, refsL_app, refs_dmap] <;> fail) | (simp [refsL_app, refs_dmap, AV.refsL, AV.refs] <;> omega)))) | ((with_reducible first | apply hK | (clear hK K; first | apply hK | (clear hK K; first | apply hK | (clear hK K; apply hK)))); clear hK K) | fail)
    (first | refine res_tmp rfl (by simp [D.plain, plains]) (by simp) ?_ | refine res_at rfl (by simp [D.plain, plains]) (by simp) ?_ | refine res_two rfl (by simp [D.plain, plains]) (by simp) ?_ | refine res_three rfl (by simp [D.plain, plains]) (by simp) ?_)
    rfl

set_option maxRecDepth 100000 in
set_option maxHeartbeats 4000000 in
theorem specSk_fn (x : ArmsV) (l : List SlV) (hl : l.length ≤ 9223372036854775807) : FnD Try.prog 33 [skD x l] (skR x l) := by
  have e1 := l7Good_fn x l hl
  unfold skR
  cases g : okSk x l
  · rw [g] at e1
    rw [if_neg (by simp)]
    refine fn_go Try.func33 rfl rfl Try.ntmps33 Try.results33 (by simp only [slotsOf, argAV, List.map_cons, List.map_nil, Nat.reduceAdd]; rfl) (by simp) ?_
    repeat' (first | (with_reducible first | refine aw_seq fun K hK => ?_ | refine aw_region (by kernel_rfl) ?_ | refine aw_condk ?_ | refine aw_block ?_) | ((with_reducible refine evg ?_); simp only [go_sem, ↓reduceIte, Nat.reduceEqDiff, Nat.reduceBEq, Nat.reduceAdd, Nat.reduceMul, Nat.reduceSub, Nat.reduceLT, Nat.reduceLeDiff]) | (simp (disch := omega) only [wr, drop_at, str_at, int_at, Int.reduceSub, Int.reduceAdd, Int.reduceToNat, Int.toNat_zero, wr]) | ((with_reducible refine ev_call ?_); (first | (refine call_fn e1 rfl ?_)); refine k_run ?_) | ((with_reducible refine ev_guard ?_); (with_reducible first | refine guard_t ?_ ?_ rfl | refine guard_f ?_ ?_ rfl) <;> (intro h; (try simp only [h]); (try simp only [nrm] at h) <;> (try ((with_reducible exfalso); omega)))) | ((with_reducible refine ck_split (fun h => ?_) (fun h => ?_)) <;> (try simp only [nrm] at h) <;> (try ((with_reducible exfalso); omega))) | ((with_reducible refine And.intro ?_ ?_); (first | omega | focus (simp; done) | focus (simp; omega) | focus ((repeat' (with_reducible refine And.intro ?_ ?_)) <;> first | omega | rfl | (simp only [go_sem, refsL_app, refs_dmap] <;> fail) | (simp [refsL_app, refs_dmap, AV.refsL, AV.refs] <;> omega)))) | ((with_reducible first | apply hK | (clear hK K; first | apply hK | (clear hK K; first | apply hK | (clear hK K; apply hK)))); clear hK K) | fail)
    (first | refine res_tmp rfl (by simp [D.plain, plains]) (by simp) ?_ | refine res_at rfl (by simp [D.plain, plains]) (by simp) ?_ | refine res_two rfl (by simp [D.plain, plains]) (by simp) ?_ | refine res_three rfl (by simp [D.plain, plains]) (by simp) ?_)
    rfl
  · obtain ⟨h1, h2, h3, h4⟩ := okSk_in g
    rw [g] at e1
    have e2 := l7Text_fn x l h1 h3 h4
    rw [if_pos rfl]
    refine fn_go Try.func33 rfl rfl Try.ntmps33 Try.results33 (by simp only [slotsOf, argAV, List.map_cons, List.map_nil, Nat.reduceAdd]; rfl) (by simp) ?_
    repeat' (first | (with_reducible first | refine aw_seq fun K hK => ?_ | refine aw_region (by kernel_rfl) ?_ | refine aw_condk ?_ | refine aw_block ?_) | ((with_reducible refine evg ?_); simp only [go_sem, ↓reduceIte, Nat.reduceEqDiff, Nat.reduceBEq, Nat.reduceAdd, Nat.reduceMul, Nat.reduceSub, Nat.reduceLT, Nat.reduceLeDiff]) | (simp (disch := omega) only [wr, drop_at, str_at, int_at, Int.reduceSub, Int.reduceAdd, Int.reduceToNat, Int.toNat_zero, wr]) | ((with_reducible refine ev_call ?_); (first | (refine call_fn e1 rfl ?_) | (refine call_fn e2 rfl ?_)); refine k_run ?_) | ((with_reducible refine ev_guard ?_); (with_reducible first | refine guard_t ?_ ?_ rfl | refine guard_f ?_ ?_ rfl) <;> (intro h; (try simp only [h]); (try simp only [nrm] at h) <;> (try ((with_reducible exfalso); omega)))) | ((with_reducible refine ck_split (fun h => ?_) (fun h => ?_)) <;> (try simp only [nrm] at h) <;> (try ((with_reducible exfalso); omega))) | ((with_reducible refine And.intro ?_ ?_); (first | omega | focus (simp; done) | focus (simp; omega) | focus ((repeat' (with_reducible refine And.intro ?_ ?_)) <;> first | omega | rfl | (simp only [go_sem, refsL_app, refs_dmap] <;> fail) | (simp [refsL_app, refs_dmap, AV.refsL, AV.refs] <;> omega)))) | ((with_reducible first | apply hK | (clear hK K; first | apply hK | (clear hK K; first | apply hK | (clear hK K; apply hK)))); clear hK K) | fail)
    (first | refine res_tmp rfl (by simp [D.plain, plains]) (by simp) ?_ | refine res_at rfl (by simp [D.plain, plains]) (by simp) ?_ | refine res_two rfl (by simp [D.plain, plains]) (by simp) ?_ | refine res_three rfl (by simp [D.plain, plains]) (by simp) ?_)
    rfl

theorem skR_ex (x : ArmsV) (l : List SlV) : ∃ (s : ByteArray) (ok : Bool), skR x l = .tu [.str s, .bool ok] := by
  unfold skR
  split
  · exact ⟨_, _, rfl⟩
  · exact ⟨_, _, rfl⟩

set_option maxRecDepth 100000 in
theorem pl_Slr_10_10 (l : List Oper) (h : l = opsOf Try.f10 10) : planB l (.pure 0 (.pure 1 (.one 2 (.one 3 (.pure 4 PT.fin))))) [] = true := by
  subst h
  kernel_rfl

set_option maxRecDepth 100000 in
set_option maxHeartbeats 4000000 in
theorem fnExactSketchText_fn (x : ArmsV) (l : List SlV) (hl : l.length ≤ 9223372036854775807) : FnD Try.prog 10 [skD x l] (.bool true) := by
  have h1 := szSketch_fn x l 1048576 hl (by omega) (by omega)
  by_cases g : (1048576 : Int) - l.length < 0
  · simp only [g, if_true] at h1
    refine fn_go Try.func10 rfl rfl Try.ntmps10 Try.results10 (by simp only [slotsOf, argAV, List.map_cons, List.map_nil, Nat.reduceAdd]; rfl) (by simp) ?_
    repeat' (first | (with_reducible first | refine aw_seq fun K hK => ?_ | refine aw_region (by kernel_rfl) ?_ | refine aw_condk ?_ | refine aw_block ?_) | ((with_reducible refine ev_aw ?_); first | (refine aw_draw (id := 10) (by kernel_rfl) _ _ (by kernel_rfl) (pl_Slr_10_10 _ (by kernel_rfl)) ?_)) | (with_reducible first | refine ru_four ?_ ?_ ?_ ?_ | refine ru_three ?_ ?_ ?_ | refine ru_two ?_ ?_ | refine rv_split ?_ ?_ | refine rv_two ?_ ?_ | refine rp_two ?_ ?_) | ((with_reducible refine evg ?_); simp only [go_sem, St.clean, cleanO, ↓reduceIte, Nat.reduceEqDiff, Nat.reduceBEq, Nat.reduceAdd, Nat.reduceMul, Nat.reduceSub, Nat.reduceLT, Nat.reduceLeDiff]) | (simp (disch := omega) only [wr, drop_at, str_at, int_at, Int.reduceSub, Int.reduceAdd, Int.reduceToNat, Int.toNat_zero, wr]) | ((with_reducible refine ev_call ?_); (first | (refine call_fn h1 rfl ?_)); refine k_run ?_) | ((with_reducible refine ev_guard ?_); (with_reducible first | refine guard_t ?_ ?_ rfl | refine guard_f ?_ ?_ rfl) <;> (intro h; (try simp only [h]); (try simp only [nrm] at h) <;> (try ((with_reducible exfalso); omega)))) | ((with_reducible refine ck_split (fun h => ?_) (fun h => ?_)) <;> (try simp only [nrm] at h) <;> (try ((with_reducible exfalso); omega))) | ((with_reducible refine And.intro ?_ ?_); (first | omega | focus (simp; done) | focus (simp; omega) | focus ((repeat' (with_reducible refine And.intro ?_ ?_)) <;> first | omega | rfl | (simp only [go_sem, refsL_app, refs_dmap] <;> fail) | (simp [refsL_app, refs_dmap, AV.refsL, AV.refs] <;> omega)))) | (with_reducible refine hJ _ (fun K hK => ?_) ?_ <;> clear hJ KJ) | ((with_reducible refine ev_less ?_); (refine ⟨rfl, ?_, ?_⟩ <;> simp only [go_sem, St.clean, cleanO, SubS, SubO, beq_self_eq_true, ↓reduceIte, Nat.reduceEqDiff, Nat.reduceBEq, Nat.reduceAdd, Nat.reduceMul, Nat.reduceSub, Nat.reduceLT, Nat.reduceLeDiff])) | ((with_reducible first | apply hK | (clear hK K; first | apply hK | (clear hK K; first | apply hK | (clear hK K; apply hK)))); clear hK K) | fail)
    all_goals (first | refine res_tmp rfl (by simp [D.plain, plains]) (by simp) ?_ | refine res_at rfl (by simp [D.plain, plains]) (by simp) ?_ | refine res_two rfl (by simp [D.plain, plains]) (by simp) ?_ | refine res_three rfl (by simp [D.plain, plains]) (by simp) ?_ | skip)
    all_goals rfl
  · simp only [g, if_false] at h1
    have h2 := toSketch_fn x l (by omega)
    have h3 := specSk_fn x l hl
    have h4 := implSk_fn x l hl
    have h5 := eqSketch_fn x l (by omega)
    obtain ⟨s, ok, e⟩ := skR_ex x l
    rw [e] at h3 h4
    unfold skD at h3 h4 h5
    rw [← slC_raw l] at h3 h4 h5
    refine fn_go Try.func10 rfl rfl Try.ntmps10 Try.results10 (by simp only [slotsOf, argAV, List.map_cons, List.map_nil, Nat.reduceAdd]; rfl) (by simp) ?_
    repeat' (first | (with_reducible first | refine aw_seq fun K hK => ?_ | refine aw_region (by kernel_rfl) ?_ | refine aw_condk ?_ | refine aw_block ?_) | ((with_reducible refine ev_aw ?_); first | (refine aw_draw (id := 10) (by kernel_rfl) _ _ (by kernel_rfl) (pl_Slr_10_10 _ (by kernel_rfl)) ?_)) | (with_reducible first | refine ru_four ?_ ?_ ?_ ?_ | refine ru_three ?_ ?_ ?_ | refine ru_two ?_ ?_ | refine rv_split ?_ ?_ | refine rv_two ?_ ?_ | refine rp_two ?_ ?_) | ((with_reducible first | refine evg ?_ | refine ev_guard ?_); simp only [go_sem, St.clean, cleanO, ↓reduceIte, Nat.reduceEqDiff, Nat.reduceBEq, Nat.reduceAdd, Nat.reduceMul, Nat.reduceSub, Nat.reduceLT, Nat.reduceLeDiff]) | (simp (disch := omega) only [wr, drop_at, str_at, int_at, Int.reduceSub, Int.reduceAdd, Int.reduceToNat, Int.toNat_zero, bne_self_eq_false, wr]) | ((with_reducible refine ev_call ?_); (first | (refine call_fn h1 rfl ?_) | (refine call_fn h2 rfl ?_) | (refine call_fn h3 rfl ?_) | (refine call_fn h4 rfl ?_) | (refine call_fn h5 rfl ?_)); refine k_run ?_) | ((with_reducible refine ev_guard ?_); (with_reducible first | refine guard_t ?_ ?_ rfl | refine guard_f ?_ ?_ rfl) <;> (intro h; (try simp only [h]); (try simp only [nrm] at h) <;> (try ((with_reducible exfalso); omega)))) | ((with_reducible refine ck_split (fun h => ?_) (fun h => ?_)) <;> (try simp only [nrm] at h) <;> (try ((with_reducible exfalso); omega))) | ((with_reducible refine And.intro ?_ ?_); (first | omega | focus (simp; done) | focus (simp; omega) | focus ((repeat' (with_reducible refine And.intro ?_ ?_)) <;> first | omega | rfl | (simp only [go_sem, refsL_app, refs_dmap] <;> fail) | (simp [refsL_app, refs_dmap, AV.refsL, AV.refs] <;> omega)))) | (with_reducible refine hJ _ (fun K hK => ?_) ?_ <;> clear hJ KJ) | ((with_reducible refine ev_less ?_); (refine ⟨rfl, ?_, ?_⟩ <;> simp only [go_sem, St.clean, cleanO, SubS, SubO, beq_self_eq_true, ↓reduceIte, Nat.reduceEqDiff, Nat.reduceBEq, Nat.reduceAdd, Nat.reduceMul, Nat.reduceSub, Nat.reduceLT, Nat.reduceLeDiff])) | ((with_reducible first | apply hK | (clear hK K; first | apply hK | (clear hK K; first | apply hK | (clear hK K; apply hK)))); clear hK K) | fail)
    all_goals first | exact absurd trivial (by assumption) | skip
    all_goals (first | refine res_tmp rfl (by simp [D.plain, plains]) (by simp) ?_ | refine res_at rfl (by simp [D.plain, plains]) (by simp) ?_ | refine res_two rfl (by simp [D.plain, plains]) (by simp) ?_ | refine res_three rfl (by simp [D.plain, plains]) (by simp) ?_ | skip)
    all_goals rfl

end Go.Proofs.Yteimddagjikcaaa
