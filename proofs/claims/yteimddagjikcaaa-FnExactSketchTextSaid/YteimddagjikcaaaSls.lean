/- The reference's text of a sketch. -/
import Derived.Test.YteimddagjikcaaaSlw
import Derived.WalkKit
import Derived.WalkSpells
import Derived.KernelRfl
namespace Go.Proofs.Yteimddagjikcaaa
open Go.RowKit
set_option linter.unusedVariables false
set_option linter.unusedSimpArgs false

attribute [local go_sem] ArmsV.d ArmsV.cs SlV.cs slL skD skO

attribute [local simp] slC_all slC_plains slC_len

def slA (l : List SlV) (i : Nat) : ByteArray := slW (l.getD i SlV.zero).m (l.getD i SlV.zero).n

def skI (x : ArmsV) : Nat := if x.o = 0 then 0 else 1

def skJ (x : ArmsV) : Nat := skI x + if noGroup x.c1 x.k1 x.a1 x.t1 = true then 0 else 1

def skT1 (x : ArmsV) (l : List SlV) : ByteArray := if x.o = 0 then fieldText x.fd x.fl x.ff x.fs else fieldText x.fd x.fl x.ff x.fs ++ ⟨#[44, 32]⟩ ++ ordText x.o x.l ++ slA l 0

def skT2 (x : ArmsV) (l : List SlV) : ByteArray := if noGroup x.c1 x.k1 x.a1 x.t1 = true then skT1 x l else skT1 x l ++ ⟨#[32, 99, 104, 97, 114, 103, 101, 100, 32, 119, 105, 116, 104, 32]⟩ ++ bareText x.c1 x.k1 x.a1 ++ slA l (skI x)

def skT (x : ArmsV) (l : List SlV) : ByteArray := if noGroup x.c2 x.k2 x.a2 x.t2 = true then skT2 x l else skT2 x l ++ joinW x.o ++ bareText x.c2 x.k2 x.a2 ++ slA l (skJ x)

theorem slA_size (l : List SlV) (i : Nat) : (slA l i).size ≤ 20 := slW_size _ _

theorem slA_word {l : List SlV} (hs : l.all (fun s => okSlot s.m s.n) = true) {i : Nat} (hi : i < l.length) : FnD Try.prog 106 [.ag [.int (l.getD i SlV.zero).m, .int (l.getD i SlV.zero).n]] (.str (slA l i)) :=
  l7Word_fn _ _ (List.all_eq_true.1 hs _ (getD_mem SlV.zero hi))

theorem slA_text {l : List SlV} (hs : l.all (fun s => okSlot s.m s.n) = true) {i : Nat} (hi : i < l.length) : FnD Try.prog 115 [.ag [.int (l.getD i SlV.zero).m, .int (l.getD i SlV.zero).n]] (.str (slA l i)) :=
  slotText_fn _ _ (List.all_eq_true.1 hs _ (getD_mem SlV.zero hi))

theorem sl_at0 {l : List SlV} (h : 0 < l.length) : (recC SlV.cs l).take 2 = [.int (l.getD 0 SlV.zero).m, .int (l.getD 0 SlV.zero).n] := by
  have := sl_at h
  rwa [Nat.zero_mul, List.drop_zero] at this

theorem sl_at1 {l : List SlV} (h : 1 < l.length) : ((recC SlV.cs l).drop 2).take 2 = [.int (l.getD 1 SlV.zero).m, .int (l.getD 1 SlV.zero).n] := sl_at h

theorem sl_at2 {l : List SlV} (h : 2 < l.length) : ((recC SlV.cs l).drop 4).take 2 = [.int (l.getD 2 SlV.zero).m, .int (l.getD 2 SlV.zero).n] := sl_at h

set_option maxRecDepth 100000 in
theorem pl_Sls_66_5 (l : List Oper) (h : l = opsOf Try.f66 5) : planB l (.pure 0 (.pure 1 (.pure 2 (.pure 3 (.pure 4 (.pure 5 (.pure 8 (.pure 9 (.pure 10 (.pure 11 (.pure 12 (.one 6 (.pure 7 (.one 13 (.pure 14 (.pure 15 PT.fin)))))))))))))))) [] = true := by
  subst h
  kernel_rfl

set_option maxRecDepth 100000 in
theorem pl_Sls_66_8 (l : List Oper) (h : l = opsOf Try.f66 8) : planB l (.pure 0 (.pure 1 (.pure 2 (.pure 3 (.pure 6 (.pure 7 (.pure 8 (.pure 9 (.pure 10 (.one 4 (.pure 5 (.one 11 (.pure 12 (.pure 13 PT.fin)))))))))))))) [] = true := by
  subst h
  kernel_rfl

set_option maxRecDepth 100000 in
theorem pl_Sls_66_11 (l : List Oper) (h : l = opsOf Try.f66 11) : planB l (.pure 0 (.pure 1 (.pure 2 (.pure 5 (.pure 6 (.pure 9 (.pure 10 (.pure 11 (.pure 12 (.pure 13 (.one 3 (.pure 4 (.one 7 (.pure 8 (.one 14 (.pure 15 (.pure 16 PT.fin))))))))))))))))) [] = true := by
  subst h
  kernel_rfl

set_option maxRecDepth 100000 in
set_option maxHeartbeats 4000000 in
theorem l7Text_fn (x : ArmsV) (l : List SlV) (h : okArms x = true) (hs : l.all (fun s => okSlot s.m s.n) = true) (hn : l.length = (plL x).length) : FnD Try.prog 66 [skD x l] (.str (skT x l)) := by
  obtain ⟨hf, ha, ho⟩ := ok_arms h
  clear h
  have z1 := fieldText_size x.fd x.fl x.ff x.fs
  have z2 := ordText_size x.o x.l
  have z3 := bareText_size x.c1 x.k1 x.a1
  have z4 := bareText_size x.c2 x.k2 x.a2
  have z5 := slA_size l 0
  have z6 := slA_size l 1
  have z7 := slA_size l 2
  have z8 := joinW_size x.o
  have f1 := l3Text_fn x.fd x.fl x.ff x.fs hf
  have f2 := l6Join_fn x.o
  have n1 := l4None_fn x.c1 x.k1 x.a1 x.t1
  have n2 := l4None_fn x.c2 x.k2 x.a2 x.t2
  unfold skT skT2 skT1 skJ skI
  unfold plL at hn
  generalize joinW x.o = J at *
  cases e2 : noGroup x.c2 x.k2 x.a2 x.t2
  all_goals
    rw [e2] at n2 hn
    rcases ho with ⟨h0, e1⟩ | ⟨h0, hl, ht, hg⟩
    · rw [e1] at n1 hn
      simp only [h0, e1, if_true, if_false, Bool.false_eq_true, List.nil_append, List.length_cons, List.length_nil] at hn ⊢
      first | have b2 := l4Bare_fn _ _ _ _ (ha e2) | skip
      first | have w0 := slA_word hs (show 0 < l.length by omega) | skip
      first | have a0 := sl_at0 (show 0 < l.length by omega) | have a0 := Nat.zero_add 0
      refine fn_go Try.func66 rfl rfl Try.ntmps66 Try.results66 (by simp only [slotsOf, argAV, List.map_cons, List.map_nil, Nat.reduceAdd]; rfl) (by simp) ?_
      repeat' (first | (with_reducible first | refine aw_seq fun K hK => ?_ | refine aw_region (by kernel_rfl) ?_ | refine aw_condk ?_ | refine aw_block ?_) | ((with_reducible refine ev_aw ?_); first | (refine aw_draw (id := 5) (by kernel_rfl) _ _ (by kernel_rfl) (pl_Sls_66_5 _ (by kernel_rfl)) ?_) | (refine aw_draw (id := 8) (by kernel_rfl) _ _ (by kernel_rfl) (pl_Sls_66_8 _ (by kernel_rfl)) ?_) | (refine aw_draw (id := 11) (by kernel_rfl) _ _ (by kernel_rfl) (pl_Sls_66_11 _ (by kernel_rfl)) ?_)) | (with_reducible first | refine ru_four ?_ ?_ ?_ ?_ | refine ru_three ?_ ?_ ?_ | refine ru_two ?_ ?_ | refine rv_split ?_ ?_ | refine rv_two ?_ ?_ | refine rp_two ?_ ?_) | ((with_reducible refine evg ?_); simp only [go_sem, St.clean, cleanO, ↓reduceIte, Nat.reduceEqDiff, Nat.reduceBEq, Nat.reduceAdd, Nat.reduceMul, Nat.reduceSub, Nat.reduceLT, Nat.reduceLeDiff]) | (simp (disch := omega) only [wr, drop_at, str_at, int_at, Int.reduceSub, Int.reduceAdd, Int.reduceToNat, Int.toNat_zero, a0, wr]) | ((with_reducible refine ev_call ?_); (first | (refine call_fn f1 rfl ?_) | (refine call_fn f2 rfl ?_) | (refine call_fn n1 rfl ?_) | (refine call_fn n2 rfl ?_) | (refine call_fn b2 rfl ?_) | (refine call_fn w0 rfl ?_)); refine k_run ?_) | ((with_reducible refine ev_guard ?_); (with_reducible first | refine guard_t ?_ ?_ rfl | refine guard_f ?_ ?_ rfl) <;> (intro h; (try simp only [h]); (try simp only [nrm] at h) <;> (try ((with_reducible exfalso); omega)))) | ((with_reducible refine ck_split (fun h => ?_) (fun h => ?_)) <;> (try simp only [nrm] at h) <;> (try ((with_reducible exfalso); omega))) | ((with_reducible refine And.intro ?_ ?_); (first | omega | focus (simp; done) | focus (simp; omega) | focus ((repeat' (with_reducible refine And.intro ?_ ?_)) <;> first | omega | rfl | (simp only [go_sem, refsL_app, refs_dmap] <;> fail) | (simp [refsL_app, refs_dmap, AV.refsL, AV.refs] <;> omega)))) | (with_reducible refine hJ _ (fun K hK => ?_) ?_ <;> clear hJ KJ) | ((with_reducible refine ev_less ?_); (refine ⟨rfl, ?_, ?_⟩ <;> simp only [go_sem, St.clean, cleanO, SubS, SubO, beq_self_eq_true, ↓reduceIte, Nat.reduceEqDiff, Nat.reduceBEq, Nat.reduceAdd, Nat.reduceMul, Nat.reduceSub, Nat.reduceLT, Nat.reduceLeDiff])) | ((with_reducible first | apply hK | (clear hK K; first | apply hK | (clear hK K; first | apply hK | (clear hK K; apply hK)))); clear hK K) | fail)
      all_goals (first | refine res_tmp rfl (by simp [D.plain, plains]) (by simp) ?_ | refine res_at rfl (by simp [D.plain, plains]) (by simp) ?_ | refine res_two rfl (by simp [D.plain, plains]) (by simp) ?_ | refine res_three rfl (by simp [D.plain, plains]) (by simp) ?_ | skip)
      all_goals rfl
    · cases e1 : noGroup x.c1 x.k1 x.a1 x.t1
      all_goals
        rw [e1] at n1 hn
        have h0' : ¬ x.o = 0 := by omega
        simp only [h0', e1, if_true, if_false, Bool.false_eq_true, List.nil_append, List.cons_append, List.append_nil, List.length_cons, List.length_nil, Nat.reduceAdd] at hn ⊢
        have f3 := l6Ordinary_fn x.o x.l h0.1 h0.2 hl.1 hl.2
        first | have b1 := l4Bare_fn _ _ _ _ (hg e1) | skip
        first | have b2 := l4Bare_fn _ _ _ _ (ha e2) | skip
        have w0 := slA_word hs (show 0 < l.length by omega)
        have a0 := sl_at0 (show 0 < l.length by omega)
        first | have w1 := slA_word hs (show 1 < l.length by omega) | skip
        first | have a1 := sl_at1 (show 1 < l.length by omega) | have a1 := a0
        first | have w2 := slA_word hs (show 2 < l.length by omega) | skip
        first | have a2 := sl_at2 (show 2 < l.length by omega) | have a2 := a0
        refine fn_go Try.func66 rfl rfl Try.ntmps66 Try.results66 (by simp only [slotsOf, argAV, List.map_cons, List.map_nil, Nat.reduceAdd]; rfl) (by simp) ?_
        repeat' (first | (with_reducible first | refine aw_seq fun K hK => ?_ | refine aw_region (by kernel_rfl) ?_ | refine aw_condk ?_ | refine aw_block ?_) | ((with_reducible refine ev_aw ?_); first | (refine aw_draw (id := 5) (by kernel_rfl) _ _ (by kernel_rfl) (pl_Sls_66_5 _ (by kernel_rfl)) ?_) | (refine aw_draw (id := 8) (by kernel_rfl) _ _ (by kernel_rfl) (pl_Sls_66_8 _ (by kernel_rfl)) ?_) | (refine aw_draw (id := 11) (by kernel_rfl) _ _ (by kernel_rfl) (pl_Sls_66_11 _ (by kernel_rfl)) ?_)) | (with_reducible first | refine ru_four ?_ ?_ ?_ ?_ | refine ru_three ?_ ?_ ?_ | refine ru_two ?_ ?_ | refine rv_split ?_ ?_ | refine rv_two ?_ ?_ | refine rp_two ?_ ?_) | ((with_reducible refine evg ?_); simp only [go_sem, St.clean, cleanO, ↓reduceIte, Nat.reduceEqDiff, Nat.reduceBEq, Nat.reduceAdd, Nat.reduceMul, Nat.reduceSub, Nat.reduceLT, Nat.reduceLeDiff]) | (simp (disch := omega) only [wr, drop_at, str_at, int_at, Int.reduceSub, Int.reduceAdd, Int.reduceToNat, Int.toNat_zero, a0, a1, a2, wr]) | ((with_reducible refine ev_call ?_); (first | (refine call_fn f1 rfl ?_) | (refine call_fn f2 rfl ?_) | (refine call_fn f3 rfl ?_) | (refine call_fn n1 rfl ?_) | (refine call_fn n2 rfl ?_) | (refine call_fn b1 rfl ?_) | (refine call_fn b2 rfl ?_) | (refine call_fn w0 rfl ?_) | (refine call_fn w1 rfl ?_) | (refine call_fn w2 rfl ?_)); refine k_run ?_) | ((with_reducible refine ev_guard ?_); (with_reducible first | refine guard_t ?_ ?_ rfl | refine guard_f ?_ ?_ rfl) <;> (intro h; (try simp only [h]); (try simp only [nrm] at h) <;> (try ((with_reducible exfalso); omega)))) | ((with_reducible refine ck_split (fun h => ?_) (fun h => ?_)) <;> (try simp only [nrm] at h) <;> (try ((with_reducible exfalso); omega))) | ((with_reducible refine And.intro ?_ ?_); (first | omega | focus (simp; done) | focus (simp; omega) | focus ((repeat' (with_reducible refine And.intro ?_ ?_)) <;> first | omega | rfl | (simp only [go_sem, refsL_app, refs_dmap] <;> fail) | (simp [refsL_app, refs_dmap, AV.refsL, AV.refs] <;> omega)))) | (with_reducible refine hJ _ (fun K hK => ?_) ?_ <;> clear hJ KJ) | ((with_reducible refine ev_less ?_); (refine ⟨rfl, ?_, ?_⟩ <;> simp only [go_sem, St.clean, cleanO, SubS, SubO, beq_self_eq_true, ↓reduceIte, Nat.reduceEqDiff, Nat.reduceBEq, Nat.reduceAdd, Nat.reduceMul, Nat.reduceSub, Nat.reduceLT, Nat.reduceLeDiff])) | ((with_reducible first | apply hK | (clear hK K; first | apply hK | (clear hK K; first | apply hK | (clear hK K; apply hK)))); clear hK K) | fail)
        all_goals (first | refine res_tmp rfl (by simp [D.plain, plains]) (by simp) ?_ | refine res_at rfl (by simp [D.plain, plains]) (by simp) ?_ | refine res_two rfl (by simp [D.plain, plains]) (by simp) ?_ | refine res_three rfl (by simp [D.plain, plains]) (by simp) ?_ | skip)
        all_goals rfl

end Go.Proofs.Yteimddagjikcaaa
