/- Lists of arms; shields. -/
import Derived.Test.YtdinkfmkhdnbpaaArmsText
import Derived.WalkKit
import Derived.WalkSpells
import Derived.KernelRfl
namespace Go.Proofs.Ytdinkfmkhdnbpaa
open Go.RowKit
set_option linter.unusedVariables false
set_option linter.unusedSimpArgs false
attribute [local go_sem] allU fillP rn_build listT rap_some rp_one rp_pure rp_fin rpk guard_ud ck_t ck_f rik Int.toNat_natCast drop_at kx_r kx_e in_n in_r in_e po_n po_r rn_nil rn_guard guard_tt guard_ff guard_tf guard_ft guard_un next_some rn_call rn_move rn_assign rn_pick rn_alloc rn_box rn_buildSlice rn_load rn_store rn_nilCheck rn_binOp rn_unOp rn_convert rn_makeFunc rn_makeSlice rn_slice rn_fieldAddr rn_field rn_indexAddr rn_index rn_extract rn_builtin stepOp actOp pureOp St.ev look AV.split AV.one St.new St.puto St.put put killS killO lookO putO delO AV.refs AV.refsL OB.refs St.adopt adoptL loadD loadA tAgg guardOf binD unD pick_t pick_f pick_b one_s one_i one_b one_l one_p rc_eq rc_some AV.pack allD storeOb fillA denseA buildA obCells srcCells OB.join obOf zeroD kx_n ri_nil ri_cons ra_some inB eqInts Bool.false_eq_true Bool.or_false Bool.or_self List.drop_succ_cons List.drop_zero List.take_succ_cons List.take_zero List.take_nil List.drop_nil List.getD_cons_zero List.getD_cons_succ ne_eq not_false_eq_true Nat.zero_add Nat.add_zero Bool.not_true Bool.not_false cond_true cond_false true_and and_true List.map_cons List.map_nil List.length_cons List.length_nil List.getElem?_toArray List.getElem?_cons_zero List.getElem?_cons_succ Option.map_some Option.map_none Option.isSome_some List.nil_append List.cons_append List.append_nil Int.toNat_zero Nat.zero_mul Nat.mul_one cells_1 cells_2 cells_3 cells_4 cells_5 cells_6 cells_7 cells_8 cells_9 cells_10 cells_11 cells_12 cells_13 cells_14 cells_15 cells_16 cells_17 cells_18 cells_19 cells_21 cells_22 cells_23 cells_25 cells_26 cells_27 cells_28 cells_29 cells_30 cells_31 cells_32 cells_33 cells_34 cells_35 cells_36 cells_37 cells_38 cells_39 cells_40 cells_41 cells_42 cells_43 cells_44 cells_45 cells_47 cells_48 cells_49 cells_50 cells_51 cells_52 cells_53 cells_54 cells_55 cells_57 cells_58 cells_59 cells_61 cells_62 cells_63 cells_64 cells_65 cells_66 cells_67 cells_68 cells_69 cells_70 cells_71 cells_72 cells_73 cells_74 cells_75 cells_76 cells_77 cells_78 cells_79 cells_80 cells_81 cells_82 cells_83 cells_84 cells_85 cells_86 cells_87 cells_88 cells_89 cells_90 cells_91 cells_92 cells_93 cells_94 cells_95 cells_96 cells_97 cells_98 cells_99 cells_100 cells_101 cells_102 cells_103 cells_104 cells_105 cells_106 cells_107 cells_108 cells_109 cells_110 cells_111 cells_112 cells_113 cells_114 cells_115 cells_116 cells_117 zeroOk_1 bytes_1 zeroOk_2 bytes_2 zeroV_2 zeroOk_3 bytes_3 zeroV_3 zeroOk_4 bytes_4 zeroV_4 zeroOk_5 bytes_5 zeroV_5 zeroOk_6 bytes_6 zeroV_6 zeroOk_7 bytes_7 zeroV_7 zeroOk_8 bytes_8 zeroV_8 zeroOk_9 bytes_9 zeroV_9 zeroOk_10 bytes_10 zeroV_10 zeroOk_11 bytes_11 zeroV_11 zeroOk_12 bytes_12 zeroV_12 zeroOk_13 bytes_13 zeroV_13 zeroOk_14 bytes_14 zeroV_14 zeroOk_15 bytes_15 zeroV_15 zeroOk_16 bytes_16 zeroV_16 zeroOk_17 bytes_17 zeroV_17 zeroOk_18 bytes_18 zeroV_18 zeroOk_19 bytes_19 zeroV_19 zeroOk_21 bytes_21 zeroV_21 zeroOk_22 bytes_22 zeroV_22 zeroOk_23 bytes_23 zeroOk_25 bytes_25 zeroOk_26 bytes_26 zeroOk_27 bytes_27 zeroOk_28 bytes_28 zeroOk_29 bytes_29 zeroV_29 zeroOk_30 bytes_30 zeroV_30 zeroOk_31 bytes_31 zeroV_31 zeroOk_32 bytes_32 zeroOk_33 bytes_33 zeroOk_34 bytes_34 zeroV_34 zeroOk_35 bytes_35 zeroV_35 zeroOk_36 bytes_36 zeroV_36 zeroOk_37 bytes_37 zeroOk_38 bytes_38 zeroOk_39 bytes_39 zeroOk_40 bytes_40 zeroV_40 zeroOk_41 bytes_41 zeroV_41 zeroOk_42 bytes_42 zeroV_42 zeroOk_43 bytes_43 zeroV_43 zeroOk_44 bytes_44 zeroV_44 zeroOk_45 bytes_45 zeroV_45 zeroOk_47 bytes_47 zeroOk_48 bytes_48 zeroV_48 zeroOk_49 bytes_49 zeroV_49 zeroOk_50 bytes_50 zeroV_50 zeroOk_51 bytes_51 zeroV_51 zeroOk_52 bytes_52 zeroOk_53 bytes_53 zeroOk_54 bytes_54 zeroOk_55 bytes_55 zeroV_55 zeroOk_57 bytes_57 zeroOk_58 bytes_58 zeroOk_59 bytes_59 zeroOk_61 bytes_61 zeroOk_62 bytes_62 zeroOk_63 bytes_63 zeroOk_64 bytes_64 zeroOk_65 bytes_65 zeroOk_66 bytes_66 zeroOk_67 bytes_67 zeroOk_68 bytes_68 zeroOk_69 bytes_69 zeroOk_70 bytes_70 zeroOk_71 bytes_71 zeroOk_72 bytes_72 zeroOk_73 bytes_73 zeroOk_74 bytes_74 zeroOk_75 bytes_75 zeroOk_76 bytes_76 zeroOk_77 bytes_77 zeroOk_78 bytes_78 zeroOk_79 bytes_79 zeroOk_80 bytes_80 zeroOk_81 bytes_81 zeroOk_82 bytes_82 zeroV_82 zeroOk_83 bytes_83 zeroV_83 zeroOk_84 bytes_84 zeroOk_85 bytes_85 zeroOk_86 bytes_86 zeroOk_87 bytes_87 zeroOk_88 bytes_88 zeroOk_89 bytes_89 zeroOk_90 bytes_90 zeroOk_91 bytes_91 zeroOk_92 bytes_92 zeroOk_93 bytes_93 zeroOk_94 bytes_94 zeroV_94 zeroOk_95 bytes_95 zeroOk_96 bytes_96 zeroV_96 zeroOk_97 bytes_97 zeroOk_98 bytes_98 zeroOk_99 bytes_99 zeroOk_100 bytes_100 zeroV_100 zeroOk_101 bytes_101 zeroOk_102 bytes_102 zeroOk_103 bytes_103 zeroV_103 zeroOk_104 bytes_104 zeroV_104 zeroOk_105 bytes_105 zeroV_105 zeroOk_106 bytes_106 zeroV_106 zeroOk_107 bytes_107 zeroV_107 zeroOk_108 bytes_108 zeroOk_109 bytes_109 zeroV_109 zeroOk_110 bytes_110 zeroV_110 zeroOk_111 bytes_111 zeroV_111 zeroOk_112 bytes_112 zeroOk_113 bytes_113 zeroV_113 zeroOk_114 bytes_114 zeroV_114 zeroOk_115 bytes_115 zeroV_115 zeroOk_116 bytes_116 zeroOk_117 bytes_117 seq_48 seq_49 seq_51 Try.underlying1 Try.underlying2 Try.underlying3 Try.underlying4 Try.underlying5 Try.underlying6 Try.underlying7 Try.underlying8 Try.underlying9 Try.underlying10 Try.underlying11 Try.underlying12 Try.underlying13 Try.underlying14 Try.underlying15 Try.underlying16 Try.underlying17 Try.underlying18 Try.underlying19 Try.underlying21 Try.underlying22 Try.underlying23 Try.underlying25 Try.underlying26 Try.underlying27 Try.underlying28 Try.underlying29 Try.underlying30 Try.underlying31 Try.underlying32 Try.underlying33 Try.underlying34 Try.underlying35 Try.underlying36 Try.underlying37 Try.underlying38 Try.underlying39 Try.underlying40 Try.underlying41 Try.underlying42 Try.underlying43 Try.underlying44 Try.underlying45 Try.underlying47 Try.underlying48 Try.underlying49 Try.underlying50 Try.underlying51 Try.underlying52 Try.underlying53 Try.underlying54 Try.underlying55 Try.underlying57 Try.underlying58 Try.underlying59 Try.underlying61 Try.underlying62 Try.underlying63 Try.underlying64 Try.underlying65 Try.underlying66 Try.underlying67 Try.underlying68 Try.underlying69 Try.underlying70 Try.underlying71 Try.underlying72 Try.underlying73 Try.underlying74 Try.underlying75 Try.underlying76 Try.underlying77 Try.underlying78 Try.underlying79 Try.underlying80 Try.underlying81 Try.underlying82 Try.underlying83 Try.underlying84 Try.underlying85 Try.underlying86 Try.underlying87 Try.underlying88 Try.underlying89 Try.underlying90 Try.underlying91 Try.underlying92 Try.underlying93 Try.underlying94 Try.underlying95 Try.underlying96 Try.underlying97 Try.underlying98 Try.underlying99 Try.underlying100 Try.underlying101 Try.underlying102 Try.underlying103 Try.underlying104 Try.underlying105 Try.underlying106 Try.underlying107 Try.underlying108 Try.underlying109 Try.underlying110 Try.underlying111 Try.underlying112 Try.underlying113 Try.underlying114 Try.underlying115 Try.underlying116 Try.underlying117

attribute [local go_sem] ArmsV.d

def ArmsV.cs (x : ArmsV) : List D := [.int x.fd, .int x.fl, .int x.ff, .int x.fs, .int x.o, .int x.l, .int x.t, .int x.c1, .int x.k1, .int x.a1, .int x.t1, .int x.c2, .int x.k2, .int x.a2, .int x.t2]

attribute [local go_sem] ArmsV.cs

def ArmsV.zero : ArmsV := ⟨0, 0, 0, 0, 0, 0, 0, 0, 0, 0, 0, 0, 0, 0, 0⟩

def armsC (l : List ArmsV) : List D := l.flatMap ArmsV.cs

@[simp] theorem armsC_len (l : List ArmsV) : (armsC l).length = l.length * 15 := by
  induction l with
  | nil => rfl
  | cons x l ih =>
    simp only [armsC, List.flatMap_cons, List.length_append] at ih ⊢
    rw [ih]
    simp only [ArmsV.cs, List.length_cons, List.length_nil]
    omega

def armsL (l : List ArmsV) : D := .ls 15 l.length (armsC l)

attribute [local go_sem] armsL

theorem armsC_app (l m : List ArmsV) : armsC (l ++ m) = armsC l ++ armsC m := by simp [armsC]

theorem armsC_take (l : List ArmsV) (i : Nat) : (armsC l).take (i * 15) = armsC (l.take i) := by
  by_cases h : i ≤ l.length
  · have e : armsC l = armsC (l.take i) ++ armsC (l.drop i) := by rw [← armsC_app, List.take_append_drop]
    have hl : (armsC (l.take i)).length = i * 15 := by rw [armsC_len, List.length_take]; congr 1; omega
    rw [e, ← hl, List.take_left']
    rfl
  · rw [List.take_of_length_le (by rw [armsC_len]; omega), List.take_of_length_le (by omega)]

theorem armsC_drop (l : List ArmsV) (i : Nat) : (armsC l).drop (i * 15) = armsC (l.drop i) := by
  by_cases h : i ≤ l.length
  · have e : armsC l = armsC (l.take i) ++ armsC (l.drop i) := by rw [← armsC_app, List.take_append_drop]
    have hl : (armsC (l.take i)).length = i * 15 := by rw [armsC_len, List.length_take]; congr 1; omega
    rw [e, ← hl, List.drop_left']
    rfl
  · rw [List.drop_of_length_le (by rw [armsC_len]; omega), List.drop_of_length_le (by omega)]
    rfl

theorem arms_at {l : List ArmsV} {i : Nat} (h : i < l.length) : ((armsC l).drop (i * 15)).take 15 = (l.getD i ArmsV.zero).cs := by
  rw [armsC_drop, drop_next ArmsV.zero h]
  simp only [armsC, List.flatMap_cons]
  rw [List.take_append_of_le_length (by simp [ArmsV.cs])]
  exact List.take_of_length_le (by simp [ArmsV.cs])

def cntOf (m : Int) : Int := if m = 1 then 1 else if m = 2 then 2 else if m = 3 then 4 else 0

set_option maxRecDepth 100000 in
set_option maxHeartbeats 4000000 in
theorem l20Count_fn (m : Int) : FnD Try.prog 67 [.int m] (.int (cntOf m)) := by
  refine fn_go Try.func67 rfl rfl Try.ntmps67 Try.results67 (by simp only [slotsOf, argAV, List.map_cons, List.map_nil, Nat.reduceAdd]; rfl) (by simp) ?_
  repeat' (first | ((with_reducible refine ev_aw ?_); (first | (with_reducible refine aw_seq fun K hK => ?_) | (with_reducible refine aw_region (by kernel_rfl) ?_) | (with_reducible refine aw_condk ?_) | (with_reducible refine aw_block ?_) | ((first | (with_reducible refine aw_skip ?_) | (with_reducible refine aw_ret ?_) | (with_reducible refine aw_exit ?_)); simp only [go_sem, ↓reduceIte, Nat.reduceEqDiff]))) | (with_reducible refine rp_two ?_ ?_) | ((first | (with_reducible refine ev_run ?_) | (with_reducible refine ev_next ?_) | (with_reducible refine ev_ri ?_) | (with_reducible refine ev_cond ?_) | (with_reducible refine ev_rp ?_) | (with_reducible refine ev_rap ?_) | (with_reducible refine ev_res ?_)); simp only [go_sem, ↓reduceIte, Nat.reduceEqDiff, Nat.reduceBEq, Nat.reduceAdd, Nat.reduceMul, Nat.reduceSub, Nat.reduceLT, Nat.reduceLeDiff]) | ((with_reducible refine ev_guard ?_); (first | (with_reducible refine guard_t ?_ ?_ rfl) | (with_reducible refine guard_f ?_ ?_ rfl)) <;> (intro h; (try simp only [h]); (try simp only [decide_eq_true_eq, decide_eq_false_iff_not, bne_iff_ne, beq_iff_eq, bne_eq_false_iff_eq, beq_eq_false_iff_ne, Bool.not_eq_true', Bool.not_eq_false', ne_eq] at h))) | ((with_reducible refine ck_split (fun h => ?_) (fun h => ?_)) <;> (try simp only [decide_eq_true_eq, decide_eq_false_iff_not, bne_iff_ne, beq_iff_eq, bne_eq_false_iff_eq, beq_eq_false_iff_ne, Bool.not_eq_true', Bool.not_eq_false', ne_eq] at h)) | ((with_reducible refine And.intro ?_ ?_); (first | omega | focus (simp; done) | focus (simp; omega))) | (with_reducible apply hK; clear hK K) | (clear hK K; with_reducible apply hK; clear hK K) | (clear hK K; clear hK K; with_reducible apply hK; clear hK K) | (clear hK K; clear hK K; clear hK K; with_reducible apply hK; clear hK K) | (simp (disch := omega) only [wr, drop_at, str_at, int_at, Int.reduceSub, Int.reduceAdd, Int.reduceToNat, Int.toNat_zero]) | fail)
  all_goals (first | refine res_tmp rfl (by simp [D.plain, plains]) (by simp) ?_ | refine res_at rfl (by simp [D.plain, plains]) (by simp) ?_ | refine res_two rfl (by simp [D.plain, plains]) (by simp) ?_ | refine res_three rfl (by simp [D.plain, plains]) (by simp) ?_ | skip)
  all_goals simp_all [cntOf]

def okShield (m : Int) (l : List ArmsV) : Bool := inR m 1 3 && (l.length : Int) == cntOf m && l.all okArms

theorem all_take {l : List ArmsV} {i : Nat} {p : ArmsV → Bool} (h : (l.take i).all p = true) (hi : i < l.length) (hp : p (l.getD i ArmsV.zero) = true) : (l.take (i + 1)).all p = true := by
  rw [take_next ArmsV.zero hi, List.all_append, h]
  simpa using hp

theorem all_not {l : List ArmsV} {i : Nat} {p : ArmsV → Bool} (hi : i < l.length) (hp : p (l.getD i ArmsV.zero) = false) : l.all p = false := by
  rw [List.all_eq_false]
  exact ⟨_, getD_mem ArmsV.zero hi, by rw [hp]; simp⟩

theorem cnt_zero {m : Int} (h : cntOf m = 0) : inR m 1 3 = false := by
  apply inR_not
  intro h2
  obtain rfl | rfl | rfl : m = 1 ∨ m = 2 ∨ m = 3 := by omega
  all_goals revert h; decide

set_option maxRecDepth 100000 in
set_option maxHeartbeats 4000000 in
theorem l20Good_fn (m : Int) (l : List ArmsV) (hl : l.length ≤ 9223372036854775807) : FnD Try.prog 47 [.ag [.int m, armsL l]] (.bool (okShield m l)) := by
  have hc : cntOf m = 0 ∨ inR m 1 3 = true := by
    by_cases h : inR m 1 3 = true
    · exact .inr h
    · left
      rw [inR_iff] at h
      unfold cntOf
      rw [if_neg (by omega), if_neg (by omega), if_neg (by omega)]
  refine fn_go Try.func47 rfl rfl Try.ntmps47 Try.results47 (by simp only [slotsOf, argAV, List.map_cons, List.map_nil, Nat.reduceAdd]; rfl) (by simp) ?_
  repeat' (first | ((with_reducible refine ev_aw ?_); (first | (with_reducible refine aw_seq fun K hK => ?_) | (with_reducible refine aw_region (by kernel_rfl) ?_) | (with_reducible refine aw_condk ?_) | (with_reducible refine aw_block ?_) | ((first | (with_reducible refine aw_skip ?_) | (with_reducible refine aw_ret ?_) | (with_reducible refine aw_exit ?_)); simp only [go_sem, ↓reduceIte, Nat.reduceEqDiff]) | (refine aw_draw (id := 1) (by kernel_rfl) (.pure 0 (.pure 1 (.one 2 (.pure 3 (.pure 4 (.pure 5 (.pure 6 (.pure 7 (.pure 8 (.pure 9 (.one 10 (.pure 11 (.pure 12 PT.fin))))))))))))) [] (by kernel_rfl) (by kernel_rfl) ?_))) | (with_reducible refine rp_two ?_ ?_) | ((first | (with_reducible refine ev_run ?_) | (with_reducible refine ev_next ?_) | (with_reducible refine ev_ri ?_) | (with_reducible refine ev_cond ?_) | (with_reducible refine ev_rp ?_) | (with_reducible refine ev_rap ?_) | (with_reducible refine ev_res ?_)); simp only [go_sem, ↓reduceIte, Nat.reduceEqDiff, Nat.reduceBEq, Nat.reduceAdd, Nat.reduceMul, Nat.reduceSub, Nat.reduceLT, Nat.reduceLeDiff]) | (simp (disch := omega) only [wr, drop_at, str_at, int_at, Int.reduceSub, Int.reduceAdd, Int.reduceToNat, Int.toNat_zero, arms_at]) | ((with_reducible refine ev_call ?_); (first | (refine call_fn (l20Count_fn _) rfl ?_; refine k_run ?_))) | ((with_reducible refine ev_guard ?_); (first | (with_reducible refine guard_t ?_ ?_ rfl) | (with_reducible refine guard_f ?_ ?_ rfl)) <;> (intro h; (try simp only [h]); (try simp only [decide_eq_true_eq, decide_eq_false_iff_not, bne_iff_ne, beq_iff_eq, bne_eq_false_iff_eq, beq_eq_false_iff_ne, Bool.not_eq_true', Bool.not_eq_false', ne_eq] at h) <;> (try (exfalso; omega)))) | ((with_reducible refine ck_split (fun h => ?_) (fun h => ?_)) <;> (try simp only [decide_eq_true_eq, decide_eq_false_iff_not, bne_iff_ne, beq_iff_eq, bne_eq_false_iff_eq, beq_eq_false_iff_ne, Bool.not_eq_true', Bool.not_eq_false', ne_eq] at h) <;> (try (exfalso; omega))) | ((with_reducible refine And.intro ?_ ?_); (first | omega | focus (simp; done) | focus (simp; omega))) | (with_reducible apply hK; clear hK K) | (clear hK K; with_reducible apply hK; clear hK K) | (clear hK K; clear hK K; with_reducible apply hK; clear hK K) | (clear hK K; clear hK K; clear hK K; with_reducible apply hK; clear hK K) | fail)
  · (first | refine res_tmp rfl (by simp [D.plain, plains]) (by simp) ?_ | refine res_at rfl (by simp [D.plain, plains]) (by simp) ?_ | refine res_two rfl (by simp [D.plain, plains]) (by simp) ?_ | refine res_three rfl (by simp [D.plain, plains]) (by simp) ?_)
    simp [okShield, cnt_zero h]
  · (first | refine res_tmp rfl (by simp [D.plain, plains]) (by simp) ?_ | refine res_at rfl (by simp [D.plain, plains]) (by simp) ?_ | refine res_two rfl (by simp [D.plain, plains]) (by simp) ?_ | refine res_three rfl (by simp [D.plain, plains]) (by simp) ?_)
    simp [okShield, h]
  · rename_i h0
    have h1 := h
    refine aw_loopU [2, 3, 17, 18, 19, 20, 21, 22, 23, 24, 25, 26, 27, 28, 29, 30] [20, 29] (fun i : Nat => [(3, .d (.int i))]) (fun _ => []) (fun i => i ≤ l.length ∧ (l.take i).all okArms = true) (fun i => l.length - i) 0 ⟨by omega, rfl⟩ ?_ ?_
    · (refine lessW_of [] rfl ?_ <;> simp only [St.sws, St.sw, swS, swO, AV.sw, AV.swL, OB.sw, swp, St.upd, dropS, dropOs, Less, SubS, SubO, look, lookO, List.elem, List.cons_append, List.nil_append, cond_true, cond_false, and_true, true_and, beq_self_eq_true, ↓reduceIte, Nat.reduceEqDiff, Nat.reduceBEq, Nat.reduceAdd, Nat.reduceMul, Nat.reduceSub, Nat.reduceLT, Nat.reduceLeDiff] <;> try simp)
    · rintro i ⟨g1, g2⟩
      simp only [St.upd, dropS, dropOs, List.elem, List.cons_append, List.nil_append, cond_true, cond_false, beq_self_eq_true, ↓reduceIte, Nat.reduceEqDiff, Nat.reduceBEq, Nat.reduceAdd, Nat.reduceMul, Nat.reduceSub, Nat.reduceLT, Nat.reduceLeDiff]
      repeat' (first | ((with_reducible refine ev_aw ?_); (first | (with_reducible refine aw_seq fun K hK => ?_) | (with_reducible refine aw_region (by kernel_rfl) ?_) | (with_reducible refine aw_condk ?_) | (with_reducible refine aw_block ?_) | ((first | (with_reducible refine aw_skip ?_) | (with_reducible refine aw_ret ?_) | (with_reducible refine aw_exit ?_)); simp only [go_sem, ↓reduceIte, Nat.reduceEqDiff]) | (refine aw_draw (id := 1) (by kernel_rfl) (.pure 0 (.pure 1 (.one 2 (.pure 3 (.pure 4 (.pure 5 (.pure 6 (.pure 7 (.pure 8 (.pure 9 (.one 10 (.pure 11 (.pure 12 PT.fin))))))))))))) [] (by kernel_rfl) (by kernel_rfl) ?_))) | (with_reducible refine rp_two ?_ ?_) | ((first | (with_reducible refine ev_run ?_) | (with_reducible refine ev_next ?_) | (with_reducible refine ev_ri ?_) | (with_reducible refine ev_cond ?_) | (with_reducible refine ev_rp ?_) | (with_reducible refine ev_rap ?_) | (with_reducible refine ev_res ?_)); simp only [go_sem, ↓reduceIte, Nat.reduceEqDiff, Nat.reduceBEq, Nat.reduceAdd, Nat.reduceMul, Nat.reduceSub, Nat.reduceLT, Nat.reduceLeDiff]) | (simp (disch := omega) only [wr, drop_at, str_at, int_at, Int.reduceSub, Int.reduceAdd, Int.reduceToNat, Int.toNat_zero, arms_at]) | ((with_reducible refine ev_call ?_); (first | (refine call_fn (l5Good_fn _) rfl ?_; refine k_run ?_))) | ((with_reducible refine ev_guard ?_); (first | (with_reducible refine guard_t ?_ ?_ rfl) | (with_reducible refine guard_f ?_ ?_ rfl)) <;> (intro h; (try simp only [h]); (try simp only [decide_eq_true_eq, decide_eq_false_iff_not, bne_iff_ne, beq_iff_eq, bne_eq_false_iff_eq, beq_eq_false_iff_ne, Bool.not_eq_true', Bool.not_eq_false', ne_eq] at h) <;> (try (exfalso; omega)))) | ((with_reducible refine ck_split (fun h => ?_) (fun h => ?_)) <;> (try simp only [decide_eq_true_eq, decide_eq_false_iff_not, bne_iff_ne, beq_iff_eq, bne_eq_false_iff_eq, beq_eq_false_iff_ne, Bool.not_eq_true', Bool.not_eq_false', ne_eq] at h) <;> (try (exfalso; omega))) | ((with_reducible refine And.intro ?_ ?_); (first | omega | focus (simp; done) | focus (simp; omega))) | (with_reducible apply hK; clear hK K) | (clear hK K; with_reducible apply hK; clear hK K) | (clear hK K; clear hK K; with_reducible apply hK; clear hK K) | (clear hK K; clear hK K; clear hK K; with_reducible apply hK; clear hK K) | fail)
      · (first | refine res_tmp rfl (by simp [D.plain, plains]) (by simp) ?_ | refine res_at rfl (by simp [D.plain, plains]) (by simp) ?_ | refine res_two rfl (by simp [D.plain, plains]) (by simp) ?_ | refine res_three rfl (by simp [D.plain, plains]) (by simp) ?_)
        simp [okShield, all_not (by omega) h]
      · refine ⟨i + 1, ?_, ?_, by (refine lessW_of [] rfl ?_ <;> simp only [St.sws, St.sw, swS, swO, AV.sw, AV.swL, OB.sw, swp, St.upd, dropS, dropOs, Less, SubS, SubO, look, lookO, List.elem, List.cons_append, List.nil_append, cond_true, cond_false, and_true, true_and, beq_self_eq_true, ↓reduceIte, Nat.reduceEqDiff, Nat.reduceBEq, Nat.reduceAdd, Nat.reduceMul, Nat.reduceSub, Nat.reduceLT, Nat.reduceLeDiff] <;> try simp)⟩
        · exact ⟨by omega, all_take g2 (by omega) h⟩
        · omega
      · (first | refine res_tmp rfl (by simp [D.plain, plains]) (by simp) ?_ | refine res_at rfl (by simp [D.plain, plains]) (by simp) ?_ | refine res_two rfl (by simp [D.plain, plains]) (by simp) ?_ | refine res_three rfl (by simp [D.plain, plains]) (by simp) ?_)
        have e : l.take i = l := List.take_of_length_le (by omega)
        rw [e] at g2
        have h3 : inR m 1 3 = true := by
          rcases hc with hc | hc
          · exact absurd hc h0
          · exact hc
        simp [okShield, h1, h3, g2]

/-- A predicate of arms, as a function on data. -/
def hArms (p : ArmsV → Bool) : List D → D
  | [.ag [.v (.int .i64 a0), .v (.int .i64 a1), .v (.int .i64 a2), .v (.int .i64 a3), .v (.int .i64 a4), .v (.int .i64 a5), .v (.int .i64 a6), .v (.int .i64 a7), .v (.int .i64 a8), .v (.int .i64 a9), .v (.int .i64 b0), .v (.int .i64 b1), .v (.int .i64 b2), .v (.int .i64 b3), .v (.int .i64 b4)]] => .bool (p ⟨a0, a1, a2, a3, a4, a5, a6, a7, a8, a9, b0, b1, b2, b3, b4⟩)
  | _ => .bool false

theorem hArms_at {p : ArmsV → Bool} {x : ArmsV} : hArms p [.ag [.int x.fd, .int x.fl, .int x.ff, .int x.fs, .int x.o, .int x.l, .int x.t, .int x.c1, .int x.k1, .int x.a1, .int x.t1, .int x.c2, .int x.k2, .int x.a2, .int x.t2]] = .bool (p x) := rfl

def isArms (ds : List D) : Prop := ∃ x : ArmsV, ds = [x.d]

theorem call_pred {σ : St} {q : Bool} {dst : Option Nat} {K : St → Prop} {g g2 : FuncId} {x : AV} {y r : D} {dom : List D → Prop} {h : List D → D} (hc : Fn Try.prog g [.d y, .fn dom h] r) (hx : toD σ.ob 4 x = some y) (hok : FnOk Try.prog g2) (hf : ∀ ds, dom ds → FnD Try.prog g2 ds (h ds)) (hk : K (σ.adopt dst r)) :
    CallOk Try.prog q σ dst (.fc g [] []) [x, .fc g2 [] []] K := by
  refine call_cv hc ?_ hk
  simp only [List.nil_append, List.append_nil, ArgsAre]
  refine ⟨_, _, rfl, ?_, _, _, rfl, ?_, rfl⟩
  · unfold ArgIs
    cases x <;> exact hx
  · unfold ArgIs
    exact ⟨hok, [], [], rfl, rfl, fun ds hd => by simpa using hf ds hd⟩

def idxA (l : List ArmsV) (p : ArmsV → Bool) : Int := if l.all (fun x => !p x) then -1 else (l.findIdx p : Nat)

theorem idxA_at {l : List ArmsV} {p : ArmsV → Bool} {i : Nat} (hi : i < l.length) (h : (l.take i).all (fun x => !p x) = true) (hp : p (l.getD i ArmsV.zero) = true) : idxA l p = i := by
  have h1 : l.all (fun x => !p x) = false := all_not (p := fun x => !p x) hi (by rw [hp]; rfl)
  have h2 : l.findIdx p = i := by
    rw [List.findIdx_eq hi]
    rw [getD_eq _ hi] at hp
    refine ⟨hp, fun j hj => ?_⟩
    have := List.all_eq_true.1 h (l[j]'(by omega)) (by
      rw [List.mem_take_iff_getElem]
      exact ⟨j, by omega, rfl⟩)
    simpa using this
  simp only [idxA, h1, h2]
  rfl

set_option maxRecDepth 100000 in
set_option maxHeartbeats 4000000 in
theorem indexFunc_fn (l : List ArmsV) (p : ArmsV → Bool) (hl : l.length ≤ 9223372036854775807) : Fn Try.prog 82 [.d (armsL l), .fn isArms (hArms p)] (.int (idxA l p)) := by
  refine fn_go Try.func82 rfl rfl Try.ntmps82 Try.results82 (by simp only [slotsOf, argAV, List.map_cons, List.map_nil, Nat.reduceAdd]; rfl) (by simp) ?_
  repeat' (first | ((with_reducible refine ev_aw ?_); (first | (with_reducible refine aw_seq fun K hK => ?_) | (with_reducible refine aw_region (by kernel_rfl) ?_) | (with_reducible refine aw_condk ?_) | (with_reducible refine aw_block ?_) | ((first | (with_reducible refine aw_skip ?_) | (with_reducible refine aw_ret ?_) | (with_reducible refine aw_exit ?_)); simp only [go_sem, ↓reduceIte, Nat.reduceEqDiff]))) | (with_reducible refine rp_two ?_ ?_) | ((first | (with_reducible refine ev_run ?_) | (with_reducible refine ev_next ?_) | (with_reducible refine ev_ri ?_) | (with_reducible refine ev_cond ?_) | (with_reducible refine ev_rp ?_) | (with_reducible refine ev_rap ?_) | (with_reducible refine ev_res ?_)); simp only [go_sem, ↓reduceIte, Nat.reduceEqDiff, Nat.reduceBEq, Nat.reduceAdd, Nat.reduceMul, Nat.reduceSub, Nat.reduceLT, Nat.reduceLeDiff]) | ((with_reducible refine ev_guard ?_); (first | (with_reducible refine guard_t ?_ ?_ rfl) | (with_reducible refine guard_f ?_ ?_ rfl)) <;> (intro h; (try simp only [h]); (try simp only [decide_eq_true_eq, decide_eq_false_iff_not, bne_iff_ne, beq_iff_eq, bne_eq_false_iff_eq, beq_eq_false_iff_ne, Bool.not_eq_true', Bool.not_eq_false', ne_eq] at h))) | ((with_reducible refine ck_split (fun h => ?_) (fun h => ?_)) <;> (try simp only [decide_eq_true_eq, decide_eq_false_iff_not, bne_iff_ne, beq_iff_eq, bne_eq_false_iff_eq, beq_eq_false_iff_ne, Bool.not_eq_true', Bool.not_eq_false', ne_eq] at h)) | ((with_reducible refine And.intro ?_ ?_); (first | omega | focus (simp; done) | focus (simp; omega))) | (with_reducible apply hK; clear hK K) | (clear hK K; with_reducible apply hK; clear hK K) | (clear hK K; clear hK K; with_reducible apply hK; clear hK K) | (clear hK K; clear hK K; clear hK K; with_reducible apply hK; clear hK K) | (simp (disch := omega) only [wr, drop_at, str_at, int_at, Int.reduceSub, Int.reduceAdd, Int.reduceToNat, Int.toNat_zero]) | fail)
  refine aw_loopU [4, 5, 8, 9, 10, 11, 12, 13, 14, 15, 16, 17, 18] [16] (fun i : Nat => [(8, .d (.int i))]) (fun _ => []) (fun i => i ≤ l.length ∧ (l.take i).all (fun x => !p x) = true) (fun i => l.length - i) 0 ⟨by omega, rfl⟩ ?_ ?_
  · (refine lessW_of [] rfl ?_ <;> simp only [St.sws, St.sw, swS, swO, AV.sw, AV.swL, OB.sw, swp, St.upd, dropS, dropOs, Less, SubS, SubO, look, lookO, List.elem, List.cons_append, List.nil_append, cond_true, cond_false, and_true, true_and, beq_self_eq_true, ↓reduceIte, Nat.reduceEqDiff, Nat.reduceBEq, Nat.reduceAdd, Nat.reduceMul, Nat.reduceSub, Nat.reduceLT, Nat.reduceLeDiff] <;> try simp)
  · rintro i ⟨g1, g2⟩
    simp only [St.upd, dropS, dropOs, List.elem, List.cons_append, List.nil_append, cond_true, cond_false, beq_self_eq_true, ↓reduceIte, Nat.reduceEqDiff, Nat.reduceBEq, Nat.reduceAdd, Nat.reduceMul, Nat.reduceSub, Nat.reduceLT, Nat.reduceLeDiff]
    repeat' (first | ((with_reducible refine ev_aw ?_); (first | (with_reducible refine aw_seq fun K hK => ?_) | (with_reducible refine aw_region (by kernel_rfl) ?_) | (with_reducible refine aw_condk ?_) | (with_reducible refine aw_block ?_) | ((first | (with_reducible refine aw_skip ?_) | (with_reducible refine aw_ret ?_) | (with_reducible refine aw_exit ?_)); simp only [go_sem, ↓reduceIte, Nat.reduceEqDiff]))) | (with_reducible refine rp_two ?_ ?_) | ((first | (with_reducible refine ev_run ?_) | (with_reducible refine ev_next ?_) | (with_reducible refine ev_ri ?_) | (with_reducible refine ev_cond ?_) | (with_reducible refine ev_rp ?_) | (with_reducible refine ev_rap ?_) | (with_reducible refine ev_res ?_)); simp only [go_sem, ↓reduceIte, Nat.reduceEqDiff, Nat.reduceBEq, Nat.reduceAdd, Nat.reduceMul, Nat.reduceSub, Nat.reduceLT, Nat.reduceLeDiff]) | (simp (disch := omega) only [wr, drop_at, str_at, int_at, Int.reduceSub, Int.reduceAdd, Int.reduceToNat, Int.toNat_zero, arms_at, hArms_at]) | ((with_reducible refine ev_call ?_); (first | (refine call_known rfl ⟨_, rfl⟩ ?_ ; refine k_run ?_))) | ((with_reducible refine ev_guard ?_); (first | (with_reducible refine guard_t ?_ ?_ rfl) | (with_reducible refine guard_f ?_ ?_ rfl)) <;> (intro h; (try simp only [h]); (try simp only [decide_eq_true_eq, decide_eq_false_iff_not, bne_iff_ne, beq_iff_eq, bne_eq_false_iff_eq, beq_eq_false_iff_ne, Bool.not_eq_true', Bool.not_eq_false', ne_eq] at h) <;> (try (exfalso; omega)))) | ((with_reducible refine ck_split (fun h => ?_) (fun h => ?_)) <;> (try simp only [decide_eq_true_eq, decide_eq_false_iff_not, bne_iff_ne, beq_iff_eq, bne_eq_false_iff_eq, beq_eq_false_iff_ne, Bool.not_eq_true', Bool.not_eq_false', ne_eq] at h) <;> (try (exfalso; omega))) | ((with_reducible refine And.intro ?_ ?_); (first | omega | focus (simp; done) | focus (simp; omega))) | (with_reducible apply hK; clear hK K) | (clear hK K; with_reducible apply hK; clear hK K) | (clear hK K; clear hK K; with_reducible apply hK; clear hK K) | (clear hK K; clear hK K; clear hK K; with_reducible apply hK; clear hK K) | fail)
    · (first | refine res_tmp rfl (by simp [D.plain, plains]) (by simp) ?_ | refine res_at rfl (by simp [D.plain, plains]) (by simp) ?_ | refine res_two rfl (by simp [D.plain, plains]) (by simp) ?_ | refine res_three rfl (by simp [D.plain, plains]) (by simp) ?_)
      rw [idxA_at (by omega) g2 h]
    · refine ⟨i + 1, ?_, ?_, by (refine lessW_of [] rfl ?_ <;> simp only [St.sws, St.sw, swS, swO, AV.sw, AV.swL, OB.sw, swp, St.upd, dropS, dropOs, Less, SubS, SubO, look, lookO, List.elem, List.cons_append, List.nil_append, cond_true, cond_false, and_true, true_and, beq_self_eq_true, ↓reduceIte, Nat.reduceEqDiff, Nat.reduceBEq, Nat.reduceAdd, Nat.reduceMul, Nat.reduceSub, Nat.reduceLT, Nat.reduceLeDiff] <;> try simp)⟩
      · exact ⟨by omega, all_take (p := fun x => !p x) g2 (by omega) (by rw [h]; rfl)⟩
      · omega
    · (first | refine res_tmp rfl (by simp [D.plain, plains]) (by simp) ?_ | refine res_at rfl (by simp [D.plain, plains]) (by simp) ?_ | refine res_two rfl (by simp [D.plain, plains]) (by simp) ?_ | refine res_three rfl (by simp [D.plain, plains]) (by simp) ?_)
      have e : l.take i = l := List.take_of_length_le (by omega)
      rw [e] at g2
      simp [idxA, g2]

set_option maxRecDepth 100000 in
set_option maxHeartbeats 4000000 in
theorem containsFunc_fn (l : List ArmsV) (p : ArmsV → Bool) (hl : l.length ≤ 9223372036854775807) : Fn Try.prog 68 [.d (armsL l), .fn isArms (hArms p)] (.bool (!l.all (fun x => !p x))) := by
  refine fn_go Try.func68 rfl rfl Try.ntmps68 Try.results68 (by simp only [slotsOf, argAV, List.map_cons, List.map_nil, Nat.reduceAdd]; rfl) (by simp) ?_
  repeat' (first | ((with_reducible refine ev_aw ?_); (first | (with_reducible refine aw_seq fun K hK => ?_) | (with_reducible refine aw_region (by kernel_rfl) ?_) | (with_reducible refine aw_condk ?_) | (with_reducible refine aw_block ?_) | ((first | (with_reducible refine aw_skip ?_) | (with_reducible refine aw_ret ?_) | (with_reducible refine aw_exit ?_)); simp only [go_sem, ↓reduceIte, Nat.reduceEqDiff]))) | (with_reducible refine rp_two ?_ ?_) | ((first | (with_reducible refine ev_run ?_) | (with_reducible refine ev_next ?_) | (with_reducible refine ev_ri ?_) | (with_reducible refine ev_cond ?_) | (with_reducible refine ev_rp ?_) | (with_reducible refine ev_rap ?_) | (with_reducible refine ev_res ?_)); simp only [go_sem, ↓reduceIte, Nat.reduceEqDiff, Nat.reduceBEq, Nat.reduceAdd, Nat.reduceMul, Nat.reduceSub, Nat.reduceLT, Nat.reduceLeDiff]) | ((with_reducible refine ev_call ?_); (first | (refine call_cv (indexFunc_fn l p hl) ⟨_, _, rfl, rfl, _, _, rfl, ⟨rfl, rfl⟩, rfl⟩ ?_ ; refine k_run ?_))) | ((with_reducible refine ev_guard ?_); (first | (with_reducible refine guard_t ?_ ?_ rfl) | (with_reducible refine guard_f ?_ ?_ rfl)) <;> (intro h; (try simp only [h]); (try simp only [decide_eq_true_eq, decide_eq_false_iff_not, bne_iff_ne, beq_iff_eq, bne_eq_false_iff_eq, beq_eq_false_iff_ne, Bool.not_eq_true', Bool.not_eq_false', ne_eq] at h))) | ((with_reducible refine ck_split (fun h => ?_) (fun h => ?_)) <;> (try simp only [decide_eq_true_eq, decide_eq_false_iff_not, bne_iff_ne, beq_iff_eq, bne_eq_false_iff_eq, beq_eq_false_iff_ne, Bool.not_eq_true', Bool.not_eq_false', ne_eq] at h)) | ((with_reducible refine And.intro ?_ ?_); (first | omega | focus (simp; done) | focus (simp; omega))) | (with_reducible apply hK; clear hK K) | (clear hK K; with_reducible apply hK; clear hK K) | (clear hK K; clear hK K; with_reducible apply hK; clear hK K) | (clear hK K; clear hK K; clear hK K; with_reducible apply hK; clear hK K) | (simp (disch := omega) only [wr, drop_at, str_at, int_at, Int.reduceSub, Int.reduceAdd, Int.reduceToNat, Int.toNat_zero]) | fail)
  (first | refine res_tmp rfl (by simp [D.plain, plains]) (by simp) ?_ | refine res_at rfl (by simp [D.plain, plains]) (by simp) ?_ | refine res_two rfl (by simp [D.plain, plains]) (by simp) ?_ | refine res_three rfl (by simp [D.plain, plains]) (by simp) ?_)
  unfold idxA
  cases l.all (fun x => !p x) <;> simp

set_option maxRecDepth 100000 in
set_option maxHeartbeats 4000000 in
theorem areArms1_fn (x : ArmsV) : FnD Try.prog 69 [x.d] (.bool (!okArms x)) := by
  refine fn_go Try.func69 rfl rfl Try.ntmps69 Try.results69 (by simp only [slotsOf, argAV, List.map_cons, List.map_nil, Nat.reduceAdd]; rfl) (by simp) ?_
  repeat' (first | ((with_reducible refine ev_aw ?_); (first | (with_reducible refine aw_seq fun K hK => ?_) | (with_reducible refine aw_region (by kernel_rfl) ?_) | (with_reducible refine aw_condk ?_) | (with_reducible refine aw_block ?_) | ((first | (with_reducible refine aw_skip ?_) | (with_reducible refine aw_ret ?_) | (with_reducible refine aw_exit ?_)); simp only [go_sem, ↓reduceIte, Nat.reduceEqDiff]))) | (with_reducible refine rp_two ?_ ?_) | ((first | (with_reducible refine ev_run ?_) | (with_reducible refine ev_next ?_) | (with_reducible refine ev_ri ?_) | (with_reducible refine ev_cond ?_) | (with_reducible refine ev_rp ?_) | (with_reducible refine ev_rap ?_) | (with_reducible refine ev_res ?_)); simp only [go_sem, ↓reduceIte, Nat.reduceEqDiff, Nat.reduceBEq, Nat.reduceAdd, Nat.reduceMul, Nat.reduceSub, Nat.reduceLT, Nat.reduceLeDiff]) | ((with_reducible refine ev_call ?_); (first | (refine call_fn (isValidArms_fn _) rfl ?_; refine k_run ?_))) | ((with_reducible refine ev_guard ?_); (first | (with_reducible refine guard_t ?_ ?_ rfl) | (with_reducible refine guard_f ?_ ?_ rfl)) <;> (intro h; (try simp only [h]); (try simp only [decide_eq_true_eq, decide_eq_false_iff_not, bne_iff_ne, beq_iff_eq, bne_eq_false_iff_eq, beq_eq_false_iff_ne, Bool.not_eq_true', Bool.not_eq_false', ne_eq] at h))) | ((with_reducible refine ck_split (fun h => ?_) (fun h => ?_)) <;> (try simp only [decide_eq_true_eq, decide_eq_false_iff_not, bne_iff_ne, beq_iff_eq, bne_eq_false_iff_eq, beq_eq_false_iff_ne, Bool.not_eq_true', Bool.not_eq_false', ne_eq] at h)) | ((with_reducible refine And.intro ?_ ?_); (first | omega | focus (simp; done) | focus (simp; omega))) | (with_reducible apply hK; clear hK K) | (clear hK K; with_reducible apply hK; clear hK K) | (clear hK K; clear hK K; with_reducible apply hK; clear hK K) | (clear hK K; clear hK K; clear hK K; with_reducible apply hK; clear hK K) | (simp (disch := omega) only [wr, drop_at, str_at, int_at, Int.reduceSub, Int.reduceAdd, Int.reduceToNat, Int.toNat_zero]) | fail)
  all_goals (first | refine res_tmp rfl (by simp [D.plain, plains]) (by simp) ?_ | refine res_at rfl (by simp [D.plain, plains]) (by simp) ?_ | refine res_two rfl (by simp [D.plain, plains]) (by simp) ?_ | refine res_three rfl (by simp [D.plain, plains]) (by simp) ?_ | skip)
  all_goals rfl

set_option maxRecDepth 100000 in
set_option maxHeartbeats 4000000 in
theorem areArms_fn (l : List ArmsV) (n : Int) (hl : l.length ≤ 9223372036854775807) : FnD Try.prog 50 [armsL l, .int n] (.bool (decide ((l.length : Int) ≤ n) && l.all okArms)) := by
  have g1 : ∀ ds, isArms ds → FnD Try.prog 69 ds (hArms (fun x => !okArms x) ds) := by
    rintro ds ⟨x, rfl⟩
    exact areArms1_fn x
  refine fn_go Try.func50 rfl rfl Try.ntmps50 Try.results50 (by simp only [slotsOf, argAV, List.map_cons, List.map_nil, Nat.reduceAdd]; rfl) (by simp) ?_
  repeat' (first | ((with_reducible refine ev_aw ?_); (first | (with_reducible refine aw_seq fun K hK => ?_) | (with_reducible refine aw_region (by kernel_rfl) ?_) | (with_reducible refine aw_condk ?_) | (with_reducible refine aw_block ?_) | ((first | (with_reducible refine aw_skip ?_) | (with_reducible refine aw_ret ?_) | (with_reducible refine aw_exit ?_)); simp only [go_sem, ↓reduceIte, Nat.reduceEqDiff]))) | (with_reducible refine rp_two ?_ ?_) | ((first | (with_reducible refine ev_run ?_) | (with_reducible refine ev_next ?_) | (with_reducible refine ev_ri ?_) | (with_reducible refine ev_cond ?_) | (with_reducible refine ev_rp ?_) | (with_reducible refine ev_rap ?_) | (with_reducible refine ev_res ?_)); simp only [go_sem, ↓reduceIte, Nat.reduceEqDiff, Nat.reduceBEq, Nat.reduceAdd, Nat.reduceMul, Nat.reduceSub, Nat.reduceLT, Nat.reduceLeDiff]) | ((with_reducible refine ev_call ?_); (first | (refine call_pred (containsFunc_fn l (fun x => !okArms x) hl) rfl (areArms1_fn ArmsV.zero).1 g1 ?_ ; refine k_run ?_))) | ((with_reducible refine ev_guard ?_); (first | (with_reducible refine guard_t ?_ ?_ rfl) | (with_reducible refine guard_f ?_ ?_ rfl)) <;> (intro h; (try simp only [h]); (try simp only [decide_eq_true_eq, decide_eq_false_iff_not, bne_iff_ne, beq_iff_eq, bne_eq_false_iff_eq, beq_eq_false_iff_ne, Bool.not_eq_true', Bool.not_eq_false', ne_eq] at h))) | ((with_reducible refine ck_split (fun h => ?_) (fun h => ?_)) <;> (try simp only [decide_eq_true_eq, decide_eq_false_iff_not, bne_iff_ne, beq_iff_eq, bne_eq_false_iff_eq, beq_eq_false_iff_ne, Bool.not_eq_true', Bool.not_eq_false', ne_eq] at h)) | ((with_reducible refine And.intro ?_ ?_); (first | omega | focus (simp; done) | focus (simp; omega))) | (with_reducible apply hK; clear hK K) | (clear hK K; with_reducible apply hK; clear hK K) | (clear hK K; clear hK K; with_reducible apply hK; clear hK K) | (clear hK K; clear hK K; clear hK K; with_reducible apply hK; clear hK K) | (simp (disch := omega) only [wr, drop_at, str_at, int_at, Int.reduceSub, Int.reduceAdd, Int.reduceToNat, Int.toNat_zero]) | fail)
  all_goals (first | refine res_tmp rfl (by simp [D.plain, plains]) (by simp) ?_ | refine res_at rfl (by simp [D.plain, plains]) (by simp) ?_ | refine res_two rfl (by simp [D.plain, plains]) (by simp) ?_ | refine res_three rfl (by simp [D.plain, plains]) (by simp) ?_ | skip)
  all_goals simp [h]

theorem cnt_ix {m : Int} (h : inR m 1 3 = true) : ∃ k : Nat, m = k + 1 ∧ k < 3 ∧ ([1, 2, 4] : List Int).getD k 0 = cntOf m := by
  rw [inR_iff] at h
  obtain rfl | rfl | rfl : m = 1 ∨ m = 2 ∨ m = 3 := by omega
  · exact ⟨0, rfl, by omega, rfl⟩
  · exact ⟨1, rfl, by omega, rfl⟩
  · exact ⟨2, rfl, by omega, rfl⟩

set_option maxRecDepth 100000 in
set_option maxHeartbeats 4000000 in
theorem isValidShield_fn (m : Int) (l : List ArmsV) (hl : l.length ≤ 9223372036854775807) : FnD Try.prog 20 [.ag [.int m, armsL l]] (.bool (okShield m l)) := by
  have h1 := inside_fn m 1 3
  have h2 := areArms_fn l 4 hl
  cases h : inR m 1 3
  · rw [h] at h1
    refine fn_go Try.func20 rfl rfl Try.ntmps20 Try.results20 (by simp only [slotsOf, argAV, List.map_cons, List.map_nil, Nat.reduceAdd]; rfl) (by simp) ?_
    repeat' (first | ((with_reducible refine ev_aw ?_); (first | (with_reducible refine aw_seq fun K hK => ?_) | (with_reducible refine aw_region (by kernel_rfl) ?_) | (with_reducible refine aw_condk ?_) | (with_reducible refine aw_block ?_) | ((first | (with_reducible refine aw_skip ?_) | (with_reducible refine aw_ret ?_) | (with_reducible refine aw_exit ?_)); simp only [go_sem, ↓reduceIte, Nat.reduceEqDiff]) | (refine aw_draw (id := 1) (by kernel_rfl) (.pure 0 (.pure 1 (.one 2 (.pure 3 (.pure 4 (.pure 5 (.pure 6 (.pure 7 (.pure 9 (.pure 10 (.pure 11 (.one 8 (.pure 12 (.pure 13 (.pure 14 (.pure 15 PT.fin)))))))))))))))) [] (by kernel_rfl) (by kernel_rfl) ?_))) | (with_reducible refine rp_two ?_ ?_) | ((first | (with_reducible refine ev_run ?_) | (with_reducible refine ev_next ?_) | (with_reducible refine ev_ri ?_) | (with_reducible refine ev_cond ?_) | (with_reducible refine ev_rp ?_) | (with_reducible refine ev_rap ?_) | (with_reducible refine ev_res ?_)); simp only [go_sem, ↓reduceIte, Nat.reduceEqDiff, Nat.reduceBEq, Nat.reduceAdd, Nat.reduceMul, Nat.reduceSub, Nat.reduceLT, Nat.reduceLeDiff]) | ((with_reducible refine ev_call ?_); (first | (refine call_fn h1 rfl ?_; refine k_run ?_) | (refine call_fn h2 rfl ?_; refine k_run ?_))) | ((with_reducible refine ev_guard ?_); (first | (with_reducible refine guard_t ?_ ?_ rfl) | (with_reducible refine guard_f ?_ ?_ rfl)) <;> (intro h; (try simp only [h]); (try simp only [decide_eq_true_eq, decide_eq_false_iff_not, bne_iff_ne, beq_iff_eq, bne_eq_false_iff_eq, beq_eq_false_iff_ne, Bool.not_eq_true', Bool.not_eq_false', ne_eq] at h))) | ((with_reducible refine ck_split (fun h => ?_) (fun h => ?_)) <;> (try simp only [decide_eq_true_eq, decide_eq_false_iff_not, bne_iff_ne, beq_iff_eq, bne_eq_false_iff_eq, beq_eq_false_iff_ne, Bool.not_eq_true', Bool.not_eq_false', ne_eq] at h)) | ((with_reducible refine And.intro ?_ ?_); (first | omega | focus (simp; done) | focus (simp; omega))) | (with_reducible apply hK; clear hK K) | (clear hK K; with_reducible apply hK; clear hK K) | (clear hK K; clear hK K; with_reducible apply hK; clear hK K) | (clear hK K; clear hK K; clear hK K; with_reducible apply hK; clear hK K) | (simp (disch := omega) only [wr, drop_at, str_at, int_at, Int.reduceSub, Int.reduceAdd, Int.reduceToNat, Int.toNat_zero]) | fail)
    all_goals (first | refine res_tmp rfl (by simp [D.plain, plains]) (by simp) ?_ | refine res_at rfl (by simp [D.plain, plains]) (by simp) ?_ | refine res_two rfl (by simp [D.plain, plains]) (by simp) ?_ | refine res_three rfl (by simp [D.plain, plains]) (by simp) ?_ | skip)
    all_goals simp [okShield, h]
  · rw [h] at h1
    rw [inR_iff] at h
    obtain rfl | rfl | rfl : m = 1 ∨ m = 2 ∨ m = 3 := by omega
    all_goals
      refine fn_go Try.func20 rfl rfl Try.ntmps20 Try.results20 (by simp only [slotsOf, argAV, List.map_cons, List.map_nil, Nat.reduceAdd]; rfl) (by simp) ?_
      repeat' (first | ((with_reducible refine ev_aw ?_); (first | (with_reducible refine aw_seq fun K hK => ?_) | (with_reducible refine aw_region (by kernel_rfl) ?_) | (with_reducible refine aw_condk ?_) | (with_reducible refine aw_block ?_) | ((first | (with_reducible refine aw_skip ?_) | (with_reducible refine aw_ret ?_) | (with_reducible refine aw_exit ?_)); simp only [go_sem, ↓reduceIte, Nat.reduceEqDiff]) | (refine aw_draw (id := 1) (by kernel_rfl) (.pure 0 (.pure 1 (.one 2 (.pure 3 (.pure 4 (.pure 5 (.pure 6 (.pure 7 (.pure 9 (.pure 10 (.pure 11 (.one 8 (.pure 12 (.pure 13 (.pure 14 (.pure 15 PT.fin)))))))))))))))) [] (by kernel_rfl) (by kernel_rfl) ?_))) | (with_reducible refine rp_two ?_ ?_) | ((first | (with_reducible refine ev_run ?_) | (with_reducible refine ev_next ?_) | (with_reducible refine ev_ri ?_) | (with_reducible refine ev_cond ?_) | (with_reducible refine ev_rp ?_) | (with_reducible refine ev_rap ?_) | (with_reducible refine ev_res ?_)); simp only [go_sem, ↓reduceIte, Nat.reduceEqDiff, Nat.reduceBEq, Nat.reduceAdd, Nat.reduceMul, Nat.reduceSub, Nat.reduceLT, Nat.reduceLeDiff]) | ((with_reducible refine ev_call ?_); (first | (refine call_fn h1 rfl ?_; refine k_run ?_) | (refine call_fn h2 rfl ?_; refine k_run ?_))) | ((with_reducible refine ev_guard ?_); (first | (with_reducible refine guard_t ?_ ?_ rfl) | (with_reducible refine guard_f ?_ ?_ rfl)) <;> (intro h; (try simp only [h]); (try simp only [decide_eq_true_eq, decide_eq_false_iff_not, bne_iff_ne, beq_iff_eq, bne_eq_false_iff_eq, beq_eq_false_iff_ne, Bool.not_eq_true', Bool.not_eq_false', ne_eq] at h))) | ((with_reducible refine ck_split (fun h => ?_) (fun h => ?_)) <;> (try simp only [decide_eq_true_eq, decide_eq_false_iff_not, bne_iff_ne, beq_iff_eq, bne_eq_false_iff_eq, beq_eq_false_iff_ne, Bool.not_eq_true', Bool.not_eq_false', ne_eq] at h)) | ((with_reducible refine And.intro ?_ ?_); (first | omega | focus (simp; done) | focus (simp; omega))) | (with_reducible apply hK; clear hK K) | (clear hK K; with_reducible apply hK; clear hK K) | (clear hK K; clear hK K; with_reducible apply hK; clear hK K) | (clear hK K; clear hK K; clear hK K; with_reducible apply hK; clear hK K) | (simp (disch := omega) only [wr, drop_at, str_at, int_at, Int.reduceSub, Int.reduceAdd, Int.reduceToNat, Int.toNat_zero]) | fail)
    all_goals (first | refine res_tmp rfl (by simp [D.plain, plains]) (by simp) ?_ | refine res_at rfl (by simp [D.plain, plains]) (by simp) ?_ | refine res_two rfl (by simp [D.plain, plains]) (by simp) ?_ | refine res_three rfl (by simp [D.plain, plains]) (by simp) ?_ | skip)
    all_goals simp_all [okShield, cntOf, inR]

set_option maxRecDepth 100000 in
set_option maxHeartbeats 4000000 in
theorem szArmsS_fn (l : List ArmsV) (n : Int) (hl : l.length ≤ 9223372036854775807) (h0 : 0 ≤ n) (h1 : n ≤ 9223372036854775807) : FnD Try.prog 46 [armsL l, .int n] (.int (if n - l.length < 0 then -1 else n - l.length)) := by
  refine fn_go Try.func46 rfl rfl Try.ntmps46 Try.results46 (by simp only [slotsOf, argAV, List.map_cons, List.map_nil, Nat.reduceAdd]; rfl) (by simp) ?_
  repeat' (first | ((with_reducible refine ev_aw ?_); (first | (with_reducible refine aw_seq fun K hK => ?_) | (with_reducible refine aw_region (by kernel_rfl) ?_) | (with_reducible refine aw_condk ?_) | (with_reducible refine aw_block ?_) | ((first | (with_reducible refine aw_skip ?_) | (with_reducible refine aw_ret ?_) | (with_reducible refine aw_exit ?_)); simp only [go_sem, ↓reduceIte, Nat.reduceEqDiff]))) | (with_reducible refine rp_two ?_ ?_) | ((first | (with_reducible refine ev_run ?_) | (with_reducible refine ev_next ?_) | (with_reducible refine ev_ri ?_) | (with_reducible refine ev_cond ?_) | (with_reducible refine ev_rp ?_) | (with_reducible refine ev_rap ?_) | (with_reducible refine ev_res ?_)); simp only [go_sem, ↓reduceIte, Nat.reduceEqDiff, Nat.reduceBEq, Nat.reduceAdd, Nat.reduceMul, Nat.reduceSub, Nat.reduceLT, Nat.reduceLeDiff]) | ((with_reducible refine ev_guard ?_); (first | (with_reducible refine guard_t ?_ ?_ rfl) | (with_reducible refine guard_f ?_ ?_ rfl)) <;> (intro h; (try simp only [h]); (try simp only [decide_eq_true_eq, decide_eq_false_iff_not, bne_iff_ne, beq_iff_eq, bne_eq_false_iff_eq, beq_eq_false_iff_ne, Bool.not_eq_true', Bool.not_eq_false', ne_eq] at h))) | ((with_reducible refine ck_split (fun h => ?_) (fun h => ?_)) <;> (try simp only [decide_eq_true_eq, decide_eq_false_iff_not, bne_iff_ne, beq_iff_eq, bne_eq_false_iff_eq, beq_eq_false_iff_ne, Bool.not_eq_true', Bool.not_eq_false', ne_eq] at h)) | ((with_reducible refine And.intro ?_ ?_); (first | omega | focus (simp; done) | focus (simp; omega))) | (with_reducible apply hK; clear hK K) | (clear hK K; with_reducible apply hK; clear hK K) | (clear hK K; clear hK K; with_reducible apply hK; clear hK K) | (clear hK K; clear hK K; clear hK K; with_reducible apply hK; clear hK K) | (simp (disch := omega) only [wr, drop_at, str_at, int_at, Int.reduceSub, Int.reduceAdd, Int.reduceToNat, Int.toNat_zero]) | fail)
  all_goals rw [wr (by omega) (by omega)] at h
  all_goals (first | refine res_tmp rfl (by simp [D.plain, plains]) (by simp) ?_ | refine res_at rfl (by simp [D.plain, plains]) (by simp) ?_ | refine res_two rfl (by simp [D.plain, plains]) (by simp) ?_ | refine res_three rfl (by simp [D.plain, plains]) (by simp) ?_ | skip)
  all_goals simp [h]

def partR (m : Int) (l : List ArmsV) (r b : Bool) : D := if okShield m l then .tu [.int ((if r && m != 1 then 1 else 0) + (if b && m == 3 then 2 else 0)), .bool true] else .tu [.int 0, .bool false]

theorem okShield_mode {m : Int} {l : List ArmsV} (h : okShield m l = true) : 1 ≤ m ∧ m ≤ 3 := by
  simp only [okShield, Bool.and_eq_true, inR_iff] at h
  exact h.1.1

end Go.Proofs.Ytdinkfmkhdnbpaa
