/- The text of a group of charges, in the program and in the reference. -/
import Derived.Test.YtdinkfmkhdnbpaaFieldText
import Derived.WalkKit
import Derived.WalkSpells
import Derived.KernelRfl
namespace Go.Proofs.Ytdinkfmkhdnbpaa
open Go.RowKit
set_option linter.unusedVariables false
set_option linter.unusedSimpArgs false
attribute [local go_sem] allU fillP rn_build listT rap_some rp_one rp_pure rp_fin rpk guard_ud ck_t ck_f rik Int.toNat_natCast drop_at kx_r kx_e in_n in_r in_e po_n po_r rn_nil rn_guard guard_tt guard_ff guard_tf guard_ft guard_un next_some rn_call rn_move rn_assign rn_pick rn_alloc rn_box rn_buildSlice rn_load rn_store rn_nilCheck rn_binOp rn_unOp rn_convert rn_makeFunc rn_makeSlice rn_slice rn_fieldAddr rn_field rn_indexAddr rn_index rn_extract rn_builtin stepOp actOp pureOp St.ev look AV.split AV.one St.new St.puto St.put put killS killO lookO putO delO AV.refs AV.refsL OB.refs St.adopt adoptL loadD loadA tAgg guardOf binD unD pick_t pick_f pick_b one_s one_i one_b one_l one_p rc_eq rc_some AV.pack allD storeOb fillA denseA buildA obCells srcCells OB.join obOf zeroD kx_n ri_nil ri_cons ra_some inB eqInts Bool.false_eq_true Bool.or_false Bool.or_self List.drop_succ_cons List.drop_zero List.take_succ_cons List.take_zero List.take_nil List.drop_nil List.getD_cons_zero List.getD_cons_succ ne_eq not_false_eq_true Nat.zero_add Nat.add_zero Bool.not_true Bool.not_false cond_true cond_false true_and and_true List.map_cons List.map_nil List.length_cons List.length_nil List.getElem?_toArray List.getElem?_cons_zero List.getElem?_cons_succ Option.map_some Option.map_none Option.isSome_some List.nil_append List.cons_append List.append_nil Int.toNat_zero Nat.zero_mul Nat.mul_one cells_1 cells_2 cells_3 cells_4 cells_5 cells_6 cells_7 cells_8 cells_9 cells_10 cells_11 cells_12 cells_13 cells_14 cells_15 cells_16 cells_17 cells_18 cells_19 cells_21 cells_22 cells_23 cells_25 cells_26 cells_27 cells_28 cells_29 cells_30 cells_31 cells_32 cells_33 cells_34 cells_35 cells_36 cells_37 cells_38 cells_39 cells_40 cells_41 cells_42 cells_43 cells_44 cells_45 cells_47 cells_48 cells_49 cells_50 cells_51 cells_52 cells_53 cells_54 cells_55 cells_57 cells_58 cells_59 cells_61 cells_62 cells_63 cells_64 cells_65 cells_66 cells_67 cells_68 cells_69 cells_70 cells_71 cells_72 cells_73 cells_74 cells_75 cells_76 cells_77 cells_78 cells_79 cells_80 cells_81 cells_82 cells_83 cells_84 cells_85 cells_86 cells_87 cells_88 cells_89 cells_90 cells_91 cells_92 cells_93 cells_94 cells_95 cells_96 cells_97 cells_98 cells_99 cells_100 cells_101 cells_102 cells_103 cells_104 cells_105 cells_106 cells_107 cells_108 cells_109 cells_110 cells_111 cells_112 cells_113 cells_114 cells_115 cells_116 cells_117 zeroOk_1 bytes_1 zeroOk_2 bytes_2 zeroV_2 zeroOk_3 bytes_3 zeroV_3 zeroOk_4 bytes_4 zeroV_4 zeroOk_5 bytes_5 zeroV_5 zeroOk_6 bytes_6 zeroV_6 zeroOk_7 bytes_7 zeroV_7 zeroOk_8 bytes_8 zeroV_8 zeroOk_9 bytes_9 zeroV_9 zeroOk_10 bytes_10 zeroV_10 zeroOk_11 bytes_11 zeroV_11 zeroOk_12 bytes_12 zeroV_12 zeroOk_13 bytes_13 zeroV_13 zeroOk_14 bytes_14 zeroV_14 zeroOk_15 bytes_15 zeroV_15 zeroOk_16 bytes_16 zeroV_16 zeroOk_17 bytes_17 zeroV_17 zeroOk_18 bytes_18 zeroV_18 zeroOk_19 bytes_19 zeroV_19 zeroOk_21 bytes_21 zeroV_21 zeroOk_22 bytes_22 zeroV_22 zeroOk_23 bytes_23 zeroOk_25 bytes_25 zeroOk_26 bytes_26 zeroOk_27 bytes_27 zeroOk_28 bytes_28 zeroOk_29 bytes_29 zeroV_29 zeroOk_30 bytes_30 zeroV_30 zeroOk_31 bytes_31 zeroV_31 zeroOk_32 bytes_32 zeroOk_33 bytes_33 zeroOk_34 bytes_34 zeroV_34 zeroOk_35 bytes_35 zeroV_35 zeroOk_36 bytes_36 zeroV_36 zeroOk_37 bytes_37 zeroOk_38 bytes_38 zeroOk_39 bytes_39 zeroOk_40 bytes_40 zeroV_40 zeroOk_41 bytes_41 zeroV_41 zeroOk_42 bytes_42 zeroV_42 zeroOk_43 bytes_43 zeroV_43 zeroOk_44 bytes_44 zeroV_44 zeroOk_45 bytes_45 zeroV_45 zeroOk_47 bytes_47 zeroOk_48 bytes_48 zeroV_48 zeroOk_49 bytes_49 zeroV_49 zeroOk_50 bytes_50 zeroV_50 zeroOk_51 bytes_51 zeroV_51 zeroOk_52 bytes_52 zeroOk_53 bytes_53 zeroOk_54 bytes_54 zeroOk_55 bytes_55 zeroV_55 zeroOk_57 bytes_57 zeroOk_58 bytes_58 zeroOk_59 bytes_59 zeroOk_61 bytes_61 zeroOk_62 bytes_62 zeroOk_63 bytes_63 zeroOk_64 bytes_64 zeroOk_65 bytes_65 zeroOk_66 bytes_66 zeroOk_67 bytes_67 zeroOk_68 bytes_68 zeroOk_69 bytes_69 zeroOk_70 bytes_70 zeroOk_71 bytes_71 zeroOk_72 bytes_72 zeroOk_73 bytes_73 zeroOk_74 bytes_74 zeroOk_75 bytes_75 zeroOk_76 bytes_76 zeroOk_77 bytes_77 zeroOk_78 bytes_78 zeroOk_79 bytes_79 zeroOk_80 bytes_80 zeroOk_81 bytes_81 zeroOk_82 bytes_82 zeroV_82 zeroOk_83 bytes_83 zeroV_83 zeroOk_84 bytes_84 zeroOk_85 bytes_85 zeroOk_86 bytes_86 zeroOk_87 bytes_87 zeroOk_88 bytes_88 zeroOk_89 bytes_89 zeroOk_90 bytes_90 zeroOk_91 bytes_91 zeroOk_92 bytes_92 zeroOk_93 bytes_93 zeroOk_94 bytes_94 zeroV_94 zeroOk_95 bytes_95 zeroOk_96 bytes_96 zeroV_96 zeroOk_97 bytes_97 zeroOk_98 bytes_98 zeroOk_99 bytes_99 zeroOk_100 bytes_100 zeroV_100 zeroOk_101 bytes_101 zeroOk_102 bytes_102 zeroOk_103 bytes_103 zeroV_103 zeroOk_104 bytes_104 zeroV_104 zeroOk_105 bytes_105 zeroV_105 zeroOk_106 bytes_106 zeroV_106 zeroOk_107 bytes_107 zeroV_107 zeroOk_108 bytes_108 zeroOk_109 bytes_109 zeroV_109 zeroOk_110 bytes_110 zeroV_110 zeroOk_111 bytes_111 zeroV_111 zeroOk_112 bytes_112 zeroOk_113 bytes_113 zeroV_113 zeroOk_114 bytes_114 zeroV_114 zeroOk_115 bytes_115 zeroV_115 zeroOk_116 bytes_116 zeroOk_117 bytes_117 seq_48 seq_49 seq_51 Try.underlying1 Try.underlying2 Try.underlying3 Try.underlying4 Try.underlying5 Try.underlying6 Try.underlying7 Try.underlying8 Try.underlying9 Try.underlying10 Try.underlying11 Try.underlying12 Try.underlying13 Try.underlying14 Try.underlying15 Try.underlying16 Try.underlying17 Try.underlying18 Try.underlying19 Try.underlying21 Try.underlying22 Try.underlying23 Try.underlying25 Try.underlying26 Try.underlying27 Try.underlying28 Try.underlying29 Try.underlying30 Try.underlying31 Try.underlying32 Try.underlying33 Try.underlying34 Try.underlying35 Try.underlying36 Try.underlying37 Try.underlying38 Try.underlying39 Try.underlying40 Try.underlying41 Try.underlying42 Try.underlying43 Try.underlying44 Try.underlying45 Try.underlying47 Try.underlying48 Try.underlying49 Try.underlying50 Try.underlying51 Try.underlying52 Try.underlying53 Try.underlying54 Try.underlying55 Try.underlying57 Try.underlying58 Try.underlying59 Try.underlying61 Try.underlying62 Try.underlying63 Try.underlying64 Try.underlying65 Try.underlying66 Try.underlying67 Try.underlying68 Try.underlying69 Try.underlying70 Try.underlying71 Try.underlying72 Try.underlying73 Try.underlying74 Try.underlying75 Try.underlying76 Try.underlying77 Try.underlying78 Try.underlying79 Try.underlying80 Try.underlying81 Try.underlying82 Try.underlying83 Try.underlying84 Try.underlying85 Try.underlying86 Try.underlying87 Try.underlying88 Try.underlying89 Try.underlying90 Try.underlying91 Try.underlying92 Try.underlying93 Try.underlying94 Try.underlying95 Try.underlying96 Try.underlying97 Try.underlying98 Try.underlying99 Try.underlying100 Try.underlying101 Try.underlying102 Try.underlying103 Try.underlying104 Try.underlying105 Try.underlying106 Try.underlying107 Try.underlying108 Try.underlying109 Try.underlying110 Try.underlying111 Try.underlying112 Try.underlying113 Try.underlying114 Try.underlying115 Try.underlying116 Try.underlying117

attribute [local go_sem] strs

def kindName (k : Int) : ByteArray :=
  match k with
  | 1 => ⟨#[108, 105, 111, 110]⟩
  | 2 => ⟨#[101, 97, 103, 108, 101]⟩
  | 3 => ⟨#[102, 105, 115, 104]⟩
  | 4 => ⟨#[114, 111, 115, 101]⟩
  | 5 => ⟨#[115, 116, 97, 114]⟩
  | 6 => ⟨#[116, 111, 119, 101, 114]⟩
  | 7 => ⟨#[107, 101, 121]⟩
  | 8 => ⟨#[115, 119, 111, 114, 100]⟩
  | _ => ⟨#[]⟩

def kindText (k c : Int) : ByteArray := if 1 < c ∧ k ≠ 3 then kindName k ++ ⟨#[115]⟩ else kindName k

def numName (c : Int) : ByteArray :=
  match c with
  | 1 => ⟨#[97]⟩
  | 2 => ⟨#[116, 119, 111]⟩
  | 3 => ⟨#[116, 104, 114, 101, 101]⟩
  | 4 => ⟨#[102, 111, 117, 114]⟩
  | 5 => ⟨#[102, 105, 118, 101]⟩
  | 6 => ⟨#[115, 105, 120]⟩
  | _ => ⟨#[]⟩

def numText (c k : Int) : ByteArray := if c = 1 ∧ k = 2 then ⟨#[97, 110]⟩ else numName c

def attName (k a : Int) : ByteArray :=
  match k, a with
  | 1, 1 => ⟨#[114, 97, 109, 112, 97, 110, 116]⟩
  | 1, 2 => ⟨#[112, 97, 115, 115, 97, 110, 116]⟩
  | 2, 1 => ⟨#[100, 105, 115, 112, 108, 97, 121, 101, 100]⟩
  | 2, 2 => ⟨#[114, 105, 115, 105, 110, 103]⟩
  | 3, 1 => ⟨#[115, 119, 105, 109, 109, 105, 110, 103]⟩
  | 3, 2 => ⟨#[117, 112, 114, 105, 103, 104, 116]⟩
  | _, _ => ⟨#[]⟩

/-- The words of a kind's attitudes. -/
def attNames (k : Int) : List ByteArray := if 1 ≤ k ∧ k ≤ 3 then [attName k 1, attName k 2] else []

/-- A valid group. -/
def okGroup (c k a t : Int) : Bool := inR c 1 6 && inR k 1 8 && inR t 1 9 && (if k ≤ 3 then inR a 1 2 else a == 0)

/-- A group's text but for its tincture. -/
def bareText (c k a : Int) : ByteArray := if 0 < a then numText c k ++ ⟨#[32]⟩ ++ kindText k c ++ ⟨#[32]⟩ ++ attName k a else numText c k ++ ⟨#[32]⟩ ++ kindText k c

def groupText (c k a t : Int) : ByteArray := bareText c k a ++ ⟨#[32]⟩ ++ tincWord t

theorem kindText_size (k c : Int) : (kindText k c).size ≤ 6 := by
  have e : ({ data := #[115] } : ByteArray).size = 1 := rfl
  have h : (kindName k).size ≤ 5 := by
    unfold kindName; split <;> decide
  unfold kindText
  split
  · simp only [ByteArray.size_append]
    omega
  · omega

theorem numText_size (c k : Int) : (numText c k).size ≤ 5 := by
  unfold numText
  split
  · decide
  · unfold numName; split <;> decide

theorem attName_size (k a : Int) : (attName k a).size ≤ 9 := by
  unfold attName; split <;> decide

theorem bareText_size (c k a : Int) : (bareText c k a).size ≤ 30 := by
  have e : ({ data := #[32] } : ByteArray).size = 1 := rfl
  have h1 := kindText_size k c
  have h2 := numText_size c k
  have h3 := attName_size k a
  unfold bareText
  split
  all_goals
    simp only [ByteArray.size_append]
    omega

set_option maxRecDepth 100000 in
set_option maxHeartbeats 4000000 in
theorem l4Kind_fn (n : Int) : FnD Try.prog 85 [.int n] (.bool (inR n 1 8)) := by
  refine fn_go Try.func85 rfl rfl Try.ntmps85 Try.results85 (by simp only [slotsOf, argAV, List.map_cons, List.map_nil, Nat.reduceAdd]; rfl) (by simp) ?_
  repeat' (first | ((with_reducible refine ev_aw ?_); (first | (with_reducible refine aw_seq fun K hK => ?_) | (with_reducible refine aw_region (by kernel_rfl) ?_) | (with_reducible refine aw_condk ?_) | (with_reducible refine aw_block ?_) | ((first | (with_reducible refine aw_skip ?_) | (with_reducible refine aw_ret ?_) | (with_reducible refine aw_exit ?_)); simp only [go_sem, ↓reduceIte, Nat.reduceEqDiff]))) | (with_reducible refine rp_two ?_ ?_) | ((first | (with_reducible refine ev_run ?_) | (with_reducible refine ev_next ?_) | (with_reducible refine ev_ri ?_) | (with_reducible refine ev_cond ?_) | (with_reducible refine ev_rp ?_) | (with_reducible refine ev_rap ?_) | (with_reducible refine ev_res ?_)); simp only [go_sem, ↓reduceIte, Nat.reduceEqDiff, Nat.reduceBEq, Nat.reduceAdd, Nat.reduceMul, Nat.reduceSub, Nat.reduceLT, Nat.reduceLeDiff]) | ((with_reducible refine ev_call ?_); (first | (refine call_fn (l1In_fn _ _ _) rfl ?_; refine k_run ?_))) | ((with_reducible refine ev_guard ?_); (first | (with_reducible refine guard_t ?_ ?_ rfl) | (with_reducible refine guard_f ?_ ?_ rfl)) <;> (intro h; (try simp only [h]); (try simp only [decide_eq_true_eq, decide_eq_false_iff_not, bne_iff_ne, beq_iff_eq, bne_eq_false_iff_eq, beq_eq_false_iff_ne, Bool.not_eq_true', Bool.not_eq_false', ne_eq] at h))) | ((with_reducible refine ck_split (fun h => ?_) (fun h => ?_)) <;> (try simp only [decide_eq_true_eq, decide_eq_false_iff_not, bne_iff_ne, beq_iff_eq, bne_eq_false_iff_eq, beq_eq_false_iff_ne, Bool.not_eq_true', Bool.not_eq_false', ne_eq] at h)) | ((with_reducible refine And.intro ?_ ?_); (first | omega | focus (simp; done) | focus (simp; omega))) | (with_reducible apply hK; clear hK K) | (clear hK K; with_reducible apply hK; clear hK K) | (clear hK K; clear hK K; with_reducible apply hK; clear hK K) | (clear hK K; clear hK K; clear hK K; with_reducible apply hK; clear hK K) | (simp (disch := omega) only [wr, drop_at, str_at, int_at, Int.reduceSub, Int.reduceAdd, Int.reduceToNat, Int.toNat_zero]) | fail)
  all_goals (first | refine res_tmp rfl (by simp [D.plain, plains]) (by simp) ?_ | refine res_at rfl (by simp [D.plain, plains]) (by simp) ?_ | refine res_two rfl (by simp [D.plain, plains]) (by simp) ?_ | refine res_three rfl (by simp [D.plain, plains]) (by simp) ?_ | skip)
  all_goals rfl

set_option maxRecDepth 100000 in
set_option maxHeartbeats 4000000 in
theorem isKind_fn (n : Int) : FnD Try.prog 90 [.int n] (.bool (inR n 1 8)) := by
  refine fn_go Try.func90 rfl rfl Try.ntmps90 Try.results90 (by simp only [slotsOf, argAV, List.map_cons, List.map_nil, Nat.reduceAdd]; rfl) (by simp) ?_
  repeat' (first | ((with_reducible refine ev_aw ?_); (first | (with_reducible refine aw_seq fun K hK => ?_) | (with_reducible refine aw_region (by kernel_rfl) ?_) | (with_reducible refine aw_condk ?_) | (with_reducible refine aw_block ?_) | ((first | (with_reducible refine aw_skip ?_) | (with_reducible refine aw_ret ?_) | (with_reducible refine aw_exit ?_)); simp only [go_sem, ↓reduceIte, Nat.reduceEqDiff]))) | (with_reducible refine rp_two ?_ ?_) | ((first | (with_reducible refine ev_run ?_) | (with_reducible refine ev_next ?_) | (with_reducible refine ev_ri ?_) | (with_reducible refine ev_cond ?_) | (with_reducible refine ev_rp ?_) | (with_reducible refine ev_rap ?_) | (with_reducible refine ev_res ?_)); simp only [go_sem, ↓reduceIte, Nat.reduceEqDiff, Nat.reduceBEq, Nat.reduceAdd, Nat.reduceMul, Nat.reduceSub, Nat.reduceLT, Nat.reduceLeDiff]) | ((with_reducible refine ev_call ?_); (first | (refine call_fn (inside_fn _ _ _) rfl ?_; refine k_run ?_))) | ((with_reducible refine ev_guard ?_); (first | (with_reducible refine guard_t ?_ ?_ rfl) | (with_reducible refine guard_f ?_ ?_ rfl)) <;> (intro h; (try simp only [h]); (try simp only [decide_eq_true_eq, decide_eq_false_iff_not, bne_iff_ne, beq_iff_eq, bne_eq_false_iff_eq, beq_eq_false_iff_ne, Bool.not_eq_true', Bool.not_eq_false', ne_eq] at h))) | ((with_reducible refine ck_split (fun h => ?_) (fun h => ?_)) <;> (try simp only [decide_eq_true_eq, decide_eq_false_iff_not, bne_iff_ne, beq_iff_eq, bne_eq_false_iff_eq, beq_eq_false_iff_ne, Bool.not_eq_true', Bool.not_eq_false', ne_eq] at h)) | ((with_reducible refine And.intro ?_ ?_); (first | omega | focus (simp; done) | focus (simp; omega))) | (with_reducible apply hK; clear hK K) | (clear hK K; with_reducible apply hK; clear hK K) | (clear hK K; clear hK K; with_reducible apply hK; clear hK K) | (clear hK K; clear hK K; clear hK K; with_reducible apply hK; clear hK K) | (simp (disch := omega) only [wr, drop_at, str_at, int_at, Int.reduceSub, Int.reduceAdd, Int.reduceToNat, Int.toNat_zero]) | fail)
  all_goals (first | refine res_tmp rfl (by simp [D.plain, plains]) (by simp) ?_ | refine res_at rfl (by simp [D.plain, plains]) (by simp) ?_ | refine res_two rfl (by simp [D.plain, plains]) (by simp) ?_ | refine res_three rfl (by simp [D.plain, plains]) (by simp) ?_ | skip)
  all_goals rfl

set_option maxRecDepth 100000 in
set_option maxHeartbeats 4000000 in
theorem l4Beast_fn (n : Int) : FnD Try.prog 86 [.int n] (.bool (decide (n ≤ 3))) := by
  refine fn_go Try.func86 rfl rfl Try.ntmps86 Try.results86 (by simp only [slotsOf, argAV, List.map_cons, List.map_nil, Nat.reduceAdd]; rfl) (by simp) ?_
  repeat' (first | ((with_reducible refine ev_aw ?_); (first | (with_reducible refine aw_seq fun K hK => ?_) | (with_reducible refine aw_region (by kernel_rfl) ?_) | (with_reducible refine aw_condk ?_) | (with_reducible refine aw_block ?_) | ((first | (with_reducible refine aw_skip ?_) | (with_reducible refine aw_ret ?_) | (with_reducible refine aw_exit ?_)); simp only [go_sem, ↓reduceIte, Nat.reduceEqDiff]))) | (with_reducible refine rp_two ?_ ?_) | ((first | (with_reducible refine ev_run ?_) | (with_reducible refine ev_next ?_) | (with_reducible refine ev_ri ?_) | (with_reducible refine ev_cond ?_) | (with_reducible refine ev_rp ?_) | (with_reducible refine ev_rap ?_) | (with_reducible refine ev_res ?_)); simp only [go_sem, ↓reduceIte, Nat.reduceEqDiff, Nat.reduceBEq, Nat.reduceAdd, Nat.reduceMul, Nat.reduceSub, Nat.reduceLT, Nat.reduceLeDiff]) | ((with_reducible refine ev_guard ?_); (first | (with_reducible refine guard_t ?_ ?_ rfl) | (with_reducible refine guard_f ?_ ?_ rfl)) <;> (intro h; (try simp only [h]); (try simp only [decide_eq_true_eq, decide_eq_false_iff_not, bne_iff_ne, beq_iff_eq, bne_eq_false_iff_eq, beq_eq_false_iff_ne, Bool.not_eq_true', Bool.not_eq_false', ne_eq] at h))) | ((with_reducible refine ck_split (fun h => ?_) (fun h => ?_)) <;> (try simp only [decide_eq_true_eq, decide_eq_false_iff_not, bne_iff_ne, beq_iff_eq, bne_eq_false_iff_eq, beq_eq_false_iff_ne, Bool.not_eq_true', Bool.not_eq_false', ne_eq] at h)) | ((with_reducible refine And.intro ?_ ?_); (first | omega | focus (simp; done) | focus (simp; omega))) | (with_reducible apply hK; clear hK K) | (clear hK K; with_reducible apply hK; clear hK K) | (clear hK K; clear hK K; with_reducible apply hK; clear hK K) | (clear hK K; clear hK K; clear hK K; with_reducible apply hK; clear hK K) | (simp (disch := omega) only [wr, drop_at, str_at, int_at, Int.reduceSub, Int.reduceAdd, Int.reduceToNat, Int.toNat_zero]) | fail)
  all_goals (first | refine res_tmp rfl (by simp [D.plain, plains]) (by simp) ?_ | refine res_at rfl (by simp [D.plain, plains]) (by simp) ?_ | refine res_two rfl (by simp [D.plain, plains]) (by simp) ?_ | refine res_three rfl (by simp [D.plain, plains]) (by simp) ?_ | skip)
  all_goals rfl

set_option maxRecDepth 100000 in
set_option maxHeartbeats 4000000 in
theorem l4Group_fn (c k a t : Int) : FnD Try.prog 73 [.ag [.int c, .int k, .int a, .int t]] (.bool (okGroup c k a t)) := by
  refine fn_go Try.func73 rfl rfl Try.ntmps73 Try.results73 (by simp only [slotsOf, argAV, List.map_cons, List.map_nil, Nat.reduceAdd]; rfl) (by simp) ?_
  repeat' (first | ((with_reducible refine ev_aw ?_); (first | (with_reducible refine aw_seq fun K hK => ?_) | (with_reducible refine aw_region (by kernel_rfl) ?_) | (with_reducible refine aw_condk ?_) | (with_reducible refine aw_block ?_) | ((first | (with_reducible refine aw_skip ?_) | (with_reducible refine aw_ret ?_) | (with_reducible refine aw_exit ?_)); simp only [go_sem, ↓reduceIte, Nat.reduceEqDiff]))) | (with_reducible refine rp_two ?_ ?_) | ((first | (with_reducible refine ev_run ?_) | (with_reducible refine ev_next ?_) | (with_reducible refine ev_ri ?_) | (with_reducible refine ev_cond ?_) | (with_reducible refine ev_rp ?_) | (with_reducible refine ev_rap ?_) | (with_reducible refine ev_res ?_)); simp only [go_sem, ↓reduceIte, Nat.reduceEqDiff, Nat.reduceBEq, Nat.reduceAdd, Nat.reduceMul, Nat.reduceSub, Nat.reduceLT, Nat.reduceLeDiff]) | ((with_reducible refine ev_call ?_); (first | (refine call_fn (l1In_fn _ _ _) rfl ?_; refine k_run ?_) | (refine call_fn (l4Kind_fn _) rfl ?_; refine k_run ?_) | (refine call_fn (l2Good_fn _) rfl ?_; refine k_run ?_) | (refine call_fn (l4Beast_fn _) rfl ?_; refine k_run ?_))) | ((with_reducible refine ev_guard ?_); (first | (with_reducible refine guard_t ?_ ?_ rfl) | (with_reducible refine guard_f ?_ ?_ rfl)) <;> (intro h; (try simp only [h]); (try simp only [decide_eq_true_eq, decide_eq_false_iff_not, bne_iff_ne, beq_iff_eq, bne_eq_false_iff_eq, beq_eq_false_iff_ne, Bool.not_eq_true', Bool.not_eq_false', ne_eq] at h))) | ((with_reducible refine ck_split (fun h => ?_) (fun h => ?_)) <;> (try simp only [decide_eq_true_eq, decide_eq_false_iff_not, bne_iff_ne, beq_iff_eq, bne_eq_false_iff_eq, beq_eq_false_iff_ne, Bool.not_eq_true', Bool.not_eq_false', ne_eq] at h)) | ((with_reducible refine And.intro ?_ ?_); (first | omega | focus (simp; done) | focus (simp; omega))) | (with_reducible apply hK; clear hK K) | (clear hK K; with_reducible apply hK; clear hK K) | (clear hK K; clear hK K; with_reducible apply hK; clear hK K) | (clear hK K; clear hK K; clear hK K; with_reducible apply hK; clear hK K) | (simp (disch := omega) only [wr, drop_at, str_at, int_at, Int.reduceSub, Int.reduceAdd, Int.reduceToNat, Int.toNat_zero]) | fail)
  all_goals (first | refine res_tmp rfl (by simp [D.plain, plains]) (by simp) ?_ | refine res_at rfl (by simp [D.plain, plains]) (by simp) ?_ | refine res_two rfl (by simp [D.plain, plains]) (by simp) ?_ | refine res_three rfl (by simp [D.plain, plains]) (by simp) ?_ | skip)
  all_goals (simp_all [okGroup]; try (intros; omega))

set_option maxRecDepth 100000 in
set_option maxHeartbeats 4000000 in
theorem attitudes_fn (k : Int) (h1 : 1 ≤ k) (h2 : k ≤ 8) : FnD Try.prog 91 [.int k] (strs (attNames k)) := by
  refine fn_go Try.func91 rfl rfl Try.ntmps91 Try.results91 (by simp only [slotsOf, argAV, List.map_cons, List.map_nil, Nat.reduceAdd]; rfl) (by simp) ?_
  obtain rfl | rfl | rfl | rfl | rfl | rfl | rfl | rfl : k = 1 ∨ k = 2 ∨ k = 3 ∨ k = 4 ∨ k = 5 ∨ k = 6 ∨ k = 7 ∨ k = 8 := by omega
  all_goals
    repeat' (first | ((with_reducible refine ev_aw ?_); (first | (with_reducible refine aw_seq fun K hK => ?_) | (with_reducible refine aw_region (by kernel_rfl) ?_) | (with_reducible refine aw_condk ?_) | (with_reducible refine aw_block ?_) | ((first | (with_reducible refine aw_skip ?_) | (with_reducible refine aw_ret ?_) | (with_reducible refine aw_exit ?_)); simp only [go_sem, ↓reduceIte, Nat.reduceEqDiff]))) | (with_reducible refine rp_two ?_ ?_) | ((first | (with_reducible refine ev_run ?_) | (with_reducible refine ev_next ?_) | (with_reducible refine ev_ri ?_) | (with_reducible refine ev_cond ?_) | (with_reducible refine ev_rp ?_) | (with_reducible refine ev_rap ?_) | (with_reducible refine ev_res ?_)); simp only [go_sem, ↓reduceIte, Nat.reduceEqDiff, Nat.reduceBEq, Nat.reduceAdd, Nat.reduceMul, Nat.reduceSub, Nat.reduceLT, Nat.reduceLeDiff]) | ((with_reducible refine ev_guard ?_); (first | (with_reducible refine guard_t ?_ ?_ rfl) | (with_reducible refine guard_f ?_ ?_ rfl)) <;> (intro h; (try simp only [h]); (try simp only [decide_eq_true_eq, decide_eq_false_iff_not, bne_iff_ne, beq_iff_eq, bne_eq_false_iff_eq, beq_eq_false_iff_ne, Bool.not_eq_true', Bool.not_eq_false', ne_eq] at h))) | ((with_reducible refine ck_split (fun h => ?_) (fun h => ?_)) <;> (try simp only [decide_eq_true_eq, decide_eq_false_iff_not, bne_iff_ne, beq_iff_eq, bne_eq_false_iff_eq, beq_eq_false_iff_ne, Bool.not_eq_true', Bool.not_eq_false', ne_eq] at h)) | ((with_reducible refine And.intro ?_ ?_); (first | omega | focus (simp; done) | focus (simp; omega))) | (with_reducible apply hK; clear hK K) | (clear hK K; with_reducible apply hK; clear hK K) | (clear hK K; clear hK K; with_reducible apply hK; clear hK K) | (clear hK K; clear hK K; clear hK K; with_reducible apply hK; clear hK K) | (simp (disch := omega) only [wr, drop_at, str_at, int_at, Int.reduceSub, Int.reduceAdd, Int.reduceToNat, Int.toNat_zero]) | fail)
  all_goals (first | refine res_tmp rfl (by simp [D.plain, plains]) (by simp) ?_ | refine res_at rfl (by simp [D.plain, plains]) (by simp) ?_ | refine res_two rfl (by simp [D.plain, plains]) (by simp) ?_ | refine res_three rfl (by simp [D.plain, plains]) (by simp) ?_ | skip)
  all_goals first | rfl | (simp at h; done) | (simp_all; done)

theorem kind_at {k : Int} {d : D} (h1 : 1 ≤ k) (h2 : k ≤ 8) : [D.str ⟨#[108, 105, 111, 110]⟩, D.str ⟨#[101, 97, 103, 108, 101]⟩, D.str ⟨#[102, 105, 115, 104]⟩, D.str ⟨#[114, 111, 115, 101]⟩, D.str ⟨#[115, 116, 97, 114]⟩, D.str ⟨#[116, 111, 119, 101, 114]⟩, D.str ⟨#[107, 101, 121]⟩, D.str ⟨#[115, 119, 111, 114, 100]⟩].getD (k - 1).toNat d = D.str (kindName k) := by
  obtain rfl | rfl | rfl | rfl | rfl | rfl | rfl | rfl : k = 1 ∨ k = 2 ∨ k = 3 ∨ k = 4 ∨ k = 5 ∨ k = 6 ∨ k = 7 ∨ k = 8 := by omega
  all_goals rfl

theorem num_at {c : Int} {d : D} (h1 : 1 ≤ c) (h2 : c ≤ 6) : [D.str ⟨#[97]⟩, D.str ⟨#[116, 119, 111]⟩, D.str ⟨#[116, 104, 114, 101, 101]⟩, D.str ⟨#[102, 111, 117, 114]⟩, D.str ⟨#[102, 105, 118, 101]⟩, D.str ⟨#[115, 105, 120]⟩].getD (c - 1).toNat d = D.str (numName c) := by
  obtain rfl | rfl | rfl | rfl | rfl | rfl : c = 1 ∨ c = 2 ∨ c = 3 ∨ c = 4 ∨ c = 5 ∨ c = 6 := by omega
  all_goals rfl

theorem kindName_size (k : Int) : (kindName k).size ≤ 5 := by
  unfold kindName; split <;> decide

theorem numName_size (k : Int) : (numName k).size ≤ 5 := by
  unfold numName; split <;> decide

set_option maxRecDepth 100000 in
set_option maxHeartbeats 4000000 in
theorem isValidGroup_fn (c k a t : Int) : FnD Try.prog 88 [.ag [.int c, .int k, .int a, .int t]] (.bool (okGroup c k a t)) := by
  have g1 := isKind_fn k
  cases hk : inR k 1 8
  all_goals rw [hk] at g1
  · refine fn_go Try.func88 rfl rfl Try.ntmps88 Try.results88 (by simp only [slotsOf, argAV, List.map_cons, List.map_nil, Nat.reduceAdd]; rfl) (by simp) ?_
    repeat' (first | ((with_reducible refine ev_aw ?_); (first | (with_reducible refine aw_seq fun K hK => ?_) | (with_reducible refine aw_region (by kernel_rfl) ?_) | (with_reducible refine aw_condk ?_) | (with_reducible refine aw_block ?_) | ((first | (with_reducible refine aw_skip ?_) | (with_reducible refine aw_ret ?_) | (with_reducible refine aw_exit ?_)); simp only [go_sem, ↓reduceIte, Nat.reduceEqDiff]))) | (with_reducible refine rp_two ?_ ?_) | ((first | (with_reducible refine ev_run ?_) | (with_reducible refine ev_next ?_) | (with_reducible refine ev_ri ?_) | (with_reducible refine ev_cond ?_) | (with_reducible refine ev_rp ?_) | (with_reducible refine ev_rap ?_) | (with_reducible refine ev_res ?_)); simp only [go_sem, ↓reduceIte, Nat.reduceEqDiff, Nat.reduceBEq, Nat.reduceAdd, Nat.reduceMul, Nat.reduceSub, Nat.reduceLT, Nat.reduceLeDiff]) | ((with_reducible refine ev_call ?_); (first | (refine call_fn (inside_fn _ _ _) rfl ?_; refine k_run ?_) | (refine call_fn g1 rfl ?_; refine k_run ?_) | (refine call_fn (isTincture_fn _) rfl ?_; refine k_run ?_))) | ((with_reducible refine ev_guard ?_); (first | (with_reducible refine guard_t ?_ ?_ rfl) | (with_reducible refine guard_f ?_ ?_ rfl)) <;> (intro h; (try simp only [h]); (try simp only [decide_eq_true_eq, decide_eq_false_iff_not, bne_iff_ne, beq_iff_eq, bne_eq_false_iff_eq, beq_eq_false_iff_ne, Bool.not_eq_true', Bool.not_eq_false', ne_eq] at h))) | ((with_reducible refine ck_split (fun h => ?_) (fun h => ?_)) <;> (try simp only [decide_eq_true_eq, decide_eq_false_iff_not, bne_iff_ne, beq_iff_eq, bne_eq_false_iff_eq, beq_eq_false_iff_ne, Bool.not_eq_true', Bool.not_eq_false', ne_eq] at h)) | ((with_reducible refine And.intro ?_ ?_); (first | omega | focus (simp; done) | focus (simp; omega))) | (with_reducible apply hK; clear hK K) | (clear hK K; with_reducible apply hK; clear hK K) | (clear hK K; clear hK K; with_reducible apply hK; clear hK K) | (clear hK K; clear hK K; clear hK K; with_reducible apply hK; clear hK K) | (simp (disch := omega) only [wr, drop_at, str_at, int_at, Int.reduceSub, Int.reduceAdd, Int.reduceToNat, Int.toNat_zero]) | fail)
    all_goals (first | refine res_tmp rfl (by simp [D.plain, plains]) (by simp) ?_ | refine res_at rfl (by simp [D.plain, plains]) (by simp) ?_ | refine res_two rfl (by simp [D.plain, plains]) (by simp) ?_ | refine res_three rfl (by simp [D.plain, plains]) (by simp) ?_ | skip)
    all_goals simp_all [okGroup]
  · have hk' := inR_iff.1 hk
    have g2 := attitudes_fn k hk'.1 hk'.2
    by_cases h3 : k ≤ 3
    · have e : attNames k = [attName k 1, attName k 2] := by simp [attNames, h3, hk'.1]
      rw [e] at g2
      refine fn_go Try.func88 rfl rfl Try.ntmps88 Try.results88 (by simp only [slotsOf, argAV, List.map_cons, List.map_nil, Nat.reduceAdd]; rfl) (by simp) ?_
      repeat' (first | ((with_reducible refine ev_aw ?_); (first | (with_reducible refine aw_seq fun K hK => ?_) | (with_reducible refine aw_region (by kernel_rfl) ?_) | (with_reducible refine aw_condk ?_) | (with_reducible refine aw_block ?_) | ((first | (with_reducible refine aw_skip ?_) | (with_reducible refine aw_ret ?_) | (with_reducible refine aw_exit ?_)); simp only [go_sem, ↓reduceIte, Nat.reduceEqDiff]))) | (with_reducible refine rp_two ?_ ?_) | ((first | (with_reducible refine ev_run ?_) | (with_reducible refine ev_next ?_) | (with_reducible refine ev_ri ?_) | (with_reducible refine ev_cond ?_) | (with_reducible refine ev_rp ?_) | (with_reducible refine ev_rap ?_) | (with_reducible refine ev_res ?_)); simp only [go_sem, ↓reduceIte, Nat.reduceEqDiff, Nat.reduceBEq, Nat.reduceAdd, Nat.reduceMul, Nat.reduceSub, Nat.reduceLT, Nat.reduceLeDiff]) | ((with_reducible refine ev_call ?_); (first | (refine call_fn (inside_fn _ _ _) rfl ?_; refine k_run ?_) | (refine call_fn g1 rfl ?_; refine k_run ?_) | (refine call_fn (isTincture_fn _) rfl ?_; refine k_run ?_) | (refine call_fn g2 rfl ?_; refine k_run ?_))) | ((with_reducible refine ev_guard ?_); (first | (with_reducible refine guard_t ?_ ?_ rfl) | (with_reducible refine guard_f ?_ ?_ rfl)) <;> (intro h; (try simp only [h]); (try simp only [decide_eq_true_eq, decide_eq_false_iff_not, bne_iff_ne, beq_iff_eq, bne_eq_false_iff_eq, beq_eq_false_iff_ne, Bool.not_eq_true', Bool.not_eq_false', ne_eq] at h))) | ((with_reducible refine ck_split (fun h => ?_) (fun h => ?_)) <;> (try simp only [decide_eq_true_eq, decide_eq_false_iff_not, bne_iff_ne, beq_iff_eq, bne_eq_false_iff_eq, beq_eq_false_iff_ne, Bool.not_eq_true', Bool.not_eq_false', ne_eq] at h)) | ((with_reducible refine And.intro ?_ ?_); (first | omega | focus (simp; done) | focus (simp; omega))) | (with_reducible apply hK; clear hK K) | (clear hK K; with_reducible apply hK; clear hK K) | (clear hK K; clear hK K; with_reducible apply hK; clear hK K) | (clear hK K; clear hK K; clear hK K; with_reducible apply hK; clear hK K) | (simp (disch := omega) only [wr, drop_at, str_at, int_at, Int.reduceSub, Int.reduceAdd, Int.reduceToNat, Int.toNat_zero]) | fail)
      all_goals (first | refine res_tmp rfl (by simp [D.plain, plains]) (by simp) ?_ | refine res_at rfl (by simp [D.plain, plains]) (by simp) ?_ | refine res_two rfl (by simp [D.plain, plains]) (by simp) ?_ | refine res_three rfl (by simp [D.plain, plains]) (by simp) ?_ | skip)
      all_goals (simp_all [okGroup]; try (intros; omega))
    · have e : attNames k = [] := by simp [attNames, h3]
      rw [e] at g2
      refine fn_go Try.func88 rfl rfl Try.ntmps88 Try.results88 (by simp only [slotsOf, argAV, List.map_cons, List.map_nil, Nat.reduceAdd]; rfl) (by simp) ?_
      repeat' (first | ((with_reducible refine ev_aw ?_); (first | (with_reducible refine aw_seq fun K hK => ?_) | (with_reducible refine aw_region (by kernel_rfl) ?_) | (with_reducible refine aw_condk ?_) | (with_reducible refine aw_block ?_) | ((first | (with_reducible refine aw_skip ?_) | (with_reducible refine aw_ret ?_) | (with_reducible refine aw_exit ?_)); simp only [go_sem, ↓reduceIte, Nat.reduceEqDiff]))) | (with_reducible refine rp_two ?_ ?_) | ((first | (with_reducible refine ev_run ?_) | (with_reducible refine ev_next ?_) | (with_reducible refine ev_ri ?_) | (with_reducible refine ev_cond ?_) | (with_reducible refine ev_rp ?_) | (with_reducible refine ev_rap ?_) | (with_reducible refine ev_res ?_)); simp only [go_sem, ↓reduceIte, Nat.reduceEqDiff, Nat.reduceBEq, Nat.reduceAdd, Nat.reduceMul, Nat.reduceSub, Nat.reduceLT, Nat.reduceLeDiff]) | ((with_reducible refine ev_call ?_); (first | (refine call_fn (inside_fn _ _ _) rfl ?_; refine k_run ?_) | (refine call_fn g1 rfl ?_; refine k_run ?_) | (refine call_fn (isTincture_fn _) rfl ?_; refine k_run ?_) | (refine call_fn g2 rfl ?_; refine k_run ?_))) | ((with_reducible refine ev_guard ?_); (first | (with_reducible refine guard_t ?_ ?_ rfl) | (with_reducible refine guard_f ?_ ?_ rfl)) <;> (intro h; (try simp only [h]); (try simp only [decide_eq_true_eq, decide_eq_false_iff_not, bne_iff_ne, beq_iff_eq, bne_eq_false_iff_eq, beq_eq_false_iff_ne, Bool.not_eq_true', Bool.not_eq_false', ne_eq] at h))) | ((with_reducible refine ck_split (fun h => ?_) (fun h => ?_)) <;> (try simp only [decide_eq_true_eq, decide_eq_false_iff_not, bne_iff_ne, beq_iff_eq, bne_eq_false_iff_eq, beq_eq_false_iff_ne, Bool.not_eq_true', Bool.not_eq_false', ne_eq] at h)) | ((with_reducible refine And.intro ?_ ?_); (first | omega | focus (simp; done) | focus (simp; omega))) | (with_reducible apply hK; clear hK K) | (clear hK K; with_reducible apply hK; clear hK K) | (clear hK K; clear hK K; with_reducible apply hK; clear hK K) | (clear hK K; clear hK K; clear hK K; with_reducible apply hK; clear hK K) | (simp (disch := omega) only [wr, drop_at, str_at, int_at, Int.reduceSub, Int.reduceAdd, Int.reduceToNat, Int.toNat_zero]) | fail)
      all_goals (first | refine res_tmp rfl (by simp [D.plain, plains]) (by simp) ?_ | refine res_at rfl (by simp [D.plain, plains]) (by simp) ?_ | refine res_two rfl (by simp [D.plain, plains]) (by simp) ?_ | refine res_three rfl (by simp [D.plain, plains]) (by simp) ?_ | skip)
      all_goals (simp_all [okGroup]; try (intros; omega))

theorem ok_group {c k a t : Int} (h : okGroup c k a t = true) : (1 ≤ c ∧ c ≤ 6) ∧ (1 ≤ k ∧ k ≤ 8) ∧ (1 ≤ t ∧ t ≤ 9) ∧ (a = 0 ∧ 3 < k ∨ (a = 1 ∨ a = 2) ∧ k ≤ 3) := by
  simp only [okGroup, Bool.and_eq_true, inR_iff] at h
  obtain ⟨⟨⟨h1, h2⟩, h3⟩, h4⟩ := h
  refine ⟨h1, h2, h3, ?_⟩
  split at h4
  · rw [inR_iff] at h4; omega
  · simp at h4; omega

def groupTextR (c k a t : Int) : D := if okGroup c k a t then .tu [.str (groupText c k a t), .bool true] else .tu [.str ⟨#[]⟩, .bool false]

set_option maxRecDepth 100000 in
set_option maxHeartbeats 4000000 in
theorem toGroup_fn (c k a t : Int) : FnD Try.prog 54 [.ag [.int c, .int k, .int a, .int t]] (.ag [.int c, .int k, .int a, .int t]) := by
  refine fn_go Try.func54 rfl rfl Try.ntmps54 Try.results54 (by simp only [slotsOf, argAV, List.map_cons, List.map_nil, Nat.reduceAdd]; rfl) (by simp) ?_
  repeat' (first | ((with_reducible refine ev_aw ?_); (first | (with_reducible refine aw_seq fun K hK => ?_) | (with_reducible refine aw_region (by kernel_rfl) ?_) | (with_reducible refine aw_condk ?_) | (with_reducible refine aw_block ?_) | ((first | (with_reducible refine aw_skip ?_) | (with_reducible refine aw_ret ?_) | (with_reducible refine aw_exit ?_)); simp only [go_sem, ↓reduceIte, Nat.reduceEqDiff]))) | (with_reducible refine rp_two ?_ ?_) | ((first | (with_reducible refine ev_run ?_) | (with_reducible refine ev_next ?_) | (with_reducible refine ev_ri ?_) | (with_reducible refine ev_cond ?_) | (with_reducible refine ev_rp ?_) | (with_reducible refine ev_rap ?_) | (with_reducible refine ev_res ?_)); simp only [go_sem, ↓reduceIte, Nat.reduceEqDiff, Nat.reduceBEq, Nat.reduceAdd, Nat.reduceMul, Nat.reduceSub, Nat.reduceLT, Nat.reduceLeDiff]) | ((with_reducible refine ev_guard ?_); (first | (with_reducible refine guard_t ?_ ?_ rfl) | (with_reducible refine guard_f ?_ ?_ rfl)) <;> (intro h; (try simp only [h]); (try simp only [decide_eq_true_eq, decide_eq_false_iff_not, bne_iff_ne, beq_iff_eq, bne_eq_false_iff_eq, beq_eq_false_iff_ne, Bool.not_eq_true', Bool.not_eq_false', ne_eq] at h))) | ((with_reducible refine ck_split (fun h => ?_) (fun h => ?_)) <;> (try simp only [decide_eq_true_eq, decide_eq_false_iff_not, bne_iff_ne, beq_iff_eq, bne_eq_false_iff_eq, beq_eq_false_iff_ne, Bool.not_eq_true', Bool.not_eq_false', ne_eq] at h)) | ((with_reducible refine And.intro ?_ ?_); (first | omega | focus (simp; done) | focus (simp; omega))) | (with_reducible apply hK; clear hK K) | (clear hK K; with_reducible apply hK; clear hK K) | (clear hK K; clear hK K; with_reducible apply hK; clear hK K) | (clear hK K; clear hK K; clear hK K; with_reducible apply hK; clear hK K) | (simp (disch := omega) only [wr, drop_at, str_at, int_at, Int.reduceSub, Int.reduceAdd, Int.reduceToNat, Int.toNat_zero]) | fail)
  all_goals (first | refine res_tmp rfl (by simp [D.plain, plains]) (by simp) ?_ | refine res_at rfl (by simp [D.plain, plains]) (by simp) ?_ | refine res_two rfl (by simp [D.plain, plains]) (by simp) ?_ | refine res_three rfl (by simp [D.plain, plains]) (by simp) ?_ | skip)
  all_goals rfl

end Go.Proofs.Ytdinkfmkhdnbpaa
