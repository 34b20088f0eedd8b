/- Persons of a valid family; places among the children. -/
import Derived.Test.YthjafngffkhffaaFam4
import Derived.WalkKit
import Derived.WalkSpells
import Derived.KernelRfl
namespace Go.Proofs.Ythjafngffkhffaa
open Go.RowKit
set_option linter.unusedVariables false
set_option linter.unusedSimpArgs false
attribute [local go_sem] ruk ru_fin ru_pure ru_still ru_one rau_some rs_n rs_t rs_c rs_k jr_1 jr_2 jr_3 ps_r ps_n St.after killSs killOs newN dropO killN allU fillP rn_build listT rap_some rp_one rp_pure rp_fin rpk guard_ud ck_t ck_f rik Int.toNat_natCast drop_at kx_r kx_e in_n in_r in_e po_n po_r rn_nil rn_guard guard_tt guard_ff guard_tf guard_ft guard_un next_some rn_call rn_move rn_assign rn_pick rn_alloc rn_box rn_buildSlice rn_load rn_store rn_nilCheck rn_binOp rn_unOp rn_convert rn_makeFunc rn_makeSlice rn_slice rn_fieldAddr rn_field rn_indexAddr rn_index rn_extract rn_builtin stepOp actOp pureOp St.ev look AV.split AV.one St.new St.puto St.put put killS killO lookO putO delO AV.refs AV.refsL OB.refs St.adopt adoptL loadD loadA tAgg guardOf binD unD pick_t pick_f pick_b one_s one_i one_b one_l one_p rc_eq rc_some AV.pack allD storeOb fillA denseA buildA obCells srcCells OB.fill OB.join obOf zeroD kx_n ri_nil ri_cons ra_some inB eqInts Bool.false_eq_true Bool.or_false Bool.or_self List.drop_succ_cons List.drop_zero List.take_succ_cons List.take_zero List.take_nil List.drop_nil List.getD_cons_zero List.getD_cons_succ ne_eq not_false_eq_true Nat.zero_add Nat.add_zero Bool.not_true Bool.not_false cond_true cond_false true_and and_true List.map_cons List.map_nil List.length_cons List.length_nil List.getElem?_toArray List.getElem?_cons_zero List.getElem?_cons_succ Option.map_some Option.map_none Option.isSome_some List.nil_append List.cons_append List.append_nil Int.toNat_zero Nat.zero_mul Nat.mul_one cells_1 cells_2 cells_3 cells_4 cells_5 cells_6 cells_7 cells_8 cells_9 cells_10 cells_11 cells_12 cells_13 cells_14 cells_15 cells_16 cells_17 cells_18 cells_19 cells_21 cells_22 cells_23 cells_24 cells_25 cells_26 cells_27 cells_28 cells_29 cells_30 cells_31 cells_32 cells_33 cells_35 cells_36 cells_37 cells_38 cells_39 cells_41 cells_43 cells_44 cells_45 cells_46 cells_47 cells_48 cells_49 cells_51 cells_52 cells_53 cells_54 cells_55 cells_56 cells_58 cells_60 cells_62 cells_63 cells_64 cells_65 cells_66 cells_67 cells_68 cells_69 cells_70 cells_71 cells_72 cells_73 cells_74 cells_75 cells_76 cells_77 cells_78 cells_79 cells_80 cells_81 cells_82 cells_83 cells_84 cells_85 cells_86 cells_87 cells_88 cells_89 cells_90 cells_91 cells_92 cells_93 cells_94 cells_95 cells_96 cells_97 cells_98 cells_99 cells_100 cells_101 cells_102 cells_103 cells_104 cells_105 cells_106 cells_107 cells_108 cells_109 cells_110 cells_111 cells_112 cells_114 cells_115 cells_116 cells_117 cells_118 cells_119 cells_120 cells_121 cells_122 cells_123 cells_124 cells_125 cells_126 cells_127 cells_128 cells_129 cells_130 cells_131 cells_132 cells_133 cells_134 cells_135 cells_137 cells_138 cells_139 cells_140 cells_141 cells_142 cells_143 cells_144 cells_145 cells_146 cells_147 cells_148 cells_149 cells_150 cells_151 cells_152 zeroOk_1 bytes_1 zeroOk_2 bytes_2 zeroV_2 zeroOk_3 bytes_3 zeroV_3 zeroOk_4 bytes_4 zeroV_4 zeroOk_5 bytes_5 zeroV_5 zeroOk_6 bytes_6 zeroV_6 zeroOk_7 bytes_7 zeroV_7 zeroOk_8 bytes_8 zeroV_8 zeroOk_9 bytes_9 zeroV_9 zeroOk_10 bytes_10 zeroV_10 zeroOk_11 bytes_11 zeroV_11 zeroOk_12 bytes_12 zeroV_12 zeroOk_13 bytes_13 zeroV_13 zeroOk_14 bytes_14 zeroV_14 zeroOk_15 bytes_15 zeroV_15 zeroOk_16 bytes_16 zeroV_16 zeroOk_17 bytes_17 zeroV_17 zeroOk_18 bytes_18 zeroV_18 zeroOk_19 bytes_19 zeroV_19 zeroOk_21 bytes_21 zeroV_21 zeroOk_22 bytes_22 zeroV_22 zeroOk_23 bytes_23 zeroV_23 zeroOk_24 bytes_24 zeroV_24 zeroOk_25 bytes_25 zeroOk_26 bytes_26 zeroOk_27 bytes_27 zeroV_27 zeroOk_28 bytes_28 zeroV_28 zeroOk_29 bytes_29 zeroV_29 zeroOk_30 bytes_30 zeroOk_31 bytes_31 zeroOk_32 bytes_32 zeroOk_33 bytes_33 zeroV_33 zeroOk_35 bytes_35 zeroOk_36 bytes_36 zeroOk_37 bytes_37 zeroOk_38 bytes_38 zeroOk_39 bytes_39 zeroOk_41 bytes_41 zeroOk_43 bytes_43 zeroOk_44 bytes_44 zeroOk_45 bytes_45 zeroOk_46 bytes_46 zeroOk_47 bytes_47 zeroOk_48 bytes_48 zeroV_48 zeroOk_49 bytes_49 zeroV_49 zeroOk_51 bytes_51 zeroOk_52 bytes_52 zeroV_52 zeroOk_53 bytes_53 zeroOk_54 bytes_54 zeroOk_55 bytes_55 zeroV_55 zeroOk_56 bytes_56 zeroOk_58 bytes_58 zeroOk_60 bytes_60 zeroOk_62 bytes_62 zeroOk_63 bytes_63 zeroOk_64 bytes_64 zeroOk_65 bytes_65 zeroOk_66 bytes_66 zeroOk_67 bytes_67 zeroOk_68 bytes_68 zeroOk_69 bytes_69 zeroOk_70 bytes_70 zeroOk_71 bytes_71 zeroOk_72 bytes_72 zeroOk_73 bytes_73 zeroOk_74 bytes_74 zeroOk_75 bytes_75 zeroOk_76 bytes_76 zeroOk_77 bytes_77 zeroOk_78 bytes_78 zeroOk_79 bytes_79 zeroOk_80 bytes_80 zeroOk_81 bytes_81 zeroOk_82 bytes_82 zeroOk_83 bytes_83 zeroOk_84 bytes_84 zeroOk_85 bytes_85 zeroOk_86 bytes_86 zeroOk_87 bytes_87 zeroV_87 zeroOk_88 bytes_88 zeroV_88 zeroOk_89 bytes_89 zeroOk_90 bytes_90 zeroOk_91 bytes_91 zeroOk_92 bytes_92 zeroOk_93 bytes_93 zeroOk_94 bytes_94 zeroOk_95 bytes_95 zeroOk_96 bytes_96 zeroOk_97 bytes_97 zeroOk_98 bytes_98 zeroOk_99 bytes_99 zeroOk_100 bytes_100 zeroOk_101 bytes_101 zeroOk_102 bytes_102 zeroOk_103 bytes_103 zeroOk_104 bytes_104 zeroOk_105 bytes_105 zeroV_105 zeroOk_106 bytes_106 zeroOk_107 bytes_107 zeroOk_108 bytes_108 zeroOk_109 bytes_109 zeroOk_110 bytes_110 zeroOk_111 bytes_111 zeroOk_112 bytes_112 zeroV_112 zeroOk_114 bytes_114 zeroOk_115 bytes_115 zeroOk_116 bytes_116 zeroOk_117 bytes_117 zeroOk_118 bytes_118 zeroOk_119 bytes_119 zeroOk_120 bytes_120 zeroV_120 zeroOk_121 bytes_121 zeroOk_122 bytes_122 zeroOk_123 bytes_123 zeroOk_124 bytes_124 zeroOk_125 bytes_125 zeroOk_126 bytes_126 zeroOk_127 bytes_127 zeroV_127 zeroOk_128 bytes_128 zeroOk_129 bytes_129 zeroOk_130 bytes_130 zeroOk_131 bytes_131 zeroV_131 zeroOk_132 bytes_132 zeroOk_133 bytes_133 zeroOk_134 bytes_134 zeroOk_135 bytes_135 zeroV_135 zeroOk_137 bytes_137 zeroOk_138 bytes_138 zeroOk_139 bytes_139 zeroOk_140 bytes_140 zeroV_140 zeroOk_141 bytes_141 zeroV_141 zeroOk_142 bytes_142 zeroV_142 zeroOk_143 bytes_143 zeroV_143 zeroOk_144 bytes_144 zeroV_144 zeroOk_145 bytes_145 zeroV_145 zeroOk_146 bytes_146 zeroV_146 zeroOk_147 bytes_147 zeroOk_148 bytes_148 zeroV_148 zeroOk_149 bytes_149 zeroV_149 zeroOk_150 bytes_150 zeroV_150 zeroOk_151 bytes_151 zeroOk_152 bytes_152 seq_52 Try.underlying1 Try.underlying2 Try.underlying3 Try.underlying4 Try.underlying5 Try.underlying6 Try.underlying7 Try.underlying8 Try.underlying9 Try.underlying10 Try.underlying11 Try.underlying12 Try.underlying13 Try.underlying14 Try.underlying15 Try.underlying16 Try.underlying17 Try.underlying18 Try.underlying19 Try.underlying21 Try.underlying22 Try.underlying23 Try.underlying24 Try.underlying25 Try.underlying26 Try.underlying27 Try.underlying28 Try.underlying29 Try.underlying30 Try.underlying31 Try.underlying32 Try.underlying33 Try.underlying35 Try.underlying36 Try.underlying37 Try.underlying38 Try.underlying39 Try.underlying41 Try.underlying43 Try.underlying44 Try.underlying45 Try.underlying46 Try.underlying47 Try.underlying48 Try.underlying49 Try.underlying51 Try.underlying52 Try.underlying53 Try.underlying54 Try.underlying55 Try.underlying56 Try.underlying58 Try.underlying60 Try.underlying62 Try.underlying63 Try.underlying64 Try.underlying65 Try.underlying66 Try.underlying67 Try.underlying68 Try.underlying69 Try.underlying70 Try.underlying71 Try.underlying72 Try.underlying73 Try.underlying74 Try.underlying75 Try.underlying76 Try.underlying77 Try.underlying78 Try.underlying79 Try.underlying80 Try.underlying81 Try.underlying82 Try.underlying83 Try.underlying84 Try.underlying85 Try.underlying86 Try.underlying87 Try.underlying88 Try.underlying89 Try.underlying90 Try.underlying91 Try.underlying92 Try.underlying93 Try.underlying94 Try.underlying95 Try.underlying96 Try.underlying97 Try.underlying98 Try.underlying99 Try.underlying100 Try.underlying101 Try.underlying102 Try.underlying103 Try.underlying104 Try.underlying105 Try.underlying106 Try.underlying107 Try.underlying108 Try.underlying109 Try.underlying110 Try.underlying111 Try.underlying112 Try.underlying114 Try.underlying115 Try.underlying116 Try.underlying117 Try.underlying118 Try.underlying119 Try.underlying120 Try.underlying121 Try.underlying122 Try.underlying123 Try.underlying124 Try.underlying125 Try.underlying126 Try.underlying127 Try.underlying128 Try.underlying129 Try.underlying130 Try.underlying131 Try.underlying132 Try.underlying133 Try.underlying134 Try.underlying135 Try.underlying137 Try.underlying138 Try.underlying139 Try.underlying140 Try.underlying141 Try.underlying142 Try.underlying143 Try.underlying144 Try.underlying145 Try.underlying146 Try.underlying147 Try.underlying148 Try.underlying149 Try.underlying150 Try.underlying151 Try.underlying152

attribute [local go_sem] PerV.d PerV.cs perL famD intL

attribute [local simp] perC_all perC_plains ints_plain ints_all ints_all1 ints_plain_take

/-- A family is valid and has a person. -/
def askF (l : List PerV) (id : Int) : Bool := okFam l && decide (0 ≤ findP l id)

/-- The person of a number. -/
def perOf (l : List PerV) (id : Int) : PerV := l.getD (findP l id).toNat PerV.zero

theorem askF_iff {l : List PerV} {id : Int} : askF l id = true ↔ okFam l = true ∧ 0 ≤ findP l id := by simp [askF]

theorem okFam_lt {l : List PerV} (h : okFam l = true) {i j : Nat} (hij : i < j) (hj : j < l.length) : (l.getD i PerV.zero).id < (l.getD j PerV.zero).id := by
  induction j with
  | zero => omega
  | succ j ih =>
    have h1 := (okAt_iff.1 (okFam_at h hj)).2.1
    simp only [Nat.add_sub_cancel] at h1
    have h2 : (l.getD j PerV.zero).id < (l.getD (j + 1) PerV.zero).id := by
      rcases h1 with h1 | h1
      · omega
      · exact h1
    by_cases e : i = j
    · subst e
      exact h2
    · have := ih (by omega) (by omega)
      omega

theorem findP_self {l : List PerV} (h : okFam l = true) {i : Nat} (hi : i < l.length) : findP l (l.getD i PerV.zero).id = i := by
  refine idxR_at PerV.zero hi ?_ (decide_eq_true rfl)
  rw [List.all_eq_true]
  intro x hx
  rw [List.mem_take_iff_getElem] at hx
  obtain ⟨j, hj, rfl⟩ := hx
  have := okFam_lt h (show j < i by omega) hi
  rw [getD_eq _ (by omega : j < l.length)] at this
  have e : ¬ (l[j]'(by omega)).id = (l.getD i PerV.zero).id := by omega
  rw [decide_eq_false e]
  rfl

theorem perOf_mem {l : List PerV} (h : okFam l = true) {x : PerV} (hx : x ∈ l) : perOf l x.id = x ∧ 0 ≤ findP l x.id := by
  obtain ⟨i, hi, rfl⟩ := List.mem_iff_getElem.1 hx
  rw [← getD_eq PerV.zero hi, perOf, findP_self h hi]
  exact ⟨rfl, by omega⟩

theorem perOf_id {l : List PerV} {id : Int} (h : 0 ≤ findP l id) : (perOf l id).id = id := (findP_lt (by omega)).2.1

theorem perOf_in {l : List PerV} {id : Int} (h : 0 ≤ findP l id) : perOf l id ∈ l := getD_mem _ (findP_lt (by omega)).1

/-- A person's parents are persons of the family. -/
theorem parents_in {l : List PerV} {id : Int} (h : okFam l = true) (hid : 0 ≤ findP l id) (h0 : ¬ (perOf l id).one = 0) : 0 ≤ findP l (perOf l id).one ∧ 0 ≤ findP l (perOf l id).two ∧ (perOf l (perOf l id).one).born + 15 ≤ (perOf l id).born ∧ (perOf l (perOf l id).two).born + 15 ≤ (perOf l id).born := by
  have h1 := (okAt_iff.1 (okFam_at h (findP_lt (id := id) (by omega)).1)).2.2
  rcases h1 with h1 | ⟨_, h2, h3⟩
  · exact absurd h1.1 h0
  · simp only [mayG] at h2 h3
    split at h2
    · cases h2
    split at h3
    · cases h3
    rename_i q1 q2
    simp only [parB, Bool.and_eq_true, decide_eq_true_eq] at h2 h3
    refine ⟨?_, ?_, ?_, ?_⟩
    · unfold perOf; omega
    · unfold perOf; omega
    · have := h2.1
      unfold perOf
      omega
    · have := h3.1
      unfold perOf
      omega

theorem two_zero {l : List PerV} {id : Int} (h : okFam l = true) (hid : 0 ≤ findP l id) (h0 : (perOf l id).one = 0) : (perOf l id).two = 0 := by
  have h1 := (okAt_iff.1 (okFam_at h (findP_lt (id := id) (by omega)).1)).2.2
  rcases h1 with h1 | ⟨_, h2, _⟩
  · exact h1.2
  · exfalso
    unfold perOf at h0
    simp only [mayG, h0] at h2
    split at h2
    · cases h2
    · rename_i q
      have q2 := (findP_lt q).2.1
      have q3 := okFam_mem h (getD_mem PerV.zero (findP_lt q).1)
      simp only [okPer, Bool.and_eq_true, inR_iff] at q3
      omega

set_option maxRecDepth 100000 in
set_option maxHeartbeats 4000000 in
theorem l18Asked_fn (l : List PerV) (id : Int) (hl : l.length ≤ 9223372036854775807) : FnD Try.prog 60 [famD l, .int id] (.bool (askF l id)) := by
  have e1 := l18Good_fn l hl
  have e2 := l18Find_fn l id hl
  cases g : okFam l
  all_goals
    rw [g] at e1
    refine fn_go Try.func60 rfl rfl Try.ntmps60 Try.results60 (by simp only [slotsOf, argAV, List.map_cons, List.map_nil, Nat.reduceAdd]; rfl) (by simp) ?_
    repeat' (first | ((with_reducible refine ev_aw ?_); (first | (with_reducible refine aw_seq fun K hK => ?_) | (with_reducible refine aw_region (by kernel_rfl) ?_) | (with_reducible refine aw_condk ?_) | (with_reducible refine aw_block ?_) | ((first | (with_reducible refine aw_skip ?_) | (with_reducible refine aw_ret ?_) | (with_reducible refine aw_exit ?_)); simp only [go_sem, ↓reduceIte, Nat.reduceEqDiff]))) | (with_reducible refine ru_four ?_ ?_ ?_ ?_) | (with_reducible refine ru_three ?_ ?_ ?_) | (with_reducible refine ru_two ?_ ?_) | (with_reducible refine rp_two ?_ ?_) | ((first | (with_reducible refine ev_run ?_) | (with_reducible refine ev_next ?_) | (with_reducible refine ev_ri ?_) | (with_reducible refine ev_cond ?_) | (with_reducible refine ev_rp ?_) | (with_reducible refine ev_rap ?_) | (with_reducible refine ev_ru ?_) | (with_reducible refine ev_rau ?_) | (with_reducible refine ev_res ?_) | (with_reducible refine ev_res2 ?_) | (with_reducible refine ev_res2b ?_) | (with_reducible refine ev_res3 ?_) | (with_reducible refine ev_res3b ?_)); simp only [go_sem, ↓reduceIte, Nat.reduceEqDiff, Nat.reduceBEq, Nat.reduceAdd, Nat.reduceMul, Nat.reduceSub, Nat.reduceLT, Nat.reduceLeDiff]) | ((with_reducible refine ev_call ?_); (first | (refine call_fn e1 rfl ?_; refine k_run ?_) | (refine call_fn e2 rfl ?_; refine k_run ?_) | fail)) | ((with_reducible refine ev_guard ?_); (first | (with_reducible refine guard_t ?_ ?_ rfl) | (with_reducible refine guard_f ?_ ?_ rfl)) <;> (intro h; (try simp only [h]); (try simp only [decide_eq_true_eq, decide_eq_false_iff_not, bne_iff_ne, beq_iff_eq, bne_eq_false_iff_eq, beq_eq_false_iff_ne, Bool.not_eq_true', Bool.not_eq_false', ne_eq] at h))) | ((with_reducible refine ck_split (fun h => ?_) (fun h => ?_)) <;> (try simp only [decide_eq_true_eq, decide_eq_false_iff_not, bne_iff_ne, beq_iff_eq, bne_eq_false_iff_eq, beq_eq_false_iff_ne, Bool.not_eq_true', Bool.not_eq_false', ne_eq] at h)) | ((with_reducible refine And.intro ?_ ?_); (first | omega | focus (simp; done) | focus (simp; omega) | focus (refine ⟨?_, ?_, ?_⟩ <;> first | omega | rfl | (simp only [refsL_app, refs_dmap, AV.refsL, AV.refs, Bool.or_self] <;> fail) | (simp [refsL_app, refs_dmap, AV.refsL, AV.refs] <;> omega)) | focus ((repeat' (with_reducible refine And.intro ?_ ?_)) <;> first | omega | rfl | (simp only [refsL_app, refs_dmap, AV.refsL, AV.refs, Bool.or_self] <;> fail) | (simp <;> omega)))) | (with_reducible refine hJ _ (fun K hK => ?_) ?_ <;> clear hJ KJ) | ((with_reducible refine ev_less ?_); (refine ⟨rfl, ?_, ?_⟩ <;> simp only [go_sem, St.clean, cleanO, St.sws, St.sw, swS, swO, AV.sw, AV.swL, OB.sw, swp, St.upd, dropS, dropOs, Less, SubS, SubO, look, lookO, List.elem, List.cons_append, List.nil_append, cond_true, cond_false, and_true, true_and, beq_self_eq_true, ↓reduceIte, Nat.reduceEqDiff, Nat.reduceBEq, Nat.reduceAdd, Nat.reduceMul, Nat.reduceSub, Nat.reduceLT, Nat.reduceLeDiff])) | ((first | (with_reducible refine ev_kx ?_) | (with_reducible refine ev_inb ?_)); simp only [kx_n, in_n, St.clean, cleanO]) | (with_reducible apply hK; clear hK K) | (clear hK K; with_reducible apply hK; clear hK K) | (clear hK K; clear hK K; with_reducible apply hK; clear hK K) | (clear hK K; clear hK K; clear hK K; with_reducible apply hK; clear hK K) | (simp (disch := omega) only [wr, drop_at, str_at, int_at, Int.reduceSub, Int.reduceAdd, Int.reduceToNat, Int.toNat_zero]) | fail)
    (first | refine res_tmp rfl (by simp [D.plain, plains]) (by simp) ?_ | refine res_at rfl (by simp [D.plain, plains]) (by simp) ?_ | refine res_two rfl (by simp [D.plain, plains]) (by simp) ?_ | refine res_three rfl (by simp [D.plain, plains]) (by simp) ?_)
    simp [askF, g]

set_option maxRecDepth 100000 in
set_option maxHeartbeats 4000000 in
theorem has_fn (l : List PerV) (id : Int) (hl : l.length ≤ 9223372036854775807) : FnD Try.prog 62 [famD l, .int id] (.bool (askF l id)) := by
  have e1 := isValidFamily_fn l hl
  have e2 := person_fn l id hl
  cases g : okFam l
  all_goals
    rw [g] at e1
    refine fn_go Try.func62 rfl rfl Try.ntmps62 Try.results62 (by simp only [slotsOf, argAV, List.map_cons, List.map_nil, Nat.reduceAdd]; rfl) (by simp) ?_
    repeat' (first | ((with_reducible refine ev_aw ?_); (first | (with_reducible refine aw_seq fun K hK => ?_) | (with_reducible refine aw_region (by kernel_rfl) ?_) | (with_reducible refine aw_condk ?_) | (with_reducible refine aw_block ?_) | ((first | (with_reducible refine aw_skip ?_) | (with_reducible refine aw_ret ?_) | (with_reducible refine aw_exit ?_)); simp only [go_sem, ↓reduceIte, Nat.reduceEqDiff]))) | (with_reducible refine ru_four ?_ ?_ ?_ ?_) | (with_reducible refine ru_three ?_ ?_ ?_) | (with_reducible refine ru_two ?_ ?_) | (with_reducible refine rp_two ?_ ?_) | ((first | (with_reducible refine ev_run ?_) | (with_reducible refine ev_next ?_) | (with_reducible refine ev_ri ?_) | (with_reducible refine ev_cond ?_) | (with_reducible refine ev_rp ?_) | (with_reducible refine ev_rap ?_) | (with_reducible refine ev_ru ?_) | (with_reducible refine ev_rau ?_) | (with_reducible refine ev_res ?_) | (with_reducible refine ev_res2 ?_) | (with_reducible refine ev_res2b ?_) | (with_reducible refine ev_res3 ?_) | (with_reducible refine ev_res3b ?_)); simp only [go_sem, ↓reduceIte, Nat.reduceEqDiff, Nat.reduceBEq, Nat.reduceAdd, Nat.reduceMul, Nat.reduceSub, Nat.reduceLT, Nat.reduceLeDiff]) | ((with_reducible refine ev_call ?_); (first | (refine call_fn e1 rfl ?_; refine k_run ?_) | (refine call_fn e2 rfl ?_; refine k_run ?_) | fail)) | ((with_reducible refine ev_guard ?_); (first | (with_reducible refine guard_t ?_ ?_ rfl) | (with_reducible refine guard_f ?_ ?_ rfl)) <;> (intro h; (try simp only [h]); (try simp only [decide_eq_true_eq, decide_eq_false_iff_not, bne_iff_ne, beq_iff_eq, bne_eq_false_iff_eq, beq_eq_false_iff_ne, Bool.not_eq_true', Bool.not_eq_false', ne_eq] at h))) | ((with_reducible refine ck_split (fun h => ?_) (fun h => ?_)) <;> (try simp only [decide_eq_true_eq, decide_eq_false_iff_not, bne_iff_ne, beq_iff_eq, bne_eq_false_iff_eq, beq_eq_false_iff_ne, Bool.not_eq_true', Bool.not_eq_false', ne_eq] at h)) | ((with_reducible refine And.intro ?_ ?_); (first | omega | focus (simp; done) | focus (simp; omega) | focus (refine ⟨?_, ?_, ?_⟩ <;> first | omega | rfl | (simp only [refsL_app, refs_dmap, AV.refsL, AV.refs, Bool.or_self] <;> fail) | (simp [refsL_app, refs_dmap, AV.refsL, AV.refs] <;> omega)) | focus ((repeat' (with_reducible refine And.intro ?_ ?_)) <;> first | omega | rfl | (simp only [refsL_app, refs_dmap, AV.refsL, AV.refs, Bool.or_self] <;> fail) | (simp <;> omega)))) | (with_reducible refine hJ _ (fun K hK => ?_) ?_ <;> clear hJ KJ) | ((with_reducible refine ev_less ?_); (refine ⟨rfl, ?_, ?_⟩ <;> simp only [go_sem, St.clean, cleanO, St.sws, St.sw, swS, swO, AV.sw, AV.swL, OB.sw, swp, St.upd, dropS, dropOs, Less, SubS, SubO, look, lookO, List.elem, List.cons_append, List.nil_append, cond_true, cond_false, and_true, true_and, beq_self_eq_true, ↓reduceIte, Nat.reduceEqDiff, Nat.reduceBEq, Nat.reduceAdd, Nat.reduceMul, Nat.reduceSub, Nat.reduceLT, Nat.reduceLeDiff])) | ((first | (with_reducible refine ev_kx ?_) | (with_reducible refine ev_inb ?_)); simp only [kx_n, in_n, St.clean, cleanO]) | (with_reducible apply hK; clear hK K) | (clear hK K; with_reducible apply hK; clear hK K) | (clear hK K; clear hK K; with_reducible apply hK; clear hK K) | (clear hK K; clear hK K; clear hK K; with_reducible apply hK; clear hK K) | (simp (disch := omega) only [wr, drop_at, str_at, int_at, Int.reduceSub, Int.reduceAdd, Int.reduceToNat, Int.toNat_zero]) | fail)
    (first | refine res_tmp rfl (by simp [D.plain, plains]) (by simp) ?_ | refine res_at rfl (by simp [D.plain, plains]) (by simp) ?_ | refine res_two rfl (by simp [D.plain, plains]) (by simp) ?_ | refine res_three rfl (by simp [D.plain, plains]) (by simp) ?_)
    simp [askF, g]

/-- The numbers of a person's parents. -/
def parI (l : List PerV) (id : Int) : List Int := if (perOf l id).one = 0 then [] else [(perOf l id).one, (perOf l id).two]

set_option maxRecDepth 100000 in
theorem pl_Fam6_66_1 (l : List Oper) (h : l = opsOf Try.f66 1) : planB l (.pure 0 (.pure 1 (.pure 2 (.pure 3 (.two 4 (.pure 5 (.pure 6 (.one 7 PT.fin))) 7 (.one 4 (.pure 5 (.pure 6 PT.fin)))))))) [8] = true := by
  subst h
  kernel_rfl

set_option maxRecDepth 100000 in
set_option maxHeartbeats 4000000 in
theorem parents_fn (l : List PerV) (id : Int) (hl : l.length ≤ 1048576) (hid : 0 ≤ findP l id) : FnD Try.prog 66 [famD l, .int id] (intL (parI l id)) := by
  have e1 := person_fn l id (by omega)
  obtain ⟨h1, h2, h3⟩ := findP_lt (l := l) (id := id) (by omega)
  obtain ⟨j, hj⟩ := Int.eq_ofNat_of_zero_le hid
  have hp : perOf l id = l.getD j PerV.zero := by rw [perOf, hj]; rfl
  have hj2 : j < l.length := by omega
  rw [parI, hp]
  rw [hj] at e1
  by_cases h0 : (l.getD j PerV.zero).one = 0
  · rw [if_pos h0]
    refine fn_go Try.func66 rfl rfl Try.ntmps66 Try.results66 (by simp only [slotsOf, argAV, List.map_cons, List.map_nil, Nat.reduceAdd]; rfl) (by simp) ?_
    repeat' (first | ((with_reducible refine ev_aw ?_); (first | (with_reducible refine aw_seq fun K hK => ?_) | (with_reducible refine aw_region (by kernel_rfl) ?_) | (with_reducible refine aw_condk ?_) | (with_reducible refine aw_block ?_) | ((first | (with_reducible refine aw_skip ?_) | (with_reducible refine aw_ret ?_) | (with_reducible refine aw_exit ?_)); simp only [go_sem, ↓reduceIte, Nat.reduceEqDiff]) | (refine aw_draw (id := 1) (by kernel_rfl) (.pure 0 (.pure 1 (.pure 2 (.pure 3 (.two 4 (.pure 5 (.pure 6 (.one 7 PT.fin))) 7 (.one 4 (.pure 5 (.pure 6 PT.fin)))))))) [8] (by kernel_rfl) (pl_Fam6_66_1 _ (by kernel_rfl)) ?_))) | (with_reducible refine ru_four ?_ ?_ ?_ ?_) | (with_reducible refine ru_three ?_ ?_ ?_) | (with_reducible refine ru_two ?_ ?_) | (with_reducible refine rp_two ?_ ?_) | ((first | (with_reducible refine ev_run ?_) | (with_reducible refine ev_next ?_) | (with_reducible refine ev_ri ?_) | (with_reducible refine ev_cond ?_) | (with_reducible refine ev_rp ?_) | (with_reducible refine ev_rap ?_) | (with_reducible refine ev_ru ?_) | (with_reducible refine ev_rau ?_) | (with_reducible refine ev_res ?_) | (with_reducible refine ev_res2 ?_) | (with_reducible refine ev_res2b ?_) | (with_reducible refine ev_res3 ?_) | (with_reducible refine ev_res3b ?_)); simp only [go_sem, ↓reduceIte, Nat.reduceEqDiff, Nat.reduceBEq, Nat.reduceAdd, Nat.reduceMul, Nat.reduceSub, Nat.reduceLT, Nat.reduceLeDiff]) | (simp (disch := omega) only [wr, drop_at, str_at, int_at, Int.reduceSub, Int.reduceAdd, Int.reduceToNat, Int.toNat_zero, per_at, wr]) | ((with_reducible refine ev_call ?_); (first | (refine call_fn e1 rfl ?_; refine k_run ?_) | fail)) | ((with_reducible refine ev_guard ?_); (first | (with_reducible refine guard_t ?_ ?_ rfl) | (with_reducible refine guard_f ?_ ?_ rfl)) <;> (intro h; (try simp only [h]); (try simp only [decide_eq_true_eq, decide_eq_false_iff_not, bne_iff_ne, beq_iff_eq, bne_eq_false_iff_eq, beq_eq_false_iff_ne, Bool.not_eq_true', Bool.not_eq_false', ne_eq] at h) <;> (try ((with_reducible exfalso); omega)))) | ((with_reducible refine ck_split (fun h => ?_) (fun h => ?_)) <;> (try simp only [decide_eq_true_eq, decide_eq_false_iff_not, bne_iff_ne, beq_iff_eq, bne_eq_false_iff_eq, beq_eq_false_iff_ne, Bool.not_eq_true', Bool.not_eq_false', ne_eq] at h) <;> (try ((with_reducible exfalso); omega))) | ((with_reducible refine And.intro ?_ ?_); (first | omega | focus (simp; done) | focus (simp; omega) | focus (refine ⟨?_, ?_, ?_⟩ <;> first | omega | rfl | (simp only [refsL_app, refs_dmap, AV.refsL, AV.refs, Bool.or_self] <;> fail) | (simp [refsL_app, refs_dmap, AV.refsL, AV.refs] <;> omega)) | focus ((repeat' (with_reducible refine And.intro ?_ ?_)) <;> first | omega | rfl | (simp only [refsL_app, refs_dmap, AV.refsL, AV.refs, Bool.or_self] <;> fail) | (simp <;> omega)))) | (with_reducible refine hJ _ (fun K hK => ?_) ?_ <;> clear hJ KJ) | ((with_reducible refine ev_less ?_); (refine ⟨rfl, ?_, ?_⟩ <;> simp only [go_sem, St.clean, cleanO, St.sws, St.sw, swS, swO, AV.sw, AV.swL, OB.sw, swp, St.upd, dropS, dropOs, Less, SubS, SubO, look, lookO, List.elem, List.cons_append, List.nil_append, cond_true, cond_false, and_true, true_and, beq_self_eq_true, ↓reduceIte, Nat.reduceEqDiff, Nat.reduceBEq, Nat.reduceAdd, Nat.reduceMul, Nat.reduceSub, Nat.reduceLT, Nat.reduceLeDiff])) | ((first | (with_reducible refine ev_kx ?_) | (with_reducible refine ev_inb ?_)); simp only [kx_n, in_n, St.clean, cleanO]) | (with_reducible apply hK; clear hK K) | (clear hK K; with_reducible apply hK; clear hK K) | (clear hK K; clear hK K; with_reducible apply hK; clear hK K) | (clear hK K; clear hK K; clear hK K; with_reducible apply hK; clear hK K) | fail)
    all_goals (first | refine res_tmp rfl (by simp [D.plain, plains]) (by simp) ?_ | refine res_at rfl (by simp [D.plain, plains]) (by simp) ?_ | refine res_two rfl (by simp [D.plain, plains]) (by simp) ?_ | refine res_three rfl (by simp [D.plain, plains]) (by simp) ?_ | skip)
    all_goals rfl
  · rw [if_neg h0]
    refine fn_go Try.func66 rfl rfl Try.ntmps66 Try.results66 (by simp only [slotsOf, argAV, List.map_cons, List.map_nil, Nat.reduceAdd]; rfl) (by simp) ?_
    repeat' (first | ((with_reducible refine ev_aw ?_); (first | (with_reducible refine aw_seq fun K hK => ?_) | (with_reducible refine aw_region (by kernel_rfl) ?_) | (with_reducible refine aw_condk ?_) | (with_reducible refine aw_block ?_) | ((first | (with_reducible refine aw_skip ?_) | (with_reducible refine aw_ret ?_) | (with_reducible refine aw_exit ?_)); simp only [go_sem, ↓reduceIte, Nat.reduceEqDiff]) | (refine aw_draw (id := 1) (by kernel_rfl) (.pure 0 (.pure 1 (.pure 2 (.pure 3 (.two 4 (.pure 5 (.pure 6 (.one 7 PT.fin))) 7 (.one 4 (.pure 5 (.pure 6 PT.fin)))))))) [8] (by kernel_rfl) (pl_Fam6_66_1 _ (by kernel_rfl)) ?_))) | (with_reducible refine ru_four ?_ ?_ ?_ ?_) | (with_reducible refine ru_three ?_ ?_ ?_) | (with_reducible refine ru_two ?_ ?_) | (with_reducible refine rp_two ?_ ?_) | ((first | (with_reducible refine ev_run ?_) | (with_reducible refine ev_next ?_) | (with_reducible refine ev_ri ?_) | (with_reducible refine ev_cond ?_) | (with_reducible refine ev_rp ?_) | (with_reducible refine ev_rap ?_) | (with_reducible refine ev_ru ?_) | (with_reducible refine ev_rau ?_) | (with_reducible refine ev_res ?_) | (with_reducible refine ev_res2 ?_) | (with_reducible refine ev_res2b ?_) | (with_reducible refine ev_res3 ?_) | (with_reducible refine ev_res3b ?_)); simp only [go_sem, ↓reduceIte, Nat.reduceEqDiff, Nat.reduceBEq, Nat.reduceAdd, Nat.reduceMul, Nat.reduceSub, Nat.reduceLT, Nat.reduceLeDiff]) | (simp (disch := omega) only [wr, drop_at, str_at, int_at, Int.reduceSub, Int.reduceAdd, Int.reduceToNat, Int.toNat_zero, per_at, wr]) | ((with_reducible refine ev_call ?_); (first | (refine call_fn e1 rfl ?_; refine k_run ?_) | fail)) | ((with_reducible refine ev_guard ?_); (first | (with_reducible refine guard_t ?_ ?_ rfl) | (with_reducible refine guard_f ?_ ?_ rfl)) <;> (intro h; (try simp only [h]); (try simp only [decide_eq_true_eq, decide_eq_false_iff_not, bne_iff_ne, beq_iff_eq, bne_eq_false_iff_eq, beq_eq_false_iff_ne, Bool.not_eq_true', Bool.not_eq_false', ne_eq] at h) <;> (try ((with_reducible exfalso); omega)))) | ((with_reducible refine ck_split (fun h => ?_) (fun h => ?_)) <;> (try simp only [decide_eq_true_eq, decide_eq_false_iff_not, bne_iff_ne, beq_iff_eq, bne_eq_false_iff_eq, beq_eq_false_iff_ne, Bool.not_eq_true', Bool.not_eq_false', ne_eq] at h) <;> (try ((with_reducible exfalso); omega))) | ((with_reducible refine And.intro ?_ ?_); (first | omega | focus (simp; done) | focus (simp; omega) | focus (refine ⟨?_, ?_, ?_⟩ <;> first | omega | rfl | (simp only [refsL_app, refs_dmap, AV.refsL, AV.refs, Bool.or_self] <;> fail) | (simp [refsL_app, refs_dmap, AV.refsL, AV.refs] <;> omega)) | focus ((repeat' (with_reducible refine And.intro ?_ ?_)) <;> first | omega | rfl | (simp only [refsL_app, refs_dmap, AV.refsL, AV.refs, Bool.or_self] <;> fail) | (simp <;> omega)))) | (with_reducible refine hJ _ (fun K hK => ?_) ?_ <;> clear hJ KJ) | ((with_reducible refine ev_less ?_); (refine ⟨rfl, ?_, ?_⟩ <;> simp only [go_sem, St.clean, cleanO, St.sws, St.sw, swS, swO, AV.sw, AV.swL, OB.sw, swp, St.upd, dropS, dropOs, Less, SubS, SubO, look, lookO, List.elem, List.cons_append, List.nil_append, cond_true, cond_false, and_true, true_and, beq_self_eq_true, ↓reduceIte, Nat.reduceEqDiff, Nat.reduceBEq, Nat.reduceAdd, Nat.reduceMul, Nat.reduceSub, Nat.reduceLT, Nat.reduceLeDiff])) | ((first | (with_reducible refine ev_kx ?_) | (with_reducible refine ev_inb ?_)); simp only [kx_n, in_n, St.clean, cleanO]) | (with_reducible apply hK; clear hK K) | (clear hK K; with_reducible apply hK; clear hK K) | (clear hK K; clear hK K; with_reducible apply hK; clear hK K) | (clear hK K; clear hK K; clear hK K; with_reducible apply hK; clear hK K) | fail)
    all_goals (first | refine res_tmp rfl (by simp [D.plain, plains]) (by simp) ?_ | refine res_at rfl (by simp [D.plain, plains]) (by simp) ?_ | refine res_two rfl (by simp [D.plain, plains]) (by simp) ?_ | refine res_three rfl (by simp [D.plain, plains]) (by simp) ?_ | skip)
    all_goals rfl

end Go.Proofs.Ythjafngffkhffaa
