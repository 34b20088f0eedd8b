/- Lists of numbers: copying, comparing, counting, marking. -/
import Derived.Test.YtaegdaimjhhgpaaRecs
import Derived.Test.YtaegdaimjhhgpaaFacts
import Derived.Test.YtaegdaimjhhgpaaFlowE
import Derived.WalkKit
import Derived.WalkSpells
import Derived.KernelRfl
namespace Go.Proofs.Ytaegdaimjhhgpaa
open Go.RowKit
set_option linter.unusedVariables false
set_option linter.unusedSimpArgs false
attribute [local go_sem] ruk ru_fin ru_pure ru_still ru_one rau_some rs_n rs_t rs_c rs_k jr_1 jr_2 jr_3 ps_r ps_n St.after killSs killOs newN dropO killN allU fillP rn_build listT rap_some rp_one rp_pure rp_fin rpk guard_ud ck_t ck_f rik Int.toNat_natCast drop_at kx_r kx_e in_n in_r in_e po_n po_r rn_nil rn_guard guard_tt guard_ff guard_tf guard_ft guard_un next_some rn_call rn_move rn_assign rn_pick rn_alloc rn_box rn_buildSlice rn_load rn_store rn_nilCheck rn_binOp rn_unOp rn_convert rn_makeFunc rn_makeSlice rn_slice rn_fieldAddr rn_field rn_indexAddr rn_index rn_extract rn_builtin stepOp actOp pureOp St.ev look AV.split AV.one St.new St.puto St.put put killS killO lookO putO delO AV.refs AV.refsL OB.refs St.adopt adoptL loadD loadA tAgg guardOf binD unD pick_t pick_f pick_b one_s one_i one_b one_l one_p rc_eq rc_some AV.pack allD storeOb fillA denseA buildA obCells srcCells OB.fill OB.join obOf zeroD kx_n ri_nil ri_cons ra_some inB eqInts Bool.false_eq_true Bool.or_false Bool.or_self List.drop_succ_cons List.drop_zero List.take_succ_cons List.take_zero List.take_nil List.drop_nil List.getD_cons_zero List.getD_cons_succ ne_eq not_false_eq_true Nat.zero_add Nat.add_zero Bool.not_true Bool.not_false cond_true cond_false true_and and_true List.map_cons List.map_nil List.length_cons List.length_nil List.getElem?_toArray List.getElem?_cons_zero List.getElem?_cons_succ Option.map_some Option.map_none Option.isSome_some List.nil_append List.cons_append List.append_nil Int.toNat_zero Nat.zero_mul Nat.mul_one cells_1 cells_2 cells_3 cells_4 cells_5 cells_6 cells_7 cells_8 cells_9 cells_10 cells_11 cells_12 cells_13 cells_14 cells_15 cells_16 cells_17 cells_18 cells_19 cells_21 cells_22 cells_23 cells_24 cells_26 cells_27 cells_28 cells_29 cells_30 cells_31 cells_32 cells_33 cells_34 cells_35 cells_37 cells_38 cells_39 cells_40 cells_41 cells_43 cells_44 cells_45 cells_46 cells_47 cells_48 cells_49 cells_50 cells_51 cells_52 cells_53 cells_54 cells_56 cells_57 cells_58 cells_59 cells_60 cells_61 cells_62 cells_63 cells_64 cells_65 cells_67 cells_68 cells_69 cells_71 cells_72 cells_73 cells_74 cells_75 cells_76 cells_77 cells_78 cells_79 cells_80 cells_81 cells_82 cells_83 cells_84 cells_85 cells_86 cells_87 cells_88 cells_89 cells_90 cells_91 cells_92 cells_93 cells_94 cells_96 cells_97 cells_98 cells_99 cells_100 cells_101 cells_103 cells_104 cells_105 cells_106 cells_107 cells_108 cells_109 cells_110 cells_111 cells_112 cells_113 cells_114 cells_115 cells_116 cells_117 cells_118 cells_119 cells_120 cells_121 cells_122 cells_123 cells_124 cells_125 cells_126 cells_127 cells_128 cells_129 cells_130 cells_131 cells_132 cells_133 cells_134 cells_135 cells_136 cells_137 cells_138 cells_139 cells_140 cells_141 cells_142 cells_143 cells_144 cells_145 cells_146 cells_147 cells_148 cells_149 cells_150 zeroOk_1 bytes_1 zeroOk_2 bytes_2 zeroV_2 zeroOk_3 bytes_3 zeroV_3 zeroOk_4 bytes_4 zeroV_4 zeroOk_5 bytes_5 zeroV_5 zeroOk_6 bytes_6 zeroV_6 zeroOk_7 bytes_7 zeroV_7 zeroOk_8 bytes_8 zeroV_8 zeroOk_9 bytes_9 zeroV_9 zeroOk_10 bytes_10 zeroV_10 zeroOk_11 bytes_11 zeroV_11 zeroOk_12 bytes_12 zeroV_12 zeroOk_13 bytes_13 zeroV_13 zeroOk_14 bytes_14 zeroV_14 zeroOk_15 bytes_15 zeroV_15 zeroOk_16 bytes_16 zeroV_16 zeroOk_17 bytes_17 zeroV_17 zeroOk_18 bytes_18 zeroV_18 zeroOk_19 bytes_19 zeroV_19 zeroOk_21 bytes_21 zeroV_21 zeroOk_22 bytes_22 zeroV_22 zeroOk_23 bytes_23 zeroV_23 zeroOk_24 bytes_24 zeroV_24 zeroOk_26 bytes_26 zeroOk_27 bytes_27 zeroV_27 zeroOk_28 bytes_28 zeroOk_29 bytes_29 zeroOk_30 bytes_30 zeroOk_31 bytes_31 zeroOk_32 bytes_32 zeroV_32 zeroOk_33 bytes_33 zeroV_33 zeroOk_34 bytes_34 zeroV_34 zeroOk_35 bytes_35 zeroOk_37 bytes_37 zeroOk_38 bytes_38 zeroV_38 zeroOk_39 bytes_39 zeroOk_40 bytes_40 zeroOk_41 bytes_41 zeroOk_43 bytes_43 zeroOk_44 bytes_44 zeroOk_45 bytes_45 zeroOk_46 bytes_46 zeroOk_47 bytes_47 zeroOk_48 bytes_48 zeroOk_49 bytes_49 zeroOk_50 bytes_50 zeroV_50 zeroOk_51 bytes_51 zeroV_51 zeroOk_52 bytes_52 zeroV_52 zeroOk_53 bytes_53 zeroV_53 zeroOk_54 bytes_54 zeroV_54 zeroOk_56 bytes_56 zeroOk_57 bytes_57 zeroV_57 zeroOk_58 bytes_58 zeroV_58 zeroOk_59 bytes_59 zeroV_59 zeroOk_60 bytes_60 zeroOk_61 bytes_61 zeroOk_62 bytes_62 zeroOk_63 bytes_63 zeroOk_64 bytes_64 zeroOk_65 bytes_65 zeroOk_67 bytes_67 zeroOk_68 bytes_68 zeroOk_69 bytes_69 zeroOk_71 bytes_71 zeroOk_72 bytes_72 zeroOk_73 bytes_73 zeroOk_74 bytes_74 zeroOk_75 bytes_75 zeroOk_76 bytes_76 zeroOk_77 bytes_77 zeroOk_78 bytes_78 zeroOk_79 bytes_79 zeroOk_80 bytes_80 zeroOk_81 bytes_81 zeroOk_82 bytes_82 zeroOk_83 bytes_83 zeroOk_84 bytes_84 zeroOk_85 bytes_85 zeroOk_86 bytes_86 zeroOk_87 bytes_87 zeroOk_88 bytes_88 zeroV_88 zeroOk_89 bytes_89 zeroOk_90 bytes_90 zeroV_90 zeroOk_91 bytes_91 zeroOk_92 bytes_92 zeroOk_93 bytes_93 zeroOk_94 bytes_94 zeroOk_96 bytes_96 zeroOk_97 bytes_97 zeroOk_98 bytes_98 zeroV_98 zeroOk_99 bytes_99 zeroV_99 zeroOk_100 bytes_100 zeroOk_101 bytes_101 zeroOk_103 bytes_103 zeroOk_104 bytes_104 zeroOk_105 bytes_105 zeroOk_106 bytes_106 zeroOk_107 bytes_107 zeroOk_108 bytes_108 zeroOk_109 bytes_109 zeroOk_110 bytes_110 zeroOk_111 bytes_111 zeroOk_112 bytes_112 zeroOk_113 bytes_113 zeroOk_114 bytes_114 zeroOk_115 bytes_115 zeroV_115 zeroOk_116 bytes_116 zeroOk_117 bytes_117 zeroOk_118 bytes_118 zeroOk_119 bytes_119 zeroOk_120 bytes_120 zeroOk_121 bytes_121 zeroV_121 zeroOk_122 bytes_122 zeroV_122 zeroOk_123 bytes_123 zeroOk_124 bytes_124 zeroOk_125 bytes_125 zeroOk_126 bytes_126 zeroOk_127 bytes_127 zeroOk_128 bytes_128 zeroOk_129 bytes_129 zeroOk_130 bytes_130 zeroV_130 zeroOk_131 bytes_131 zeroOk_132 bytes_132 zeroV_132 zeroOk_133 bytes_133 zeroOk_134 bytes_134 zeroOk_135 bytes_135 zeroV_135 zeroOk_136 bytes_136 zeroOk_137 bytes_137 zeroOk_138 bytes_138 zeroV_138 zeroOk_139 bytes_139 zeroV_139 zeroOk_140 bytes_140 zeroV_140 zeroOk_141 bytes_141 zeroV_141 zeroOk_142 bytes_142 zeroV_142 zeroOk_143 bytes_143 zeroV_143 zeroOk_144 bytes_144 zeroV_144 zeroOk_145 bytes_145 zeroOk_146 bytes_146 zeroV_146 zeroOk_147 bytes_147 zeroV_147 zeroOk_148 bytes_148 zeroV_148 zeroOk_149 bytes_149 zeroOk_150 bytes_150 seq_27 seq_57 seq_59 seq_99 Try.underlying1 Try.underlying2 Try.underlying3 Try.underlying4 Try.underlying5 Try.underlying6 Try.underlying7 Try.underlying8 Try.underlying9 Try.underlying10 Try.underlying11 Try.underlying12 Try.underlying13 Try.underlying14 Try.underlying15 Try.underlying16 Try.underlying17 Try.underlying18 Try.underlying19 Try.underlying21 Try.underlying22 Try.underlying23 Try.underlying24 Try.underlying26 Try.underlying27 Try.underlying28 Try.underlying29 Try.underlying30 Try.underlying31 Try.underlying32 Try.underlying33 Try.underlying34 Try.underlying35 Try.underlying37 Try.underlying38 Try.underlying39 Try.underlying40 Try.underlying41 Try.underlying43 Try.underlying44 Try.underlying45 Try.underlying46 Try.underlying47 Try.underlying48 Try.underlying49 Try.underlying50 Try.underlying51 Try.underlying52 Try.underlying53 Try.underlying54 Try.underlying56 Try.underlying57 Try.underlying58 Try.underlying59 Try.underlying60 Try.underlying61 Try.underlying62 Try.underlying63 Try.underlying64 Try.underlying65 Try.underlying67 Try.underlying68 Try.underlying69 Try.underlying71 Try.underlying72 Try.underlying73 Try.underlying74 Try.underlying75 Try.underlying76 Try.underlying77 Try.underlying78 Try.underlying79 Try.underlying80 Try.underlying81 Try.underlying82 Try.underlying83 Try.underlying84 Try.underlying85 Try.underlying86 Try.underlying87 Try.underlying88 Try.underlying89 Try.underlying90 Try.underlying91 Try.underlying92 Try.underlying93 Try.underlying94 Try.underlying96 Try.underlying97 Try.underlying98 Try.underlying99 Try.underlying100 Try.underlying101 Try.underlying103 Try.underlying104 Try.underlying105 Try.underlying106 Try.underlying107 Try.underlying108 Try.underlying109 Try.underlying110 Try.underlying111 Try.underlying112 Try.underlying113 Try.underlying114 Try.underlying115 Try.underlying116 Try.underlying117 Try.underlying118 Try.underlying119 Try.underlying120 Try.underlying121 Try.underlying122 Try.underlying123 Try.underlying124 Try.underlying125 Try.underlying126 Try.underlying127 Try.underlying128 Try.underlying129 Try.underlying130 Try.underlying131 Try.underlying132 Try.underlying133 Try.underlying134 Try.underlying135 Try.underlying136 Try.underlying137 Try.underlying138 Try.underlying139 Try.underlying140 Try.underlying141 Try.underlying142 Try.underlying143 Try.underlying144 Try.underlying145 Try.underlying146 Try.underlying147 Try.underlying148 Try.underlying149 Try.underlying150

def intC (l : List Int) : List D := l.map D.int

def intL (l : List Int) : D := .ls 1 l.length (l.map D.int)

attribute [local go_sem] intL

theorem map_set {α β : Type} (f : α → β) (l : List α) (i : Nat) (x : α) : (l.map f).set i (f x) = (l.set i x).map f := by
  rw [List.map_set]

theorem ints_plain : ∀ l : List Int, plains (l.map D.int)
  | [] => trivial
  | _ :: l => ⟨trivial, ints_plain l⟩

theorem ints_plain_take (n : Nat) (l : List Int) : plains ((l.map D.int).take n) := by
  rw [← List.map_take]
  exact ints_plain _

theorem ints_all (l : List Int) : (l.map D.int).take (l.length * 1) = l.map D.int := by
  rw [Nat.mul_one]
  exact List.take_of_length_le (by simp)

theorem ints_raw (l : List Int) : D.ls 1 l.length (((l.map D.int).drop 0).take (l.length * 1)) = intL l := by
  rw [List.drop_zero, ints_all]
  rfl

theorem ints_all1 (l : List Int) : (l.map D.int).take l.length = l.map D.int := List.take_of_length_le (by simp)

attribute [local simp] ints_plain ints_all ints_all1

/-- A list whose first i numbers are written, the others still zero. -/
def intM (l : List Int) (i : Nat) : List Int := l.take i ++ List.replicate (l.length - i) 0

theorem intM_len {l : List Int} {i : Nat} (h : i ≤ l.length) : (intM l i).length = l.length := by
  simp only [intM, List.length_append, List.length_take, List.length_replicate]
  omega

theorem intM_zero {l : List Int} : List.replicate l.length (D.int 0) = (intM l 0).map D.int := by
  simp only [intM, List.take_zero, List.nil_append, Nat.sub_zero, List.map_replicate]

theorem intM_end {l : List Int} {i : Nat} (h : l.length ≤ i) : intM l i = l := by
  simp only [intM]
  rw [List.take_of_length_le h, Nat.sub_eq_zero_of_le h]
  simp

theorem intM_step {l : List Int} {i : Nat} (h : i < l.length) : ((intM l i).map D.int).set i (D.int (l.getD i 0)) = (intM l (i + 1)).map D.int := by
  rw [map_set]
  congr 1
  simp only [intM]
  rw [List.set_append, if_neg (by simp; omega)]
  rw [take_next 0 h, List.append_assoc]
  congr 1
  have e : i - (l.take i).length = 0 := by simp; omega
  have e2 : l.length - i = (l.length - (i + 1)) + 1 := by omega
  rw [e, e2, List.replicate_succ]
  rfl

theorem intM_clen {l : List Int} {i : Nat} (h : i ≤ l.length) : ((intM l i).map D.int).length = l.length := by rw [List.length_map, intM_len h]

set_option maxRecDepth 100000 in
set_option maxHeartbeats 4000000 in
theorem toIntS_fn (l : List Int) (hl : l.length ≤ 1048576) : FnD Try.prog 66 [intL l] (intL l) := by
  refine fn_go Try.func66 rfl rfl Try.ntmps66 Try.results66 (by simp only [slotsOf, argAV, List.map_cons, List.map_nil, Nat.reduceAdd]; rfl) (by simp) ?_
  repeat' (first | (with_reducible first | refine aw_seq fun K hK => ?_ | refine aw_region (by kernel_rfl) ?_ | refine aw_condk ?_ | refine aw_block ?_) | ((with_reducible refine evg ?_); simp only [go_sem, ↓reduceIte, Nat.reduceEqDiff, Nat.reduceBEq, Nat.reduceAdd, Nat.reduceMul, Nat.reduceSub, Nat.reduceLT, Nat.reduceLeDiff]) | ((with_reducible refine ev_guard ?_); (with_reducible first | refine guard_t ?_ ?_ rfl | refine guard_f ?_ ?_ rfl) <;> (intro h; (try simp only [h]); (try simp only [nrm] at h))) | ((with_reducible refine ck_split (fun h => ?_) (fun h => ?_)) <;> (try simp only [nrm] at h)) | ((with_reducible refine And.intro ?_ ?_); (first | omega | focus (simp; done) | focus (simp; omega) | focus ((repeat' (with_reducible refine And.intro ?_ ?_)) <;> first | omega | rfl | (simp only [go_sem, refsL_app, refs_dmap] <;> fail) | (simp [refsL_app, refs_dmap, AV.refsL, AV.refs] <;> omega)))) | ((with_reducible first | apply hK | (clear hK K; first | apply hK | (clear hK K; first | apply hK | (clear hK K; apply hK)))); clear hK K) | (simp (disch := omega) only [wr, drop_at, str_at, int_at, Int.reduceSub, Int.reduceAdd, Int.reduceToNat, Int.toNat_zero]) | fail)
  refine aw_loopU [4, 8, 9, 10, 11, 12, 13, 14, 15, 16, 17, 18, 19, 20] [7, 10] (fun i : Nat => [(4, .d (.int i))]) (fun i => [(7, .ds ((intM l i).map D.int))]) (fun i => i ≤ l.length) (fun i => l.length - i) 0 (by omega) ?_ ?_
  · (refine lessW_of [] rfl ?_ <;> simp only [St.sws, St.sw, swS, swO, AV.sw, AV.swL, OB.sw, swp, St.upd, dropS, dropOs, Less, SubS, SubO, look, lookO, List.elem, List.cons_append, List.nil_append, cond_true, cond_false, and_true, true_and, beq_self_eq_true, ↓reduceIte, Nat.reduceEqDiff, Nat.reduceBEq, Nat.reduceAdd, Nat.reduceMul, Nat.reduceSub, Nat.reduceLT, Nat.reduceLeDiff] <;> try simp)
    exact intM_zero
  · rintro i g1
    simp only [St.upd, dropS, dropOs, List.elem, List.cons_append, List.nil_append, cond_true, cond_false, beq_self_eq_true, ↓reduceIte, Nat.reduceEqDiff, Nat.reduceBEq, Nat.reduceAdd, Nat.reduceMul, Nat.reduceSub, Nat.reduceLT, Nat.reduceLeDiff]
    repeat' (first | (with_reducible first | refine aw_seq fun K hK => ?_ | refine aw_region (by kernel_rfl) ?_ | refine aw_condk ?_ | refine aw_block ?_) | ((with_reducible refine evg ?_); simp only [go_sem, ↓reduceIte, Nat.reduceEqDiff, Nat.reduceBEq, Nat.reduceAdd, Nat.reduceMul, Nat.reduceSub, Nat.reduceLT, Nat.reduceLeDiff]) | (simp (disch := omega) only [wr, drop_at, str_at, int_at, Int.reduceSub, Int.reduceAdd, Int.reduceToNat, Int.toNat_zero, intM_clen]) | ((with_reducible refine ev_guard ?_); (with_reducible first | refine guard_t ?_ ?_ rfl | refine guard_f ?_ ?_ rfl) <;> (intro h; (try simp only [h]); (try simp only [nrm] at h) <;> (try ((with_reducible exfalso); omega)))) | ((with_reducible refine ck_split (fun h => ?_) (fun h => ?_)) <;> (try simp only [nrm] at h) <;> (try ((with_reducible exfalso); omega))) | ((with_reducible refine And.intro ?_ ?_); (first | omega | focus (simp; done) | focus (simp; omega) | focus ((repeat' (with_reducible refine And.intro ?_ ?_)) <;> first | omega | rfl | (simp only [go_sem, refsL_app, refs_dmap] <;> fail) | (simp [refsL_app, refs_dmap, AV.refsL, AV.refs] <;> omega)))) | ((with_reducible first | apply hK | (clear hK K; first | apply hK | (clear hK K; first | apply hK | (clear hK K; apply hK)))); clear hK K) | fail)
    · rw [intM_step (by omega)]
      refine ⟨i + 1, ?_, ?_, by (refine lessW_of [] rfl ?_ <;> simp only [St.sws, St.sw, swS, swO, AV.sw, AV.swL, OB.sw, swp, St.upd, dropS, dropOs, Less, SubS, SubO, look, lookO, List.elem, List.cons_append, List.nil_append, cond_true, cond_false, and_true, true_and, beq_self_eq_true, ↓reduceIte, Nat.reduceEqDiff, Nat.reduceBEq, Nat.reduceAdd, Nat.reduceMul, Nat.reduceSub, Nat.reduceLT, Nat.reduceLeDiff] <;> try simp)⟩
      · omega
      · omega
    · rw [intM_end (by omega)]
      (first | refine res_tmp rfl (by simp [D.plain, plains]) (by simp) ?_ | refine res_at rfl (by simp [D.plain, plains]) (by simp) ?_ | refine res_two rfl (by simp [D.plain, plains]) (by simp) ?_ | refine res_three rfl (by simp [D.plain, plains]) (by simp) ?_)
      exact ints_raw l

set_option maxRecDepth 100000 in
set_option maxHeartbeats 4000000 in
theorem szIntS_fn (l : List Int) (n : Int) (hl : l.length ≤ 9223372036854775807) (h0 : 0 ≤ n) (h1 : n ≤ 9223372036854775807) : FnD Try.prog 63 [intL l, .int n] (.int (if n - l.length < 0 then -1 else n - l.length)) := by
  refine fn_go Try.func63 rfl rfl Try.ntmps63 Try.results63 (by simp only [slotsOf, argAV, List.map_cons, List.map_nil, Nat.reduceAdd]; rfl) (by simp) ?_
  repeat' (first | (with_reducible first | refine aw_seq fun K hK => ?_ | refine aw_region (by kernel_rfl) ?_ | refine aw_condk ?_ | refine aw_block ?_) | ((with_reducible refine evg ?_); simp only [go_sem, ↓reduceIte, Nat.reduceEqDiff, Nat.reduceBEq, Nat.reduceAdd, Nat.reduceMul, Nat.reduceSub, Nat.reduceLT, Nat.reduceLeDiff]) | ((with_reducible refine ev_guard ?_); (with_reducible first | refine guard_t ?_ ?_ rfl | refine guard_f ?_ ?_ rfl) <;> (intro h; (try simp only [h]); (try simp only [nrm] at h))) | ((with_reducible refine ck_split (fun h => ?_) (fun h => ?_)) <;> (try simp only [nrm] at h)) | ((with_reducible refine And.intro ?_ ?_); (first | omega | focus (simp; done) | focus (simp; omega) | focus ((repeat' (with_reducible refine And.intro ?_ ?_)) <;> first | omega | rfl | (simp only [go_sem, refsL_app, refs_dmap] <;> fail) | (simp [refsL_app, refs_dmap, AV.refsL, AV.refs] <;> omega)))) | ((with_reducible first | apply hK | (clear hK K; first | apply hK | (clear hK K; first | apply hK | (clear hK K; apply hK)))); clear hK K) | (simp (disch := omega) only [wr, drop_at, str_at, int_at, Int.reduceSub, Int.reduceAdd, Int.reduceToNat, Int.toNat_zero]) | fail)
  all_goals rw [wr (by omega) (by omega)] at h
  all_goals (first | refine res_tmp rfl (by simp [D.plain, plains]) (by simp) ?_ | refine res_at rfl (by simp [D.plain, plains]) (by simp) ?_ | refine res_two rfl (by simp [D.plain, plains]) (by simp) ?_ | refine res_three rfl (by simp [D.plain, plains]) (by simp) ?_ | skip)
  all_goals simp [h]

set_option maxRecDepth 100000 in
theorem pl_Ints_46_6 (l : List Oper) (h : l = opsOf Try.f46 6) : planB l (.pure 0 (.pure 1 (.pure 2 (.pure 3 (.pure 4 (.pure 5 (.pure 6 (.pure 7 (.pure 8 PT.fin))))))))) [] = true := by
  subst h
  kernel_rfl

set_option maxRecDepth 100000 in
set_option maxHeartbeats 4000000 in
theorem eqIntS_fn (a b : List Int) (ha : a.length ≤ 140737488355328) : FnD Try.prog 46 [intL a, intL b] (.bool (decide (a = b))) := by
  refine fn_go Try.func46 rfl rfl Try.ntmps46 Try.results46 (by simp only [slotsOf, argAV, List.map_cons, List.map_nil, Nat.reduceAdd]; rfl) (by simp) ?_
  repeat' (first | (with_reducible first | refine aw_seq fun K hK => ?_ | refine aw_region (by kernel_rfl) ?_ | refine aw_condk ?_ | refine aw_block ?_) | ((with_reducible refine ev_aw ?_); first | (refine aw_draw (id := 6) (by kernel_rfl) _ _ (by kernel_rfl) (pl_Ints_46_6 _ (by kernel_rfl)) ?_)) | (with_reducible first | refine ru_four ?_ ?_ ?_ ?_ | refine ru_three ?_ ?_ ?_ | refine ru_two ?_ ?_ | refine rp_two ?_ ?_) | ((with_reducible refine evg ?_); simp only [go_sem, St.clean, cleanO, ↓reduceIte, Nat.reduceEqDiff, Nat.reduceBEq, Nat.reduceAdd, Nat.reduceMul, Nat.reduceSub, Nat.reduceLT, Nat.reduceLeDiff]) | ((with_reducible refine ev_guard ?_); (with_reducible first | refine guard_t ?_ ?_ rfl | refine guard_f ?_ ?_ rfl) <;> (intro h; (try simp only [h]); (try simp only [nrm] at h))) | ((with_reducible refine ck_split (fun h => ?_) (fun h => ?_)) <;> (try simp only [nrm] at h)) | ((with_reducible refine And.intro ?_ ?_); (first | omega | focus (simp; done) | focus (simp; omega) | focus ((repeat' (with_reducible refine And.intro ?_ ?_)) <;> first | omega | rfl | (simp only [go_sem, refsL_app, refs_dmap] <;> fail) | (simp [refsL_app, refs_dmap, AV.refsL, AV.refs] <;> omega)))) | (with_reducible refine hJ _ (fun K hK => ?_) ?_ <;> clear hJ KJ) | ((with_reducible refine ev_less ?_); (refine ⟨rfl, ?_, ?_⟩ <;> simp only [go_sem, St.clean, cleanO, SubS, SubO, beq_self_eq_true, ↓reduceIte, Nat.reduceEqDiff, Nat.reduceBEq, Nat.reduceAdd, Nat.reduceMul, Nat.reduceSub, Nat.reduceLT, Nat.reduceLeDiff])) | ((with_reducible first | apply hK | (clear hK K; first | apply hK | (clear hK K; first | apply hK | (clear hK K; apply hK)))); clear hK K) | (simp (disch := omega) only [wr, drop_at, str_at, int_at, Int.reduceSub, Int.reduceAdd, Int.reduceToNat, Int.toNat_zero]) | fail)
  · (first | refine res_tmp rfl (by simp [D.plain, plains]) (by simp) ?_ | refine res_at rfl (by simp [D.plain, plains]) (by simp) ?_ | refine res_two rfl (by simp [D.plain, plains]) (by simp) ?_ | refine res_three rfl (by simp [D.plain, plains]) (by simp) ?_)
    have : a ≠ b := fun e => h (by rw [e])
    simp [this]
  · refine aw_loopU [4, 5, 11, 12, 13, 14, 15, 16, 17, 18, 19, 20, 21, 22, 23, 24, 25] [13] (fun i : Nat => [(5, .d (.int i))]) (fun _ => []) (fun i => i ≤ a.length ∧ EqTo 0 a b i) (fun i => a.length - i) 0 ⟨by omega, eqTo_zero⟩ ?_ ?_
    · (refine lessW_of [] rfl ?_ <;> simp only [St.sws, St.sw, swS, swO, AV.sw, AV.swL, OB.sw, swp, St.upd, dropS, dropOs, Less, SubS, SubO, look, lookO, List.elem, List.cons_append, List.nil_append, cond_true, cond_false, and_true, true_and, beq_self_eq_true, ↓reduceIte, Nat.reduceEqDiff, Nat.reduceBEq, Nat.reduceAdd, Nat.reduceMul, Nat.reduceSub, Nat.reduceLT, Nat.reduceLeDiff] <;> try simp)
    · rintro i ⟨h1, h2⟩
      simp only [St.upd, dropS, dropOs, List.elem, List.cons_append, List.nil_append, cond_true, cond_false, beq_self_eq_true, ↓reduceIte, Nat.reduceEqDiff, Nat.reduceBEq, Nat.reduceAdd, Nat.reduceMul, Nat.reduceSub, Nat.reduceLT, Nat.reduceLeDiff]
      repeat' (first | (with_reducible first | refine aw_seq fun K hK => ?_ | refine aw_region (by kernel_rfl) ?_ | refine aw_condk ?_ | refine aw_block ?_) | ((with_reducible refine ev_aw ?_); first | (refine aw_draw (id := 6) (by kernel_rfl) _ _ (by kernel_rfl) (pl_Ints_46_6 _ (by kernel_rfl)) ?_)) | (with_reducible first | refine ru_four ?_ ?_ ?_ ?_ | refine ru_three ?_ ?_ ?_ | refine ru_two ?_ ?_ | refine rp_two ?_ ?_) | ((with_reducible refine evg ?_); simp only [go_sem, St.clean, cleanO, ↓reduceIte, Nat.reduceEqDiff, Nat.reduceBEq, Nat.reduceAdd, Nat.reduceMul, Nat.reduceSub, Nat.reduceLT, Nat.reduceLeDiff]) | ((with_reducible refine ev_guard ?_); (with_reducible first | refine guard_t ?_ ?_ rfl | refine guard_f ?_ ?_ rfl) <;> (intro h; (try simp only [h]); (try simp only [nrm] at h))) | ((with_reducible refine ck_split (fun h => ?_) (fun h => ?_)) <;> (try simp only [nrm] at h)) | ((with_reducible refine And.intro ?_ ?_); (first | omega | focus (simp; done) | focus (simp; omega) | focus ((repeat' (with_reducible refine And.intro ?_ ?_)) <;> first | omega | rfl | (simp only [go_sem, refsL_app, refs_dmap] <;> fail) | (simp [refsL_app, refs_dmap, AV.refsL, AV.refs] <;> omega)))) | (with_reducible refine hJ _ (fun K hK => ?_) ?_ <;> clear hJ KJ) | ((with_reducible refine ev_less ?_); (refine ⟨rfl, ?_, ?_⟩ <;> simp only [go_sem, St.clean, cleanO, SubS, SubO, beq_self_eq_true, ↓reduceIte, Nat.reduceEqDiff, Nat.reduceBEq, Nat.reduceAdd, Nat.reduceMul, Nat.reduceSub, Nat.reduceLT, Nat.reduceLeDiff])) | ((with_reducible first | apply hK | (clear hK K; first | apply hK | (clear hK K; first | apply hK | (clear hK K; apply hK)))); clear hK K) | (simp (disch := omega) only [wr, drop_at, str_at, int_at, Int.reduceSub, Int.reduceAdd, Int.reduceToNat, Int.toNat_zero]) | fail)
      · (first | refine res_tmp rfl (by simp [D.plain, plains]) (by simp) ?_ | refine res_at rfl (by simp [D.plain, plains]) (by simp) ?_ | refine res_two rfl (by simp [D.plain, plains]) (by simp) ?_ | refine res_three rfl (by simp [D.plain, plains]) (by simp) ?_)
        have : a ≠ b := fun e => h (by rw [e])
        simp [this]
      · refine ⟨i + 1, ?_, ?_, by (refine lessW_of [] rfl ?_ <;> simp only [St.sws, St.sw, swS, swO, AV.sw, AV.swL, OB.sw, swp, St.upd, dropS, dropOs, Less, SubS, SubO, look, lookO, List.elem, List.cons_append, List.nil_append, cond_true, cond_false, and_true, true_and, beq_self_eq_true, ↓reduceIte, Nat.reduceEqDiff, Nat.reduceBEq, Nat.reduceAdd, Nat.reduceMul, Nat.reduceSub, Nat.reduceLT, Nat.reduceLeDiff] <;> try simp)⟩
        · exact ⟨by omega, eqTo_next h2 h⟩
        · omega
      · (first | refine res_tmp rfl (by simp [D.plain, plains]) (by simp) ?_ | refine res_at rfl (by simp [D.plain, plains]) (by simp) ?_ | refine res_two rfl (by simp [D.plain, plains]) (by simp) ?_ | refine res_three rfl (by simp [D.plain, plains]) (by simp) ?_)
        have : a = b := eqTo_all h2 (by omega) (by omega)
        simp [this]

/-- Numbers from k on. -/
def nums (k : Int) (n : Nat) : List Int := tab (fun i => k + i) n

@[simp] theorem nums_len (k : Int) (n : Nat) : (nums k n).length = n := tab_len _ _

theorem nums_at {k : Int} {n i : Nat} (h : i < n) : (nums k n).getD i 0 = k + i := tab_at 0 h

theorem intD_step {k : Int} {l : List Int} {i : Nat} (h : i < l.length) : ((recD (fun i : Nat => k + (i : Int)) l i).map D.int).set i (D.int (k + i)) = (recD (fun i : Nat => k + (i : Int)) l (i + 1)).map D.int := by
  rw [map_set]
  congr 1
  simp only [recD]
  rw [List.set_append, if_neg (by simp), tab_next, drop_next 0 h]
  simp

theorem intD_clen {k : Int} {l : List Int} {i : Nat} (h : i ≤ l.length) : ((recD (fun i : Nat => k + (i : Int)) l i).map D.int).length = l.length := by rw [List.length_map, recD_len h]

set_option maxRecDepth 100000 in
set_option maxHeartbeats 4000000 in
theorem markIntS_hi (l : List Int) (k : Int) (hl : l.length ≤ 1048576) (h0 : 0 ≤ k) (h1 : k ≤ 1000000000000) : FnS Try.prog 47 [(5000, .ds (l.map D.int))] [.bs 5000 0 l.length 1, .d (.int k)] [(5000, .ds ((nums k l.length).map D.int))] (.d (.int (k + l.length))) := by
  refine fns_go Try.func47 rfl rfl Try.ntmps47 Try.results47 (by simp only [slotsA, Nat.reduceAdd]; rfl) (by simp) rfl ?_
  repeat' (first | (with_reducible first | refine aw_seq fun K hK => ?_ | refine aw_region (by kernel_rfl) ?_ | refine aw_condk ?_ | refine aw_block ?_) | ((with_reducible refine evg ?_); simp only [go_sem, ↓reduceIte, Nat.reduceEqDiff, Nat.reduceBEq, Nat.reduceAdd, Nat.reduceMul, Nat.reduceSub, Nat.reduceLT, Nat.reduceLeDiff]) | ((with_reducible refine ev_guard ?_); (with_reducible first | refine guard_t ?_ ?_ rfl | refine guard_f ?_ ?_ rfl) <;> (intro h; (try simp only [h]); (try simp only [nrm] at h))) | ((with_reducible refine ck_split (fun h => ?_) (fun h => ?_)) <;> (try simp only [nrm] at h)) | ((with_reducible refine And.intro ?_ ?_); (first | omega | focus (simp; done) | focus (simp; omega) | focus ((repeat' (with_reducible refine And.intro ?_ ?_)) <;> first | omega | rfl | (simp only [go_sem, refsL_app, refs_dmap] <;> fail) | (simp [refsL_app, refs_dmap, AV.refsL, AV.refs] <;> omega)))) | ((with_reducible first | apply hK | (clear hK K; first | apply hK | (clear hK K; first | apply hK | (clear hK K; apply hK)))); clear hK K) | (simp (disch := omega) only [wr, drop_at, str_at, int_at, Int.reduceSub, Int.reduceAdd, Int.reduceToNat, Int.toNat_zero]) | fail)
  refine aw_loopU [1, 5, 6, 7, 8, 9, 10, 11, 12, 13, 14, 15, 16, 17] [8, 5000] (fun i : Nat => [(5, .d (.int i)), (1, .d (.int (k + i)))]) (fun i => [(5000, .ds ((recD (fun i : Nat => k + (i : Int)) l i).map D.int))]) (fun i => i ≤ l.length) (fun i => l.length - i) 0 (by omega) ?_ ?_
  · (refine lessW_of [] rfl ?_ <;> simp only [St.sws, St.sw, swS, swO, AV.sw, AV.swL, OB.sw, swp, St.upd, dropS, dropOs, Less, SubS, SubO, look, lookO, List.elem, List.cons_append, List.nil_append, cond_true, cond_false, and_true, true_and, beq_self_eq_true, ↓reduceIte, Nat.reduceEqDiff, Nat.reduceBEq, Nat.reduceAdd, Nat.reduceMul, Nat.reduceSub, Nat.reduceLT, Nat.reduceLeDiff] <;> try simp)
    rw [recD_zero]
  · rintro i g1
    simp only [St.upd, dropS, dropOs, List.elem, List.cons_append, List.nil_append, cond_true, cond_false, beq_self_eq_true, ↓reduceIte, Nat.reduceEqDiff, Nat.reduceBEq, Nat.reduceAdd, Nat.reduceMul, Nat.reduceSub, Nat.reduceLT, Nat.reduceLeDiff]
    repeat' (first | (with_reducible first | refine aw_seq fun K hK => ?_ | refine aw_region (by kernel_rfl) ?_ | refine aw_condk ?_ | refine aw_block ?_) | ((with_reducible refine evg ?_); simp only [go_sem, ↓reduceIte, Nat.reduceEqDiff, Nat.reduceBEq, Nat.reduceAdd, Nat.reduceMul, Nat.reduceSub, Nat.reduceLT, Nat.reduceLeDiff]) | (simp (disch := omega) only [wr, drop_at, str_at, int_at, Int.reduceSub, Int.reduceAdd, Int.reduceToNat, Int.toNat_zero, intD_clen]) | ((with_reducible refine ev_guard ?_); (with_reducible first | refine guard_t ?_ ?_ rfl | refine guard_f ?_ ?_ rfl) <;> (intro h; (try simp only [h]); (try simp only [nrm] at h) <;> (try ((with_reducible exfalso); omega)))) | ((with_reducible refine ck_split (fun h => ?_) (fun h => ?_)) <;> (try simp only [nrm] at h) <;> (try ((with_reducible exfalso); omega))) | ((with_reducible refine And.intro ?_ ?_); (first | omega | focus (simp; done) | focus (simp; omega) | focus ((repeat' (with_reducible refine And.intro ?_ ?_)) <;> first | omega | rfl | (simp only [go_sem, refsL_app, refs_dmap] <;> fail) | (simp [refsL_app, refs_dmap, AV.refsL, AV.refs] <;> omega)))) | ((with_reducible first | apply hK | (clear hK K; first | apply hK | (clear hK K; first | apply hK | (clear hK K; apply hK)))); clear hK K) | fail)
    · rw [intD_step (by omega)]
      refine ⟨i + 1, ?_, ?_, by (refine lessW_of [] rfl ?_ <;> simp only [St.sws, St.sw, swS, swO, AV.sw, AV.swL, OB.sw, swp, St.upd, dropS, dropOs, Less, SubS, SubO, look, lookO, List.elem, List.cons_append, List.nil_append, cond_true, cond_false, and_true, true_and, beq_self_eq_true, ↓reduceIte, Nat.reduceEqDiff, Nat.reduceBEq, Nat.reduceAdd, Nat.reduceMul, Nat.reduceSub, Nat.reduceLT, Nat.reduceLeDiff] <;> try simp); omega⟩
      · omega
      · omega
    · rw [recD_end (by omega)]
      have e : i = l.length := by omega
      subst e
      exact ress_tmp (by simp [lensO, lookO, obCells]) ⟨rfl, trivial⟩ rfl

theorem sw_self (a b : Nat) : swp a b a = b := by simp [swp]

theorem markIntS_s (s : Nat) (l : List Int) (k : Int) (hl : l.length ≤ 1048576) (h0 : 0 ≤ k) (h1 : k ≤ 1000000000000) : FnS Try.prog 47 [(s, .ds (l.map D.int))] [.bs s 0 l.length 1, .d (.int k)] [(s, .ds ((nums k l.length).map D.int))] (.d (.int (k + l.length))) := by
  have h := (markIntS_hi l k hl h0 h1).sw 5000 s
  simpa only [swO, AV.swL, AV.sw, OB.sw, sw_self] using h

set_option maxRecDepth 100000 in
set_option maxHeartbeats 4000000 in
theorem heldIntS_fn (k : Int) (n : Nat) (hl : n ≤ 1048576) (h0 : 0 ≤ k) (h1 : k ≤ 1000000000000) : FnD Try.prog 48 [.ls 1 n ((nums k n).map D.int), .int k] (.int (k + n)) := by
  have hlen : (nums k n).length = n := nums_len k n
  have hlen2 : ((nums k n).map D.int).length = n := by simp
  refine fn_go Try.func48 rfl rfl Try.ntmps48 Try.results48 (by simp only [slotsOf, argAV, List.map_cons, List.map_nil, Nat.reduceAdd]; rfl) (by simp) ?_
  repeat' (first | (with_reducible first | refine aw_seq fun K hK => ?_ | refine aw_region (by kernel_rfl) ?_ | refine aw_condk ?_ | refine aw_block ?_) | ((with_reducible refine evg ?_); simp only [go_sem, ↓reduceIte, Nat.reduceEqDiff, Nat.reduceBEq, Nat.reduceAdd, Nat.reduceMul, Nat.reduceSub, Nat.reduceLT, Nat.reduceLeDiff]) | ((with_reducible refine ev_guard ?_); (with_reducible first | refine guard_t ?_ ?_ rfl | refine guard_f ?_ ?_ rfl) <;> (intro h; (try simp only [h]); (try simp only [nrm] at h))) | ((with_reducible refine ck_split (fun h => ?_) (fun h => ?_)) <;> (try simp only [nrm] at h)) | ((with_reducible refine And.intro ?_ ?_); (first | omega | focus (simp; done) | focus (simp; omega) | focus ((repeat' (with_reducible refine And.intro ?_ ?_)) <;> first | omega | rfl | (simp only [go_sem, refsL_app, refs_dmap] <;> fail) | (simp [refsL_app, refs_dmap, AV.refsL, AV.refs] <;> omega)))) | ((with_reducible first | apply hK | (clear hK K; first | apply hK | (clear hK K; first | apply hK | (clear hK K; apply hK)))); clear hK K) | (simp (disch := omega) only [wr, drop_at, str_at, int_at, Int.reduceSub, Int.reduceAdd, Int.reduceToNat, Int.toNat_zero]) | fail)
  refine aw_loopU [1, 4, 5, 6, 7, 8, 9, 10, 11, 12, 13, 14, 15, 16, 17, 18, 19] [8] (fun i : Nat => [(5, .d (.int i)), (1, .d (.int (k + i)))]) (fun _ => []) (fun i => i ≤ n) (fun i => n - i) 0 (by omega) ?_ ?_
  · (refine lessW_of [] rfl ?_ <;> simp only [St.sws, St.sw, swS, swO, AV.sw, AV.swL, OB.sw, swp, St.upd, dropS, dropOs, Less, SubS, SubO, look, lookO, List.elem, List.cons_append, List.nil_append, cond_true, cond_false, and_true, true_and, beq_self_eq_true, ↓reduceIte, Nat.reduceEqDiff, Nat.reduceBEq, Nat.reduceAdd, Nat.reduceMul, Nat.reduceSub, Nat.reduceLT, Nat.reduceLeDiff] <;> try simp)
  · rintro i g1
    simp only [St.upd, dropS, dropOs, List.elem, List.cons_append, List.nil_append, cond_true, cond_false, beq_self_eq_true, ↓reduceIte, Nat.reduceEqDiff, Nat.reduceBEq, Nat.reduceAdd, Nat.reduceMul, Nat.reduceSub, Nat.reduceLT, Nat.reduceLeDiff]
    repeat' (first | (with_reducible first | refine aw_seq fun K hK => ?_ | refine aw_region (by kernel_rfl) ?_ | refine aw_condk ?_ | refine aw_block ?_) | ((with_reducible refine evg ?_); simp only [go_sem, ↓reduceIte, Nat.reduceEqDiff, Nat.reduceBEq, Nat.reduceAdd, Nat.reduceMul, Nat.reduceSub, Nat.reduceLT, Nat.reduceLeDiff]) | (simp (disch := omega) only [wr, drop_at, str_at, int_at, Int.reduceSub, Int.reduceAdd, Int.reduceToNat, Int.toNat_zero, nums_at]) | ((with_reducible refine ev_guard ?_); (with_reducible first | refine guard_t ?_ ?_ rfl | refine guard_f ?_ ?_ rfl) <;> (intro h; (try simp only [h]); (try simp only [nrm] at h) <;> (try ((with_reducible exfalso); omega)))) | ((with_reducible refine ck_split (fun h => ?_) (fun h => ?_)) <;> (try simp only [nrm] at h) <;> (try ((with_reducible exfalso); omega))) | ((with_reducible refine And.intro ?_ ?_); (first | omega | focus (simp; done) | focus (simp; omega) | focus ((repeat' (with_reducible refine And.intro ?_ ?_)) <;> first | omega | rfl | (simp only [go_sem, refsL_app, refs_dmap] <;> fail) | (simp [refsL_app, refs_dmap, AV.refsL, AV.refs] <;> omega)))) | ((with_reducible first | apply hK | (clear hK K; first | apply hK | (clear hK K; first | apply hK | (clear hK K; apply hK)))); clear hK K) | fail)
    · exact absurd trivial h
    · refine ⟨i + 1, ?_, ?_, by (refine lessW_of [] rfl ?_ <;> simp only [St.sws, St.sw, swS, swO, AV.sw, AV.swL, OB.sw, swp, St.upd, dropS, dropOs, Less, SubS, SubO, look, lookO, List.elem, List.cons_append, List.nil_append, cond_true, cond_false, and_true, true_and, beq_self_eq_true, ↓reduceIte, Nat.reduceEqDiff, Nat.reduceBEq, Nat.reduceAdd, Nat.reduceMul, Nat.reduceSub, Nat.reduceLT, Nat.reduceLeDiff] <;> try simp); omega⟩
      · omega
      · omega
    · (first | refine res_tmp rfl (by simp [D.plain, plains]) (by simp) ?_ | refine res_at rfl (by simp [D.plain, plains]) (by simp) ?_ | refine res_two rfl (by simp [D.plain, plains]) (by simp) ?_ | refine res_three rfl (by simp [D.plain, plains]) (by simp) ?_)
      have e : i = n := by omega
      rw [e]

end Go.Proofs.Ytaegdaimjhhgpaa
