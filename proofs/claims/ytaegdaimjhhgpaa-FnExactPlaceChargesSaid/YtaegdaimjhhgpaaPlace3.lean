/- PlaceCharges: contracts. -/
import Derived.Test.YtaegdaimjhhgpaaPlace2
import Derived.WalkKit
import Derived.WalkSpells
import Derived.KernelRfl
namespace Go.Proofs.Ytaegdaimjhhgpaa
open Go.RowKit
set_option linter.unusedVariables false
set_option linter.unusedSimpArgs false
attribute [local go_sem] ruk ru_fin ru_pure ru_still ru_one rau_some rs_n rs_t rs_c rs_k jr_1 jr_2 jr_3 ps_r ps_n St.after killSs killOs newN dropO killN allU fillP rn_build listT rap_some rp_one rp_pure rp_fin rpk guard_ud ck_t ck_f rik Int.toNat_natCast drop_at kx_r kx_e in_n in_r in_e po_n po_r rn_nil rn_guard guard_tt guard_ff guard_tf guard_ft guard_un next_some rn_call rn_move rn_assign rn_pick rn_alloc rn_box rn_buildSlice rn_load rn_store rn_nilCheck rn_binOp rn_unOp rn_convert rn_makeFunc rn_makeSlice rn_slice rn_fieldAddr rn_field rn_indexAddr rn_index rn_extract rn_builtin stepOp actOp pureOp St.ev look AV.split AV.one St.new St.puto St.put put killS killO lookO putO delO AV.refs AV.refsL OB.refs St.adopt adoptL loadD loadA tAgg guardOf binD unD pick_t pick_f pick_b one_s one_i one_b one_l one_p rc_eq rc_some AV.pack allD storeOb fillA denseA buildA obCells srcCells OB.fill OB.join obOf zeroD kx_n ri_nil ri_cons ra_some inB eqInts Bool.false_eq_true Bool.or_false Bool.or_self List.drop_succ_cons List.drop_zero List.take_succ_cons List.take_zero List.take_nil List.drop_nil List.getD_cons_zero List.getD_cons_succ ne_eq not_false_eq_true Nat.zero_add Nat.add_zero Bool.not_true Bool.not_false cond_true cond_false true_and and_true List.map_cons List.map_nil List.length_cons List.length_nil List.getElem?_toArray List.getElem?_cons_zero List.getElem?_cons_succ Option.map_some Option.map_none Option.isSome_some List.nil_append List.cons_append List.append_nil Int.toNat_zero Nat.zero_mul Nat.mul_one cells_1 cells_2 cells_3 cells_4 cells_5 cells_6 cells_7 cells_8 cells_9 cells_10 cells_11 cells_12 cells_13 cells_14 cells_15 cells_16 cells_17 cells_18 cells_19 cells_21 cells_22 cells_23 cells_24 cells_26 cells_27 cells_28 cells_29 cells_30 cells_31 cells_32 cells_33 cells_34 cells_35 cells_37 cells_38 cells_39 cells_40 cells_41 cells_43 cells_44 cells_45 cells_46 cells_47 cells_48 cells_49 cells_50 cells_51 cells_52 cells_53 cells_54 cells_56 cells_57 cells_58 cells_59 cells_60 cells_61 cells_62 cells_63 cells_64 cells_65 cells_67 cells_68 cells_69 cells_71 cells_72 cells_73 cells_74 cells_75 cells_76 cells_77 cells_78 cells_79 cells_80 cells_81 cells_82 cells_83 cells_84 cells_85 cells_86 cells_87 cells_88 cells_89 cells_90 cells_91 cells_92 cells_93 cells_94 cells_96 cells_97 cells_98 cells_99 cells_100 cells_101 cells_103 cells_104 cells_105 cells_106 cells_107 cells_108 cells_109 cells_110 cells_111 cells_112 cells_113 cells_114 cells_115 cells_116 cells_117 cells_118 cells_119 cells_120 cells_121 cells_122 cells_123 cells_124 cells_125 cells_126 cells_127 cells_128 cells_129 cells_130 cells_131 cells_132 cells_133 cells_134 cells_135 cells_136 cells_137 cells_138 cells_139 cells_140 cells_141 cells_142 cells_143 cells_144 cells_145 cells_146 cells_147 cells_148 cells_149 cells_150 zeroOk_1 bytes_1 zeroOk_2 bytes_2 zeroV_2 zeroOk_3 bytes_3 zeroV_3 zeroOk_4 bytes_4 zeroV_4 zeroOk_5 bytes_5 zeroV_5 zeroOk_6 bytes_6 zeroV_6 zeroOk_7 bytes_7 zeroV_7 zeroOk_8 bytes_8 zeroV_8 zeroOk_9 bytes_9 zeroV_9 zeroOk_10 bytes_10 zeroV_10 zeroOk_11 bytes_11 zeroV_11 zeroOk_12 bytes_12 zeroV_12 zeroOk_13 bytes_13 zeroV_13 zeroOk_14 bytes_14 zeroV_14 zeroOk_15 bytes_15 zeroV_15 zeroOk_16 bytes_16 zeroV_16 zeroOk_17 bytes_17 zeroV_17 zeroOk_18 bytes_18 zeroV_18 zeroOk_19 bytes_19 zeroV_19 zeroOk_21 bytes_21 zeroV_21 zeroOk_22 bytes_22 zeroV_22 zeroOk_23 bytes_23 zeroV_23 zeroOk_24 bytes_24 zeroV_24 zeroOk_26 bytes_26 zeroOk_27 bytes_27 zeroV_27 zeroOk_28 bytes_28 zeroOk_29 bytes_29 zeroOk_30 bytes_30 zeroOk_31 bytes_31 zeroOk_32 bytes_32 zeroV_32 zeroOk_33 bytes_33 zeroV_33 zeroOk_34 bytes_34 zeroV_34 zeroOk_35 bytes_35 zeroOk_37 bytes_37 zeroOk_38 bytes_38 zeroV_38 zeroOk_39 bytes_39 zeroOk_40 bytes_40 zeroOk_41 bytes_41 zeroOk_43 bytes_43 zeroOk_44 bytes_44 zeroOk_45 bytes_45 zeroOk_46 bytes_46 zeroOk_47 bytes_47 zeroOk_48 bytes_48 zeroOk_49 bytes_49 zeroOk_50 bytes_50 zeroV_50 zeroOk_51 bytes_51 zeroV_51 zeroOk_52 bytes_52 zeroV_52 zeroOk_53 bytes_53 zeroV_53 zeroOk_54 bytes_54 zeroV_54 zeroOk_56 bytes_56 zeroOk_57 bytes_57 zeroV_57 zeroOk_58 bytes_58 zeroV_58 zeroOk_59 bytes_59 zeroV_59 zeroOk_60 bytes_60 zeroOk_61 bytes_61 zeroOk_62 bytes_62 zeroOk_63 bytes_63 zeroOk_64 bytes_64 zeroOk_65 bytes_65 zeroOk_67 bytes_67 zeroOk_68 bytes_68 zeroOk_69 bytes_69 zeroOk_71 bytes_71 zeroOk_72 bytes_72 zeroOk_73 bytes_73 zeroOk_74 bytes_74 zeroOk_75 bytes_75 zeroOk_76 bytes_76 zeroOk_77 bytes_77 zeroOk_78 bytes_78 zeroOk_79 bytes_79 zeroOk_80 bytes_80 zeroOk_81 bytes_81 zeroOk_82 bytes_82 zeroOk_83 bytes_83 zeroOk_84 bytes_84 zeroOk_85 bytes_85 zeroOk_86 bytes_86 zeroOk_87 bytes_87 zeroOk_88 bytes_88 zeroV_88 zeroOk_89 bytes_89 zeroOk_90 bytes_90 zeroV_90 zeroOk_91 bytes_91 zeroOk_92 bytes_92 zeroOk_93 bytes_93 zeroOk_94 bytes_94 zeroOk_96 bytes_96 zeroOk_97 bytes_97 zeroOk_98 bytes_98 zeroV_98 zeroOk_99 bytes_99 zeroV_99 zeroOk_100 bytes_100 zeroOk_101 bytes_101 zeroOk_103 bytes_103 zeroOk_104 bytes_104 zeroOk_105 bytes_105 zeroOk_106 bytes_106 zeroOk_107 bytes_107 zeroOk_108 bytes_108 zeroOk_109 bytes_109 zeroOk_110 bytes_110 zeroOk_111 bytes_111 zeroOk_112 bytes_112 zeroOk_113 bytes_113 zeroOk_114 bytes_114 zeroOk_115 bytes_115 zeroV_115 zeroOk_116 bytes_116 zeroOk_117 bytes_117 zeroOk_118 bytes_118 zeroOk_119 bytes_119 zeroOk_120 bytes_120 zeroOk_121 bytes_121 zeroV_121 zeroOk_122 bytes_122 zeroV_122 zeroOk_123 bytes_123 zeroOk_124 bytes_124 zeroOk_125 bytes_125 zeroOk_126 bytes_126 zeroOk_127 bytes_127 zeroOk_128 bytes_128 zeroOk_129 bytes_129 zeroOk_130 bytes_130 zeroV_130 zeroOk_131 bytes_131 zeroOk_132 bytes_132 zeroV_132 zeroOk_133 bytes_133 zeroOk_134 bytes_134 zeroOk_135 bytes_135 zeroV_135 zeroOk_136 bytes_136 zeroOk_137 bytes_137 zeroOk_138 bytes_138 zeroV_138 zeroOk_139 bytes_139 zeroV_139 zeroOk_140 bytes_140 zeroV_140 zeroOk_141 bytes_141 zeroV_141 zeroOk_142 bytes_142 zeroV_142 zeroOk_143 bytes_143 zeroV_143 zeroOk_144 bytes_144 zeroV_144 zeroOk_145 bytes_145 zeroOk_146 bytes_146 zeroV_146 zeroOk_147 bytes_147 zeroV_147 zeroOk_148 bytes_148 zeroV_148 zeroOk_149 bytes_149 zeroOk_150 bytes_150 seq_27 seq_57 seq_59 seq_99 Try.underlying1 Try.underlying2 Try.underlying3 Try.underlying4 Try.underlying5 Try.underlying6 Try.underlying7 Try.underlying8 Try.underlying9 Try.underlying10 Try.underlying11 Try.underlying12 Try.underlying13 Try.underlying14 Try.underlying15 Try.underlying16 Try.underlying17 Try.underlying18 Try.underlying19 Try.underlying21 Try.underlying22 Try.underlying23 Try.underlying24 Try.underlying26 Try.underlying27 Try.underlying28 Try.underlying29 Try.underlying30 Try.underlying31 Try.underlying32 Try.underlying33 Try.underlying34 Try.underlying35 Try.underlying37 Try.underlying38 Try.underlying39 Try.underlying40 Try.underlying41 Try.underlying43 Try.underlying44 Try.underlying45 Try.underlying46 Try.underlying47 Try.underlying48 Try.underlying49 Try.underlying50 Try.underlying51 Try.underlying52 Try.underlying53 Try.underlying54 Try.underlying56 Try.underlying57 Try.underlying58 Try.underlying59 Try.underlying60 Try.underlying61 Try.underlying62 Try.underlying63 Try.underlying64 Try.underlying65 Try.underlying67 Try.underlying68 Try.underlying69 Try.underlying71 Try.underlying72 Try.underlying73 Try.underlying74 Try.underlying75 Try.underlying76 Try.underlying77 Try.underlying78 Try.underlying79 Try.underlying80 Try.underlying81 Try.underlying82 Try.underlying83 Try.underlying84 Try.underlying85 Try.underlying86 Try.underlying87 Try.underlying88 Try.underlying89 Try.underlying90 Try.underlying91 Try.underlying92 Try.underlying93 Try.underlying94 Try.underlying96 Try.underlying97 Try.underlying98 Try.underlying99 Try.underlying100 Try.underlying101 Try.underlying103 Try.underlying104 Try.underlying105 Try.underlying106 Try.underlying107 Try.underlying108 Try.underlying109 Try.underlying110 Try.underlying111 Try.underlying112 Try.underlying113 Try.underlying114 Try.underlying115 Try.underlying116 Try.underlying117 Try.underlying118 Try.underlying119 Try.underlying120 Try.underlying121 Try.underlying122 Try.underlying123 Try.underlying124 Try.underlying125 Try.underlying126 Try.underlying127 Try.underlying128 Try.underlying129 Try.underlying130 Try.underlying131 Try.underlying132 Try.underlying133 Try.underlying134 Try.underlying135 Try.underlying136 Try.underlying137 Try.underlying138 Try.underlying139 Try.underlying140 Try.underlying141 Try.underlying142 Try.underlying143 Try.underlying144 Try.underlying145 Try.underlying146 Try.underlying147 Try.underlying148 Try.underlying149 Try.underlying150

attribute [local go_sem] intL BoxV.d BoxV.cs boxL ArmsV.d

attribute [local simp] ints_plain ints_all ints_all1 ints_plain_take boxC_plains boxC_all

def onL (x : ArmsV) : List BoxV := (grpP (sideZ x false) x.c1 x.k1 x.a1 x.t1).1

def arL (x : ArmsV) : List BoxV := (grpP (sideZ x true) x.c2 x.k2 x.a2 x.t2).1

def placeR (x : ArmsV) : D := if okArms x then .tu [boxL (onL x), boxL (arL x), .bool true] else .tu [boxL [], boxL [], .bool false]

set_option maxRecDepth 100000 in
theorem pl_Place3_38_3 (l : List Oper) (h : l = opsOf Try.f38 3) : planB l (.pure 0 (.pure 2 (.pure 3 (.one 1 (.one 4 (.pure 5 (.pure 6 (.pure 7 (.pure 8 (.pure 9 PT.fin)))))))))) [] = true := by
  subst h
  kernel_rfl

set_option maxRecDepth 100000 in
theorem pl_Place3_38_4 (l : List Oper) (h : l = opsOf Try.f38 4) : planB l (.pure 0 (.pure 2 (.pure 3 (.one 1 (.one 4 (.pure 5 (.pure 6 (.pure 7 (.pure 8 (.pure 9 PT.fin)))))))))) [] = true := by
  subst h
  kernel_rfl

set_option maxRecDepth 100000 in
set_option maxHeartbeats 4000000 in
theorem implPlace_fn (x : ArmsV) : FnD Try.prog 38 [x.d] (placeR x) := by
  have e1 := isValidArms_fn x
  have hnil : leD (.tu [.v (.slice none 0 0), .v (.slice none 0 0), .bool false]) (.tu [boxL [], boxL [], .bool false]) := leD_tu (lesD_cons leD_nil (lesD_cons leD_nil (lesD_refl _)))
  cases g : okArms x
  · rw [g] at e1
    rw [placeR, g]
    refine fnd_le ?_ hnil
    refine fn_go Try.func38 rfl rfl Try.ntmps38 Try.results38 (by simp only [slotsOf, argAV, List.map_cons, List.map_nil, Nat.reduceAdd]; rfl) (by simp) ?_
    repeat' (first | (with_reducible first | refine aw_seq fun K hK => ?_ | refine aw_region (by kernel_rfl) ?_ | refine aw_condk ?_ | refine aw_block ?_) | ((with_reducible refine ev_aw ?_); first | (refine aw_draw (id := 3) (by kernel_rfl) _ _ (by kernel_rfl) (pl_Place3_38_3 _ (by kernel_rfl)) ?_) | (refine aw_draw (id := 4) (by kernel_rfl) _ _ (by kernel_rfl) (pl_Place3_38_4 _ (by kernel_rfl)) ?_)) | (with_reducible first | refine ru_four ?_ ?_ ?_ ?_ | refine ru_three ?_ ?_ ?_ | refine ru_two ?_ ?_ | refine rp_two ?_ ?_) | ((with_reducible refine evg ?_); simp only [go_sem, St.clean, cleanO, ↓reduceIte, Nat.reduceEqDiff, Nat.reduceBEq, Nat.reduceAdd, Nat.reduceMul, Nat.reduceSub, Nat.reduceLT, Nat.reduceLeDiff]) | ((with_reducible refine ev_call ?_); (first | (refine call_fn e1 rfl ?_)); refine k_run ?_) | ((with_reducible refine ev_guard ?_); (with_reducible first | refine guard_t ?_ ?_ rfl | refine guard_f ?_ ?_ rfl) <;> (intro h; (try simp only [h]); (try simp only [nrm] at h))) | ((with_reducible refine ck_split (fun h => ?_) (fun h => ?_)) <;> (try simp only [nrm] at h)) | ((with_reducible refine And.intro ?_ ?_); (first | omega | focus (simp; done) | focus (simp; omega) | focus ((repeat' (with_reducible refine And.intro ?_ ?_)) <;> first | omega | rfl | (simp only [go_sem, refsL_app, refs_dmap] <;> fail) | (simp [refsL_app, refs_dmap, AV.refsL, AV.refs] <;> omega)))) | (with_reducible refine hJ _ (fun K hK => ?_) ?_ <;> clear hJ KJ) | ((with_reducible refine ev_less ?_); (refine ⟨rfl, ?_, ?_⟩ <;> simp only [go_sem, St.clean, cleanO, SubS, SubO, beq_self_eq_true, ↓reduceIte, Nat.reduceEqDiff, Nat.reduceBEq, Nat.reduceAdd, Nat.reduceMul, Nat.reduceSub, Nat.reduceLT, Nat.reduceLeDiff])) | ((with_reducible first | apply hK | (clear hK K; first | apply hK | (clear hK K; first | apply hK | (clear hK K; apply hK)))); clear hK K) | (simp (disch := omega) only [wr, drop_at, str_at, int_at, Int.reduceSub, Int.reduceAdd, Int.reduceToNat, Int.toNat_zero]) | fail)
    (first | refine res_tmp rfl (by simp [D.plain, plains]) (by simp) ?_ | refine res_at rfl (by simp [D.plain, plains]) (by simp) ?_ | refine res_two rfl (by simp [D.plain, plains]) (by simp) ?_ | refine res_three rfl (by simp [D.plain, plains]) (by simp) ?_)
    rfl
  · rw [g] at e1
    have hin := okArms_in g
    have e2 := band_fn x g
    have e3 := ground_fn x g
    have hc1 : 0 ≤ x.c1 ∧ x.c1 ≤ 40 := by
      cases hn : noGroup x.c1 x.k1 x.a1 x.t1
      · have := okGroupN_in hin.2.2.1 hn
        omega
      · have := noGroup_in hn
        omega
    have hc2 : 0 ≤ x.c2 ∧ x.c2 ≤ 40 := by
      cases hn : noGroup x.c2 x.k2 x.a2 x.t2
      · have := okGroupN_in hin.2.2.2.1 hn
        omega
      · have := noGroup_in hn
        omega
    have e4 := boxesFor_fn (sideZ x false) (regZ_good _) x.c1 x.k1 x.a1 x.t1 hc1
    have e5 := boxesFor_fn (sideZ x true) (regZ_good _) x.c2 x.k2 x.a2 x.t2 hc2
    rw [grp_on x g] at e4
    rw [grp_around x g] at e5
    rw [placeR, g, if_pos rfl]
    change FnD Try.prog 87 _ (.tu [boxL (onL x), .bool true]) at e4
    change FnD Try.prog 87 _ (.tu [boxL (arL x), .bool true]) at e5
    generalize onL x = os at *
    generalize arL x = ar at *
    generalize sideZ x false = z1 at *
    generalize sideZ x true = z2 at *
    rw [← ints_raw z1] at e4
    rw [← ints_raw z2] at e5
    obtain ⟨fd, fl, ff, fs, o, l, t, c1, k1, a1, t1, c2, k2, a2, t2⟩ := x
    refine fn_go Try.func38 rfl rfl Try.ntmps38 Try.results38 (by simp only [slotsOf, argAV, List.map_cons, List.map_nil, Nat.reduceAdd]; rfl) (by simp) ?_
    repeat' (first | (with_reducible first | refine aw_seq fun K hK => ?_ | refine aw_region (by kernel_rfl) ?_ | refine aw_condk ?_ | refine aw_block ?_) | ((with_reducible refine ev_aw ?_); first | (refine aw_draw (id := 3) (by kernel_rfl) _ _ (by kernel_rfl) (pl_Place3_38_3 _ (by kernel_rfl)) ?_) | (refine aw_draw (id := 4) (by kernel_rfl) _ _ (by kernel_rfl) (pl_Place3_38_4 _ (by kernel_rfl)) ?_)) | (with_reducible first | refine ru_four ?_ ?_ ?_ ?_ | refine ru_three ?_ ?_ ?_ | refine ru_two ?_ ?_ | refine rp_two ?_ ?_) | ((with_reducible refine evg ?_); simp only [go_sem, St.clean, cleanO, ↓reduceIte, Nat.reduceEqDiff, Nat.reduceBEq, Nat.reduceAdd, Nat.reduceMul, Nat.reduceSub, Nat.reduceLT, Nat.reduceLeDiff]) | (simp (disch := omega) only [wr, drop_at, str_at, int_at, Int.reduceSub, Int.reduceAdd, Int.reduceToNat, Int.toNat_zero, wr]) | ((with_reducible refine ev_call ?_); (first | (refine call_fn e1 rfl ?_) | (refine call_fn e2 rfl ?_) | (refine call_fn e3 rfl ?_) | (refine call_fn e4 rfl ?_) | (refine call_fn e5 rfl ?_)); refine k_run ?_) | ((with_reducible refine ev_guard ?_); (with_reducible first | refine guard_t ?_ ?_ rfl | refine guard_f ?_ ?_ rfl) <;> (intro h; (try simp only [h]); (try simp only [nrm] at h) <;> (try ((with_reducible exfalso); omega)))) | ((with_reducible refine ck_split (fun h => ?_) (fun h => ?_)) <;> (try simp only [nrm] at h) <;> (try ((with_reducible exfalso); omega))) | ((with_reducible refine And.intro ?_ ?_); (first | omega | focus (simp; done) | focus (simp; omega) | focus ((repeat' (with_reducible refine And.intro ?_ ?_)) <;> first | omega | rfl | (simp only [go_sem, refsL_app, refs_dmap] <;> fail) | (simp [refsL_app, refs_dmap, AV.refsL, AV.refs] <;> omega)))) | (with_reducible refine hJ _ (fun K hK => ?_) ?_ <;> clear hJ KJ) | ((with_reducible refine ev_less ?_); (refine ⟨rfl, ?_, ?_⟩ <;> simp only [go_sem, St.clean, cleanO, SubS, SubO, beq_self_eq_true, ↓reduceIte, Nat.reduceEqDiff, Nat.reduceBEq, Nat.reduceAdd, Nat.reduceMul, Nat.reduceSub, Nat.reduceLT, Nat.reduceLeDiff])) | ((with_reducible first | apply hK | (clear hK K; first | apply hK | (clear hK K; first | apply hK | (clear hK K; apply hK)))); clear hK K) | fail)
    (first | refine res_tmp rfl (by simp [D.plain, plains]) (by simp) ?_ | refine res_at rfl (by simp [D.plain, plains]) (by simp) ?_ | refine res_two rfl (by simp [D.plain, plains]) (by simp) ?_ | refine res_three rfl (by simp [D.plain, plains]) (by simp) ?_)
    simp

set_option maxRecDepth 100000 in
theorem pl_Place3_84_3 (l : List Oper) (h : l = opsOf Try.f84 3) : planB l (.pure 0 (.pure 2 (.pure 3 (.pure 4 (.one 1 (.one 5 (.pure 6 (.pure 7 (.pure 8 (.pure 9 (.pure 10 PT.fin))))))))))) [] = true := by
  subst h
  kernel_rfl

set_option maxRecDepth 100000 in
theorem pl_Place3_84_8 (l : List Oper) (h : l = opsOf Try.f84 8) : planB l (.pure 0 (.pure 2 (.pure 3 (.pure 4 (.one 1 (.one 5 (.pure 6 (.pure 7 (.pure 8 (.pure 9 (.pure 10 PT.fin))))))))))) [] = true := by
  subst h
  kernel_rfl

set_option maxRecDepth 100000 in
set_option maxHeartbeats 4000000 in
theorem l11Place_fn (x : ArmsV) (g : okArms x = true) : FnD Try.prog 84 [x.d] (.tu [boxL (onL x), boxL (arL x), .bool true]) := by
  have hin := okArms_in g
  have e1 := l11Region_fn x g false
  have e2 := l11Region_fn x g true
  have n1 := l4None_fn x.c1 x.k1 x.a1 x.t1
  have n2 := l4None_fn x.c2 x.k2 x.a2 x.t2
  have q1 := grp_on x g
  have q2 := grp_around x g
  have hz1 : okReg (sideZ x false) = true := regZ_good _
  have hz2 : okReg (sideZ x true) = true := regZ_good _
  unfold onL arL
  generalize sideZ x false = z1 at *
  generalize sideZ x true = z2 at *
  cases g1 : noGroup x.c1 x.k1 x.a1 x.t1 <;> cases g2 : noGroup x.c2 x.k2 x.a2 x.t2 <;> rw [g1] at n1 <;> rw [g2] at n2
  · have i1 := okGroupN_in hin.2.2.1 g1
    have i2 := okGroupN_in hin.2.2.2.1 g2
    have e3 := l11Largest_fn z1 x.c1.toNat hz1 (by omega)
    have e4 := l11Largest_fn z2 x.c2.toNat hz2 (by omega)
    rw [largeR_P, show ((x.c1.toNat : Nat) : Int) = x.c1 by omega] at e3
    rw [largeR_P, show ((x.c2.toNat : Nat) : Int) = x.c2 by omega] at e4
    simp only [grpP, g1, g2, Bool.false_eq_true, if_false] at q1 q2 ⊢
    rw [q1, ← ints_raw z1] at e3
    rw [q2, ← ints_raw z2] at e4
    generalize (largeP z1 x.c1.toNat 8).1 = os at *
    generalize (largeP z2 x.c2.toNat 8).1 = ar at *
    obtain ⟨fd, fl, ff, fs, o, l, t, c1, k1, a1, t1, c2, k2, a2, t2⟩ := x
    refine fn_go Try.func84 rfl rfl Try.ntmps84 Try.results84 (by simp only [slotsOf, argAV, List.map_cons, List.map_nil, Nat.reduceAdd]; rfl) (by simp) ?_
    repeat' (first | (with_reducible first | refine aw_seq fun K hK => ?_ | refine aw_region (by kernel_rfl) ?_ | refine aw_condk ?_ | refine aw_block ?_) | ((with_reducible refine ev_aw ?_); first | (refine aw_draw (id := 3) (by kernel_rfl) _ _ (by kernel_rfl) (pl_Place3_84_3 _ (by kernel_rfl)) ?_) | (refine aw_draw (id := 8) (by kernel_rfl) _ _ (by kernel_rfl) (pl_Place3_84_8 _ (by kernel_rfl)) ?_)) | (with_reducible first | refine ru_four ?_ ?_ ?_ ?_ | refine ru_three ?_ ?_ ?_ | refine ru_two ?_ ?_ | refine rp_two ?_ ?_) | ((with_reducible refine evg ?_); simp only [go_sem, St.clean, cleanO, ↓reduceIte, Nat.reduceEqDiff, Nat.reduceBEq, Nat.reduceAdd, Nat.reduceMul, Nat.reduceSub, Nat.reduceLT, Nat.reduceLeDiff]) | (simp (disch := omega) only [wr, drop_at, str_at, int_at, Int.reduceSub, Int.reduceAdd, Int.reduceToNat, Int.toNat_zero, wr]) | ((with_reducible refine ev_call ?_); (first | (refine call_fn e1 rfl ?_) | (refine call_fn e2 rfl ?_) | (refine call_fn e3 rfl ?_) | (refine call_fn e4 rfl ?_) | (refine call_fn n1 rfl ?_) | (refine call_fn n2 rfl ?_)); refine k_run ?_) | ((with_reducible refine ev_guard ?_); (with_reducible first | refine guard_t ?_ ?_ rfl | refine guard_f ?_ ?_ rfl) <;> (intro h; (try simp only [h]); (try simp only [nrm] at h) <;> (try ((with_reducible exfalso); omega)))) | ((with_reducible refine ck_split (fun h => ?_) (fun h => ?_)) <;> (try simp only [nrm] at h) <;> (try ((with_reducible exfalso); omega))) | ((with_reducible refine And.intro ?_ ?_); (first | omega | focus (simp; done) | focus (simp; omega) | focus ((repeat' (with_reducible refine And.intro ?_ ?_)) <;> first | omega | rfl | (simp only [go_sem, refsL_app, refs_dmap] <;> fail) | (simp [refsL_app, refs_dmap, AV.refsL, AV.refs] <;> omega)))) | (with_reducible refine hJ _ (fun K hK => ?_) ?_ <;> clear hJ KJ) | ((with_reducible refine ev_less ?_); (refine ⟨rfl, ?_, ?_⟩ <;> simp only [go_sem, St.clean, cleanO, SubS, SubO, beq_self_eq_true, ↓reduceIte, Nat.reduceEqDiff, Nat.reduceBEq, Nat.reduceAdd, Nat.reduceMul, Nat.reduceSub, Nat.reduceLT, Nat.reduceLeDiff])) | ((with_reducible first | apply hK | (clear hK K; first | apply hK | (clear hK K; first | apply hK | (clear hK K; apply hK)))); clear hK K) | fail)
    (first | refine res_tmp rfl (by simp [D.plain, plains]) (by simp) ?_ | refine res_at rfl (by simp [D.plain, plains]) (by simp) ?_ | refine res_two rfl (by simp [D.plain, plains]) (by simp) ?_ | refine res_three rfl (by simp [D.plain, plains]) (by simp) ?_)
    simp
  · have i1 := okGroupN_in hin.2.2.1 g1
    have e3 := l11Largest_fn z1 x.c1.toNat hz1 (by omega)
    rw [largeR_P, show ((x.c1.toNat : Nat) : Int) = x.c1 by omega] at e3
    simp only [grpP, g1, g2, Bool.false_eq_true, if_false, if_true] at q1 q2 ⊢
    rw [q1, ← ints_raw z1] at e3
    generalize (largeP z1 x.c1.toNat 8).1 = os at *
    obtain ⟨fd, fl, ff, fs, o, l, t, c1, k1, a1, t1, c2, k2, a2, t2⟩ := x
    refine fn_go Try.func84 rfl rfl Try.ntmps84 Try.results84 (by simp only [slotsOf, argAV, List.map_cons, List.map_nil, Nat.reduceAdd]; rfl) (by simp) ?_
    repeat' (first | (with_reducible first | refine aw_seq fun K hK => ?_ | refine aw_region (by kernel_rfl) ?_ | refine aw_condk ?_ | refine aw_block ?_) | ((with_reducible refine ev_aw ?_); first | (refine aw_draw (id := 3) (by kernel_rfl) _ _ (by kernel_rfl) (pl_Place3_84_3 _ (by kernel_rfl)) ?_) | (refine aw_draw (id := 8) (by kernel_rfl) _ _ (by kernel_rfl) (pl_Place3_84_8 _ (by kernel_rfl)) ?_)) | (with_reducible first | refine ru_four ?_ ?_ ?_ ?_ | refine ru_three ?_ ?_ ?_ | refine ru_two ?_ ?_ | refine rp_two ?_ ?_) | ((with_reducible refine evg ?_); simp only [go_sem, St.clean, cleanO, ↓reduceIte, Nat.reduceEqDiff, Nat.reduceBEq, Nat.reduceAdd, Nat.reduceMul, Nat.reduceSub, Nat.reduceLT, Nat.reduceLeDiff]) | (simp (disch := omega) only [wr, drop_at, str_at, int_at, Int.reduceSub, Int.reduceAdd, Int.reduceToNat, Int.toNat_zero, wr]) | ((with_reducible refine ev_call ?_); (first | (refine call_fn e1 rfl ?_) | (refine call_fn e2 rfl ?_) | (refine call_fn e3 rfl ?_) | (refine call_fn n1 rfl ?_) | (refine call_fn n2 rfl ?_)); refine k_run ?_) | ((with_reducible refine ev_guard ?_); (with_reducible first | refine guard_t ?_ ?_ rfl | refine guard_f ?_ ?_ rfl) <;> (intro h; (try simp only [h]); (try simp only [nrm] at h) <;> (try ((with_reducible exfalso); omega)))) | ((with_reducible refine ck_split (fun h => ?_) (fun h => ?_)) <;> (try simp only [nrm] at h) <;> (try ((with_reducible exfalso); omega))) | ((with_reducible refine And.intro ?_ ?_); (first | omega | focus (simp; done) | focus (simp; omega) | focus ((repeat' (with_reducible refine And.intro ?_ ?_)) <;> first | omega | rfl | (simp only [go_sem, refsL_app, refs_dmap] <;> fail) | (simp [refsL_app, refs_dmap, AV.refsL, AV.refs] <;> omega)))) | (with_reducible refine hJ _ (fun K hK => ?_) ?_ <;> clear hJ KJ) | ((with_reducible refine ev_less ?_); (refine ⟨rfl, ?_, ?_⟩ <;> simp only [go_sem, St.clean, cleanO, SubS, SubO, beq_self_eq_true, ↓reduceIte, Nat.reduceEqDiff, Nat.reduceBEq, Nat.reduceAdd, Nat.reduceMul, Nat.reduceSub, Nat.reduceLT, Nat.reduceLeDiff])) | ((with_reducible first | apply hK | (clear hK K; first | apply hK | (clear hK K; first | apply hK | (clear hK K; apply hK)))); clear hK K) | fail)
    (first | refine res_tmp rfl (by simp [D.plain, plains]) (by simp) ?_ | refine res_at rfl (by simp [D.plain, plains]) (by simp) ?_ | refine res_two rfl (by simp [D.plain, plains]) (by simp) ?_ | refine res_three rfl (by simp [D.plain, plains]) (by simp) ?_)
    simp [show boxC ([] : List BoxV) = [] from rfl]
  · have i2 := okGroupN_in hin.2.2.2.1 g2
    have e4 := l11Largest_fn z2 x.c2.toNat hz2 (by omega)
    rw [largeR_P, show ((x.c2.toNat : Nat) : Int) = x.c2 by omega] at e4
    simp only [grpP, g1, g2, Bool.false_eq_true, if_false, if_true] at q1 q2 ⊢
    rw [q2, ← ints_raw z2] at e4
    generalize (largeP z2 x.c2.toNat 8).1 = ar at *
    obtain ⟨fd, fl, ff, fs, o, l, t, c1, k1, a1, t1, c2, k2, a2, t2⟩ := x
    refine fn_go Try.func84 rfl rfl Try.ntmps84 Try.results84 (by simp only [slotsOf, argAV, List.map_cons, List.map_nil, Nat.reduceAdd]; rfl) (by simp) ?_
    repeat' (first | (with_reducible first | refine aw_seq fun K hK => ?_ | refine aw_region (by kernel_rfl) ?_ | refine aw_condk ?_ | refine aw_block ?_) | ((with_reducible refine ev_aw ?_); first | (refine aw_draw (id := 3) (by kernel_rfl) _ _ (by kernel_rfl) (pl_Place3_84_3 _ (by kernel_rfl)) ?_) | (refine aw_draw (id := 8) (by kernel_rfl) _ _ (by kernel_rfl) (pl_Place3_84_8 _ (by kernel_rfl)) ?_)) | (with_reducible first | refine ru_four ?_ ?_ ?_ ?_ | refine ru_three ?_ ?_ ?_ | refine ru_two ?_ ?_ | refine rp_two ?_ ?_) | ((with_reducible refine evg ?_); simp only [go_sem, St.clean, cleanO, ↓reduceIte, Nat.reduceEqDiff, Nat.reduceBEq, Nat.reduceAdd, Nat.reduceMul, Nat.reduceSub, Nat.reduceLT, Nat.reduceLeDiff]) | (simp (disch := omega) only [wr, drop_at, str_at, int_at, Int.reduceSub, Int.reduceAdd, Int.reduceToNat, Int.toNat_zero, wr]) | ((with_reducible refine ev_call ?_); (first | (refine call_fn e1 rfl ?_) | (refine call_fn e2 rfl ?_) | (refine call_fn e4 rfl ?_) | (refine call_fn n1 rfl ?_) | (refine call_fn n2 rfl ?_)); refine k_run ?_) | ((with_reducible refine ev_guard ?_); (with_reducible first | refine guard_t ?_ ?_ rfl | refine guard_f ?_ ?_ rfl) <;> (intro h; (try simp only [h]); (try simp only [nrm] at h) <;> (try ((with_reducible exfalso); omega)))) | ((with_reducible refine ck_split (fun h => ?_) (fun h => ?_)) <;> (try simp only [nrm] at h) <;> (try ((with_reducible exfalso); omega))) | ((with_reducible refine And.intro ?_ ?_); (first | omega | focus (simp; done) | focus (simp; omega) | focus ((repeat' (with_reducible refine And.intro ?_ ?_)) <;> first | omega | rfl | (simp only [go_sem, refsL_app, refs_dmap] <;> fail) | (simp [refsL_app, refs_dmap, AV.refsL, AV.refs] <;> omega)))) | (with_reducible refine hJ _ (fun K hK => ?_) ?_ <;> clear hJ KJ) | ((with_reducible refine ev_less ?_); (refine ⟨rfl, ?_, ?_⟩ <;> simp only [go_sem, St.clean, cleanO, SubS, SubO, beq_self_eq_true, ↓reduceIte, Nat.reduceEqDiff, Nat.reduceBEq, Nat.reduceAdd, Nat.reduceMul, Nat.reduceSub, Nat.reduceLT, Nat.reduceLeDiff])) | ((with_reducible first | apply hK | (clear hK K; first | apply hK | (clear hK K; first | apply hK | (clear hK K; apply hK)))); clear hK K) | fail)
    (first | refine res_tmp rfl (by simp [D.plain, plains]) (by simp) ?_ | refine res_at rfl (by simp [D.plain, plains]) (by simp) ?_ | refine res_two rfl (by simp [D.plain, plains]) (by simp) ?_ | refine res_three rfl (by simp [D.plain, plains]) (by simp) ?_)
    simp [show boxC ([] : List BoxV) = [] from rfl]
  · simp only [grpP, g1, g2, if_true]
    obtain ⟨fd, fl, ff, fs, o, l, t, c1, k1, a1, t1, c2, k2, a2, t2⟩ := x
    refine fn_go Try.func84 rfl rfl Try.ntmps84 Try.results84 (by simp only [slotsOf, argAV, List.map_cons, List.map_nil, Nat.reduceAdd]; rfl) (by simp) ?_
    repeat' (first | (with_reducible first | refine aw_seq fun K hK => ?_ | refine aw_region (by kernel_rfl) ?_ | refine aw_condk ?_ | refine aw_block ?_) | ((with_reducible refine ev_aw ?_); first | (refine aw_draw (id := 3) (by kernel_rfl) _ _ (by kernel_rfl) (pl_Place3_84_3 _ (by kernel_rfl)) ?_) | (refine aw_draw (id := 8) (by kernel_rfl) _ _ (by kernel_rfl) (pl_Place3_84_8 _ (by kernel_rfl)) ?_)) | (with_reducible first | refine ru_four ?_ ?_ ?_ ?_ | refine ru_three ?_ ?_ ?_ | refine ru_two ?_ ?_ | refine rp_two ?_ ?_) | ((with_reducible refine evg ?_); simp only [go_sem, St.clean, cleanO, ↓reduceIte, Nat.reduceEqDiff, Nat.reduceBEq, Nat.reduceAdd, Nat.reduceMul, Nat.reduceSub, Nat.reduceLT, Nat.reduceLeDiff]) | (simp (disch := omega) only [wr, drop_at, str_at, int_at, Int.reduceSub, Int.reduceAdd, Int.reduceToNat, Int.toNat_zero, wr]) | ((with_reducible refine ev_call ?_); (first | (refine call_fn e1 rfl ?_) | (refine call_fn e2 rfl ?_) | (refine call_fn n1 rfl ?_) | (refine call_fn n2 rfl ?_)); refine k_run ?_) | ((with_reducible refine ev_guard ?_); (with_reducible first | refine guard_t ?_ ?_ rfl | refine guard_f ?_ ?_ rfl) <;> (intro h; (try simp only [h]); (try simp only [nrm] at h) <;> (try ((with_reducible exfalso); omega)))) | ((with_reducible refine ck_split (fun h => ?_) (fun h => ?_)) <;> (try simp only [nrm] at h) <;> (try ((with_reducible exfalso); omega))) | ((with_reducible refine And.intro ?_ ?_); (first | omega | focus (simp; done) | focus (simp; omega) | focus ((repeat' (with_reducible refine And.intro ?_ ?_)) <;> first | omega | rfl | (simp only [go_sem, refsL_app, refs_dmap] <;> fail) | (simp [refsL_app, refs_dmap, AV.refsL, AV.refs] <;> omega)))) | (with_reducible refine hJ _ (fun K hK => ?_) ?_ <;> clear hJ KJ) | ((with_reducible refine ev_less ?_); (refine ⟨rfl, ?_, ?_⟩ <;> simp only [go_sem, St.clean, cleanO, SubS, SubO, beq_self_eq_true, ↓reduceIte, Nat.reduceEqDiff, Nat.reduceBEq, Nat.reduceAdd, Nat.reduceMul, Nat.reduceSub, Nat.reduceLT, Nat.reduceLeDiff])) | ((with_reducible first | apply hK | (clear hK K; first | apply hK | (clear hK K; first | apply hK | (clear hK K; apply hK)))); clear hK K) | fail)
    (first | refine res_tmp rfl (by simp [D.plain, plains]) (by simp) ?_ | refine res_at rfl (by simp [D.plain, plains]) (by simp) ?_ | refine res_two rfl (by simp [D.plain, plains]) (by simp) ?_ | refine res_three rfl (by simp [D.plain, plains]) (by simp) ?_)
    simp [show boxC ([] : List BoxV) = [] from rfl]

theorem place_opn (s u : Nat) (h : s ≠ u) (a b : List BoxV) (ok : Bool) : Opn (.tu [boxL a, boxL b, .bool ok]) (.tu [.bs s 0 a.length 3, .bs u 0 b.length 3, .d (.bool ok)]) [(s, .ds (boxC a)), (u, .ds (boxC b))] :=
  opn_tu (opnL_cons (opn_ls s (boxC_plains a)) (opnL_cons (opn_ls u (boxC_plains b)) (opnL_v opnL_nil) rfl) (by simp [apartN, h]))

set_option maxRecDepth 100000 in
set_option maxHeartbeats 4000000 in
theorem specPlace_fn (x : ArmsV) : FnD Try.prog 36 [x.d] (placeR x) := by
  have e1 := l5Good_fn x
  cases g : okArms x
  · rw [g] at e1
    rw [placeR, g]
    refine fn_go Try.func36 rfl rfl Try.ntmps36 Try.results36 (by simp only [slotsOf, argAV, List.map_cons, List.map_nil, Nat.reduceAdd]; rfl) (by simp) ?_
    repeat' (first | (with_reducible first | refine aw_seq fun K hK => ?_ | refine aw_region (by kernel_rfl) ?_ | refine aw_condk ?_ | refine aw_block ?_) | ((with_reducible refine evg ?_); simp only [go_sem, ↓reduceIte, Nat.reduceEqDiff, Nat.reduceBEq, Nat.reduceAdd, Nat.reduceMul, Nat.reduceSub, Nat.reduceLT, Nat.reduceLeDiff]) | ((with_reducible refine ev_call ?_); (first | (refine call_fn e1 rfl ?_)); refine k_run ?_) | ((with_reducible refine ev_guard ?_); (with_reducible first | refine guard_t ?_ ?_ rfl | refine guard_f ?_ ?_ rfl) <;> (intro h; (try simp only [h]); (try simp only [nrm] at h))) | ((with_reducible refine ck_split (fun h => ?_) (fun h => ?_)) <;> (try simp only [nrm] at h)) | ((with_reducible refine And.intro ?_ ?_); (first | omega | focus (simp; done) | focus (simp; omega) | focus ((repeat' (with_reducible refine And.intro ?_ ?_)) <;> first | omega | rfl | (simp only [go_sem, refsL_app, refs_dmap] <;> fail) | (simp [refsL_app, refs_dmap, AV.refsL, AV.refs] <;> omega)))) | ((with_reducible first | apply hK | (clear hK K; first | apply hK | (clear hK K; first | apply hK | (clear hK K; apply hK)))); clear hK K) | (simp (disch := omega) only [wr, drop_at, str_at, int_at, Int.reduceSub, Int.reduceAdd, Int.reduceToNat, Int.toNat_zero]) | fail)
    (first | refine res_tmp rfl (by simp [D.plain, plains]) (by simp) ?_ | refine res_at rfl (by simp [D.plain, plains]) (by simp) ?_ | refine res_two rfl (by simp [D.plain, plains]) (by simp) ?_ | refine res_three rfl (by simp [D.plain, plains]) (by simp) ?_)
    rfl
  · rw [g] at e1
    have e2 := l11Place_fn x g
    rw [placeR, g, if_pos rfl]
    generalize onL x = os at *
    generalize arL x = ar at *
    obtain ⟨fd, fl, ff, fs, o, l, t, c1, k1, a1, t1, c2, k2, a2, t2⟩ := x
    refine fn_go Try.func36 rfl rfl Try.ntmps36 Try.results36 (by simp only [slotsOf, argAV, List.map_cons, List.map_nil, Nat.reduceAdd]; rfl) (by simp) ?_
    repeat' (first | (with_reducible first | refine aw_seq fun K hK => ?_ | refine aw_region (by kernel_rfl) ?_ | refine aw_condk ?_ | refine aw_block ?_) | ((with_reducible refine evg ?_); simp only [go_sem, ↓reduceIte, Nat.reduceEqDiff, Nat.reduceBEq, Nat.reduceAdd, Nat.reduceMul, Nat.reduceSub, Nat.reduceLT, Nat.reduceLeDiff]) | (simp (disch := omega) only [wr, drop_at, str_at, int_at, Int.reduceSub, Int.reduceAdd, Int.reduceToNat, Int.toNat_zero, wr]) | ((with_reducible refine ev_call ?_); (first | (refine call_fn e1 rfl ?_) | (refine call_new e2 (place_opn 11 12 (by decide) os ar true) ?_ ?_ ?_ ?_; (focus rfl); (focus rfl); (focus (simp [-List.map_map, apartO, dropO, killN, obCells, refs_dmap, nofnsD, AV.refs, AV.refsL, AV.nofn, AV.nofns] <;> fail)))); refine k_run ?_) | ((with_reducible refine ev_guard ?_); (with_reducible first | refine guard_t ?_ ?_ rfl | refine guard_f ?_ ?_ rfl) <;> (intro h; (try simp only [h]); (try simp only [nrm] at h) <;> (try ((with_reducible exfalso); omega)))) | ((with_reducible refine ck_split (fun h => ?_) (fun h => ?_)) <;> (try simp only [nrm] at h) <;> (try ((with_reducible exfalso); omega))) | ((with_reducible refine And.intro ?_ ?_); (first | omega | focus (simp; done) | focus (simp; omega) | focus ((repeat' (with_reducible refine And.intro ?_ ?_)) <;> first | omega | rfl | (simp only [go_sem, refsL_app, refs_dmap] <;> fail) | (simp [refsL_app, refs_dmap, AV.refsL, AV.refs] <;> omega)))) | ((with_reducible first | apply hK | (clear hK K; first | apply hK | (clear hK K; first | apply hK | (clear hK K; apply hK)))); clear hK K) | fail)
    (first | refine res_tmp rfl (by simp [D.plain, plains]) (by simp) ?_ | refine res_at rfl (by simp [D.plain, plains]) (by simp) ?_ | refine res_two rfl (by simp [D.plain, plains]) (by simp) ?_ | refine res_three rfl (by simp [D.plain, plains]) (by simp) ?_)
    simp

end Go.Proofs.Ytaegdaimjhhgpaa
