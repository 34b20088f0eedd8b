/- CounterTwice: contracts. -/
import Derived.Test.YtaegdaimjhhgpaaPic5
import Derived.Test.YtaegdaimjhhgpaaCells
import Derived.WalkKit
import Derived.WalkSpells
import Derived.KernelRfl
namespace Go.Proofs.Ytaegdaimjhhgpaa
open Go.RowKit
set_option linter.unusedVariables false
set_option linter.unusedSimpArgs false
attribute [local go_sem] ruk ru_fin ru_pure ru_still ru_one rau_some rs_n rs_t rs_c rs_k jr_1 jr_2 jr_3 ps_r ps_n St.after killSs killOs newN dropO killN allU fillP rn_build listT rap_some rp_one rp_pure rp_fin rpk guard_ud ck_t ck_f rik Int.toNat_natCast drop_at kx_r kx_e in_n in_r in_e po_n po_r rn_nil rn_guard guard_tt guard_ff guard_tf guard_ft guard_un next_some rn_call rn_move rn_assign rn_pick rn_alloc rn_box rn_buildSlice rn_load rn_store rn_nilCheck rn_binOp rn_unOp rn_convert rn_makeFunc rn_makeSlice rn_slice rn_fieldAddr rn_field rn_indexAddr rn_index rn_extract rn_builtin stepOp actOp pureOp St.ev look AV.split AV.one St.new St.puto St.put put killS killO lookO putO delO AV.refs AV.refsL OB.refs St.adopt adoptL loadD loadA tAgg guardOf binD unD pick_t pick_f pick_b one_s one_i one_b one_l one_p rc_eq rc_some AV.pack allD storeOb fillA denseA buildA obCells srcCells OB.fill OB.join obOf zeroD kx_n ri_nil ri_cons ra_some inB eqInts Bool.false_eq_true Bool.or_false Bool.or_self List.drop_succ_cons List.drop_zero List.take_succ_cons List.take_zero List.take_nil List.drop_nil List.getD_cons_zero List.getD_cons_succ ne_eq not_false_eq_true Nat.zero_add Nat.add_zero Bool.not_true Bool.not_false cond_true cond_false true_and and_true List.map_cons List.map_nil List.length_cons List.length_nil List.getElem?_toArray List.getElem?_cons_zero List.getElem?_cons_succ Option.map_some Option.map_none Option.isSome_some List.nil_append List.cons_append List.append_nil Int.toNat_zero Nat.zero_mul Nat.mul_one cells_1 cells_2 cells_3 cells_4 cells_5 cells_6 cells_7 cells_8 cells_9 cells_10 cells_11 cells_12 cells_13 cells_14 cells_15 cells_16 cells_17 cells_18 cells_19 cells_21 cells_22 cells_23 cells_24 cells_26 cells_27 cells_28 cells_29 cells_30 cells_31 cells_32 cells_33 cells_34 cells_35 cells_37 cells_38 cells_39 cells_40 cells_41 cells_43 cells_44 cells_45 cells_46 cells_47 cells_48 cells_49 cells_50 cells_51 cells_52 cells_53 cells_54 cells_56 cells_57 cells_58 cells_59 cells_60 cells_61 cells_62 cells_63 cells_64 cells_65 cells_67 cells_68 cells_69 cells_71 cells_72 cells_73 cells_74 cells_75 cells_76 cells_77 cells_78 cells_79 cells_80 cells_81 cells_82 cells_83 cells_84 cells_85 cells_86 cells_87 cells_88 cells_89 cells_90 cells_91 cells_92 cells_93 cells_94 cells_96 cells_97 cells_98 cells_99 cells_100 cells_101 cells_103 cells_104 cells_105 cells_106 cells_107 cells_108 cells_109 cells_110 cells_111 cells_112 cells_113 cells_114 cells_115 cells_116 cells_117 cells_118 cells_119 cells_120 cells_121 cells_122 cells_123 cells_124 cells_125 cells_126 cells_127 cells_128 cells_129 cells_130 cells_131 cells_132 cells_133 cells_134 cells_135 cells_136 cells_137 cells_138 cells_139 cells_140 cells_141 cells_142 cells_143 cells_144 cells_145 cells_146 cells_147 cells_148 cells_149 cells_150 zeroOk_1 bytes_1 zeroOk_2 bytes_2 zeroV_2 zeroOk_3 bytes_3 zeroV_3 zeroOk_4 bytes_4 zeroV_4 zeroOk_5 bytes_5 zeroV_5 zeroOk_6 bytes_6 zeroV_6 zeroOk_7 bytes_7 zeroV_7 zeroOk_8 bytes_8 zeroV_8 zeroOk_9 bytes_9 zeroV_9 zeroOk_10 bytes_10 zeroV_10 zeroOk_11 bytes_11 zeroV_11 zeroOk_12 bytes_12 zeroV_12 zeroOk_13 bytes_13 zeroV_13 zeroOk_14 bytes_14 zeroV_14 zeroOk_15 bytes_15 zeroV_15 zeroOk_16 bytes_16 zeroV_16 zeroOk_17 bytes_17 zeroV_17 zeroOk_18 bytes_18 zeroV_18 zeroOk_19 bytes_19 zeroV_19 zeroOk_21 bytes_21 zeroV_21 zeroOk_22 bytes_22 zeroV_22 zeroOk_23 bytes_23 zeroV_23 zeroOk_24 bytes_24 zeroV_24 zeroOk_26 bytes_26 zeroOk_27 bytes_27 zeroV_27 zeroOk_28 bytes_28 zeroOk_29 bytes_29 zeroOk_30 bytes_30 zeroOk_31 bytes_31 zeroOk_32 bytes_32 zeroV_32 zeroOk_33 bytes_33 zeroV_33 zeroOk_34 bytes_34 zeroV_34 zeroOk_35 bytes_35 zeroOk_37 bytes_37 zeroOk_38 bytes_38 zeroV_38 zeroOk_39 bytes_39 zeroOk_40 bytes_40 zeroOk_41 bytes_41 zeroOk_43 bytes_43 zeroOk_44 bytes_44 zeroOk_45 bytes_45 zeroOk_46 bytes_46 zeroOk_47 bytes_47 zeroOk_48 bytes_48 zeroOk_49 bytes_49 zeroOk_50 bytes_50 zeroV_50 zeroOk_51 bytes_51 zeroV_51 zeroOk_52 bytes_52 zeroV_52 zeroOk_53 bytes_53 zeroV_53 zeroOk_54 bytes_54 zeroV_54 zeroOk_56 bytes_56 zeroOk_57 bytes_57 zeroV_57 zeroOk_58 bytes_58 zeroV_58 zeroOk_59 bytes_59 zeroV_59 zeroOk_60 bytes_60 zeroOk_61 bytes_61 zeroOk_62 bytes_62 zeroOk_63 bytes_63 zeroOk_64 bytes_64 zeroOk_65 bytes_65 zeroOk_67 bytes_67 zeroOk_68 bytes_68 zeroOk_69 bytes_69 zeroOk_71 bytes_71 zeroOk_72 bytes_72 zeroOk_73 bytes_73 zeroOk_74 bytes_74 zeroOk_75 bytes_75 zeroOk_76 bytes_76 zeroOk_77 bytes_77 zeroOk_78 bytes_78 zeroOk_79 bytes_79 zeroOk_80 bytes_80 zeroOk_81 bytes_81 zeroOk_82 bytes_82 zeroOk_83 bytes_83 zeroOk_84 bytes_84 zeroOk_85 bytes_85 zeroOk_86 bytes_86 zeroOk_87 bytes_87 zeroOk_88 bytes_88 zeroV_88 zeroOk_89 bytes_89 zeroOk_90 bytes_90 zeroV_90 zeroOk_91 bytes_91 zeroOk_92 bytes_92 zeroOk_93 bytes_93 zeroOk_94 bytes_94 zeroOk_96 bytes_96 zeroOk_97 bytes_97 zeroOk_98 bytes_98 zeroV_98 zeroOk_99 bytes_99 zeroV_99 zeroOk_100 bytes_100 zeroOk_101 bytes_101 zeroOk_103 bytes_103 zeroOk_104 bytes_104 zeroOk_105 bytes_105 zeroOk_106 bytes_106 zeroOk_107 bytes_107 zeroOk_108 bytes_108 zeroOk_109 bytes_109 zeroOk_110 bytes_110 zeroOk_111 bytes_111 zeroOk_112 bytes_112 zeroOk_113 bytes_113 zeroOk_114 bytes_114 zeroOk_115 bytes_115 zeroV_115 zeroOk_116 bytes_116 zeroOk_117 bytes_117 zeroOk_118 bytes_118 zeroOk_119 bytes_119 zeroOk_120 bytes_120 zeroOk_121 bytes_121 zeroV_121 zeroOk_122 bytes_122 zeroV_122 zeroOk_123 bytes_123 zeroOk_124 bytes_124 zeroOk_125 bytes_125 zeroOk_126 bytes_126 zeroOk_127 bytes_127 zeroOk_128 bytes_128 zeroOk_129 bytes_129 zeroOk_130 bytes_130 zeroV_130 zeroOk_131 bytes_131 zeroOk_132 bytes_132 zeroV_132 zeroOk_133 bytes_133 zeroOk_134 bytes_134 zeroOk_135 bytes_135 zeroV_135 zeroOk_136 bytes_136 zeroOk_137 bytes_137 zeroOk_138 bytes_138 zeroV_138 zeroOk_139 bytes_139 zeroV_139 zeroOk_140 bytes_140 zeroV_140 zeroOk_141 bytes_141 zeroV_141 zeroOk_142 bytes_142 zeroV_142 zeroOk_143 bytes_143 zeroV_143 zeroOk_144 bytes_144 zeroV_144 zeroOk_145 bytes_145 zeroOk_146 bytes_146 zeroV_146 zeroOk_147 bytes_147 zeroV_147 zeroOk_148 bytes_148 zeroV_148 zeroOk_149 bytes_149 zeroOk_150 bytes_150 seq_27 seq_57 seq_59 seq_99 Try.underlying1 Try.underlying2 Try.underlying3 Try.underlying4 Try.underlying5 Try.underlying6 Try.underlying7 Try.underlying8 Try.underlying9 Try.underlying10 Try.underlying11 Try.underlying12 Try.underlying13 Try.underlying14 Try.underlying15 Try.underlying16 Try.underlying17 Try.underlying18 Try.underlying19 Try.underlying21 Try.underlying22 Try.underlying23 Try.underlying24 Try.underlying26 Try.underlying27 Try.underlying28 Try.underlying29 Try.underlying30 Try.underlying31 Try.underlying32 Try.underlying33 Try.underlying34 Try.underlying35 Try.underlying37 Try.underlying38 Try.underlying39 Try.underlying40 Try.underlying41 Try.underlying43 Try.underlying44 Try.underlying45 Try.underlying46 Try.underlying47 Try.underlying48 Try.underlying49 Try.underlying50 Try.underlying51 Try.underlying52 Try.underlying53 Try.underlying54 Try.underlying56 Try.underlying57 Try.underlying58 Try.underlying59 Try.underlying60 Try.underlying61 Try.underlying62 Try.underlying63 Try.underlying64 Try.underlying65 Try.underlying67 Try.underlying68 Try.underlying69 Try.underlying71 Try.underlying72 Try.underlying73 Try.underlying74 Try.underlying75 Try.underlying76 Try.underlying77 Try.underlying78 Try.underlying79 Try.underlying80 Try.underlying81 Try.underlying82 Try.underlying83 Try.underlying84 Try.underlying85 Try.underlying86 Try.underlying87 Try.underlying88 Try.underlying89 Try.underlying90 Try.underlying91 Try.underlying92 Try.underlying93 Try.underlying94 Try.underlying96 Try.underlying97 Try.underlying98 Try.underlying99 Try.underlying100 Try.underlying101 Try.underlying103 Try.underlying104 Try.underlying105 Try.underlying106 Try.underlying107 Try.underlying108 Try.underlying109 Try.underlying110 Try.underlying111 Try.underlying112 Try.underlying113 Try.underlying114 Try.underlying115 Try.underlying116 Try.underlying117 Try.underlying118 Try.underlying119 Try.underlying120 Try.underlying121 Try.underlying122 Try.underlying123 Try.underlying124 Try.underlying125 Try.underlying126 Try.underlying127 Try.underlying128 Try.underlying129 Try.underlying130 Try.underlying131 Try.underlying132 Try.underlying133 Try.underlying134 Try.underlying135 Try.underlying136 Try.underlying137 Try.underlying138 Try.underlying139 Try.underlying140 Try.underlying141 Try.underlying142 Try.underlying143 Try.underlying144 Try.underlying145 Try.underlying146 Try.underlying147 Try.underlying148 Try.underlying149 Try.underlying150

attribute [local go_sem] intL gridD lookO_lo killO_grid delO_grid putO_lo gridO_app dropGe dropGe_grid cleanO_grid gridC_len gridC_refs gridQ_refs lens_len rowsD_len setG_len dropO_grid killR_nil killR_cons killR_grid killN_lo newN_gridN hasN_cons hasN_grid Nat.le_refl refs_dmap newN_all killSs_gridN killOs_gridN killSs_gridN0 killOs_gridN0 loS_nil loS_cons loL_nil loL_cons lo_bp lo_bs lo_ag lo_tu lo_fc lo_d lo_un loO_nil loO_ds loO_av loO_dead loO_grid loL_gridC loL_dmap picZ_len allD_grid refsL_app' numsR_len

attribute [local simp] ints_plain ints_all ints_all1 ints_plain_take refs_dmap gridC_refs

theorem xor_nat {a b : Nat} (ha : a < 2 ^ 63) (hb : b < 2 ^ 63) : bits .xor .i64 (a : Int) (b : Int) = ((a ^^^ b : Nat) : Int) := by
  have h1 : (BitVec.ofInt 64 (a : Int)).toNat = a := by
    rw [BitVec.ofInt_natCast, BitVec.toNat_ofNat]; exact Nat.mod_eq_of_lt (by omega)
  have h2 : (BitVec.ofInt 64 (b : Int)).toNat = b := by
    rw [BitVec.ofInt_natCast, BitVec.toNat_ofNat]; exact Nat.mod_eq_of_lt (by omega)
  have hx : a ^^^ b < 2 ^ 63 := Nat.xor_lt_two_pow ha hb
  show IntKind.i64.wrap ((BitVec.ofInt 64 (a : Int) ^^^ BitVec.ofInt 64 (b : Int)).toNat : Int) = _
  rw [BitVec.toNat_xor, h1, h2]
  exact wrap63 _ (Int.natCast_nonneg _) (by exact_mod_cast hx)

theorem hasZ_bit {zs : List Int} {x y : Nat} (hx : x < 20) (hy : y < 24) : hasZ zs x y = (zs.getD y 0).toNat.testBit x := by
  rw [hasZ, inR_iff.2 (by omega), inR_iff.2 (by omega), bitZ, Int.toNat_natCast, Int.toNat_natCast]
  rfl

theorem okRow_bit {v : Int} {x y : Nat} (h : okRow y v = true) : v.toNat.testBit x = (v.toNat.testBit x && (decide (x < 20) && inSh x y)) := by
  simp only [okRow, Bool.and_eq_true, decide_eq_true_eq, beq_iff_eq] at h
  have := congrArg (fun n => n.testBit x) h.2
  simp only [Nat.testBit_and, rowN_bit, cellP, Bool.and_true] at this
  exact this.symm

/-- Cells that one of two regions has and not the other. -/
def bothP (rs ss : List Int) (x y : Int) : Bool := hasZ rs x y != hasZ ss x y

theorem row_xor {rs ss : List Int} (hr : okReg rs = true) (hs : okReg ss = true) {y : Nat} (hy : y < 24) : bits .xor .i64 (rs.getD y 0) (ss.getD y 0) = rowI (bothP rs ss) y := by
  have r1 := okReg_row hr hy
  have s1 := okReg_row hs hy
  have r2 := okRow_lt r1
  have s2 := okRow_lt s1
  have hb : ∀ x : Nat, x < 20 → (bothP rs ss x y = ((rs.getD y 0).toNat.testBit x != (ss.getD y 0).toNat.testBit x)) := fun x hx => by
    rw [bothP, hasZ_bit hx hy, hasZ_bit hx hy]
  have r3 := fun x : Nat => okRow_bit (x := x) r1
  have s3 := fun x : Nat => okRow_bit (x := x) s1
  obtain ⟨a, ha⟩ := Int.eq_ofNat_of_zero_le r2.1
  obtain ⟨b, hb'⟩ := Int.eq_ofNat_of_zero_le s2.1
  rw [ha, hb'] at hb
  rw [ha] at r2 r3
  rw [hb'] at s2 s3
  rw [ha, hb', xor_nat (by omega) (by omega), rowI]
  congr 1
  apply Nat.eq_of_testBit_eq
  intro x
  rw [Nat.testBit_xor, rowN_bit, cellP]
  have r4 := r3 x
  have s4 := s3 x
  have hc := hb x
  simp only [Int.toNat_natCast] at r4 s4 hc
  by_cases hx : x < 20
  · rw [hc hx]
    cases g1 : a.testBit x <;> cases g2 : b.testBit x <;> cases g3 : inSh x y <;> simp_all
  · simp only [hx, decide_false, Bool.false_and, Bool.and_false] at r4 s4 ⊢
    rw [r4, s4]
    rfl

theorem regZ_good (p : Int → Int → Bool) : okReg (regZ p) = true := by
  simp only [okReg, Bool.and_eq_true, decide_eq_true_eq, List.all_eq_true, List.mem_range]
  refine ⟨regZ_len p, fun y hy => ?_⟩
  rw [regZ_at hy, okRow, rowI, Bool.and_eq_true, decide_eq_true_eq, beq_iff_eq, Int.toNat_natCast]
  refine ⟨Int.natCast_nonneg _, ?_⟩
  apply Nat.eq_of_testBit_eq
  intro x
  simp only [Nat.testBit_and, rowN_bit, cellP, Bool.and_true]
  cases decide (x < 20) <;> cases inSh x y <;> cases p x y <;> rfl

theorem regZ_has {p : Int → Int → Bool} {x y : Nat} (hx : x < 20) (hy : y < 24) : hasZ (regZ p) x y = (inSh x y && p x y) := by
  rw [hasZ_bit hx hy, regZ_at hy, rowI, Int.toNat_natCast, rowN_bit, cellP, decide_eq_true hx, Bool.true_and]

theorem regZ_hasZ {zs : List Int} (h : okReg zs = true) (p : Int → Int → Bool) (hp : ∀ x y : Nat, x < 20 → y < 24 → inSh x y = true → p x y = hasZ zs x y) : regZ p = zs := by
  have hl := okReg_len h
  refine Eq.symm ((tab_of 0 (fun y hy => ?_)).trans (congrArg (tab (rowI p)) hl))
  have hy : y < 24 := by rw [hl] at hy; exact hy
  have r1 := okReg_row h hy
  have r2 := okRow_lt r1
  rw [rowI]
  have hb : ∀ x : Nat, x < 20 → inSh x y = true → p x y = (zs.getD y 0).toNat.testBit x := fun x hx hi => by
    rw [hp x y hx hy hi, hasZ_bit hx hy]
  have r3 := fun x : Nat => okRow_bit (x := x) r1
  obtain ⟨a, ha⟩ := Int.eq_ofNat_of_zero_le r2.1
  rw [ha] at hb r3 ⊢
  congr 1
  apply Nat.eq_of_testBit_eq
  intro x
  have r4 := r3 x
  have hc := hb x
  simp only [Int.toNat_natCast] at r4 hc
  rw [rowN_bit, cellP]
  symm
  by_cases hx : x < 20
  · cases g1 : inSh x y
    · rw [g1] at r4
      simp only [Bool.and_false] at r4
      rw [r4]
      simp
    · rw [hc hx g1]
      simp [hx]
  · simp only [hx, decide_false, Bool.false_and, Bool.and_false] at r4 ⊢
    rw [r4]

def twiceR (d l f s : Int) (rs ss : List Int) : D := if okDiv d l f s && okReg rs && okReg ss then .tu [gridD (picZ (ctrZ d l.toNat f s (regZ (bothP rs ss)))), .bool true] else .tu [gridD [], .bool false]

set_option maxRecDepth 100000 in
theorem pl_Pic6_82_1 (l : List Oper) (h : l = opsOf Try.f82 1) : planB l (.pure 0 (.pure 1 (.pure 2 (.pure 4 (.pure 5 (.pure 6 (.one 3 (.one 7 (.pure 8 (.pure 9 PT.fin)))))))))) [] = true := by
  subst h
  kernel_rfl

set_option maxRecDepth 100000 in
set_option maxHeartbeats 4000000 in
theorem twice1_fn (rs ss : List Int) (hr : okReg rs = true) (hs : okReg ss = true) (x y : Int) : FnD Try.prog 82 ([] ++ [.int x, .int y] ++ [.pt [intL rs], .pt [intL ss]]) (hXY (bothP rs ss) [.int x, .int y]) := by
  have e1 := implHas_fn rs x y (okReg_len hr) (fun h => okReg_y hr h)
  have e2 := implHas_fn ss x y (okReg_len hs) (fun h => okReg_y hs h)
  rw [hXY_at, bothP]
  simp only [List.nil_append, List.cons_append]
  cases g1 : hasZ rs x y <;> cases g2 : hasZ ss x y
  all_goals
    rw [g1] at e1
    rw [g2] at e2
    refine fn_go Try.func82 rfl rfl Try.ntmps82 Try.results82 (by simp only [slotsOf, argAV, List.map_cons, List.map_nil, Nat.reduceAdd]; rfl) (by simp) ?_
    repeat' (first | (with_reducible first | refine aw_seq fun K hK => ?_ | refine aw_region (by kernel_rfl) ?_ | refine aw_condk ?_ | refine aw_block ?_) | ((with_reducible refine ev_aw ?_); first | (refine aw_draw (id := 1) (by kernel_rfl) _ _ (by kernel_rfl) (pl_Pic6_82_1 _ (by kernel_rfl)) ?_)) | (with_reducible first | refine ru_four ?_ ?_ ?_ ?_ | refine ru_three ?_ ?_ ?_ | refine ru_two ?_ ?_ | refine rp_two ?_ ?_) | ((with_reducible refine evg ?_); simp only [go_sem, St.clean, cleanO, ↓reduceIte, Nat.reduceEqDiff, Nat.reduceBEq, Nat.reduceAdd, Nat.reduceMul, Nat.reduceSub, Nat.reduceLT, Nat.reduceLeDiff]) | ((with_reducible refine ev_call ?_); (first | (refine call_fn e1 rfl ?_) | (refine call_fn e2 rfl ?_)); refine k_run ?_) | ((with_reducible refine ev_guard ?_); (with_reducible first | refine guard_t ?_ ?_ rfl | refine guard_f ?_ ?_ rfl) <;> (intro h; (try simp only [h]); (try simp only [nrm] at h))) | ((with_reducible refine ck_split (fun h => ?_) (fun h => ?_)) <;> (try simp only [nrm] at h)) | ((with_reducible refine And.intro ?_ ?_); (first | omega | focus (simp; done) | focus (simp; omega) | focus ((repeat' (with_reducible refine And.intro ?_ ?_)) <;> first | omega | rfl | (simp only [go_sem, refsL_app, refs_dmap] <;> fail) | (simp [refsL_app, refs_dmap, AV.refsL, AV.refs] <;> omega)))) | (with_reducible refine hJ _ (fun K hK => ?_) ?_ <;> clear hJ KJ) | ((with_reducible refine ev_less ?_); (refine ⟨rfl, ?_, ?_⟩ <;> simp only [go_sem, St.clean, cleanO, SubS, SubO, beq_self_eq_true, ↓reduceIte, Nat.reduceEqDiff, Nat.reduceBEq, Nat.reduceAdd, Nat.reduceMul, Nat.reduceSub, Nat.reduceLT, Nat.reduceLeDiff])) | ((with_reducible first | apply hK | (clear hK K; first | apply hK | (clear hK K; first | apply hK | (clear hK K; apply hK)))); clear hK K) | (simp (disch := omega) only [wr, drop_at, str_at, int_at, Int.reduceSub, Int.reduceAdd, Int.reduceToNat, Int.toNat_zero]) | fail)
    (first | refine res_tmp rfl (by simp [D.plain, plains]) (by simp) ?_ | refine res_at rfl (by simp [D.plain, plains]) (by simp) ?_ | refine res_two rfl (by simp [D.plain, plains]) (by simp) ?_ | refine res_three rfl (by simp [D.plain, plains]) (by simp) ?_)
    rfl

theorem reg_opn (s : Nat) (zs : List Int) : Opn (.ag [intL zs]) (.ag [.bs s 0 zs.length 1]) [(s, .ds (zs.map D.int))] :=
  opn_ag (opnL_cons (opn_ls s (ints_plain zs)) opnL_nil rfl)

theorem emp_opn (s : Nat) : Opn (.ag [intL empZ]) (.ag [.bs s 0 24 1]) [(s, .ds (empZ.map D.int))] := reg_opn s empZ

theorem inI_regZ (p : Int → Int → Bool) : inI (regZ p) := fun i => by
  by_cases h : i < 24
  · have := okReg_row (regZ_good p) h
    have := okRow_lt this
    omega
  · rw [List.getD_eq_getElem?_getD, List.getElem?_eq_none (by simp; omega)]
    simp

theorem gridR_opn (s : Nat) (ws : List (List Int)) (ok : Bool) (hs : s < 1000000000) : Opn (.tu [gridD ws, .bool ok]) (.tu [.bs s 0 ws.length 1, .d (.bool ok)]) ((s, .av (gridC 1000000000 (lens ws))) :: gridO 1000000000 ws []) := by
  have := opn_tu (opnL_cons (opn_grid s 1000000000 ws hs) (opnL_v (x := .bool ok) opnL_nil) (by simp [apartN]))
  rw [List.append_nil] at this
  exact this

set_option maxRecDepth 100000 in
theorem pl_Pic6_34_7 (l : List Oper) (h : l = opsOf Try.f34 7) : planB l (.pure 0 (.pure 1 (.pure 2 (.pure 3 (.pure 4 (.pure 5 (.pure 6 (.pure 7 (.pure 8 (.pure 9 (.pure 10 (.pure 11 (.pure 12 (.pure 13 (.pure 14 PT.fin))))))))))))))) [15] = true := by
  subst h
  kernel_rfl

set_option maxRecDepth 100000 in
set_option maxHeartbeats 4000000 in
theorem specTwice_fn (d l f s : Int) (rs ss : List Int) (hl : rs.length ≤ 9223372036854775807) (hl2 : ss.length ≤ 9223372036854775807) : FnD Try.prog 34 [.ag [.int d, .int l, .int f, .int s], .ag [intL rs], .ag [intL ss]] (twiceR d l f s rs ss) := by
  have e1 := l14Divided_fn d l f s
  have e2 := l9Good_fn rs hl
  have e3 := l9Good_fn ss hl2
  cases g : okDiv d l f s
  · rw [g] at e1
    rw [twiceR, g]
    refine fn_go Try.func34 rfl rfl Try.ntmps34 Try.results34 (by simp only [slotsOf, argAV, List.map_cons, List.map_nil, Nat.reduceAdd]; rfl) (by simp) ?_
    repeat' (first | (with_reducible first | refine aw_seq fun K hK => ?_ | refine aw_region (by kernel_rfl) ?_ | refine aw_condk ?_ | refine aw_block ?_) | ((with_reducible refine ev_aw ?_); first | (refine aw_draw (id := 7) (by kernel_rfl) _ _ (by kernel_rfl) (pl_Pic6_34_7 _ (by kernel_rfl)) ?_)) | (with_reducible first | refine ru_four ?_ ?_ ?_ ?_ | refine ru_three ?_ ?_ ?_ | refine ru_two ?_ ?_ | refine rp_two ?_ ?_) | ((with_reducible refine evg ?_); simp only [go_sem, St.clean, cleanO, ↓reduceIte, Nat.reduceEqDiff, Nat.reduceBEq, Nat.reduceAdd, Nat.reduceMul, Nat.reduceSub, Nat.reduceLT, Nat.reduceLeDiff]) | ((with_reducible refine ev_call ?_); (first | (refine call_fn e1 rfl ?_)); refine k_run ?_) | ((with_reducible refine ev_guard ?_); (with_reducible first | refine guard_t ?_ ?_ rfl | refine guard_f ?_ ?_ rfl) <;> (intro h; (try simp only [h]); (try simp only [nrm] at h))) | ((with_reducible refine ck_split (fun h => ?_) (fun h => ?_)) <;> (try simp only [nrm] at h)) | ((with_reducible refine And.intro ?_ ?_); (first | omega | focus (simp; done) | focus (simp; omega) | focus ((repeat' (with_reducible refine And.intro ?_ ?_)) <;> first | omega | rfl | (simp only [go_sem, refsL_app, refs_dmap] <;> fail) | (simp [refsL_app, refs_dmap, AV.refsL, AV.refs] <;> omega)))) | (with_reducible refine hJ _ (fun K hK => ?_) ?_ <;> clear hJ KJ) | ((with_reducible refine ev_less ?_); (refine ⟨rfl, ?_, ?_⟩ <;> simp only [go_sem, St.clean, cleanO, SubS, SubO, beq_self_eq_true, ↓reduceIte, Nat.reduceEqDiff, Nat.reduceBEq, Nat.reduceAdd, Nat.reduceMul, Nat.reduceSub, Nat.reduceLT, Nat.reduceLeDiff])) | ((with_reducible first | apply hK | (clear hK K; first | apply hK | (clear hK K; first | apply hK | (clear hK K; apply hK)))); clear hK K) | (simp (disch := omega) only [wr, drop_at, str_at, int_at, Int.reduceSub, Int.reduceAdd, Int.reduceToNat, Int.toNat_zero]) | fail)
    (first | refine res_tmp rfl (by simp [D.plain, plains]) (by simp) ?_ | refine res_at rfl (by simp [D.plain, plains]) (by simp) ?_ | refine res_two rfl (by simp [D.plain, plains]) (by simp) ?_ | refine res_three rfl (by simp [D.plain, plains]) (by simp) ?_)
    rfl
  · rw [g] at e1
    cases gr : okReg rs
    · rw [gr] at e2
      rw [twiceR, g, gr]
      refine fn_go Try.func34 rfl rfl Try.ntmps34 Try.results34 (by simp only [slotsOf, argAV, List.map_cons, List.map_nil, Nat.reduceAdd]; rfl) (by simp) ?_
      repeat' (first | (with_reducible first | refine aw_seq fun K hK => ?_ | refine aw_region (by kernel_rfl) ?_ | refine aw_condk ?_ | refine aw_block ?_) | ((with_reducible refine ev_aw ?_); first | (refine aw_draw (id := 7) (by kernel_rfl) _ _ (by kernel_rfl) (pl_Pic6_34_7 _ (by kernel_rfl)) ?_)) | (with_reducible first | refine ru_four ?_ ?_ ?_ ?_ | refine ru_three ?_ ?_ ?_ | refine ru_two ?_ ?_ | refine rp_two ?_ ?_) | ((with_reducible refine evg ?_); simp only [go_sem, St.clean, cleanO, ↓reduceIte, Nat.reduceEqDiff, Nat.reduceBEq, Nat.reduceAdd, Nat.reduceMul, Nat.reduceSub, Nat.reduceLT, Nat.reduceLeDiff]) | ((with_reducible refine ev_call ?_); (first | (refine call_fn e1 rfl ?_) | (refine call_fn e2 rfl ?_)); refine k_run ?_) | ((with_reducible refine ev_guard ?_); (with_reducible first | refine guard_t ?_ ?_ rfl | refine guard_f ?_ ?_ rfl) <;> (intro h; (try simp only [h]); (try simp only [nrm] at h))) | ((with_reducible refine ck_split (fun h => ?_) (fun h => ?_)) <;> (try simp only [nrm] at h)) | ((with_reducible refine And.intro ?_ ?_); (first | omega | focus (simp; done) | focus (simp; omega) | focus ((repeat' (with_reducible refine And.intro ?_ ?_)) <;> first | omega | rfl | (simp only [go_sem, refsL_app, refs_dmap] <;> fail) | (simp [refsL_app, refs_dmap, AV.refsL, AV.refs] <;> omega)))) | (with_reducible refine hJ _ (fun K hK => ?_) ?_ <;> clear hJ KJ) | ((with_reducible refine ev_less ?_); (refine ⟨rfl, ?_, ?_⟩ <;> simp only [go_sem, St.clean, cleanO, SubS, SubO, beq_self_eq_true, ↓reduceIte, Nat.reduceEqDiff, Nat.reduceBEq, Nat.reduceAdd, Nat.reduceMul, Nat.reduceSub, Nat.reduceLT, Nat.reduceLeDiff])) | ((with_reducible first | apply hK | (clear hK K; first | apply hK | (clear hK K; first | apply hK | (clear hK K; apply hK)))); clear hK K) | (simp (disch := omega) only [wr, drop_at, str_at, int_at, Int.reduceSub, Int.reduceAdd, Int.reduceToNat, Int.toNat_zero]) | fail)
      (first | refine res_tmp rfl (by simp [D.plain, plains]) (by simp) ?_ | refine res_at rfl (by simp [D.plain, plains]) (by simp) ?_ | refine res_two rfl (by simp [D.plain, plains]) (by simp) ?_ | refine res_three rfl (by simp [D.plain, plains]) (by simp) ?_)
      rfl
    · rw [gr] at e2
      cases gs : okReg ss
      · rw [gs] at e3
        rw [twiceR, g, gr, gs]
        refine fn_go Try.func34 rfl rfl Try.ntmps34 Try.results34 (by simp only [slotsOf, argAV, List.map_cons, List.map_nil, Nat.reduceAdd]; rfl) (by simp) ?_
        repeat' (first | (with_reducible first | refine aw_seq fun K hK => ?_ | refine aw_region (by kernel_rfl) ?_ | refine aw_condk ?_ | refine aw_block ?_) | ((with_reducible refine ev_aw ?_); first | (refine aw_draw (id := 7) (by kernel_rfl) _ _ (by kernel_rfl) (pl_Pic6_34_7 _ (by kernel_rfl)) ?_)) | (with_reducible first | refine ru_four ?_ ?_ ?_ ?_ | refine ru_three ?_ ?_ ?_ | refine ru_two ?_ ?_ | refine rp_two ?_ ?_) | ((with_reducible refine evg ?_); simp only [go_sem, St.clean, cleanO, ↓reduceIte, Nat.reduceEqDiff, Nat.reduceBEq, Nat.reduceAdd, Nat.reduceMul, Nat.reduceSub, Nat.reduceLT, Nat.reduceLeDiff]) | ((with_reducible refine ev_call ?_); (first | (refine call_fn e1 rfl ?_) | (refine call_fn e2 rfl ?_) | (refine call_fn e3 rfl ?_)); refine k_run ?_) | ((with_reducible refine ev_guard ?_); (with_reducible first | refine guard_t ?_ ?_ rfl | refine guard_f ?_ ?_ rfl) <;> (intro h; (try simp only [h]); (try simp only [nrm] at h))) | ((with_reducible refine ck_split (fun h => ?_) (fun h => ?_)) <;> (try simp only [nrm] at h)) | ((with_reducible refine And.intro ?_ ?_); (first | omega | focus (simp; done) | focus (simp; omega) | focus ((repeat' (with_reducible refine And.intro ?_ ?_)) <;> first | omega | rfl | (simp only [go_sem, refsL_app, refs_dmap] <;> fail) | (simp [refsL_app, refs_dmap, AV.refsL, AV.refs] <;> omega)))) | (with_reducible refine hJ _ (fun K hK => ?_) ?_ <;> clear hJ KJ) | ((with_reducible refine ev_less ?_); (refine ⟨rfl, ?_, ?_⟩ <;> simp only [go_sem, St.clean, cleanO, SubS, SubO, beq_self_eq_true, ↓reduceIte, Nat.reduceEqDiff, Nat.reduceBEq, Nat.reduceAdd, Nat.reduceMul, Nat.reduceSub, Nat.reduceLT, Nat.reduceLeDiff])) | ((with_reducible first | apply hK | (clear hK K; first | apply hK | (clear hK K; first | apply hK | (clear hK K; apply hK)))); clear hK K) | (simp (disch := omega) only [wr, drop_at, str_at, int_at, Int.reduceSub, Int.reduceAdd, Int.reduceToNat, Int.toNat_zero]) | fail)
        (first | refine res_tmp rfl (by simp [D.plain, plains]) (by simp) ?_ | refine res_at rfl (by simp [D.plain, plains]) (by simp) ?_ | refine res_two rfl (by simp [D.plain, plains]) (by simp) ?_ | refine res_three rfl (by simp [D.plain, plains]) (by simp) ?_)
        rfl
      · rw [gs] at e3
        have hin := okField_in (okDiv_field g)
        obtain ⟨l, rfl⟩ := Int.eq_ofNat_of_zero_le hin.2.1.1
        have e4 := l14Picture_fn d l f s (regZ (bothP rs ss)) (okDiv_field g) (regZ_good _)
        have hR : twiceR d ((l : Nat) : Int) f s rs ss = .tu [.ls 1 24 (rowsD (picZ (ctrZ d l f s (regZ (bothP rs ss))))), .bool true] := by
          rw [twiceR, g, gr, gs, Bool.and_self, Bool.and_self, if_pos rfl, Int.toNat_natCast, gridD, picZ_len]
        rw [hR]
        rw [← ints_raw (regZ (bothP rs ss)), regZ_len] at e4
        simp only [gridD, picZ_len] at e4
        have o2 := picZ_opn 46 (ctrZ d l f s (regZ (bothP rs ss))) (by decide)
        have e5 := l9Empty_fn
        have hr1 := okReg_len gr
        have hs1 := okReg_len gs
        refine fn_go Try.func34 rfl rfl Try.ntmps34 Try.results34 (by simp only [slotsOf, argAV, List.map_cons, List.map_nil, Nat.reduceAdd]; rfl) (by simp) ?_
        repeat' (first | (with_reducible first | refine aw_seq fun K hK => ?_ | refine aw_region (by kernel_rfl) ?_ | refine aw_condk ?_ | refine aw_block ?_) | ((with_reducible refine ev_aw ?_); first | (refine aw_draw (id := 7) (by kernel_rfl) _ _ (by kernel_rfl) (pl_Pic6_34_7 _ (by kernel_rfl)) ?_)) | (with_reducible first | refine ru_four ?_ ?_ ?_ ?_ | refine ru_three ?_ ?_ ?_ | refine ru_two ?_ ?_ | refine rp_two ?_ ?_) | ((with_reducible refine evg ?_); simp only [go_sem, St.clean, cleanO, ↓reduceIte, Nat.reduceEqDiff, Nat.reduceBEq, Nat.reduceAdd, Nat.reduceMul, Nat.reduceSub, Nat.reduceLT, Nat.reduceLeDiff]) | (simp (disch := omega) only [wr, drop_at, str_at, int_at, Int.reduceSub, Int.reduceAdd, Int.reduceToNat, Int.toNat_zero, wr]) | ((with_reducible refine ev_call ?_); (first | (refine call_fn e1 rfl ?_) | (refine call_fn e2 rfl ?_) | (refine call_fn e3 rfl ?_) | (refine call_new e5 (emp_opn 24) ?_ ?_ ?_ ?_; (focus rfl); (focus rfl); (focus (simp [-List.map_map, apartO, dropO, killN, obCells, refs_dmap, nofnsD, AV.refs, AV.refsL, AV.nofn, AV.nofns] <;> fail)))); refine k_run ?_) | ((with_reducible refine ev_guard ?_); (with_reducible first | refine guard_t ?_ ?_ rfl | refine guard_f ?_ ?_ rfl) <;> (intro h; (try simp only [h]); (try simp only [nrm] at h) <;> (try ((with_reducible exfalso); omega)))) | ((with_reducible refine ck_split (fun h => ?_) (fun h => ?_)) <;> (try simp only [nrm] at h) <;> (try ((with_reducible exfalso); omega))) | ((with_reducible refine And.intro ?_ ?_); (first | omega | focus (simp; done) | focus (simp; omega) | focus ((repeat' (with_reducible refine And.intro ?_ ?_)) <;> first | omega | rfl | (simp only [go_sem, refsL_app, refs_dmap] <;> fail) | (simp [refsL_app, refs_dmap, AV.refsL, AV.refs] <;> omega)))) | (with_reducible refine hJ _ (fun K hK => ?_) ?_ <;> clear hJ KJ) | ((with_reducible refine ev_less ?_); (refine ⟨rfl, ?_, ?_⟩ <;> simp only [go_sem, St.clean, cleanO, SubS, SubO, beq_self_eq_true, ↓reduceIte, Nat.reduceEqDiff, Nat.reduceBEq, Nat.reduceAdd, Nat.reduceMul, Nat.reduceSub, Nat.reduceLT, Nat.reduceLeDiff])) | ((with_reducible first | apply hK | (clear hK K; first | apply hK | (clear hK K; first | apply hK | (clear hK K; apply hK)))); clear hK K) | fail)
        have hx := fun y : Nat => row_xor gr gs (y := y)
        have hrb := fun y : Nat => fun hy : y < 24 => okRow_lt (okReg_row gr (i := y) hy)
        have hsb := fun y : Nat => fun hy : y < 24 => okRow_lt (okReg_row gs (i := y) hy)
        refine aw_loopU [9, 25, 26, 27, 28, 29, 30, 31, 32, 33, 34, 35, 36, 37, 38, 39, 40, 41, 42, 43] [24] (fun y : Nat => [(9, .d (.int y))]) (fun y => [(24, .ds ((rowsM (rowI (bothP rs ss)) y).map D.int))]) (fun y => y ≤ 24) (fun y => 24 - y) 0 (by omega) ?_ ?_
        · (refine lessW_of [] rfl ?_ <;> simp only [St.sws, St.sw, swS, swO, AV.sw, AV.swL, OB.sw, swp, St.upd, dropS, dropOs, Less, SubS, SubO, look, lookO, List.elem, List.cons_append, List.nil_append, cond_true, cond_false, and_true, true_and, beq_self_eq_true, ↓reduceIte, Nat.reduceEqDiff, Nat.reduceBEq, Nat.reduceAdd, Nat.reduceMul, Nat.reduceSub, Nat.reduceLT, Nat.reduceLeDiff] <;> try simp)
          rfl
        · rintro y y1
          simp only [St.upd, dropS, dropOs, List.elem, List.cons_append, List.nil_append, cond_true, cond_false, beq_self_eq_true, ↓reduceIte, Nat.reduceEqDiff, Nat.reduceBEq, Nat.reduceAdd, Nat.reduceMul, Nat.reduceSub, Nat.reduceLT, Nat.reduceLeDiff]
          by_cases hy : y < 24
          · have hxy := hx y hy
            have hcl := rowsM_clen (f := rowI (bothP rs ss)) y1
            have hst := rowsM_step (f := rowI (bothP rs ss)) hy
            repeat' (first | (with_reducible first | refine aw_seq fun K hK => ?_ | refine aw_region (by kernel_rfl) ?_ | refine aw_condk ?_ | refine aw_block ?_) | ((with_reducible refine ev_aw ?_); first | (refine aw_draw (id := 7) (by kernel_rfl) _ _ (by kernel_rfl) (pl_Pic6_34_7 _ (by kernel_rfl)) ?_)) | (with_reducible first | refine ru_four ?_ ?_ ?_ ?_ | refine ru_three ?_ ?_ ?_ | refine ru_two ?_ ?_ | refine rp_two ?_ ?_) | ((with_reducible refine evg ?_); simp only [go_sem, St.clean, cleanO, ↓reduceIte, Nat.reduceEqDiff, Nat.reduceBEq, Nat.reduceAdd, Nat.reduceMul, Nat.reduceSub, Nat.reduceLT, Nat.reduceLeDiff]) | (simp (disch := omega) only [wr, drop_at, str_at, int_at, Int.reduceSub, Int.reduceAdd, Int.reduceToNat, Int.toNat_zero, wr, getD_nat, hxy, hcl, hst]) | ((with_reducible refine ev_guard ?_); (with_reducible first | refine guard_t ?_ ?_ rfl | refine guard_f ?_ ?_ rfl) <;> (intro h; (try simp only [h]); (try simp only [nrm] at h) <;> (try ((with_reducible exfalso); omega)))) | ((with_reducible refine ck_split (fun h => ?_) (fun h => ?_)) <;> (try simp only [nrm] at h) <;> (try ((with_reducible exfalso); omega))) | ((with_reducible refine And.intro ?_ ?_); (first | omega | focus (simp; done) | focus (simp; omega) | focus ((repeat' (with_reducible refine And.intro ?_ ?_)) <;> first | omega | rfl | (simp only [go_sem, refsL_app, refs_dmap] <;> fail) | (simp [refsL_app, refs_dmap, AV.refsL, AV.refs] <;> omega)))) | (with_reducible refine hJ _ (fun K hK => ?_) ?_ <;> clear hJ KJ) | ((with_reducible refine ev_less ?_); (refine ⟨rfl, ?_, ?_⟩ <;> simp only [go_sem, St.clean, cleanO, SubS, SubO, beq_self_eq_true, ↓reduceIte, Nat.reduceEqDiff, Nat.reduceBEq, Nat.reduceAdd, Nat.reduceMul, Nat.reduceSub, Nat.reduceLT, Nat.reduceLeDiff])) | ((with_reducible first | apply hK | (clear hK K; first | apply hK | (clear hK K; first | apply hK | (clear hK K; apply hK)))); clear hK K) | fail)
            refine ⟨y + 1, by omega, by omega, ?_⟩
            (refine lessW_of [] rfl ?_ <;> simp only [St.sws, St.sw, swS, swO, AV.sw, AV.swL, OB.sw, swp, St.upd, dropS, dropOs, Less, SubS, SubO, look, lookO, List.elem, List.cons_append, List.nil_append, cond_true, cond_false, and_true, true_and, beq_self_eq_true, ↓reduceIte, Nat.reduceEqDiff, Nat.reduceBEq, Nat.reduceAdd, Nat.reduceMul, Nat.reduceSub, Nat.reduceLT, Nat.reduceLeDiff] <;> try simp)
          · have e : y = 24 := by omega
            subst e
            rw [rowsM_end rfl]
            repeat' (first | (with_reducible first | refine aw_seq fun K hK => ?_ | refine aw_region (by kernel_rfl) ?_ | refine aw_condk ?_ | refine aw_block ?_) | ((with_reducible refine ev_aw ?_); first | (refine aw_draw (id := 7) (by kernel_rfl) _ _ (by kernel_rfl) (pl_Pic6_34_7 _ (by kernel_rfl)) ?_)) | (with_reducible first | refine ru_four ?_ ?_ ?_ ?_ | refine ru_three ?_ ?_ ?_ | refine ru_two ?_ ?_ | refine rp_two ?_ ?_) | ((with_reducible refine evg ?_); simp only [go_sem, St.clean, cleanO, ↓reduceIte, Nat.reduceEqDiff, Nat.reduceBEq, Nat.reduceAdd, Nat.reduceMul, Nat.reduceSub, Nat.reduceLT, Nat.reduceLeDiff]) | (simp (disch := omega) only [wr, drop_at, str_at, int_at, Int.reduceSub, Int.reduceAdd, Int.reduceToNat, Int.toNat_zero, wr]) | ((with_reducible refine ev_call ?_); (first | (refine call_new e4 o2 ?_ ?_ ?_ ?_; (focus first | rfl | ((try simp only [List.nil_append, List.append_nil, List.cons_append]); (repeat' first | (with_reducible refine mapD_cons ?_ ?_) | exact mapD_nil | exact toD_d | (apply toD_grid <;> (simp (disch := omega) only [lookO, lookO_lo, lookO_hi, hasG_nil, hasG_cons, hasG_self, hasG_lo, hasG_hi, lens_len, Nat.reduceEqDiff, ↓reduceIte]; first | done | rfl)) | (apply toD_nums <;> (simp (disch := omega) only [lookO, lookO_lo, lookO_hi, hasG_nil, hasG_cons, hasG_self, hasG_lo, hasG_hi, lens_len, Nat.reduceEqDiff, ↓reduceIte]; first | done | rfl)) | (apply toD_reg <;> (simp (disch := omega) only [lookO, lookO_lo, lookO_hi, hasG_nil, hasG_cons, hasG_self, hasG_lo, hasG_hi, lens_len, Nat.reduceEqDiff, ↓reduceIte]; first | done | rfl)) | (refine toD_rows ?_ rfl <;> (simp (disch := omega) only [lookO, lookO_lo, lookO_hi, hasG_nil, hasG_cons, hasG_self, hasG_lo, hasG_hi, lens_len, Nat.reduceEqDiff, ↓reduceIte]; first | done | rfl))) <;> fail)); (focus (simp [newN, lookO, newN_all, ltAll, ltAll_grid, ltAll_grid0] <;> fail)); (focus (simp (disch := omega) only [dropO, killN, dropO_grid, killR_nil, killR_cons, killR_grid, killR_hi, killN_grid, apartO, Nat.reduceEqDiff, ↓reduceIte]; (first | (rw [apartO_hi ?_ ?_]; rotate_left; (focus omega); (focus (simp [AV.lo, AV.loL] <;> fail))) | (rw [apartO_lo ?_ ?_]; rotate_left; (focus (simp (disch := omega) [loO_ds, loO_av, loO_nil, loO_grid, loL_gridC] <;> fail)); (focus (simp [AV.lo, AV.loL] <;> fail))) | skip); (simp [-List.map_map, apartO, dropO, killN, obCells, refs_dmap, nofnsD, AV.refs, AV.refsL, AV.nofn, AV.nofns, all_grid, gridC_refs, gridC_refsR, gridC_nofns] <;> fail))))); refine k_run ?_) | ((with_reducible refine ev_guard ?_); (with_reducible first | refine guard_t ?_ ?_ rfl | refine guard_f ?_ ?_ rfl) <;> (intro h; (try simp only [h]); (try simp only [nrm] at h) <;> (try ((with_reducible exfalso); omega)))) | ((with_reducible refine ck_split (fun h => ?_) (fun h => ?_)) <;> (try simp only [nrm] at h) <;> (try ((with_reducible exfalso); omega))) | ((with_reducible refine And.intro ?_ ?_); (first | omega | focus (simp; done) | focus (simp; omega) | focus ((repeat' (with_reducible refine And.intro ?_ ?_)) <;> first | omega | rfl | (simp only [go_sem, refsL_app, refs_dmap] <;> fail) | (simp [refsL_app, refs_dmap, AV.refsL, AV.refs] <;> omega)))) | (with_reducible refine hJ _ (fun K hK => ?_) ?_ <;> clear hJ KJ) | ((with_reducible refine ev_less ?_); (refine ⟨rfl, ?_, ?_⟩ <;> simp only [go_sem, St.clean, cleanO, SubS, SubO, beq_self_eq_true, ↓reduceIte, Nat.reduceEqDiff, Nat.reduceBEq, Nat.reduceAdd, Nat.reduceMul, Nat.reduceSub, Nat.reduceLT, Nat.reduceLeDiff])) | ((with_reducible first | apply hK | (clear hK K; first | apply hK | (clear hK K; first | apply hK | (clear hK K; apply hK)))); clear hK K) | fail)
            exact res_gridB rfl rfl (by rw [picZ_lens]; rfl) (by rw [hasG_cons (by decide)]; exact of_eq_true hasG_self) (by rw [picZ_len]) (by decide) rfl

set_option maxRecDepth 100000 in
theorem pl_Pic6_35_3 (l : List Oper) (h : l = opsOf Try.f35 3) : planB l (.pure 0 (.pure 1 (.one 2 (.one 3 (.pure 4 (.pure 5 (.pure 6 (.pure 7 PT.fin)))))))) [] = true := by
  subst h
  kernel_rfl

set_option maxRecDepth 100000 in
set_option maxHeartbeats 4000000 in
theorem implTwice_fn (d l f s : Int) (rs ss : List Int) (hl : rs.length ≤ 9223372036854775807) (hi : inI rs) (hl2 : ss.length ≤ 9223372036854775807) (hi2 : inI ss) : FnD Try.prog 35 [.ag [.int d, .int l, .int f, .int s], .ag [intL rs], .ag [intL ss]] (twiceR d l f s rs ss) := by
  have e1 := isValidRegion_fn rs hl hi
  have e2 := isValidRegion_fn ss hl2 hi2
  have hnil : leD (.tu [.v (.slice none 0 0), .bool false]) (.tu [gridD [], .bool false]) := leD_tu (lesD_cons leD_nil (lesD_refl _))
  cases gr : okReg rs
  · rw [gr] at e1
    rw [twiceR, gr, Bool.and_false, Bool.false_and]
    refine fnd_le ?_ hnil
    refine fn_go Try.func35 rfl rfl Try.ntmps35 Try.results35 (by simp only [slotsOf, argAV, List.map_cons, List.map_nil, Nat.reduceAdd]; rfl) (by simp) ?_
    repeat' (first | (with_reducible first | refine aw_seq fun K hK => ?_ | refine aw_region (by kernel_rfl) ?_ | refine aw_condk ?_ | refine aw_block ?_) | ((with_reducible refine ev_aw ?_); first | (refine aw_draw (id := 3) (by kernel_rfl) _ _ (by kernel_rfl) (pl_Pic6_35_3 _ (by kernel_rfl)) ?_)) | (with_reducible first | refine ru_four ?_ ?_ ?_ ?_ | refine ru_three ?_ ?_ ?_ | refine ru_two ?_ ?_ | refine rp_two ?_ ?_) | ((with_reducible refine evg ?_); simp only [go_sem, St.clean, cleanO, ↓reduceIte, Nat.reduceEqDiff, Nat.reduceBEq, Nat.reduceAdd, Nat.reduceMul, Nat.reduceSub, Nat.reduceLT, Nat.reduceLeDiff]) | ((with_reducible refine ev_call ?_); (first | (refine call_fn e1 rfl ?_)); refine k_run ?_) | ((with_reducible refine ev_guard ?_); (with_reducible first | refine guard_t ?_ ?_ rfl | refine guard_f ?_ ?_ rfl) <;> (intro h; (try simp only [h]); (try simp only [nrm] at h))) | ((with_reducible refine ck_split (fun h => ?_) (fun h => ?_)) <;> (try simp only [nrm] at h)) | ((with_reducible refine And.intro ?_ ?_); (first | omega | focus (simp; done) | focus (simp; omega) | focus ((repeat' (with_reducible refine And.intro ?_ ?_)) <;> first | omega | rfl | (simp only [go_sem, refsL_app, refs_dmap] <;> fail) | (simp [refsL_app, refs_dmap, AV.refsL, AV.refs] <;> omega)))) | (with_reducible refine hJ _ (fun K hK => ?_) ?_ <;> clear hJ KJ) | ((with_reducible refine ev_less ?_); (refine ⟨rfl, ?_, ?_⟩ <;> simp only [go_sem, St.clean, cleanO, SubS, SubO, beq_self_eq_true, ↓reduceIte, Nat.reduceEqDiff, Nat.reduceBEq, Nat.reduceAdd, Nat.reduceMul, Nat.reduceSub, Nat.reduceLT, Nat.reduceLeDiff])) | ((with_reducible first | apply hK | (clear hK K; first | apply hK | (clear hK K; first | apply hK | (clear hK K; apply hK)))); clear hK K) | (simp (disch := omega) only [wr, drop_at, str_at, int_at, Int.reduceSub, Int.reduceAdd, Int.reduceToNat, Int.toNat_zero]) | fail)
    (first | refine res_tmp rfl (by simp [D.plain, plains]) (by simp) ?_ | refine res_at rfl (by simp [D.plain, plains]) (by simp) ?_ | refine res_two rfl (by simp [D.plain, plains]) (by simp) ?_ | refine res_three rfl (by simp [D.plain, plains]) (by simp) ?_)
    rfl
  · rw [gr] at e1
    cases gs : okReg ss
    · rw [gs] at e2
      rw [twiceR, gs, Bool.and_false]
      refine fnd_le ?_ hnil
      refine fn_go Try.func35 rfl rfl Try.ntmps35 Try.results35 (by simp only [slotsOf, argAV, List.map_cons, List.map_nil, Nat.reduceAdd]; rfl) (by simp) ?_
      repeat' (first | (with_reducible first | refine aw_seq fun K hK => ?_ | refine aw_region (by kernel_rfl) ?_ | refine aw_condk ?_ | refine aw_block ?_) | ((with_reducible refine ev_aw ?_); first | (refine aw_draw (id := 3) (by kernel_rfl) _ _ (by kernel_rfl) (pl_Pic6_35_3 _ (by kernel_rfl)) ?_)) | (with_reducible first | refine ru_four ?_ ?_ ?_ ?_ | refine ru_three ?_ ?_ ?_ | refine ru_two ?_ ?_ | refine rp_two ?_ ?_) | ((with_reducible refine evg ?_); simp only [go_sem, St.clean, cleanO, ↓reduceIte, Nat.reduceEqDiff, Nat.reduceBEq, Nat.reduceAdd, Nat.reduceMul, Nat.reduceSub, Nat.reduceLT, Nat.reduceLeDiff]) | ((with_reducible refine ev_call ?_); (first | (refine call_fn e1 rfl ?_) | (refine call_fn e2 rfl ?_)); refine k_run ?_) | ((with_reducible refine ev_guard ?_); (with_reducible first | refine guard_t ?_ ?_ rfl | refine guard_f ?_ ?_ rfl) <;> (intro h; (try simp only [h]); (try simp only [nrm] at h))) | ((with_reducible refine ck_split (fun h => ?_) (fun h => ?_)) <;> (try simp only [nrm] at h)) | ((with_reducible refine And.intro ?_ ?_); (first | omega | focus (simp; done) | focus (simp; omega) | focus ((repeat' (with_reducible refine And.intro ?_ ?_)) <;> first | omega | rfl | (simp only [go_sem, refsL_app, refs_dmap] <;> fail) | (simp [refsL_app, refs_dmap, AV.refsL, AV.refs] <;> omega)))) | (with_reducible refine hJ _ (fun K hK => ?_) ?_ <;> clear hJ KJ) | ((with_reducible refine ev_less ?_); (refine ⟨rfl, ?_, ?_⟩ <;> simp only [go_sem, St.clean, cleanO, SubS, SubO, beq_self_eq_true, ↓reduceIte, Nat.reduceEqDiff, Nat.reduceBEq, Nat.reduceAdd, Nat.reduceMul, Nat.reduceSub, Nat.reduceLT, Nat.reduceLeDiff])) | ((with_reducible first | apply hK | (clear hK K; first | apply hK | (clear hK K; first | apply hK | (clear hK K; apply hK)))); clear hK K) | (simp (disch := omega) only [wr, drop_at, str_at, int_at, Int.reduceSub, Int.reduceAdd, Int.reduceToNat, Int.toNat_zero]) | fail)
      (first | refine res_tmp rfl (by simp [D.plain, plains]) (by simp) ?_ | refine res_at rfl (by simp [D.plain, plains]) (by simp) ?_ | refine res_two rfl (by simp [D.plain, plains]) (by simp) ?_ | refine res_three rfl (by simp [D.plain, plains]) (by simp) ?_)
      rfl
    · rw [gs] at e2
      have e3 := regionOf_fn (bothP rs ss)
      have e4 : ∀ ds, isXY ds → FnD Try.prog 82 ([] ++ ds ++ [.pt [intL rs], .pt [intL ss]]) (hXY (bothP rs ss) ds) := by
        rintro ds ⟨x, y, rfl, _⟩
        exact twice1_fn rs ss gr gs x y
      have e5 := (twice1_fn rs ss gr gs 0 0).1
      have e6 := implCtr_fn d l f s (regZ (bothP rs ss)) (by simp) (inI_regZ _)
      have hR : twiceR d l f s rs ss = ctrR d l f s (regZ (bothP rs ss)) := by
        rw [twiceR, ctrR, gr, gs, regZ_good, Bool.and_true, Bool.and_true]
      rw [hR]
      obtain ⟨ws, ok, e, hw1, hw2⟩ := ctrR_ex d l f s (regZ (bothP rs ss))
      rw [e] at e6 ⊢
      rw [← ints_raw (regZ (bothP rs ss)), regZ_len] at e6
      have o2 := gridR_opn 19 ws ok (by decide)
      simp only [gridD] at e6 o2
      refine fn_go Try.func35 rfl rfl Try.ntmps35 Try.results35 (by simp only [slotsOf, argAV, List.map_cons, List.map_nil, Nat.reduceAdd]; rfl) (by simp) ?_
      repeat' (first | (with_reducible first | refine aw_seq fun K hK => ?_ | refine aw_region (by kernel_rfl) ?_ | refine aw_condk ?_ | refine aw_block ?_) | ((with_reducible refine ev_aw ?_); first | (refine aw_draw (id := 3) (by kernel_rfl) _ _ (by kernel_rfl) (pl_Pic6_35_3 _ (by kernel_rfl)) ?_)) | (with_reducible first | refine ru_four ?_ ?_ ?_ ?_ | refine ru_three ?_ ?_ ?_ | refine ru_two ?_ ?_ | refine rp_two ?_ ?_) | ((with_reducible refine evg ?_); simp only [go_sem, St.clean, cleanO, ↓reduceIte, Nat.reduceEqDiff, Nat.reduceBEq, Nat.reduceAdd, Nat.reduceMul, Nat.reduceSub, Nat.reduceLT, Nat.reduceLeDiff]) | (simp (disch := omega) only [wr, drop_at, str_at, int_at, Int.reduceSub, Int.reduceAdd, Int.reduceToNat, Int.toNat_zero, wr]) | ((with_reducible refine ev_call ?_); (first | (refine call_fn e1 rfl ?_) | (refine call_fn e2 rfl ?_) | (refine call_pred1 e3 e5 rfl rfl e4 ?_ ) | (refine call_new e6 o2 ?_ ?_ ?_ ?_; (focus first | rfl | ((try simp only [List.nil_append, List.append_nil, List.cons_append]); (repeat' first | (with_reducible refine mapD_cons ?_ ?_) | exact mapD_nil | exact toD_d | (apply toD_grid <;> (simp (disch := omega) only [lookO, lookO_lo, lookO_hi, hasG_nil, hasG_cons, hasG_self, hasG_lo, hasG_hi, lens_len, Nat.reduceEqDiff, ↓reduceIte]; first | done | rfl)) | (apply toD_nums <;> (simp (disch := omega) only [lookO, lookO_lo, lookO_hi, hasG_nil, hasG_cons, hasG_self, hasG_lo, hasG_hi, lens_len, Nat.reduceEqDiff, ↓reduceIte]; first | done | rfl)) | (apply toD_reg <;> (simp (disch := omega) only [lookO, lookO_lo, lookO_hi, hasG_nil, hasG_cons, hasG_self, hasG_lo, hasG_hi, lens_len, Nat.reduceEqDiff, ↓reduceIte]; first | done | rfl)) | (refine toD_rows ?_ rfl <;> (simp (disch := omega) only [lookO, lookO_lo, lookO_hi, hasG_nil, hasG_cons, hasG_self, hasG_lo, hasG_hi, lens_len, Nat.reduceEqDiff, ↓reduceIte]; first | done | rfl))) <;> fail)); (focus (simp [newN, lookO, newN_all, ltAll, ltAll_grid, ltAll_grid0] <;> fail)); (focus (simp (disch := omega) only [dropO, killN, dropO_grid, killR_nil, killR_cons, killR_grid, killR_hi, killN_grid, apartO, Nat.reduceEqDiff, ↓reduceIte]; (first | (rw [apartO_hi ?_ ?_]; rotate_left; (focus omega); (focus (simp [AV.lo, AV.loL] <;> fail))) | (rw [apartO_lo ?_ ?_]; rotate_left; (focus (simp (disch := omega) [loO_ds, loO_av, loO_nil, loO_grid, loL_gridC] <;> fail)); (focus (simp [AV.lo, AV.loL] <;> fail))) | skip); (simp [-List.map_map, apartO, dropO, killN, obCells, refs_dmap, nofnsD, AV.refs, AV.refsL, AV.nofn, AV.nofns, all_grid, gridC_refs, gridC_refsR, gridC_nofns] <;> fail))))); refine k_run ?_) | ((with_reducible refine ev_guard ?_); (with_reducible first | refine guard_t ?_ ?_ rfl | refine guard_f ?_ ?_ rfl) <;> (intro h; (try simp only [h]); (try simp only [nrm] at h) <;> (try ((with_reducible exfalso); omega)))) | ((with_reducible refine ck_split (fun h => ?_) (fun h => ?_)) <;> (try simp only [nrm] at h) <;> (try ((with_reducible exfalso); omega))) | ((with_reducible refine And.intro ?_ ?_); (first | omega | focus (simp; done) | focus (simp; omega) | focus ((repeat' (with_reducible refine And.intro ?_ ?_)) <;> first | omega | rfl | (simp only [go_sem, refsL_app, refs_dmap] <;> fail) | (simp [refsL_app, refs_dmap, AV.refsL, AV.refs] <;> omega)))) | (with_reducible refine hJ _ (fun K hK => ?_) ?_ <;> clear hJ KJ) | ((with_reducible refine ev_less ?_); (refine ⟨rfl, ?_, ?_⟩ <;> simp only [go_sem, St.clean, cleanO, SubS, SubO, beq_self_eq_true, ↓reduceIte, Nat.reduceEqDiff, Nat.reduceBEq, Nat.reduceAdd, Nat.reduceMul, Nat.reduceSub, Nat.reduceLT, Nat.reduceLeDiff])) | ((with_reducible first | apply hK | (clear hK K; first | apply hK | (clear hK K; first | apply hK | (clear hK K; apply hK)))); clear hK K) | fail)
      exact res_gridB rfl rfl rfl (by rw [hasG_cons (by decide)]; exact of_eq_true hasG_self) rfl (by decide) rfl

end Go.Proofs.Ytaegdaimjhhgpaa
