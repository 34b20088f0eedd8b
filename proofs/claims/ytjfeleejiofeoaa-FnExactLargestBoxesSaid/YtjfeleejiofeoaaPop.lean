/- How many bits a small number has: the library's count is at most 24, and 0 exactly for 0. -/
import Derived.Test.YtjfeleejiofeoaaRegion2
import Derived.WalkKit
import Derived.WalkSpells
import Derived.KernelRfl
namespace Go.Proofs.Ytjfeleejiofeoaa
open Go.RowKit
set_option linter.unusedVariables false
set_option linter.unusedSimpArgs false
attribute [local go_sem] ruk ru_fin ru_pure ru_still ru_one rau_some rs_n rs_t rs_c rs_k jr_1 jr_2 jr_3 ps_r ps_n St.after killSs killOs newN dropO killN allU fillP rn_build listT rap_some rp_one rp_pure rp_fin rpk guard_ud ck_t ck_f rik Int.toNat_natCast drop_at kx_r kx_e in_n in_r in_e po_n po_r rn_nil rn_guard guard_tt guard_ff guard_tf guard_ft guard_un next_some rn_call rn_move rn_assign rn_pick rn_alloc rn_box rn_buildSlice rn_load rn_store rn_nilCheck rn_binOp rn_unOp rn_convert rn_makeFunc rn_makeSlice rn_slice rn_fieldAddr rn_field rn_indexAddr rn_index rn_extract rn_builtin stepOp actOp pureOp St.ev look AV.split AV.one St.new St.puto St.put put killS killO lookO putO delO AV.refs AV.refsL OB.refs St.adopt adoptL loadD loadA tAgg guardOf binD unD pick_t pick_f pick_b one_s one_i one_b one_l one_p rc_eq rc_some AV.pack allD storeOb fillA denseA buildA obCells srcCells OB.fill OB.join obOf zeroD kx_n ri_nil ri_cons ra_some inB eqInts Bool.false_eq_true Bool.or_false Bool.or_self List.drop_succ_cons List.drop_zero List.take_succ_cons List.take_zero List.take_nil List.drop_nil List.getD_cons_zero List.getD_cons_succ ne_eq not_false_eq_true Nat.zero_add Nat.add_zero Bool.not_true Bool.not_false cond_true cond_false true_and and_true List.map_cons List.map_nil List.length_cons List.length_nil List.getElem?_toArray List.getElem?_cons_zero List.getElem?_cons_succ Option.map_some Option.map_none Option.isSome_some List.nil_append List.cons_append List.append_nil Int.toNat_zero Nat.zero_mul Nat.mul_one cells_1 cells_2 cells_3 cells_4 cells_5 cells_6 cells_7 cells_8 cells_9 cells_10 cells_11 cells_12 cells_13 cells_14 cells_15 cells_16 cells_17 cells_18 cells_19 cells_21 cells_22 cells_23 cells_25 cells_26 cells_27 cells_28 cells_29 cells_30 cells_31 cells_32 cells_33 cells_34 cells_35 cells_36 cells_37 cells_38 cells_39 cells_40 cells_41 cells_42 cells_44 cells_45 cells_47 cells_48 cells_49 cells_50 cells_52 cells_53 cells_54 cells_55 cells_56 cells_57 cells_58 cells_60 cells_62 cells_63 cells_64 cells_65 cells_66 cells_67 cells_68 cells_69 cells_70 cells_71 cells_72 cells_73 cells_74 cells_75 cells_76 cells_77 cells_78 cells_79 cells_80 cells_81 cells_82 cells_83 cells_84 cells_85 cells_86 cells_87 cells_88 cells_89 cells_90 cells_91 cells_92 cells_93 cells_94 cells_95 cells_96 cells_97 cells_98 cells_99 cells_100 cells_101 cells_102 cells_103 cells_104 cells_105 cells_106 cells_107 cells_108 cells_109 cells_110 cells_111 cells_112 cells_113 cells_114 cells_115 cells_116 cells_117 cells_118 cells_119 cells_120 cells_121 cells_122 cells_123 cells_124 cells_125 cells_126 cells_127 cells_128 cells_129 cells_130 cells_131 cells_132 cells_133 cells_134 cells_135 cells_136 cells_137 cells_138 cells_139 cells_140 cells_141 cells_142 cells_143 cells_144 cells_145 cells_146 cells_147 cells_148 cells_149 cells_150 cells_151 cells_152 cells_153 cells_154 cells_155 cells_156 cells_157 zeroOk_1 bytes_1 zeroOk_2 bytes_2 zeroV_2 zeroOk_3 bytes_3 zeroV_3 zeroOk_4 bytes_4 zeroV_4 zeroOk_5 bytes_5 zeroV_5 zeroOk_6 bytes_6 zeroV_6 zeroOk_7 bytes_7 zeroV_7 zeroOk_8 bytes_8 zeroV_8 zeroOk_9 bytes_9 zeroV_9 zeroOk_10 bytes_10 zeroV_10 zeroOk_11 bytes_11 zeroV_11 zeroOk_12 bytes_12 zeroV_12 zeroOk_13 bytes_13 zeroV_13 zeroOk_14 bytes_14 zeroV_14 zeroOk_15 bytes_15 zeroV_15 zeroOk_16 bytes_16 zeroV_16 zeroOk_17 bytes_17 zeroV_17 zeroOk_18 bytes_18 zeroV_18 zeroOk_19 bytes_19 zeroV_19 zeroOk_21 bytes_21 zeroV_21 zeroOk_22 bytes_22 zeroV_22 zeroOk_23 bytes_23 zeroOk_25 bytes_25 zeroOk_26 bytes_26 zeroV_26 zeroOk_27 bytes_27 zeroOk_28 bytes_28 zeroOk_29 bytes_29 zeroOk_30 bytes_30 zeroV_30 zeroOk_31 bytes_31 zeroV_31 zeroOk_32 bytes_32 zeroV_32 zeroOk_33 bytes_33 zeroV_33 zeroOk_34 bytes_34 zeroV_34 zeroOk_35 bytes_35 zeroOk_36 bytes_36 zeroOk_37 bytes_37 zeroV_37 zeroOk_38 bytes_38 zeroOk_39 bytes_39 zeroV_39 zeroOk_40 bytes_40 zeroOk_41 bytes_41 zeroOk_42 bytes_42 zeroOk_44 bytes_44 zeroOk_45 bytes_45 zeroOk_47 bytes_47 zeroOk_48 bytes_48 zeroOk_49 bytes_49 zeroOk_50 bytes_50 zeroOk_52 bytes_52 zeroOk_53 bytes_53 zeroOk_54 bytes_54 zeroOk_55 bytes_55 zeroOk_56 bytes_56 zeroOk_57 bytes_57 zeroV_57 zeroOk_58 bytes_58 zeroOk_60 bytes_60 zeroOk_62 bytes_62 zeroOk_63 bytes_63 zeroOk_64 bytes_64 zeroV_64 zeroOk_65 bytes_65 zeroV_65 zeroOk_66 bytes_66 zeroV_66 zeroOk_67 bytes_67 zeroOk_68 bytes_68 zeroOk_69 bytes_69 zeroV_69 zeroOk_70 bytes_70 zeroV_70 zeroOk_71 bytes_71 zeroV_71 zeroOk_72 bytes_72 zeroOk_73 bytes_73 zeroOk_74 bytes_74 zeroOk_75 bytes_75 zeroOk_76 bytes_76 zeroOk_77 bytes_77 zeroOk_78 bytes_78 zeroOk_79 bytes_79 zeroOk_80 bytes_80 zeroOk_81 bytes_81 zeroOk_82 bytes_82 zeroOk_83 bytes_83 zeroV_83 zeroOk_84 bytes_84 zeroOk_85 bytes_85 zeroOk_86 bytes_86 zeroV_86 zeroOk_87 bytes_87 zeroOk_88 bytes_88 zeroV_88 zeroOk_89 bytes_89 zeroOk_90 bytes_90 zeroOk_91 bytes_91 zeroV_91 zeroOk_92 bytes_92 zeroOk_93 bytes_93 zeroOk_94 bytes_94 zeroOk_95 bytes_95 zeroOk_96 bytes_96 zeroOk_97 bytes_97 zeroV_97 zeroOk_98 bytes_98 zeroV_98 zeroOk_99 bytes_99 zeroOk_100 bytes_100 zeroOk_101 bytes_101 zeroOk_102 bytes_102 zeroOk_103 bytes_103 zeroOk_104 bytes_104 zeroOk_105 bytes_105 zeroOk_106 bytes_106 zeroOk_107 bytes_107 zeroOk_108 bytes_108 zeroOk_109 bytes_109 zeroV_109 zeroOk_110 bytes_110 zeroOk_111 bytes_111 zeroOk_112 bytes_112 zeroV_112 zeroOk_113 bytes_113 zeroV_113 zeroOk_114 bytes_114 zeroV_114 zeroOk_115 bytes_115 zeroV_115 zeroOk_116 bytes_116 zeroV_116 zeroOk_117 bytes_117 zeroV_117 zeroOk_118 bytes_118 zeroOk_119 bytes_119 zeroV_119 zeroOk_120 bytes_120 zeroV_120 zeroOk_121 bytes_121 zeroV_121 zeroOk_122 bytes_122 zeroV_122 zeroOk_123 bytes_123 zeroOk_124 bytes_124 zeroOk_125 bytes_125 zeroOk_126 bytes_126 zeroOk_127 bytes_127 zeroV_127 zeroOk_128 bytes_128 zeroOk_129 bytes_129 zeroOk_130 bytes_130 zeroOk_131 bytes_131 zeroOk_132 bytes_132 zeroOk_133 bytes_133 zeroOk_134 bytes_134 zeroOk_135 bytes_135 zeroOk_136 bytes_136 zeroOk_137 bytes_137 zeroOk_138 bytes_138 zeroOk_139 bytes_139 zeroOk_140 bytes_140 zeroOk_141 bytes_141 zeroOk_142 bytes_142 zeroV_142 zeroOk_143 bytes_143 zeroOk_144 bytes_144 zeroOk_145 bytes_145 zeroV_145 zeroOk_146 bytes_146 zeroV_146 zeroOk_147 bytes_147 zeroV_147 zeroOk_148 bytes_148 zeroV_148 zeroOk_149 bytes_149 zeroV_149 zeroOk_150 bytes_150 zeroV_150 zeroOk_151 bytes_151 zeroV_151 zeroOk_152 bytes_152 zeroOk_153 bytes_153 zeroV_153 zeroOk_154 bytes_154 zeroV_154 zeroOk_155 bytes_155 zeroV_155 zeroOk_156 bytes_156 zeroOk_157 bytes_157 seq_113 seq_115 seq_117 seq_39 Try.underlying1 Try.underlying2 Try.underlying3 Try.underlying4 Try.underlying5 Try.underlying6 Try.underlying7 Try.underlying8 Try.underlying9 Try.underlying10 Try.underlying11 Try.underlying12 Try.underlying13 Try.underlying14 Try.underlying15 Try.underlying16 Try.underlying17 Try.underlying18 Try.underlying19 Try.underlying21 Try.underlying22 Try.underlying23 Try.underlying25 Try.underlying26 Try.underlying27 Try.underlying28 Try.underlying29 Try.underlying30 Try.underlying31 Try.underlying32 Try.underlying33 Try.underlying34 Try.underlying35 Try.underlying36 Try.underlying37 Try.underlying38 Try.underlying39 Try.underlying40 Try.underlying41 Try.underlying42 Try.underlying44 Try.underlying45 Try.underlying47 Try.underlying48 Try.underlying49 Try.underlying50 Try.underlying52 Try.underlying53 Try.underlying54 Try.underlying55 Try.underlying56 Try.underlying57 Try.underlying58 Try.underlying60 Try.underlying62 Try.underlying63 Try.underlying64 Try.underlying65 Try.underlying66 Try.underlying67 Try.underlying68 Try.underlying69 Try.underlying70 Try.underlying71 Try.underlying72 Try.underlying73 Try.underlying74 Try.underlying75 Try.underlying76 Try.underlying77 Try.underlying78 Try.underlying79 Try.underlying80 Try.underlying81 Try.underlying82 Try.underlying83 Try.underlying84 Try.underlying85 Try.underlying86 Try.underlying87 Try.underlying88 Try.underlying89 Try.underlying90 Try.underlying91 Try.underlying92 Try.underlying93 Try.underlying94 Try.underlying95 Try.underlying96 Try.underlying97 Try.underlying98 Try.underlying99 Try.underlying100 Try.underlying101 Try.underlying102 Try.underlying103 Try.underlying104 Try.underlying105 Try.underlying106 Try.underlying107 Try.underlying108 Try.underlying109 Try.underlying110 Try.underlying111 Try.underlying112 Try.underlying113 Try.underlying114 Try.underlying115 Try.underlying116 Try.underlying117 Try.underlying118 Try.underlying119 Try.underlying120 Try.underlying121 Try.underlying122 Try.underlying123 Try.underlying124 Try.underlying125 Try.underlying126 Try.underlying127 Try.underlying128 Try.underlying129 Try.underlying130 Try.underlying131 Try.underlying132 Try.underlying133 Try.underlying134 Try.underlying135 Try.underlying136 Try.underlying137 Try.underlying138 Try.underlying139 Try.underlying140 Try.underlying141 Try.underlying142 Try.underlying143 Try.underlying144 Try.underlying145 Try.underlying146 Try.underlying147 Try.underlying148 Try.underlying149 Try.underlying150 Try.underlying151 Try.underlying152 Try.underlying153 Try.underlying154 Try.underlying155 Try.underlying156 Try.underlying157

attribute [local go_sem] intL

attribute [local simp] ints_plain ints_all ints_all1 ints_plain_take

/-- One step of counting bits: neighbours are added. -/

def pcA (x : Nat) : Nat := ((x >>> 1) &&& 6148914691236517205) + (x &&& 6148914691236517205)

def pcB (x : Nat) : Nat := ((x >>> 2) &&& 3689348814741910323) + (x &&& 3689348814741910323)

def pcC (x : Nat) : Nat := ((x >>> 4) + x) &&& 1085102592571150095

def pcS (x : Nat) : Nat := let a := x + (x >>> 8); let b := a + (a >>> 16); (b + (b >>> 32)) &&& 127

def pc (x : Nat) : Nat := pcS (pcC (pcB (pcA x)))

theorem and_split {k a b m n : Nat} (ha : a < 2 ^ k) (hm : m < 2 ^ k) : (a + 2 ^ k * b) &&& (m + 2 ^ k * n) = (a &&& m) + 2 ^ k * (b &&& n) := by
  apply Nat.eq_of_testBit_eq
  intro i
  have h1 : (a &&& m) < 2 ^ k := Nat.and_lt_two_pow _ hm
  rw [Nat.testBit_and, Nat.add_comm a, Nat.add_comm m, Nat.add_comm (a &&& m), Nat.testBit_two_pow_mul_add _ ha, Nat.testBit_two_pow_mul_add _ hm, Nat.testBit_two_pow_mul_add _ h1]
  split
  · rw [Nat.testBit_and]
  · rw [Nat.testBit_and]

def am (m x : Nat) : Nat := ((x >>> 1) &&& m) + (x &&& m)

def bm (m x : Nat) : Nat := ((x >>> 2) &&& m) + (x &&& m)

def cm (m x : Nat) : Nat := ((x >>> 4) + x) &&& m

theorem shr_split {k a y : Nat} (hk : k = 1 ∨ k = 2 ∨ k = 4) (ha : a < 256) : (a + 256 * y) >>> k = (a >>> k + 2 ^ (8 - k) * (y % 2 ^ k)) + 256 * (y >>> k) := by
  simp only [Nat.shiftRight_eq_div_pow]
  rcases hk with rfl | rfl | rfl <;> simp only [Nat.reducePow, Nat.reduceSub] <;> omega

theorem am_low : ∀ a, a < 256 → ∀ r, r < 2 → (a >>> 1 + 128 * r) &&& 85 = (a >>> 1) &&& 85 := by decide +kernel

theorem bm_low : ∀ a, a < 256 → ∀ r, r < 4 → (a >>> 2 + 64 * r) &&& 51 = (a >>> 2) &&& 51 := by decide +kernel

theorem am_split {a y m : Nat} (ha : a < 256) : am (85 + 256 * m) (a + 256 * y) = am 85 a + 256 * am m y := by
  have h1 : a >>> 1 + 128 * (y % 2) < 256 := by
    rw [Nat.shiftRight_eq_div_pow]
    omega
  unfold am
  rw [shr_split (.inl rfl) ha, show (256 : Nat) = 2 ^ 8 from rfl, and_split (by simpa using h1) (by decide), and_split (by simpa using ha) (by decide)]
  have := am_low a ha (y % 2) (Nat.mod_lt _ (by decide))
  simp only [Nat.reducePow, Nat.reduceSub] at this ⊢
  rw [this]
  omega

theorem bm_split {a y m : Nat} (ha : a < 256) : bm (51 + 256 * m) (a + 256 * y) = bm 51 a + 256 * bm m y := by
  have h1 : a >>> 2 + 64 * (y % 4) < 256 := by
    rw [Nat.shiftRight_eq_div_pow]
    omega
  unfold bm
  rw [shr_split (.inr (.inl rfl)) ha, show (256 : Nat) = 2 ^ 8 from rfl, and_split (by simpa using h1) (by decide), and_split (by simpa using ha) (by decide)]
  have := bm_low a ha (y % 4) (Nat.mod_lt _ (by decide))
  simp only [Nat.reducePow, Nat.reduceSub] at this ⊢
  rw [this]
  omega

theorem cm_low : ∀ a, a < 69 → ∀ r, r < 5 → (a >>> 4 + 16 * r + a) &&& 15 = (a >>> 4 + a) &&& 15 ∧ a >>> 4 + 16 * r + a < 256 := by decide +kernel

theorem cm_split {a y m : Nat} (ha : a < 69) (hy : y % 16 < 5) : cm (15 + 256 * m) (a + 256 * y) = cm 15 a + 256 * cm m y := by
  obtain ⟨h1, h2⟩ := cm_low a ha (y % 16) hy
  unfold cm
  rw [shr_split (.inr (.inr rfl)) (by omega)]
  simp only [Nat.reducePow, Nat.reduceSub]
  rw [show a >>> 4 + 16 * (y % 16) + 256 * (y >>> 4) + (a + 256 * y) = (a >>> 4 + 16 * (y % 16) + a) + 2 ^ 8 * (y >>> 4 + y) by simp only [Nat.reducePow]; omega, show (15 + 256 * m) = 15 + 2 ^ 8 * m from rfl, and_split (by simpa using h2) (by decide), h1]

theorem byte1 : ∀ a, a < 256 → am 85 a < 256 ∧ bm 51 (am 85 a) < 69 ∧ bm 51 (am 85 a) % 16 < 5 ∧ cm 15 (bm 51 (am 85 a)) ≤ 8 ∧ (cm 15 (bm 51 (am 85 a)) = 0 ↔ a = 0) := by decide +kernel

theorem am_one {a m : Nat} (ha : a < 256) : am (85 + 256 * m) a = am 85 a := by
  have := am_split (m := m) (y := 0) ha
  have h0 : am m 0 = 0 := by simp [am]
  rw [h0] at this
  simpa using this

theorem bm_one {a m : Nat} (ha : a < 256) : bm (51 + 256 * m) a = bm 51 a := by
  have := bm_split (m := m) (y := 0) ha
  have h0 : bm m 0 = 0 := by simp [bm]
  rw [h0] at this
  simpa using this

theorem cm_one {a m : Nat} (ha : a < 69) : cm (15 + 256 * m) a = cm 15 a := by
  have := cm_split (m := m) (y := 0) ha (by decide)
  have h0 : cm m 0 = 0 := by simp [cm]
  rw [h0] at this
  simpa using this

theorem pc_bytes {a b c : Nat} (ha : a < 256) (hb : b < 256) (hc : c < 256) : cm 1085102592571150095 (bm 3689348814741910323 (am 6148914691236517205 (a + 256 * (b + 256 * c)))) = cm 15 (bm 51 (am 85 a)) + 256 * (cm 15 (bm 51 (am 85 b)) + 256 * cm 15 (bm 51 (am 85 c))) := by
  obtain ⟨a1, a2, a3, a4, a5⟩ := byte1 a ha
  obtain ⟨b1, b2, b3, b4, b5⟩ := byte1 b hb
  obtain ⟨c1, c2, c3, c4, c5⟩ := byte1 c hc
  rw [show (6148914691236517205 : Nat) = 85 + 256 * (85 + 256 * (85 + 256 * (6148914691236517205 / 16777216))) from rfl, am_split ha, am_split hb, am_one hc]
  rw [show (3689348814741910323 : Nat) = 51 + 256 * (51 + 256 * (51 + 256 * (3689348814741910323 / 16777216))) from rfl, bm_split a1, bm_split b1, bm_one c1]
  rw [show (1085102592571150095 : Nat) = 15 + 256 * (15 + 256 * (15 + 256 * (1085102592571150095 / 16777216))) from rfl, cm_split a2 (by omega), cm_split b2 (by omega), cm_one c2]

theorem pc_ok (x : Nat) (hx : x < 16777216) : pc x ≤ 24 ∧ (pc x = 0 ↔ x = 0) := by
  have e : x = x % 256 + 256 * (x / 256 % 256 + 256 * (x / 65536)) := by omega
  have hc : x / 65536 < 256 := by omega
  have ha : x % 256 < 256 := by omega
  have hb : x / 256 % 256 < 256 := by omega
  have h := pc_bytes ha hb hc
  rw [← e] at h
  obtain ⟨-, -, -, a4, a5⟩ := byte1 _ ha
  obtain ⟨-, -, -, b4, b5⟩ := byte1 _ hb
  obtain ⟨-, -, -, c4, c5⟩ := byte1 _ hc
  have h2 : pc x = pcS (cm 1085102592571150095 (bm 3689348814741910323 (am 6148914691236517205 x))) := rfl
  rw [h2, h]
  generalize cm 15 (bm 51 (am 85 (x % 256))) = A at *
  generalize cm 15 (bm 51 (am 85 (x / 256 % 256))) = B at *
  generalize cm 15 (bm 51 (am 85 (x / 65536))) = C at *
  have h3 : pcS (A + 256 * (B + 256 * C)) = A + B + C := by
    have s1 : (A + 256 * (B + 256 * C)) / 256 = B + 256 * C := by omega
    have s2 : (A + 256 * (B + 256 * C) + (B + 256 * C)) / 65536 = C := by omega
    have s3 : (A + 256 * (B + 256 * C) + (B + 256 * C) + C) / 4294967296 = 0 := by omega
    have s4 : (A + 256 * (B + 256 * C) + (B + 256 * C) + C) % 128 = A + B + C := by omega
    unfold pcS
    simp only [Nat.shiftRight_eq_div_pow, Nat.reducePow, s1, s2, s3, Nat.add_zero]
    rw [show (127 : Nat) = 2 ^ 7 - 1 from rfl, Nat.and_two_pow_sub_one_eq_mod]
    exact s4
  rw [h3]
  omega

theorem and_natU (a b : Nat) (ha : a < 2 ^ 63) (hb : b < 2 ^ 63) : bits .and .u64 (a : Int) (b : Int) = ((a &&& b : Nat) : Int) := (bits_nat .u64 63 (by decide) (fun n h0 h1 => wru h0 (by omega)) a b ha hb).1

theorem am_le (m n : Nat) : am m n ≤ 2 * n := by
  have h1 : (n >>> 1) &&& m ≤ n >>> 1 := Nat.and_le_left
  have h2 : n &&& m ≤ n := Nat.and_le_left
  rw [Nat.shiftRight_eq_div_pow] at h1
  unfold am
  rw [Nat.shiftRight_eq_div_pow]
  omega

theorem bm_le (m n : Nat) : bm m n ≤ 2 * n := by
  have h1 : (n >>> 2) &&& m ≤ n >>> 2 := Nat.and_le_left
  have h2 : n &&& m ≤ n := Nat.and_le_left
  rw [Nat.shiftRight_eq_div_pow] at h1
  unfold bm
  rw [Nat.shiftRight_eq_div_pow]
  omega

theorem cm_le (m n : Nat) : cm m n ≤ 2 * n := by
  have h1 : ((n >>> 4) + n) &&& m ≤ (n >>> 4) + n := Nat.and_le_left
  rw [Nat.shiftRight_eq_div_pow] at h1
  unfold cm
  rw [Nat.shiftRight_eq_div_pow]
  omega

theorem stA (n : Nat) (h : n < 1099511627776) : IntKind.u64.wrap (bits .and .u64 ((n : Int).fdiv (2 ^ min 1 64)) 6148914691236517205 + bits .and .u64 (n : Int) 6148914691236517205) = ((am 6148914691236517205 n : Nat) : Int) := by
  have m : (6148914691236517205 : Int) = ((6148914691236517205 : Nat) : Int) := rfl
  have h1 := am_le 6148914691236517205 n
  have e : ((am 6148914691236517205 n : Nat) : Int) = ((n / 2 ^ 1 &&& 6148914691236517205 : Nat) : Int) + ((n &&& 6148914691236517205 : Nat) : Int) := by
    unfold am
    rw [Nat.shiftRight_eq_div_pow]
    omega
  rw [show min 1 64 = 1 from rfl, fdiv_nat, m, and_natU _ _ (by omega) (by decide), and_natU _ _ (by omega) (by decide), ← e, wru (by omega) (by omega)]

theorem stB (n : Nat) (h : n < 1099511627776) : IntKind.u64.wrap (bits .and .u64 ((n : Int).fdiv (2 ^ min 2 64)) 3689348814741910323 + bits .and .u64 (n : Int) 3689348814741910323) = ((bm 3689348814741910323 n : Nat) : Int) := by
  have m : (3689348814741910323 : Int) = ((3689348814741910323 : Nat) : Int) := rfl
  have h1 := bm_le 3689348814741910323 n
  have e : ((bm 3689348814741910323 n : Nat) : Int) = ((n / 2 ^ 2 &&& 3689348814741910323 : Nat) : Int) + ((n &&& 3689348814741910323 : Nat) : Int) := by
    unfold bm
    rw [Nat.shiftRight_eq_div_pow]
    omega
  rw [show min 2 64 = 2 from rfl, fdiv_nat, m, and_natU _ _ (by omega) (by decide), and_natU _ _ (by omega) (by decide), ← e, wru (by omega) (by omega)]

theorem stC (n : Nat) (h : n < 1099511627776) : bits .and .u64 (IntKind.u64.wrap ((n : Int).fdiv (2 ^ min 4 64) + (n : Int))) 1085102592571150095 = ((cm 1085102592571150095 n : Nat) : Int) := by
  have m : (1085102592571150095 : Int) = ((1085102592571150095 : Nat) : Int) := rfl
  have e : ((n / 2 ^ 4 : Nat) : Int) + (n : Int) = ((n / 2 ^ 4 + n : Nat) : Int) := by omega
  rw [show min 4 64 = 4 from rfl, fdiv_nat, e, wru (by omega) (by omega), m, and_natU _ _ (by omega) (by decide)]
  unfold cm
  rw [Nat.shiftRight_eq_div_pow]

theorem stS {k : Nat} (n : Nat) (hk : k ≤ 64) (h : n < 1099511627776) : IntKind.u64.wrap ((n : Int) + (n : Int).fdiv (2 ^ min k 64)) = ((n + n >>> k : Nat) : Int) := by
  have h1 : n / 2 ^ k ≤ n := Nat.div_le_self _ _
  rw [Nat.min_eq_left hk, fdiv_nat, Nat.shiftRight_eq_div_pow]
  generalize n / 2 ^ k = q at *
  rw [wru (by omega) (by omega)]
  omega

set_option maxRecDepth 100000 in
set_option maxHeartbeats 4000000 in
theorem onesCount64_fn (n : Nat) (hn : n < 1048576) : FnD Try.prog 106 [.v (.int .u64 (n : Int))] (.int (pc n : Nat)) := by
  have hA := am_le 6148914691236517205 n
  have h1 := stA n (by omega)
  obtain ⟨a, ea⟩ : ∃ a, am 6148914691236517205 n = a := ⟨_, rfl⟩
  rw [ea] at hA h1
  have hB := bm_le 3689348814741910323 a
  have h2 := stB a (by omega)
  obtain ⟨b, eb⟩ : ∃ b, bm 3689348814741910323 a = b := ⟨_, rfl⟩
  rw [eb] at hB h2
  have hC := cm_le 1085102592571150095 b
  have h3 := stC b (by omega)
  obtain ⟨c, ec⟩ : ∃ c, cm 1085102592571150095 b = c := ⟨_, rfl⟩
  rw [ec] at hC h3
  have h4 := stS (k := 8) c (by omega) (by omega)
  have k4 : c + c >>> 8 ≤ 2 * c := by rw [Nat.shiftRight_eq_div_pow]; omega
  obtain ⟨d, ed⟩ : ∃ d, c + c >>> 8 = d := ⟨_, rfl⟩
  rw [ed] at h4 k4
  have h5 := stS (k := 16) d (by omega) (by omega)
  have k5 : d + d >>> 16 ≤ 2 * d := by rw [Nat.shiftRight_eq_div_pow]; omega
  obtain ⟨e, ee⟩ : ∃ e, d + d >>> 16 = e := ⟨_, rfl⟩
  rw [ee] at h5 k5
  have h6 := stS (k := 32) e (by omega) (by omega)
  have k6 : e + e >>> 32 ≤ 2 * e := by rw [Nat.shiftRight_eq_div_pow]; omega
  have hp : pc n = (e + e >>> 32) &&& 127 := by
    rw [← ee, ← ed, ← ec, ← eb, ← ea]
    rfl
  rw [hp]
  obtain ⟨f, ef⟩ : ∃ f, e + e >>> 32 = f := ⟨_, rfl⟩
  rw [ef] at h6 k6 ⊢
  have h7 : bits .and .i64 (IntKind.i64.wrap (f : Int)) 127 = ((f &&& 127 : Nat) : Int) := by
    rw [wr (by omega) (by omega), show (127 : Int) = ((127 : Nat) : Int) from rfl, and_nat _ _ (by omega) (by decide)]
  refine fn_go Try.func106 rfl rfl Try.ntmps106 Try.results106 (by simp only [slotsOf, argAV, List.map_cons, List.map_nil, Nat.reduceAdd]; rfl) (by simp) ?_
  repeat' (first | ((with_reducible refine ev_aw ?_); first | (with_reducible first | refine aw_seq fun K hK => ?_ | refine aw_region (by kernel_rfl) ?_ | refine aw_condk ?_ | refine aw_block ?_) | ((with_reducible first | refine aw_skip ?_ | refine aw_ret ?_ | refine aw_exit ?_); simp only [go_sem, ↓reduceIte, Nat.reduceEqDiff])) | (with_reducible first | refine ru_four ?_ ?_ ?_ ?_ | refine ru_three ?_ ?_ ?_ | refine ru_two ?_ ?_ | refine rp_two ?_ ?_) | ((with_reducible first | refine ev_run ?_ | refine ev_next ?_ | refine ev_ri ?_ | refine ev_cond ?_ | refine ev_rp ?_ | refine ev_rap ?_ | refine ev_ru ?_ | refine ev_rau ?_ | refine ev_res ?_ | refine ev_res2 ?_ | refine ev_res2b ?_ | refine ev_res3 ?_ | refine ev_res3b ?_); simp only [go_sem, ↓reduceIte, Nat.reduceEqDiff, Nat.reduceBEq, Nat.reduceAdd, Nat.reduceMul, Nat.reduceSub, Nat.reduceLT, Nat.reduceLeDiff]) | ((with_reducible refine ev_guard ?_); (with_reducible first | refine guard_t ?_ ?_ rfl | refine guard_f ?_ ?_ rfl) <;> (intro h; (try simp only [h]); (try simp only [nrm] at h))) | ((with_reducible refine ck_split (fun h => ?_) (fun h => ?_)) <;> (try simp only [nrm] at h)) | ((with_reducible refine And.intro ?_ ?_); (first | omega | focus (simp; done) | focus (simp; omega) | focus (refine ⟨?_, ?_, ?_⟩ <;> first | omega | rfl | (simp only [go_sem, refsL_app, refs_dmap] <;> fail) | (simp [refsL_app, refs_dmap, AV.refsL, AV.refs] <;> omega)) | focus ((repeat' (with_reducible refine And.intro ?_ ?_)) <;> first | omega | rfl | (simp only [go_sem, refsL_app, refs_dmap] <;> fail) | (simp <;> omega)))) | (with_reducible refine hJ _ (fun K hK => ?_) ?_ <;> clear hJ KJ) | ((with_reducible refine ev_less ?_); (refine ⟨rfl, ?_, ?_⟩ <;> simp only [go_sem, St.clean, cleanO, SubS, SubO, beq_self_eq_true, ↓reduceIte, Nat.reduceEqDiff, Nat.reduceBEq, Nat.reduceAdd, Nat.reduceMul, Nat.reduceSub, Nat.reduceLT, Nat.reduceLeDiff])) | ((with_reducible first | refine ev_kx ?_ | refine ev_inb ?_); simp only [kx_n, in_n, St.clean, cleanO]) | (with_reducible apply hK; clear hK K) | (clear hK K; with_reducible apply hK; clear hK K) | (clear hK K; clear hK K; with_reducible apply hK; clear hK K) | (clear hK K; clear hK K; clear hK K; with_reducible apply hK; clear hK K) | (simp (disch := omega) only [wr, drop_at, str_at, int_at, Int.reduceSub, Int.reduceAdd, Int.reduceToNat, Int.toNat_zero]) | fail)
  rw [h1, h2, h3, h4, h5, h6, h7]
  (first | refine res_tmp rfl (by simp [D.plain, plains]) (by simp) ?_ | refine res_at rfl (by simp [D.plain, plains]) (by simp) ?_ | refine res_two rfl (by simp [D.plain, plains]) (by simp) ?_ | refine res_three rfl (by simp [D.plain, plains]) (by simp) ?_)
  rfl

set_option maxRecDepth 100000 in
set_option maxHeartbeats 4000000 in
theorem onesCount_fn (n : Nat) (hn : n < 1048576) : FnD Try.prog 92 [.v (.int .u64 (n : Int))] (.int (pc n : Nat)) := by
  have e := onesCount64_fn n hn
  refine fn_go Try.func92 rfl rfl Try.ntmps92 Try.results92 (by simp only [slotsOf, argAV, List.map_cons, List.map_nil, Nat.reduceAdd]; rfl) (by simp) ?_
  repeat' (first | ((with_reducible refine ev_aw ?_); first | (with_reducible first | refine aw_seq fun K hK => ?_ | refine aw_region (by kernel_rfl) ?_ | refine aw_condk ?_ | refine aw_block ?_) | ((with_reducible first | refine aw_skip ?_ | refine aw_ret ?_ | refine aw_exit ?_); simp only [go_sem, ↓reduceIte, Nat.reduceEqDiff])) | (with_reducible first | refine ru_four ?_ ?_ ?_ ?_ | refine ru_three ?_ ?_ ?_ | refine ru_two ?_ ?_ | refine rp_two ?_ ?_) | ((with_reducible first | refine ev_run ?_ | refine ev_next ?_ | refine ev_ri ?_ | refine ev_cond ?_ | refine ev_rp ?_ | refine ev_rap ?_ | refine ev_ru ?_ | refine ev_rau ?_ | refine ev_res ?_ | refine ev_res2 ?_ | refine ev_res2b ?_ | refine ev_res3 ?_ | refine ev_res3b ?_); simp only [go_sem, ↓reduceIte, Nat.reduceEqDiff, Nat.reduceBEq, Nat.reduceAdd, Nat.reduceMul, Nat.reduceSub, Nat.reduceLT, Nat.reduceLeDiff]) | ((with_reducible refine ev_call ?_); (first | (refine call_fn e rfl ?_; refine k_run ?_) | fail)) | ((with_reducible refine ev_guard ?_); (with_reducible first | refine guard_t ?_ ?_ rfl | refine guard_f ?_ ?_ rfl) <;> (intro h; (try simp only [h]); (try simp only [nrm] at h))) | ((with_reducible refine ck_split (fun h => ?_) (fun h => ?_)) <;> (try simp only [nrm] at h)) | ((with_reducible refine And.intro ?_ ?_); (first | omega | focus (simp; done) | focus (simp; omega) | focus (refine ⟨?_, ?_, ?_⟩ <;> first | omega | rfl | (simp only [go_sem, refsL_app, refs_dmap] <;> fail) | (simp [refsL_app, refs_dmap, AV.refsL, AV.refs] <;> omega)) | focus ((repeat' (with_reducible refine And.intro ?_ ?_)) <;> first | omega | rfl | (simp only [go_sem, refsL_app, refs_dmap] <;> fail) | (simp <;> omega)))) | (with_reducible refine hJ _ (fun K hK => ?_) ?_ <;> clear hJ KJ) | ((with_reducible refine ev_less ?_); (refine ⟨rfl, ?_, ?_⟩ <;> simp only [go_sem, St.clean, cleanO, SubS, SubO, beq_self_eq_true, ↓reduceIte, Nat.reduceEqDiff, Nat.reduceBEq, Nat.reduceAdd, Nat.reduceMul, Nat.reduceSub, Nat.reduceLT, Nat.reduceLeDiff])) | ((with_reducible first | refine ev_kx ?_ | refine ev_inb ?_); simp only [kx_n, in_n, St.clean, cleanO]) | (with_reducible apply hK; clear hK K) | (clear hK K; with_reducible apply hK; clear hK K) | (clear hK K; clear hK K; with_reducible apply hK; clear hK K) | (clear hK K; clear hK K; clear hK K; with_reducible apply hK; clear hK K) | (simp (disch := omega) only [wr, drop_at, str_at, int_at, Int.reduceSub, Int.reduceAdd, Int.reduceToNat, Int.toNat_zero]) | fail)
  (first | refine res_tmp rfl (by simp [D.plain, plains]) (by simp) ?_ | refine res_at rfl (by simp [D.plain, plains]) (by simp) ?_ | refine res_two rfl (by simp [D.plain, plains]) (by simp) ?_ | refine res_three rfl (by simp [D.plain, plains]) (by simp) ?_)
  rfl

/-- How many cells the first i rows have. -/
def areaN (zs : List Int) (i : Nat) : Nat := ((zs.take i).map fun z => pc z.toNat).sum

theorem areaN_next {zs : List Int} {i : Nat} (h : i < zs.length) : areaN zs (i + 1) = areaN zs i + pc (zs.getD i 0).toNat := by
  rw [areaN, take_next 0 h, List.map_append, List.sum_append]
  simp [areaN]

set_option maxRecDepth 100000 in
set_option maxHeartbeats 4000000 in
theorem area_fn (zs : List Int) (hz : okReg zs = true) : FnD Try.prog 71 [.ag [intL zs]] (.int (areaN zs 24 : Nat)) := by
  have hl := okReg_len hz
  refine fn_go Try.func71 rfl rfl Try.ntmps71 Try.results71 (by simp only [slotsOf, argAV, List.map_cons, List.map_nil, Nat.reduceAdd]; rfl) (by simp) ?_
  repeat' (first | ((with_reducible refine ev_aw ?_); first | (with_reducible first | refine aw_seq fun K hK => ?_ | refine aw_region (by kernel_rfl) ?_ | refine aw_condk ?_ | refine aw_block ?_) | ((with_reducible first | refine aw_skip ?_ | refine aw_ret ?_ | refine aw_exit ?_); simp only [go_sem, ↓reduceIte, Nat.reduceEqDiff])) | (with_reducible first | refine ru_four ?_ ?_ ?_ ?_ | refine ru_three ?_ ?_ ?_ | refine ru_two ?_ ?_ | refine rp_two ?_ ?_) | ((with_reducible first | refine ev_run ?_ | refine ev_next ?_ | refine ev_ri ?_ | refine ev_cond ?_ | refine ev_rp ?_ | refine ev_rap ?_ | refine ev_ru ?_ | refine ev_rau ?_ | refine ev_res ?_ | refine ev_res2 ?_ | refine ev_res2b ?_ | refine ev_res3 ?_ | refine ev_res3b ?_); simp only [go_sem, ↓reduceIte, Nat.reduceEqDiff, Nat.reduceBEq, Nat.reduceAdd, Nat.reduceMul, Nat.reduceSub, Nat.reduceLT, Nat.reduceLeDiff]) | ((with_reducible refine ev_guard ?_); (with_reducible first | refine guard_t ?_ ?_ rfl | refine guard_f ?_ ?_ rfl) <;> (intro h; (try simp only [h]); (try simp only [nrm] at h))) | ((with_reducible refine ck_split (fun h => ?_) (fun h => ?_)) <;> (try simp only [nrm] at h)) | ((with_reducible refine And.intro ?_ ?_); (first | omega | focus (simp; done) | focus (simp; omega) | focus (refine ⟨?_, ?_, ?_⟩ <;> first | omega | rfl | (simp only [go_sem, refsL_app, refs_dmap] <;> fail) | (simp [refsL_app, refs_dmap, AV.refsL, AV.refs] <;> omega)) | focus ((repeat' (with_reducible refine And.intro ?_ ?_)) <;> first | omega | rfl | (simp only [go_sem, refsL_app, refs_dmap] <;> fail) | (simp <;> omega)))) | (with_reducible refine hJ _ (fun K hK => ?_) ?_ <;> clear hJ KJ) | ((with_reducible refine ev_less ?_); (refine ⟨rfl, ?_, ?_⟩ <;> simp only [go_sem, St.clean, cleanO, SubS, SubO, beq_self_eq_true, ↓reduceIte, Nat.reduceEqDiff, Nat.reduceBEq, Nat.reduceAdd, Nat.reduceMul, Nat.reduceSub, Nat.reduceLT, Nat.reduceLeDiff])) | ((with_reducible first | refine ev_kx ?_ | refine ev_inb ?_); simp only [kx_n, in_n, St.clean, cleanO]) | (with_reducible apply hK; clear hK K) | (clear hK K; with_reducible apply hK; clear hK K) | (clear hK K; clear hK K; with_reducible apply hK; clear hK K) | (clear hK K; clear hK K; clear hK K; with_reducible apply hK; clear hK K) | (simp (disch := omega) only [wr, drop_at, str_at, int_at, Int.reduceSub, Int.reduceAdd, Int.reduceToNat, Int.toNat_zero]) | fail)
  refine aw_loopU [3, 5, 9, 10, 11, 12, 13, 14, 15, 16, 17, 18] [16] (fun i : Nat => [(9, .d (.int i)), (3, .d (.int (areaN zs i : Nat)))]) (fun _ => []) (fun i => i ≤ 24 ∧ areaN zs i ≤ 24 * i) (fun i => 24 - i) 0 ⟨by omega, by simp [areaN]⟩ ?_ ?_
  · (refine lessW_of [] rfl ?_ <;> simp only [St.sws, St.sw, swS, swO, AV.sw, AV.swL, OB.sw, swp, St.upd, dropS, dropOs, Less, SubS, SubO, look, lookO, List.elem, List.cons_append, List.nil_append, cond_true, cond_false, and_true, true_and, beq_self_eq_true, ↓reduceIte, Nat.reduceEqDiff, Nat.reduceBEq, Nat.reduceAdd, Nat.reduceMul, Nat.reduceSub, Nat.reduceLT, Nat.reduceLeDiff] <;> try simp)
    simp [areaN]
  · rintro i ⟨g1, g2⟩
    simp only [St.upd, dropS, dropOs, List.elem, List.cons_append, List.nil_append, cond_true, cond_false, beq_self_eq_true, ↓reduceIte, Nat.reduceEqDiff, Nat.reduceBEq, Nat.reduceAdd, Nat.reduceMul, Nat.reduceSub, Nat.reduceLT, Nat.reduceLeDiff]
    by_cases hi : i < 24
    · have hr := okRow_lt (okReg_row hz hi)
      have hn := areaN_next (zs := zs) (i := i) (by omega)
      obtain ⟨z, ez⟩ : ∃ z, zs.getD i 0 = z := ⟨_, rfl⟩
      rw [ez] at hr hn
      obtain ⟨m, rfl⟩ := Int.eq_ofNat_of_zero_le hr.1
      have e := onesCount_fn m (by omega)
      have hp := (pc_ok m (by omega)).1
      rw [Int.toNat_natCast] at hn
      repeat' (first | ((with_reducible refine ev_aw ?_); first | (with_reducible first | refine aw_seq fun K hK => ?_ | refine aw_region (by kernel_rfl) ?_ | refine aw_condk ?_ | refine aw_block ?_) | ((with_reducible first | refine aw_skip ?_ | refine aw_ret ?_ | refine aw_exit ?_); simp only [go_sem, ↓reduceIte, Nat.reduceEqDiff])) | (with_reducible first | refine ru_four ?_ ?_ ?_ ?_ | refine ru_three ?_ ?_ ?_ | refine ru_two ?_ ?_ | refine rp_two ?_ ?_) | ((with_reducible first | refine ev_run ?_ | refine ev_next ?_ | refine ev_ri ?_ | refine ev_cond ?_ | refine ev_rp ?_ | refine ev_rap ?_ | refine ev_ru ?_ | refine ev_rau ?_ | refine ev_res ?_ | refine ev_res2 ?_ | refine ev_res2b ?_ | refine ev_res3 ?_ | refine ev_res3b ?_); simp only [go_sem, ↓reduceIte, Nat.reduceEqDiff, Nat.reduceBEq, Nat.reduceAdd, Nat.reduceMul, Nat.reduceSub, Nat.reduceLT, Nat.reduceLeDiff]) | (simp (disch := omega) only [wr, drop_at, str_at, int_at, Int.reduceSub, Int.reduceAdd, Int.reduceToNat, Int.toNat_zero, int_at, ez, wru, wr]) | ((with_reducible refine ev_call ?_); (first | (refine call_fn e rfl ?_; refine k_run ?_) | fail)) | ((with_reducible refine ev_guard ?_); (with_reducible first | refine guard_t ?_ ?_ rfl | refine guard_f ?_ ?_ rfl) <;> (intro h; (try simp only [h]); (try simp only [nrm] at h) <;> (try ((with_reducible exfalso); omega)))) | ((with_reducible refine ck_split (fun h => ?_) (fun h => ?_)) <;> (try simp only [nrm] at h) <;> (try ((with_reducible exfalso); omega))) | ((with_reducible refine And.intro ?_ ?_); (first | omega | focus (simp; done) | focus (simp; omega) | focus (refine ⟨?_, ?_, ?_⟩ <;> first | omega | rfl | (simp only [go_sem, refsL_app, refs_dmap] <;> fail) | (simp [refsL_app, refs_dmap, AV.refsL, AV.refs] <;> omega)) | focus ((repeat' (with_reducible refine And.intro ?_ ?_)) <;> first | omega | rfl | (simp only [go_sem, refsL_app, refs_dmap] <;> fail) | (simp <;> omega)))) | (with_reducible refine hJ _ (fun K hK => ?_) ?_ <;> clear hJ KJ) | ((with_reducible refine ev_less ?_); (refine ⟨rfl, ?_, ?_⟩ <;> simp only [go_sem, St.clean, cleanO, SubS, SubO, beq_self_eq_true, ↓reduceIte, Nat.reduceEqDiff, Nat.reduceBEq, Nat.reduceAdd, Nat.reduceMul, Nat.reduceSub, Nat.reduceLT, Nat.reduceLeDiff])) | ((with_reducible first | refine ev_kx ?_ | refine ev_inb ?_); simp only [kx_n, in_n, St.clean, cleanO]) | (with_reducible apply hK; clear hK K) | (clear hK K; with_reducible apply hK; clear hK K) | (clear hK K; clear hK K; with_reducible apply hK; clear hK K) | (clear hK K; clear hK K; clear hK K; with_reducible apply hK; clear hK K) | fail)
      refine ⟨i + 1, ⟨by omega, by omega⟩, by omega, ?_⟩
      (refine lessW_of [] rfl ?_ <;> simp only [St.sws, St.sw, swS, swO, AV.sw, AV.swL, OB.sw, swp, St.upd, dropS, dropOs, Less, SubS, SubO, look, lookO, List.elem, List.cons_append, List.nil_append, cond_true, cond_false, and_true, true_and, beq_self_eq_true, ↓reduceIte, Nat.reduceEqDiff, Nat.reduceBEq, Nat.reduceAdd, Nat.reduceMul, Nat.reduceSub, Nat.reduceLT, Nat.reduceLeDiff] <;> try simp)
      omega
    · repeat' (first | ((with_reducible refine ev_aw ?_); first | (with_reducible first | refine aw_seq fun K hK => ?_ | refine aw_region (by kernel_rfl) ?_ | refine aw_condk ?_ | refine aw_block ?_) | ((with_reducible first | refine aw_skip ?_ | refine aw_ret ?_ | refine aw_exit ?_); simp only [go_sem, ↓reduceIte, Nat.reduceEqDiff])) | (with_reducible first | refine ru_four ?_ ?_ ?_ ?_ | refine ru_three ?_ ?_ ?_ | refine ru_two ?_ ?_ | refine rp_two ?_ ?_) | ((with_reducible first | refine ev_run ?_ | refine ev_next ?_ | refine ev_ri ?_ | refine ev_cond ?_ | refine ev_rp ?_ | refine ev_rap ?_ | refine ev_ru ?_ | refine ev_rau ?_ | refine ev_res ?_ | refine ev_res2 ?_ | refine ev_res2b ?_ | refine ev_res3 ?_ | refine ev_res3b ?_); simp only [go_sem, ↓reduceIte, Nat.reduceEqDiff, Nat.reduceBEq, Nat.reduceAdd, Nat.reduceMul, Nat.reduceSub, Nat.reduceLT, Nat.reduceLeDiff]) | (simp (disch := omega) only [wr, drop_at, str_at, int_at, Int.reduceSub, Int.reduceAdd, Int.reduceToNat, Int.toNat_zero, wr]) | ((with_reducible refine ev_guard ?_); (with_reducible first | refine guard_t ?_ ?_ rfl | refine guard_f ?_ ?_ rfl) <;> (intro h; (try simp only [h]); (try simp only [nrm] at h) <;> (try ((with_reducible exfalso); omega)))) | ((with_reducible refine ck_split (fun h => ?_) (fun h => ?_)) <;> (try simp only [nrm] at h) <;> (try ((with_reducible exfalso); omega))) | ((with_reducible refine And.intro ?_ ?_); (first | omega | focus (simp; done) | focus (simp; omega) | focus (refine ⟨?_, ?_, ?_⟩ <;> first | omega | rfl | (simp only [go_sem, refsL_app, refs_dmap] <;> fail) | (simp [refsL_app, refs_dmap, AV.refsL, AV.refs] <;> omega)) | focus ((repeat' (with_reducible refine And.intro ?_ ?_)) <;> first | omega | rfl | (simp only [go_sem, refsL_app, refs_dmap] <;> fail) | (simp <;> omega)))) | (with_reducible refine hJ _ (fun K hK => ?_) ?_ <;> clear hJ KJ) | ((with_reducible refine ev_less ?_); (refine ⟨rfl, ?_, ?_⟩ <;> simp only [go_sem, St.clean, cleanO, SubS, SubO, beq_self_eq_true, ↓reduceIte, Nat.reduceEqDiff, Nat.reduceBEq, Nat.reduceAdd, Nat.reduceMul, Nat.reduceSub, Nat.reduceLT, Nat.reduceLeDiff])) | ((with_reducible first | refine ev_kx ?_ | refine ev_inb ?_); simp only [kx_n, in_n, St.clean, cleanO]) | (with_reducible apply hK; clear hK K) | (clear hK K; with_reducible apply hK; clear hK K) | (clear hK K; clear hK K; with_reducible apply hK; clear hK K) | (clear hK K; clear hK K; clear hK K; with_reducible apply hK; clear hK K) | fail)
      have e : i = 24 := by omega
      subst e
      (first | refine res_tmp rfl (by simp [D.plain, plains]) (by simp) ?_ | refine res_at rfl (by simp [D.plain, plains]) (by simp) ?_ | refine res_two rfl (by simp [D.plain, plains]) (by simp) ?_ | refine res_three rfl (by simp [D.plain, plains]) (by simp) ?_)
      rfl

end Go.Proofs.Ytjfeleejiofeoaa
