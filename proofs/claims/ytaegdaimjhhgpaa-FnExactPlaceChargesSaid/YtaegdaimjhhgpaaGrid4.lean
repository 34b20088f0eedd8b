/- Pictures that are drawn cell by cell: what comes out. -/
import Derived.Test.YtaegdaimjhhgpaaGrid3
import Derived.WalkKit
import Derived.WalkSpells
import Derived.KernelRfl
namespace Go.Proofs.Ytaegdaimjhhgpaa
open Go.RowKit
set_option linter.unusedVariables false
set_option linter.unusedSimpArgs false
attribute [local go_sem] ruk ru_fin ru_pure ru_still ru_one rau_some rs_n rs_t rs_c rs_k jr_1 jr_2 jr_3 ps_r ps_n St.after killSs killOs newN dropO killN allU fillP rn_build listT rap_some rp_one rp_pure rp_fin rpk guard_ud ck_t ck_f rik Int.toNat_natCast drop_at kx_r kx_e in_n in_r in_e po_n po_r rn_nil rn_guard guard_tt guard_ff guard_tf guard_ft guard_un next_some rn_call rn_move rn_assign rn_pick rn_alloc rn_box rn_buildSlice rn_load rn_store rn_nilCheck rn_binOp rn_unOp rn_convert rn_makeFunc rn_makeSlice rn_slice rn_fieldAddr rn_field rn_indexAddr rn_index rn_extract rn_builtin stepOp actOp pureOp St.ev look AV.split AV.one St.new St.puto St.put put killS killO lookO putO delO AV.refs AV.refsL OB.refs St.adopt adoptL loadD loadA tAgg guardOf binD unD pick_t pick_f pick_b one_s one_i one_b one_l one_p rc_eq rc_some AV.pack allD storeOb fillA denseA buildA obCells srcCells OB.fill OB.join obOf zeroD kx_n ri_nil ri_cons ra_some inB eqInts Bool.false_eq_true Bool.or_false Bool.or_self List.drop_succ_cons List.drop_zero List.take_succ_cons List.take_zero List.take_nil List.drop_nil List.getD_cons_zero List.getD_cons_succ ne_eq not_false_eq_true Nat.zero_add Nat.add_zero Bool.not_true Bool.not_false cond_true cond_false true_and and_true List.map_cons List.map_nil List.length_cons List.length_nil List.getElem?_toArray List.getElem?_cons_zero List.getElem?_cons_succ Option.map_some Option.map_none Option.isSome_some List.nil_append List.cons_append List.append_nil Int.toNat_zero Nat.zero_mul Nat.mul_one cells_1 cells_2 cells_3 cells_4 cells_5 cells_6 cells_7 cells_8 cells_9 cells_10 cells_11 cells_12 cells_13 cells_14 cells_15 cells_16 cells_17 cells_18 cells_19 cells_21 cells_22 cells_23 cells_24 cells_26 cells_27 cells_28 cells_29 cells_30 cells_31 cells_32 cells_33 cells_34 cells_35 cells_37 cells_38 cells_39 cells_40 cells_41 cells_43 cells_44 cells_45 cells_46 cells_47 cells_48 cells_49 cells_50 cells_51 cells_52 cells_53 cells_54 cells_56 cells_57 cells_58 cells_59 cells_60 cells_61 cells_62 cells_63 cells_64 cells_65 cells_67 cells_68 cells_69 cells_71 cells_72 cells_73 cells_74 cells_75 cells_76 cells_77 cells_78 cells_79 cells_80 cells_81 cells_82 cells_83 cells_84 cells_85 cells_86 cells_87 cells_88 cells_89 cells_90 cells_91 cells_92 cells_93 cells_94 cells_96 cells_97 cells_98 cells_99 cells_100 cells_101 cells_103 cells_104 cells_105 cells_106 cells_107 cells_108 cells_109 cells_110 cells_111 cells_112 cells_113 cells_114 cells_115 cells_116 cells_117 cells_118 cells_119 cells_120 cells_121 cells_122 cells_123 cells_124 cells_125 cells_126 cells_127 cells_128 cells_129 cells_130 cells_131 cells_132 cells_133 cells_134 cells_135 cells_136 cells_137 cells_138 cells_139 cells_140 cells_141 cells_142 cells_143 cells_144 cells_145 cells_146 cells_147 cells_148 cells_149 cells_150 zeroOk_1 bytes_1 zeroOk_2 bytes_2 zeroV_2 zeroOk_3 bytes_3 zeroV_3 zeroOk_4 bytes_4 zeroV_4 zeroOk_5 bytes_5 zeroV_5 zeroOk_6 bytes_6 zeroV_6 zeroOk_7 bytes_7 zeroV_7 zeroOk_8 bytes_8 zeroV_8 zeroOk_9 bytes_9 zeroV_9 zeroOk_10 bytes_10 zeroV_10 zeroOk_11 bytes_11 zeroV_11 zeroOk_12 bytes_12 zeroV_12 zeroOk_13 bytes_13 zeroV_13 zeroOk_14 bytes_14 zeroV_14 zeroOk_15 bytes_15 zeroV_15 zeroOk_16 bytes_16 zeroV_16 zeroOk_17 bytes_17 zeroV_17 zeroOk_18 bytes_18 zeroV_18 zeroOk_19 bytes_19 zeroV_19 zeroOk_21 bytes_21 zeroV_21 zeroOk_22 bytes_22 zeroV_22 zeroOk_23 bytes_23 zeroV_23 zeroOk_24 bytes_24 zeroV_24 zeroOk_26 bytes_26 zeroOk_27 bytes_27 zeroV_27 zeroOk_28 bytes_28 zeroOk_29 bytes_29 zeroOk_30 bytes_30 zeroOk_31 bytes_31 zeroOk_32 bytes_32 zeroV_32 zeroOk_33 bytes_33 zeroV_33 zeroOk_34 bytes_34 zeroV_34 zeroOk_35 bytes_35 zeroOk_37 bytes_37 zeroOk_38 bytes_38 zeroV_38 zeroOk_39 bytes_39 zeroOk_40 bytes_40 zeroOk_41 bytes_41 zeroOk_43 bytes_43 zeroOk_44 bytes_44 zeroOk_45 bytes_45 zeroOk_46 bytes_46 zeroOk_47 bytes_47 zeroOk_48 bytes_48 zeroOk_49 bytes_49 zeroOk_50 bytes_50 zeroV_50 zeroOk_51 bytes_51 zeroV_51 zeroOk_52 bytes_52 zeroV_52 zeroOk_53 bytes_53 zeroV_53 zeroOk_54 bytes_54 zeroV_54 zeroOk_56 bytes_56 zeroOk_57 bytes_57 zeroV_57 zeroOk_58 bytes_58 zeroV_58 zeroOk_59 bytes_59 zeroV_59 zeroOk_60 bytes_60 zeroOk_61 bytes_61 zeroOk_62 bytes_62 zeroOk_63 bytes_63 zeroOk_64 bytes_64 zeroOk_65 bytes_65 zeroOk_67 bytes_67 zeroOk_68 bytes_68 zeroOk_69 bytes_69 zeroOk_71 bytes_71 zeroOk_72 bytes_72 zeroOk_73 bytes_73 zeroOk_74 bytes_74 zeroOk_75 bytes_75 zeroOk_76 bytes_76 zeroOk_77 bytes_77 zeroOk_78 bytes_78 zeroOk_79 bytes_79 zeroOk_80 bytes_80 zeroOk_81 bytes_81 zeroOk_82 bytes_82 zeroOk_83 bytes_83 zeroOk_84 bytes_84 zeroOk_85 bytes_85 zeroOk_86 bytes_86 zeroOk_87 bytes_87 zeroOk_88 bytes_88 zeroV_88 zeroOk_89 bytes_89 zeroOk_90 bytes_90 zeroV_90 zeroOk_91 bytes_91 zeroOk_92 bytes_92 zeroOk_93 bytes_93 zeroOk_94 bytes_94 zeroOk_96 bytes_96 zeroOk_97 bytes_97 zeroOk_98 bytes_98 zeroV_98 zeroOk_99 bytes_99 zeroV_99 zeroOk_100 bytes_100 zeroOk_101 bytes_101 zeroOk_103 bytes_103 zeroOk_104 bytes_104 zeroOk_105 bytes_105 zeroOk_106 bytes_106 zeroOk_107 bytes_107 zeroOk_108 bytes_108 zeroOk_109 bytes_109 zeroOk_110 bytes_110 zeroOk_111 bytes_111 zeroOk_112 bytes_112 zeroOk_113 bytes_113 zeroOk_114 bytes_114 zeroOk_115 bytes_115 zeroV_115 zeroOk_116 bytes_116 zeroOk_117 bytes_117 zeroOk_118 bytes_118 zeroOk_119 bytes_119 zeroOk_120 bytes_120 zeroOk_121 bytes_121 zeroV_121 zeroOk_122 bytes_122 zeroV_122 zeroOk_123 bytes_123 zeroOk_124 bytes_124 zeroOk_125 bytes_125 zeroOk_126 bytes_126 zeroOk_127 bytes_127 zeroOk_128 bytes_128 zeroOk_129 bytes_129 zeroOk_130 bytes_130 zeroV_130 zeroOk_131 bytes_131 zeroOk_132 bytes_132 zeroV_132 zeroOk_133 bytes_133 zeroOk_134 bytes_134 zeroOk_135 bytes_135 zeroV_135 zeroOk_136 bytes_136 zeroOk_137 bytes_137 zeroOk_138 bytes_138 zeroV_138 zeroOk_139 bytes_139 zeroV_139 zeroOk_140 bytes_140 zeroV_140 zeroOk_141 bytes_141 zeroV_141 zeroOk_142 bytes_142 zeroV_142 zeroOk_143 bytes_143 zeroV_143 zeroOk_144 bytes_144 zeroV_144 zeroOk_145 bytes_145 zeroOk_146 bytes_146 zeroV_146 zeroOk_147 bytes_147 zeroV_147 zeroOk_148 bytes_148 zeroV_148 zeroOk_149 bytes_149 zeroOk_150 bytes_150 seq_27 seq_57 seq_59 seq_99 Try.underlying1 Try.underlying2 Try.underlying3 Try.underlying4 Try.underlying5 Try.underlying6 Try.underlying7 Try.underlying8 Try.underlying9 Try.underlying10 Try.underlying11 Try.underlying12 Try.underlying13 Try.underlying14 Try.underlying15 Try.underlying16 Try.underlying17 Try.underlying18 Try.underlying19 Try.underlying21 Try.underlying22 Try.underlying23 Try.underlying24 Try.underlying26 Try.underlying27 Try.underlying28 Try.underlying29 Try.underlying30 Try.underlying31 Try.underlying32 Try.underlying33 Try.underlying34 Try.underlying35 Try.underlying37 Try.underlying38 Try.underlying39 Try.underlying40 Try.underlying41 Try.underlying43 Try.underlying44 Try.underlying45 Try.underlying46 Try.underlying47 Try.underlying48 Try.underlying49 Try.underlying50 Try.underlying51 Try.underlying52 Try.underlying53 Try.underlying54 Try.underlying56 Try.underlying57 Try.underlying58 Try.underlying59 Try.underlying60 Try.underlying61 Try.underlying62 Try.underlying63 Try.underlying64 Try.underlying65 Try.underlying67 Try.underlying68 Try.underlying69 Try.underlying71 Try.underlying72 Try.underlying73 Try.underlying74 Try.underlying75 Try.underlying76 Try.underlying77 Try.underlying78 Try.underlying79 Try.underlying80 Try.underlying81 Try.underlying82 Try.underlying83 Try.underlying84 Try.underlying85 Try.underlying86 Try.underlying87 Try.underlying88 Try.underlying89 Try.underlying90 Try.underlying91 Try.underlying92 Try.underlying93 Try.underlying94 Try.underlying96 Try.underlying97 Try.underlying98 Try.underlying99 Try.underlying100 Try.underlying101 Try.underlying103 Try.underlying104 Try.underlying105 Try.underlying106 Try.underlying107 Try.underlying108 Try.underlying109 Try.underlying110 Try.underlying111 Try.underlying112 Try.underlying113 Try.underlying114 Try.underlying115 Try.underlying116 Try.underlying117 Try.underlying118 Try.underlying119 Try.underlying120 Try.underlying121 Try.underlying122 Try.underlying123 Try.underlying124 Try.underlying125 Try.underlying126 Try.underlying127 Try.underlying128 Try.underlying129 Try.underlying130 Try.underlying131 Try.underlying132 Try.underlying133 Try.underlying134 Try.underlying135 Try.underlying136 Try.underlying137 Try.underlying138 Try.underlying139 Try.underlying140 Try.underlying141 Try.underlying142 Try.underlying143 Try.underlying144 Try.underlying145 Try.underlying146 Try.underlying147 Try.underlying148 Try.underlying149 Try.underlying150

attribute [local go_sem] intL gridD lookO_lo killO_grid delO_grid putO_lo gridO_app dropGe dropGe_grid cleanO_grid gridC_len gridC_refs gridQ_refs lens_len rowsD_len setG_len dropO_grid killR_nil killR_cons killR_grid killN_lo newN_gridN hasN_cons hasN_grid Nat.le_refl refs_dmap newN_all killSs_gridN killOs_gridN killSs_gridN0 killOs_gridN0 loS_nil loS_cons loL_nil loL_cons lo_bp lo_bs lo_ag lo_tu lo_fc lo_d lo_un loO_nil loO_ds loO_av loO_dead loO_grid loL_gridC loL_dmap

attribute [local simp] ints_plain ints_all ints_all1 ints_plain_take refs_dmap pairs_plain pairs_all

theorem getD_set {α : Type} (l : List α) (i j : Nat) (v d : α) (h : i < l.length) : (l.set i v).getD j d = if i = j then v else l.getD j d := by
  simp only [List.getD_eq_getElem?_getD, List.getElem?_set]
  by_cases e : i = j
  · subst e
    simp [h]
  · simp [e]

theorem setG_get {zs : List (List Int)} (hz : ok20 zs) {x y x' y' : Nat} {v : Int} (hx : x < 20) (hy : y < 24) : ((setG zs x y v).getD y' []).getD x' 0 = if x = x' ∧ y = y' then v else (zs.getD y' []).getD x' 0 := by
  rw [setG, getD_set _ _ _ _ _ (by rw [hz.1]; exact hy)]
  by_cases e : y = y'
  · subst e
    rw [if_pos rfl, getD_set _ _ _ _ _ (by rw [hz.2 y hy]; exact hx)]
    simp
  · rw [if_neg e, if_neg (fun q => e q.2)]

theorem ext20 {a b : List (List Int)} (ha : ok20 a) (hb : ok20 b) (h : ∀ x y, x < 20 → y < 24 → (a.getD y []).getD x 0 = (b.getD y []).getD x 0) : a = b := by
  apply List.ext_getElem (by rw [ha.1, hb.1])
  intro y h1 h2
  have hy : y < 24 := by rw [ha.1] at h1; exact h1
  have e1 : a.getD y [] = a[y] := by simp [List.getD_eq_getElem?_getD, h1]
  have e2 : b.getD y [] = b[y] := by simp [List.getD_eq_getElem?_getD, h2]
  have l1 := ha.2 y hy
  have l2 := hb.2 y hy
  rw [e1] at l1
  rw [e2] at l2
  apply List.ext_getElem (by rw [l1, l2])
  intro x g1 g2
  have := h x y (by rw [l1] at g1; exact g1) hy
  rw [e1, e2] at this
  simpa [List.getD_eq_getElem?_getD, g1, g2] using this

/-- The picture off a value for each cell of the shield. -/
def picZ (h : Nat → Nat → Int) : List (List Int) := tab (fun y => tab (fun x => if inSh (x : Nat) (y : Nat) then h x y else 0) 20) 24

theorem picZ_ok (h : Nat → Nat → Int) : ok20 (picZ h) := ⟨tab_len _ _, fun y hy => by rw [picZ, tab_at [] hy, tab_len]⟩

theorem picZ_at {h : Nat → Nat → Int} {x y : Nat} (hx : x < 20) (hy : y < 24) : ((picZ h).getD y []).getD x 0 = if inSh (x : Nat) (y : Nat) then h x y else 0 := by
  rw [picZ, tab_at [] hy, tab_at 0 hx]

theorem picN_at {h : Nat → Nat → Int} {C : List Nat} {zs : List (List Int)} (hz : ok20 zs) (hC : ∀ c ∈ C, c < 480) {x y : Nat} (hx : x < 20) (hy : y < 24) : ∀ i, i ≤ C.length → ((picN h C zs i).getD y []).getD x 0 = if 20 * y + x ∈ C.take i then h x y else (zs.getD y []).getD x 0
  | 0, _ => by simp [picN]
  | i + 1, hi => by
    have hc := hC _ (getD_mem 0 (show i < C.length by omega))
    rw [picN, setG_get (picN_ok hz i) (by omega) (by omega), picN_at hz hC hx hy i (by omega), take_next 0 (by omega)]
    by_cases e : C.getD i 0 = 20 * y + x
    · rw [e, if_pos (by omega), if_pos (by simp)]
      rw [show (20 * y + x) % 20 = x by omega, show (20 * y + x) / 20 = y by omega]
    · rw [if_neg (by omega)]
      have : (20 * y + x ∈ C.take i ++ [C.getD i 0]) ↔ (20 * y + x ∈ C.take i) := by
        simp only [List.mem_append, List.mem_singleton]
        constructor
        · rintro (q | q)
          · exact q
          · exact absurd q.symm e
        · exact .inl
      simp only [this]

theorem grid0_ok : ok20 grid0 := ⟨List.length_replicate, fun y hy => by
  rw [grid0, List.getD_eq_getElem?_getD, List.getElem?_replicate, if_pos hy]
  exact List.length_replicate⟩

theorem grid0_at {x y : Nat} : (grid0.getD y []).getD x 0 = 0 := by
  simp only [grid0, row0, List.getD_eq_getElem?_getD, List.getElem?_replicate]
  split
  · simp only [Option.getD_some, List.getElem?_replicate]
    split <;> rfl
  · rfl

theorem picN_all (h : Nat → Nat → Int) : picN h (cellsN shZ 480) grid0 (cellsN shZ 480).length = picZ h := by
  refine ext20 (picN_ok grid0_ok _) (picZ_ok h) (fun x y hx hy => ?_)
  rw [picN_at grid0_ok (fun c hc => (cellsN_mem hc).1) hx hy _ (Nat.le_refl _), picZ_at hx hy, List.take_length, grid0_at]
  have : (20 * y + x ∈ cellsN shZ 480) ↔ inSh (x : Nat) (y : Nat) = true := by
    simp only [cellsN, List.mem_filter, List.mem_range]
    rw [show (20 * y + x) % 20 = x by omega, show (20 * y + x) / 20 = y by omega, shZ_has hx hy]
    constructor
    · exact fun q => q.2
    · exact fun q => ⟨by omega, q⟩
  simp only [this]

@[simp] theorem picZ_len (h : Nat → Nat → Int) : (picZ h).length = 24 := (picZ_ok h).1

@[simp] theorem grid0_len : grid0.length = 24 := grid0_ok.1

attribute [local go_sem] picZ_len grid0_len

end Go.Proofs.Ytaegdaimjhhgpaa
