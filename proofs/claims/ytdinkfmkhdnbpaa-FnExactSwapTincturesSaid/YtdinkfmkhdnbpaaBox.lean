/- Lists of boxes: copying, comparing, counting. -/
import Derived.Test.YtdinkfmkhdnbpaaRecs
import Derived.Test.YtdinkfmkhdnbpaaBase
import Derived.Test.YtdinkfmkhdnbpaaFacts
import Derived.WalkKit
import Derived.WalkSpells
import Derived.KernelRfl
namespace Go.Proofs.Ytdinkfmkhdnbpaa
open Go.RowKit
set_option linter.unusedVariables false
set_option linter.unusedSimpArgs false
attribute [local go_sem] ruk ru_fin ru_pure ru_still ru_one rau_some rs_n rs_t rs_c rs_k jr_1 jr_2 jr_3 ps_r ps_n St.after killSs killOs newN dropO killN allU fillP rn_build listT rap_some rp_one rp_pure rp_fin rpk guard_ud ck_t ck_f rik Int.toNat_natCast drop_at kx_r kx_e in_n in_r in_e po_n po_r rn_nil rn_guard guard_tt guard_ff guard_tf guard_ft guard_un next_some rn_call rn_move rn_assign rn_pick rn_alloc rn_box rn_buildSlice rn_load rn_store rn_nilCheck rn_binOp rn_unOp rn_convert rn_makeFunc rn_makeSlice rn_slice rn_fieldAddr rn_field rn_indexAddr rn_index rn_extract rn_builtin stepOp actOp pureOp St.ev look AV.split AV.one St.new St.puto St.put put killS killO lookO putO delO AV.refs AV.refsL OB.refs St.adopt adoptL loadD loadA tAgg guardOf binD unD pick_t pick_f pick_b one_s one_i one_b one_l one_p rc_eq rc_some AV.pack allD storeOb fillA denseA buildA obCells srcCells OB.fill OB.join obOf zeroD kx_n ri_nil ri_cons ra_some inB eqInts Bool.false_eq_true Bool.or_false Bool.or_self List.drop_succ_cons List.drop_zero List.take_succ_cons List.take_zero List.take_nil List.drop_nil List.getD_cons_zero List.getD_cons_succ ne_eq not_false_eq_true Nat.zero_add Nat.add_zero Bool.not_true Bool.not_false cond_true cond_false true_and and_true List.map_cons List.map_nil List.length_cons List.length_nil List.getElem?_toArray List.getElem?_cons_zero List.getElem?_cons_succ Option.map_some Option.map_none Option.isSome_some List.nil_append List.cons_append List.append_nil Int.toNat_zero Nat.zero_mul Nat.mul_one cells_1 cells_2 cells_3 cells_4 cells_5 cells_6 cells_7 cells_8 cells_9 cells_10 cells_11 cells_12 cells_13 cells_14 cells_15 cells_16 cells_17 cells_18 cells_19 cells_21 cells_22 cells_23 cells_25 cells_26 cells_27 cells_28 cells_29 cells_30 cells_31 cells_32 cells_33 cells_34 cells_35 cells_36 cells_37 cells_38 cells_39 cells_40 cells_41 cells_42 cells_43 cells_44 cells_45 cells_47 cells_48 cells_49 cells_50 cells_51 cells_52 cells_53 cells_54 cells_55 cells_57 cells_58 cells_59 cells_61 cells_62 cells_63 cells_64 cells_65 cells_66 cells_67 cells_68 cells_69 cells_70 cells_71 cells_72 cells_73 cells_74 cells_75 cells_76 cells_77 cells_78 cells_79 cells_80 cells_81 cells_82 cells_83 cells_84 cells_85 cells_86 cells_87 cells_88 cells_89 cells_90 cells_91 cells_92 cells_93 cells_94 cells_95 cells_96 cells_97 cells_98 cells_99 cells_100 cells_101 cells_102 cells_103 cells_104 cells_105 cells_106 cells_107 cells_108 cells_109 cells_110 cells_111 cells_112 cells_113 cells_114 cells_115 cells_116 cells_117 zeroOk_1 bytes_1 zeroOk_2 bytes_2 zeroV_2 zeroOk_3 bytes_3 zeroV_3 zeroOk_4 bytes_4 zeroV_4 zeroOk_5 bytes_5 zeroV_5 zeroOk_6 bytes_6 zeroV_6 zeroOk_7 bytes_7 zeroV_7 zeroOk_8 bytes_8 zeroV_8 zeroOk_9 bytes_9 zeroV_9 zeroOk_10 bytes_10 zeroV_10 zeroOk_11 bytes_11 zeroV_11 zeroOk_12 bytes_12 zeroV_12 zeroOk_13 bytes_13 zeroV_13 zeroOk_14 bytes_14 zeroV_14 zeroOk_15 bytes_15 zeroV_15 zeroOk_16 bytes_16 zeroV_16 zeroOk_17 bytes_17 zeroV_17 zeroOk_18 bytes_18 zeroV_18 zeroOk_19 bytes_19 zeroV_19 zeroOk_21 bytes_21 zeroV_21 zeroOk_22 bytes_22 zeroV_22 zeroOk_23 bytes_23 zeroOk_25 bytes_25 zeroOk_26 bytes_26 zeroOk_27 bytes_27 zeroOk_28 bytes_28 zeroOk_29 bytes_29 zeroV_29 zeroOk_30 bytes_30 zeroV_30 zeroOk_31 bytes_31 zeroV_31 zeroOk_32 bytes_32 zeroOk_33 bytes_33 zeroOk_34 bytes_34 zeroV_34 zeroOk_35 bytes_35 zeroV_35 zeroOk_36 bytes_36 zeroV_36 zeroOk_37 bytes_37 zeroOk_38 bytes_38 zeroOk_39 bytes_39 zeroOk_40 bytes_40 zeroV_40 zeroOk_41 bytes_41 zeroV_41 zeroOk_42 bytes_42 zeroV_42 zeroOk_43 bytes_43 zeroV_43 zeroOk_44 bytes_44 zeroV_44 zeroOk_45 bytes_45 zeroV_45 zeroOk_47 bytes_47 zeroOk_48 bytes_48 zeroV_48 zeroOk_49 bytes_49 zeroV_49 zeroOk_50 bytes_50 zeroV_50 zeroOk_51 bytes_51 zeroV_51 zeroOk_52 bytes_52 zeroOk_53 bytes_53 zeroOk_54 bytes_54 zeroOk_55 bytes_55 zeroV_55 zeroOk_57 bytes_57 zeroOk_58 bytes_58 zeroOk_59 bytes_59 zeroOk_61 bytes_61 zeroOk_62 bytes_62 zeroOk_63 bytes_63 zeroOk_64 bytes_64 zeroOk_65 bytes_65 zeroOk_66 bytes_66 zeroOk_67 bytes_67 zeroOk_68 bytes_68 zeroOk_69 bytes_69 zeroOk_70 bytes_70 zeroOk_71 bytes_71 zeroOk_72 bytes_72 zeroOk_73 bytes_73 zeroOk_74 bytes_74 zeroOk_75 bytes_75 zeroOk_76 bytes_76 zeroOk_77 bytes_77 zeroOk_78 bytes_78 zeroOk_79 bytes_79 zeroOk_80 bytes_80 zeroOk_81 bytes_81 zeroOk_82 bytes_82 zeroV_82 zeroOk_83 bytes_83 zeroV_83 zeroOk_84 bytes_84 zeroOk_85 bytes_85 zeroOk_86 bytes_86 zeroOk_87 bytes_87 zeroOk_88 bytes_88 zeroOk_89 bytes_89 zeroOk_90 bytes_90 zeroOk_91 bytes_91 zeroOk_92 bytes_92 zeroOk_93 bytes_93 zeroOk_94 bytes_94 zeroV_94 zeroOk_95 bytes_95 zeroOk_96 bytes_96 zeroV_96 zeroOk_97 bytes_97 zeroOk_98 bytes_98 zeroOk_99 bytes_99 zeroOk_100 bytes_100 zeroV_100 zeroOk_101 bytes_101 zeroOk_102 bytes_102 zeroOk_103 bytes_103 zeroV_103 zeroOk_104 bytes_104 zeroV_104 zeroOk_105 bytes_105 zeroV_105 zeroOk_106 bytes_106 zeroV_106 zeroOk_107 bytes_107 zeroV_107 zeroOk_108 bytes_108 zeroOk_109 bytes_109 zeroV_109 zeroOk_110 bytes_110 zeroV_110 zeroOk_111 bytes_111 zeroV_111 zeroOk_112 bytes_112 zeroOk_113 bytes_113 zeroV_113 zeroOk_114 bytes_114 zeroV_114 zeroOk_115 bytes_115 zeroV_115 zeroOk_116 bytes_116 zeroOk_117 bytes_117 seq_48 seq_49 seq_51 Try.underlying1 Try.underlying2 Try.underlying3 Try.underlying4 Try.underlying5 Try.underlying6 Try.underlying7 Try.underlying8 Try.underlying9 Try.underlying10 Try.underlying11 Try.underlying12 Try.underlying13 Try.underlying14 Try.underlying15 Try.underlying16 Try.underlying17 Try.underlying18 Try.underlying19 Try.underlying21 Try.underlying22 Try.underlying23 Try.underlying25 Try.underlying26 Try.underlying27 Try.underlying28 Try.underlying29 Try.underlying30 Try.underlying31 Try.underlying32 Try.underlying33 Try.underlying34 Try.underlying35 Try.underlying36 Try.underlying37 Try.underlying38 Try.underlying39 Try.underlying40 Try.underlying41 Try.underlying42 Try.underlying43 Try.underlying44 Try.underlying45 Try.underlying47 Try.underlying48 Try.underlying49 Try.underlying50 Try.underlying51 Try.underlying52 Try.underlying53 Try.underlying54 Try.underlying55 Try.underlying57 Try.underlying58 Try.underlying59 Try.underlying61 Try.underlying62 Try.underlying63 Try.underlying64 Try.underlying65 Try.underlying66 Try.underlying67 Try.underlying68 Try.underlying69 Try.underlying70 Try.underlying71 Try.underlying72 Try.underlying73 Try.underlying74 Try.underlying75 Try.underlying76 Try.underlying77 Try.underlying78 Try.underlying79 Try.underlying80 Try.underlying81 Try.underlying82 Try.underlying83 Try.underlying84 Try.underlying85 Try.underlying86 Try.underlying87 Try.underlying88 Try.underlying89 Try.underlying90 Try.underlying91 Try.underlying92 Try.underlying93 Try.underlying94 Try.underlying95 Try.underlying96 Try.underlying97 Try.underlying98 Try.underlying99 Try.underlying100 Try.underlying101 Try.underlying102 Try.underlying103 Try.underlying104 Try.underlying105 Try.underlying106 Try.underlying107 Try.underlying108 Try.underlying109 Try.underlying110 Try.underlying111 Try.underlying112 Try.underlying113 Try.underlying114 Try.underlying115 Try.underlying116 Try.underlying117

structure BoxV where
  (x y s : Int)

def BoxV.d (b : BoxV) : D := .ag [.int b.x, .int b.y, .int b.s]

def BoxV.cs (b : BoxV) : List D := [.int b.x, .int b.y, .int b.s]

def BoxV.zero : BoxV := ⟨0, 0, 0⟩

def boxC (l : List BoxV) : List D := recC BoxV.cs l

def boxL (l : List BoxV) : D := .ls 3 l.length (boxC l)

attribute [local go_sem] BoxV.d BoxV.cs boxL

theorem box_k : ∀ b : BoxV, b.cs.length = 3 := fun _ => rfl

theorem box_at {l : List BoxV} {i : Nat} (h : i < l.length) : ((boxC l).drop (i * 3)).take 3 = [.int (l.getD i BoxV.zero).x, .int (l.getD i BoxV.zero).y, .int (l.getD i BoxV.zero).s] := recC_at box_k BoxV.zero h

theorem boxC_all (l : List BoxV) : (boxC l).take (l.length * 3) = boxC l := recC_all box_k l

theorem boxC_raw (l : List BoxV) : D.ls 3 l.length (((boxC l).drop 0).take (l.length * 3)) = boxL l := recC_raw box_k l

theorem boxC_plains (l : List BoxV) : plains (boxC l) := recC_plains (cs := BoxV.cs) (fun b => (⟨trivial, trivial, trivial, trivial⟩ : plains [.int b.x, .int b.y, .int b.s])) l

theorem boxM_clen {l : List BoxV} {i : Nat} (h : i ≤ l.length) : (boxC (recM BoxV.zero l i)).length = l.length * 3 := recM_clen box_k h

@[simp] theorem boxC_len (l : List BoxV) : (boxC l).length = l.length * 3 := recC_len box_k l

theorem boxM_step {l : List BoxV} {i : Nat} (h : i < l.length) : (boxC (recM BoxV.zero l i)).take (i * 3) ++ [.int (l.getD i BoxV.zero).x, .int (l.getD i BoxV.zero).y, .int (l.getD i BoxV.zero).s] ++ (boxC (recM BoxV.zero l i)).drop (i * 3 + 3) = boxC (recM BoxV.zero l (i + 1)) := recM_step box_k h

attribute [local simp] boxC_all boxC_plains

end Go.Proofs.Ytdinkfmkhdnbpaa
