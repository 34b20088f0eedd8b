/- A cell is taken out of a region: the closure that writes a row of an object that it was handed. -/
import Derived.Test.YtaegdaimjhhgpaaCells
import Derived.WalkKit
import Derived.WalkSpells
import Derived.KernelRfl
import Derived.Laws.BitsLemmas
namespace Go.Proofs.Ytaegdaimjhhgpaa
section

open Go.RowKit
set_option linter.unusedVariables false
set_option linter.unusedSimpArgs false

attribute [local go_sem] intL

attribute [local simp] ints_plain ints_all ints_all1 ints_plain_take

def clrB (z : Int) (x : Nat) : Int := bits .andNot .i64 z (IntKind.i64.wrap (1 * 2 ^ (min (x : Int).toNat IntKind.i64.bits)))

def clrZ (zs : List Int) (x y : Nat) : List Int := zs.set y (clrB (zs.getD y 0) x)

theorem clrZ_len (zs : List Int) (x y : Nat) : (clrZ zs x y).length = zs.length := by simp [clrZ]

set_option maxRecDepth 100000 in
theorem pl_Fill_165_1 (l : List Oper) (h : l = opsOf Try.f165 1) : planB l (.pure 0 (.pure 1 (.pure 2 (.pure 3 (.pure 4 (.pure 5 (.pure 6 (.pure 7 (.pure 8 PT.fin))))))))) [9] = true := by
  subst h
  kernel_rfl

set_option maxRecDepth 100000 in
set_option maxHeartbeats 4000000 in
theorem fill1_hi (zs : List Int) (x y : Nat) (hl : zs.length = 24) (hx : x < 20) (hy : y < 24) : FnS Try.prog 165 [(5000, .ds (zs.map D.int)), (5001, .av [.bs 5000 0 24 1])] [.d (.int x), .d (.int y), .bp 5001 0] [(5000, .ds ((clrZ zs x y).map D.int)), (5001, .av [.bs 5000 0 24 1])] (.d (.bool true)) := by
  have hz : (zs.map D.int).length = 24 := by simp [hl]
  refine fns_go Try.func165 rfl rfl Try.ntmps165 Try.results165 (by simp only [slotsA, Nat.reduceAdd]; rfl) (by simp) rfl ?_
  repeat' (first | (with_reducible first | refine aw_seq fun K hK => ?_ | refine aw_region (by kernel_rfl) ?_ | refine aw_condk ?_ | refine aw_block ?_) | ((with_reducible refine ev_aw ?_); first | (refine aw_draw (id := 1) (by kernel_rfl) _ _ (by kernel_rfl) (pl_Fill_165_1 _ (by kernel_rfl)) ?_)) | (with_reducible first | refine ru_four ?_ ?_ ?_ ?_ | refine ru_three ?_ ?_ ?_ | refine ru_two ?_ ?_ | refine rp_two ?_ ?_) | ((with_reducible refine evg ?_); simp only [go_sem, St.clean, cleanO, ↓reduceIte, Nat.reduceEqDiff, Nat.reduceBEq, Nat.reduceAdd, Nat.reduceMul, Nat.reduceSub, Nat.reduceLT, Nat.reduceLeDiff]) | (simp (disch := omega) only [wr, drop_at, str_at, int_at, Int.reduceSub, Int.reduceAdd, Int.reduceToNat, Int.toNat_zero, int_at, hz]) | ((with_reducible refine ev_guard ?_); (with_reducible first | refine guard_t ?_ ?_ rfl | refine guard_f ?_ ?_ rfl) <;> (intro h; (try simp only [h]); (try simp only [nrm] at h) <;> (try ((with_reducible exfalso); omega)))) | ((with_reducible refine ck_split (fun h => ?_) (fun h => ?_)) <;> (try simp only [nrm] at h) <;> (try ((with_reducible exfalso); omega))) | ((with_reducible refine And.intro ?_ ?_); (first | omega | focus (simp; done) | focus (simp; omega) | focus ((repeat' (with_reducible refine And.intro ?_ ?_)) <;> first | omega | rfl | (simp only [go_sem, refsL_app, refs_dmap] <;> fail) | (simp [refsL_app, refs_dmap, AV.refsL, AV.refs] <;> omega)))) | (with_reducible refine hJ _ (fun K hK => ?_) ?_ <;> clear hJ KJ) | ((with_reducible refine ev_less ?_); (refine ⟨rfl, ?_, ?_⟩ <;> simp only [go_sem, St.clean, cleanO, SubS, SubO, beq_self_eq_true, ↓reduceIte, Nat.reduceEqDiff, Nat.reduceBEq, Nat.reduceAdd, Nat.reduceMul, Nat.reduceSub, Nat.reduceLT, Nat.reduceLeDiff])) | ((with_reducible first | apply hK | (clear hK K; first | apply hK | (clear hK K; first | apply hK | (clear hK K; apply hK)))); clear hK K) | fail)
  all_goals
    have e : (clrZ zs x y).map D.int = (zs.map D.int).set y (D.int (clrB (zs.getD y 0) x)) := by rw [map_set]; rfl
    rw [e]
    exact ress_tmp (by simp [lensO, lookO, obCells]) ⟨rfl, rfl, trivial⟩ rfl

def clrR (zs : List Int) (bx y : Nat) : Nat → List Int
  | 0 => zs
  | n + 1 => clrZ (clrR zs bx y n) (bx + n) y

def clrA (zs : List Int) (bx by' s : Nat) : Nat → List Int
  | 0 => zs
  | n + 1 => clrR (clrA zs bx by' s n) bx (by' + n) s

theorem clrR_len (zs : List Int) (bx y : Nat) : ∀ n, (clrR zs bx y n).length = zs.length
  | 0 => rfl
  | n + 1 => by rw [clrR, clrZ_len, clrR_len zs bx y n]

theorem clrA_len (zs : List Int) (bx by' s : Nat) : ∀ n, (clrA zs bx by' s n).length = zs.length
  | 0 => rfl
  | n + 1 => by rw [clrA, clrR_len, clrA_len zs bx by' s n]

set_option maxRecDepth 100000 in
set_option maxHeartbeats 4000000 in
theorem fillAll_hi (zs : List Int) (bx by' s : Nat) (hl : zs.length = 24) (h1 : bx + s ≤ 20) (h2 : by' + s ≤ 24) : FnS Try.prog 132 [(5000, .ds (zs.map D.int)), (5001, .av [.bs 5000 0 24 1])] [.d (.ag [.int bx, .int by', .int s]), .fc 165 [] [.bp 5001 0]] [(5000, .ds ((clrA zs bx by' s s).map D.int)), (5001, .av [.bs 5000 0 24 1])] (.d (.bool true)) := by
  refine fns_go Try.func132 rfl rfl Try.ntmps132 Try.results132 (by simp only [slotsA, Nat.reduceAdd]; rfl) (by simp) rfl ?_
  repeat' (first | (with_reducible first | refine aw_seq fun K hK => ?_ | refine aw_region (by kernel_rfl) ?_ | refine aw_condk ?_ | refine aw_block ?_) | ((with_reducible refine evg ?_); simp only [go_sem, ↓reduceIte, Nat.reduceEqDiff, Nat.reduceBEq, Nat.reduceAdd, Nat.reduceMul, Nat.reduceSub, Nat.reduceLT, Nat.reduceLeDiff]) | ((with_reducible refine ev_guard ?_); (with_reducible first | refine guard_t ?_ ?_ rfl | refine guard_f ?_ ?_ rfl) <;> (intro h; (try simp only [h]); (try simp only [nrm] at h))) | ((with_reducible refine ck_split (fun h => ?_) (fun h => ?_)) <;> (try simp only [nrm] at h)) | ((with_reducible refine And.intro ?_ ?_); (first | omega | focus (simp; done) | focus (simp; omega) | focus ((repeat' (with_reducible refine And.intro ?_ ?_)) <;> first | omega | rfl | (simp only [go_sem, refsL_app, refs_dmap] <;> fail) | (simp [refsL_app, refs_dmap, AV.refsL, AV.refs] <;> omega)))) | ((with_reducible first | apply hK | (clear hK K; first | apply hK | (clear hK K; first | apply hK | (clear hK K; apply hK)))); clear hK K) | (simp (disch := omega) only [wr, drop_at, str_at, int_at, Int.reduceSub, Int.reduceAdd, Int.reduceToNat, Int.toNat_zero]) | fail)
  refine aw_loopU [4, 5, 6, 9, 10, 11, 12, 13, 14, 15, 16, 17, 18, 19, 20, 21, 22, 23, 24, 25, 26, 27, 28, 29, 30, 31, 32, 33] [32, 5000] (fun j : Nat => [(5, .d (.int ((by' : Int) + j)))]) (fun j => [(5000, .ds ((clrA zs bx by' s j).map D.int))]) (fun j => j ≤ s) (fun j => s - j) 0 (by omega) ?_ ?_
  · (refine lessW_of [] rfl ?_ <;> simp only [St.sws, St.sw, swS, swO, AV.sw, AV.swL, OB.sw, swp, St.upd, dropS, dropOs, Less, SubS, SubO, look, lookO, List.elem, List.cons_append, List.nil_append, cond_true, cond_false, and_true, true_and, beq_self_eq_true, ↓reduceIte, Nat.reduceEqDiff, Nat.reduceBEq, Nat.reduceAdd, Nat.reduceMul, Nat.reduceSub, Nat.reduceLT, Nat.reduceLeDiff] <;> try simp)
    rfl
  · rintro j g1
    simp only [St.upd, dropS, dropOs, List.elem, List.cons_append, List.nil_append, cond_true, cond_false, beq_self_eq_true, ↓reduceIte, Nat.reduceEqDiff, Nat.reduceBEq, Nat.reduceAdd, Nat.reduceMul, Nat.reduceSub, Nat.reduceLT, Nat.reduceLeDiff]
    by_cases hj : j < s
    · repeat' (first | (with_reducible first | refine aw_seq fun K hK => ?_ | refine aw_region (by kernel_rfl) ?_ | refine aw_condk ?_ | refine aw_block ?_) | ((with_reducible refine evg ?_); simp only [go_sem, ↓reduceIte, Nat.reduceEqDiff, Nat.reduceBEq, Nat.reduceAdd, Nat.reduceMul, Nat.reduceSub, Nat.reduceLT, Nat.reduceLeDiff]) | (simp (disch := omega) only [wr, drop_at, str_at, int_at, Int.reduceSub, Int.reduceAdd, Int.reduceToNat, Int.toNat_zero, wr]) | ((with_reducible refine ev_guard ?_); (with_reducible first | refine guard_t ?_ ?_ rfl | refine guard_f ?_ ?_ rfl) <;> (intro h; (try simp only [h]); (try simp only [nrm] at h) <;> (try ((with_reducible exfalso); omega)))) | ((with_reducible refine ck_split (fun h => ?_) (fun h => ?_)) <;> (try simp only [nrm] at h) <;> (try ((with_reducible exfalso); omega))) | ((with_reducible refine And.intro ?_ ?_); (first | omega | focus (simp; done) | focus (simp; omega) | focus ((repeat' (with_reducible refine And.intro ?_ ?_)) <;> first | omega | rfl | (simp only [go_sem, refsL_app, refs_dmap] <;> fail) | (simp [refsL_app, refs_dmap, AV.refsL, AV.refs] <;> omega)))) | ((with_reducible first | apply hK | (clear hK K; first | apply hK | (clear hK K; first | apply hK | (clear hK K; apply hK)))); clear hK K) | fail)
      refine aw_loopU [4, 6, 20, 21, 22, 23, 24, 25, 26, 27, 28, 29, 30, 31, 32, 33] [32, 5000] (fun i : Nat => [(6, .d (.int ((bx : Int) + i)))]) (fun i => [(5000, .ds ((clrR (clrA zs bx by' s j) bx (by' + j) i).map D.int))]) (fun i => i ≤ s) (fun i => s - i) 0 (by omega) ?_ ?_
      · (refine lessW_of [] rfl ?_ <;> simp only [St.sws, St.sw, swS, swO, AV.sw, AV.swL, OB.sw, swp, St.upd, dropS, dropOs, Less, SubS, SubO, look, lookO, List.elem, List.cons_append, List.nil_append, cond_true, cond_false, and_true, true_and, beq_self_eq_true, ↓reduceIte, Nat.reduceEqDiff, Nat.reduceBEq, Nat.reduceAdd, Nat.reduceMul, Nat.reduceSub, Nat.reduceLT, Nat.reduceLeDiff] <;> try simp)
        all_goals rfl
      · rintro i f1
        simp only [St.upd, dropS, dropOs, List.elem, List.cons_append, List.nil_append, cond_true, cond_false, beq_self_eq_true, ↓reduceIte, Nat.reduceEqDiff, Nat.reduceBEq, Nat.reduceAdd, Nat.reduceMul, Nat.reduceSub, Nat.reduceLT, Nat.reduceLeDiff]
        have hl2 : (clrR (clrA zs bx by' s j) bx (by' + j) i).length = 24 := by rw [clrR_len, clrA_len, hl]
        by_cases hi : i < s
        · have e1 := fill1_hi (clrR (clrA zs bx by' s j) bx (by' + j) i) (bx + i) (by' + j) hl2 (by omega) (by omega)
          repeat' (first | (with_reducible first | refine aw_seq fun K hK => ?_ | refine aw_region (by kernel_rfl) ?_ | refine aw_condk ?_ | refine aw_block ?_) | ((with_reducible refine evg ?_); simp only [go_sem, ↓reduceIte, Nat.reduceEqDiff, Nat.reduceBEq, Nat.reduceAdd, Nat.reduceMul, Nat.reduceSub, Nat.reduceLT, Nat.reduceLeDiff]) | (simp (disch := omega) only [wr, drop_at, str_at, int_at, Int.reduceSub, Int.reduceAdd, Int.reduceToNat, Int.toNat_zero, wr]) | ((with_reducible refine ev_call ?_); (first | (refine call_s e1 ?_ ?_ ?_ ?_ ?_; (focus rfl); (focus first | exact And.intro rfl trivial | exact ⟨rfl, rfl, trivial⟩ | exact ⟨rfl, rfl, rfl, trivial⟩); (focus rfl); (focus (simp [-List.map_map, apartO, dropO, killN, obCells, refs_dmap, nofnsD, AV.refs, AV.refsL, AV.nofn, AV.nofns] <;> fail)))); refine k_run ?_) | ((with_reducible refine ev_guard ?_); (with_reducible first | refine guard_t ?_ ?_ rfl | refine guard_f ?_ ?_ rfl) <;> (intro h; (try simp only [h]); (try simp only [nrm] at h) <;> (try ((with_reducible exfalso); omega)))) | ((with_reducible refine ck_split (fun h => ?_) (fun h => ?_)) <;> (try simp only [nrm] at h) <;> (try ((with_reducible exfalso); omega))) | ((with_reducible refine And.intro ?_ ?_); (first | omega | focus (simp; done) | focus (simp; omega) | focus ((repeat' (with_reducible refine And.intro ?_ ?_)) <;> first | omega | rfl | (simp only [go_sem, refsL_app, refs_dmap] <;> fail) | (simp [refsL_app, refs_dmap, AV.refsL, AV.refs] <;> omega)))) | ((with_reducible first | apply hK | (clear hK K; first | apply hK | (clear hK K; first | apply hK | (clear hK K; apply hK)))); clear hK K) | fail)
          refine ⟨i + 1, by omega, by omega, ?_⟩
          (refine lessW_of [] rfl ?_ <;> simp only [St.sws, St.sw, swS, swO, AV.sw, AV.swL, OB.sw, swp, St.upd, dropS, dropOs, Less, SubS, SubO, look, lookO, List.elem, List.cons_append, List.nil_append, cond_true, cond_false, and_true, true_and, beq_self_eq_true, ↓reduceIte, Nat.reduceEqDiff, Nat.reduceBEq, Nat.reduceAdd, Nat.reduceMul, Nat.reduceSub, Nat.reduceLT, Nat.reduceLeDiff] <;> try simp)
          all_goals first
            | omega
            | rfl
            | exact ⟨by omega, rfl⟩
        · repeat' (first | (with_reducible first | refine aw_seq fun K hK => ?_ | refine aw_region (by kernel_rfl) ?_ | refine aw_condk ?_ | refine aw_block ?_) | ((with_reducible refine evg ?_); simp only [go_sem, ↓reduceIte, Nat.reduceEqDiff, Nat.reduceBEq, Nat.reduceAdd, Nat.reduceMul, Nat.reduceSub, Nat.reduceLT, Nat.reduceLeDiff]) | (simp (disch := omega) only [wr, drop_at, str_at, int_at, Int.reduceSub, Int.reduceAdd, Int.reduceToNat, Int.toNat_zero, wr]) | ((with_reducible refine ev_guard ?_); (with_reducible first | refine guard_t ?_ ?_ rfl | refine guard_f ?_ ?_ rfl) <;> (intro h; (try simp only [h]); (try simp only [nrm] at h) <;> (try ((with_reducible exfalso); omega)))) | ((with_reducible refine ck_split (fun h => ?_) (fun h => ?_)) <;> (try simp only [nrm] at h) <;> (try ((with_reducible exfalso); omega))) | ((with_reducible refine And.intro ?_ ?_); (first | omega | focus (simp; done) | focus (simp; omega) | focus ((repeat' (with_reducible refine And.intro ?_ ?_)) <;> first | omega | rfl | (simp only [go_sem, refsL_app, refs_dmap] <;> fail) | (simp [refsL_app, refs_dmap, AV.refsL, AV.refs] <;> omega)))) | ((with_reducible first | apply hK | (clear hK K; first | apply hK | (clear hK K; first | apply hK | (clear hK K; apply hK)))); clear hK K) | fail)
          have e : i = s := by omega
          subst e
          refine ⟨j + 1, by omega, by omega, ?_⟩
          (refine lessW_of [] rfl ?_ <;> simp only [St.sws, St.sw, swS, swO, AV.sw, AV.swL, OB.sw, swp, St.upd, dropS, dropOs, Less, SubS, SubO, look, lookO, List.elem, List.cons_append, List.nil_append, cond_true, cond_false, and_true, true_and, beq_self_eq_true, ↓reduceIte, Nat.reduceEqDiff, Nat.reduceBEq, Nat.reduceAdd, Nat.reduceMul, Nat.reduceSub, Nat.reduceLT, Nat.reduceLeDiff] <;> try simp)
          all_goals first
            | omega
            | rfl
            | exact ⟨by omega, rfl⟩
    · repeat' (first | (with_reducible first | refine aw_seq fun K hK => ?_ | refine aw_region (by kernel_rfl) ?_ | refine aw_condk ?_ | refine aw_block ?_) | ((with_reducible refine evg ?_); simp only [go_sem, ↓reduceIte, Nat.reduceEqDiff, Nat.reduceBEq, Nat.reduceAdd, Nat.reduceMul, Nat.reduceSub, Nat.reduceLT, Nat.reduceLeDiff]) | (simp (disch := omega) only [wr, drop_at, str_at, int_at, Int.reduceSub, Int.reduceAdd, Int.reduceToNat, Int.toNat_zero, wr]) | ((with_reducible refine ev_guard ?_); (with_reducible first | refine guard_t ?_ ?_ rfl | refine guard_f ?_ ?_ rfl) <;> (intro h; (try simp only [h]); (try simp only [nrm] at h) <;> (try ((with_reducible exfalso); omega)))) | ((with_reducible refine ck_split (fun h => ?_) (fun h => ?_)) <;> (try simp only [nrm] at h) <;> (try ((with_reducible exfalso); omega))) | ((with_reducible refine And.intro ?_ ?_); (first | omega | focus (simp; done) | focus (simp; omega) | focus ((repeat' (with_reducible refine And.intro ?_ ?_)) <;> first | omega | rfl | (simp only [go_sem, refsL_app, refs_dmap] <;> fail) | (simp [refsL_app, refs_dmap, AV.refsL, AV.refs] <;> omega)))) | ((with_reducible first | apply hK | (clear hK K; first | apply hK | (clear hK K; first | apply hK | (clear hK K; apply hK)))); clear hK K) | fail)
      have e : j = s := by omega
      subst e
      exact ress_tmp (by simp [lensO, lookO, obCells, clrA_len]) ⟨rfl, rfl, trivial⟩ rfl

end

section

open Go.RowKit
set_option linter.unusedVariables false
set_option linter.unusedSimpArgs false

theorem andNot_bits {a m : Nat} (ha : a < 2 ^ 63) (hm : m < 2 ^ 63) : ∃ c : Nat, bits .andNot .i64 (a : Int) (m : Int) = (c : Int) ∧ c ≤ a ∧ ∀ i, c.testBit i = (a.testBit i && !m.testBit i) := by
  have h1 : (BitVec.ofInt 64 (a : Int)).toNat = a := by
    rw [BitVec.ofInt_natCast, BitVec.toNat_ofNat]; exact Nat.mod_eq_of_lt (by omega)
  have h2 : (BitVec.ofInt 64 (m : Int)).toNat = m := by
    rw [BitVec.ofInt_natCast, BitVec.toNat_ofNat]; exact Nat.mod_eq_of_lt (by omega)
  have hx : a &&& (2 ^ 64 - (m + 1)) < 2 ^ 63 := Nat.lt_of_le_of_lt Nat.and_le_left ha
  refine ⟨a &&& (2 ^ 64 - (m + 1)), ?_, Nat.and_le_left, ?_⟩
  · show IntKind.i64.wrap ((BitVec.ofInt 64 (a : Int) &&& ~~~ BitVec.ofInt 64 (m : Int)).toNat : Int) = _
    rw [BitVec.toNat_and, BitVec.toNat_not, h1, h2, show 2 ^ 64 - 1 - m = 2 ^ 64 - (m + 1) by omega]
    exact wrap63 _ (Int.natCast_nonneg _) (by exact_mod_cast hx)
  · intro i
    simp only [Nat.testBit_and, Nat.testBit_two_pow_sub_succ (show m < 2 ^ 64 by omega)]
    by_cases hi : i < 64
    · simp [hi]
    · have : a.testBit i = false := Nat.testBit_lt_two_pow (Nat.lt_of_lt_of_le ha (Nat.pow_le_pow_right (by decide) (by omega)))
      simp [this]

theorem one_shl {x : Nat} (hx : x < 40) : IntKind.i64.wrap (1 * 2 ^ (min x 64)) = ((2 ^ x : Nat) : Int) := by
  have hp : 2 ^ x ≤ 2 ^ 40 := Nat.pow_le_pow_right (by decide) (by omega)
  have h40 : (2 : Nat) ^ 40 < 2 ^ 63 := by decide
  rw [show min x 64 = x by omega, Int.one_mul, show ((2 : Int) ^ x) = ((2 ^ x : Nat) : Int) by simp]
  exact wrap63 _ (Int.natCast_nonneg _) (by
    have : (2 : Nat) ^ x < 2 ^ 63 := by omega
    exact_mod_cast this)

theorem clrB_bits {a x : Nat} (ha : a < 2 ^ 63) (hx : x < 40) : ∃ c : Nat, clrB (a : Int) x = (c : Int) ∧ c ≤ a ∧ ∀ i, c.testBit i = (a.testBit i && !decide (x = i)) := by
  have hp : 2 ^ x ≤ 2 ^ 40 := Nat.pow_le_pow_right (by decide) (by omega)
  have h40 : (2 : Nat) ^ 40 < 2 ^ 63 := by decide
  obtain ⟨c, h1, h2, h3⟩ := andNot_bits (m := 2 ^ x) ha (by omega)
  refine ⟨c, ?_, h2, fun i => ?_⟩
  · rw [clrB, show IntKind.i64.bits = 64 from rfl, Int.toNat_natCast, one_shl hx, h1]
  · rw [h3, Nat.testBit_two_pow]

def clrV (v : Int) (bx : Nat) : Nat → Int
  | 0 => v
  | n + 1 => clrB (clrV v bx n) (bx + n)

theorem clrV_bits {a bx : Nat} (ha : a < 2 ^ 63) : ∀ n, bx + n ≤ 40 → ∃ c : Nat, clrV (a : Int) bx n = (c : Int) ∧ c ≤ a ∧ ∀ i, c.testBit i = (a.testBit i && !(decide (bx ≤ i) && decide (i < bx + n)))
  | 0, _ => ⟨a, rfl, Nat.le_refl a, fun i => by
      by_cases h : bx ≤ i
      · simp [h, show ¬ i < bx by omega]
      · simp [h]⟩
  | n + 1, h => by
    obtain ⟨c, h1, h2, h3⟩ := clrV_bits (bx := bx) ha n (by omega)
    obtain ⟨d, h4, h5, h6⟩ := clrB_bits (a := c) (x := bx + n) (by omega) (by omega)
    refine ⟨d, by rw [clrV, h1, h4], by omega, fun i => ?_⟩
    rw [h6, h3, Bool.and_assoc]
    congr 1
    by_cases g1 : bx ≤ i <;> by_cases g2 : i < bx + n <;> by_cases g3 : bx + n = i <;> simp_all <;> omega

theorem clrR_eq {zs : List Int} {bx y : Nat} (hy : y < zs.length) : ∀ n, clrR zs bx y n = zs.set y (clrV (zs.getD y 0) bx n)
  | 0 => by
    have : zs.getD y 0 = zs[y] := by simp [List.getD_eq_getElem?_getD, hy]
    rw [clrR, clrV, this, List.set_getElem_self]
  | n + 1 => by
    rw [clrR, clrZ, clrR_eq hy n, clrV]
    rw [List.set_set]
    congr 2
    simp [List.getD_eq_getElem?_getD, List.getElem?_set, hy]

def specB (v : Int) (s x : Nat) : Int := bits .andNot .i64 v (IntKind.i64.wrap ((IntKind.i64.wrap (IntKind.i64.wrap (1 * 2 ^ (min s 64)) - 1)) * 2 ^ (min x 64)))

theorem specB_eq {a s x : Nat} (ha : a < 2 ^ 63) (h : x + s ≤ 40) : specB (a : Int) s x = clrV (a : Int) x s := by
  have h40 : (2 : Nat) ^ 40 < 2 ^ 63 := by decide
  by_cases hs40 : s = 40
  · have hx0 : x = 0 := by omega
    subst hs40 hx0
    obtain ⟨c, h1, h2, h3⟩ := andNot_bits (m := 2 ^ 40 - 1) ha (by omega)
    obtain ⟨d, h4, h5, h6⟩ := clrV_bits (bx := 0) ha 40 (by omega)
    rw [h4]
    have e : specB (a : Int) 40 0 = bits .andNot .i64 (a : Int) ((2 ^ 40 - 1 : Nat) : Int) := rfl
    rw [e, h1]
    congr 1
    apply Nat.eq_of_testBit_eq
    intro i
    rw [h3, h6, Nat.testBit_two_pow_sub_one]
    simp
  have hs : s < 40 := by omega
  have hp : 2 ^ s * 2 ^ x ≤ 2 ^ 40 := by rw [← Nat.pow_add]; exact Nat.pow_le_pow_right (by decide) (by omega)
  have hps : 2 ^ s ≤ 2 ^ 40 := Nat.pow_le_pow_right (by decide) (by omega)
  have hs1 : 1 ≤ 2 ^ s := Nat.one_le_two_pow
  have hm : (2 ^ s - 1) * 2 ^ x ≤ 2 ^ 40 := by rw [Nat.sub_mul]; omega
  have e1 : IntKind.i64.wrap (IntKind.i64.wrap (1 * 2 ^ (min s 64)) - 1) = ((2 ^ s - 1 : Nat) : Int) := by
    rw [one_shl hs, show ((2 ^ s : Nat) : Int) - 1 = ((2 ^ s - 1 : Nat) : Int) by omega]
    exact wrap63 _ (Int.natCast_nonneg _) (by
      have : 2 ^ s - 1 < 2 ^ 63 := by omega
      exact_mod_cast this)
  have e2 : IntKind.i64.wrap (((2 ^ s - 1 : Nat) : Int) * 2 ^ (min x 64)) = (((2 ^ s - 1) * 2 ^ x : Nat) : Int) := by
    rw [show min x 64 = x by omega, show ((2 : Int) ^ x) = ((2 ^ x : Nat) : Int) by simp, ← Int.natCast_mul]
    exact wrap63 _ (Int.natCast_nonneg _) (by
      have : (2 ^ s - 1) * 2 ^ x < 2 ^ 63 := by omega
      exact_mod_cast this)
  obtain ⟨c, h1, h2, h3⟩ := andNot_bits (m := (2 ^ s - 1) * 2 ^ x) ha (by omega)
  obtain ⟨d, h4, h5, h6⟩ := clrV_bits (bx := x) ha s (by omega)
  rw [specB, e1, e2, h1, h4]
  congr 1
  apply Nat.eq_of_testBit_eq
  intro i
  rw [h3, h6]
  congr 2
  rw [Nat.mul_comm, Nat.testBit_two_pow_mul, Nat.testBit_two_pow_sub_one]
  by_cases g1 : x ≤ i <;> simp [g1] <;> omega

def clrS (zs : List Int) (bx by' s : Nat) : Nat → List Int
  | 0 => zs
  | n + 1 => (clrS zs bx by' s n).set (by' + n) (specB ((clrS zs bx by' s n).getD (by' + n) 0) s bx)

theorem okZ_set {zs : List Int} (h : okZ zs) {y : Nat} {v : Int} (h0 : 0 ≤ v) (h1 : v < 9223372036854775808) : okZ (zs.set y v) := ⟨by rw [List.length_set]; exact h.1, fun i hi => by
  have := h.2 i hi
  simp only [List.getD_eq_getElem?_getD, List.getElem?_set]
  split
  · split <;> simp [h0, h1]
  · simpa [List.getD_eq_getElem?_getD] using this⟩

theorem clrV_ok {v : Int} {bx n : Nat} (h0 : 0 ≤ v) (h1 : v < 9223372036854775808) (h : bx + n ≤ 40) : 0 ≤ clrV v bx n ∧ clrV v bx n < 9223372036854775808 := by
  obtain ⟨a, rfl⟩ := Int.eq_ofNat_of_zero_le h0
  obtain ⟨c, h2, h3, _⟩ := clrV_bits (a := a) (bx := bx) (by omega) n h
  rw [h2]
  omega

theorem clrA_ok {zs : List Int} (hz : okZ zs) {bx by' s : Nat} (h1 : bx + s ≤ 40) : ∀ n, by' + n ≤ 24 → okZ (clrA zs bx by' s n)
  | 0, _ => hz
  | n + 1, h => by
    have ih := clrA_ok (by' := by') hz h1 n (by omega)
    have hv := ih.2 (by' + n) (by omega)
    rw [clrA, clrR_eq (by rw [ih.1]; omega)]
    have := clrV_ok hv.1 hv.2 h1
    exact okZ_set ih this.1 this.2

theorem clrS_eq {zs : List Int} (hz : okZ zs) {bx by' s : Nat} (h1 : bx + s ≤ 40) : ∀ n, by' + n ≤ 24 → clrS zs bx by' s n = clrA zs bx by' s n
  | 0, _ => rfl
  | n + 1, h => by
    have ih := clrA_ok (by' := by') hz h1 n (by omega)
    have hv := ih.2 (by' + n) (by omega)
    rw [clrS, clrA, clrS_eq (by' := by') hz h1 n (by omega), clrR_eq (by rw [ih.1]; omega)]
    obtain ⟨a, ha⟩ := Int.eq_ofNat_of_zero_le hv.1
    rw [ha, specB_eq (by omega) h1]

theorem okRow_clr {v : Int} {y bx n : Nat} (h : okRow y v = true) (hb : bx + n ≤ 40) : okRow y (clrV v bx n) = true := by
  have hlt := okRow_lt h
  obtain ⟨a, rfl⟩ := Int.eq_ofNat_of_zero_le hlt.1
  obtain ⟨c, h2, h3, h4⟩ := clrV_bits (a := a) (bx := bx) (by omega) n hb
  simp only [okRow, Bool.and_eq_true, decide_eq_true_eq, beq_iff_eq, Int.toNat_natCast] at h ⊢
  rw [h2]
  refine ⟨by omega, ?_⟩
  rw [Int.toNat_natCast]
  apply Nat.eq_of_testBit_eq
  intro i
  have := congrArg (fun n => n.testBit i) h.2
  simp only [Nat.testBit_and, h4] at this ⊢
  generalize (rowN (cellP (fun _ _ => true) y) 20).testBit i = q at this ⊢
  generalize a.testBit i = r at this ⊢
  cases r <;> cases q <;> simp_all

theorem okReg_clr {zs : List Int} (h : okReg zs = true) {bx by' s : Nat} (h1 : bx + s ≤ 40) : ∀ n, by' + n ≤ 24 → okReg (clrA zs bx by' s n) = true
  | 0, _ => h
  | n + 1, hn => by
    have ih := okReg_clr (by' := by') h h1 n (by omega)
    have hl := okReg_len ih
    rw [clrA, clrR_eq (by rw [hl]; omega)]
    simp only [okReg, Bool.and_eq_true, decide_eq_true_eq, List.all_eq_true, List.mem_range, List.length_set]
    refine ⟨hl, fun i hi => ?_⟩
    have hr := okReg_row ih hi
    simp only [List.getD_eq_getElem?_getD, List.getElem?_set]
    split
    · rename_i e
      subst e
      rw [if_pos (by omega)]
      have := okRow_clr (bx := bx) (n := s) hr h1
      simpa [List.getD_eq_getElem?_getD] using this
    · simpa [List.getD_eq_getElem?_getD] using hr

def boxAt (c s : Nat) : BoxV := ⟨((c % 20 : Nat) : Int), ((c / 20 : Nat) : Int), (s : Int)⟩

def wholeB (zs : List Int) (c s : Nat) : Bool := allB (boxAt c s) (hasZ zs) s

theorem whole_in {zs : List Int} {c s : Nat} (hs : 1 ≤ s) (h : wholeB zs c s = true) : c % 20 + s ≤ 20 ∧ c / 20 + s ≤ 24 := by
  have hlast : hasZ zs ((boxAt c s).x + ((s - 1 : Nat) : Int)) ((boxAt c s).y + ((s - 1 : Nat) : Int)) = true := by
    cases hh : hasZ zs ((boxAt c s).x + ((s - 1 : Nat) : Int)) ((boxAt c s).y + ((s - 1 : Nat) : Int))
    · have e : (boxAt c s).s.toNat = s := by simp [boxAt]
      have := allB_not (b := boxAt c s) (p := hasZ zs) (j := s - 1) (i := s - 1) (by rw [e]; omega) (by rw [e]; omega) hh
      rw [e] at this
      rw [wholeB, this] at h
      cases h
    · rfl
  simp only [hasZ, Bool.and_eq_true, inR_iff, boxAt] at hlast
  omega

def fillN (zs : List Int) (s most : Nat) : Nat → List Int × List Nat
  | 0 => (zs, [])
  | k + 1 => if decide ((fillN zs s most k).2.length < most) && wholeB (fillN zs s most k).1 k s then (clrA (fillN zs s most k).1 (k % 20) (k / 20) s s, (fillN zs s most k).2 ++ [k]) else fillN zs s most k

theorem fillN_full {zs : List Int} {s most : Nat} {k : Nat} (h : (fillN zs s most k).2.length = most) : ∀ n, fillN zs s most (k + n) = fillN zs s most k
  | 0 => rfl
  | n + 1 => by rw [← Nat.add_assoc, fillN, fillN_full h n, decide_eq_false (by omega), Bool.false_and, if_neg (by simp)]

theorem fillN_skip {zs : List Int} {s most k : Nat} (h : wholeB (fillN zs s most k).1 k s = false) : fillN zs s most (k + 1) = fillN zs s most k := by
  rw [fillN, h, Bool.and_false, if_neg (by simp)]

theorem fillN_take {zs : List Int} {s most k : Nat} (h1 : (fillN zs s most k).2.length < most) (h : wholeB (fillN zs s most k).1 k s = true) : fillN zs s most (k + 1) = (clrA (fillN zs s most k).1 (k % 20) (k / 20) s s, (fillN zs s most k).2 ++ [k]) := by
  rw [fillN, h, Bool.and_true, if_pos (by simpa using h1)]

theorem fillN_ok {zs : List Int} {s most : Nat} (hs : 1 ≤ s) (h : okReg zs = true) : ∀ k, okReg (fillN zs s most k).1 = true
  | 0 => h
  | k + 1 => by
    have ih := fillN_ok (most := most) hs h k
    rw [fillN]
    split
    · rename_i g
      simp only [Bool.and_eq_true] at g
      have := whole_in hs g.2
      exact okReg_clr ih (by omega) s (by omega)
    · exact ih

theorem fillN_most {zs : List Int} {s most : Nat} : ∀ k, (fillN zs s most k).2.length ≤ most
  | 0 => Nat.zero_le _
  | k + 1 => by
    have ih := fillN_most (zs := zs) (s := s) (most := most) k
    rw [fillN]
    split
    · rename_i g
      simp only [Bool.and_eq_true, decide_eq_true_eq] at g
      rw [List.length_append]
      exact g.1
    · exact ih

def fillL (zs : List Int) (s most k : Nat) : List BoxV := (fillN zs s most k).2.map fun c => boxAt c s

end

section

open Go.RowKit
set_option linter.unusedVariables false
set_option linter.unusedSimpArgs false

attribute [local go_sem] intL BoxV.d BoxV.cs boxL

attribute [local simp] ints_plain ints_all ints_all1 ints_plain_take boxC_plains boxC_all

set_option maxRecDepth 100000 in
set_option maxHeartbeats 4000000 in
theorem copyInts_fn (zs : List Int) (hl : zs.length ≤ 1048576) : FnD Try.prog 164 [intL zs] (intL zs) := by
  refine fn_go Try.func164 rfl rfl Try.ntmps164 Try.results164 (by simp only [slotsOf, argAV, List.map_cons, List.map_nil, Nat.reduceAdd]; rfl) (by simp) ?_
  repeat' (first | (with_reducible first | refine aw_seq fun K hK => ?_ | refine aw_region (by kernel_rfl) ?_ | refine aw_condk ?_ | refine aw_block ?_) | ((with_reducible refine evg ?_); simp only [go_sem, ↓reduceIte, Nat.reduceEqDiff, Nat.reduceBEq, Nat.reduceAdd, Nat.reduceMul, Nat.reduceSub, Nat.reduceLT, Nat.reduceLeDiff]) | ((with_reducible refine ev_guard ?_); (with_reducible first | refine guard_t ?_ ?_ rfl | refine guard_f ?_ ?_ rfl) <;> (intro h; (try simp only [h]); (try simp only [nrm] at h))) | ((with_reducible refine ck_split (fun h => ?_) (fun h => ?_)) <;> (try simp only [nrm] at h)) | ((with_reducible refine And.intro ?_ ?_); (first | omega | focus (simp; done) | focus (simp; omega) | focus ((repeat' (with_reducible refine And.intro ?_ ?_)) <;> first | omega | rfl | (simp only [go_sem, refsL_app, refs_dmap] <;> fail) | (simp [refsL_app, refs_dmap, AV.refsL, AV.refs] <;> omega)))) | ((with_reducible first | apply hK | (clear hK K; first | apply hK | (clear hK K; first | apply hK | (clear hK K; apply hK)))); clear hK K) | (simp (disch := omega) only [wr, drop_at, str_at, int_at, Int.reduceSub, Int.reduceAdd, Int.reduceToNat, Int.toNat_zero]) | fail)
  (first | refine res_tmp rfl (by simp [D.plain, plains]) (by simp) ?_ | refine res_at rfl (by simp [D.plain, plains]) (by simp) ?_ | refine res_two rfl (by simp [D.plain, plains]) (by simp) ?_ | refine res_three rfl (by simp [D.plain, plains]) (by simp) ?_)
  simp

set_option maxRecDepth 100000 in
set_option maxHeartbeats 4000000 in
theorem l1Own_fn (zs : List Int) (hl : zs.length ≤ 1048576) : FnD Try.prog 160 [intL zs] (intL zs) := by
  refine fn_go Try.func160 rfl rfl Try.ntmps160 Try.results160 (by simp only [slotsOf, argAV, List.map_cons, List.map_nil, Nat.reduceAdd]; rfl) (by simp) ?_
  repeat' (first | (with_reducible first | refine aw_seq fun K hK => ?_ | refine aw_region (by kernel_rfl) ?_ | refine aw_condk ?_ | refine aw_block ?_) | ((with_reducible refine evg ?_); simp only [go_sem, ↓reduceIte, Nat.reduceEqDiff, Nat.reduceBEq, Nat.reduceAdd, Nat.reduceMul, Nat.reduceSub, Nat.reduceLT, Nat.reduceLeDiff]) | ((with_reducible refine ev_guard ?_); (with_reducible first | refine guard_t ?_ ?_ rfl | refine guard_f ?_ ?_ rfl) <;> (intro h; (try simp only [h]); (try simp only [nrm] at h))) | ((with_reducible refine ck_split (fun h => ?_) (fun h => ?_)) <;> (try simp only [nrm] at h)) | ((with_reducible refine And.intro ?_ ?_); (first | omega | focus (simp; done) | focus (simp; omega) | focus ((repeat' (with_reducible refine And.intro ?_ ?_)) <;> first | omega | rfl | (simp only [go_sem, refsL_app, refs_dmap] <;> fail) | (simp [refsL_app, refs_dmap, AV.refsL, AV.refs] <;> omega)))) | ((with_reducible first | apply hK | (clear hK K; first | apply hK | (clear hK K; first | apply hK | (clear hK K; apply hK)))); clear hK K) | (simp (disch := omega) only [wr, drop_at, str_at, int_at, Int.reduceSub, Int.reduceAdd, Int.reduceToNat, Int.toNat_zero]) | fail)
  (first | refine res_tmp rfl (by simp [D.plain, plains]) (by simp) ?_ | refine res_at rfl (by simp [D.plain, plains]) (by simp) ?_ | refine res_two rfl (by simp [D.plain, plains]) (by simp) ?_ | refine res_three rfl (by simp [D.plain, plains]) (by simp) ?_)
  simp

theorem box_xy {x y s : Nat} (hx : x < 20) : boxAt (20 * y + x) s = ⟨(x : Int), (y : Int), (s : Int)⟩ := by
  have e1 : (20 * y + x) % 20 = x := by omega
  have e2 : (20 * y + x) / 20 = y := by omega
  rw [boxAt, e1, e2]

theorem fz_skip {zs : List Int} {s most x y : Nat} (h : wholeB (fillN zs s most (20 * y + x)).1 (20 * y + x) s = false) : fillN zs s most (20 * y + (x + 1)) = fillN zs s most (20 * y + x) := by
  rw [← Nat.add_assoc, fillN_skip h]

theorem fl_skip {zs : List Int} {s most x y : Nat} (h : wholeB (fillN zs s most (20 * y + x)).1 (20 * y + x) s = false) : fillL zs s most (20 * y + (x + 1)) = fillL zs s most (20 * y + x) := by
  rw [fillL, fz_skip h, fillL]

theorem fz_take {zs : List Int} {s most x y : Nat} (hx : x < 20) (h1 : (fillN zs s most (20 * y + x)).2.length < most) (h : wholeB (fillN zs s most (20 * y + x)).1 (20 * y + x) s = true) : (fillN zs s most (20 * y + (x + 1))).1 = clrA (fillN zs s most (20 * y + x)).1 x y s s ∧ fillL zs s most (20 * y + (x + 1)) = fillL zs s most (20 * y + x) ++ [⟨(x : Int), (y : Int), (s : Int)⟩] := by
  have e1 : (20 * y + x) % 20 = x := by omega
  have e2 : (20 * y + x) / 20 = y := by omega
  rw [← Nat.add_assoc]
  refine ⟨?_, ?_⟩
  · rw [fillN_take h1 h, e1, e2]
  · rw [fillL, fillN_take h1 h, List.map_append, fillL, List.map_cons, List.map_nil, box_xy hx]

theorem fl_len (zs : List Int) (s most k : Nat) : (fillL zs s most k).length = (fillN zs s most k).2.length := by simp [fillL]

theorem boxC_app (l : List BoxV) (b : BoxV) : boxC (l ++ [b]) = boxC l ++ [D.int b.x, D.int b.y, D.int b.s] := by
  rw [boxC, recC_app]
  rfl

theorem fillAll_s (zs : List Int) (bx by' s : Nat) (hl : zs.length = 24) (h1 : bx + s ≤ 20) (h2 : by' + s ≤ 24) : FnS Try.prog 132 [(15, .ds (zs.map D.int)), (8, .av [.bs 15 0 24 1])] [.d (.ag [.int bx, .int by', .int s]), .fc 165 [] [.bp 8 0]] [(15, .ds ((clrA zs bx by' s s).map D.int)), (8, .av [.bs 15 0 24 1])] (.d (.bool true)) := by
  have h := ((fillAll_hi zs bx by' s hl h1 h2).sw 5000 15).sw 5001 8
  simpa only [swO, AV.swL, AV.sw, OB.sw, sw_self, swp, Nat.reduceEqDiff, if_true, if_false] using h

set_option maxRecDepth 100000 in
set_option maxHeartbeats 4000000 in
theorem fill_fn (zs : List Int) (s most : Nat) (hz : okReg zs = true) (hs : 1 ≤ s) (hs8 : s ≤ 8) (hm : most ≤ 40) : FnD Try.prog 150 [.ag [intL zs], .int s, .int most] (boxL (fillL zs s most 480)) := by
  have e0 := copyInts_fn zs (by rw [okReg_len hz]; omega)
  have hlz := okReg_len hz
  simp only [intL, hlz] at e0
  refine fn_go Try.func150 rfl rfl Try.ntmps150 Try.results150 (by simp only [slotsOf, argAV, List.map_cons, List.map_nil, Nat.reduceAdd]; rfl) (by simp) ?_
  repeat' (first | (with_reducible first | refine aw_seq fun K hK => ?_ | refine aw_region (by kernel_rfl) ?_ | refine aw_condk ?_ | refine aw_block ?_) | ((with_reducible refine evg ?_); simp only [go_sem, ↓reduceIte, Nat.reduceEqDiff, Nat.reduceBEq, Nat.reduceAdd, Nat.reduceMul, Nat.reduceSub, Nat.reduceLT, Nat.reduceLeDiff]) | (simp (disch := omega) only [wr, drop_at, str_at, int_at, Int.reduceSub, Int.reduceAdd, Int.reduceToNat, Int.toNat_zero, hlz]) | ((with_reducible refine ev_call ?_); (first | (refine call_fn e0 rfl ?_)); refine k_run ?_) | ((with_reducible refine ev_guard ?_); (with_reducible first | refine guard_t ?_ ?_ rfl | refine guard_f ?_ ?_ rfl) <;> (intro h; (try simp only [h]); (try simp only [nrm] at h) <;> (try ((with_reducible exfalso); omega)))) | ((with_reducible refine ck_split (fun h => ?_) (fun h => ?_)) <;> (try simp only [nrm] at h) <;> (try ((with_reducible exfalso); omega))) | ((with_reducible refine And.intro ?_ ?_); (first | omega | focus (simp; done) | focus (simp; omega) | focus ((repeat' (with_reducible refine And.intro ?_ ?_)) <;> first | omega | rfl | (simp only [go_sem, refsL_app, refs_dmap] <;> fail) | (simp [refsL_app, refs_dmap, AV.refsL, AV.refs] <;> omega)))) | ((with_reducible first | apply hK | (clear hK K; first | apply hK | (clear hK K; first | apply hK | (clear hK K; apply hK)))); clear hK K) | fail)
  refine aw_loopU [6, 7, 9, 10, 11, 12, 17, 18, 19, 20, 21, 22, 23, 24, 25, 26, 27, 28, 29, 30, 31, 32, 33, 34, 35, 36, 37, 38, 39, 40, 41, 42, 43, 44, 45] [11, 12, 15, 28, 35, 39, 40, 43] (fun y : Nat => [(17, .d (.int y)), (7, .bs 40 0 (fillL zs s most (20 * y + 0)).length 3)]) (fun y => [(40, .ds (boxC (fillL zs s most (20 * y + 0)))), (15, .ds ((fillN zs s most (20 * y + 0)).1.map D.int))]) (fun y => y ≤ 24) (fun y => 24 - y) 0 (by omega) ?_ ?_
  · (refine lessW_of [(12, 40)] rfl ?_ <;> simp only [St.sws, St.sw, swS, swO, AV.sw, AV.swL, OB.sw, swp, St.upd, dropS, dropOs, Less, SubS, SubO, look, lookO, List.elem, List.cons_append, List.nil_append, cond_true, cond_false, and_true, true_and, beq_self_eq_true, ↓reduceIte, Nat.reduceEqDiff, Nat.reduceBEq, Nat.reduceAdd, Nat.reduceMul, Nat.reduceSub, Nat.reduceLT, Nat.reduceLeDiff] <;> try simp)
    exact ⟨rfl, rfl, rfl⟩
  · rintro y y1
    simp only [St.upd, dropS, dropOs, List.elem, List.cons_append, List.nil_append, cond_true, cond_false, beq_self_eq_true, ↓reduceIte, Nat.reduceEqDiff, Nat.reduceBEq, Nat.reduceAdd, Nat.reduceMul, Nat.reduceSub, Nat.reduceLT, Nat.reduceLeDiff]
    repeat' (first | (with_reducible first | refine aw_seq fun K hK => ?_ | refine aw_region (by kernel_rfl) ?_ | refine aw_condk ?_ | refine aw_block ?_) | ((with_reducible refine evg ?_); simp only [go_sem, ↓reduceIte, Nat.reduceEqDiff, Nat.reduceBEq, Nat.reduceAdd, Nat.reduceMul, Nat.reduceSub, Nat.reduceLT, Nat.reduceLeDiff]) | ((with_reducible refine ev_guard ?_); (with_reducible first | refine guard_t ?_ ?_ rfl | refine guard_f ?_ ?_ rfl) <;> (intro h; (try simp only [h]); (try simp only [nrm] at h))) | ((with_reducible refine ck_split (fun h => ?_) (fun h => ?_)) <;> (try simp only [nrm] at h)) | ((with_reducible refine And.intro ?_ ?_); (first | omega | focus (simp; done) | focus (simp; omega) | focus ((repeat' (with_reducible refine And.intro ?_ ?_)) <;> first | omega | rfl | (simp only [go_sem, refsL_app, refs_dmap] <;> fail) | (simp [refsL_app, refs_dmap, AV.refsL, AV.refs] <;> omega)))) | ((with_reducible first | apply hK | (clear hK K; first | apply hK | (clear hK K; first | apply hK | (clear hK K; apply hK)))); clear hK K) | (simp (disch := omega) only [wr, drop_at, str_at, int_at, Int.reduceSub, Int.reduceAdd, Int.reduceToNat, Int.toNat_zero]) | fail)
    · refine aw_loopU [6, 7, 10, 11, 20, 21, 22, 23, 24, 25, 26, 27, 28, 29, 30, 31, 32, 33, 34, 35, 36, 37, 38, 39, 40, 41, 42, 43, 44] [11, 15, 28, 35, 39, 40, 43] (fun x : Nat => [(20, .d (.int x)), (7, .bs 40 0 (fillL zs s most (20 * y + x)).length 3)]) (fun x => [(40, .ds (boxC (fillL zs s most (20 * y + x)))), (15, .ds ((fillN zs s most (20 * y + x)).1.map D.int))]) (fun x => x ≤ 20) (fun x => 20 - x) 0 (by omega) ?_ ?_
      · (refine lessW_of [] rfl ?_ <;> simp only [St.sws, St.sw, swS, swO, AV.sw, AV.swL, OB.sw, swp, St.upd, dropS, dropOs, Less, SubS, SubO, look, lookO, List.elem, List.cons_append, List.nil_append, cond_true, cond_false, and_true, true_and, beq_self_eq_true, ↓reduceIte, Nat.reduceEqDiff, Nat.reduceBEq, Nat.reduceAdd, Nat.reduceMul, Nat.reduceSub, Nat.reduceLT, Nat.reduceLeDiff] <;> try simp)
      · rintro x x1
        simp only [St.upd, dropS, dropOs, List.elem, List.cons_append, List.nil_append, cond_true, cond_false, beq_self_eq_true, ↓reduceIte, Nat.reduceEqDiff, Nat.reduceBEq, Nat.reduceAdd, Nat.reduceMul, Nat.reduceSub, Nat.reduceLT, Nat.reduceLeDiff]
        have hok := fillN_ok (most := most) hs hz (20 * y + x)
        have hl := okReg_len hok
        have hmost := fillN_most (zs := zs) (s := s) (most := most) (20 * y + x)
        have hfl := fl_len zs s most (20 * y + x)
        have hbl := boxC_len (fillL zs s most (20 * y + x))
        by_cases hx : x < 20
        · by_cases hf : (fillN zs s most (20 * y + x)).2.length = most
          · repeat' (first | (with_reducible first | refine aw_seq fun K hK => ?_ | refine aw_region (by kernel_rfl) ?_ | refine aw_condk ?_ | refine aw_block ?_) | ((with_reducible refine evg ?_); simp only [go_sem, ↓reduceIte, Nat.reduceEqDiff, Nat.reduceBEq, Nat.reduceAdd, Nat.reduceMul, Nat.reduceSub, Nat.reduceLT, Nat.reduceLeDiff]) | (simp (disch := omega) only [wr, drop_at, str_at, int_at, Int.reduceSub, Int.reduceAdd, Int.reduceToNat, Int.toNat_zero, wr]) | ((with_reducible refine ev_guard ?_); (with_reducible first | refine guard_t ?_ ?_ rfl | refine guard_f ?_ ?_ rfl) <;> (intro h; (try simp only [h]); (try simp only [nrm] at h) <;> (try ((with_reducible exfalso); omega)))) | ((with_reducible refine ck_split (fun h => ?_) (fun h => ?_)) <;> (try simp only [nrm] at h) <;> (try ((with_reducible exfalso); omega))) | ((with_reducible refine And.intro ?_ ?_); (first | omega | focus (simp; done) | focus (simp; omega) | focus ((repeat' (with_reducible refine And.intro ?_ ?_)) <;> first | omega | rfl | (simp only [go_sem, refsL_app, refs_dmap] <;> fail) | (simp [refsL_app, refs_dmap, AV.refsL, AV.refs] <;> omega)))) | ((with_reducible first | apply hK | (clear hK K; first | apply hK | (clear hK K; first | apply hK | (clear hK K; apply hK)))); clear hK K) | fail)
            have e : fillL zs s most 480 = fillL zs s most (20 * y + x) := by
              have := fillN_full hf (480 - (20 * y + x))
              rw [show 20 * y + x + (480 - (20 * y + x)) = 480 by omega] at this
              rw [fillL, this, fillL]
            rw [e]
            (first | refine res_tmp rfl (by simp [D.plain, plains]) (by simp) ?_ | refine res_at rfl (by simp [D.plain, plains]) (by simp) ?_ | refine res_two rfl (by simp [D.plain, plains]) (by simp) ?_ | refine res_three rfl (by simp [D.plain, plains]) (by simp) ?_)
            simp
          · have e3 : Fn Try.prog 132 [.d (.ag [.int x, .int y, .int s]), .fn isXY (hXY (hasZ (fillN zs s most (20 * y + x)).1))] (.bool (wholeB (fillN zs s most (20 * y + x)).1 (20 * y + x) s)) := by
              have := all_fn (boxAt (20 * y + x) s) (hasZ (fillN zs s most (20 * y + x)).1) (by simp [boxAt]; omega) (by simp [boxAt]; omega) (by simp [boxAt]; omega)
              rw [wholeB]
              rw [box_xy hx] at this ⊢
              exact this
            have hraw : D.ls 1 24 ((((fillN zs s most (20 * y + x)).1.map D.int).drop 0).take (24 * 1)) = intL (fillN zs s most (20 * y + x)).1 := by
              have := ints_raw (fillN zs s most (20 * y + x)).1
              rwa [hl] at this
            have e4 : ∀ ds, isXY ds → FnD Try.prog 80 ([.ag [.ls 1 24 ((((fillN zs s most (20 * y + x)).1.map D.int).drop 0).take (24 * 1))]] ++ ds ++ []) (hXY (hasZ (fillN zs s most (20 * y + x)).1) ds) := by
              rintro ds ⟨u, v, rfl, _⟩
              rw [hraw]
              exact implHas_fn (fillN zs s most (20 * y + x)).1 u v hl (fun h => okReg_y hok h)
            have e5 := (implHas_fn (fillN zs s most (20 * y + x)).1 0 0 hl (fun h => okReg_y hok h)).1
            cases g : wholeB (fillN zs s most (20 * y + x)).1 (20 * y + x) s
            · rw [g] at e3
              repeat' (first | (with_reducible first | refine aw_seq fun K hK => ?_ | refine aw_region (by kernel_rfl) ?_ | refine aw_condk ?_ | refine aw_block ?_) | ((with_reducible refine evg ?_); simp only [go_sem, ↓reduceIte, Nat.reduceEqDiff, Nat.reduceBEq, Nat.reduceAdd, Nat.reduceMul, Nat.reduceSub, Nat.reduceLT, Nat.reduceLeDiff]) | (simp (disch := omega) only [wr, drop_at, str_at, int_at, Int.reduceSub, Int.reduceAdd, Int.reduceToNat, Int.toNat_zero, wr]) | ((with_reducible refine ev_call ?_); (first | (refine call_pred2f e3 rfl e5 rfl rfl e4 ?_ )); refine k_run ?_) | ((with_reducible refine ev_guard ?_); (with_reducible first | refine guard_t ?_ ?_ rfl | refine guard_f ?_ ?_ rfl) <;> (intro h; (try simp only [h]); (try simp only [nrm] at h) <;> (try ((with_reducible exfalso); omega)))) | ((with_reducible refine ck_split (fun h => ?_) (fun h => ?_)) <;> (try simp only [nrm] at h) <;> (try ((with_reducible exfalso); omega))) | ((with_reducible refine And.intro ?_ ?_); (first | omega | focus (simp; done) | focus (simp; omega) | focus ((repeat' (with_reducible refine And.intro ?_ ?_)) <;> first | omega | rfl | (simp only [go_sem, refsL_app, refs_dmap] <;> fail) | (simp [refsL_app, refs_dmap, AV.refsL, AV.refs] <;> omega)))) | ((with_reducible first | apply hK | (clear hK K; first | apply hK | (clear hK K; first | apply hK | (clear hK K; apply hK)))); clear hK K) | fail)
              refine ⟨x + 1, by omega, by omega, ?_⟩
              have q := fz_skip g
              rw [fl_skip g, q]
              (refine lessW_of [] rfl ?_ <;> simp only [St.sws, St.sw, swS, swO, AV.sw, AV.swL, OB.sw, swp, St.upd, dropS, dropOs, Less, SubS, SubO, look, lookO, List.elem, List.cons_append, List.nil_append, cond_true, cond_false, and_true, true_and, beq_self_eq_true, ↓reduceIte, Nat.reduceEqDiff, Nat.reduceBEq, Nat.reduceAdd, Nat.reduceMul, Nat.reduceSub, Nat.reduceLT, Nat.reduceLeDiff] <;> try simp)
            · rw [g] at e3
              have hw := whole_in hs g
              have e6 := fillAll_s (fillN zs s most (20 * y + x)).1 x y s hl (by omega) (by omega)
              repeat' (first | (with_reducible first | refine aw_seq fun K hK => ?_ | refine aw_region (by kernel_rfl) ?_ | refine aw_condk ?_ | refine aw_block ?_) | ((with_reducible refine evg ?_); simp only [go_sem, ↓reduceIte, Nat.reduceEqDiff, Nat.reduceBEq, Nat.reduceAdd, Nat.reduceMul, Nat.reduceSub, Nat.reduceLT, Nat.reduceLeDiff]) | (simp (disch := omega) only [wr, drop_at, str_at, int_at, Int.reduceSub, Int.reduceAdd, Int.reduceToNat, Int.toNat_zero, wr]) | ((with_reducible refine ev_call ?_); (first | (refine call_pred2f e3 rfl e5 rfl rfl e4 ?_ ) | (refine call_s e6 ?_ ?_ ?_ ?_ ?_; (focus rfl); (focus first | exact And.intro rfl trivial | exact ⟨rfl, rfl, trivial⟩ | exact ⟨rfl, rfl, rfl, trivial⟩); (focus rfl); (focus (simp [-List.map_map, apartO, dropO, killN, obCells, refs_dmap, nofnsD, AV.refs, AV.refsL, AV.nofn, AV.nofns] <;> fail)))); refine k_run ?_) | ((with_reducible refine ev_guard ?_); (with_reducible first | refine guard_t ?_ ?_ rfl | refine guard_f ?_ ?_ rfl) <;> (intro h; (try simp only [h]); (try simp only [nrm] at h) <;> (try ((with_reducible exfalso); omega)))) | ((with_reducible refine ck_split (fun h => ?_) (fun h => ?_)) <;> (try simp only [nrm] at h) <;> (try ((with_reducible exfalso); omega))) | ((with_reducible refine And.intro ?_ ?_); (first | omega | focus (simp; done) | focus (simp; omega) | focus ((repeat' (with_reducible refine And.intro ?_ ?_)) <;> first | omega | rfl | (simp only [go_sem, refsL_app, refs_dmap] <;> fail) | (simp [refsL_app, refs_dmap, AV.refsL, AV.refs] <;> omega)))) | ((with_reducible first | apply hK | (clear hK K; first | apply hK | (clear hK K; first | apply hK | (clear hK K; apply hK)))); clear hK K) | fail)
              refine ⟨x + 1, by omega, by omega, ?_⟩
              have q := fz_take hx (by omega) g
              rw [q.1, q.2, boxC_app, List.length_append]
              (refine lessW_of [] rfl ?_ <;> simp only [St.sws, St.sw, swS, swO, AV.sw, AV.swL, OB.sw, swp, St.upd, dropS, dropOs, Less, SubS, SubO, look, lookO, List.elem, List.cons_append, List.nil_append, cond_true, cond_false, and_true, true_and, beq_self_eq_true, ↓reduceIte, Nat.reduceEqDiff, Nat.reduceBEq, Nat.reduceAdd, Nat.reduceMul, Nat.reduceSub, Nat.reduceLT, Nat.reduceLeDiff] <;> try simp)
        · have e : x = 20 := by omega
          subst e
          repeat' (first | (with_reducible first | refine aw_seq fun K hK => ?_ | refine aw_region (by kernel_rfl) ?_ | refine aw_condk ?_ | refine aw_block ?_) | ((with_reducible refine evg ?_); simp only [go_sem, ↓reduceIte, Nat.reduceEqDiff, Nat.reduceBEq, Nat.reduceAdd, Nat.reduceMul, Nat.reduceSub, Nat.reduceLT, Nat.reduceLeDiff]) | (simp (disch := omega) only [wr, drop_at, str_at, int_at, Int.reduceSub, Int.reduceAdd, Int.reduceToNat, Int.toNat_zero, wr]) | ((with_reducible refine ev_guard ?_); (with_reducible first | refine guard_t ?_ ?_ rfl | refine guard_f ?_ ?_ rfl) <;> (intro h; (try simp only [h]); (try simp only [nrm] at h) <;> (try ((with_reducible exfalso); omega)))) | ((with_reducible refine ck_split (fun h => ?_) (fun h => ?_)) <;> (try simp only [nrm] at h) <;> (try ((with_reducible exfalso); omega))) | ((with_reducible refine And.intro ?_ ?_); (first | omega | focus (simp; done) | focus (simp; omega) | focus ((repeat' (with_reducible refine And.intro ?_ ?_)) <;> first | omega | rfl | (simp only [go_sem, refsL_app, refs_dmap] <;> fail) | (simp [refsL_app, refs_dmap, AV.refsL, AV.refs] <;> omega)))) | ((with_reducible first | apply hK | (clear hK K; first | apply hK | (clear hK K; first | apply hK | (clear hK K; apply hK)))); clear hK K) | fail)
          refine ⟨y + 1, by omega, by omega, ?_⟩
          rw [show 20 * (y + 1) = 20 * y + 20 by omega]
          (refine lessW_of [] rfl ?_ <;> simp only [St.sws, St.sw, swS, swO, AV.sw, AV.swL, OB.sw, swp, St.upd, dropS, dropOs, Less, SubS, SubO, look, lookO, List.elem, List.cons_append, List.nil_append, cond_true, cond_false, and_true, true_and, beq_self_eq_true, ↓reduceIte, Nat.reduceEqDiff, Nat.reduceBEq, Nat.reduceAdd, Nat.reduceMul, Nat.reduceSub, Nat.reduceLT, Nat.reduceLeDiff] <;> try simp)
    · have e : y = 24 := by omega
      subst e
      (first | refine res_tmp rfl (by simp [D.plain, plains]) (by simp) ?_ | refine res_at rfl (by simp [D.plain, plains]) (by simp) ?_ | refine res_two rfl (by simp [D.plain, plains]) (by simp) ?_ | refine res_three rfl (by simp [D.plain, plains]) (by simp) ?_)
      simp

end

section

open Go.RowKit
set_option linter.unusedVariables false
set_option linter.unusedSimpArgs false

attribute [local go_sem] intL BoxV.d BoxV.cs boxL

attribute [local simp] ints_plain ints_all ints_all1 ints_plain_take boxC_plains boxC_all

theorem fillN_on {zs : List Int} {s most k : Nat} : ∀ n, (∀ j, j < n → wholeB (fillN zs s most (k + j)).1 (k + j) s = false ∨ (fillN zs s most (k + j)).2.length = most) → fillN zs s most (k + n) = fillN zs s most k
  | 0, _ => rfl
  | n + 1, h => by
    rw [← Nat.add_assoc, ← fillN_on n (fun j hj => h j (by omega))]
    rcases h n (by omega) with g | g
    · exact fillN_skip g
    · exact fillN_full g 1

theorem whole_out {zs : List Int} {c s : Nat} (hs : 1 ≤ s) (h : 20 < c % 20 + s ∨ 24 < c / 20 + s) : wholeB zs c s = false := by
  cases g : wholeB zs c s
  · rfl
  · have := whole_in hs g
    omega

set_option maxRecDepth 100000 in
set_option maxHeartbeats 4000000 in
theorem l11Fill_fn (zs : List Int) (s most : Nat) (hz : okReg zs = true) (hs : 1 ≤ s) (hs8 : s ≤ 8) (hm : most ≤ 40) : FnD Try.prog 148 [.ag [intL zs], .int s, .int most] (boxL (fillL zs s most 480)) := by
  have e0 := l1Own_fn zs (by rw [okReg_len hz]; omega)
  have hlz := okReg_len hz
  simp only [intL, hlz] at e0
  refine fn_go Try.func148 rfl rfl Try.ntmps148 Try.results148 (by simp only [slotsOf, argAV, List.map_cons, List.map_nil, Nat.reduceAdd]; rfl) (by simp) ?_
  repeat' (first | (with_reducible first | refine aw_seq fun K hK => ?_ | refine aw_region (by kernel_rfl) ?_ | refine aw_condk ?_ | refine aw_block ?_) | ((with_reducible refine evg ?_); simp only [go_sem, ↓reduceIte, Nat.reduceEqDiff, Nat.reduceBEq, Nat.reduceAdd, Nat.reduceMul, Nat.reduceSub, Nat.reduceLT, Nat.reduceLeDiff]) | (simp (disch := omega) only [wr, drop_at, str_at, int_at, Int.reduceSub, Int.reduceAdd, Int.reduceToNat, Int.toNat_zero, hlz]) | ((with_reducible refine ev_call ?_); (first | (refine call_fn e0 rfl ?_)); refine k_run ?_) | ((with_reducible refine ev_guard ?_); (with_reducible first | refine guard_t ?_ ?_ rfl | refine guard_f ?_ ?_ rfl) <;> (intro h; (try simp only [h]); (try simp only [nrm] at h) <;> (try ((with_reducible exfalso); omega)))) | ((with_reducible refine ck_split (fun h => ?_) (fun h => ?_)) <;> (try simp only [nrm] at h) <;> (try ((with_reducible exfalso); omega))) | ((with_reducible refine And.intro ?_ ?_); (first | omega | focus (simp; done) | focus (simp; omega) | focus ((repeat' (with_reducible refine And.intro ?_ ?_)) <;> first | omega | rfl | (simp only [go_sem, refsL_app, refs_dmap] <;> fail) | (simp [refsL_app, refs_dmap, AV.refsL, AV.refs] <;> omega)))) | ((with_reducible first | apply hK | (clear hK K; first | apply hK | (clear hK K; first | apply hK | (clear hK K; apply hK)))); clear hK K) | fail)
  refine aw_loopU [7, 9, 10, 11, 12, 13, 17, 18, 19, 20, 21, 22, 23, 24, 25, 26, 27, 28, 29, 30, 31, 32, 33, 34, 35, 36, 37, 38, 39, 40, 41, 42, 43, 44, 45, 46, 47, 48, 49, 50, 51, 52, 53, 54, 55, 56, 57, 58, 59, 60, 61, 62, 63, 64, 65, 66, 67, 68, 69] [11, 13, 16, 29, 41, 45, 46] (fun y : Nat => [(9, .d (.int y)), (7, .bs 46 0 (fillL zs s most (20 * y + 0)).length 3)]) (fun y => [(46, .ds (boxC (fillL zs s most (20 * y + 0)))), (16, .ds ((fillN zs s most (20 * y + 0)).1.map D.int))]) (fun y => y + s ≤ 25) (fun y => 25 - y) 0 (by omega) ?_ ?_
  · (refine lessW_of [(13, 46)] rfl ?_ <;> simp only [St.sws, St.sw, swS, swO, AV.sw, AV.swL, OB.sw, swp, St.upd, dropS, dropOs, Less, SubS, SubO, look, lookO, List.elem, List.cons_append, List.nil_append, cond_true, cond_false, and_true, true_and, beq_self_eq_true, ↓reduceIte, Nat.reduceEqDiff, Nat.reduceBEq, Nat.reduceAdd, Nat.reduceMul, Nat.reduceSub, Nat.reduceLT, Nat.reduceLeDiff] <;> try simp)
    exact ⟨rfl, rfl, rfl⟩
  · rintro y y1
    simp only [St.upd, dropS, dropOs, List.elem, List.cons_append, List.nil_append, cond_true, cond_false, beq_self_eq_true, ↓reduceIte, Nat.reduceEqDiff, Nat.reduceBEq, Nat.reduceAdd, Nat.reduceMul, Nat.reduceSub, Nat.reduceLT, Nat.reduceLeDiff]
    repeat' (first | (with_reducible first | refine aw_seq fun K hK => ?_ | refine aw_region (by kernel_rfl) ?_ | refine aw_condk ?_ | refine aw_block ?_) | ((with_reducible refine evg ?_); simp only [go_sem, ↓reduceIte, Nat.reduceEqDiff, Nat.reduceBEq, Nat.reduceAdd, Nat.reduceMul, Nat.reduceSub, Nat.reduceLT, Nat.reduceLeDiff]) | (simp (disch := omega) only [wr, drop_at, str_at, int_at, Int.reduceSub, Int.reduceAdd, Int.reduceToNat, Int.toNat_zero, wr]) | ((with_reducible refine ev_guard ?_); (with_reducible first | refine guard_t ?_ ?_ rfl | refine guard_f ?_ ?_ rfl) <;> (intro h; (try simp only [h]); (try simp only [nrm] at h) <;> (try ((with_reducible exfalso); omega)))) | ((with_reducible refine ck_split (fun h => ?_) (fun h => ?_)) <;> (try simp only [nrm] at h) <;> (try ((with_reducible exfalso); omega))) | ((with_reducible refine And.intro ?_ ?_); (first | omega | focus (simp; done) | focus (simp; omega) | focus ((repeat' (with_reducible refine And.intro ?_ ?_)) <;> first | omega | rfl | (simp only [go_sem, refsL_app, refs_dmap] <;> fail) | (simp [refsL_app, refs_dmap, AV.refsL, AV.refs] <;> omega)))) | ((with_reducible first | apply hK | (clear hK K; first | apply hK | (clear hK K; first | apply hK | (clear hK K; apply hK)))); clear hK K) | fail)
    · refine aw_loopU [7, 10, 11, 12, 23, 24, 25, 26, 27, 28, 29, 30, 31, 32, 33, 34, 35, 36, 37, 38, 39, 40, 41, 42, 43, 44, 45, 46, 47, 48, 49, 50, 51, 52, 53, 54, 55, 56, 57, 58, 59, 60, 61, 62, 63, 64, 65, 66, 67, 68, 69] [11, 16, 29, 41, 45, 46] (fun x : Nat => [(10, .d (.int x)), (7, .bs 46 0 (fillL zs s most (20 * y + x)).length 3)]) (fun x => [(46, .ds (boxC (fillL zs s most (20 * y + x)))), (16, .ds ((fillN zs s most (20 * y + x)).1.map D.int))]) (fun x => x + s ≤ 21) (fun x => 21 - x) 0 (by omega) ?_ ?_
      · (refine lessW_of [] rfl ?_ <;> simp only [St.sws, St.sw, swS, swO, AV.sw, AV.swL, OB.sw, swp, St.upd, dropS, dropOs, Less, SubS, SubO, look, lookO, List.elem, List.cons_append, List.nil_append, cond_true, cond_false, and_true, true_and, beq_self_eq_true, ↓reduceIte, Nat.reduceEqDiff, Nat.reduceBEq, Nat.reduceAdd, Nat.reduceMul, Nat.reduceSub, Nat.reduceLT, Nat.reduceLeDiff] <;> try simp)
      · rintro x x1
        simp only [St.upd, dropS, dropOs, List.elem, List.cons_append, List.nil_append, cond_true, cond_false, beq_self_eq_true, ↓reduceIte, Nat.reduceEqDiff, Nat.reduceBEq, Nat.reduceAdd, Nat.reduceMul, Nat.reduceSub, Nat.reduceLT, Nat.reduceLeDiff]
        have hok := fillN_ok (most := most) hs hz (20 * y + x)
        have hl := okReg_len hok
        have hmost := fillN_most (zs := zs) (s := s) (most := most) (20 * y + x)
        have hfl := fl_len zs s most (20 * y + x)
        have hbl := boxC_len (fillL zs s most (20 * y + x))
        have hend : ∀ n, x + n = 20 → (20 < x + s ∨ (fillN zs s most (20 * y + x)).2.length = most) → fillN zs s most (20 * (y + 1)) = fillN zs s most (20 * y + x) := fun n hn hc => by
          rw [show 20 * (y + 1) = 20 * y + x + n by omega]
          rcases hc with hc | hc
          · refine fillN_on n (fun j hj => .inl (whole_out hs (.inl ?_)))
            rw [show (20 * y + x + j) % 20 = x + j by omega]
            omega
          · exact fillN_full hc n
        have hend2 : (20 < x + s ∨ (fillN zs s most (20 * y + x)).2.length = most) → fillL zs s most (20 * (y + 1)) = fillL zs s most (20 * y + x) ∧ fillN zs s most (20 * (y + 1)) = fillN zs s most (20 * y + x) := fun hc => by
          have := hend (20 - x) (by omega) hc
          exact ⟨by rw [fillL, this, fillL], this⟩
        by_cases hx : x + s ≤ 20
        · by_cases hf : (fillN zs s most (20 * y + x)).2.length = most
          · repeat' (first | (with_reducible first | refine aw_seq fun K hK => ?_ | refine aw_region (by kernel_rfl) ?_ | refine aw_condk ?_ | refine aw_block ?_) | ((with_reducible refine evg ?_); simp only [go_sem, ↓reduceIte, Nat.reduceEqDiff, Nat.reduceBEq, Nat.reduceAdd, Nat.reduceMul, Nat.reduceSub, Nat.reduceLT, Nat.reduceLeDiff]) | (simp (disch := omega) only [wr, drop_at, str_at, int_at, Int.reduceSub, Int.reduceAdd, Int.reduceToNat, Int.toNat_zero, wr]) | ((with_reducible refine ev_guard ?_); (with_reducible first | refine guard_t ?_ ?_ rfl | refine guard_f ?_ ?_ rfl) <;> (intro h; (try simp only [h]); (try simp only [nrm] at h) <;> (try ((with_reducible exfalso); omega)))) | ((with_reducible refine ck_split (fun h => ?_) (fun h => ?_)) <;> (try simp only [nrm] at h) <;> (try ((with_reducible exfalso); omega))) | ((with_reducible refine And.intro ?_ ?_); (first | omega | focus (simp; done) | focus (simp; omega) | focus ((repeat' (with_reducible refine And.intro ?_ ?_)) <;> first | omega | rfl | (simp only [go_sem, refsL_app, refs_dmap] <;> fail) | (simp [refsL_app, refs_dmap, AV.refsL, AV.refs] <;> omega)))) | ((with_reducible first | apply hK | (clear hK K; first | apply hK | (clear hK K; first | apply hK | (clear hK K; apply hK)))); clear hK K) | fail)
            refine ⟨y + 1, by omega, by omega, ?_⟩
            rw [(hend2 (.inr hf)).1, (hend2 (.inr hf)).2]
            (refine lessW_of [] rfl ?_ <;> simp only [St.sws, St.sw, swS, swO, AV.sw, AV.swL, OB.sw, swp, St.upd, dropS, dropOs, Less, SubS, SubO, look, lookO, List.elem, List.cons_append, List.nil_append, cond_true, cond_false, and_true, true_and, beq_self_eq_true, ↓reduceIte, Nat.reduceEqDiff, Nat.reduceBEq, Nat.reduceAdd, Nat.reduceMul, Nat.reduceSub, Nat.reduceLT, Nat.reduceLeDiff] <;> try simp)
          · have e3 : FnD Try.prog 161 [.ag [.int x, .int y, .int s], .ls 1 24 ((((fillN zs s most (20 * y + x)).1.map D.int).drop 0).take (24 * 1))] (.bool (wholeB (fillN zs s most (20 * y + x)).1 (20 * y + x) s)) := by
              have := whole_fn (boxAt (20 * y + x) s) (fillN zs s most (20 * y + x)).1 (by simp [boxAt]; omega) (by simp [boxAt]; omega) (by simp [boxAt]; omega) (okReg_z hok)
              rw [allB_has hok, ← ints_raw, hl] at this
              rw [wholeB]
              rw [box_xy (by omega)] at this ⊢
              exact this
            cases g : wholeB (fillN zs s most (20 * y + x)).1 (20 * y + x) s
            · rw [g] at e3
              repeat' (first | (with_reducible first | refine aw_seq fun K hK => ?_ | refine aw_region (by kernel_rfl) ?_ | refine aw_condk ?_ | refine aw_block ?_) | ((with_reducible refine evg ?_); simp only [go_sem, ↓reduceIte, Nat.reduceEqDiff, Nat.reduceBEq, Nat.reduceAdd, Nat.reduceMul, Nat.reduceSub, Nat.reduceLT, Nat.reduceLeDiff]) | (simp (disch := omega) only [wr, drop_at, str_at, int_at, Int.reduceSub, Int.reduceAdd, Int.reduceToNat, Int.toNat_zero, wr]) | ((with_reducible refine ev_call ?_); (first | (refine call_fn e3 rfl ?_)); refine k_run ?_) | ((with_reducible refine ev_guard ?_); (with_reducible first | refine guard_t ?_ ?_ rfl | refine guard_f ?_ ?_ rfl) <;> (intro h; (try simp only [h]); (try simp only [nrm] at h) <;> (try ((with_reducible exfalso); omega)))) | ((with_reducible refine ck_split (fun h => ?_) (fun h => ?_)) <;> (try simp only [nrm] at h) <;> (try ((with_reducible exfalso); omega))) | ((with_reducible refine And.intro ?_ ?_); (first | omega | focus (simp; done) | focus (simp; omega) | focus ((repeat' (with_reducible refine And.intro ?_ ?_)) <;> first | omega | rfl | (simp only [go_sem, refsL_app, refs_dmap] <;> fail) | (simp [refsL_app, refs_dmap, AV.refsL, AV.refs] <;> omega)))) | ((with_reducible first | apply hK | (clear hK K; first | apply hK | (clear hK K; first | apply hK | (clear hK K; apply hK)))); clear hK K) | fail)
              refine ⟨x + 1, by omega, by omega, ?_⟩
              rw [fl_skip g, fz_skip g]
              (refine lessW_of [] rfl ?_ <;> simp only [St.sws, St.sw, swS, swO, AV.sw, AV.swL, OB.sw, swp, St.upd, dropS, dropOs, Less, SubS, SubO, look, lookO, List.elem, List.cons_append, List.nil_append, cond_true, cond_false, and_true, true_and, beq_self_eq_true, ↓reduceIte, Nat.reduceEqDiff, Nat.reduceBEq, Nat.reduceAdd, Nat.reduceMul, Nat.reduceSub, Nat.reduceLT, Nat.reduceLeDiff] <;> try simp)
            · rw [g] at e3
              repeat' (first | (with_reducible first | refine aw_seq fun K hK => ?_ | refine aw_region (by kernel_rfl) ?_ | refine aw_condk ?_ | refine aw_block ?_) | ((with_reducible refine evg ?_); simp only [go_sem, ↓reduceIte, Nat.reduceEqDiff, Nat.reduceBEq, Nat.reduceAdd, Nat.reduceMul, Nat.reduceSub, Nat.reduceLT, Nat.reduceLeDiff]) | (simp (disch := omega) only [wr, drop_at, str_at, int_at, Int.reduceSub, Int.reduceAdd, Int.reduceToNat, Int.toNat_zero, wr]) | ((with_reducible refine ev_call ?_); (first | (refine call_fn e3 rfl ?_)); refine k_run ?_) | ((with_reducible refine ev_guard ?_); (with_reducible first | refine guard_t ?_ ?_ rfl | refine guard_f ?_ ?_ rfl) <;> (intro h; (try simp only [h]); (try simp only [nrm] at h) <;> (try ((with_reducible exfalso); omega)))) | ((with_reducible refine ck_split (fun h => ?_) (fun h => ?_)) <;> (try simp only [nrm] at h) <;> (try ((with_reducible exfalso); omega))) | ((with_reducible refine And.intro ?_ ?_); (first | omega | focus (simp; done) | focus (simp; omega) | focus ((repeat' (with_reducible refine And.intro ?_ ?_)) <;> first | omega | rfl | (simp only [go_sem, refsL_app, refs_dmap] <;> fail) | (simp [refsL_app, refs_dmap, AV.refsL, AV.refs] <;> omega)))) | ((with_reducible first | apply hK | (clear hK K; first | apply hK | (clear hK K; first | apply hK | (clear hK K; apply hK)))); clear hK K) | fail)
              have q := fz_take (by omega) (by omega) g
              generalize (fillN zs s most (20 * y + x)).1 = ws at hok hl q ⊢
              have hwz := okReg_z hok
              refine aw_loopU [12, 48, 49, 50, 51, 52, 53, 54, 55, 56, 57, 58, 59, 60, 61, 62, 63, 64, 65, 66, 67, 68, 69] [16] (fun j : Nat => [(12, .d (.int ((y : Int) + j)))]) (fun j => [(16, .ds ((clrS ws x y s j).map D.int))]) (fun j => j ≤ s) (fun j => s - j) 0 (by omega) ?_ ?_
              · (refine lessW_of [] rfl ?_ <;> simp only [St.sws, St.sw, swS, swO, AV.sw, AV.swL, OB.sw, swp, St.upd, dropS, dropOs, Less, SubS, SubO, look, lookO, List.elem, List.cons_append, List.nil_append, cond_true, cond_false, and_true, true_and, beq_self_eq_true, ↓reduceIte, Nat.reduceEqDiff, Nat.reduceBEq, Nat.reduceAdd, Nat.reduceMul, Nat.reduceSub, Nat.reduceLT, Nat.reduceLeDiff] <;> try simp)
                all_goals rfl
              · rintro j j1
                simp only [St.upd, dropS, dropOs, List.elem, List.cons_append, List.nil_append, cond_true, cond_false, beq_self_eq_true, ↓reduceIte, Nat.reduceEqDiff, Nat.reduceBEq, Nat.reduceAdd, Nat.reduceMul, Nat.reduceSub, Nat.reduceLT, Nat.reduceLeDiff]
                by_cases hj : j < s
                · have hzj : okZ (clrS ws x y s j) := by
                    rw [clrS_eq hwz (by omega) j (by omega)]
                    exact clrA_ok hwz (by omega) j (by omega)
                  have hcl : ((clrS ws x y s j).map D.int).length = 24 := by rw [List.length_map, hzj.1]
                  have hcl0 : (clrS ws x y s j).length = 24 := hzj.1
                  repeat' (first | (with_reducible first | refine aw_seq fun K hK => ?_ | refine aw_region (by kernel_rfl) ?_ | refine aw_condk ?_ | refine aw_block ?_) | ((with_reducible refine evg ?_); simp only [go_sem, ↓reduceIte, Nat.reduceEqDiff, Nat.reduceBEq, Nat.reduceAdd, Nat.reduceMul, Nat.reduceSub, Nat.reduceLT, Nat.reduceLeDiff]) | (simp (disch := omega) only [wr, drop_at, str_at, int_at, Int.reduceSub, Int.reduceAdd, Int.reduceToNat, Int.toNat_zero, wr, wru, hcl, getD_nat]) | ((with_reducible refine ev_guard ?_); (with_reducible first | refine guard_t ?_ ?_ rfl | refine guard_f ?_ ?_ rfl) <;> (intro h; (try simp only [h]); (try simp only [nrm] at h) <;> (try ((with_reducible exfalso); omega)))) | ((with_reducible refine ck_split (fun h => ?_) (fun h => ?_)) <;> (try simp only [nrm] at h) <;> (try ((with_reducible exfalso); omega))) | ((with_reducible refine And.intro ?_ ?_); (first | omega | focus (simp; done) | focus (simp; omega) | focus ((repeat' (with_reducible refine And.intro ?_ ?_)) <;> first | omega | rfl | (simp only [go_sem, refsL_app, refs_dmap] <;> fail) | (simp [refsL_app, refs_dmap, AV.refsL, AV.refs] <;> omega)))) | ((with_reducible first | apply hK | (clear hK K; first | apply hK | (clear hK K; first | apply hK | (clear hK K; apply hK)))); clear hK K) | fail)
                  refine ⟨j + 1, by omega, by omega, ?_⟩
                  rw [clrS]
                  (refine lessW_of [] rfl ?_ <;> simp only [St.sws, St.sw, swS, swO, AV.sw, AV.swL, OB.sw, swp, St.upd, dropS, dropOs, Less, SubS, SubO, look, lookO, List.elem, List.cons_append, List.nil_append, cond_true, cond_false, and_true, true_and, beq_self_eq_true, ↓reduceIte, Nat.reduceEqDiff, Nat.reduceBEq, Nat.reduceAdd, Nat.reduceMul, Nat.reduceSub, Nat.reduceLT, Nat.reduceLeDiff] <;> try simp)
                  have e9 : ((y : Int) + j).toNat = y + j := by omega
                  rw [e9]
                  exact ⟨by omega, by simp [specB]⟩
                · repeat' (first | (with_reducible first | refine aw_seq fun K hK => ?_ | refine aw_region (by kernel_rfl) ?_ | refine aw_condk ?_ | refine aw_block ?_) | ((with_reducible refine evg ?_); simp only [go_sem, ↓reduceIte, Nat.reduceEqDiff, Nat.reduceBEq, Nat.reduceAdd, Nat.reduceMul, Nat.reduceSub, Nat.reduceLT, Nat.reduceLeDiff]) | (simp (disch := omega) only [wr, drop_at, str_at, int_at, Int.reduceSub, Int.reduceAdd, Int.reduceToNat, Int.toNat_zero, wr]) | ((with_reducible refine ev_guard ?_); (with_reducible first | refine guard_t ?_ ?_ rfl | refine guard_f ?_ ?_ rfl) <;> (intro h; (try simp only [h]); (try simp only [nrm] at h) <;> (try ((with_reducible exfalso); omega)))) | ((with_reducible refine ck_split (fun h => ?_) (fun h => ?_)) <;> (try simp only [nrm] at h) <;> (try ((with_reducible exfalso); omega))) | ((with_reducible refine And.intro ?_ ?_); (first | omega | focus (simp; done) | focus (simp; omega) | focus ((repeat' (with_reducible refine And.intro ?_ ?_)) <;> first | omega | rfl | (simp only [go_sem, refsL_app, refs_dmap] <;> fail) | (simp [refsL_app, refs_dmap, AV.refsL, AV.refs] <;> omega)))) | ((with_reducible first | apply hK | (clear hK K; first | apply hK | (clear hK K; first | apply hK | (clear hK K; apply hK)))); clear hK K) | fail)
                  have e : j = s := by omega
                  subst e
                  refine ⟨x + 1, by omega, by omega, ?_⟩
                  rw [q.1, q.2, boxC_app, List.length_append, clrS_eq hwz (by omega) j (by omega)]
                  (refine lessW_of [] rfl ?_ <;> simp only [St.sws, St.sw, swS, swO, AV.sw, AV.swL, OB.sw, swp, St.upd, dropS, dropOs, Less, SubS, SubO, look, lookO, List.elem, List.cons_append, List.nil_append, cond_true, cond_false, and_true, true_and, beq_self_eq_true, ↓reduceIte, Nat.reduceEqDiff, Nat.reduceBEq, Nat.reduceAdd, Nat.reduceMul, Nat.reduceSub, Nat.reduceLT, Nat.reduceLeDiff] <;> try simp)
        · repeat' (first | (with_reducible first | refine aw_seq fun K hK => ?_ | refine aw_region (by kernel_rfl) ?_ | refine aw_condk ?_ | refine aw_block ?_) | ((with_reducible refine evg ?_); simp only [go_sem, ↓reduceIte, Nat.reduceEqDiff, Nat.reduceBEq, Nat.reduceAdd, Nat.reduceMul, Nat.reduceSub, Nat.reduceLT, Nat.reduceLeDiff]) | (simp (disch := omega) only [wr, drop_at, str_at, int_at, Int.reduceSub, Int.reduceAdd, Int.reduceToNat, Int.toNat_zero, wr]) | ((with_reducible refine ev_guard ?_); (with_reducible first | refine guard_t ?_ ?_ rfl | refine guard_f ?_ ?_ rfl) <;> (intro h; (try simp only [h]); (try simp only [nrm] at h) <;> (try ((with_reducible exfalso); omega)))) | ((with_reducible refine ck_split (fun h => ?_) (fun h => ?_)) <;> (try simp only [nrm] at h) <;> (try ((with_reducible exfalso); omega))) | ((with_reducible refine And.intro ?_ ?_); (first | omega | focus (simp; done) | focus (simp; omega) | focus ((repeat' (with_reducible refine And.intro ?_ ?_)) <;> first | omega | rfl | (simp only [go_sem, refsL_app, refs_dmap] <;> fail) | (simp [refsL_app, refs_dmap, AV.refsL, AV.refs] <;> omega)))) | ((with_reducible first | apply hK | (clear hK K; first | apply hK | (clear hK K; first | apply hK | (clear hK K; apply hK)))); clear hK K) | fail)
          refine ⟨y + 1, by omega, by omega, ?_⟩
          rw [(hend2 (.inl (by omega))).1, (hend2 (.inl (by omega))).2]
          (refine lessW_of [] rfl ?_ <;> simp only [St.sws, St.sw, swS, swO, AV.sw, AV.swL, OB.sw, swp, St.upd, dropS, dropOs, Less, SubS, SubO, look, lookO, List.elem, List.cons_append, List.nil_append, cond_true, cond_false, and_true, true_and, beq_self_eq_true, ↓reduceIte, Nat.reduceEqDiff, Nat.reduceBEq, Nat.reduceAdd, Nat.reduceMul, Nat.reduceSub, Nat.reduceLT, Nat.reduceLeDiff] <;> try simp)
    · have e : fillN zs s most 480 = fillN zs s most (20 * y) := by
        rw [show 480 = 20 * y + (480 - 20 * y) by omega]
        refine fillN_on _ (fun j hj => .inl (whole_out hs (.inr ?_)))
        omega
      have e2 : fillL zs s most 480 = fillL zs s most (20 * y) := by rw [fillL, e, fillL]
      rw [e2]
      (first | refine res_tmp rfl (by simp [D.plain, plains]) (by simp) ?_ | refine res_at rfl (by simp [D.plain, plains]) (by simp) ?_ | refine res_two rfl (by simp [D.plain, plains]) (by simp) ?_ | refine res_three rfl (by simp [D.plain, plains]) (by simp) ?_)
      simp

end

end Go.Proofs.Ytaegdaimjhhgpaa
