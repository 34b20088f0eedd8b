/- Regions off predicates. -/
import Derived.Test.YtjbifidphckjoaaPCode
import Derived.WalkKit
import Derived.WalkSpells
import Derived.KernelRfl
import Derived.Laws.BitsLemmas
namespace Go.Proofs.Ytjbifidphckjoaa
open Go.RowKit
set_option maxRecDepth 100000
set_option maxHeartbeats 4000000
set_option linter.unusedVariables false
set_option linter.unusedSimpArgs false

attribute [local go_sem] intL

attribute [local simp] ints_plain ints_all ints_all1 ints_plain_take

theorem rowN_set2 {p : Nat -> Bool} {n : Nat} (h : p n = true) (hn : n < 40) : bits .or .i64 ((rowN p n : Nat) : Int) (IntKind.i64.wrap (1 * 2 ^ (min n 64))) = ((rowN p (n + 1) : Nat) : Int) := by
 have := rowN_set h hn
 rwa [Int.toNat_natCast] at this

def cellP (p : Int -> Int -> Bool) (y : Nat) (x : Nat) : Bool := inSh x y && p x y

def rowI (p : Int -> Int -> Bool) (y : Nat) : Int := ((rowN (cellP p y) 20 : Nat) : Int)

def regZ (p : Int -> Int -> Bool) : List Int := tab (rowI p) 24

@[simp] theorem regZ_len (p : Int -> Int -> Bool) : (regZ p).length = 24 := tab_len _ _

theorem regZ_at {p : Int -> Int -> Bool} {y : Nat} (h : y < 24) : (regZ p).getD y 0 = rowI p y := tab_at 0 h

theorem regZ_ok (p : Int -> Int -> Bool) : okZ (regZ p) := ⟨regZ_len p, fun i hi => by
 rw [regZ_at hi]
 have := rowN_lt (cellP p i) 20
 simp only [rowI]
 omega⟩

theorem regZ_bit {p : Int -> Int -> Bool} {x y : Int} (h0 : 0 <= x) (h2 : 0 <= y) (h3 : y <= 23) : bitZ (regZ p) x y = (decide (x < 20) && (inSh x y && p x y)) := by
 obtain ⟨a, rfl⟩ := Int.eq_ofNat_of_zero_le h0
 obtain ⟨b, rfl⟩ := Int.eq_ofNat_of_zero_le h2
 rw [bitZ, regZ_at (by omega), rowI]
 simp only [Int.toNat_natCast, rowN_bit, cellP]
 congr 1
 simp
 omega

def rowsP (p : Int -> Int -> Bool) (y x : Nat) : List Int := (rowsM (rowI p) y).set y ((rowN (cellP p y) x : Nat) : Int)

theorem rowsP_clen {p : Int -> Int -> Bool} {y x : Nat} (h : y < 24) : ((rowsP p y x).map D.int).length = 24 := by
 rw [List.length_map, rowsP, List.length_set, rowsM_len (by omega)]

theorem rowsP_at {p : Int -> Int -> Bool} {y x : Nat} (h : y < 24) {d : D} : ((rowsP p y x).map D.int).getD y d = D.int ((rowN (cellP p y) x : Nat) : Int) := by
 have hl : (rowsM (rowI p) y).length = 24 := rowsM_len (by omega)
 simp [rowsP, List.getD_eq_getElem?_getD, List.getElem?_map, List.getElem?_set, hl, h]

theorem rowsP_set {p : Int -> Int -> Bool} {y x x' : Nat} : ((rowsP p y x).map D.int).set y (D.int ((rowN (cellP p y) x' : Nat) : Int)) = (rowsP p y x').map D.int := by
 rw [map_set, rowsP, List.set_set]
 rfl

theorem rowsP_zero {p : Int -> Int -> Bool} {y : Nat} (h : y < 24) : rowsM (rowI p) y = rowsP p y 0 := by
 have hl : (rowsM (rowI p) y).length = 24 := rowsM_len (by omega)
 have h0 := rowsM_at (f := rowI p) h
 rw [List.getD_eq_getElem?_getD, List.getElem?_eq_getElem (by omega)] at h0
 have h0 : (rowsM (rowI p) y)[y]'(by omega) = 0 := by simpa using h0
 rw [rowsP]
 apply List.ext_getElem (by simp)
 intro i h1 h2
 rw [List.getElem_set]
 split
 ·
  rename_i e
  subst e
  rw [h0]
  rfl
 · rfl

theorem rowsP_end {p : Int -> Int -> Bool} {y : Nat} (h : y < 24) : rowsP p y 20 = rowsM (rowI p) (y + 1) := rowsM_set h

theorem rowsP_skip {p : Int -> Int -> Bool} {y x : Nat} (h : cellP p y x = false) : rowsP p y (x + 1) = rowsP p y x := by
 simp [rowsP, rowN, h]

set_option maxRecDepth 100000 in
theorem pl_Region_46_9 (l : List Oper) (h : l = opsOf Try.f46 9) : planB l (.pure 0 (.pure 1 (.pure 2 (.pure 3 (.pure 4 (.pure 5 (.pure 6 (.pure 7 (.pure 8 PT.fin))))))))) [9] = true := by
 subst h
 kernel_rfl

theorem regionOf_fn (p : Int -> Int -> Bool) : Fn Try.prog 46 [.fn isXY (hXY p)] (.ag [intL (regZ p)]) := by
 refine fn_go Try.func46 rfl rfl Try.ntmps46 Try.results46 (by simp only [slo, Nat.reduceAdd]; rfl) (by simp) ?_
 repeat' (first | (with_reducible first | refine aw_seq fun K hK => ?_ | refine aw_region (by kernel_rfl) ?_ | refine aw_condk ?_ | refine aw_block ?_) | ((with_reducible refine ev_aw ?_); first | (refine aw_draw (id := 9) (by kernel_rfl) _ _ (by kernel_rfl) (pl_Region_46_9 _ (by kernel_rfl)) ?_)) | (with_reducible first | refine ru_four ?_ ?_ ?_ ?_ | refine ru_three ?_ ?_ ?_ | refine ru_two ?_ ?_ | refine rv_split ?_ ?_ | refine rv_two ?_ ?_ | refine rp_two ?_ ?_) | ((with_reducible refine evg ?_); simp only [go_sem, St.clean, cleanO, ↓reduceIte, Nat.reduceEqDiff, Nat.reduceBEq, Nat.reduceAdd, Nat.reduceMul, Nat.reduceSub, Nat.reduceLT, Nat.reduceLeDiff]) | ((with_reducible refine ev_guard ?_); (with_reducible first | refine guard_t ?_ ?_ rfl | refine guard_f ?_ ?_ rfl) <;> (intro h; (try simp only [h]); (try simp only [nrm] at h))) | ((with_reducible refine ck_split (fun h => ?_) (fun h => ?_)) <;> (try simp only [nrm] at h)) | ((with_reducible refine And.intro ?_ ?_); (focus first | omega | (simp; done) | (simp; omega) | ((repeat' (with_reducible refine And.intro ?_ ?_)) <;> first | omega | rfl | (simp only [go_sem, refsL_app, refs_dmap] <;> fail) | (simp [refsL_app, refs_dmap, AV.refsL, AV.refs] <;> omega)))) | (with_reducible refine hJ _ (fun K hK => ?_) ?_ <;> clear hJ KJ) | ((with_reducible refine ev_less ?_); (refine ⟨rfl, ?_, ?_⟩ <;> simp only [go_sem, St.clean, cleanO, SubS, SubO, beq_self_eq_true, ↓reduceIte, Nat.reduceEqDiff, Nat.reduceBEq, Nat.reduceAdd, Nat.reduceMul, Nat.reduceSub, Nat.reduceLT, Nat.reduceLeDiff])) | ((with_reducible first | apply hK | (clear hK K; first | apply hK | (clear hK K; apply hK))); clear hK K) | (simp (disch := omega) only [dsq, Int.reduceSub, Int.reduceAdd, Int.reduceToNat]) | fail)
 refine aw_loopU [4, 5, 8, 9, 10, 11, 12, 13, 14, 15, 16, 17, 18, 19, 20, 21, 22, 23, 24, 25, 26, 27, 28, 29, 30, 31, 32, 33] [6, 16, 21] (fun y : Nat => [(8, .d (.int y))]) (fun y => [(6, .ds ((rowsM (rowI p) y).map D.int))]) (fun y => y <= 24) (fun y => 24 - y) 0 (by omega) ?_ ?_
 ·
  (refine lessW_of [] rfl ?_ <;> simp only [lsq, lookO, List.elem, List.cons_append, List.nil_append, cond_true, cond_false, and_true, true_and, beq_self_eq_true, ↓reduceIte, Nat.reduceEqDiff, Nat.reduceBEq, Nat.reduceAdd, Nat.reduceMul, Nat.reduceSub, Nat.reduceLT, Nat.reduceLeDiff] <;> try simp)
  exact rowsM_zero _
 ·
  rintro y y1
  simp only [St.upd, dropS, dropOs, List.elem, List.cons_append, List.nil_append, cond_true, cond_false, beq_self_eq_true, ↓reduceIte, Nat.reduceEqDiff, Nat.reduceBEq, Nat.reduceAdd, Nat.reduceMul, Nat.reduceSub, Nat.reduceLT, Nat.reduceLeDiff]
  repeat' (first | (with_reducible first | refine aw_seq fun K hK => ?_ | refine aw_region (by kernel_rfl) ?_ | refine aw_condk ?_ | refine aw_block ?_) | ((with_reducible refine ev_aw ?_); first | (refine aw_draw (id := 9) (by kernel_rfl) _ _ (by kernel_rfl) (pl_Region_46_9 _ (by kernel_rfl)) ?_)) | (with_reducible first | refine ru_four ?_ ?_ ?_ ?_ | refine ru_three ?_ ?_ ?_ | refine ru_two ?_ ?_ | refine rv_split ?_ ?_ | refine rv_two ?_ ?_ | refine rp_two ?_ ?_) | ((with_reducible refine evg ?_); simp only [go_sem, St.clean, cleanO, ↓reduceIte, Nat.reduceEqDiff, Nat.reduceBEq, Nat.reduceAdd, Nat.reduceMul, Nat.reduceSub, Nat.reduceLT, Nat.reduceLeDiff]) | ((with_reducible refine ev_guard ?_); (with_reducible first | refine guard_t ?_ ?_ rfl | refine guard_f ?_ ?_ rfl) <;> (intro h; (try simp only [h]); (try simp only [nrm] at h))) | ((with_reducible refine ck_split (fun h => ?_) (fun h => ?_)) <;> (try simp only [nrm] at h)) | ((with_reducible refine And.intro ?_ ?_); (focus first | omega | (simp; done) | (simp; omega) | ((repeat' (with_reducible refine And.intro ?_ ?_)) <;> first | omega | rfl | (simp only [go_sem, refsL_app, refs_dmap] <;> fail) | (simp [refsL_app, refs_dmap, AV.refsL, AV.refs] <;> omega)))) | (with_reducible refine hJ _ (fun K hK => ?_) ?_ <;> clear hJ KJ) | ((with_reducible refine ev_less ?_); (refine ⟨rfl, ?_, ?_⟩ <;> simp only [go_sem, St.clean, cleanO, SubS, SubO, beq_self_eq_true, ↓reduceIte, Nat.reduceEqDiff, Nat.reduceBEq, Nat.reduceAdd, Nat.reduceMul, Nat.reduceSub, Nat.reduceLT, Nat.reduceLeDiff])) | ((with_reducible first | apply hK | (clear hK K; first | apply hK | (clear hK K; apply hK))); clear hK K) | (simp (disch := omega) only [dsq, Int.reduceSub, Int.reduceAdd, Int.reduceToNat]) | fail)
  ·
   refine aw_loopU [5, 11, 12, 13, 14, 15, 16, 17, 18, 19, 20, 21, 22, 23, 24, 25, 26, 27, 28, 29, 30, 31, 32] [6, 16, 21] (fun x : Nat => [(11, .d (.int x))]) (fun x => [(6, .ds ((rowsP p y x).map D.int))]) (fun x => x <= 20) (fun x => 20 - x) 0 (by omega) ?_ ?_
   ·
    (refine lessW_of [] rfl ?_ <;> simp only [lsq, lookO, List.elem, List.cons_append, List.nil_append, cond_true, cond_false, and_true, true_and, beq_self_eq_true, ↓reduceIte, Nat.reduceEqDiff, Nat.reduceBEq, Nat.reduceAdd, Nat.reduceMul, Nat.reduceSub, Nat.reduceLT, Nat.reduceLeDiff] <;> try simp)
    rw [rowsP_zero (by omega)]
   ·
    rintro x x1
    simp only [St.upd, dropS, dropOs, List.elem, List.cons_append, List.nil_append, cond_true, cond_false, beq_self_eq_true, ↓reduceIte, Nat.reduceEqDiff, Nat.reduceBEq, Nat.reduceAdd, Nat.reduceMul, Nat.reduceSub, Nat.reduceLT, Nat.reduceLeDiff]
    have e1 := inShield_fn x y
    have e2 : cellP p y x = true -> bits .or .i64 ((rowN (cellP p y) x : Nat) : Int) (IntKind.i64.wrap (1 * 2 ^ (min x 64))) = ((rowN (cellP p y) (x + 1) : Nat) : Int) := fun h => rowN_set2 h (by omega)
    have hend : x = 20 -> rowsP p y x = rowsM (rowI p) (y + 1) := fun e => by rw [e, rowsP_end (by omega)]
    cases g1 : inSh x y
    ·
     rw [g1] at e1
     repeat' (first | (with_reducible first | refine aw_seq fun K hK => ?_ | refine aw_region (by kernel_rfl) ?_ | refine aw_condk ?_ | refine aw_block ?_) | ((with_reducible refine ev_aw ?_); first | (refine aw_draw (id := 9) (by kernel_rfl) _ _ (by kernel_rfl) (pl_Region_46_9 _ (by kernel_rfl)) ?_)) | (with_reducible first | refine ru_four ?_ ?_ ?_ ?_ | refine ru_three ?_ ?_ ?_ | refine ru_two ?_ ?_ | refine rv_split ?_ ?_ | refine rv_two ?_ ?_ | refine rp_two ?_ ?_) | ((with_reducible refine evg ?_); simp only [go_sem, St.clean, cleanO, ↓reduceIte, Nat.reduceEqDiff, Nat.reduceBEq, Nat.reduceAdd, Nat.reduceMul, Nat.reduceSub, Nat.reduceLT, Nat.reduceLeDiff]) | ((with_reducible refine ev_call ?_); (first | (refine call_fn e1 rfl ?_)); refine k_run ?_) | ((with_reducible refine ev_guard ?_); (with_reducible first | refine guard_t ?_ ?_ rfl | refine guard_f ?_ ?_ rfl) <;> (intro h; (try simp only [h]); (try simp only [nrm] at h))) | ((with_reducible refine ck_split (fun h => ?_) (fun h => ?_)) <;> (try simp only [nrm] at h)) | ((with_reducible refine And.intro ?_ ?_); (focus first | omega | (simp; done) | (simp; omega) | ((repeat' (with_reducible refine And.intro ?_ ?_)) <;> first | omega | rfl | (simp only [go_sem, refsL_app, refs_dmap] <;> fail) | (simp [refsL_app, refs_dmap, AV.refsL, AV.refs] <;> omega)))) | (with_reducible refine hJ _ (fun K hK => ?_) ?_ <;> clear hJ KJ) | ((with_reducible refine ev_less ?_); (refine ⟨rfl, ?_, ?_⟩ <;> simp only [go_sem, St.clean, cleanO, SubS, SubO, beq_self_eq_true, ↓reduceIte, Nat.reduceEqDiff, Nat.reduceBEq, Nat.reduceAdd, Nat.reduceMul, Nat.reduceSub, Nat.reduceLT, Nat.reduceLeDiff])) | ((with_reducible first | apply hK | (clear hK K; first | apply hK | (clear hK K; apply hK))); clear hK K) | (simp (disch := omega) only [dsq, Int.reduceSub, Int.reduceAdd, Int.reduceToNat]) | fail)
     ·
      refine ⟨x + 1, by omega, by omega, ?_⟩
      rw [rowsP_skip (by simp [cellP, g1])]
      (refine lessW_of [] rfl ?_ <;> simp only [lsq, lookO, List.elem, List.cons_append, List.nil_append, cond_true, cond_false, and_true, true_and, beq_self_eq_true, ↓reduceIte, Nat.reduceEqDiff, Nat.reduceBEq, Nat.reduceAdd, Nat.reduceMul, Nat.reduceSub, Nat.reduceLT, Nat.reduceLeDiff] <;> try simp)
     ·
      refine ⟨y + 1, by omega, by omega, ?_⟩
      rw [hend (by omega)]
      (refine lessW_of [] rfl ?_ <;> simp only [lsq, lookO, List.elem, List.cons_append, List.nil_append, cond_true, cond_false, and_true, true_and, beq_self_eq_true, ↓reduceIte, Nat.reduceEqDiff, Nat.reduceBEq, Nat.reduceAdd, Nat.reduceMul, Nat.reduceSub, Nat.reduceLT, Nat.reduceLeDiff] <;> try simp)
    ·
     rw [g1] at e1
     cases g2 : p x y
     ·
      have e3 : hXY p [.int x, .int y] = .bool false := by rw [hXY_at, g2]
      repeat' (first | (with_reducible first | refine aw_seq fun K hK => ?_ | refine aw_region (by kernel_rfl) ?_ | refine aw_condk ?_ | refine aw_block ?_) | ((with_reducible refine ev_aw ?_); first | (refine aw_draw (id := 9) (by kernel_rfl) _ _ (by kernel_rfl) (pl_Region_46_9 _ (by kernel_rfl)) ?_)) | (with_reducible first | refine ru_four ?_ ?_ ?_ ?_ | refine ru_three ?_ ?_ ?_ | refine ru_two ?_ ?_ | refine rv_split ?_ ?_ | refine rv_two ?_ ?_ | refine rp_two ?_ ?_) | ((with_reducible refine evg ?_); simp only [go_sem, St.clean, cleanO, ↓reduceIte, Nat.reduceEqDiff, Nat.reduceBEq, Nat.reduceAdd, Nat.reduceMul, Nat.reduceSub, Nat.reduceLT, Nat.reduceLeDiff]) | (simp (disch := omega) only [dsq, Int.reduceSub, Int.reduceAdd, Int.reduceToNat, e3]) | ((with_reducible refine ev_call ?_); (first | (refine call_fn e1 rfl ?_) | (refine call_known rfl ⟨_, _, rfl, by omega, by omega, by omega, by omega⟩ ?_ )); refine k_run ?_) | ((with_reducible refine ev_guard ?_); (with_reducible first | refine guard_t ?_ ?_ rfl | refine guard_f ?_ ?_ rfl) <;> (intro h; (try simp only [h]); (try simp only [nrm] at h) <;> (try ((with_reducible exfalso); omega)))) | ((with_reducible refine ck_split (fun h => ?_) (fun h => ?_)) <;> (try simp only [nrm] at h) <;> (try ((with_reducible exfalso); omega))) | ((with_reducible refine And.intro ?_ ?_); (focus first | omega | (simp; done) | (simp; omega) | ((repeat' (with_reducible refine And.intro ?_ ?_)) <;> first | omega | rfl | (simp only [go_sem, refsL_app, refs_dmap] <;> fail) | (simp [refsL_app, refs_dmap, AV.refsL, AV.refs] <;> omega)))) | (with_reducible refine hJ _ (fun K hK => ?_) ?_ <;> clear hJ KJ) | ((with_reducible refine ev_less ?_); (refine ⟨rfl, ?_, ?_⟩ <;> simp only [go_sem, St.clean, cleanO, SubS, SubO, beq_self_eq_true, ↓reduceIte, Nat.reduceEqDiff, Nat.reduceBEq, Nat.reduceAdd, Nat.reduceMul, Nat.reduceSub, Nat.reduceLT, Nat.reduceLeDiff])) | ((with_reducible first | apply hK | (clear hK K; first | apply hK | (clear hK K; apply hK))); clear hK K) | fail)
      ·
       refine ⟨x + 1, by omega, by omega, ?_⟩
       rw [rowsP_skip (by simp [cellP, g2])]
       (refine lessW_of [] rfl ?_ <;> simp only [lsq, lookO, List.elem, List.cons_append, List.nil_append, cond_true, cond_false, and_true, true_and, beq_self_eq_true, ↓reduceIte, Nat.reduceEqDiff, Nat.reduceBEq, Nat.reduceAdd, Nat.reduceMul, Nat.reduceSub, Nat.reduceLT, Nat.reduceLeDiff] <;> try simp)
      ·
       refine ⟨y + 1, by omega, by omega, ?_⟩
       rw [hend (by omega)]
       (refine lessW_of [] rfl ?_ <;> simp only [lsq, lookO, List.elem, List.cons_append, List.nil_append, cond_true, cond_false, and_true, true_and, beq_self_eq_true, ↓reduceIte, Nat.reduceEqDiff, Nat.reduceBEq, Nat.reduceAdd, Nat.reduceMul, Nat.reduceSub, Nat.reduceLT, Nat.reduceLeDiff] <;> try simp)
     ·
      have e3 : hXY p [.int x, .int y] = .bool true := by rw [hXY_at, g2]
      have e4 := e2 (by simp [cellP, g1, g2])
      repeat' (first | (with_reducible first | refine aw_seq fun K hK => ?_ | refine aw_region (by kernel_rfl) ?_ | refine aw_condk ?_ | refine aw_block ?_) | ((with_reducible refine ev_aw ?_); first | (refine aw_draw (id := 9) (by kernel_rfl) _ _ (by kernel_rfl) (pl_Region_46_9 _ (by kernel_rfl)) ?_)) | (with_reducible first | refine ru_four ?_ ?_ ?_ ?_ | refine ru_three ?_ ?_ ?_ | refine ru_two ?_ ?_ | refine rv_split ?_ ?_ | refine rv_two ?_ ?_ | refine rp_two ?_ ?_) | ((with_reducible refine evg ?_); simp only [go_sem, St.clean, cleanO, ↓reduceIte, Nat.reduceEqDiff, Nat.reduceBEq, Nat.reduceAdd, Nat.reduceMul, Nat.reduceSub, Nat.reduceLT, Nat.reduceLeDiff]) | (simp (disch := omega) only [dsq, Int.reduceSub, Int.reduceAdd, Int.reduceToNat, e3, rowsP_clen, rowsP_at, e4, rowsP_set]) | ((with_reducible refine ev_call ?_); (first | (refine call_fn e1 rfl ?_) | (refine call_known rfl ⟨_, _, rfl, by omega, by omega, by omega, by omega⟩ ?_ )); refine k_run ?_) | ((with_reducible refine ev_guard ?_); (with_reducible first | refine guard_t ?_ ?_ rfl | refine guard_f ?_ ?_ rfl) <;> (intro h; (try simp only [h]); (try simp only [nrm] at h) <;> (try ((with_reducible exfalso); omega)))) | ((with_reducible refine ck_split (fun h => ?_) (fun h => ?_)) <;> (try simp only [nrm] at h) <;> (try ((with_reducible exfalso); omega))) | ((with_reducible refine And.intro ?_ ?_); (focus first | omega | (simp; done) | (simp; omega) | ((repeat' (with_reducible refine And.intro ?_ ?_)) <;> first | omega | rfl | (simp only [go_sem, refsL_app, refs_dmap] <;> fail) | (simp [refsL_app, refs_dmap, AV.refsL, AV.refs] <;> omega)))) | (with_reducible refine hJ _ (fun K hK => ?_) ?_ <;> clear hJ KJ) | ((with_reducible refine ev_less ?_); (refine ⟨rfl, ?_, ?_⟩ <;> simp only [go_sem, St.clean, cleanO, SubS, SubO, beq_self_eq_true, ↓reduceIte, Nat.reduceEqDiff, Nat.reduceBEq, Nat.reduceAdd, Nat.reduceMul, Nat.reduceSub, Nat.reduceLT, Nat.reduceLeDiff])) | ((with_reducible first | apply hK | (clear hK K; first | apply hK | (clear hK K; apply hK))); clear hK K) | fail)
      ·
       refine ⟨x + 1, by omega, by omega, ?_⟩
       (refine lessW_of [] rfl ?_ <;> simp only [lsq, lookO, List.elem, List.cons_append, List.nil_append, cond_true, cond_false, and_true, true_and, beq_self_eq_true, ↓reduceIte, Nat.reduceEqDiff, Nat.reduceBEq, Nat.reduceAdd, Nat.reduceMul, Nat.reduceSub, Nat.reduceLT, Nat.reduceLeDiff] <;> try simp)
      ·
       refine ⟨y + 1, by omega, by omega, ?_⟩
       rw [hend (by omega)]
       (refine lessW_of [] rfl ?_ <;> simp only [lsq, lookO, List.elem, List.cons_append, List.nil_append, cond_true, cond_false, and_true, true_and, beq_self_eq_true, ↓reduceIte, Nat.reduceEqDiff, Nat.reduceBEq, Nat.reduceAdd, Nat.reduceMul, Nat.reduceSub, Nat.reduceLT, Nat.reduceLeDiff] <;> try simp)
  ·
   rw [rowsM_end (by omega)]
   refine res_at rfl (by simp [D.plain, plains]) (by simp) ?_
   exact congrArg D.ag (congrArg (· :: []) (ints_raw (regZ p)))

theorem call_pred1 {σ : St} {q : Bool} {dst : Option Nat} {K : St -> Prop} {g g2 : FuncId} {cap first : List AV} {fs cs : List D} {r : D} {dom : List D -> Prop} {h : List D -> D} (hc : Fn Try.prog g [.fn dom h] r) (hok : FnOk Try.prog g2) (hfirst : mapD (toD σ.ob 4) first = some fs) (hcap : mapD (toD σ.ob 4) cap = some cs) (hf : ∀ ds, dom ds -> FnD Try.prog g2 (fs ++ ds ++ cs) (h ds)) (hk : K (σ.adopt dst r)) :
  CallOk Try.prog q σ dst (.fc g [] []) [.fc g2 first cap] K := by
 refine call_cv hc ?_ hk
 simp only [List.nil_append, List.append_nil, ArgsAre]
 refine ⟨_, _, rfl, ?_, rfl⟩
 unfold ArgIs
 exact ⟨hok, fs, cs, hfirst, hcap, fun ds hd => hf ds hd⟩

theorem shieldRegion1_fn (x y : Int) : FnD Try.prog 50 [.int x, .int y] (.bool true) := by
 refine fn_go Try.func50 rfl rfl Try.ntmps50 Try.results50 (by simp only [slo, Nat.reduceAdd]; rfl) (by simp) ?_
 repeat' (first | (with_reducible first | refine aw_seq fun K hK => ?_ | refine aw_region (by kernel_rfl) ?_) | ((with_reducible refine evg ?_); simp only [go_sem, ↓reduceIte, Nat.reduceEqDiff, Nat.reduceBEq, Nat.reduceAdd, Nat.reduceMul, Nat.reduceSub, Nat.reduceLT, Nat.reduceLeDiff]) | ((with_reducible refine And.intro ?_ ?_); (focus first | omega | (simp; done) | (simp; omega) | ((repeat' (with_reducible refine And.intro ?_ ?_)) <;> first | omega | rfl | (simp only [go_sem, refsL_app, refs_dmap] <;> fail) | (simp [refsL_app, refs_dmap, AV.refsL, AV.refs] <;> omega)))) | ((with_reducible first | apply hK | (clear hK K; first | apply hK | (clear hK K; apply hK))); clear hK K) | (simp (disch := omega) only [dsq, Int.reduceSub, Int.reduceAdd, Int.reduceToNat]) | fail)
 refine res_tmp rfl (by simp [D.plain, plains]) (by simp) ?_
 rfl

def shZ : List Int := regZ (fun _ _ => true)

theorem shieldRegion_fn : FnD Try.prog 13 [] (.ag [intL shZ]) := by
 have e1 : ∀ ds, isXY ds -> FnD Try.prog 50 ([] ++ ds ++ []) (hXY (fun _ _ => true) ds) := by
  rintro ds ⟨x, y, rfl, _⟩
  exact shieldRegion1_fn x y
 refine fn_go Try.func13 rfl rfl Try.ntmps13 Try.results13 (by simp only [slo, Nat.reduceAdd]; rfl) (by simp) ?_
 repeat' (first | (with_reducible first | refine aw_seq fun K hK => ?_ | refine aw_region (by kernel_rfl) ?_) | ((with_reducible refine evg ?_); simp only [go_sem, ↓reduceIte, Nat.reduceEqDiff, Nat.reduceBEq, Nat.reduceAdd, Nat.reduceMul, Nat.reduceSub, Nat.reduceLT, Nat.reduceLeDiff]) | ((with_reducible refine ev_call ?_); (first | (refine call_pred1 (regionOf_fn (fun _ _ => true)) (shieldRegion1_fn 0 0).1 rfl rfl e1 ?_ )); refine k_run ?_) | ((with_reducible refine And.intro ?_ ?_); (focus first | omega | (simp; done) | (simp; omega) | ((repeat' (with_reducible refine And.intro ?_ ?_)) <;> first | omega | rfl | (simp only [go_sem, refsL_app, refs_dmap] <;> fail) | (simp [refsL_app, refs_dmap, AV.refsL, AV.refs] <;> omega)))) | ((with_reducible first | apply hK | (clear hK K; first | apply hK | (clear hK K; apply hK))); clear hK K) | (simp (disch := omega) only [dsq, Int.reduceSub, Int.reduceAdd, Int.reduceToNat]) | fail)
 refine res_at rfl (by simp [D.plain, plains]) (by simp) ?_
 exact congrArg D.ag (congrArg (· :: []) (ints_raw shZ))

def okRow (y : Nat) (v : Int) : Bool := decide (0 <= v) && (v.toNat &&& (rowN (cellP (fun _ _ => true) y) 20) == v.toNat)

def okReg (zs : List Int) : Bool := decide (zs.length = 24) && (List.range 24).all fun y => okRow y (zs.getD y 0)

def inI (zs : List Int) : Prop := ∀ i, -9223372036854775808 <= zs.getD i 0 /\ zs.getD i 0 <= 9223372036854775807

theorem andNot_zero {a m : Nat} (ha : a < 2 ^ 63) (hm : m < 2 ^ 63) : (bits .andNot .i64 (a : Int) (m : Int) != 0) = !(a &&& m == a) := by
 have h1 : (BitVec.ofInt 64 (a : Int)).toNat = a := by
  rw [BitVec.ofInt_natCast, BitVec.toNat_ofNat]; exact Nat.mod_eq_of_lt (by omega)
 have h2 : (BitVec.ofInt 64 (m : Int)).toNat = m := by
  rw [BitVec.ofInt_natCast, BitVec.toNat_ofNat]; exact Nat.mod_eq_of_lt (by omega)
 have hx : a &&& (2 ^ 64 - (m + 1)) < 2 ^ 63 := Nat.lt_of_le_of_lt Nat.and_le_left ha
 have e : bits .andNot .i64 (a : Int) (m : Int) = ((a &&& (2 ^ 64 - (m + 1)) : Nat) : Int) := by
  show IntKind.i64.wrap ((BitVec.ofInt 64 (a : Int) &&& ~~~ BitVec.ofInt 64 (m : Int)).toNat : Int) = _
  rw [BitVec.toNat_and, BitVec.toNat_not, h1, h2, show 2 ^ 64 - 1 - m = 2 ^ 64 - (m + 1) by omega]
  exact wrap63 _ (Int.natCast_nonneg _) (by exact_mod_cast hx)
 have hk : a &&& (2 ^ 64 - (m + 1)) = 0 ↔ a &&& m = a := by
  constructor
  ·
   intro h
   apply Nat.eq_of_testBit_eq
   intro i
   have := congrArg (fun n => n.testBit i) h
   simp only [Nat.testBit_and, Nat.zero_testBit, Nat.testBit_two_pow_sub_succ (show m < 2 ^ 64 by omega)] at this
   rw [Nat.testBit_and]
   by_cases hi : i < 64
   ·
    simp only [hi, decide_true, Bool.true_and] at this
    cases h3 : a.testBit i <;> cases h4 : m.testBit i <;> simp_all
   ·
    have : a.testBit i = false := Nat.testBit_lt_two_pow (Nat.lt_of_lt_of_le ha (Nat.pow_le_pow_right (by decide) (by omega)))
    simp [this]
  ·
   intro h
   apply Nat.eq_of_testBit_eq
   intro i
   have := congrArg (fun n => n.testBit i) h
   simp only [Nat.testBit_and] at this
   simp only [Nat.testBit_and, Nat.zero_testBit, Nat.testBit_two_pow_sub_succ (show m < 2 ^ 64 by omega)]
   cases h3 : a.testBit i <;> cases h4 : m.testBit i <;> simp_all
 rw [e]
 by_cases h : a &&& m = a
 ·
  rw [hk.2 h, h]
  simp
 ·
  have h5 : a &&& (2 ^ 64 - (m + 1)) ≠ 0 := fun e => h (hk.1 e)
  have h6 : (((a &&& (2 ^ 64 - (m + 1)) : Nat) : Int) != 0) = true := by
   rw [bne_iff_ne]
   exact_mod_cast h5
  rw [h6]
  simp [h]

theorem okRow_at {y : Nat} {v : Int} (h0 : 0 <= v) (h1 : v <= 9223372036854775807) : (bits .andNot .i64 v (rowI (fun _ _ => true) y) != 0) = !okRow y v := by
 obtain ⟨n, rfl⟩ := Int.eq_ofNat_of_zero_le h0
 have := rowN_lt (cellP (fun _ _ => true) y) 20
 rw [rowI, andNot_zero (by omega) (by omega)]
 simp [okRow]

theorem isValidRegion_fn (zs : List Int) (hl : zs.length <= 9223372036854775807) (hi : inI zs) : FnD Try.prog 35 [.ag [intL zs]] (.bool (okReg zs)) := by
 have e0 := shieldRegion_fn
 refine fn_go Try.func35 rfl rfl Try.ntmps35 Try.results35 (by simp only [slo, Nat.reduceAdd]; rfl) (by simp) ?_
 repeat' (first | (with_reducible first | refine aw_seq fun K hK => ?_ | refine aw_region (by kernel_rfl) ?_ | refine aw_condk ?_ | refine aw_block ?_) | ((with_reducible refine evg ?_); simp only [go_sem, ↓reduceIte, Nat.reduceEqDiff, Nat.reduceBEq, Nat.reduceAdd, Nat.reduceMul, Nat.reduceSub, Nat.reduceLT, Nat.reduceLeDiff]) | ((with_reducible refine ev_call ?_); (first | (refine call_fn e0 rfl ?_)); refine k_run ?_) | ((with_reducible refine ev_guard ?_); (with_reducible first | refine guard_t ?_ ?_ rfl | refine guard_f ?_ ?_ rfl) <;> (intro h; (try simp only [h]); (try simp only [nrm] at h))) | ((with_reducible refine ck_split (fun h => ?_) (fun h => ?_)) <;> (try simp only [nrm] at h)) | ((with_reducible refine And.intro ?_ ?_); (focus first | omega | (simp; done) | (simp; omega) | ((repeat' (with_reducible refine And.intro ?_ ?_)) <;> first | omega | rfl | (simp only [go_sem, refsL_app, refs_dmap] <;> fail) | (simp [refsL_app, refs_dmap, AV.refsL, AV.refs] <;> omega)))) | ((with_reducible first | apply hK | (clear hK K; first | apply hK | (clear hK K; apply hK))); clear hK K) | (simp (disch := omega) only [dsq, Int.reduceSub, Int.reduceAdd, Int.reduceToNat]) | fail)
 ·
  refine res_tmp rfl (by simp [D.plain, plains]) (by simp) ?_
  have : ¬ zs.length = 24 := by omega
  simp [okReg, this]
 ·
  have hlen : zs.length = 24 := by omega
  have hsh : shZ.length = 24 := regZ_len _
  refine aw_loopU [2, 4, 5, 14, 15, 16, 17, 18, 19, 20, 21, 22, 23, 24, 25, 26, 27, 28, 29, 30, 31] [] (fun i : Nat => [(14, .d (.int i))]) (fun _ => []) (fun i => i <= 24 /\ ((List.range i).all fun y => okRow y (zs.getD y 0)) = true) (fun i => 24 - i) 0 ⟨by omega, rfl⟩ ?_ ?_
  · (refine lessW_of [] rfl ?_ <;> simp only [lsq, lookO, List.elem, List.cons_append, List.nil_append, cond_true, cond_false, and_true, true_and, beq_self_eq_true, ↓reduceIte, Nat.reduceEqDiff, Nat.reduceBEq, Nat.reduceAdd, Nat.reduceMul, Nat.reduceSub, Nat.reduceLT, Nat.reduceLeDiff] <;> try simp)
  ·
   rintro i ⟨g1, g2⟩
   simp only [St.upd, dropS, dropOs, List.elem, List.cons_append, List.nil_append, cond_true, cond_false, beq_self_eq_true, ↓reduceIte, Nat.reduceEqDiff, Nat.reduceBEq, Nat.reduceAdd, Nat.reduceMul, Nat.reduceSub, Nat.reduceLT, Nat.reduceLeDiff]
   have hr := hi i
   have hnot : i < 24 -> okRow i (zs.getD i 0) = false -> okReg zs = false := fun h1 h2 => by
    have : ((List.range 24).all fun y => okRow y (zs.getD y 0)) = false := by
     rw [List.all_eq_false]
     exact ⟨i, List.mem_range.2 h1, by rw [h2]; simp⟩
    simp only [okReg, this, Bool.and_false]
   have hyes : i < 24 -> okRow i (zs.getD i 0) = true -> ((List.range (i + 1)).all fun y => okRow y (zs.getD y 0)) = true := fun h1 h2 => by
    rw [List.range_succ, List.all_append, g2, Bool.true_and, List.all_cons, h2]
    rfl
   have hdone : i = 24 -> okReg zs = true := fun e => by
    rw [e] at g2
    rw [okReg, g2, decide_eq_true hlen]
    rfl
   by_cases hneg : zs.getD i 0 < 0
   ·
    have hno : okRow i (zs.getD i 0) = false := by rw [okRow, decide_eq_false (by omega), Bool.false_and]
    repeat' (first | (with_reducible first | refine aw_seq fun K hK => ?_ | refine aw_region (by kernel_rfl) ?_ | refine aw_condk ?_ | refine aw_block ?_) | ((with_reducible refine evg ?_); simp only [go_sem, ↓reduceIte, Nat.reduceEqDiff, Nat.reduceBEq, Nat.reduceAdd, Nat.reduceMul, Nat.reduceSub, Nat.reduceLT, Nat.reduceLeDiff]) | (simp (disch := omega) only [dsq, Int.reduceSub, Int.reduceAdd, Int.reduceToNat, getD_nat]) | ((with_reducible refine ev_guard ?_); (with_reducible first | refine guard_t ?_ ?_ rfl | refine guard_f ?_ ?_ rfl) <;> (intro h; (try simp only [h]); (try simp only [nrm] at h) <;> (try ((with_reducible exfalso); omega)))) | ((with_reducible refine ck_split (fun h => ?_) (fun h => ?_)) <;> (try simp only [nrm] at h) <;> (try ((with_reducible exfalso); omega))) | ((with_reducible refine And.intro ?_ ?_); (focus first | omega | (simp; done) | (simp; omega) | ((repeat' (with_reducible refine And.intro ?_ ?_)) <;> first | omega | rfl | (simp only [go_sem, refsL_app, refs_dmap] <;> fail) | (simp [refsL_app, refs_dmap, AV.refsL, AV.refs] <;> omega)))) | ((with_reducible first | apply hK | (clear hK K; first | apply hK | (clear hK K; apply hK))); clear hK K) | fail)
    ·
     refine res_tmp rfl (by simp [D.plain, plains]) (by simp) ?_
     rw [hnot (by omega) hno]
    ·
     refine res_tmp rfl (by simp [D.plain, plains]) (by simp) ?_
     rw [hdone (by omega)]
   ·
    have e1 := okRow_at (y := i) (v := zs.getD i 0) (by omega) hr.2
    have e2 : i < 24 -> shZ.getD i 0 = rowI (fun _ _ => true) i := fun h => regZ_at h
    cases g3 : okRow i (zs.getD i 0)
    ·
     rw [g3] at e1
     repeat' (first | (with_reducible first | refine aw_seq fun K hK => ?_ | refine aw_region (by kernel_rfl) ?_ | refine aw_condk ?_ | refine aw_block ?_) | ((with_reducible refine evg ?_); simp only [go_sem, ↓reduceIte, Nat.reduceEqDiff, Nat.reduceBEq, Nat.reduceAdd, Nat.reduceMul, Nat.reduceSub, Nat.reduceLT, Nat.reduceLeDiff]) | (simp (disch := omega) only [dsq, Int.reduceSub, Int.reduceAdd, Int.reduceToNat, getD_nat, e2, e1]) | ((with_reducible refine ev_guard ?_); (with_reducible first | refine guard_t ?_ ?_ rfl | refine guard_f ?_ ?_ rfl) <;> (intro h; (try simp only [h]); (try simp only [nrm] at h) <;> (try ((with_reducible exfalso); omega)))) | ((with_reducible refine ck_split (fun h => ?_) (fun h => ?_)) <;> (try simp only [nrm] at h) <;> (try ((with_reducible exfalso); omega))) | ((with_reducible refine And.intro ?_ ?_); (focus first | omega | (simp; done) | (simp; omega) | ((repeat' (with_reducible refine And.intro ?_ ?_)) <;> first | omega | rfl | (simp only [go_sem, refsL_app, refs_dmap] <;> fail) | (simp [refsL_app, refs_dmap, AV.refsL, AV.refs] <;> omega)))) | ((with_reducible first | apply hK | (clear hK K; first | apply hK | (clear hK K; apply hK))); clear hK K) | fail)
     ·
      refine res_tmp rfl (by simp [D.plain, plains]) (by simp) ?_
      rw [hnot (by omega) g3]
     ·
      refine res_tmp rfl (by simp [D.plain, plains]) (by simp) ?_
      rw [hdone (by omega)]
    ·
     rw [g3] at e1
     repeat' (first | (with_reducible first | refine aw_seq fun K hK => ?_ | refine aw_region (by kernel_rfl) ?_ | refine aw_condk ?_ | refine aw_block ?_) | ((with_reducible refine evg ?_); simp only [go_sem, ↓reduceIte, Nat.reduceEqDiff, Nat.reduceBEq, Nat.reduceAdd, Nat.reduceMul, Nat.reduceSub, Nat.reduceLT, Nat.reduceLeDiff]) | (simp (disch := omega) only [dsq, Int.reduceSub, Int.reduceAdd, Int.reduceToNat, getD_nat, e2, e1]) | ((with_reducible refine ev_guard ?_); (with_reducible first | refine guard_t ?_ ?_ rfl | refine guard_f ?_ ?_ rfl) <;> (intro h; (try simp only [h]); (try simp only [nrm] at h) <;> (try ((with_reducible exfalso); omega)))) | ((with_reducible refine ck_split (fun h => ?_) (fun h => ?_)) <;> (try simp only [nrm] at h) <;> (try ((with_reducible exfalso); omega))) | ((with_reducible refine And.intro ?_ ?_); (focus first | omega | (simp; done) | (simp; omega) | ((repeat' (with_reducible refine And.intro ?_ ?_)) <;> first | omega | rfl | (simp only [go_sem, refsL_app, refs_dmap] <;> fail) | (simp [refsL_app, refs_dmap, AV.refsL, AV.refs] <;> omega)))) | ((with_reducible first | apply hK | (clear hK K; first | apply hK | (clear hK K; apply hK))); clear hK K) | fail)
     · exact ⟨i + 1, ⟨by omega, hyes (by omega) g3⟩, by omega, by (refine lessW_of [] rfl ?_ <;> simp only [lsq, lookO, List.elem, List.cons_append, List.nil_append, cond_true, cond_false, and_true, true_and, beq_self_eq_true, ↓reduceIte, Nat.reduceEqDiff, Nat.reduceBEq, Nat.reduceAdd, Nat.reduceMul, Nat.reduceSub, Nat.reduceLT, Nat.reduceLeDiff] <;> try simp)⟩
     ·
      refine res_tmp rfl (by simp [D.plain, plains]) (by simp) ?_
      rw [hdone (by omega)]

def hasZ (zs : List Int) (x y : Int) : Bool := inR x 0 19 && inR y 0 23 && bitZ zs x y

theorem bitZ_row {zs : List Int} {x y : Int} (hz : 0 <= zs.getD y.toNat 0 /\ zs.getD y.toNat 0 < 9223372036854775808) (h2 : 0 <= x) (h3 : x <= 63) : bits .and .i64 ((zs.getD y.toNat 0).fdiv (2 ^ (min x.toNat 64))) 1 = if bitZ zs x y then 1 else 0 :=
 bit_at hz.1 hz.2 h2 h3

theorem l9Has_fn (zs : List Int) (x y : Int) (hl : zs.length = 24) (hz : inR y 0 23 = true -> 0 <= zs.getD y.toNat 0 /\ zs.getD y.toNat 0 < 9223372036854775808) : FnD Try.prog 81 [.ag [intL zs], .int x, .int y] (.bool (hasZ zs x y)) := by
 have e1 := l1In_fn x 0 19
 have e2 := l1In_fn y 0 23
 cases g1 : inR x 0 19
 ·
  rw [g1] at e1
  refine fn_go Try.func81 rfl rfl Try.ntmps81 Try.results81 (by simp only [slo, Nat.reduceAdd]; rfl) (by simp) ?_
  repeat' (first | (with_reducible first | refine aw_seq fun K hK => ?_ | refine aw_region (by kernel_rfl) ?_) | ((with_reducible refine evg ?_); simp only [go_sem, ↓reduceIte, Nat.reduceEqDiff, Nat.reduceBEq, Nat.reduceAdd, Nat.reduceMul, Nat.reduceSub, Nat.reduceLT, Nat.reduceLeDiff]) | ((with_reducible refine ev_call ?_); (first | (refine call_fn e1 rfl ?_)); refine k_run ?_) | ((with_reducible refine ev_guard ?_); (with_reducible first | refine guard_t ?_ ?_ rfl | refine guard_f ?_ ?_ rfl) <;> (intro h; (try simp only [h]); (try simp only [nrm] at h))) | ((with_reducible refine And.intro ?_ ?_); (focus first | omega | (simp; done) | (simp; omega) | ((repeat' (with_reducible refine And.intro ?_ ?_)) <;> first | omega | rfl | (simp only [go_sem, refsL_app, refs_dmap] <;> fail) | (simp [refsL_app, refs_dmap, AV.refsL, AV.refs] <;> omega)))) | ((with_reducible first | apply hK | (clear hK K; first | apply hK | (clear hK K; apply hK))); clear hK K) | (simp (disch := omega) only [dsq, Int.reduceSub, Int.reduceAdd, Int.reduceToNat]) | fail)
  refine res_tmp rfl (by simp [D.plain, plains]) (by simp) ?_
  simp [hasZ, g1]
 ·
  rw [g1] at e1
  have q1 := inR_iff.1 g1
  cases g2 : inR y 0 23
  ·
   rw [g2] at e2
   refine fn_go Try.func81 rfl rfl Try.ntmps81 Try.results81 (by simp only [slo, Nat.reduceAdd]; rfl) (by simp) ?_
   repeat' (first | (with_reducible first | refine aw_seq fun K hK => ?_ | refine aw_region (by kernel_rfl) ?_) | ((with_reducible refine evg ?_); simp only [go_sem, ↓reduceIte, Nat.reduceEqDiff, Nat.reduceBEq, Nat.reduceAdd, Nat.reduceMul, Nat.reduceSub, Nat.reduceLT, Nat.reduceLeDiff]) | ((with_reducible refine ev_call ?_); (first | (refine call_fn e1 rfl ?_) | (refine call_fn e2 rfl ?_)); refine k_run ?_) | ((with_reducible refine ev_guard ?_); (with_reducible first | refine guard_t ?_ ?_ rfl | refine guard_f ?_ ?_ rfl) <;> (intro h; (try simp only [h]); (try simp only [nrm] at h))) | ((with_reducible refine And.intro ?_ ?_); (focus first | omega | (simp; done) | (simp; omega) | ((repeat' (with_reducible refine And.intro ?_ ?_)) <;> first | omega | rfl | (simp only [go_sem, refsL_app, refs_dmap] <;> fail) | (simp [refsL_app, refs_dmap, AV.refsL, AV.refs] <;> omega)))) | ((with_reducible first | apply hK | (clear hK K; first | apply hK | (clear hK K; apply hK))); clear hK K) | (simp (disch := omega) only [dsq, Int.reduceSub, Int.reduceAdd, Int.reduceToNat]) | fail)
   refine res_tmp rfl (by simp [D.plain, plains]) (by simp) ?_
   simp [hasZ, g2]
  ·
   rw [g2] at e2
   have q2 := inR_iff.1 g2
   have e3 := bitZ_row (x := x) (hz g2) (by omega) (by omega)
   cases g3 : bitZ zs x y
   ·
    rw [g3] at e3
    simp only [Bool.false_eq_true, if_false] at e3
    refine fn_go Try.func81 rfl rfl Try.ntmps81 Try.results81 (by simp only [slo, Nat.reduceAdd]; rfl) (by simp) ?_
    repeat' (first | (with_reducible first | refine aw_seq fun K hK => ?_ | refine aw_region (by kernel_rfl) ?_) | ((with_reducible refine evg ?_); simp only [go_sem, ↓reduceIte, Nat.reduceEqDiff, Nat.reduceBEq, Nat.reduceAdd, Nat.reduceMul, Nat.reduceSub, Nat.reduceLT, Nat.reduceLeDiff]) | (simp (disch := omega) only [dsq, Int.reduceSub, Int.reduceAdd, Int.reduceToNat, getD_nat, wru, e3]) | ((with_reducible refine ev_call ?_); (first | (refine call_fn e1 rfl ?_) | (refine call_fn e2 rfl ?_)); refine k_run ?_) | ((with_reducible refine ev_guard ?_); (with_reducible first | refine guard_t ?_ ?_ rfl | refine guard_f ?_ ?_ rfl) <;> (intro h; (try simp only [h]); (try simp only [nrm] at h) <;> (try ((with_reducible exfalso); omega)))) | ((with_reducible refine And.intro ?_ ?_); (focus first | omega | (simp; done) | (simp; omega) | ((repeat' (with_reducible refine And.intro ?_ ?_)) <;> first | omega | rfl | (simp only [go_sem, refsL_app, refs_dmap] <;> fail) | (simp [refsL_app, refs_dmap, AV.refsL, AV.refs] <;> omega)))) | ((with_reducible first | apply hK | (clear hK K; first | apply hK | (clear hK K; apply hK))); clear hK K) | fail)
    refine res_tmp rfl (by simp [D.plain, plains]) (by simp) ?_
    simp [hasZ, g1, g2, g3]
   ·
    rw [g3] at e3
    simp only [if_true] at e3
    refine fn_go Try.func81 rfl rfl Try.ntmps81 Try.results81 (by simp only [slo, Nat.reduceAdd]; rfl) (by simp) ?_
    repeat' (first | (with_reducible first | refine aw_seq fun K hK => ?_ | refine aw_region (by kernel_rfl) ?_) | ((with_reducible refine evg ?_); simp only [go_sem, ↓reduceIte, Nat.reduceEqDiff, Nat.reduceBEq, Nat.reduceAdd, Nat.reduceMul, Nat.reduceSub, Nat.reduceLT, Nat.reduceLeDiff]) | (simp (disch := omega) only [dsq, Int.reduceSub, Int.reduceAdd, Int.reduceToNat, getD_nat, wru, e3]) | ((with_reducible refine ev_call ?_); (first | (refine call_fn e1 rfl ?_) | (refine call_fn e2 rfl ?_)); refine k_run ?_) | ((with_reducible refine ev_guard ?_); (with_reducible first | refine guard_t ?_ ?_ rfl | refine guard_f ?_ ?_ rfl) <;> (intro h; (try simp only [h]); (try simp only [nrm] at h) <;> (try ((with_reducible exfalso); omega)))) | ((with_reducible refine And.intro ?_ ?_); (focus first | omega | (simp; done) | (simp; omega) | ((repeat' (with_reducible refine And.intro ?_ ?_)) <;> first | omega | rfl | (simp only [go_sem, refsL_app, refs_dmap] <;> fail) | (simp [refsL_app, refs_dmap, AV.refsL, AV.refs] <;> omega)))) | ((with_reducible first | apply hK | (clear hK K; first | apply hK | (clear hK K; apply hK))); clear hK K) | fail)
    refine res_tmp rfl (by simp [D.plain, plains]) (by simp) ?_
    simp [hasZ, g1, g2, g3]

theorem implHas_fn (zs : List Int) (x y : Int) (hl : zs.length = 24) (hz : inR y 0 23 = true -> 0 <= zs.getD y.toNat 0 /\ zs.getD y.toNat 0 < 9223372036854775808) : FnD Try.prog 38 [.ag [intL zs], .int x, .int y] (.bool (hasZ zs x y)) := by
 have e1 := inside_fn x 0 19
 have e2 := inside_fn y 0 23
 cases g1 : inR x 0 19
 ·
  rw [g1] at e1
  refine fn_go Try.func38 rfl rfl Try.ntmps38 Try.results38 (by simp only [slo, Nat.reduceAdd]; rfl) (by simp) ?_
  repeat' (first | (with_reducible first | refine aw_seq fun K hK => ?_ | refine aw_region (by kernel_rfl) ?_) | ((with_reducible refine evg ?_); simp only [go_sem, ↓reduceIte, Nat.reduceEqDiff, Nat.reduceBEq, Nat.reduceAdd, Nat.reduceMul, Nat.reduceSub, Nat.reduceLT, Nat.reduceLeDiff]) | ((with_reducible refine ev_call ?_); (first | (refine call_fn e1 rfl ?_)); refine k_run ?_) | ((with_reducible refine ev_guard ?_); (with_reducible first | refine guard_t ?_ ?_ rfl | refine guard_f ?_ ?_ rfl) <;> (intro h; (try simp only [h]); (try simp only [nrm] at h))) | ((with_reducible refine And.intro ?_ ?_); (focus first | omega | (simp; done) | (simp; omega) | ((repeat' (with_reducible refine And.intro ?_ ?_)) <;> first | omega | rfl | (simp only [go_sem, refsL_app, refs_dmap] <;> fail) | (simp [refsL_app, refs_dmap, AV.refsL, AV.refs] <;> omega)))) | ((with_reducible first | apply hK | (clear hK K; first | apply hK | (clear hK K; apply hK))); clear hK K) | (simp (disch := omega) only [dsq, Int.reduceSub, Int.reduceAdd, Int.reduceToNat]) | fail)
  refine res_tmp rfl (by simp [D.plain, plains]) (by simp) ?_
  simp [hasZ, g1]
 ·
  rw [g1] at e1
  have q1 := inR_iff.1 g1
  cases g2 : inR y 0 23
  ·
   rw [g2] at e2
   refine fn_go Try.func38 rfl rfl Try.ntmps38 Try.results38 (by simp only [slo, Nat.reduceAdd]; rfl) (by simp) ?_
   repeat' (first | (with_reducible first | refine aw_seq fun K hK => ?_ | refine aw_region (by kernel_rfl) ?_) | ((with_reducible refine evg ?_); simp only [go_sem, ↓reduceIte, Nat.reduceEqDiff, Nat.reduceBEq, Nat.reduceAdd, Nat.reduceMul, Nat.reduceSub, Nat.reduceLT, Nat.reduceLeDiff]) | ((with_reducible refine ev_call ?_); (first | (refine call_fn e1 rfl ?_) | (refine call_fn e2 rfl ?_)); refine k_run ?_) | ((with_reducible refine ev_guard ?_); (with_reducible first | refine guard_t ?_ ?_ rfl | refine guard_f ?_ ?_ rfl) <;> (intro h; (try simp only [h]); (try simp only [nrm] at h))) | ((with_reducible refine And.intro ?_ ?_); (focus first | omega | (simp; done) | (simp; omega) | ((repeat' (with_reducible refine And.intro ?_ ?_)) <;> first | omega | rfl | (simp only [go_sem, refsL_app, refs_dmap] <;> fail) | (simp [refsL_app, refs_dmap, AV.refsL, AV.refs] <;> omega)))) | ((with_reducible first | apply hK | (clear hK K; first | apply hK | (clear hK K; apply hK))); clear hK K) | (simp (disch := omega) only [dsq, Int.reduceSub, Int.reduceAdd, Int.reduceToNat]) | fail)
   refine res_tmp rfl (by simp [D.plain, plains]) (by simp) ?_
   simp [hasZ, g2]
  ·
   rw [g2] at e2
   have q2 := inR_iff.1 g2
   have e3 := bitZ_row (x := x) (hz g2) (by omega) (by omega)
   cases g3 : bitZ zs x y
   ·
    rw [g3] at e3
    simp only [Bool.false_eq_true, if_false] at e3
    refine fn_go Try.func38 rfl rfl Try.ntmps38 Try.results38 (by simp only [slo, Nat.reduceAdd]; rfl) (by simp) ?_
    repeat' (first | (with_reducible first | refine aw_seq fun K hK => ?_ | refine aw_region (by kernel_rfl) ?_) | ((with_reducible refine evg ?_); simp only [go_sem, ↓reduceIte, Nat.reduceEqDiff, Nat.reduceBEq, Nat.reduceAdd, Nat.reduceMul, Nat.reduceSub, Nat.reduceLT, Nat.reduceLeDiff]) | (simp (disch := omega) only [dsq, Int.reduceSub, Int.reduceAdd, Int.reduceToNat, getD_nat, wru, e3]) | ((with_reducible refine ev_call ?_); (first | (refine call_fn e1 rfl ?_) | (refine call_fn e2 rfl ?_)); refine k_run ?_) | ((with_reducible refine ev_guard ?_); (with_reducible first | refine guard_t ?_ ?_ rfl | refine guard_f ?_ ?_ rfl) <;> (intro h; (try simp only [h]); (try simp only [nrm] at h) <;> (try ((with_reducible exfalso); omega)))) | ((with_reducible refine And.intro ?_ ?_); (focus first | omega | (simp; done) | (simp; omega) | ((repeat' (with_reducible refine And.intro ?_ ?_)) <;> first | omega | rfl | (simp only [go_sem, refsL_app, refs_dmap] <;> fail) | (simp [refsL_app, refs_dmap, AV.refsL, AV.refs] <;> omega)))) | ((with_reducible first | apply hK | (clear hK K; first | apply hK | (clear hK K; apply hK))); clear hK K) | fail)
    refine res_tmp rfl (by simp [D.plain, plains]) (by simp) ?_
    simp [hasZ, g1, g2, g3]
   ·
    rw [g3] at e3
    simp only [if_true] at e3
    refine fn_go Try.func38 rfl rfl Try.ntmps38 Try.results38 (by simp only [slo, Nat.reduceAdd]; rfl) (by simp) ?_
    repeat' (first | (with_reducible first | refine aw_seq fun K hK => ?_ | refine aw_region (by kernel_rfl) ?_) | ((with_reducible refine evg ?_); simp only [go_sem, ↓reduceIte, Nat.reduceEqDiff, Nat.reduceBEq, Nat.reduceAdd, Nat.reduceMul, Nat.reduceSub, Nat.reduceLT, Nat.reduceLeDiff]) | (simp (disch := omega) only [dsq, Int.reduceSub, Int.reduceAdd, Int.reduceToNat, getD_nat, wru, e3]) | ((with_reducible refine ev_call ?_); (first | (refine call_fn e1 rfl ?_) | (refine call_fn e2 rfl ?_)); refine k_run ?_) | ((with_reducible refine ev_guard ?_); (with_reducible first | refine guard_t ?_ ?_ rfl | refine guard_f ?_ ?_ rfl) <;> (intro h; (try simp only [h]); (try simp only [nrm] at h) <;> (try ((with_reducible exfalso); omega)))) | ((with_reducible refine And.intro ?_ ?_); (focus first | omega | (simp; done) | (simp; omega) | ((repeat' (with_reducible refine And.intro ?_ ?_)) <;> first | omega | rfl | (simp only [go_sem, refsL_app, refs_dmap] <;> fail) | (simp [refsL_app, refs_dmap, AV.refsL, AV.refs] <;> omega)))) | ((with_reducible first | apply hK | (clear hK K; first | apply hK | (clear hK K; apply hK))); clear hK K) | fail)
    refine res_tmp rfl (by simp [D.plain, plains]) (by simp) ?_
    simp [hasZ, g1, g2, g3]

def cellsOk (v : Int) (y n : Nat) : Bool := (List.range n).all fun x => !(v.toNat.testBit x) || inSh x y

theorem okRow_cells {v : Int} {y : Nat} (h : inR v 0 1048575 = true) : okRow y v = cellsOk v y 20 := by
 rw [inR_iff] at h
 obtain ⟨n, rfl⟩ := Int.eq_ofNat_of_zero_le h.1
 have hn : n < 2 ^ 20 := by omega
 rw [okRow, decide_eq_true h.1, Bool.true_and, Int.toNat_natCast]
 cases hc : cellsOk (n : Int) y 20
 ·
  rw [beq_eq_false_iff_ne]
  intro e
  simp only [cellsOk, List.all_eq_false, List.mem_range, Int.toNat_natCast] at hc
  obtain ⟨x, hx, hb⟩ := hc
  have := congrArg (fun k => k.testBit x) e
  simp only [Nat.testBit_and, rowN_bit, cellP, Bool.and_true] at this
  cases h1 : n.testBit x <;> cases h2 : inSh x y <;> simp_all
 ·
  rw [beq_iff_eq]
  simp only [cellsOk, List.all_eq_true, List.mem_range, Int.toNat_natCast] at hc
  apply Nat.eq_of_testBit_eq
  intro x
  simp only [Nat.testBit_and, rowN_bit, cellP, Bool.and_true]
  by_cases hx : x < 20
  ·
   have := hc x hx
   cases h1 : n.testBit x <;> cases h2 : inSh x y <;> simp_all
  ·
   have : n.testBit x = false := Nat.testBit_lt_two_pow (Nat.lt_of_lt_of_le hn (Nat.pow_le_pow_right (by decide) (by omega)))
   simp [this]

theorem okRow_out {v : Int} {y : Nat} (h : inR v 0 1048575 = false) : okRow y v = false := by
 cases hc : okRow y v
 · rfl
 ·
  simp only [okRow, Bool.and_eq_true, decide_eq_true_eq, beq_iff_eq] at hc
  have h1 := rowN_lt (cellP (fun _ _ => true) y) 20
  have h2 : v.toNat <= rowN (cellP (fun _ _ => true) y) 20 := by
   rw [← hc.2]
   exact Nat.and_le_right
  have : inR v 0 1048575 = true := inR_iff.2 (by omega)
  rw [this] at h
  cases h

theorem cellsOk_succ {v : Int} {y n : Nat} : cellsOk v y (n + 1) = (cellsOk v y n && (!(v.toNat.testBit n) || inSh n y)) := by
 simp [cellsOk, List.range_succ]

theorem l9Good_fn (zs : List Int) (hl : zs.length <= 9223372036854775807) : FnD Try.prog 42 [.ag [intL zs]] (.bool (okReg zs)) := by
 refine fn_go Try.func42 rfl rfl Try.ntmps42 Try.results42 (by simp only [slo, Nat.reduceAdd]; rfl) (by simp) ?_
 repeat' (first | (with_reducible first | refine aw_seq fun K hK => ?_ | refine aw_region (by kernel_rfl) ?_ | refine aw_condk ?_ | refine aw_block ?_) | ((with_reducible refine evg ?_); simp only [go_sem, ↓reduceIte, Nat.reduceEqDiff, Nat.reduceBEq, Nat.reduceAdd, Nat.reduceMul, Nat.reduceSub, Nat.reduceLT, Nat.reduceLeDiff]) | ((with_reducible refine ev_guard ?_); (with_reducible first | refine guard_t ?_ ?_ rfl | refine guard_f ?_ ?_ rfl) <;> (intro h; (try simp only [h]); (try simp only [nrm] at h))) | ((with_reducible refine ck_split (fun h => ?_) (fun h => ?_)) <;> (try simp only [nrm] at h)) | ((with_reducible refine And.intro ?_ ?_); (focus first | omega | (simp; done) | (simp; omega) | ((repeat' (with_reducible refine And.intro ?_ ?_)) <;> first | omega | rfl | (simp only [go_sem, refsL_app, refs_dmap] <;> fail) | (simp [refsL_app, refs_dmap, AV.refsL, AV.refs] <;> omega)))) | ((with_reducible first | apply hK | (clear hK K; first | apply hK | (clear hK K; apply hK))); clear hK K) | (simp (disch := omega) only [dsq, Int.reduceSub, Int.reduceAdd, Int.reduceToNat]) | fail)
 ·
  refine res_tmp rfl (by simp [D.plain, plains]) (by simp) ?_
  have : ¬ zs.length = 24 := by omega
  simp [okReg, this]
 ·
  have hlen : zs.length = 24 := by omega
  refine aw_loopU [2, 3, 4, 9, 10, 11, 12, 13, 14, 15, 16, 17, 18, 19, 20, 21, 22, 23, 24, 25, 26, 27, 28, 29, 30, 31, 32, 33] [18, 27, 31] (fun i : Nat => [(3, .d (.int i))]) (fun _ => []) (fun i => i <= 24 /\ ((List.range i).all fun y => okRow y (zs.getD y 0)) = true) (fun i => 24 - i) 0 ⟨by omega, rfl⟩ ?_ ?_
  · (refine lessW_of [] rfl ?_ <;> simp only [lsq, lookO, List.elem, List.cons_append, List.nil_append, cond_true, cond_false, and_true, true_and, beq_self_eq_true, ↓reduceIte, Nat.reduceEqDiff, Nat.reduceBEq, Nat.reduceAdd, Nat.reduceMul, Nat.reduceSub, Nat.reduceLT, Nat.reduceLeDiff] <;> try simp)
  ·
   rintro i ⟨g1, g2⟩
   simp only [St.upd, dropS, dropOs, List.elem, List.cons_append, List.nil_append, cond_true, cond_false, beq_self_eq_true, ↓reduceIte, Nat.reduceEqDiff, Nat.reduceBEq, Nat.reduceAdd, Nat.reduceMul, Nat.reduceSub, Nat.reduceLT, Nat.reduceLeDiff]
   have hnot : i < 24 -> okRow i (zs.getD i 0) = false -> okReg zs = false := fun h1 h2 => by
    have : ((List.range 24).all fun y => okRow y (zs.getD y 0)) = false := by
     rw [List.all_eq_false]
     exact ⟨i, List.mem_range.2 h1, by rw [h2]; simp⟩
    simp only [okReg, this, Bool.and_false]
   have hyes : i < 24 -> okRow i (zs.getD i 0) = true -> ((List.range (i + 1)).all fun y => okRow y (zs.getD y 0)) = true := fun h1 h2 => by
    rw [List.range_succ, List.all_append, g2, Bool.true_and, List.all_cons, h2]
    rfl
   have hdone : i = 24 -> okReg zs = true := fun e => by
    rw [e] at g2
    rw [okReg, g2, decide_eq_true hlen]
    rfl
   have e1 := l1In_fn (zs.getD i 0) 0 1048575
   cases g3 : inR (zs.getD i 0) 0 1048575
   ·
    rw [g3] at e1
    repeat' (first | (with_reducible first | refine aw_seq fun K hK => ?_ | refine aw_region (by kernel_rfl) ?_ | refine aw_condk ?_ | refine aw_block ?_) | ((with_reducible refine evg ?_); simp only [go_sem, ↓reduceIte, Nat.reduceEqDiff, Nat.reduceBEq, Nat.reduceAdd, Nat.reduceMul, Nat.reduceSub, Nat.reduceLT, Nat.reduceLeDiff]) | (simp (disch := omega) only [dsq, Int.reduceSub, Int.reduceAdd, Int.reduceToNat, getD_nat]) | ((with_reducible refine ev_call ?_); (first | (refine call_fn e1 rfl ?_)); refine k_run ?_) | ((with_reducible refine ev_guard ?_); (with_reducible first | refine guard_t ?_ ?_ rfl | refine guard_f ?_ ?_ rfl) <;> (intro h; (try simp only [h]); (try simp only [nrm] at h) <;> (try ((with_reducible exfalso); omega)))) | ((with_reducible refine ck_split (fun h => ?_) (fun h => ?_)) <;> (try simp only [nrm] at h) <;> (try ((with_reducible exfalso); omega))) | ((with_reducible refine And.intro ?_ ?_); (focus first | omega | (simp; done) | (simp; omega) | ((repeat' (with_reducible refine And.intro ?_ ?_)) <;> first | omega | rfl | (simp only [go_sem, refsL_app, refs_dmap] <;> fail) | (simp [refsL_app, refs_dmap, AV.refsL, AV.refs] <;> omega)))) | ((with_reducible first | apply hK | (clear hK K; first | apply hK | (clear hK K; apply hK))); clear hK K) | fail)
    ·
     refine res_tmp rfl (by simp [D.plain, plains]) (by simp) ?_
     rw [hnot (by omega) (okRow_out g3)]
    ·
     refine res_tmp rfl (by simp [D.plain, plains]) (by simp) ?_
     rw [hdone (by omega)]
   ·
    rw [g3] at e1
    have q3 := inR_iff.1 g3
    repeat' (first | (with_reducible first | refine aw_seq fun K hK => ?_ | refine aw_region (by kernel_rfl) ?_ | refine aw_condk ?_ | refine aw_block ?_) | ((with_reducible refine evg ?_); simp only [go_sem, ↓reduceIte, Nat.reduceEqDiff, Nat.reduceBEq, Nat.reduceAdd, Nat.reduceMul, Nat.reduceSub, Nat.reduceLT, Nat.reduceLeDiff]) | (simp (disch := omega) only [dsq, Int.reduceSub, Int.reduceAdd, Int.reduceToNat, getD_nat]) | ((with_reducible refine ev_call ?_); (first | (refine call_fn e1 rfl ?_)); refine k_run ?_) | ((with_reducible refine ev_guard ?_); (with_reducible first | refine guard_t ?_ ?_ rfl | refine guard_f ?_ ?_ rfl) <;> (intro h; (try simp only [h]); (try simp only [nrm] at h) <;> (try ((with_reducible exfalso); omega)))) | ((with_reducible refine ck_split (fun h => ?_) (fun h => ?_)) <;> (try simp only [nrm] at h) <;> (try ((with_reducible exfalso); omega))) | ((with_reducible refine And.intro ?_ ?_); (focus first | omega | (simp; done) | (simp; omega) | ((repeat' (with_reducible refine And.intro ?_ ?_)) <;> first | omega | rfl | (simp only [go_sem, refsL_app, refs_dmap] <;> fail) | (simp [refsL_app, refs_dmap, AV.refsL, AV.refs] <;> omega)))) | ((with_reducible first | apply hK | (clear hK K; first | apply hK | (clear hK K; apply hK))); clear hK K) | fail)
    ·
     refine aw_loopU [2, 4, 20, 21, 22, 23, 24, 25, 26, 27, 28, 29, 30, 31, 32, 33] [27, 31] (fun x : Nat => [(4, .d (.int x))]) (fun _ => []) (fun x => x <= 20 /\ cellsOk (zs.getD i 0) i x = true) (fun x => 20 - x) 0 ⟨by omega, rfl⟩ ?_ ?_
     · (refine lessW_of [] rfl ?_ <;> simp only [lsq, lookO, List.elem, List.cons_append, List.nil_append, cond_true, cond_false, and_true, true_and, beq_self_eq_true, ↓reduceIte, Nat.reduceEqDiff, Nat.reduceBEq, Nat.reduceAdd, Nat.reduceMul, Nat.reduceSub, Nat.reduceLT, Nat.reduceLeDiff] <;> try simp)
     ·
      rintro x ⟨x1, x2⟩
      simp only [St.upd, dropS, dropOs, List.elem, List.cons_append, List.nil_append, cond_true, cond_false, beq_self_eq_true, ↓reduceIte, Nat.reduceEqDiff, Nat.reduceBEq, Nat.reduceAdd, Nat.reduceMul, Nat.reduceSub, Nat.reduceLT, Nat.reduceLeDiff]
      have e2 := l9Has_fn zs x i hlen (fun _ => by rw [Int.toNat_natCast]; omega)
      have e3 := l9In_fn x i
      by_cases hx : x < 20
      ·
       have eb : hasZ zs x i = (zs.getD i 0).toNat.testBit x := by
        rw [hasZ, inR_iff.2 (by omega), inR_iff.2 (by omega), bitZ, Int.toNat_natCast, Int.toNat_natCast]
        rfl
       rw [eb] at e2
       cases g4 : (zs.getD i 0).toNat.testBit x
       ·
        rw [g4] at e2
        repeat' (first | (with_reducible first | refine aw_seq fun K hK => ?_ | refine aw_region (by kernel_rfl) ?_ | refine aw_condk ?_ | refine aw_block ?_) | ((with_reducible refine evg ?_); simp only [go_sem, ↓reduceIte, Nat.reduceEqDiff, Nat.reduceBEq, Nat.reduceAdd, Nat.reduceMul, Nat.reduceSub, Nat.reduceLT, Nat.reduceLeDiff]) | (simp (disch := omega) only [dsq, Int.reduceSub, Int.reduceAdd, Int.reduceToNat, wru]) | ((with_reducible refine ev_call ?_); (first | (refine call_fn e2 rfl ?_)); refine k_run ?_) | ((with_reducible refine ev_guard ?_); (with_reducible first | refine guard_t ?_ ?_ rfl | refine guard_f ?_ ?_ rfl) <;> (intro h; (try simp only [h]); (try simp only [nrm] at h) <;> (try ((with_reducible exfalso); omega)))) | ((with_reducible refine ck_split (fun h => ?_) (fun h => ?_)) <;> (try simp only [nrm] at h) <;> (try ((with_reducible exfalso); omega))) | ((with_reducible refine And.intro ?_ ?_); (focus first | omega | (simp; done) | (simp; omega) | ((repeat' (with_reducible refine And.intro ?_ ?_)) <;> first | omega | rfl | (simp only [go_sem, refsL_app, refs_dmap] <;> fail) | (simp [refsL_app, refs_dmap, AV.refsL, AV.refs] <;> omega)))) | ((with_reducible first | apply hK | (clear hK K; first | apply hK | (clear hK K; apply hK))); clear hK K) | fail)
        exact ⟨x + 1, ⟨by omega, by rw [cellsOk_succ, x2, g4]; rfl⟩, by omega, by (refine lessW_of [] rfl ?_ <;> simp only [lsq, lookO, List.elem, List.cons_append, List.nil_append, cond_true, cond_false, and_true, true_and, beq_self_eq_true, ↓reduceIte, Nat.reduceEqDiff, Nat.reduceBEq, Nat.reduceAdd, Nat.reduceMul, Nat.reduceSub, Nat.reduceLT, Nat.reduceLeDiff] <;> try simp)⟩
       ·
        rw [g4] at e2
        cases g5 : inSh x i
        ·
         rw [g5] at e3
         repeat' (first | (with_reducible first | refine aw_seq fun K hK => ?_ | refine aw_region (by kernel_rfl) ?_ | refine aw_condk ?_ | refine aw_block ?_) | ((with_reducible refine evg ?_); simp only [go_sem, ↓reduceIte, Nat.reduceEqDiff, Nat.reduceBEq, Nat.reduceAdd, Nat.reduceMul, Nat.reduceSub, Nat.reduceLT, Nat.reduceLeDiff]) | (simp (disch := omega) only [dsq, Int.reduceSub, Int.reduceAdd, Int.reduceToNat, wru]) | ((with_reducible refine ev_call ?_); (first | (refine call_fn e2 rfl ?_) | (refine call_fn e3 rfl ?_)); refine k_run ?_) | ((with_reducible refine ev_guard ?_); (with_reducible first | refine guard_t ?_ ?_ rfl | refine guard_f ?_ ?_ rfl) <;> (intro h; (try simp only [h]); (try simp only [nrm] at h) <;> (try ((with_reducible exfalso); omega)))) | ((with_reducible refine ck_split (fun h => ?_) (fun h => ?_)) <;> (try simp only [nrm] at h) <;> (try ((with_reducible exfalso); omega))) | ((with_reducible refine And.intro ?_ ?_); (focus first | omega | (simp; done) | (simp; omega) | ((repeat' (with_reducible refine And.intro ?_ ?_)) <;> first | omega | rfl | (simp only [go_sem, refsL_app, refs_dmap] <;> fail) | (simp [refsL_app, refs_dmap, AV.refsL, AV.refs] <;> omega)))) | ((with_reducible first | apply hK | (clear hK K; first | apply hK | (clear hK K; apply hK))); clear hK K) | fail)
         refine res_tmp rfl (by simp [D.plain, plains]) (by simp) ?_
         rw [hnot (by omega)]
         rw [okRow_cells g3, cellsOk, List.all_eq_false]
         exact ⟨x, List.mem_range.2 hx, by rw [g4, g5]; simp⟩
        ·
         rw [g5] at e3
         repeat' (first | (with_reducible first | refine aw_seq fun K hK => ?_ | refine aw_region (by kernel_rfl) ?_ | refine aw_condk ?_ | refine aw_block ?_) | ((with_reducible refine evg ?_); simp only [go_sem, ↓reduceIte, Nat.reduceEqDiff, Nat.reduceBEq, Nat.reduceAdd, Nat.reduceMul, Nat.reduceSub, Nat.reduceLT, Nat.reduceLeDiff]) | (simp (disch := omega) only [dsq, Int.reduceSub, Int.reduceAdd, Int.reduceToNat, wru]) | ((with_reducible refine ev_call ?_); (first | (refine call_fn e2 rfl ?_) | (refine call_fn e3 rfl ?_)); refine k_run ?_) | ((with_reducible refine ev_guard ?_); (with_reducible first | refine guard_t ?_ ?_ rfl | refine guard_f ?_ ?_ rfl) <;> (intro h; (try simp only [h]); (try simp only [nrm] at h) <;> (try ((with_reducible exfalso); omega)))) | ((with_reducible refine ck_split (fun h => ?_) (fun h => ?_)) <;> (try simp only [nrm] at h) <;> (try ((with_reducible exfalso); omega))) | ((with_reducible refine And.intro ?_ ?_); (focus first | omega | (simp; done) | (simp; omega) | ((repeat' (with_reducible refine And.intro ?_ ?_)) <;> first | omega | rfl | (simp only [go_sem, refsL_app, refs_dmap] <;> fail) | (simp [refsL_app, refs_dmap, AV.refsL, AV.refs] <;> omega)))) | ((with_reducible first | apply hK | (clear hK K; first | apply hK | (clear hK K; apply hK))); clear hK K) | fail)
         exact ⟨x + 1, ⟨by omega, by rw [cellsOk_succ, x2, g5]; simp⟩, by omega, by (refine lessW_of [] rfl ?_ <;> simp only [lsq, lookO, List.elem, List.cons_append, List.nil_append, cond_true, cond_false, and_true, true_and, beq_self_eq_true, ↓reduceIte, Nat.reduceEqDiff, Nat.reduceBEq, Nat.reduceAdd, Nat.reduceMul, Nat.reduceSub, Nat.reduceLT, Nat.reduceLeDiff] <;> try simp)⟩
      ·
       have e : x = 20 := by omega
       subst e
       repeat' (first | (with_reducible first | refine aw_seq fun K hK => ?_ | refine aw_region (by kernel_rfl) ?_ | refine aw_condk ?_ | refine aw_block ?_) | ((with_reducible refine evg ?_); simp only [go_sem, ↓reduceIte, Nat.reduceEqDiff, Nat.reduceBEq, Nat.reduceAdd, Nat.reduceMul, Nat.reduceSub, Nat.reduceLT, Nat.reduceLeDiff]) | (simp (disch := omega) only [dsq, Int.reduceSub, Int.reduceAdd, Int.reduceToNat, wru]) | ((with_reducible refine ev_guard ?_); (with_reducible first | refine guard_t ?_ ?_ rfl | refine guard_f ?_ ?_ rfl) <;> (intro h; (try simp only [h]); (try simp only [nrm] at h) <;> (try ((with_reducible exfalso); omega)))) | ((with_reducible refine ck_split (fun h => ?_) (fun h => ?_)) <;> (try simp only [nrm] at h) <;> (try ((with_reducible exfalso); omega))) | ((with_reducible refine And.intro ?_ ?_); (focus first | omega | (simp; done) | (simp; omega) | ((repeat' (with_reducible refine And.intro ?_ ?_)) <;> first | omega | rfl | (simp only [go_sem, refsL_app, refs_dmap] <;> fail) | (simp [refsL_app, refs_dmap, AV.refsL, AV.refs] <;> omega)))) | ((with_reducible first | apply hK | (clear hK K; first | apply hK | (clear hK K; apply hK))); clear hK K) | fail)
       exact ⟨i + 1, ⟨by omega, hyes (by omega) (by rw [okRow_cells g3, x2])⟩, by omega, by (refine lessW_of [] rfl ?_ <;> simp only [lsq, lookO, List.elem, List.cons_append, List.nil_append, cond_true, cond_false, and_true, true_and, beq_self_eq_true, ↓reduceIte, Nat.reduceEqDiff, Nat.reduceBEq, Nat.reduceAdd, Nat.reduceMul, Nat.reduceSub, Nat.reduceLT, Nat.reduceLeDiff] <;> try simp)⟩
    ·
     refine res_tmp rfl (by simp [D.plain, plains]) (by simp) ?_
     rw [hdone (by omega)]

end Go.Proofs.Ytjbifidphckjoaa
