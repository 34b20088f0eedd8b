/- Lines and the parts of fields, cell by cell. -/
import Derived.Test.YtjbifidphckjoaaGrid4
import Derived.Test.YtjbifidphckjoaaFieldText
import Derived.WalkKit
import Derived.WalkSpells
import Derived.KernelRfl
namespace Go.Proofs.Ytjbifidphckjoaa
open Go.RowKit
set_option maxRecDepth 100000
set_option maxHeartbeats 4000000
set_option linter.unusedVariables false
set_option linter.unusedSimpArgs false

attribute [local go_sem] intL

attribute [local simp] ints_plain ints_all ints_all1 ints_plain_take

def offL : Nat -> List Int
 | 1 => [0, 1, 1, 0]
 | 2 => [0, 1, 1, 0, 0, -1, -1, 0]
 | 3 => [0, 0, 2, 2]
 | 4 => [0, 1, 2, 1]
 | _ => [0]

def off (l t : Nat) : Int := (offL l).getD (t % (offL l).length) 0

theorem offL_len (l : Nat) : 0 < (offL l).length /\ (offL l).length <= 8 := by
 unfold offL
 split <;> decide

theorem offL_in (l : Nat) : ∀ z ∈ offL l, -1 <= z /\ z <= 2 := by
 unfold offL
 split <;> decide

theorem off_in (l t : Nat) : -1 <= off l t /\ off l t <= 2 := offL_in l _ (getD_mem 0 (Nat.mod_lt _ (offL_len l).1))

theorem offsets_fn (l : Nat) (h : l < 5) : FnD Try.prog 111 [.int l] (intL (offL l)) := by
 rcases (show l = 0 ∨ l = 1 ∨ l = 2 ∨ l = 3 ∨ l = 4 by omega) with rfl | rfl | rfl | rfl | rfl
 ·
  show FnD Try.prog 111 [.int 0] (intL [0])
  refine fn_go Try.func111 rfl rfl Try.ntmps111 Try.results111 (by simp only [slo, Nat.reduceAdd]; rfl) (by simp) ?_
  repeat' (first | (with_reducible first | refine aw_seq fun K hK => ?_ | refine aw_region (by kernel_rfl) ?_) | ((with_reducible refine evg ?_); simp only [go_sem, ↓reduceIte, Nat.reduceEqDiff, Nat.reduceBEq, Nat.reduceAdd, Nat.reduceMul, Nat.reduceSub, Nat.reduceLT, Nat.reduceLeDiff]) | (simp (disch := omega) only [dsq, Int.reduceSub, Int.reduceAdd, Int.reduceToNat]) | ((with_reducible refine And.intro ?_ ?_); (focus first | omega | (simp; done) | (simp; omega) | ((repeat' (with_reducible refine And.intro ?_ ?_)) <;> first | omega | rfl | (simp only [go_sem, refsL_app, refs_dmap] <;> fail) | (simp [refsL_app, refs_dmap, AV.refsL, AV.refs] <;> omega)))) | ((with_reducible first | apply hK | (clear hK K; first | apply hK | (clear hK K; apply hK))); clear hK K) | fail)
  refine res_tmp rfl (by simp [D.plain, plains]) (by simp) ?_
  rfl
 ·
  show FnD Try.prog 111 [.int 1] (intL [0, 1, 1, 0])
  refine fn_go Try.func111 rfl rfl Try.ntmps111 Try.results111 (by simp only [slo, Nat.reduceAdd]; rfl) (by simp) ?_
  repeat' (first | (with_reducible first | refine aw_seq fun K hK => ?_ | refine aw_region (by kernel_rfl) ?_) | ((with_reducible refine evg ?_); simp only [go_sem, ↓reduceIte, Nat.reduceEqDiff, Nat.reduceBEq, Nat.reduceAdd, Nat.reduceMul, Nat.reduceSub, Nat.reduceLT, Nat.reduceLeDiff]) | (simp (disch := omega) only [dsq, Int.reduceSub, Int.reduceAdd, Int.reduceToNat]) | ((with_reducible refine And.intro ?_ ?_); (focus first | omega | (simp; done) | (simp; omega) | ((repeat' (with_reducible refine And.intro ?_ ?_)) <;> first | omega | rfl | (simp only [go_sem, refsL_app, refs_dmap] <;> fail) | (simp [refsL_app, refs_dmap, AV.refsL, AV.refs] <;> omega)))) | ((with_reducible first | apply hK | (clear hK K; first | apply hK | (clear hK K; apply hK))); clear hK K) | fail)
  refine res_tmp rfl (by simp [D.plain, plains]) (by simp) ?_
  rfl
 ·
  show FnD Try.prog 111 [.int 2] (intL [0, 1, 1, 0, 0, -1, -1, 0])
  refine fn_go Try.func111 rfl rfl Try.ntmps111 Try.results111 (by simp only [slo, Nat.reduceAdd]; rfl) (by simp) ?_
  repeat' (first | (with_reducible first | refine aw_seq fun K hK => ?_ | refine aw_region (by kernel_rfl) ?_) | ((with_reducible refine evg ?_); simp only [go_sem, ↓reduceIte, Nat.reduceEqDiff, Nat.reduceBEq, Nat.reduceAdd, Nat.reduceMul, Nat.reduceSub, Nat.reduceLT, Nat.reduceLeDiff]) | (simp (disch := omega) only [dsq, Int.reduceSub, Int.reduceAdd, Int.reduceToNat]) | ((with_reducible refine And.intro ?_ ?_); (focus first | omega | (simp; done) | (simp; omega) | ((repeat' (with_reducible refine And.intro ?_ ?_)) <;> first | omega | rfl | (simp only [go_sem, refsL_app, refs_dmap] <;> fail) | (simp [refsL_app, refs_dmap, AV.refsL, AV.refs] <;> omega)))) | ((with_reducible first | apply hK | (clear hK K; first | apply hK | (clear hK K; apply hK))); clear hK K) | fail)
  refine res_tmp rfl (by simp [D.plain, plains]) (by simp) ?_
  rfl
 ·
  show FnD Try.prog 111 [.int 3] (intL [0, 0, 2, 2])
  refine fn_go Try.func111 rfl rfl Try.ntmps111 Try.results111 (by simp only [slo, Nat.reduceAdd]; rfl) (by simp) ?_
  repeat' (first | (with_reducible first | refine aw_seq fun K hK => ?_ | refine aw_region (by kernel_rfl) ?_) | ((with_reducible refine evg ?_); simp only [go_sem, ↓reduceIte, Nat.reduceEqDiff, Nat.reduceBEq, Nat.reduceAdd, Nat.reduceMul, Nat.reduceSub, Nat.reduceLT, Nat.reduceLeDiff]) | (simp (disch := omega) only [dsq, Int.reduceSub, Int.reduceAdd, Int.reduceToNat]) | ((with_reducible refine And.intro ?_ ?_); (focus first | omega | (simp; done) | (simp; omega) | ((repeat' (with_reducible refine And.intro ?_ ?_)) <;> first | omega | rfl | (simp only [go_sem, refsL_app, refs_dmap] <;> fail) | (simp [refsL_app, refs_dmap, AV.refsL, AV.refs] <;> omega)))) | ((with_reducible first | apply hK | (clear hK K; first | apply hK | (clear hK K; apply hK))); clear hK K) | fail)
  refine res_tmp rfl (by simp [D.plain, plains]) (by simp) ?_
  rfl
 ·
  show FnD Try.prog 111 [.int 4] (intL [0, 1, 2, 1])
  refine fn_go Try.func111 rfl rfl Try.ntmps111 Try.results111 (by simp only [slo, Nat.reduceAdd]; rfl) (by simp) ?_
  repeat' (first | (with_reducible first | refine aw_seq fun K hK => ?_ | refine aw_region (by kernel_rfl) ?_) | ((with_reducible refine evg ?_); simp only [go_sem, ↓reduceIte, Nat.reduceEqDiff, Nat.reduceBEq, Nat.reduceAdd, Nat.reduceMul, Nat.reduceSub, Nat.reduceLT, Nat.reduceLeDiff]) | (simp (disch := omega) only [dsq, Int.reduceSub, Int.reduceAdd, Int.reduceToNat]) | ((with_reducible refine And.intro ?_ ?_); (focus first | omega | (simp; done) | (simp; omega) | ((repeat' (with_reducible refine And.intro ?_ ?_)) <;> first | omega | rfl | (simp only [go_sem, refsL_app, refs_dmap] <;> fail) | (simp [refsL_app, refs_dmap, AV.refsL, AV.refs] <;> omega)))) | ((with_reducible first | apply hK | (clear hK K; first | apply hK | (clear hK K; apply hK))); clear hK K) | fail)
  refine res_tmp rfl (by simp [D.plain, plains]) (by simp) ?_
  rfl

theorem l10Offsets_0 (k : Int) (hk : k = 0) : FnD Try.prog 113 [.int k] (intL [0]) := by
 refine fn_go Try.func113 rfl rfl Try.ntmps113 Try.results113 (by simp only [slo, Nat.reduceAdd]; rfl) (by simp) ?_
 repeat' (first | (with_reducible first | refine aw_seq fun K hK => ?_ | refine aw_region (by kernel_rfl) ?_ | refine aw_condk ?_ | refine aw_block ?_) | ((with_reducible refine evg ?_); simp only [go_sem, ↓reduceIte, Nat.reduceEqDiff, Nat.reduceBEq, Nat.reduceAdd, Nat.reduceMul, Nat.reduceSub, Nat.reduceLT, Nat.reduceLeDiff]) | (simp (disch := omega) only [dsq, Int.reduceSub, Int.reduceAdd, Int.reduceToNat]) | ((with_reducible refine ck_split (fun h => ?_) (fun h => ?_)) <;> (try simp only [nrm] at h) <;> (try ((with_reducible exfalso); omega))) | ((with_reducible refine And.intro ?_ ?_); (focus first | omega | (simp; done) | (simp; omega) | ((repeat' (with_reducible refine And.intro ?_ ?_)) <;> first | omega | rfl | (simp only [go_sem, refsL_app, refs_dmap] <;> fail) | (simp [refsL_app, refs_dmap, AV.refsL, AV.refs] <;> omega)))) | ((with_reducible first | apply hK | (clear hK K; first | apply hK | (clear hK K; apply hK))); clear hK K) | fail)
 refine res_tmp rfl (by simp [D.plain, plains]) (by simp) ?_
 rfl

theorem l10Offsets_1 (k : Int) (hk : k = 1) : FnD Try.prog 113 [.int k] (intL [0, 1, 1, 0]) := by
 refine fn_go Try.func113 rfl rfl Try.ntmps113 Try.results113 (by simp only [slo, Nat.reduceAdd]; rfl) (by simp) ?_
 repeat' (first | (with_reducible first | refine aw_seq fun K hK => ?_ | refine aw_region (by kernel_rfl) ?_ | refine aw_condk ?_ | refine aw_block ?_) | ((with_reducible refine evg ?_); simp only [go_sem, ↓reduceIte, Nat.reduceEqDiff, Nat.reduceBEq, Nat.reduceAdd, Nat.reduceMul, Nat.reduceSub, Nat.reduceLT, Nat.reduceLeDiff]) | (simp (disch := omega) only [dsq, Int.reduceSub, Int.reduceAdd, Int.reduceToNat]) | ((with_reducible refine ck_split (fun h => ?_) (fun h => ?_)) <;> (try simp only [nrm] at h) <;> (try ((with_reducible exfalso); omega))) | ((with_reducible refine And.intro ?_ ?_); (focus first | omega | (simp; done) | (simp; omega) | ((repeat' (with_reducible refine And.intro ?_ ?_)) <;> first | omega | rfl | (simp only [go_sem, refsL_app, refs_dmap] <;> fail) | (simp [refsL_app, refs_dmap, AV.refsL, AV.refs] <;> omega)))) | ((with_reducible first | apply hK | (clear hK K; first | apply hK | (clear hK K; apply hK))); clear hK K) | fail)
 refine res_tmp rfl (by simp [D.plain, plains]) (by simp) ?_
 rfl

theorem l10Offsets_2 (k : Int) (hk : k = 2) : FnD Try.prog 113 [.int k] (intL [0, 1, 1, 0, 0, -1, -1, 0]) := by
 refine fn_go Try.func113 rfl rfl Try.ntmps113 Try.results113 (by simp only [slo, Nat.reduceAdd]; rfl) (by simp) ?_
 repeat' (first | (with_reducible first | refine aw_seq fun K hK => ?_ | refine aw_region (by kernel_rfl) ?_ | refine aw_condk ?_ | refine aw_block ?_) | ((with_reducible refine evg ?_); simp only [go_sem, ↓reduceIte, Nat.reduceEqDiff, Nat.reduceBEq, Nat.reduceAdd, Nat.reduceMul, Nat.reduceSub, Nat.reduceLT, Nat.reduceLeDiff]) | (simp (disch := omega) only [dsq, Int.reduceSub, Int.reduceAdd, Int.reduceToNat]) | ((with_reducible refine ck_split (fun h => ?_) (fun h => ?_)) <;> (try simp only [nrm] at h) <;> (try ((with_reducible exfalso); omega))) | ((with_reducible refine And.intro ?_ ?_); (focus first | omega | (simp; done) | (simp; omega) | ((repeat' (with_reducible refine And.intro ?_ ?_)) <;> first | omega | rfl | (simp only [go_sem, refsL_app, refs_dmap] <;> fail) | (simp [refsL_app, refs_dmap, AV.refsL, AV.refs] <;> omega)))) | ((with_reducible first | apply hK | (clear hK K; first | apply hK | (clear hK K; apply hK))); clear hK K) | fail)
 refine res_tmp rfl (by simp [D.plain, plains]) (by simp) ?_
 rfl

theorem l10Offsets_3 (k : Int) (hk : k = 3) : FnD Try.prog 113 [.int k] (intL [0, 0, 2, 2]) := by
 refine fn_go Try.func113 rfl rfl Try.ntmps113 Try.results113 (by simp only [slo, Nat.reduceAdd]; rfl) (by simp) ?_
 repeat' (first | (with_reducible first | refine aw_seq fun K hK => ?_ | refine aw_region (by kernel_rfl) ?_ | refine aw_condk ?_ | refine aw_block ?_) | ((with_reducible refine evg ?_); simp only [go_sem, ↓reduceIte, Nat.reduceEqDiff, Nat.reduceBEq, Nat.reduceAdd, Nat.reduceMul, Nat.reduceSub, Nat.reduceLT, Nat.reduceLeDiff]) | (simp (disch := omega) only [dsq, Int.reduceSub, Int.reduceAdd, Int.reduceToNat]) | ((with_reducible refine ck_split (fun h => ?_) (fun h => ?_)) <;> (try simp only [nrm] at h) <;> (try ((with_reducible exfalso); omega))) | ((with_reducible refine And.intro ?_ ?_); (focus first | omega | (simp; done) | (simp; omega) | ((repeat' (with_reducible refine And.intro ?_ ?_)) <;> first | omega | rfl | (simp only [go_sem, refsL_app, refs_dmap] <;> fail) | (simp [refsL_app, refs_dmap, AV.refsL, AV.refs] <;> omega)))) | ((with_reducible first | apply hK | (clear hK K; first | apply hK | (clear hK K; apply hK))); clear hK K) | fail)
 refine res_tmp rfl (by simp [D.plain, plains]) (by simp) ?_
 rfl

theorem l10Offsets_4 (k : Int) (hk : k = 4) : FnD Try.prog 113 [.int k] (intL [0, 1, 2, 1]) := by
 refine fn_go Try.func113 rfl rfl Try.ntmps113 Try.results113 (by simp only [slo, Nat.reduceAdd]; rfl) (by simp) ?_
 repeat' (first | (with_reducible first | refine aw_seq fun K hK => ?_ | refine aw_region (by kernel_rfl) ?_ | refine aw_condk ?_ | refine aw_block ?_) | ((with_reducible refine evg ?_); simp only [go_sem, ↓reduceIte, Nat.reduceEqDiff, Nat.reduceBEq, Nat.reduceAdd, Nat.reduceMul, Nat.reduceSub, Nat.reduceLT, Nat.reduceLeDiff]) | (simp (disch := omega) only [dsq, Int.reduceSub, Int.reduceAdd, Int.reduceToNat]) | ((with_reducible refine ck_split (fun h => ?_) (fun h => ?_)) <;> (try simp only [nrm] at h) <;> (try ((with_reducible exfalso); omega))) | ((with_reducible refine And.intro ?_ ?_); (focus first | omega | (simp; done) | (simp; omega) | ((repeat' (with_reducible refine And.intro ?_ ?_)) <;> first | omega | rfl | (simp only [go_sem, refsL_app, refs_dmap] <;> fail) | (simp [refsL_app, refs_dmap, AV.refsL, AV.refs] <;> omega)))) | ((with_reducible first | apply hK | (clear hK K; first | apply hK | (clear hK K; apply hK))); clear hK K) | fail)
 refine res_tmp rfl (by simp [D.plain, plains]) (by simp) ?_
 rfl

theorem l10Offsets_fn (l : Nat) (h : l < 5) : FnD Try.prog 113 [.int l] (intL (offL l)) := by
 rcases (show l = 0 ∨ l = 1 ∨ l = 2 ∨ l = 3 ∨ l = 4 by omega) with rfl | rfl | rfl | rfl | rfl
 · exact l10Offsets_0 _ rfl
 · exact l10Offsets_1 _ rfl
 · exact l10Offsets_2 _ rfl
 · exact l10Offsets_3 _ rfl
 · exact l10Offsets_4 _ rfl

theorem tmod_nat (a b : Nat) : (a : Int).tmod (b : Int) = ((a % b : Nat) : Int) := rfl

theorem offset_fn (l t : Nat) (h : l < 5) (ht : t <= 1000) : FnD Try.prog 94 [.int l, .int t] (.int (off l t)) := by
 have e1 := offsets_fn l h
 have h1 := offL_len l
 have h2 := Nat.mod_lt t h1.1
 have h3 : off l t = (offL l).getD (t % (offL l).length) 0 := rfl
 rw [h3]
 generalize offL l = L at *
 have h4 : ((L.map D.int)).length = L.length := by simp
 refine fn_go Try.func94 rfl rfl Try.ntmps94 Try.results94 (by simp only [slo, Nat.reduceAdd]; rfl) (by simp) ?_
 repeat' (first | (with_reducible first | refine aw_seq fun K hK => ?_ | refine aw_region (by kernel_rfl) ?_) | ((with_reducible refine evg ?_); simp only [go_sem, ↓reduceIte, Nat.reduceEqDiff, Nat.reduceBEq, Nat.reduceAdd, Nat.reduceMul, Nat.reduceSub, Nat.reduceLT, Nat.reduceLeDiff]) | (simp (disch := omega) only [dsq, Int.reduceSub, Int.reduceAdd, Int.reduceToNat, wr, tmod_nat, int_at]) | ((with_reducible refine ev_call ?_); (first | (refine call_fn e1 rfl ?_)); refine k_run ?_) | ((with_reducible refine And.intro ?_ ?_); (focus first | omega | (simp; done) | (simp; omega) | ((repeat' (with_reducible refine And.intro ?_ ?_)) <;> first | omega | rfl | (simp only [go_sem, refsL_app, refs_dmap] <;> fail) | (simp [refsL_app, refs_dmap, AV.refsL, AV.refs] <;> omega)))) | ((with_reducible first | apply hK | (clear hK K; first | apply hK | (clear hK K; apply hK))); clear hK K) | fail)
 refine res_tmp rfl (by simp [D.plain, plains]) (by simp) ?_
 rfl

theorem l10Offset_fn (l t : Nat) (h : l < 5) (ht : t <= 1000) : FnD Try.prog 107 [.int l, .int t] (.int (off l t)) := by
 have e1 := l10Offsets_fn l h
 have h1 := offL_len l
 have h2 := Nat.mod_lt t h1.1
 have h3 : off l t = (offL l).getD (t % (offL l).length) 0 := rfl
 rw [h3]
 generalize offL l = L at *
 have h4 : ((L.map D.int)).length = L.length := by simp
 refine fn_go Try.func107 rfl rfl Try.ntmps107 Try.results107 (by simp only [slo, Nat.reduceAdd]; rfl) (by simp) ?_
 repeat' (first | (with_reducible first | refine aw_seq fun K hK => ?_ | refine aw_region (by kernel_rfl) ?_) | ((with_reducible refine evg ?_); simp only [go_sem, ↓reduceIte, Nat.reduceEqDiff, Nat.reduceBEq, Nat.reduceAdd, Nat.reduceMul, Nat.reduceSub, Nat.reduceLT, Nat.reduceLeDiff]) | (simp (disch := omega) only [dsq, Int.reduceSub, Int.reduceAdd, Int.reduceToNat, wr, tmod_nat, int_at]) | ((with_reducible refine ev_call ?_); (first | (refine call_fn e1 rfl ?_)); refine k_run ?_) | ((with_reducible refine And.intro ?_ ?_); (focus first | omega | (simp; done) | (simp; omega) | ((repeat' (with_reducible refine And.intro ?_ ?_)) <;> first | omega | rfl | (simp only [go_sem, refsL_app, refs_dmap] <;> fail) | (simp [refsL_app, refs_dmap, AV.refsL, AV.refs] <;> omega)))) | ((with_reducible first | apply hK | (clear hK K; first | apply hK | (clear hK K; apply hK))); clear hK K) | fail)
 refine res_tmp rfl (by simp [D.plain, plains]) (by simp) ?_
 rfl

def fallZ (l x y : Nat) : Int := 24 * (2 * (x : Int) + 1) - 20 * (2 * (y : Int) + 1) - 40 * off l (x + y)

def riseZ (l x y : Nat) : Int := fallZ l (19 - x) y

theorem falling_fn (l x y : Nat) (h : l < 5) (hx : x < 20) (hy : y < 24) : FnD Try.prog 96 [.int l, .int x, .int y] (.int (fallZ l x y)) := by
 have e1 := offset_fn l (x + y) h (by omega)
 have h1 := off_in l (x + y)
 rw [show ((x + y : Nat) : Int) = (x : Int) + y by omega] at e1
 rw [fallZ]
 generalize off l (x + y) = o at *
 refine fn_go Try.func96 rfl rfl Try.ntmps96 Try.results96 (by simp only [slo, Nat.reduceAdd]; rfl) (by simp) ?_
 repeat' (first | (with_reducible first | refine aw_seq fun K hK => ?_ | refine aw_region (by kernel_rfl) ?_) | ((with_reducible refine evg ?_); simp only [go_sem, ↓reduceIte, Nat.reduceEqDiff, Nat.reduceBEq, Nat.reduceAdd, Nat.reduceMul, Nat.reduceSub, Nat.reduceLT, Nat.reduceLeDiff]) | (simp (disch := omega) only [dsq, Int.reduceSub, Int.reduceAdd, Int.reduceToNat]) | ((with_reducible refine ev_call ?_); (first | (refine call_fn e1 rfl ?_)); refine k_run ?_) | ((with_reducible refine And.intro ?_ ?_); (focus first | omega | (simp; done) | (simp; omega) | ((repeat' (with_reducible refine And.intro ?_ ?_)) <;> first | omega | rfl | (simp only [go_sem, refsL_app, refs_dmap] <;> fail) | (simp [refsL_app, refs_dmap, AV.refsL, AV.refs] <;> omega)))) | ((with_reducible first | apply hK | (clear hK K; first | apply hK | (clear hK K; apply hK))); clear hK K) | fail)
 refine res_tmp rfl (by simp [D.plain, plains]) (by simp) ?_
 rfl

theorem rising_fn (l x y : Nat) (h : l < 5) (hx : x < 20) (hy : y < 24) : FnD Try.prog 97 [.int l, .int x, .int y] (.int (riseZ l x y)) := by
 have e1 := offset_fn l (19 - x + y) h (by omega)
 have h1 := off_in l (19 - x + y)
 rw [show ((19 - x + y : Nat) : Int) = (19 - (x : Int)) + y by omega] at e1
 rw [riseZ, fallZ]
 generalize off l (19 - x + y) = o at *
 refine fn_go Try.func97 rfl rfl Try.ntmps97 Try.results97 (by simp only [slo, Nat.reduceAdd]; rfl) (by simp) ?_
 repeat' (first | (with_reducible first | refine aw_seq fun K hK => ?_ | refine aw_region (by kernel_rfl) ?_) | ((with_reducible refine evg ?_); simp only [go_sem, ↓reduceIte, Nat.reduceEqDiff, Nat.reduceBEq, Nat.reduceAdd, Nat.reduceMul, Nat.reduceSub, Nat.reduceLT, Nat.reduceLeDiff]) | (simp (disch := omega) only [dsq, Int.reduceSub, Int.reduceAdd, Int.reduceToNat]) | ((with_reducible refine ev_call ?_); (first | (refine call_fn e1 rfl ?_)); refine k_run ?_) | ((with_reducible refine And.intro ?_ ?_); (focus first | omega | (simp; done) | (simp; omega) | ((repeat' (with_reducible refine And.intro ?_ ?_)) <;> first | omega | rfl | (simp only [go_sem, refsL_app, refs_dmap] <;> fail) | (simp [refsL_app, refs_dmap, AV.refsL, AV.refs] <;> omega)))) | ((with_reducible first | apply hK | (clear hK K; first | apply hK | (clear hK K; apply hK))); clear hK K) | fail)
 refine res_tmp rfl (by simp [D.plain, plains]) (by simp) ?_
 congr 2
 omega

theorem l9Down_fn (x y : Nat) (hx : x < 20) (hy : y < 24) : FnD Try.prog 112 [.int x, .int y] (.int (24 * (2 * (x : Int) + 1) - 20 * (2 * (y : Int) + 1))) := by
 refine fn_go Try.func112 rfl rfl Try.ntmps112 Try.results112 (by simp only [slo, Nat.reduceAdd]; rfl) (by simp) ?_
 repeat' (first | (with_reducible first | refine aw_seq fun K hK => ?_ | refine aw_region (by kernel_rfl) ?_) | ((with_reducible refine evg ?_); simp only [go_sem, ↓reduceIte, Nat.reduceEqDiff, Nat.reduceBEq, Nat.reduceAdd, Nat.reduceMul, Nat.reduceSub, Nat.reduceLT, Nat.reduceLeDiff]) | (simp (disch := omega) only [dsq, Int.reduceSub, Int.reduceAdd, Int.reduceToNat]) | ((with_reducible refine And.intro ?_ ?_); (focus first | omega | (simp; done) | (simp; omega) | ((repeat' (with_reducible refine And.intro ?_ ?_)) <;> first | omega | rfl | (simp only [go_sem, refsL_app, refs_dmap] <;> fail) | (simp [refsL_app, refs_dmap, AV.refsL, AV.refs] <;> omega)))) | ((with_reducible first | apply hK | (clear hK K; first | apply hK | (clear hK K; apply hK))); clear hK K) | fail)
 refine res_tmp rfl (by simp [D.plain, plains]) (by simp) ?_
 rfl

theorem l10Down_fn (l x y : Nat) (h : l < 5) (hx : x < 20) (hy : y < 24) : FnD Try.prog 106 [.int l, .int x, .int y] (.int (fallZ l x y)) := by
 have e1 := l10Offset_fn l (x + y) h (by omega)
 have e2 := l9Down_fn x y hx hy
 have h1 := off_in l (x + y)
 rw [show ((x + y : Nat) : Int) = (x : Int) + y by omega] at e1
 rw [fallZ]
 generalize off l (x + y) = o at *
 refine fn_go Try.func106 rfl rfl Try.ntmps106 Try.results106 (by simp only [slo, Nat.reduceAdd]; rfl) (by simp) ?_
 repeat' (first | (with_reducible first | refine aw_seq fun K hK => ?_ | refine aw_region (by kernel_rfl) ?_) | ((with_reducible refine evg ?_); simp only [go_sem, ↓reduceIte, Nat.reduceEqDiff, Nat.reduceBEq, Nat.reduceAdd, Nat.reduceMul, Nat.reduceSub, Nat.reduceLT, Nat.reduceLeDiff]) | (simp (disch := omega) only [dsq, Int.reduceSub, Int.reduceAdd, Int.reduceToNat]) | ((with_reducible refine ev_call ?_); (first | (refine call_fn e1 rfl ?_) | (refine call_fn e2 rfl ?_)); refine k_run ?_) | ((with_reducible refine And.intro ?_ ?_); (focus first | omega | (simp; done) | (simp; omega) | ((repeat' (with_reducible refine And.intro ?_ ?_)) <;> first | omega | rfl | (simp only [go_sem, refsL_app, refs_dmap] <;> fail) | (simp [refsL_app, refs_dmap, AV.refsL, AV.refs] <;> omega)))) | ((with_reducible first | apply hK | (clear hK K; first | apply hK | (clear hK K; apply hK))); clear hK K) | fail)
 refine res_tmp rfl (by simp [D.plain, plains]) (by simp) ?_
 rfl

def cl (a m : Int) : Int := if a < 0 then 0 else if m < a then m else a

def firstZ (d : Int) (l x y : Nat) : Bool :=
 if d = 1 then decide ((x : Int) - off l y < 10) else if d = 2 then decide ((y : Int) - off l x < 12) else if d = 3 then decide (0 < fallZ l x y)
 else if d = 4 then (decide ((x : Int) - off l y < 10) == decide ((y : Int) - off l x < 12)) else if d = 5 then (decide (0 < fallZ l x y) == decide (0 < riseZ l x y))
 else if d = 6 then decide (((6 * cl ((x : Int) - off l y) 19).tdiv 20).tmod 2 = 0) else if d = 7 then decide (((cl ((y : Int) - off l x) 23).tdiv 4).tmod 2 = 0) else true

def partZ (d : Int) (l x y : Nat) : Int := if firstZ d l x y then 0 else 1

theorem clI (a m : Int) (hm : 0 <= m) : (if m < (if (0 : Int) > a then 0 else a) then m else (if (0 : Int) > a then 0 else a)) = cl a m := by
 unfold cl
 split <;> split <;> first | omega | (split <;> first | omega | (split <;> omega))

theorem cl_in (a m : Int) (hm : 0 <= m) : 0 <= cl a m /\ cl a m <= m := by
 unfold cl
 split
 · omega
 · split <;> omega

theorem number3_fn (b : Bool) : FnD Try.prog 99 [.bool b] (.int (if b then 1 else 0)) := by
 cases b
 all_goals
  refine fn_go Try.func99 rfl rfl Try.ntmps99 Try.results99 (by simp only [slo, Nat.reduceAdd]; rfl) (by simp) ?_
  repeat' (first | (with_reducible first | refine aw_seq fun K hK => ?_ | refine aw_region (by kernel_rfl) ?_ | refine aw_condk ?_) | ((with_reducible refine evg ?_); simp only [go_sem, ↓reduceIte, Nat.reduceEqDiff, Nat.reduceBEq, Nat.reduceAdd, Nat.reduceMul, Nat.reduceSub, Nat.reduceLT, Nat.reduceLeDiff]) | ((with_reducible refine ck_split (fun h => ?_) (fun h => ?_)) <;> (try simp only [nrm] at h)) | ((with_reducible refine And.intro ?_ ?_); (focus first | omega | (simp; done) | (simp; omega) | ((repeat' (with_reducible refine And.intro ?_ ?_)) <;> first | omega | rfl | (simp only [go_sem, refsL_app, refs_dmap] <;> fail) | (simp [refsL_app, refs_dmap, AV.refsL, AV.refs] <;> omega)))) | ((with_reducible first | apply hK | (clear hK K; first | apply hK | (clear hK K; apply hK))); clear hK K) | (simp (disch := omega) only [dsq, Int.reduceSub, Int.reduceAdd, Int.reduceToNat]) | fail)
  refine res_tmp rfl (by simp [D.plain, plains]) (by simp) ?_
  rfl

theorem partAt_fn (d : Int) (l x y : Nat) (hl : l < 5) (hx : x < 20) (hy : y < 24) : FnD Try.prog 78 [.int d, .int l, .int x, .int y] (.int (partZ d l x y)) := by
 have e1 := offset_fn l y hl (by omega)
 have e2 := offset_fn l x hl (by omega)
 have e3 := falling_fn l x y hl hx hy
 have e4 := rising_fn l x y hl hx hy
 have b1 := off_in l y
 have b2 := off_in l x
 have hp : ∀ b : Bool, firstZ d l x y = b -> partZ d l x y = if (!b) then 1 else 0 := fun b hb => by
  rw [partZ, hb]
  cases b <;> rfl
 have e5 : ∀ b : Bool, FnD Try.prog 99 [.bool b] (.int (if b then 1 else 0)) := number3_fn
 unfold firstZ at hp
 generalize partZ d l x y = z at *
 generalize off l y = p at *
 generalize off l x = q at *
 generalize fallZ l x y = u at *
 generalize riseZ l x y = v at *
 have c1 := cl_in ((x : Int) - p) 19 (by omega)
 have c2 := cl_in ((y : Int) - q) 23 (by omega)
 have w6 : 0 <= (6 * cl ((x : Int) - p) 19).tdiv 20 /\ (6 * cl ((x : Int) - p) 19).tdiv 20 <= 100 := by
  rw [Int.tdiv_eq_ediv_of_nonneg (by omega)]
  omega
 have w7 : 0 <= (cl ((y : Int) - q) 23).tdiv 4 /\ (cl ((y : Int) - q) 23).tdiv 4 <= 100 := by
  rw [Int.tdiv_eq_ediv_of_nonneg (by omega)]
  omega
 by_cases d1 : d = 1
 ·
  simp only [d1, if_true] at hp
  rw [hp _ rfl]
  refine fn_go Try.func78 rfl rfl Try.ntmps78 Try.results78 (by simp only [slo, Nat.reduceAdd]; rfl) (by simp) ?_
  repeat' (first | (with_reducible first | refine aw_seq fun K hK => ?_ | refine aw_region (by kernel_rfl) ?_ | refine aw_condk ?_ | refine aw_block ?_) | ((with_reducible refine evg ?_); simp only [go_sem, ↓reduceIte, Nat.reduceEqDiff, Nat.reduceBEq, Nat.reduceAdd, Nat.reduceMul, Nat.reduceSub, Nat.reduceLT, Nat.reduceLeDiff]) | (simp (disch := omega) only [dsq, Int.reduceSub, Int.reduceAdd, Int.reduceToNat]) | ((with_reducible refine ev_call ?_); (first | (refine call_fn e1 rfl ?_) | (refine call_fn e2 rfl ?_) | (refine call_fn e3 rfl ?_) | (refine call_fn e4 rfl ?_) | (refine call_fn (e5 _) rfl ?_)); refine k_run ?_) | ((with_reducible refine ck_split (fun h => ?_) (fun h => ?_)) <;> (try simp only [nrm] at h) <;> (try ((with_reducible exfalso); omega))) | ((with_reducible refine And.intro ?_ ?_); (focus first | omega | (simp; done) | (simp; omega) | ((repeat' (with_reducible refine And.intro ?_ ?_)) <;> first | omega | rfl | (simp only [go_sem, refsL_app, refs_dmap] <;> fail) | (simp [refsL_app, refs_dmap, AV.refsL, AV.refs] <;> omega)))) | ((with_reducible first | apply hK | (clear hK K; first | apply hK | (clear hK K; apply hK))); clear hK K) | fail)
  refine res_tmp rfl (by simp [D.plain, plains]) (by simp) ?_
  rfl
 by_cases d2 : d = 2
 ·
  simp only [d2, if_true, Int.reduceEq, if_false] at hp
  rw [hp _ rfl]
  refine fn_go Try.func78 rfl rfl Try.ntmps78 Try.results78 (by simp only [slo, Nat.reduceAdd]; rfl) (by simp) ?_
  repeat' (first | (with_reducible first | refine aw_seq fun K hK => ?_ | refine aw_region (by kernel_rfl) ?_ | refine aw_condk ?_ | refine aw_block ?_) | ((with_reducible refine evg ?_); simp only [go_sem, ↓reduceIte, Nat.reduceEqDiff, Nat.reduceBEq, Nat.reduceAdd, Nat.reduceMul, Nat.reduceSub, Nat.reduceLT, Nat.reduceLeDiff]) | (simp (disch := omega) only [dsq, Int.reduceSub, Int.reduceAdd, Int.reduceToNat]) | ((with_reducible refine ev_call ?_); (first | (refine call_fn e1 rfl ?_) | (refine call_fn e2 rfl ?_) | (refine call_fn e3 rfl ?_) | (refine call_fn e4 rfl ?_) | (refine call_fn (e5 _) rfl ?_)); refine k_run ?_) | ((with_reducible refine ck_split (fun h => ?_) (fun h => ?_)) <;> (try simp only [nrm] at h) <;> (try ((with_reducible exfalso); omega))) | ((with_reducible refine And.intro ?_ ?_); (focus first | omega | (simp; done) | (simp; omega) | ((repeat' (with_reducible refine And.intro ?_ ?_)) <;> first | omega | rfl | (simp only [go_sem, refsL_app, refs_dmap] <;> fail) | (simp [refsL_app, refs_dmap, AV.refsL, AV.refs] <;> omega)))) | ((with_reducible first | apply hK | (clear hK K; first | apply hK | (clear hK K; apply hK))); clear hK K) | fail)
  refine res_tmp rfl (by simp [D.plain, plains]) (by simp) ?_
  rfl
 by_cases d3 : d = 3
 ·
  simp only [d3, if_true, Int.reduceEq, if_false] at hp
  rw [hp _ rfl]
  refine fn_go Try.func78 rfl rfl Try.ntmps78 Try.results78 (by simp only [slo, Nat.reduceAdd]; rfl) (by simp) ?_
  repeat' (first | (with_reducible first | refine aw_seq fun K hK => ?_ | refine aw_region (by kernel_rfl) ?_ | refine aw_condk ?_ | refine aw_block ?_) | ((with_reducible refine evg ?_); simp only [go_sem, ↓reduceIte, Nat.reduceEqDiff, Nat.reduceBEq, Nat.reduceAdd, Nat.reduceMul, Nat.reduceSub, Nat.reduceLT, Nat.reduceLeDiff]) | (simp (disch := omega) only [dsq, Int.reduceSub, Int.reduceAdd, Int.reduceToNat]) | ((with_reducible refine ev_call ?_); (first | (refine call_fn e1 rfl ?_) | (refine call_fn e2 rfl ?_) | (refine call_fn e3 rfl ?_) | (refine call_fn e4 rfl ?_) | (refine call_fn (e5 _) rfl ?_)); refine k_run ?_) | ((with_reducible refine ck_split (fun h => ?_) (fun h => ?_)) <;> (try simp only [nrm] at h) <;> (try ((with_reducible exfalso); omega))) | ((with_reducible refine And.intro ?_ ?_); (focus first | omega | (simp; done) | (simp; omega) | ((repeat' (with_reducible refine And.intro ?_ ?_)) <;> first | omega | rfl | (simp only [go_sem, refsL_app, refs_dmap] <;> fail) | (simp [refsL_app, refs_dmap, AV.refsL, AV.refs] <;> omega)))) | ((with_reducible first | apply hK | (clear hK K; first | apply hK | (clear hK K; apply hK))); clear hK K) | fail)
  refine res_tmp rfl (by simp [D.plain, plains]) (by simp) ?_
  rfl
 by_cases d4 : d = 4
 ·
  simp only [d4, if_true, Int.reduceEq, if_false] at hp
  rw [hp _ rfl]
  refine fn_go Try.func78 rfl rfl Try.ntmps78 Try.results78 (by simp only [slo, Nat.reduceAdd]; rfl) (by simp) ?_
  repeat' (first | (with_reducible first | refine aw_seq fun K hK => ?_ | refine aw_region (by kernel_rfl) ?_ | refine aw_condk ?_ | refine aw_block ?_) | ((with_reducible refine evg ?_); simp only [go_sem, ↓reduceIte, Nat.reduceEqDiff, Nat.reduceBEq, Nat.reduceAdd, Nat.reduceMul, Nat.reduceSub, Nat.reduceLT, Nat.reduceLeDiff]) | (simp (disch := omega) only [dsq, Int.reduceSub, Int.reduceAdd, Int.reduceToNat]) | ((with_reducible refine ev_call ?_); (first | (refine call_fn e1 rfl ?_) | (refine call_fn e2 rfl ?_) | (refine call_fn e3 rfl ?_) | (refine call_fn e4 rfl ?_) | (refine call_fn (e5 _) rfl ?_)); refine k_run ?_) | ((with_reducible refine ck_split (fun h => ?_) (fun h => ?_)) <;> (try simp only [nrm] at h) <;> (try ((with_reducible exfalso); omega))) | ((with_reducible refine And.intro ?_ ?_); (focus first | omega | (simp; done) | (simp; omega) | ((repeat' (with_reducible refine And.intro ?_ ?_)) <;> first | omega | rfl | (simp only [go_sem, refsL_app, refs_dmap] <;> fail) | (simp [refsL_app, refs_dmap, AV.refsL, AV.refs] <;> omega)))) | ((with_reducible first | apply hK | (clear hK K; first | apply hK | (clear hK K; apply hK))); clear hK K) | fail)
  refine res_tmp rfl (by simp [D.plain, plains]) (by simp) ?_
  rfl
 by_cases d5 : d = 5
 ·
  simp only [d5, if_true, Int.reduceEq, if_false] at hp
  rw [hp _ rfl]
  refine fn_go Try.func78 rfl rfl Try.ntmps78 Try.results78 (by simp only [slo, Nat.reduceAdd]; rfl) (by simp) ?_
  repeat' (first | (with_reducible first | refine aw_seq fun K hK => ?_ | refine aw_region (by kernel_rfl) ?_ | refine aw_condk ?_ | refine aw_block ?_) | ((with_reducible refine evg ?_); simp only [go_sem, ↓reduceIte, Nat.reduceEqDiff, Nat.reduceBEq, Nat.reduceAdd, Nat.reduceMul, Nat.reduceSub, Nat.reduceLT, Nat.reduceLeDiff]) | (simp (disch := omega) only [dsq, Int.reduceSub, Int.reduceAdd, Int.reduceToNat]) | ((with_reducible refine ev_call ?_); (first | (refine call_fn e1 rfl ?_) | (refine call_fn e2 rfl ?_) | (refine call_fn e3 rfl ?_) | (refine call_fn e4 rfl ?_) | (refine call_fn (e5 _) rfl ?_)); refine k_run ?_) | ((with_reducible refine ck_split (fun h => ?_) (fun h => ?_)) <;> (try simp only [nrm] at h) <;> (try ((with_reducible exfalso); omega))) | ((with_reducible refine And.intro ?_ ?_); (focus first | omega | (simp; done) | (simp; omega) | ((repeat' (with_reducible refine And.intro ?_ ?_)) <;> first | omega | rfl | (simp only [go_sem, refsL_app, refs_dmap] <;> fail) | (simp [refsL_app, refs_dmap, AV.refsL, AV.refs] <;> omega)))) | ((with_reducible first | apply hK | (clear hK K; first | apply hK | (clear hK K; apply hK))); clear hK K) | fail)
  refine res_tmp rfl (by simp [D.plain, plains]) (by simp) ?_
  rfl
 by_cases d6 : d = 6
 ·
  simp only [d6, if_true, Int.reduceEq, if_false] at hp
  rw [hp _ rfl]
  refine fn_go Try.func78 rfl rfl Try.ntmps78 Try.results78 (by simp only [slo, Nat.reduceAdd]; rfl) (by simp) ?_
  repeat' (first | (with_reducible first | refine aw_seq fun K hK => ?_ | refine aw_region (by kernel_rfl) ?_ | refine aw_condk ?_ | refine aw_block ?_) | ((with_reducible refine evg ?_); simp only [go_sem, ↓reduceIte, Nat.reduceEqDiff, Nat.reduceBEq, Nat.reduceAdd, Nat.reduceMul, Nat.reduceSub, Nat.reduceLT, Nat.reduceLeDiff]) | (simp (disch := omega) only [dsq, Int.reduceSub, Int.reduceAdd, Int.reduceToNat, wr, clI]) | ((with_reducible refine ev_call ?_); (first | (refine call_fn e1 rfl ?_) | (refine call_fn e2 rfl ?_) | (refine call_fn e3 rfl ?_) | (refine call_fn e4 rfl ?_) | (refine call_fn (e5 _) rfl ?_)); refine k_run ?_) | ((with_reducible refine ck_split (fun h => ?_) (fun h => ?_)) <;> (try simp only [nrm] at h) <;> (try ((with_reducible exfalso); omega))) | ((with_reducible refine And.intro ?_ ?_); (focus first | omega | (simp; done) | (simp; omega) | ((repeat' (with_reducible refine And.intro ?_ ?_)) <;> first | omega | rfl | (simp only [go_sem, refsL_app, refs_dmap] <;> fail) | (simp [refsL_app, refs_dmap, AV.refsL, AV.refs] <;> omega)))) | ((with_reducible first | apply hK | (clear hK K; first | apply hK | (clear hK K; apply hK))); clear hK K) | fail)
  refine res_tmp rfl (by simp [D.plain, plains]) (by simp) ?_
  rfl
 by_cases d7 : d = 7
 ·
  simp only [d7, if_true, Int.reduceEq, if_false] at hp
  rw [hp _ rfl]
  refine fn_go Try.func78 rfl rfl Try.ntmps78 Try.results78 (by simp only [slo, Nat.reduceAdd]; rfl) (by simp) ?_
  repeat' (first | (with_reducible first | refine aw_seq fun K hK => ?_ | refine aw_region (by kernel_rfl) ?_ | refine aw_condk ?_ | refine aw_block ?_) | ((with_reducible refine evg ?_); simp only [go_sem, ↓reduceIte, Nat.reduceEqDiff, Nat.reduceBEq, Nat.reduceAdd, Nat.reduceMul, Nat.reduceSub, Nat.reduceLT, Nat.reduceLeDiff]) | (simp (disch := omega) only [dsq, Int.reduceSub, Int.reduceAdd, Int.reduceToNat, wr, clI]) | ((with_reducible refine ev_call ?_); (first | (refine call_fn e1 rfl ?_) | (refine call_fn e2 rfl ?_) | (refine call_fn e3 rfl ?_) | (refine call_fn e4 rfl ?_) | (refine call_fn (e5 _) rfl ?_)); refine k_run ?_) | ((with_reducible refine ck_split (fun h => ?_) (fun h => ?_)) <;> (try simp only [nrm] at h) <;> (try ((with_reducible exfalso); omega))) | ((with_reducible refine And.intro ?_ ?_); (focus first | omega | (simp; done) | (simp; omega) | ((repeat' (with_reducible refine And.intro ?_ ?_)) <;> first | omega | rfl | (simp only [go_sem, refsL_app, refs_dmap] <;> fail) | (simp [refsL_app, refs_dmap, AV.refsL, AV.refs] <;> omega)))) | ((with_reducible first | apply hK | (clear hK K; first | apply hK | (clear hK K; apply hK))); clear hK K) | fail)
  refine res_tmp rfl (by simp [D.plain, plains]) (by simp) ?_
  rfl
 ·
  simp only [d1, d2, d3, d4, d5, d6, d7, if_false] at hp
  rw [hp _ rfl]
  refine fn_go Try.func78 rfl rfl Try.ntmps78 Try.results78 (by simp only [slo, Nat.reduceAdd]; rfl) (by simp) ?_
  repeat' (first | (with_reducible first | refine aw_seq fun K hK => ?_ | refine aw_region (by kernel_rfl) ?_ | refine aw_condk ?_ | refine aw_block ?_) | ((with_reducible refine evg ?_); simp only [go_sem, ↓reduceIte, Nat.reduceEqDiff, Nat.reduceBEq, Nat.reduceAdd, Nat.reduceMul, Nat.reduceSub, Nat.reduceLT, Nat.reduceLeDiff]) | (simp (disch := omega) only [dsq, Int.reduceSub, Int.reduceAdd, Int.reduceToNat, wr, clI]) | ((with_reducible refine ev_call ?_); (first | (refine call_fn e1 rfl ?_) | (refine call_fn e2 rfl ?_) | (refine call_fn e3 rfl ?_) | (refine call_fn e4 rfl ?_) | (refine call_fn (e5 _) rfl ?_)); refine k_run ?_) | ((with_reducible refine ck_split (fun h => ?_) (fun h => ?_)) <;> (try simp only [nrm] at h) <;> (try ((with_reducible exfalso); omega))) | ((with_reducible refine And.intro ?_ ?_); (focus first | omega | (simp; done) | (simp; omega) | ((repeat' (with_reducible refine And.intro ?_ ?_)) <;> first | omega | rfl | (simp only [go_sem, refsL_app, refs_dmap] <;> fail) | (simp [refsL_app, refs_dmap, AV.refsL, AV.refs] <;> omega)))) | ((with_reducible first | apply hK | (clear hK K; first | apply hK | (clear hK K; apply hK))); clear hK K) | fail)
  refine res_tmp rfl (by simp [D.plain, plains]) (by simp) ?_
  rfl

end Go.Proofs.Ytjbifidphckjoaa
