/- The length of a region's edge. -/
import Derived.Test.YtjfeleejiofeoaaCells
import Derived.WalkKit
import Derived.WalkSpells
import Derived.KernelRfl
namespace Go.Proofs.Ytjfeleejiofeoaa
open Go.RowKit
set_option linter.unusedVariables false
set_option linter.unusedSimpArgs false

attribute [local go_sem] intL pairD

attribute [local simp] ints_plain ints_all ints_all1 ints_plain_take pairs_plain pairs_all

def sx (x : Int) (k : Nat) : Int := if k = 0 then x - 1 else if k = 1 then x + 1 else x

def sy (y : Int) (k : Nat) : Int := if k = 2 then y - 1 else if k = 3 then y + 1 else y

def sidesC (x y : Int) : List D := [.int (x - 1), .int y, .int (x + 1), .int y, .int x, .int (y - 1), .int x, .int (y + 1)]

def besideC (x y : Int) : List D := [.ls 1 2 [.int (x - 1), .int y], .ls 1 2 [.int (x + 1), .int y], .ls 1 2 [.int x, .int (y - 1)], .ls 1 2 [.int x, .int (y + 1)]]

attribute [local go_sem] sidesC besideC

set_option maxRecDepth 100000 in
set_option maxHeartbeats 4000000 in
theorem sides_fn (x y : Int) (h1 : 0 ≤ x ∧ x ≤ 1000) (h2 : 0 ≤ y ∧ y ≤ 1000) : FnD Try.prog 67 [.ag [.int x, .int y]] (.ls 2 4 (sidesC x y)) := by
  refine fn_go Try.func67 rfl rfl Try.ntmps67 Try.results67 (by simp only [slotsOf, argAV, List.map_cons, List.map_nil, Nat.reduceAdd]; rfl) (by simp) ?_
  repeat' (first | (with_reducible first | refine aw_seq fun K hK => ?_ | refine aw_region (by kernel_rfl) ?_ | refine aw_condk ?_ | refine aw_block ?_) | ((with_reducible refine evg ?_); simp only [go_sem, ↓reduceIte, Nat.reduceEqDiff, Nat.reduceBEq, Nat.reduceAdd, Nat.reduceMul, Nat.reduceSub, Nat.reduceLT, Nat.reduceLeDiff]) | ((with_reducible refine ev_guard ?_); (with_reducible first | refine guard_t ?_ ?_ rfl | refine guard_f ?_ ?_ rfl) <;> (intro h; (try simp only [h]); (try simp only [nrm] at h))) | ((with_reducible refine ck_split (fun h => ?_) (fun h => ?_)) <;> (try simp only [nrm] at h)) | ((with_reducible refine And.intro ?_ ?_); (first | omega | focus (simp; done) | focus (simp; omega) | focus ((repeat' (with_reducible refine And.intro ?_ ?_)) <;> first | omega | rfl | (simp only [go_sem, refsL_app, refs_dmap] <;> fail) | (simp [refsL_app, refs_dmap, AV.refsL, AV.refs] <;> omega)))) | ((with_reducible first | apply hK | (clear hK K; first | apply hK | (clear hK K; first | apply hK | (clear hK K; apply hK)))); clear hK K) | (simp (disch := omega) only [wr, drop_at, str_at, int_at, Int.reduceSub, Int.reduceAdd, Int.reduceToNat, Int.toNat_zero]) | fail)
  (first | refine res_tmp rfl (by simp [D.plain, plains]) (by simp) ?_ | refine res_at rfl (by simp [D.plain, plains]) (by simp) ?_ | refine res_two rfl (by simp [D.plain, plains]) (by simp) ?_ | refine res_three rfl (by simp [D.plain, plains]) (by simp) ?_)
  rfl

set_option maxRecDepth 100000 in
set_option maxHeartbeats 4000000 in
theorem l9Beside_fn (x y : Int) (h1 : 0 ≤ x ∧ x ≤ 1000) (h2 : 0 ≤ y ∧ y ≤ 1000) : FnD Try.prog 64 [.int x, .int y] (.ls 1 4 (besideC x y)) := by
  refine fn_go Try.func64 rfl rfl Try.ntmps64 Try.results64 (by simp only [slotsOf, argAV, List.map_cons, List.map_nil, Nat.reduceAdd]; rfl) (by simp) ?_
  repeat' (first | (with_reducible first | refine aw_seq fun K hK => ?_ | refine aw_region (by kernel_rfl) ?_ | refine aw_condk ?_ | refine aw_block ?_) | ((with_reducible refine evg ?_); simp only [go_sem, ↓reduceIte, Nat.reduceEqDiff, Nat.reduceBEq, Nat.reduceAdd, Nat.reduceMul, Nat.reduceSub, Nat.reduceLT, Nat.reduceLeDiff]) | ((with_reducible refine ev_guard ?_); (with_reducible first | refine guard_t ?_ ?_ rfl | refine guard_f ?_ ?_ rfl) <;> (intro h; (try simp only [h]); (try simp only [nrm] at h))) | ((with_reducible refine ck_split (fun h => ?_) (fun h => ?_)) <;> (try simp only [nrm] at h)) | ((with_reducible refine And.intro ?_ ?_); (first | omega | focus (simp; done) | focus (simp; omega) | focus ((repeat' (with_reducible refine And.intro ?_ ?_)) <;> first | omega | rfl | (simp only [go_sem, refsL_app, refs_dmap] <;> fail) | (simp [refsL_app, refs_dmap, AV.refsL, AV.refs] <;> omega)))) | ((with_reducible first | apply hK | (clear hK K; first | apply hK | (clear hK K; first | apply hK | (clear hK K; apply hK)))); clear hK K) | (simp (disch := omega) only [wr, drop_at, str_at, int_at, Int.reduceSub, Int.reduceAdd, Int.reduceToNat, Int.toNat_zero]) | fail)
  (first | refine res_tmp rfl (by simp [D.plain, plains]) (by simp) ?_ | refine res_at rfl (by simp [D.plain, plains]) (by simp) ?_ | refine res_two rfl (by simp [D.plain, plains]) (by simp) ?_ | refine res_three rfl (by simp [D.plain, plains]) (by simp) ?_)
  rfl

def sd (zs : List Int) (c k : Nat) : Int := if hasZ zs (sx ((c % 20 : Nat) : Int) k) (sy ((c / 20 : Nat) : Int) k) then 0 else 1

def edgeP (zs : List Int) (c k : Nat) : Int := ((List.range k).map (sd zs c)).sum

def edgeS (zs : List Int) (l : List Nat) (i : Nat) : Int := ((List.range i).map fun j => edgeP zs (l.getD j 0) 4).sum

theorem pair_at {l : List Nat} {i : Nat} (h : i < l.length) : ((recC pairD l).drop (i * 2)).take 2 = [.int ((l.getD i 0 % 20 : Nat) : Int), .int ((l.getD i 0 / 20 : Nat) : Int)] := recC_at pair_k 0 h

theorem cellI_at {l : List Nat} {i : Nat} {d : D} (h : i < l.length) : ((cellI l).map D.int).getD i d = D.int ((l.getD i 0 : Nat) : Int) := by
  rw [int_at (by simpa using h)]
  congr 1
  simp [cellI, List.getD_eq_getElem?_getD, h]

theorem tmod20 (c : Nat) : ((c : Int)).tmod 20 = ((c % 20 : Nat) : Int) := by
  rw [Int.tmod_eq_emod_of_nonneg (by omega)]
  omega

theorem tdiv20 (c : Nat) : ((c : Int)).tdiv 20 = ((c / 20 : Nat) : Int) := by
  rw [Int.tdiv_eq_ediv_of_nonneg (by omega)]
  omega

def edgeR (zs : List Int) : D := if okReg zs then .tu [.int (edgeS zs (cellsN zs 480) (cellsN zs 480).length), .bool true] else .tu [.int 0, .bool false]

end Go.Proofs.Ytjfeleejiofeoaa
