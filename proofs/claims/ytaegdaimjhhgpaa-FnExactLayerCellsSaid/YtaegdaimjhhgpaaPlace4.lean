/- PlaceCharges: the law. -/
import Derived.Test.YtaegdaimjhhgpaaPlace3
import Derived.Test.YtaegdaimjhhgpaaBox4
import Derived.WalkKit
import Derived.WalkSpells
import Derived.KernelRfl
namespace Go.Proofs.Ytaegdaimjhhgpaa
open Go.RowKit
set_option linter.unusedVariables false
set_option linter.unusedSimpArgs false

attribute [local go_sem] intL BoxV.d BoxV.cs boxL ArmsV.d

attribute [local simp] ints_plain ints_all ints_all1 ints_plain_take boxC_plains boxC_all refs_dmap

theorem fill_len (zs : List Int) (s m : Nat) (h : m ≤ 40) : (fillL zs s m 480).length ≤ 40 := by
  rw [fl_len]
  have := fillN_most (zs := zs) (s := s) (most := m) 480
  omega

theorem largeP_len (zs : List Int) (m : Nat) (h : m ≤ 40) : ∀ s, (largeP zs m s).1.length ≤ 40
  | 0 => by simp [largeP]
  | s + 1 => by
    rw [largeP]
    split
    · exact fill_len zs (s + 1) m h
    · exact largeP_len zs m h s

theorem onL_len (x : ArmsV) (h : okArms x = true) : (onL x).length ≤ 40 := by
  have hin := okArms_in h
  rw [onL, grpP]
  cases hn : noGroup x.c1 x.k1 x.a1 x.t1
  · rw [if_neg (by simp)]
    have := okGroupN_in hin.2.2.1 hn
    exact largeP_len _ _ (by omega) 8
  · rw [if_pos rfl]
    simp

theorem arL_len (x : ArmsV) (h : okArms x = true) : (arL x).length ≤ 40 := by
  have hin := okArms_in h
  rw [arL, grpP]
  cases hn : noGroup x.c2 x.k2 x.a2 x.t2
  · rw [if_neg (by simp)]
    have := okGroupN_in hin.2.2.2.1 hn
    exact largeP_len _ _ (by omega) 8
  · rw [if_pos rfl]
    simp

set_option maxRecDepth 100000 in
set_option maxHeartbeats 4000000 in
theorem toArmsP_fn (x : ArmsV) : FnD Try.prog 37 [x.d] x.d := by
  refine fn_go Try.func37 rfl rfl Try.ntmps37 Try.results37 (by simp only [slotsOf, argAV, List.map_cons, List.map_nil, Nat.reduceAdd]; rfl) (by simp) ?_
  repeat' (first | (with_reducible first | refine aw_seq fun K hK => ?_ | refine aw_region (by kernel_rfl) ?_ | refine aw_condk ?_ | refine aw_block ?_) | ((with_reducible refine evg ?_); simp only [go_sem, ↓reduceIte, Nat.reduceEqDiff, Nat.reduceBEq, Nat.reduceAdd, Nat.reduceMul, Nat.reduceSub, Nat.reduceLT, Nat.reduceLeDiff]) | ((with_reducible refine ev_call ?_); (first | (refine call_fn (toField_fn _ _ _ _) rfl ?_) | (refine call_fn (toGroup_fn _ _ _ _) rfl ?_)); refine k_run ?_) | ((with_reducible refine ev_guard ?_); (with_reducible first | refine guard_t ?_ ?_ rfl | refine guard_f ?_ ?_ rfl) <;> (intro h; (try simp only [h]); (try simp only [nrm] at h))) | ((with_reducible refine ck_split (fun h => ?_) (fun h => ?_)) <;> (try simp only [nrm] at h)) | ((with_reducible refine And.intro ?_ ?_); (first | omega | focus (simp; done) | focus (simp; omega) | focus ((repeat' (with_reducible refine And.intro ?_ ?_)) <;> first | omega | rfl | (simp only [go_sem, refsL_app, refs_dmap] <;> fail) | (simp [refsL_app, refs_dmap, AV.refsL, AV.refs] <;> omega)))) | ((with_reducible first | apply hK | (clear hK K; first | apply hK | (clear hK K; first | apply hK | (clear hK K; apply hK)))); clear hK K) | (simp (disch := omega) only [wr, drop_at, str_at, int_at, Int.reduceSub, Int.reduceAdd, Int.reduceToNat, Int.toNat_zero]) | fail)
  all_goals (first | refine res_tmp rfl (by simp [D.plain, plains]) (by simp) ?_ | refine res_at rfl (by simp [D.plain, plains]) (by simp) ?_ | refine res_two rfl (by simp [D.plain, plains]) (by simp) ?_ | refine res_three rfl (by simp [D.plain, plains]) (by simp) ?_ | skip)
  all_goals rfl

end Go.Proofs.Ytaegdaimjhhgpaa
