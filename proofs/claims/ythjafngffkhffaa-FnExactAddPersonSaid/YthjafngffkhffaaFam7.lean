/- Marking families. -/
import Derived.Test.YthjafngffkhffaaFam2
import Derived.Test.YthjafngffkhffaaInts
import Derived.WalkKit
import Derived.WalkSpells
import Derived.KernelRfl
namespace Go.Proofs.Ythjafngffkhffaa
open Go.RowKit
set_option linter.unusedVariables false
set_option linter.unusedSimpArgs false

attribute [local go_sem] PerV.d PerV.cs perL famD intL

attribute [local simp] perC_all perC_plains

def perAt (k : Int) : PerV := ⟨k, k + 1, k + 1 + 1, k + 1 + 1 + 1, k + 1 + 1 + 1 + 1⟩

attribute [local go_sem] perAt

def perN (k : Int) (n : Nat) : List PerV := tab (fun i => perAt (k + i * 5)) n

@[simp] theorem perN_len (k : Int) (n : Nat) : (perN k n).length = n := tab_len _ _

theorem perN_at {k : Int} {n i : Nat} (h : i < n) : ((perC (perN k n)).drop (i * 5)).take 5 = (perAt (k + i * 5)).cs := by
  rw [per_at (by simpa using h)]
  rw [perN, tab_at PerV.zero h]
  rfl

theorem perN_get {k : Int} {n i j : Nat} (h : i < n) (hj : j < 5) : (perC (perN k n)).getD (i * 5 + j) (.v undef) = (perAt (k + i * 5)).cs.getD j (.v undef) := by
  rw [← perN_at h]
  simp only [List.getD_eq_getElem?_getD, List.getElem?_take, List.getElem?_drop, if_pos hj]

theorem perN_get0 {k : Int} {n i : Nat} (h : i < n) : (perC (perN k n)).getD (i * 5) (.v undef) = (perAt (k + i * 5)).cs.getD 0 (.v undef) := perN_get (j := 0) h (by omega)

def perD (k : Int) (l : List PerV) (i : Nat) : List PerV := recD (fun i : Nat => perAt (k + i * 5)) l i

theorem perD_clen {k : Int} {l : List PerV} {i : Nat} (h : i ≤ l.length) : (perC (perD k l i)).length = l.length * 5 := recD_clen (cs := PerV.cs) (fun _ => rfl) h

theorem perD_step {k : Int} {l : List PerV} {i : Nat} (h : i < l.length) : setsL (perC (perD k l i)) (i * 5) (perAt (k + i * 5)).cs = perC (perD k l (i + 1)) := by
  have e : (perAt (k + i * 5)).cs.length = 5 := rfl
  rw [setsL_eq _ _ _ (by rw [perD_clen (by omega), e]; omega), e]
  exact recD_step (cs := PerV.cs) (fun _ => rfl) h

set_option maxRecDepth 100000 in
set_option maxHeartbeats 4000000 in
theorem markPersonS_hi (l : List PerV) (k : Int) (hl : l.length ≤ 1048576) (h0 : 0 ≤ k) (h1 : k ≤ 1000000000000) : FnS Try.prog 64 [(5000, .ds (perC l))] [.bs 5000 0 l.length 5, .d (.int k)] [(5000, .ds (perC (perN k l.length)))] (.d (.int (k + l.length * 5))) := by
  refine fns_go Try.func64 rfl rfl Try.ntmps64 Try.results64 (by simp only [slotsA, Nat.reduceAdd]; rfl) (by simp) rfl ?_
  repeat' (first | (with_reducible first | refine aw_seq fun K hK => ?_ | refine aw_region (by kernel_rfl) ?_ | refine aw_condk ?_ | refine aw_block ?_) | ((with_reducible refine evg ?_); simp only [go_sem, ↓reduceIte, Nat.reduceEqDiff, Nat.reduceBEq, Nat.reduceAdd, Nat.reduceMul, Nat.reduceSub, Nat.reduceLT, Nat.reduceLeDiff]) | ((with_reducible refine ev_guard ?_); (with_reducible first | refine guard_t ?_ ?_ rfl | refine guard_f ?_ ?_ rfl) <;> (intro h; (try simp only [h]); (try simp only [nrm] at h))) | ((with_reducible refine ck_split (fun h => ?_) (fun h => ?_)) <;> (try simp only [nrm] at h)) | ((with_reducible refine And.intro ?_ ?_); (first | omega | focus (simp; done) | focus (simp; omega) | focus ((repeat' (with_reducible refine And.intro ?_ ?_)) <;> first | omega | rfl | (simp only [go_sem, refsL_app, refs_dmap] <;> fail) | (simp [refsL_app, refs_dmap, AV.refsL, AV.refs] <;> omega)))) | ((with_reducible first | apply hK | (clear hK K; first | apply hK | (clear hK K; first | apply hK | (clear hK K; apply hK)))); clear hK K) | (simp (disch := omega) only [wr, drop_at, str_at, int_at, Int.reduceSub, Int.reduceAdd, Int.reduceToNat, Int.toNat_zero]) | fail)
  refine aw_loopU [1, 5, 6, 7, 8, 9, 10, 11, 12, 13, 14, 15, 16, 17, 18, 19, 20, 21, 22, 23, 24, 25, 26, 27, 28, 29, 30, 31, 32, 33, 34, 35, 36, 37, 38, 39, 40, 41, 42, 43, 44, 45, 46] [8, 5000] (fun i : Nat => [(5, .d (.int i)), (1, .d (.int (k + i * 5)))]) (fun i => [(5000, .ds (perC (perD k l i)))]) (fun i => i ≤ l.length) (fun i => l.length - i) 0 (by omega) ?_ ?_
  · (refine lessW_of [] rfl ?_ <;> simp only [St.sws, St.sw, swS, swO, AV.sw, AV.swL, OB.sw, swp, St.upd, dropS, dropOs, Less, SubS, SubO, look, lookO, List.elem, List.cons_append, List.nil_append, cond_true, cond_false, and_true, true_and, beq_self_eq_true, ↓reduceIte, Nat.reduceEqDiff, Nat.reduceBEq, Nat.reduceAdd, Nat.reduceMul, Nat.reduceSub, Nat.reduceLT, Nat.reduceLeDiff] <;> try simp)
    rw [perD, recD_zero]
  · rintro i g1
    simp only [St.upd, dropS, dropOs, List.elem, List.cons_append, List.nil_append, cond_true, cond_false, beq_self_eq_true, ↓reduceIte, Nat.reduceEqDiff, Nat.reduceBEq, Nat.reduceAdd, Nat.reduceMul, Nat.reduceSub, Nat.reduceLT, Nat.reduceLeDiff]
    repeat' (first | (with_reducible first | refine aw_seq fun K hK => ?_ | refine aw_region (by kernel_rfl) ?_ | refine aw_condk ?_ | refine aw_block ?_) | ((with_reducible refine evg ?_); simp only [go_sem, ↓reduceIte, Nat.reduceEqDiff, Nat.reduceBEq, Nat.reduceAdd, Nat.reduceMul, Nat.reduceSub, Nat.reduceLT, Nat.reduceLeDiff]) | (simp (disch := omega) only [wr, drop_at, str_at, int_at, Int.reduceSub, Int.reduceAdd, Int.reduceToNat, Int.toNat_zero, perD_clen, List.length_set]) | ((with_reducible refine ev_guard ?_); (with_reducible first | refine guard_t ?_ ?_ rfl | refine guard_f ?_ ?_ rfl) <;> (intro h; (try simp only [h]); (try simp only [nrm] at h) <;> (try ((with_reducible exfalso); omega)))) | ((with_reducible refine ck_split (fun h => ?_) (fun h => ?_)) <;> (try simp only [nrm] at h) <;> (try ((with_reducible exfalso); omega))) | ((with_reducible refine And.intro ?_ ?_); (first | omega | focus (simp; done) | focus (simp; omega) | focus ((repeat' (with_reducible refine And.intro ?_ ?_)) <;> first | omega | rfl | (simp only [go_sem, refsL_app, refs_dmap] <;> fail) | (simp [refsL_app, refs_dmap, AV.refsL, AV.refs] <;> omega)))) | ((with_reducible first | apply hK | (clear hK K; first | apply hK | (clear hK K; first | apply hK | (clear hK K; apply hK)))); clear hK K) | fail)
    · refine ⟨i + 1, by omega, by omega, ?_⟩
      (refine lessW_of [] rfl ?_ <;> simp only [St.sws, St.sw, swS, swO, AV.sw, AV.swL, OB.sw, swp, St.upd, dropS, dropOs, Less, SubS, SubO, look, lookO, List.elem, List.cons_append, List.nil_append, cond_true, cond_false, and_true, true_and, beq_self_eq_true, ↓reduceIte, Nat.reduceEqDiff, Nat.reduceBEq, Nat.reduceAdd, Nat.reduceMul, Nat.reduceSub, Nat.reduceLT, Nat.reduceLeDiff] <;> try simp)
      have e := perD_step (k := k) (l := l) (i := i) (by omega)
      simp only [setsL, perAt, PerV.cs, Nat.add_assoc, Nat.reduceAdd] at e ⊢
      exact ⟨by omega, e⟩
    · rw [perD, recD_end (by omega)]
      have e : i = l.length := by omega
      subst e
      exact ress_tmp (by simp [lensO, lookO, obCells]) ⟨rfl, trivial⟩ rfl

theorem markPersonS_s (s : Nat) (l : List PerV) (k : Int) (hl : l.length ≤ 1048576) (h0 : 0 ≤ k) (h1 : k ≤ 1000000000000) : FnS Try.prog 64 [(s, .ds (perC l))] [.bs s 0 l.length 5, .d (.int k)] [(s, .ds (perC (perN k l.length)))] (.d (.int (k + l.length * 5))) := by
  have h := (markPersonS_hi l k hl h0 h1).sw 5000 s
  simpa only [swO, AV.swL, AV.sw, OB.sw, sw_self] using h

set_option maxRecDepth 100000 in
set_option maxHeartbeats 4000000 in
theorem markFamily_s (s : Nat) (l : List PerV) (k : Int) (hl : l.length ≤ 1048576) (h0 : 0 ≤ k) (h1 : k ≤ 1000000000000) : FnS Try.prog 23 [(s, .ds (perC l))] [.ag [.bs s 0 l.length 5], .d (.int k)] [(s, .ds (perC (perN k l.length)))] (.d (.int (k + l.length * 5))) := by
  have h : FnS Try.prog 23 [(5000, .ds (perC l))] [.ag [.bs 5000 0 l.length 5], .d (.int k)] [(5000, .ds (perC (perN k l.length)))] (.d (.int (k + l.length * 5))) := by
    refine fns_go Try.func23 rfl rfl Try.ntmps23 Try.results23 (by simp only [slotsA, Nat.reduceAdd]; rfl) (by simp) rfl ?_
    repeat' (first | (with_reducible first | refine aw_seq fun K hK => ?_ | refine aw_region (by kernel_rfl) ?_ | refine aw_condk ?_ | refine aw_block ?_) | ((with_reducible refine evg ?_); simp only [go_sem, ↓reduceIte, Nat.reduceEqDiff, Nat.reduceBEq, Nat.reduceAdd, Nat.reduceMul, Nat.reduceSub, Nat.reduceLT, Nat.reduceLeDiff]) | ((with_reducible refine ev_call ?_); (first | (refine call_s (markPersonS_s 5000 l k hl h0 h1) ?_ ?_ ?_ ?_ ?_; (focus rfl); (focus first | exact trivial | exact And.intro rfl trivial | exact ⟨rfl, rfl, trivial⟩ | exact ⟨rfl, rfl, rfl, trivial⟩); (focus rfl); (focus (simp [-List.map_map, apartO, dropO, killN, obCells, refs_dmap, nofnsD, AV.refs, AV.refsL, AV.nofn, AV.nofns] <;> fail)))); refine k_run ?_) | ((with_reducible refine ev_guard ?_); (with_reducible first | refine guard_t ?_ ?_ rfl | refine guard_f ?_ ?_ rfl) <;> (intro h; (try simp only [h]); (try simp only [nrm] at h))) | ((with_reducible refine ck_split (fun h => ?_) (fun h => ?_)) <;> (try simp only [nrm] at h)) | ((with_reducible refine And.intro ?_ ?_); (first | omega | focus (simp; done) | focus (simp; omega) | focus ((repeat' (with_reducible refine And.intro ?_ ?_)) <;> first | omega | rfl | (simp only [go_sem, refsL_app, refs_dmap] <;> fail) | (simp [refsL_app, refs_dmap, AV.refsL, AV.refs] <;> omega)))) | ((with_reducible first | apply hK | (clear hK K; first | apply hK | (clear hK K; first | apply hK | (clear hK K; apply hK)))); clear hK K) | (simp (disch := omega) only [wr, drop_at, str_at, int_at, Int.reduceSub, Int.reduceAdd, Int.reduceToNat, Int.toNat_zero]) | fail)
    exact ress_tmp (by simp [lensO, lookO, obCells]) ⟨rfl, trivial⟩ rfl
  have h := h.sw 5000 s
  simpa only [swO, AV.swL, AV.sw, OB.sw, sw_self] using h

end Go.Proofs.Ythjafngffkhffaa
