/- Lists of rows of integers: read, copied, compared, marked. -/
import Derived.Test.YtaegdaimjhhgpaaInts
import Derived.Test.YtaegdaimjhhgpaaFlowF
import Derived.WalkKit
import Derived.WalkSpells
import Derived.KernelRfl
namespace Go.Proofs.Ytaegdaimjhhgpaa
open Go.RowKit
set_option linter.unusedVariables false
set_option linter.unusedSimpArgs false

attribute [local go_sem] intL lookO_lo killO_grid delO_grid putO_lo gridO_app dropGe dropGe_grid cleanO_grid gridC_len gridC_refs gridQ_refs lens_len rowsD_len

attribute [local simp] ints_plain ints_all ints_all1 ints_plain_take refs_dmap

def gridD (zs : List (List Int)) : D := .ls 1 zs.length (rowsD zs)

attribute [local go_sem] gridD

theorem rowsD_at {zs : List (List Int)} {i : Nat} {d : D} (h : i < zs.length) : (rowsD zs).getD i d = .ls 1 (zs.getD i []).length ((zs.getD i []).map D.int) := by
  simp [rowsD, List.getD_eq_getElem?_getD, List.getElem?_map, h]

/-- What is left behind a list of rows. -/
def szR : List (List Int) → Int → Int
  | [], l => l
  | z :: zs, l => if l - z.length < 0 then -1 else szR zs (l - z.length)

def szG (zs : List (List Int)) (l : Int) : Int := if l - zs.length < 0 then -1 else szR zs (l - zs.length)

def tot (zs : List (List Int)) : Nat := (zs.map List.length).sum

theorem tot_at {zs : List (List Int)} {i : Nat} : (zs.getD i []).length ≤ tot zs := by
  induction zs generalizing i with
  | nil => simp
  | cons z zs ih =>
    simp only [tot, List.map_cons, List.sum_cons]
    cases i with
    | zero => simp
    | succ i =>
      have := ih (i := i)
      simp only [tot] at this
      simp only [List.getD_cons_succ]
      omega

theorem lens_take {zs : List (List Int)} {i : Nat} (h : i < zs.length) : lens (zs.take (i + 1)) = lens (zs.take i) ++ [(zs.getD i []).length] := by
  rw [take_next [] h]
  simp [lens]

theorem row_eq (a b : List (List Int)) (h : a.length = b.length) : decide (a = b) = (List.range a.length).all fun i => decide (a.getD i [] = b.getD i []) := by
  by_cases e : a = b
  · subst e
    simp
  · rw [decide_eq_false e]
    symm
    rw [List.all_eq_false]
    have : ∃ i, i < a.length ∧ a.getD i [] ≠ b.getD i [] := by
      apply Classical.byContradiction
      intro hn
      apply e
      apply List.ext_getElem h
      intro i h1 h2
      have := Classical.byContradiction (fun q => hn ⟨i, h1, q⟩)
      simpa [List.getD_eq_getElem?_getD, h1, h2] using this
    obtain ⟨i, h1, h2⟩ := this
    exact ⟨i, List.mem_range.2 h1, by simpa using h2⟩

set_option maxRecDepth 100000 in
theorem pl_Grid_18_6 (l : List Oper) (h : l = opsOf Try.f18 6) : planB l (.pure 0 (.pure 1 (.pure 2 (.pure 3 (.pure 4 (.pure 5 (.pure 6 (.pure 7 (.one 8 (.pure 9 PT.fin)))))))))) [] = true := by
  subst h
  kernel_rfl

set_option maxRecDepth 100000 in
set_option maxHeartbeats 4000000 in
theorem eqIntSS_fn (a b : List (List Int)) (hl : a.length ≤ 9223372036854775807) (hb : b.length ≤ 9223372036854775807) (hr : ∀ z ∈ a, z.length ≤ 140737488355328) : FnD Try.prog 18 [gridD a, gridD b] (.bool (decide (a = b))) := by
  by_cases hlen : a.length = b.length
  · rw [row_eq a b hlen]
    refine fn_go Try.func18 rfl rfl Try.ntmps18 Try.results18 (by simp only [slotsOf, argAV, List.map_cons, List.map_nil, Nat.reduceAdd]; rfl) (by simp) ?_
    repeat' (first | (with_reducible first | refine aw_seq fun K hK => ?_ | refine aw_region (by kernel_rfl) ?_ | refine aw_condk ?_ | refine aw_block ?_) | ((with_reducible refine ev_aw ?_); first | (refine aw_draw (id := 6) (by kernel_rfl) _ _ (by kernel_rfl) (pl_Grid_18_6 _ (by kernel_rfl)) ?_)) | (with_reducible first | refine ru_four ?_ ?_ ?_ ?_ | refine ru_three ?_ ?_ ?_ | refine ru_two ?_ ?_ | refine rp_two ?_ ?_) | ((with_reducible refine evg ?_); simp only [go_sem, St.clean, cleanO, ↓reduceIte, Nat.reduceEqDiff, Nat.reduceBEq, Nat.reduceAdd, Nat.reduceMul, Nat.reduceSub, Nat.reduceLT, Nat.reduceLeDiff]) | (simp (disch := omega) only [wr, drop_at, str_at, int_at, Int.reduceSub, Int.reduceAdd, Int.reduceToNat, Int.toNat_zero, wr]) | ((with_reducible refine ev_guard ?_); (with_reducible first | refine guard_t ?_ ?_ rfl | refine guard_f ?_ ?_ rfl) <;> (intro h; (try simp only [h]); (try simp only [nrm] at h) <;> (try ((with_reducible exfalso); omega)))) | ((with_reducible refine ck_split (fun h => ?_) (fun h => ?_)) <;> (try simp only [nrm] at h) <;> (try ((with_reducible exfalso); omega))) | ((with_reducible refine And.intro ?_ ?_); (first | omega | focus (simp; done) | focus (simp; omega) | focus ((repeat' (with_reducible refine And.intro ?_ ?_)) <;> first | omega | rfl | (simp only [go_sem, refsL_app, refs_dmap] <;> fail) | (simp [refsL_app, refs_dmap, AV.refsL, AV.refs] <;> omega)))) | (with_reducible refine hJ _ (fun K hK => ?_) ?_ <;> clear hJ KJ) | ((with_reducible refine ev_less ?_); (refine ⟨rfl, ?_, ?_⟩ <;> simp only [go_sem, St.clean, cleanO, SubS, SubO, beq_self_eq_true, ↓reduceIte, Nat.reduceEqDiff, Nat.reduceBEq, Nat.reduceAdd, Nat.reduceMul, Nat.reduceSub, Nat.reduceLT, Nat.reduceLeDiff])) | ((with_reducible first | apply hK | (clear hK K; first | apply hK | (clear hK K; first | apply hK | (clear hK K; apply hK)))); clear hK K) | fail)
    refine aw_loopU [4, 5, 11, 12, 13, 14, 15, 16, 17, 18, 19, 20, 21, 22, 23, 24, 25, 26] [13, 25] (fun i : Nat => [(5, .d (.int i))]) (fun _ => []) (fun i => i ≤ a.length ∧ ((List.range i).all fun i => decide (a.getD i [] = b.getD i [])) = true) (fun i => a.length - i) 0 ⟨by omega, rfl⟩ ?_ ?_
    · (refine lessW_of [] rfl ?_ <;> simp only [St.sws, St.sw, swS, swO, AV.sw, AV.swL, OB.sw, swp, St.upd, dropS, dropOs, Less, SubS, SubO, look, lookO, List.elem, List.cons_append, List.nil_append, cond_true, cond_false, and_true, true_and, beq_self_eq_true, ↓reduceIte, Nat.reduceEqDiff, Nat.reduceBEq, Nat.reduceAdd, Nat.reduceMul, Nat.reduceSub, Nat.reduceLT, Nat.reduceLeDiff] <;> try simp)
    · rintro i ⟨g1, g2⟩
      simp only [St.upd, dropS, dropOs, List.elem, List.cons_append, List.nil_append, cond_true, cond_false, beq_self_eq_true, ↓reduceIte, Nat.reduceEqDiff, Nat.reduceBEq, Nat.reduceAdd, Nat.reduceMul, Nat.reduceSub, Nat.reduceLT, Nat.reduceLeDiff]
      by_cases hi : i < a.length
      · have e1 := eqIntS_fn (a.getD i []) (b.getD i []) (hr _ (getD_mem [] hi))
        cases g : decide (a.getD i [] = b.getD i [])
        · rw [g] at e1
          repeat' (first | (with_reducible first | refine aw_seq fun K hK => ?_ | refine aw_region (by kernel_rfl) ?_ | refine aw_condk ?_ | refine aw_block ?_) | ((with_reducible refine ev_aw ?_); first | (refine aw_draw (id := 6) (by kernel_rfl) _ _ (by kernel_rfl) (pl_Grid_18_6 _ (by kernel_rfl)) ?_)) | (with_reducible first | refine ru_four ?_ ?_ ?_ ?_ | refine ru_three ?_ ?_ ?_ | refine ru_two ?_ ?_ | refine rp_two ?_ ?_) | ((with_reducible refine evg ?_); simp only [go_sem, St.clean, cleanO, ↓reduceIte, Nat.reduceEqDiff, Nat.reduceBEq, Nat.reduceAdd, Nat.reduceMul, Nat.reduceSub, Nat.reduceLT, Nat.reduceLeDiff]) | (simp (disch := omega) only [wr, drop_at, str_at, int_at, Int.reduceSub, Int.reduceAdd, Int.reduceToNat, Int.toNat_zero, wr, rowsD_at]) | ((with_reducible refine ev_call ?_); (first | (refine call_fn e1 rfl ?_)); refine k_run ?_) | ((with_reducible refine ev_guard ?_); (with_reducible first | refine guard_t ?_ ?_ rfl | refine guard_f ?_ ?_ rfl) <;> (intro h; (try simp only [h]); (try simp only [nrm] at h) <;> (try ((with_reducible exfalso); omega)))) | ((with_reducible refine ck_split (fun h => ?_) (fun h => ?_)) <;> (try simp only [nrm] at h) <;> (try ((with_reducible exfalso); omega))) | ((with_reducible refine And.intro ?_ ?_); (first | omega | focus (simp; done) | focus (simp; omega) | focus ((repeat' (with_reducible refine And.intro ?_ ?_)) <;> first | omega | rfl | (simp only [go_sem, refsL_app, refs_dmap] <;> fail) | (simp [refsL_app, refs_dmap, AV.refsL, AV.refs] <;> omega)))) | (with_reducible refine hJ _ (fun K hK => ?_) ?_ <;> clear hJ KJ) | ((with_reducible refine ev_less ?_); (refine ⟨rfl, ?_, ?_⟩ <;> simp only [go_sem, St.clean, cleanO, SubS, SubO, beq_self_eq_true, ↓reduceIte, Nat.reduceEqDiff, Nat.reduceBEq, Nat.reduceAdd, Nat.reduceMul, Nat.reduceSub, Nat.reduceLT, Nat.reduceLeDiff])) | ((with_reducible first | apply hK | (clear hK K; first | apply hK | (clear hK K; first | apply hK | (clear hK K; apply hK)))); clear hK K) | fail)
          (first | refine res_tmp rfl (by simp [D.plain, plains]) (by simp) ?_ | refine res_at rfl (by simp [D.plain, plains]) (by simp) ?_ | refine res_two rfl (by simp [D.plain, plains]) (by simp) ?_ | refine res_three rfl (by simp [D.plain, plains]) (by simp) ?_)
          have : ((List.range a.length).all fun i => decide (a.getD i [] = b.getD i [])) = false := by
            rw [List.all_eq_false]
            exact ⟨i, List.mem_range.2 hi, by rw [g]; simp⟩
          rw [this]
        · rw [g] at e1
          repeat' (first | (with_reducible first | refine aw_seq fun K hK => ?_ | refine aw_region (by kernel_rfl) ?_ | refine aw_condk ?_ | refine aw_block ?_) | ((with_reducible refine ev_aw ?_); first | (refine aw_draw (id := 6) (by kernel_rfl) _ _ (by kernel_rfl) (pl_Grid_18_6 _ (by kernel_rfl)) ?_)) | (with_reducible first | refine ru_four ?_ ?_ ?_ ?_ | refine ru_three ?_ ?_ ?_ | refine ru_two ?_ ?_ | refine rp_two ?_ ?_) | ((with_reducible refine evg ?_); simp only [go_sem, St.clean, cleanO, ↓reduceIte, Nat.reduceEqDiff, Nat.reduceBEq, Nat.reduceAdd, Nat.reduceMul, Nat.reduceSub, Nat.reduceLT, Nat.reduceLeDiff]) | (simp (disch := omega) only [wr, drop_at, str_at, int_at, Int.reduceSub, Int.reduceAdd, Int.reduceToNat, Int.toNat_zero, wr, rowsD_at]) | ((with_reducible refine ev_call ?_); (first | (refine call_fn e1 rfl ?_)); refine k_run ?_) | ((with_reducible refine ev_guard ?_); (with_reducible first | refine guard_t ?_ ?_ rfl | refine guard_f ?_ ?_ rfl) <;> (intro h; (try simp only [h]); (try simp only [nrm] at h) <;> (try ((with_reducible exfalso); omega)))) | ((with_reducible refine ck_split (fun h => ?_) (fun h => ?_)) <;> (try simp only [nrm] at h) <;> (try ((with_reducible exfalso); omega))) | ((with_reducible refine And.intro ?_ ?_); (first | omega | focus (simp; done) | focus (simp; omega) | focus ((repeat' (with_reducible refine And.intro ?_ ?_)) <;> first | omega | rfl | (simp only [go_sem, refsL_app, refs_dmap] <;> fail) | (simp [refsL_app, refs_dmap, AV.refsL, AV.refs] <;> omega)))) | (with_reducible refine hJ _ (fun K hK => ?_) ?_ <;> clear hJ KJ) | ((with_reducible refine ev_less ?_); (refine ⟨rfl, ?_, ?_⟩ <;> simp only [go_sem, St.clean, cleanO, SubS, SubO, beq_self_eq_true, ↓reduceIte, Nat.reduceEqDiff, Nat.reduceBEq, Nat.reduceAdd, Nat.reduceMul, Nat.reduceSub, Nat.reduceLT, Nat.reduceLeDiff])) | ((with_reducible first | apply hK | (clear hK K; first | apply hK | (clear hK K; first | apply hK | (clear hK K; apply hK)))); clear hK K) | fail)
          refine ⟨i + 1, ⟨by omega, ?_⟩, by omega, by (refine lessW_of [] rfl ?_ <;> simp only [St.sws, St.sw, swS, swO, AV.sw, AV.swL, OB.sw, swp, St.upd, dropS, dropOs, Less, SubS, SubO, look, lookO, List.elem, List.cons_append, List.nil_append, cond_true, cond_false, and_true, true_and, beq_self_eq_true, ↓reduceIte, Nat.reduceEqDiff, Nat.reduceBEq, Nat.reduceAdd, Nat.reduceMul, Nat.reduceSub, Nat.reduceLT, Nat.reduceLeDiff] <;> try simp)⟩
          rw [List.range_succ, List.all_append, g2, Bool.true_and, List.all_cons, g]
          rfl
      · repeat' (first | (with_reducible first | refine aw_seq fun K hK => ?_ | refine aw_region (by kernel_rfl) ?_ | refine aw_condk ?_ | refine aw_block ?_) | ((with_reducible refine ev_aw ?_); first | (refine aw_draw (id := 6) (by kernel_rfl) _ _ (by kernel_rfl) (pl_Grid_18_6 _ (by kernel_rfl)) ?_)) | (with_reducible first | refine ru_four ?_ ?_ ?_ ?_ | refine ru_three ?_ ?_ ?_ | refine ru_two ?_ ?_ | refine rp_two ?_ ?_) | ((with_reducible refine evg ?_); simp only [go_sem, St.clean, cleanO, ↓reduceIte, Nat.reduceEqDiff, Nat.reduceBEq, Nat.reduceAdd, Nat.reduceMul, Nat.reduceSub, Nat.reduceLT, Nat.reduceLeDiff]) | (simp (disch := omega) only [wr, drop_at, str_at, int_at, Int.reduceSub, Int.reduceAdd, Int.reduceToNat, Int.toNat_zero, wr]) | ((with_reducible refine ev_guard ?_); (with_reducible first | refine guard_t ?_ ?_ rfl | refine guard_f ?_ ?_ rfl) <;> (intro h; (try simp only [h]); (try simp only [nrm] at h) <;> (try ((with_reducible exfalso); omega)))) | ((with_reducible refine ck_split (fun h => ?_) (fun h => ?_)) <;> (try simp only [nrm] at h) <;> (try ((with_reducible exfalso); omega))) | ((with_reducible refine And.intro ?_ ?_); (first | omega | focus (simp; done) | focus (simp; omega) | focus ((repeat' (with_reducible refine And.intro ?_ ?_)) <;> first | omega | rfl | (simp only [go_sem, refsL_app, refs_dmap] <;> fail) | (simp [refsL_app, refs_dmap, AV.refsL, AV.refs] <;> omega)))) | (with_reducible refine hJ _ (fun K hK => ?_) ?_ <;> clear hJ KJ) | ((with_reducible refine ev_less ?_); (refine ⟨rfl, ?_, ?_⟩ <;> simp only [go_sem, St.clean, cleanO, SubS, SubO, beq_self_eq_true, ↓reduceIte, Nat.reduceEqDiff, Nat.reduceBEq, Nat.reduceAdd, Nat.reduceMul, Nat.reduceSub, Nat.reduceLT, Nat.reduceLeDiff])) | ((with_reducible first | apply hK | (clear hK K; first | apply hK | (clear hK K; first | apply hK | (clear hK K; apply hK)))); clear hK K) | fail)
        have e : i = a.length := by omega
        subst e
        (first | refine res_tmp rfl (by simp [D.plain, plains]) (by simp) ?_ | refine res_at rfl (by simp [D.plain, plains]) (by simp) ?_ | refine res_two rfl (by simp [D.plain, plains]) (by simp) ?_ | refine res_three rfl (by simp [D.plain, plains]) (by simp) ?_)
        rw [g2]
  · rw [decide_eq_false (fun e => hlen (by rw [e]))]
    refine fn_go Try.func18 rfl rfl Try.ntmps18 Try.results18 (by simp only [slotsOf, argAV, List.map_cons, List.map_nil, Nat.reduceAdd]; rfl) (by simp) ?_
    repeat' (first | (with_reducible first | refine aw_seq fun K hK => ?_ | refine aw_region (by kernel_rfl) ?_ | refine aw_condk ?_ | refine aw_block ?_) | ((with_reducible refine ev_aw ?_); first | (refine aw_draw (id := 6) (by kernel_rfl) _ _ (by kernel_rfl) (pl_Grid_18_6 _ (by kernel_rfl)) ?_)) | (with_reducible first | refine ru_four ?_ ?_ ?_ ?_ | refine ru_three ?_ ?_ ?_ | refine ru_two ?_ ?_ | refine rp_two ?_ ?_) | ((with_reducible refine evg ?_); simp only [go_sem, St.clean, cleanO, ↓reduceIte, Nat.reduceEqDiff, Nat.reduceBEq, Nat.reduceAdd, Nat.reduceMul, Nat.reduceSub, Nat.reduceLT, Nat.reduceLeDiff]) | (simp (disch := omega) only [wr, drop_at, str_at, int_at, Int.reduceSub, Int.reduceAdd, Int.reduceToNat, Int.toNat_zero, wr]) | ((with_reducible refine ev_guard ?_); (with_reducible first | refine guard_t ?_ ?_ rfl | refine guard_f ?_ ?_ rfl) <;> (intro h; (try simp only [h]); (try simp only [nrm] at h) <;> (try ((with_reducible exfalso); omega)))) | ((with_reducible refine ck_split (fun h => ?_) (fun h => ?_)) <;> (try simp only [nrm] at h) <;> (try ((with_reducible exfalso); omega))) | ((with_reducible refine And.intro ?_ ?_); (first | omega | focus (simp; done) | focus (simp; omega) | focus ((repeat' (with_reducible refine And.intro ?_ ?_)) <;> first | omega | rfl | (simp only [go_sem, refsL_app, refs_dmap] <;> fail) | (simp [refsL_app, refs_dmap, AV.refsL, AV.refs] <;> omega)))) | (with_reducible refine hJ _ (fun K hK => ?_) ?_ <;> clear hJ KJ) | ((with_reducible refine ev_less ?_); (refine ⟨rfl, ?_, ?_⟩ <;> simp only [go_sem, St.clean, cleanO, SubS, SubO, beq_self_eq_true, ↓reduceIte, Nat.reduceEqDiff, Nat.reduceBEq, Nat.reduceAdd, Nat.reduceMul, Nat.reduceSub, Nat.reduceLT, Nat.reduceLeDiff])) | ((with_reducible first | apply hK | (clear hK K; first | apply hK | (clear hK K; first | apply hK | (clear hK K; apply hK)))); clear hK K) | fail)
    (first | refine res_tmp rfl (by simp [D.plain, plains]) (by simp) ?_ | refine res_at rfl (by simp [D.plain, plains]) (by simp) ?_ | refine res_two rfl (by simp [D.plain, plains]) (by simp) ?_ | refine res_three rfl (by simp [D.plain, plains]) (by simp) ?_)
    rfl

/-- Rows with numbers from k on. -/
def numsR : Int → List Nat → List (List Int)
  | _, [] => []
  | k, n :: r => nums k n :: numsR (k + n) r

@[simp] theorem numsR_len (k : Int) (ls : List Nat) : (numsR k ls).length = ls.length := by
  induction ls generalizing k with
  | nil => rfl
  | cons n r ih => simp [numsR, ih]

theorem numsR_snoc (k : Int) (ls : List Nat) (n : Nat) : numsR k (ls ++ [n]) = numsR k ls ++ [nums (k + (ls.sum : Nat)) n] := by
  induction ls generalizing k with
  | nil => simp [numsR]
  | cons m r ih =>
    simp only [List.cons_append, numsR, ih, List.sum_cons]
    congr 4
    omega

theorem numsR_at {k : Int} {ls : List Nat} {i : Nat} (h : i < ls.length) : (numsR k ls).getD i [] = nums (k + ((ls.take i).sum : Nat)) (ls.getD i 0) := by
  induction ls generalizing k i with
  | nil => simp at h
  | cons m r ih =>
    cases i with
    | zero => simp [numsR]
    | succ i =>
      simp only [numsR, List.getD_cons_succ, List.take_succ_cons, List.sum_cons]
      rw [ih (by simpa using h)]
      congr 1
      omega

theorem sum_take {ls : List Nat} {i : Nat} (h : i < ls.length) : (ls.take (i + 1)).sum = (ls.take i).sum + ls.getD i 0 := by
  rw [take_next 0 h]
  simp

theorem sum_le (ls : List Nat) (i : Nat) : (ls.take i).sum ≤ ls.sum := by
  have : ls.sum = (ls.take i).sum + (ls.drop i).sum := by rw [← List.sum_append_nat, List.take_append_drop]
  omega

set_option maxRecDepth 100000 in
set_option maxHeartbeats 4000000 in
theorem heldIntSS_fn (k : Int) (ls : List Nat) (hl : ls.length ≤ 1048576) (ht : ls.sum ≤ 1048576) (h0 : 0 ≤ k) (h1 : k ≤ 1000000) : FnD Try.prog 20 [gridD (numsR k ls), .int k] (.int (k + (ls.sum : Nat))) := by
  have hlen := numsR_len k ls
  refine fn_go Try.func20 rfl rfl Try.ntmps20 Try.results20 (by simp only [slotsOf, argAV, List.map_cons, List.map_nil, Nat.reduceAdd]; rfl) (by simp) ?_
  repeat' (first | (with_reducible first | refine aw_seq fun K hK => ?_ | refine aw_region (by kernel_rfl) ?_ | refine aw_condk ?_ | refine aw_block ?_) | ((with_reducible refine evg ?_); simp only [go_sem, ↓reduceIte, Nat.reduceEqDiff, Nat.reduceBEq, Nat.reduceAdd, Nat.reduceMul, Nat.reduceSub, Nat.reduceLT, Nat.reduceLeDiff]) | (simp (disch := omega) only [wr, drop_at, str_at, int_at, Int.reduceSub, Int.reduceAdd, Int.reduceToNat, Int.toNat_zero, wr]) | ((with_reducible refine ev_guard ?_); (with_reducible first | refine guard_t ?_ ?_ rfl | refine guard_f ?_ ?_ rfl) <;> (intro h; (try simp only [h]); (try simp only [nrm] at h) <;> (try ((with_reducible exfalso); omega)))) | ((with_reducible refine ck_split (fun h => ?_) (fun h => ?_)) <;> (try simp only [nrm] at h) <;> (try ((with_reducible exfalso); omega))) | ((with_reducible refine And.intro ?_ ?_); (first | omega | focus (simp; done) | focus (simp; omega) | focus ((repeat' (with_reducible refine And.intro ?_ ?_)) <;> first | omega | rfl | (simp only [go_sem, refsL_app, refs_dmap] <;> fail) | (simp [refsL_app, refs_dmap, AV.refsL, AV.refs] <;> omega)))) | ((with_reducible first | apply hK | (clear hK K; first | apply hK | (clear hK K; first | apply hK | (clear hK K; apply hK)))); clear hK K) | fail)
  refine aw_loopU [1, 4, 5, 6, 7, 8, 9, 10, 11, 12, 13, 14, 15, 16, 17, 18, 19] [8, 17] (fun i : Nat => [(5, .d (.int i)), (1, .d (.int (k + ((ls.take i).sum : Nat))))]) (fun _ => []) (fun i => i ≤ ls.length) (fun i => ls.length - i) 0 (by omega) ?_ ?_
  · (refine lessW_of [] rfl ?_ <;> simp only [St.sws, St.sw, swS, swO, AV.sw, AV.swL, OB.sw, swp, St.upd, dropS, dropOs, Less, SubS, SubO, look, lookO, List.elem, List.cons_append, List.nil_append, cond_true, cond_false, and_true, true_and, beq_self_eq_true, ↓reduceIte, Nat.reduceEqDiff, Nat.reduceBEq, Nat.reduceAdd, Nat.reduceMul, Nat.reduceSub, Nat.reduceLT, Nat.reduceLeDiff] <;> try simp)
  · rintro i g1
    simp only [St.upd, dropS, dropOs, List.elem, List.cons_append, List.nil_append, cond_true, cond_false, beq_self_eq_true, ↓reduceIte, Nat.reduceEqDiff, Nat.reduceBEq, Nat.reduceAdd, Nat.reduceMul, Nat.reduceSub, Nat.reduceLT, Nat.reduceLeDiff]
    have hs := sum_le ls i
    by_cases hi : i < ls.length
    · have e1 := heldIntS_fn (k + ((ls.take i).sum : Nat)) (ls.getD i 0) (by have := sum_take hi; have := sum_le ls (i + 1); omega) (by omega) (by omega)
      have e2 : (rowsD (numsR k ls)).getD i (.v undef) = .ls 1 (ls.getD i 0) ((nums (k + ((ls.take i).sum : Nat)) (ls.getD i 0)).map D.int) := by
        rw [rowsD_at (by omega), numsR_at hi, nums_len]
      repeat' (first | (with_reducible first | refine aw_seq fun K hK => ?_ | refine aw_region (by kernel_rfl) ?_ | refine aw_condk ?_ | refine aw_block ?_) | ((with_reducible refine evg ?_); simp only [go_sem, ↓reduceIte, Nat.reduceEqDiff, Nat.reduceBEq, Nat.reduceAdd, Nat.reduceMul, Nat.reduceSub, Nat.reduceLT, Nat.reduceLeDiff]) | (simp (disch := omega) only [wr, drop_at, str_at, int_at, Int.reduceSub, Int.reduceAdd, Int.reduceToNat, Int.toNat_zero, wr, e2]) | ((with_reducible refine ev_call ?_); (first | (refine call_fn e1 rfl ?_)); refine k_run ?_) | ((with_reducible refine ev_guard ?_); (with_reducible first | refine guard_t ?_ ?_ rfl | refine guard_f ?_ ?_ rfl) <;> (intro h; (try simp only [h]); (try simp only [nrm] at h) <;> (try ((with_reducible exfalso); omega)))) | ((with_reducible refine ck_split (fun h => ?_) (fun h => ?_)) <;> (try simp only [nrm] at h) <;> (try ((with_reducible exfalso); omega))) | ((with_reducible refine And.intro ?_ ?_); (first | omega | focus (simp; done) | focus (simp; omega) | focus ((repeat' (with_reducible refine And.intro ?_ ?_)) <;> first | omega | rfl | (simp only [go_sem, refsL_app, refs_dmap] <;> fail) | (simp [refsL_app, refs_dmap, AV.refsL, AV.refs] <;> omega)))) | ((with_reducible first | apply hK | (clear hK K; first | apply hK | (clear hK K; first | apply hK | (clear hK K; apply hK)))); clear hK K) | fail)
      all_goals first
        | exact absurd trivial h
        | skip
      refine ⟨i + 1, by omega, by omega, ?_⟩
      rw [sum_take hi]
      (refine lessW_of [] rfl ?_ <;> simp only [St.sws, St.sw, swS, swO, AV.sw, AV.swL, OB.sw, swp, St.upd, dropS, dropOs, Less, SubS, SubO, look, lookO, List.elem, List.cons_append, List.nil_append, cond_true, cond_false, and_true, true_and, beq_self_eq_true, ↓reduceIte, Nat.reduceEqDiff, Nat.reduceBEq, Nat.reduceAdd, Nat.reduceMul, Nat.reduceSub, Nat.reduceLT, Nat.reduceLeDiff] <;> try simp)
      all_goals omega
    · repeat' (first | (with_reducible first | refine aw_seq fun K hK => ?_ | refine aw_region (by kernel_rfl) ?_ | refine aw_condk ?_ | refine aw_block ?_) | ((with_reducible refine evg ?_); simp only [go_sem, ↓reduceIte, Nat.reduceEqDiff, Nat.reduceBEq, Nat.reduceAdd, Nat.reduceMul, Nat.reduceSub, Nat.reduceLT, Nat.reduceLeDiff]) | (simp (disch := omega) only [wr, drop_at, str_at, int_at, Int.reduceSub, Int.reduceAdd, Int.reduceToNat, Int.toNat_zero, wr]) | ((with_reducible refine ev_guard ?_); (with_reducible first | refine guard_t ?_ ?_ rfl | refine guard_f ?_ ?_ rfl) <;> (intro h; (try simp only [h]); (try simp only [nrm] at h) <;> (try ((with_reducible exfalso); omega)))) | ((with_reducible refine ck_split (fun h => ?_) (fun h => ?_)) <;> (try simp only [nrm] at h) <;> (try ((with_reducible exfalso); omega))) | ((with_reducible refine And.intro ?_ ?_); (first | omega | focus (simp; done) | focus (simp; omega) | focus ((repeat' (with_reducible refine And.intro ?_ ?_)) <;> first | omega | rfl | (simp only [go_sem, refsL_app, refs_dmap] <;> fail) | (simp [refsL_app, refs_dmap, AV.refsL, AV.refs] <;> omega)))) | ((with_reducible first | apply hK | (clear hK K; first | apply hK | (clear hK K; first | apply hK | (clear hK K; apply hK)))); clear hK K) | fail)
      have e : i = ls.length := by omega
      subst e
      (first | refine res_tmp rfl (by simp [D.plain, plains]) (by simp) ?_ | refine res_at rfl (by simp [D.plain, plains]) (by simp) ?_ | refine res_two rfl (by simp [D.plain, plains]) (by simp) ?_ | refine res_three rfl (by simp [D.plain, plains]) (by simp) ?_)
      simp

theorem nums_lens (k : Int) (ls : List Nat) : lens (numsR k ls) = ls := by
  induction ls generalizing k with
  | nil => rfl
  | cons n r ih =>
    have := ih (k + n)
    simp only [lens] at this
    simp [numsR, lens, this]

theorem numsR_lens (k : Int) (ls : List Nat) : lens (numsR k ls) = ls := nums_lens k ls

theorem toD_nums {ob : List (Nat × OB)} {s B n m : Nat} {k : Int} {ls : List Nat} (h1 : lookO ob s = some (.av (gridC B ls))) (h2 : HasG ob B (numsR k ls)) (hn : n = ls.length) : toD ob (m + 2) (.bs s 0 n 1) = some (.ls 1 (numsR k ls).length (rowsD (numsR k ls))) := by
  subst hn
  have e : (numsR k ls).length = ls.length := numsR_len k ls
  have := toD_grid (m := m) (s := s) (n := ls.length) (by rw [h1, numsR_lens]) h2 e.symm
  rw [this, e]

/-- The first i rows marked. -/
def mkR (k : Int) (zs : List (List Int)) (i : Nat) : List (List Int) := numsR k (lens (zs.take i)) ++ zs.drop i

theorem mkR_len {k : Int} {zs : List (List Int)} {i : Nat} (h : i ≤ zs.length) : (mkR k zs i).length = zs.length := by
  simp [mkR]
  omega

theorem mkR_at {k : Int} {zs : List (List Int)} {i : Nat} (h : i ≤ zs.length) : (mkR k zs i).getD i [] = zs.getD i [] := by
  have e : (numsR k (lens (zs.take i))).length = i := by simp; omega
  rw [mkR, List.getD_eq_getElem?_getD, List.getElem?_append_right (by omega), e]
  simp [List.getD_eq_getElem?_getD]

theorem lens_sum (zs : List (List Int)) : (lens zs).sum = tot zs := rfl

theorem mkR_set {k : Int} {zs : List (List Int)} {i : Nat} (h : i < zs.length) : (mkR k zs i).set i (nums (k + (tot (zs.take i) : Nat)) (zs.getD i []).length) = mkR k zs (i + 1) := by
  have e : (numsR k (lens (zs.take i))).length = i := by simp; omega
  rw [mkR, List.set_append_right _ _ (by omega), e, mkR, lens_take h, numsR_snoc, lens_sum, Nat.sub_self, drop_next [] h, List.set_cons_zero, List.append_assoc]
  rfl

theorem lens_at {zs : List (List Int)} {i : Nat} (h : i < zs.length) : (lens zs).getD i 0 = (zs.getD i []).length := by
  simp [lens, List.getD_eq_getElem?_getD, h]

theorem tot_take {zs : List (List Int)} {i : Nat} (h : i < zs.length) : tot (zs.take (i + 1)) = tot (zs.take i) + (zs.getD i []).length := by
  rw [← lens_sum, ← lens_sum, lens_take h]
  simp

theorem tot_le (zs : List (List Int)) (i : Nat) : tot (zs.take i) ≤ tot zs := by
  have := sum_le (lens zs) i
  rw [← lens_sum, ← lens_sum, lens, List.map_take]
  exact this

set_option maxRecDepth 100000 in
set_option maxHeartbeats 4000000 in
theorem markIntSS_hi (zs : List (List Int)) (k : Int) (hl : zs.length ≤ 1048576) (ht : tot zs ≤ 1048576) (h0 : 0 ≤ k) (h1 : k ≤ 1000000) : FnS Try.prog 19 ((5000, .av (gridC 10000 (lens zs))) :: gridO 10000 zs []) [.bs 5000 0 zs.length 1, .d (.int k)] ((5000, .av (gridC 10000 (lens zs))) :: gridO 10000 (numsR k (lens zs)) []) (.d (.int (k + (tot zs : Nat)))) := by
  refine fns_go Try.func19 rfl rfl Try.ntmps19 Try.results19 (by simp only [slotsA, Nat.reduceAdd]; rfl) (by simp) (by simp (disch := omega) only [geAll, geAll_grid]; rfl) ?_
  repeat' (first | (with_reducible first | refine aw_seq fun K hK => ?_ | refine aw_region (by kernel_rfl) ?_ | refine aw_condk ?_ | refine aw_block ?_) | ((with_reducible refine evg ?_); simp only [go_sem, ↓reduceIte, Nat.reduceEqDiff, Nat.reduceBEq, Nat.reduceAdd, Nat.reduceMul, Nat.reduceSub, Nat.reduceLT, Nat.reduceLeDiff]) | (simp (disch := omega) only [wr, drop_at, str_at, int_at, Int.reduceSub, Int.reduceAdd, Int.reduceToNat, Int.toNat_zero, wr]) | ((with_reducible refine ev_guard ?_); (with_reducible first | refine guard_t ?_ ?_ rfl | refine guard_f ?_ ?_ rfl) <;> (intro h; (try simp only [h]); (try simp only [nrm] at h) <;> (try ((with_reducible exfalso); omega)))) | ((with_reducible refine ck_split (fun h => ?_) (fun h => ?_)) <;> (try simp only [nrm] at h) <;> (try ((with_reducible exfalso); omega))) | ((with_reducible refine And.intro ?_ ?_); (first | omega | focus (simp; done) | focus (simp; omega) | focus ((repeat' (with_reducible refine And.intro ?_ ?_)) <;> first | omega | rfl | (simp only [go_sem, refsL_app, refs_dmap] <;> fail) | (simp [refsL_app, refs_dmap, AV.refsL, AV.refs] <;> omega)))) | ((with_reducible first | apply hK | (clear hK K; first | apply hK | (clear hK K; first | apply hK | (clear hK K; apply hK)))); clear hK K) | fail)
  refine aw_loopG [1, 5, 6, 7, 8, 9, 10, 11, 12, 13, 14, 15, 16, 17] [8, 17] 10000 (fun i : Nat => [(5, .d (.int i)), (1, .d (.int (k + (tot (zs.take i) : Nat))))]) (fun i => gridO 10000 (mkR k zs i) []) (fun i => i ≤ zs.length) (fun i => zs.length - i) 0 (by omega) ?_ ?_
  · (refine lessW_of [] ?_ ?_ <;> simp (disch := omega) only [okSw, decide_eq_true_eq, Bool.and_eq_true, Bool.or_eq_true, St.updG, St.asAv, avO, dropGe, dropGe_grid, subO_grid, gridO_nil, gridO_app, gridQ_put, take_zero, hasG_nil, hasG_snoc, hasG_cons, hasG_next, hasG_self, hasG_lo, hasG_hi, lookO_lo, lookO_hi, lookO_row, lookKN, swO_grid, swO_grid0, gridC_sw0, gridC_sw, St.sws, St.sw, swS, swO, AV.sw, AV.swL, OB.sw, swp, St.upd, dropS, dropOs, Less, SubS, SubO, look, lookO, List.elem, List.cons_append, List.nil_append, cond_true, cond_false, and_true, true_and, beq_self_eq_true, ↓reduceIte, Nat.reduceEqDiff, Nat.reduceBEq, Nat.reduceAdd, Nat.reduceMul, Nat.reduceSub, Nat.reduceLT, Nat.reduceLeDiff] <;> try simp)
    refine ⟨by simp [tot], ?_⟩
    rw [show mkR k zs 0 = zs by simp [mkR, lens, numsR], hasG_self]
    trivial
  · rintro i g1
    simp only [St.updG, St.asAv, avO, dropS, dropOs, dropGe, dropGe_grid, dropGe_keep, gridO_nil, List.elem, List.cons_append, List.nil_append, gridO_app, cond_true, cond_false, beq_self_eq_true, ↓reduceIte, Nat.reduceEqDiff, Nat.reduceBEq, Nat.reduceAdd, Nat.reduceMul, Nat.reduceSub, Nat.reduceLT, Nat.reduceLeDiff]
    have hm1 := mkR_len (k := k) g1
    have hm2 := mkR_at (k := k) g1
    have hb := tot_le zs i
    by_cases hi : i < zs.length
    · have hs := tot_take hi
      have hs2 := tot_le zs (i + 1)
      have e3 := markIntS_s (i + 10000) (zs.getD i []) (k + (tot (zs.take i) : Nat)) (by omega) (by omega) (by omega)
      have hat : (gridC 10000 (lens zs)).getD i .un = .bs (i + 10000) 0 (zs.getD i []).length 1 := by rw [gridC_at (by simpa using hi), lens_at hi]
      have hrow : lookO (gridO 10000 (mkR k zs i) [(5000, .av (gridC 10000 (lens zs)))]) (i + 10000) = some (.ds ((zs.getD i []).map D.int)) := by
        rw [lookO_row (by omega), hm2]
      repeat' (first | (with_reducible first | refine aw_seq fun K hK => ?_ | refine aw_region (by kernel_rfl) ?_ | refine aw_condk ?_ | refine aw_block ?_) | ((with_reducible refine evg ?_); simp only [go_sem, ↓reduceIte, Nat.reduceEqDiff, Nat.reduceBEq, Nat.reduceAdd, Nat.reduceMul, Nat.reduceSub, Nat.reduceLT, Nat.reduceLeDiff]) | (simp (disch := omega) only [wr, drop_at, str_at, int_at, Int.reduceSub, Int.reduceAdd, Int.reduceToNat, Int.toNat_zero, wr, hat, lookO_row, lookKN]) | ((with_reducible refine ev_call ?_); (first | (refine call_row e3 rfl hrow ?_ )); refine k_run ?_) | ((with_reducible refine ev_guard ?_); (with_reducible first | refine guard_t ?_ ?_ rfl | refine guard_f ?_ ?_ rfl) <;> (intro h; (try simp only [h]); (try simp only [nrm] at h) <;> (try ((with_reducible exfalso); omega)))) | ((with_reducible refine ck_split (fun h => ?_) (fun h => ?_)) <;> (try simp only [nrm] at h) <;> (try ((with_reducible exfalso); omega))) | ((with_reducible refine And.intro ?_ ?_); (first | omega | focus (simp; done) | focus (simp; omega) | focus ((repeat' (with_reducible refine And.intro ?_ ?_)) <;> first | omega | rfl | (simp only [go_sem, refsL_app, refs_dmap] <;> fail) | (simp [refsL_app, refs_dmap, AV.refsL, AV.refs] <;> omega)))) | ((with_reducible first | apply hK | (clear hK K; first | apply hK | (clear hK K; first | apply hK | (clear hK K; apply hK)))); clear hK K) | fail)
      refine ⟨i + 1, by omega, by omega, ?_⟩
      have q := mkR_set (k := k) hi
      rw [← q, hs]
      (refine lessW_of [] ?_ ?_ <;> simp (disch := omega) only [okSw, decide_eq_true_eq, Bool.and_eq_true, Bool.or_eq_true, St.updG, St.asAv, avO, dropGe, dropGe_grid, subO_grid, gridO_nil, gridO_app, gridQ_put, take_zero, hasG_nil, hasG_snoc, hasG_cons, hasG_next, hasG_self, hasG_lo, hasG_hi, lookO_lo, lookO_hi, lookO_row, lookKN, swO_grid, swO_grid0, gridC_sw0, gridC_sw, St.sws, St.sw, swS, swO, AV.sw, AV.swL, OB.sw, swp, St.upd, dropS, dropOs, Less, SubS, SubO, look, lookO, List.elem, List.cons_append, List.nil_append, cond_true, cond_false, and_true, true_and, beq_self_eq_true, ↓reduceIte, Nat.reduceEqDiff, Nat.reduceBEq, Nat.reduceAdd, Nat.reduceMul, Nat.reduceSub, Nat.reduceLT, Nat.reduceLeDiff] <;> try simp)
      exact ⟨by omega, hasG_set (by omega)⟩
    · repeat' (first | (with_reducible first | refine aw_seq fun K hK => ?_ | refine aw_region (by kernel_rfl) ?_ | refine aw_condk ?_ | refine aw_block ?_) | ((with_reducible refine evg ?_); simp only [go_sem, ↓reduceIte, Nat.reduceEqDiff, Nat.reduceBEq, Nat.reduceAdd, Nat.reduceMul, Nat.reduceSub, Nat.reduceLT, Nat.reduceLeDiff]) | (simp (disch := omega) only [wr, drop_at, str_at, int_at, Int.reduceSub, Int.reduceAdd, Int.reduceToNat, Int.toNat_zero, wr]) | ((with_reducible refine ev_guard ?_); (with_reducible first | refine guard_t ?_ ?_ rfl | refine guard_f ?_ ?_ rfl) <;> (intro h; (try simp only [h]); (try simp only [nrm] at h) <;> (try ((with_reducible exfalso); omega)))) | ((with_reducible refine ck_split (fun h => ?_) (fun h => ?_)) <;> (try simp only [nrm] at h) <;> (try ((with_reducible exfalso); omega))) | ((with_reducible refine And.intro ?_ ?_); (first | omega | focus (simp; done) | focus (simp; omega) | focus ((repeat' (with_reducible refine And.intro ?_ ?_)) <;> first | omega | rfl | (simp only [go_sem, refsL_app, refs_dmap] <;> fail) | (simp [refsL_app, refs_dmap, AV.refsL, AV.refs] <;> omega)))) | ((with_reducible first | apply hK | (clear hK K; first | apply hK | (clear hK K; first | apply hK | (clear hK K; apply hK)))); clear hK K) | fail)
      have e : i = zs.length := by omega
      subst e
      have e2 : mkR k zs zs.length = numsR k (lens zs) := by simp [mkR]
      rw [e2, List.take_length]
      exact ress_grid (by decide) rfl (numsR_lens k (lens zs)) (by rw [lookO_lo (by decide)]; rfl) (by rw [hasG_self]; trivial) rfl

theorem markIntSS_1 (s : Nat) (zs : List (List Int)) (k : Int) (hl : zs.length ≤ 1048576) (ht : tot zs ≤ 1048576) (h0 : 0 ≤ k) (h1 : k ≤ 1000000) (hs : s < 1000000000) : FnS Try.prog 19 ((s, .av (gridC 1000000000 (lens zs))) :: gridO 1000000000 zs []) [.bs s 0 zs.length 1, .d (.int k)] ((s, .av (gridC 1000000000 (lens zs))) :: gridO 1000000000 (numsR k (lens zs)) []) (.d (.int (k + (tot zs : Nat)))) :=
  FnS.grid1 (args := [.int k]) (markIntSS_hi zs k hl ht h0 h1) s (by simp; omega) (by simp; omega) (by omega) (by simp; omega) hs

end Go.Proofs.Ytaegdaimjhhgpaa
