/- LayerCells: contracts and the law. -/
import Derived.Test.YtaegdaimjhhgpaaTinC
import Derived.WalkKit
import Derived.WalkSpells
import Derived.KernelRfl
namespace Go.Proofs.Ytaegdaimjhhgpaa
open Go.RowKit
set_option linter.unusedVariables false
set_option linter.unusedSimpArgs false

attribute [local go_sem] intL gridD ArmsV.d rowsD_len

attribute [local simp] ints_plain ints_all ints_all1 ints_plain_take

theorem toNat_1 : Int.toNat 1 = 1 := rfl

theorem toNat_2 : Int.toNat 2 = 2 := rfl

theorem toNat_3 : Int.toNat 3 = 3 := rfl

attribute [local go_sem] toNat_1 toNat_2 toNat_3

theorem flat_map (f : Int → Int) {A B : List (List Int)} (hA : ok20 A) (hB : ok20 B) (h : ∀ a b, a < 20 → b < 24 → (A.getD b []).getD a 0 = f ((B.getD b []).getD a 0)) : A.flatten = B.flatten.map f := by
  have e : A = B.map (List.map f) := by
    apply List.ext_getElem (by simp [hA.1, hB.1])
    intro b h1 h2
    have hb : b < 24 := by have := hA.1; omega
    have hb2 : b < B.length := by have := hB.1; omega
    have hr1 := hA.2 b hb
    have hr2 := hB.2 b hb
    rw [List.getElem_map]
    simp only [List.getD_eq_getElem?_getD, List.getElem?_eq_getElem h1, List.getElem?_eq_getElem hb2, Option.getD_some] at hr1 hr2
    apply List.ext_getElem (by rw [List.length_map, hr1, hr2])
    intro a h3 h4
    have ha : a < 20 := by omega
    have ha2 : a < (B[b]'hb2).length := by omega
    have := h a b ha hb
    simp only [List.getD_eq_getElem?_getD, List.getElem?_eq_getElem h1, List.getElem?_eq_getElem hb2, Option.getD_some, List.getElem?_eq_getElem h3, List.getElem?_eq_getElem ha2] at this
    rw [List.getElem_map]
    exact this
  rw [e, List.map_flatten]

theorem flat_mem {A : List (List Int)} (hA : ok20 A) {v : Int} (h : v ∈ A.flatten) : ∃ a b, a < 20 ∧ b < 24 ∧ v = (A.getD b []).getD a 0 := by
  obtain ⟨r, hr, hv⟩ := List.mem_flatten.1 h
  obtain ⟨b, hb, rfl⟩ := List.getElem_of_mem hr
  obtain ⟨a, ha, rfl⟩ := List.getElem_of_mem hv
  have hb2 : b < 24 := by have := hA.1; omega
  have hr := hA.2 b hb2
  simp only [List.getD_eq_getElem?_getD, List.getElem?_eq_getElem hb, Option.getD_some] at hr
  refine ⟨a, b, by omega, hb2, ?_⟩
  simp only [List.getD_eq_getElem?_getD, List.getElem?_eq_getElem hb, Option.getD_some, List.getElem?_eq_getElem ha]

theorem count_map {l : List Int} {f : Int → Int} {i j : Int} (h : ∀ v ∈ l, (f v = i ↔ v = j)) : (l.map f).count i = l.count j := by
  induction l with
  | nil => rfl
  | cons v l ih =>
    have h1 := h v (List.mem_cons_self ..)
    have h2 := ih fun w hw => h w (List.mem_cons_of_mem _ hw)
    rw [List.map_cons, List.count_cons, List.count_cons, h2]
    by_cases e : v = j
    · have e2 : f v = i := h1.2 e
      subst e
      simp [e2]
    · have e2 : ¬ f v = i := fun q => e (h1.1 q)
      simp [e, e2]

def layN (x : ArmsV) (k : Int) : Int := (((S4 x).flatten.count k : Nat) : Int)

def layL (x : ArmsV) : List Int := [layN x 1] ++ (if x.o = 0 then [] else [layN x 2]) ++ (if noGroup x.c1 x.k1 x.a1 x.t1 then [] else [layN x 3]) ++ (if noGroup x.c2 x.k2 x.a2 x.t2 then [] else [layN x 4])

theorem cov_nil {g : GrpV} {a b : Nat} : cov g [] a b = false := rfl

theorem S4_mem {x : ArmsV} {v : Int} (h : v ∈ (S4 x).flatten) : (v = 0 ∨ v = 1 ∨ v = 2 ∨ v = 3 ∨ v = 4) ∧ (x.o = 0 → v ≠ 2) ∧ (noGroup x.c1 x.k1 x.a1 x.t1 = true → v ≠ 3) ∧ (noGroup x.c2 x.k2 x.a2 x.t2 = true → v ≠ 4) := by
  obtain ⟨a, b, ha, hb, rfl⟩ := flat_mem (S4_ok x) h
  rw [S4_at x ha hb]
  refine ⟨kindZ_in x a b, fun q => ?_, fun q => ?_, fun q => ?_⟩
  · have h1 : lay2 x a b = 1 := by
      rw [lay2, if_neg (fun p => p.1 q)]
    unfold kindZ
    split
    · omega
    · split
      · omega
      · split
        · omega
        · omega
  · have h1 : onL x = [] := grpP_no q
    have h2 := lay2_in x a b
    unfold kindZ
    rw [h1, cov_nil]
    split
    · omega
    · rw [if_neg (by decide)]
      split <;> omega
  · have h1 : arL x = [] := grpP_no q
    have h2 := lay2_in x a b
    unfold kindZ
    rw [h1, cov_nil]
    rw [if_neg (by decide)]
    split
    · omega
    · split <;> omega

theorem L4_flat (x : ArmsV) : (L4 x).flatten = (S4 x).flatten.map (rankZ x) := flat_map (rankZ x) (L4_ok x) (S4_ok x) fun a b ha hb => by
  rw [L4_at x ha hb, S4_at x ha hb]

theorem cnt_rank {x : ArmsV} {i j : Int} (h : ∀ v : Int, ((v = 0 ∨ v = 1 ∨ v = 2 ∨ v = 3 ∨ v = 4) ∧ (x.o = 0 → v ≠ 2) ∧ (noGroup x.c1 x.k1 x.a1 x.t1 = true → v ≠ 3) ∧ (noGroup x.c2 x.k2 x.a2 x.t2 = true → v ≠ 4)) → (rankZ x v = i ↔ v = j)) : (((L4 x).flatten.count i : Nat) : Int) = layN x j := by
  rw [L4_flat, layN, count_map fun v hv => h v (S4_mem hv)]

theorem lay_eq (x : ArmsV) (hok : okArms x = true) : cntT (L4 x).flatten (c4 x).toNat = layL x := by
  have hin := okArms_in hok
  have hr : ∀ v, rankZ x v = if v = 4 then c4 x else if v = 3 then c3 x else v := fun v => rfl
  have h3 : c3 x = if noGroup x.c1 x.k1 x.a1 x.t1 then c2 x else c2 x + 1 := rfl
  have h4 : c4 x = if noGroup x.c2 x.k2 x.a2 x.t2 then c3 x else c3 x + 1 := rfl
  have h2 : c2 x = if x.o = 0 then 1 else 2 := rfl
  have key : ∀ i j : Int, (∀ v : Int, ((v = 0 ∨ v = 1 ∨ v = 2 ∨ v = 3 ∨ v = 4) ∧ (x.o = 0 → v ≠ 2) ∧ (noGroup x.c1 x.k1 x.a1 x.t1 = true → v ≠ 3) ∧ (noGroup x.c2 x.k2 x.a2 x.t2 = true → v ≠ 4)) → (rankZ x v = i ↔ v = j)) → (((L4 x).flatten.count i : Nat) : Int) = layN x j := fun i j h => cnt_rank h
  unfold layL
  generalize (L4 x).flatten = F at *
  cases n1 : noGroup x.c1 x.k1 x.a1 x.t1 <;> cases n2 : noGroup x.c2 x.k2 x.a2 x.t2 <;> by_cases ho : x.o = 0
  all_goals
    simp only [n1, n2, ho, if_true, if_false, Bool.false_eq_true] at h2 h3 h4 key ⊢
    rw [h2] at h3
    rw [h3] at h4
  · rw [h4]
    have k1 := key 1 1 (by
      intro v hv
      rw [hr, h3, h4]
      simp at hv
      (repeat' split) <;> omega)
    have k2 := key 2 3 (by
      intro v hv
      rw [hr, h3, h4]
      simp at hv
      (repeat' split) <;> omega)
    have k3 := key 3 4 (by
      intro v hv
      rw [hr, h3, h4]
      simp at hv
      (repeat' split) <;> omega)
    rw [← k1, ← k2, ← k3]
    rfl
  · rw [h4]
    have k1 := key 1 1 (by
      intro v hv
      rw [hr, h3, h4]
      simp at hv
      (repeat' split) <;> omega)
    have k2 := key 2 2 (by
      intro v hv
      rw [hr, h3, h4]
      simp at hv
      (repeat' split) <;> omega)
    have k3 := key 3 3 (by
      intro v hv
      rw [hr, h3, h4]
      simp at hv
      (repeat' split) <;> omega)
    have k4 := key 4 4 (by
      intro v hv
      rw [hr, h3, h4]
      simp at hv
      (repeat' split) <;> omega)
    rw [← k1, ← k2, ← k3, ← k4]
    rfl
  · rw [h4]
    have k1 := key 1 1 (by
      intro v hv
      rw [hr, h3, h4]
      simp at hv
      (repeat' split) <;> omega)
    have k2 := key 2 3 (by
      intro v hv
      rw [hr, h3, h4]
      simp at hv
      (repeat' split) <;> omega)
    rw [← k1, ← k2]
    rfl
  · rw [h4]
    have k1 := key 1 1 (by
      intro v hv
      rw [hr, h3, h4]
      simp at hv
      (repeat' split) <;> omega)
    have k2 := key 2 2 (by
      intro v hv
      rw [hr, h3, h4]
      simp at hv
      (repeat' split) <;> omega)
    have k3 := key 3 3 (by
      intro v hv
      rw [hr, h3, h4]
      simp at hv
      (repeat' split) <;> omega)
    rw [← k1, ← k2, ← k3]
    rfl
  · rw [h4]
    have k1 := key 1 1 (by
      intro v hv
      rw [hr, h3, h4]
      simp at hv
      (repeat' split) <;> omega)
    have k2 := key 2 4 (by
      intro v hv
      rw [hr, h3, h4]
      simp at hv
      (repeat' split) <;> omega)
    rw [← k1, ← k2]
    rfl
  · rw [h4]
    have k1 := key 1 1 (by
      intro v hv
      rw [hr, h3, h4]
      simp at hv
      (repeat' split) <;> omega)
    have k2 := key 2 2 (by
      intro v hv
      rw [hr, h3, h4]
      simp at hv
      (repeat' split) <;> omega)
    have k3 := key 3 4 (by
      intro v hv
      rw [hr, h3, h4]
      simp at hv
      (repeat' split) <;> omega)
    rw [← k1, ← k2, ← k3]
    rfl
  · rw [h4]
    have k1 := key 1 1 (by
      intro v hv
      rw [hr, h3, h4]
      simp at hv
      (repeat' split) <;> omega)
    rw [← k1]
    rfl
  · rw [h4]
    have k1 := key 1 1 (by
      intro v hv
      rw [hr, h3, h4]
      simp at hv
      (repeat' split) <;> omega)
    have k2 := key 2 2 (by
      intro v hv
      rw [hr, h3, h4]
      simp at hv
      (repeat' split) <;> omega)
    rw [← k1, ← k2]
    rfl

theorem layL_len (x : ArmsV) : (layL x).length ≤ 4 := by
  unfold layL
  split <;> split <;> split <;> simp

def layR (x : ArmsV) : D := if okArms x then .tu [intL (layL x), .bool true] else .tu [intL [], .bool false]

theorem S4_in (x : ArmsV) {a b : Nat} (ha : a < 20) (hb : b < 24) : 0 ≤ ((S4 x).getD b []).getD a 0 ∧ ((S4 x).getD b []).getD a 0 ≤ 4 := by
  rw [S4_at x ha hb]
  have := kindZ_in x a b
  omega

set_option maxRecDepth 100000 in
set_option maxHeartbeats 4000000 in
theorem specLayC_fn (x : ArmsV) : FnD Try.prog 44 [x.d] (layR x) := by
  have e1 := l5Good_fn x
  cases g : okArms x
  · rw [g] at e1
    rw [layR, g]
    refine fn_go Try.func44 rfl rfl Try.ntmps44 Try.results44 (by simp only [slotsOf, argAV, List.map_cons, List.map_nil, Nat.reduceAdd]; rfl) (by simp) ?_
    repeat' (first | (with_reducible first | refine aw_seq fun K hK => ?_ | refine aw_region (by kernel_rfl) ?_ | refine aw_condk ?_ | refine aw_block ?_) | ((with_reducible refine evg ?_); simp only [go_sem, ↓reduceIte, Nat.reduceEqDiff, Nat.reduceBEq, Nat.reduceAdd, Nat.reduceMul, Nat.reduceSub, Nat.reduceLT, Nat.reduceLeDiff]) | ((with_reducible refine ev_call ?_); (first | (refine call_fn e1 rfl ?_)); refine k_run ?_) | ((with_reducible refine ev_guard ?_); (with_reducible first | refine guard_t ?_ ?_ rfl | refine guard_f ?_ ?_ rfl) <;> (intro h; (try simp only [h]); (try simp only [nrm] at h))) | ((with_reducible refine ck_split (fun h => ?_) (fun h => ?_)) <;> (try simp only [nrm] at h)) | ((with_reducible refine And.intro ?_ ?_); (first | omega | focus (simp; done) | focus (simp; omega) | focus ((repeat' (with_reducible refine And.intro ?_ ?_)) <;> first | omega | rfl | (simp only [go_sem, refsL_app, refs_dmap] <;> fail) | (simp [refsL_app, refs_dmap, AV.refsL, AV.refs] <;> omega)))) | ((with_reducible first | apply hK | (clear hK K; first | apply hK | (clear hK K; first | apply hK | (clear hK K; apply hK)))); clear hK K) | (simp (disch := omega) only [wr, drop_at, str_at, int_at, Int.reduceSub, Int.reduceAdd, Int.reduceToNat, Int.toNat_zero]) | fail)
    (first | refine res_tmp rfl (by simp [D.plain, plains]) (by simp) ?_ | refine res_at rfl (by simp [D.plain, plains]) (by simp) ?_ | refine res_two rfl (by simp [D.plain, plains]) (by simp) ?_ | refine res_three rfl (by simp [D.plain, plains]) (by simp) ?_)
    rfl
  · rw [g] at e1
    rw [layR, g, if_pos rfl]
    have e2 := l12Layers_fn x g
    have e3 := l12Count_fn (S4 x) 4 (S4_ok x) (by decide) (fun a b ha hb => (S4_in x ha hb).2) (fun a b ha hb => by have := (S4_in x ha hb).1; omega)
    have hin := okArms_in g
    have hC : cntT (S4 x).flatten 4 = [layN x 1, layN x 2, layN x 3, layN x 4] := rfl
    rw [hC] at e3
    have hz1 := (S4_ok x).1
    have hall : (rowsD (S4 x)).take (24 * 1) = rowsD (S4 x) := List.take_of_length_le (by simp [hz1])
    have e3' : FnD Try.prog 94 [.ls 1 24 (((rowsD (S4 x)).drop 0).take (24 * 1)), .int 4] (.ls 1 4 [.int (layN x 1), .int (layN x 2), .int (layN x 3), .int (layN x 4)]) := by
      rw [List.drop_zero, hall]
      exact e3
    have n1 := l4None_fn x.c1 x.k1 x.a1 x.t1
    have n2 := l4None_fn x.c2 x.k2 x.a2 x.t2
    unfold layL
    generalize layN x 1 = v1 at *
    generalize layN x 2 = v2 at *
    generalize layN x 3 = v3 at *
    generalize layN x 4 = v4 at *
    generalize S4 x = Z at *
    cases g1 : noGroup x.c1 x.k1 x.a1 x.t1 <;> cases g2 : noGroup x.c2 x.k2 x.a2 x.t2 <;> rw [g1] at n1 <;> rw [g2] at n2 <;> by_cases ho : x.o = 0
    all_goals
      simp only [ho, if_true, if_false, Bool.false_eq_true]
      refine fn_go Try.func44 rfl rfl Try.ntmps44 Try.results44 (by simp only [slotsOf, argAV, List.map_cons, List.map_nil, Nat.reduceAdd]; rfl) (by simp) ?_
      repeat' (first | (with_reducible first | refine aw_seq fun K hK => ?_ | refine aw_region (by kernel_rfl) ?_ | refine aw_condk ?_ | refine aw_block ?_) | ((with_reducible refine evg ?_); simp only [go_sem, ↓reduceIte, Nat.reduceEqDiff, Nat.reduceBEq, Nat.reduceAdd, Nat.reduceMul, Nat.reduceSub, Nat.reduceLT, Nat.reduceLeDiff]) | (simp (disch := omega) only [wr, drop_at, str_at, int_at, Int.reduceSub, Int.reduceAdd, Int.reduceToNat, Int.toNat_zero, wr]) | ((with_reducible refine ev_call ?_); (first | (refine call_fn e1 rfl ?_) | (refine call_fn e2 rfl ?_) | (refine call_fn e3' rfl ?_) | (refine call_fn n1 rfl ?_) | (refine call_fn n2 rfl ?_)); refine k_run ?_) | ((with_reducible refine ev_guard ?_); (with_reducible first | refine guard_t ?_ ?_ rfl | refine guard_f ?_ ?_ rfl) <;> (intro h; (try simp only [h]); (try simp only [nrm] at h) <;> (try ((with_reducible exfalso); omega)))) | ((with_reducible refine ck_split (fun h => ?_) (fun h => ?_)) <;> (try simp only [nrm] at h) <;> (try ((with_reducible exfalso); omega))) | ((with_reducible refine And.intro ?_ ?_); (first | omega | focus (simp; done) | focus (simp; omega) | focus ((repeat' (with_reducible refine And.intro ?_ ?_)) <;> first | omega | rfl | (simp only [go_sem, refsL_app, refs_dmap] <;> fail) | (simp [refsL_app, refs_dmap, AV.refsL, AV.refs] <;> omega)))) | ((with_reducible first | apply hK | (clear hK K; first | apply hK | (clear hK K; first | apply hK | (clear hK K; apply hK)))); clear hK K) | fail)
      all_goals (first | refine res_tmp rfl (by simp [D.plain, plains]) (by simp) ?_ | refine res_at rfl (by simp [D.plain, plains]) (by simp) ?_ | refine res_two rfl (by simp [D.plain, plains]) (by simp) ?_ | refine res_three rfl (by simp [D.plain, plains]) (by simp) ?_ | skip)
    all_goals rfl

set_option maxRecDepth 100000 in
theorem pl_LayC_97_1 (l : List Oper) (h : l = opsOf Try.f97 1) : planB l (.pure 0 (.pure 1 (.pure 2 (.pure 5 (.pure 6 (.pure 7 (.pure 8 (.pure 11 (.pure 12 (.pure 13 (.pure 14 (.one 3 (.pure 4 (.one 9 (.pure 10 (.one 15 (.pure 16 (.pure 17 PT.fin)))))))))))))))))) [] = true := by
  subst h
  kernel_rfl

set_option maxRecDepth 100000 in
set_option maxHeartbeats 4000000 in
theorem layers_fn (x : ArmsV) : FnD Try.prog 97 [x.d] (.int (c4 x)) := by
  have e1 : (x.c1 == 0 && (x.k1 == 0 && (x.a1 == 0 && (x.t1 == 0 && true)))) = noGroup x.c1 x.k1 x.a1 x.t1 := by simp [noGroup]
  have e2 : (x.c2 == 0 && (x.k2 == 0 && (x.a2 == 0 && (x.t2 == 0 && true)))) = noGroup x.c2 x.k2 x.a2 x.t2 := by simp [noGroup]
  have m1 := number3_fn (x.o != 0)
  have m2 := number3_fn (!(x.c1 == 0 && (x.k1 == 0 && (x.a1 == 0 && (x.t1 == 0 && true)))))
  have m3 := number3_fn (!(x.c2 == 0 && (x.k2 == 0 && (x.a2 == 0 && (x.t2 == 0 && true)))))
  have hc : c4 x = 1 + (if (x.o != 0) = true then 1 else 0) + (if (!noGroup x.c1 x.k1 x.a1 x.t1) = true then 1 else 0) + (if (!noGroup x.c2 x.k2 x.a2 x.t2) = true then 1 else 0) := by
    unfold c4 c3 c2
    cases noGroup x.c1 x.k1 x.a1 x.t1 <;> cases noGroup x.c2 x.k2 x.a2 x.t2 <;> by_cases ho : x.o = 0 <;> simp [ho]
  rw [hc, ← e1, ← e2]
  have b1 : 0 ≤ (if (x.o != 0) = true then (1 : Int) else 0) ∧ (if (x.o != 0) = true then (1 : Int) else 0) ≤ 1 := by split <;> omega
  have b2 : 0 ≤ (if (!(x.c1 == 0 && (x.k1 == 0 && (x.a1 == 0 && (x.t1 == 0 && true))))) = true then (1 : Int) else 0) ∧ (if (!(x.c1 == 0 && (x.k1 == 0 && (x.a1 == 0 && (x.t1 == 0 && true))))) = true then (1 : Int) else 0) ≤ 1 := by split <;> omega
  have b3 : 0 ≤ (if (!(x.c2 == 0 && (x.k2 == 0 && (x.a2 == 0 && (x.t2 == 0 && true))))) = true then (1 : Int) else 0) ∧ (if (!(x.c2 == 0 && (x.k2 == 0 && (x.a2 == 0 && (x.t2 == 0 && true))))) = true then (1 : Int) else 0) ≤ 1 := by split <;> omega
  generalize (if (x.o != 0) = true then (1 : Int) else 0) = n1 at *
  generalize (if (!(x.c1 == 0 && (x.k1 == 0 && (x.a1 == 0 && (x.t1 == 0 && true))))) = true then (1 : Int) else 0) = n2 at *
  generalize (if (!(x.c2 == 0 && (x.k2 == 0 && (x.a2 == 0 && (x.t2 == 0 && true))))) = true then (1 : Int) else 0) = n3 at *
  clear hc
  refine fn_go Try.func97 rfl rfl Try.ntmps97 Try.results97 (by simp only [slotsOf, argAV, List.map_cons, List.map_nil, Nat.reduceAdd]; rfl) (by simp) ?_
  repeat' (first | (with_reducible first | refine aw_seq fun K hK => ?_ | refine aw_region (by kernel_rfl) ?_ | refine aw_condk ?_ | refine aw_block ?_) | ((with_reducible refine ev_aw ?_); first | (refine aw_draw (id := 1) (by kernel_rfl) _ _ (by kernel_rfl) (pl_LayC_97_1 _ (by kernel_rfl)) ?_)) | (with_reducible first | refine ru_four ?_ ?_ ?_ ?_ | refine ru_three ?_ ?_ ?_ | refine ru_two ?_ ?_ | refine rp_two ?_ ?_) | ((with_reducible refine evg ?_); simp only [go_sem, St.clean, cleanO, ↓reduceIte, Nat.reduceEqDiff, Nat.reduceBEq, Nat.reduceAdd, Nat.reduceMul, Nat.reduceSub, Nat.reduceLT, Nat.reduceLeDiff]) | (simp (disch := omega) only [wr, drop_at, str_at, int_at, Int.reduceSub, Int.reduceAdd, Int.reduceToNat, Int.toNat_zero, wr]) | ((with_reducible refine ev_call ?_); (first | (refine call_fn m1 rfl ?_) | (refine call_fn m2 rfl ?_) | (refine call_fn m3 rfl ?_)); refine k_run ?_) | ((with_reducible refine ev_guard ?_); (with_reducible first | refine guard_t ?_ ?_ rfl | refine guard_f ?_ ?_ rfl) <;> (intro h; (try simp only [h]); (try simp only [nrm] at h) <;> (try ((with_reducible exfalso); omega)))) | ((with_reducible refine ck_split (fun h => ?_) (fun h => ?_)) <;> (try simp only [nrm] at h) <;> (try ((with_reducible exfalso); omega))) | ((with_reducible refine And.intro ?_ ?_); (first | omega | focus (simp; done) | focus (simp; omega) | focus ((repeat' (with_reducible refine And.intro ?_ ?_)) <;> first | omega | rfl | (simp only [go_sem, refsL_app, refs_dmap] <;> fail) | (simp [refsL_app, refs_dmap, AV.refsL, AV.refs] <;> omega)))) | (with_reducible refine hJ _ (fun K hK => ?_) ?_ <;> clear hJ KJ) | ((with_reducible refine ev_less ?_); (refine ⟨rfl, ?_, ?_⟩ <;> simp only [go_sem, St.clean, cleanO, SubS, SubO, beq_self_eq_true, ↓reduceIte, Nat.reduceEqDiff, Nat.reduceBEq, Nat.reduceAdd, Nat.reduceMul, Nat.reduceSub, Nat.reduceLT, Nat.reduceLeDiff])) | ((with_reducible first | apply hK | (clear hK K; first | apply hK | (clear hK K; first | apply hK | (clear hK K; apply hK)))); clear hK K) | fail)
  all_goals (first | refine res_tmp rfl (by simp [D.plain, plains]) (by simp) ?_ | refine res_at rfl (by simp [D.plain, plains]) (by simp) ?_ | refine res_two rfl (by simp [D.plain, plains]) (by simp) ?_ | refine res_three rfl (by simp [D.plain, plains]) (by simp) ?_ | skip)
  all_goals rfl

theorem c4_in (x : ArmsV) : 1 ≤ c4 x ∧ c4 x ≤ 4 := cI_in x 2

theorem L4_in (x : ArmsV) {a b : Nat} (ha : a < 20) (hb : b < 24) : 0 ≤ ((L4 x).getD b []).getD a 0 ∧ ((L4 x).getD b []).getD a 0 ≤ c4 x := by
  have h4 := c4_in x
  have hm : ((L4 x).getD b []).getD a 0 = rankZ x (kindZ x a b) := L4_at x ha hb
  have hk := S4_mem (x := x) (v := kindZ x a b) (by
    rw [← S4_at x ha hb]
    have h1 := (S4_ok x).1
    have h2 := (S4_ok x).2 b hb
    exact List.mem_flatten.2 ⟨(S4 x).getD b [], getD_mem _ (by omega), getD_mem _ (by omega)⟩)
  rw [hm]
  have h3 : c3 x = if noGroup x.c1 x.k1 x.a1 x.t1 then c2 x else c2 x + 1 := rfl
  have h4 : c4 x = if noGroup x.c2 x.k2 x.a2 x.t2 then c3 x else c3 x + 1 := rfl
  have h2 : c2 x = if x.o = 0 then 1 else 2 := rfl
  have hr : rankZ x (kindZ x a b) = if kindZ x a b = 4 then c4 x else if kindZ x a b = 3 then c3 x else kindZ x a b := rfl
  rw [hr]
  generalize kindZ x a b = k at *
  cases n1 : noGroup x.c1 x.k1 x.a1 x.t1 <;> cases n2 : noGroup x.c2 x.k2 x.a2 x.t2 <;> by_cases ho : x.o = 0
  all_goals
    simp [n1, n2, ho] at h2 h3 h4 hk
    (repeat' split) <;> omega

set_option maxRecDepth 100000 in
set_option maxHeartbeats 4000000 in
theorem implLayC_fn (x : ArmsV) : FnD Try.prog 45 [x.d] (layR x) := by
  have e1 := isValidArms_fn x
  have hnil : leD (.tu [.v (.slice none 0 0), .bool false]) (.tu [intL [], .bool false]) := leD_tu (lesD_cons leD_nil (lesD_refl _))
  cases g : okArms x
  · rw [g] at e1
    rw [layR, g]
    refine fnd_le ?_ hnil
    refine fn_go Try.func45 rfl rfl Try.ntmps45 Try.results45 (by simp only [slotsOf, argAV, List.map_cons, List.map_nil, Nat.reduceAdd]; rfl) (by simp) ?_
    repeat' (first | (with_reducible first | refine aw_seq fun K hK => ?_ | refine aw_region (by kernel_rfl) ?_ | refine aw_condk ?_ | refine aw_block ?_) | ((with_reducible refine evg ?_); simp only [go_sem, ↓reduceIte, Nat.reduceEqDiff, Nat.reduceBEq, Nat.reduceAdd, Nat.reduceMul, Nat.reduceSub, Nat.reduceLT, Nat.reduceLeDiff]) | ((with_reducible refine ev_call ?_); (first | (refine call_fn e1 rfl ?_)); refine k_run ?_) | ((with_reducible refine ev_guard ?_); (with_reducible first | refine guard_t ?_ ?_ rfl | refine guard_f ?_ ?_ rfl) <;> (intro h; (try simp only [h]); (try simp only [nrm] at h))) | ((with_reducible refine ck_split (fun h => ?_) (fun h => ?_)) <;> (try simp only [nrm] at h)) | ((with_reducible refine And.intro ?_ ?_); (first | omega | focus (simp; done) | focus (simp; omega) | focus ((repeat' (with_reducible refine And.intro ?_ ?_)) <;> first | omega | rfl | (simp only [go_sem, refsL_app, refs_dmap] <;> fail) | (simp [refsL_app, refs_dmap, AV.refsL, AV.refs] <;> omega)))) | ((with_reducible first | apply hK | (clear hK K; first | apply hK | (clear hK K; first | apply hK | (clear hK K; apply hK)))); clear hK K) | (simp (disch := omega) only [wr, drop_at, str_at, int_at, Int.reduceSub, Int.reduceAdd, Int.reduceToNat, Int.toNat_zero]) | fail)
    (first | refine res_tmp rfl (by simp [D.plain, plains]) (by simp) ?_ | refine res_at rfl (by simp [D.plain, plains]) (by simp) ?_ | refine res_two rfl (by simp [D.plain, plains]) (by simp) ?_ | refine res_three rfl (by simp [D.plain, plains]) (by simp) ?_)
    rfl
  · rw [g] at e1
    rw [layR, g, if_pos rfl]
    have h4 := c4_in x
    obtain ⟨m, hm⟩ := Int.eq_ofNat_of_zero_le (show 0 ≤ c4 x by omega)
    have e2 := tops_fn x g
    have e3 := layers_fn x
    have e4 := counted_fn (L4 x) m (L4_ok x) (by omega) (fun a b ha hb => by rw [← hm]; exact (L4_in x ha hb).2) (fun a b ha hb => by have := (L4_in x ha hb).1; omega)
    have e5 := lay_eq x g
    rw [hm, Int.toNat_natCast] at e5
    rw [e5, ← hm] at e4
    have hz1 := (L4_ok x).1
    have hall : (rowsD (L4 x)).take (24 * 1) = rowsD (L4 x) := List.take_of_length_le (by simp [hz1])
    have e4' : FnD Try.prog 67 [.ls 1 24 (((rowsD (L4 x)).drop 0).take (24 * 1)), .int (c4 x)] (intL (layL x)) := by
      rw [List.drop_zero, hall]
      exact e4
    generalize layL x = C at *
    generalize L4 x = L at *
    generalize T4 x = Z at *
    generalize c4 x = cc at *
    refine fn_go Try.func45 rfl rfl Try.ntmps45 Try.results45 (by simp only [slotsOf, argAV, List.map_cons, List.map_nil, Nat.reduceAdd]; rfl) (by simp) ?_
    repeat' (first | (with_reducible first | refine aw_seq fun K hK => ?_ | refine aw_region (by kernel_rfl) ?_ | refine aw_condk ?_ | refine aw_block ?_) | ((with_reducible refine evg ?_); simp only [go_sem, ↓reduceIte, Nat.reduceEqDiff, Nat.reduceBEq, Nat.reduceAdd, Nat.reduceMul, Nat.reduceSub, Nat.reduceLT, Nat.reduceLeDiff]) | (simp (disch := omega) only [wr, drop_at, str_at, int_at, Int.reduceSub, Int.reduceAdd, Int.reduceToNat, Int.toNat_zero, wr]) | ((with_reducible refine ev_call ?_); (first | (refine call_fn e1 rfl ?_) | (refine call_fn e2 rfl ?_) | (refine call_fn e3 rfl ?_) | (refine call_fn e4 rfl ?_) | (refine call_fn e4' rfl ?_)); refine k_run ?_) | ((with_reducible refine ev_guard ?_); (with_reducible first | refine guard_t ?_ ?_ rfl | refine guard_f ?_ ?_ rfl) <;> (intro h; (try simp only [h]); (try simp only [nrm] at h) <;> (try ((with_reducible exfalso); omega)))) | ((with_reducible refine ck_split (fun h => ?_) (fun h => ?_)) <;> (try simp only [nrm] at h) <;> (try ((with_reducible exfalso); omega))) | ((with_reducible refine And.intro ?_ ?_); (first | omega | focus (simp; done) | focus (simp; omega) | focus ((repeat' (with_reducible refine And.intro ?_ ?_)) <;> first | omega | rfl | (simp only [go_sem, refsL_app, refs_dmap] <;> fail) | (simp [refsL_app, refs_dmap, AV.refsL, AV.refs] <;> omega)))) | ((with_reducible first | apply hK | (clear hK K; first | apply hK | (clear hK K; first | apply hK | (clear hK K; apply hK)))); clear hK K) | fail)
    (first | refine res_tmp rfl (by simp [D.plain, plains]) (by simp) ?_ | refine res_at rfl (by simp [D.plain, plains]) (by simp) ?_ | refine res_two rfl (by simp [D.plain, plains]) (by simp) ?_ | refine res_three rfl (by simp [D.plain, plains]) (by simp) ?_)
    simp [intL]

set_option maxRecDepth 100000 in
set_option maxHeartbeats 4000000 in
theorem fnExactLayerCells_fn (x : ArmsV) : FnD Try.prog 10 [x.d] (.bool true) := by
  have h1 := toArmsP_fn x
  have h3 := specLayC_fn x
  have h4 := implLayC_fn x
  obtain ⟨zs, ok, e, hz⟩ : ∃ (zs : List Int) (ok : Bool), layR x = .tu [intL zs, .bool ok] ∧ zs.length ≤ 9 := by
    unfold layR
    split
    · exact ⟨_, _, rfl, by have := layL_len x; omega⟩
    · exact ⟨[], false, rfl, by simp⟩
  have h6 := eqIntS_fn zs zs (by omega)
  rw [decide_eq_true rfl] at h6
  have h7 := heldIntS_fn 1 zs.length (by omega) (by omega) (by omega)
  have h9 := markIntS_s 20 zs 1 (by omega) (by omega) (by omega)
  rw [e] at h3 h4
  refine fn_go Try.func10 rfl rfl Try.ntmps10 Try.results10 (by simp only [slotsOf, argAV, List.map_cons, List.map_nil, Nat.reduceAdd]; rfl) (by simp) ?_
  repeat' (first | (with_reducible first | refine aw_seq fun K hK => ?_ | refine aw_region (by kernel_rfl) ?_ | refine aw_condk ?_ | refine aw_block ?_) | ((with_reducible first | refine evg ?_ | refine ev_guard ?_); simp only [go_sem, ↓reduceIte, Nat.reduceEqDiff, Nat.reduceBEq, Nat.reduceAdd, Nat.reduceMul, Nat.reduceSub, Nat.reduceLT, Nat.reduceLeDiff]) | (simp (disch := omega) only [wr, drop_at, str_at, int_at, Int.reduceSub, Int.reduceAdd, Int.reduceToNat, Int.toNat_zero, bne_self_eq_false]) | ((with_reducible refine ev_call ?_); (first | (refine call_fn h1 rfl ?_) | (refine call_fn h3 rfl ?_) | (refine call_fn h4 rfl ?_) | (refine call_fn2 h6 rfl ?_ ?_; (focus (simp only [ints_raw] <;> fail))) | (refine call_s h9 ?_ ?_ ?_ ?_ ?_; (focus rfl); (focus first | exact And.intro rfl trivial | exact ⟨rfl, rfl, trivial⟩ | exact ⟨rfl, rfl, rfl, trivial⟩); (focus rfl); (focus (simp [-List.map_map, apartO, dropO, killN, obCells, refs_dmap, nofnsD, AV.refs, AV.refsL, AV.nofn, AV.nofns] <;> fail))) | (refine call_fn2 h7 rfl ?_ ?_; (focus (simp only [numsT_raw] <;> fail)))); refine k_run ?_) | ((with_reducible refine ev_guard ?_); (with_reducible first | refine guard_t ?_ ?_ rfl | refine guard_f ?_ ?_ rfl) <;> (intro h; (try simp only [h]); (try simp only [nrm] at h) <;> (try ((with_reducible exfalso); omega)))) | ((with_reducible refine ck_split (fun h => ?_) (fun h => ?_)) <;> (try simp only [nrm] at h) <;> (try ((with_reducible exfalso); omega))) | ((with_reducible refine And.intro ?_ ?_); (first | omega | focus (simp; done) | focus (simp; omega) | focus ((repeat' (with_reducible refine And.intro ?_ ?_)) <;> first | omega | rfl | (simp only [go_sem, refsL_app, refs_dmap] <;> fail) | (simp [refsL_app, refs_dmap, AV.refsL, AV.refs] <;> omega)))) | ((with_reducible first | apply hK | (clear hK K; first | apply hK | (clear hK K; first | apply hK | (clear hK K; apply hK)))); clear hK K) | fail)
  all_goals (first | refine res_tmp rfl (by simp [D.plain, plains]) (by simp) ?_ | refine res_at rfl (by simp [D.plain, plains]) (by simp) ?_ | refine res_two rfl (by simp [D.plain, plains]) (by simp) ?_ | refine res_three rfl (by simp [D.plain, plains]) (by simp) ?_ | skip)
  all_goals rfl

end Go.Proofs.Ytaegdaimjhhgpaa
