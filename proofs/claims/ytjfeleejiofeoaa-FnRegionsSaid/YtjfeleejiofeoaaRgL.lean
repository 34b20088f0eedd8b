/- The cross law of regions. -/
import Derived.Test.YtjfeleejiofeoaaRgS
import Derived.Test.YtjfeleejiofeoaaBnd
import Derived.Test.YtjfeleejiofeoaaPie2
import Derived.Test.YtjfeleejiofeoaaRB
import Derived.WalkKit
import Derived.WalkSpells
import Derived.KernelRfl
namespace Go.Proofs.Ytjfeleejiofeoaa
open Go.RowKit
set_option linter.unusedVariables false
set_option linter.unusedSimpArgs false

attribute [local go_sem] codL intL

attribute [local simp] refs_dmap codL ints_plain ints_all ints_all1 ints_plain_take

theorem region_facts (zs : List Int) : ∃ (P E A : Int) (g k : Bool) (L : List Int), pieR zs = .tu [.int P, .bool g] ∧ edgeR zs = .tu [.int E, .bool g] ∧ areaR zs = .tu [.int A, .bool g] ∧ bndR zs = .tu [intL L, .bool k] ∧ L.length ≤ 4 ∧ 0 ≤ P ∧ P ≤ A ∧ A ≤ 480 ∧ 0 ≤ E ∧ E ≤ 4 * A ∧ E.tmod 2 = 0 ∧ (k = true → 0 < P) ∧ (k = false → P = 0) := by
  unfold pieR edgeR areaR bndR
  cases hg : okReg zs
  · exact ⟨0, 0, 0, false, false, [], rfl, rfl, rfl, rfl, by simp, by omega, by omega, by omega, by omega, by omega, rfl, fun h => (by cases h), fun _ => rfl⟩
  · have h1 := pieN_cnt (zs := zs) (l := cellsN zs 480) (cellsN zs 480).length
    have h2 := area_cells zs hg
    have h3 := area_le zs hg
    obtain ⟨h4, h5, h6⟩ := edge_even zs
    have h6 : edgeS zs (cellsN zs 480) (cellsN zs 480).length ≤ 4 * ((areaN zs 24 : Nat) : Int) := by
      rw [h2]
      exact h6
    rw [if_pos rfl, if_pos rfl, if_pos rfl]
    generalize areaN zs 24 = A at *
    generalize edgeS zs (cellsN zs 480) (cellsN zs 480).length = E at *
    generalize (pieN zs (cellsN zs 480) (cellsN zs 480).length).2 = P at *
    have h7 : E.tmod 2 = 0 := by
      rw [Int.tmod_eq_emod_of_nonneg h5]
      exact h4
    by_cases hc : cellsN zs 480 = []
    · rw [if_neg (by simp [hc])]
      have h8 : (cellsN zs 480).length = 0 := by rw [hc]; rfl
      exact ⟨P, E, A, true, false, [], rfl, rfl, rfl, rfl, by simp, by omega, by omega, by omega, h5, h6, h7, fun h => (by cases h), fun _ => by omega⟩
    · rw [if_pos (by simp [hc])]
      have h8 := List.length_pos_iff.2 hc
      have h9 := h1.2 h8 h8
      exact ⟨P, E, A, true, true, [foI mnI gx 20 (cellsN zs 480) (cellsN zs 480).length, foI mnI gy 24 (cellsN zs 480) (cellsN zs 480).length, foI mxI gx (-1) (cellsN zs 480) (cellsN zs 480).length, foI mxI gy (-1) (cellsN zs 480) (cellsN zs 480).length], rfl, rfl, rfl, rfl, by simp, by omega, by omega, by omega, h5, h6, h7, fun _ => by omega, fun h => (by cases h)⟩

theorem comb_facts (a b : List Int) (how : Int) : ∃ (c : List Int) (ok : Bool), combR a b how = .tu [.ag [intL c], .bool ok] ∧ c.length ≤ 24 ∧ (ok = true → ∃ n m p q : Int, areaR a = .tu [.int n, .bool true] ∧ areaR b = .tu [.int m, .bool true] ∧ combR a b 1 = .tu [.ag [intL (combZ a b 1)], .bool true] ∧ combR a b 2 = .tu [.ag [intL (combZ a b 2)], .bool true] ∧ areaR (combZ a b 1) = .tu [.int p, .bool true] ∧ areaR (combZ a b 2) = .tu [.int q, .bool true] ∧ n + m = p + q ∧ 0 ≤ n ∧ n ≤ 480 ∧ 0 ≤ m ∧ m ≤ 480 ∧ 0 ≤ p ∧ p ≤ 480 ∧ 0 ≤ q ∧ q ≤ 480) := by
  cases hg : (okReg a && okReg b && inR how 1 3)
  · exact ⟨[], false, by rw [combR, hg]; rfl, by simp, fun h => by cases h⟩
  · refine ⟨combZ a b how, true, by rw [combR, hg]; rfl, by simp, fun _ => ?_⟩
    rw [Bool.and_eq_true, Bool.and_eq_true] at hg
    obtain ⟨⟨ha, hb⟩, _⟩ := hg
    obtain ⟨hu, hi⟩ := comb_ok ha hb
    have h1 := comb_area ha hb
    have h2 := area_le _ ha
    have h3 := area_le _ hb
    have h4 := area_le _ hu
    have h5 := area_le _ hi
    exact ⟨_, _, _, _, by rw [areaR, if_pos ha], by rw [areaR, if_pos hb], by rw [combR, ha, hb]; rfl, by rw [combR, ha, hb]; rfl, by rw [areaR, if_pos hu], by rw [areaR, if_pos hi], by omega, by omega, by omega, by omega, by omega, by omega, by omega, by omega, by omega⟩

set_option maxRecDepth 100000 in
set_option maxHeartbeats 4000000 in
theorem fnRegions_fn (bs : List Int) (hb : ∀ x ∈ bs, 0 ≤ x ∧ x ≤ 255) (hl : bs.length ≤ 9223372036854775807) : FnD Try.prog 10 [codL bs] (.bool true) := by
  have e0 := rBig_fn bs hl
  by_cases hbig : 65536 < bs.length
  · rw [decide_eq_true hbig] at e0
    refine fn_go Try.func10 rfl rfl Try.ntmps10 Try.results10 (by simp only [slotsOf, argAV, List.map_cons, List.map_nil, Nat.reduceAdd]; rfl) (by simp) ?_
    repeat' (first | (with_reducible first | refine aw_seq fun K hK => ?_ | refine aw_region (by kernel_rfl) ?_ | refine aw_condk ?_ | refine aw_block ?_) | ((with_reducible refine evg ?_); simp only [go_sem, ↓reduceIte, Nat.reduceEqDiff, Nat.reduceBEq, Nat.reduceAdd, Nat.reduceMul, Nat.reduceSub, Nat.reduceLT, Nat.reduceLeDiff]) | (simp (disch := omega) only [wr, drop_at, str_at, int_at, Int.reduceSub, Int.reduceAdd, Int.reduceToNat, Int.toNat_zero, wr]) | ((with_reducible refine ev_call ?_); (first | (refine call_fn e0 rfl ?_)); refine k_run ?_) | ((with_reducible refine ev_guard ?_); (with_reducible first | refine guard_t ?_ ?_ rfl | refine guard_f ?_ ?_ rfl) <;> (intro h; (try simp only [h]); (try simp only [nrm] at h) <;> (try ((with_reducible exfalso); omega)))) | ((with_reducible refine ck_split (fun h => ?_) (fun h => ?_)) <;> (try simp only [nrm] at h) <;> (try ((with_reducible exfalso); omega))) | ((with_reducible refine And.intro ?_ ?_); (first | omega | focus (simp; done) | focus (simp; omega) | focus ((repeat' (with_reducible refine And.intro ?_ ?_)) <;> first | omega | rfl | (simp only [go_sem, refsL_app, refs_dmap] <;> fail) | (simp [refsL_app, refs_dmap, AV.refsL, AV.refs] <;> omega)))) | ((with_reducible first | apply hK | (clear hK K; first | apply hK | (clear hK K; first | apply hK | (clear hK K; apply hK)))); clear hK K) | fail)
    (first | refine res_tmp rfl (by simp [D.plain, plains]) (by simp) ?_ | refine res_at rfl (by simp [D.plain, plains]) (by simp) ?_ | refine res_two rfl (by simp [D.plain, plains]) (by simp) ?_ | refine res_three rfl (by simp [D.plain, plains]) (by simp) ?_)
    rfl
  · rw [decide_eq_false hbig] at e0
    have hok : okCod bs := ⟨hb, by omega⟩
    have d1 := drawComb_fn bs hok
    have d2 := drawPieces_fn bs hok
    obtain ⟨la, ia⟩ := r1_ok hok
    obtain ⟨lb, ib⟩ := r2_ok hok
    generalize r1 bs = a at *
    generalize r2 bs = b at *
    generalize rH bs = how at *
    have ia := alI_in ia
    have ib := alI_in ib
    have c1 := implComb_fn a b how (by omega) ia (by omega) ib
    have c2 := specComb_fn a b how (by omega) (by omega)
    have c3 := implComb_fn a b 1 (by omega) ia (by omega) ib
    have c4 := implComb_fn a b 2 (by omega) ia (by omega) ib
    have a1 := implArea_fn a (by omega) ia
    have a2 := implArea_fn b (by omega) ib
    have a3 := implArea_fn (combZ a b 1) (by simp) (alI_in (alI_comb a b 1))
    have a4 := implArea_fn (combZ a b 2) (by simp) (alI_in (alI_comb a b 2))
    have p1 := implPie_fn a (by omega) ia
    have p2 := specPie_fn a (by omega)
    have g1 := implEdge_fn a (by omega) ia
    have g2 := specEdge_fn a (by omega)
    have b1 := implBounds_fn a (by omega) ia
    have b2 := specBounds_fn a (by omega)
    obtain ⟨P, E, A, g, k, L, z1, z2, z3, z4, hL, hP0, hPA, hA, hE0, hE, hE2, hk1, hk2⟩ := region_facts a
    rw [z1] at p1 p2
    rw [z2] at g1 g2
    rw [z4] at b1 b2
    obtain ⟨c, ok, zc, hc, hf⟩ := comb_facts a b how
    rw [zc] at c1 c2
    have r1 := rInts_fn c (by omega)
    have r2 := rInts_fn L (by omega)
    have hkP : ∀ z : Bool, (k == z) = true ∨ (k == z) = false := fun z => by cases (k == z) <;> simp
    cases ok
    · rw [z3] at a1
      clear hf a2 a3 a4 c3 c4 z1 z2 z3 z4 zc
      cases k
      · have hP := hk2 rfl
        subst hP
        refine fn_go Try.func10 rfl rfl Try.ntmps10 Try.results10 (by simp only [slotsOf, argAV, List.map_cons, List.map_nil, Nat.reduceAdd]; rfl) (by simp) ?_
        repeat' (first | (with_reducible first | refine aw_seq fun K hK => ?_ | refine aw_region (by kernel_rfl) ?_ | refine aw_condk ?_ | refine aw_block ?_) | ((with_reducible first | refine evg ?_ | refine ev_guard ?_); simp only [go_sem, ↓reduceIte, Nat.reduceEqDiff, Nat.reduceBEq, Nat.reduceAdd, Nat.reduceMul, Nat.reduceSub, Nat.reduceLT, Nat.reduceLeDiff]) | (simp (disch := omega) only [wr, drop_at, str_at, int_at, Int.reduceSub, Int.reduceAdd, Int.reduceToNat, Int.toNat_zero, bne_self_eq_false, beq_self_eq_true, hE2, wr]) | ((with_reducible refine ev_call ?_); (first | (refine call_fn e0 rfl ?_) | (refine call_fn d1 rfl ?_) | (refine call_fn c1 rfl ?_) | (refine call_fn c2 rfl ?_) | (refine call_fn r1 rfl ?_) | (refine call_fn d2 rfl ?_) | (refine call_fn2 p1 rfl ?_ ?_; (focus (simp only [ints_raw] <;> fail))) | (refine call_fn2 g1 rfl ?_ ?_; (focus (simp only [ints_raw] <;> fail))) | (refine call_fn2 b1 rfl ?_ ?_; (focus (simp only [ints_raw] <;> fail))) | (refine call_fn2 a1 rfl ?_ ?_; (focus (simp only [ints_raw] <;> fail))) | (refine call_fn2 p2 rfl ?_ ?_; (focus (simp only [ints_raw] <;> fail))) | (refine call_fn2 g2 rfl ?_ ?_; (focus (simp only [ints_raw] <;> fail))) | (refine call_fn2 b2 rfl ?_ ?_; (focus (simp only [ints_raw] <;> fail))) | (refine call_fn r2 rfl ?_) | (refine call_fn2 r2 rfl ?_ ?_; (focus (simp only [ints_raw] <;> fail)))); refine k_run ?_) | ((with_reducible refine ev_guard ?_); (with_reducible first | refine guard_t ?_ ?_ rfl | refine guard_f ?_ ?_ rfl) <;> (intro h; (try simp only [h]); (try simp only [nrm] at h) <;> (try ((with_reducible exfalso); omega)))) | ((with_reducible refine ck_split (fun h => ?_) (fun h => ?_)) <;> (try simp only [nrm] at h) <;> (try ((with_reducible exfalso); omega))) | ((with_reducible refine And.intro ?_ ?_); (first | omega | focus (simp; done) | focus (simp; omega) | focus ((repeat' (with_reducible refine And.intro ?_ ?_)) <;> first | omega | rfl | (simp only [go_sem, refsL_app, refs_dmap] <;> fail) | (simp [refsL_app, refs_dmap, AV.refsL, AV.refs] <;> omega)))) | ((with_reducible first | apply hK | (clear hK K; first | apply hK | (clear hK K; first | apply hK | (clear hK K; apply hK)))); clear hK K) | fail)
        all_goals first
          | exact absurd trivial h
          | exact absurd h (by omega)
          | exact absurd (by decide) h
          | exact absurd (decide_eq_true hP).symm h
          | skip
        all_goals (first | refine res_tmp rfl (by simp [D.plain, plains]) (by simp) ?_ | refine res_at rfl (by simp [D.plain, plains]) (by simp) ?_ | refine res_two rfl (by simp [D.plain, plains]) (by simp) ?_ | refine res_three rfl (by simp [D.plain, plains]) (by simp) ?_ | skip)
        all_goals rfl
      · have hP := hk1 rfl
        refine fn_go Try.func10 rfl rfl Try.ntmps10 Try.results10 (by simp only [slotsOf, argAV, List.map_cons, List.map_nil, Nat.reduceAdd]; rfl) (by simp) ?_
        repeat' (first | (with_reducible first | refine aw_seq fun K hK => ?_ | refine aw_region (by kernel_rfl) ?_ | refine aw_condk ?_ | refine aw_block ?_) | ((with_reducible first | refine evg ?_ | refine ev_guard ?_); simp only [go_sem, ↓reduceIte, Nat.reduceEqDiff, Nat.reduceBEq, Nat.reduceAdd, Nat.reduceMul, Nat.reduceSub, Nat.reduceLT, Nat.reduceLeDiff]) | (simp (disch := omega) only [wr, drop_at, str_at, int_at, Int.reduceSub, Int.reduceAdd, Int.reduceToNat, Int.toNat_zero, bne_self_eq_false, beq_self_eq_true, hE2, wr]) | ((with_reducible refine ev_call ?_); (first | (refine call_fn e0 rfl ?_) | (refine call_fn d1 rfl ?_) | (refine call_fn c1 rfl ?_) | (refine call_fn c2 rfl ?_) | (refine call_fn r1 rfl ?_) | (refine call_fn d2 rfl ?_) | (refine call_fn2 p1 rfl ?_ ?_; (focus (simp only [ints_raw] <;> fail))) | (refine call_fn2 g1 rfl ?_ ?_; (focus (simp only [ints_raw] <;> fail))) | (refine call_fn2 b1 rfl ?_ ?_; (focus (simp only [ints_raw] <;> fail))) | (refine call_fn2 a1 rfl ?_ ?_; (focus (simp only [ints_raw] <;> fail))) | (refine call_fn2 p2 rfl ?_ ?_; (focus (simp only [ints_raw] <;> fail))) | (refine call_fn2 g2 rfl ?_ ?_; (focus (simp only [ints_raw] <;> fail))) | (refine call_fn2 b2 rfl ?_ ?_; (focus (simp only [ints_raw] <;> fail))) | (refine call_fn r2 rfl ?_) | (refine call_fn2 r2 rfl ?_ ?_; (focus (simp only [ints_raw] <;> fail)))); refine k_run ?_) | ((with_reducible refine ev_guard ?_); (with_reducible first | refine guard_t ?_ ?_ rfl | refine guard_f ?_ ?_ rfl) <;> (intro h; (try simp only [h]); (try simp only [nrm] at h) <;> (try ((with_reducible exfalso); omega)))) | ((with_reducible refine ck_split (fun h => ?_) (fun h => ?_)) <;> (try simp only [nrm] at h) <;> (try ((with_reducible exfalso); omega))) | ((with_reducible refine And.intro ?_ ?_); (first | omega | focus (simp; done) | focus (simp; omega) | focus ((repeat' (with_reducible refine And.intro ?_ ?_)) <;> first | omega | rfl | (simp only [go_sem, refsL_app, refs_dmap] <;> fail) | (simp [refsL_app, refs_dmap, AV.refsL, AV.refs] <;> omega)))) | ((with_reducible first | apply hK | (clear hK K; first | apply hK | (clear hK K; first | apply hK | (clear hK K; apply hK)))); clear hK K) | fail)
        all_goals first
          | exact absurd trivial h
          | exact absurd h (by omega)
          | exact absurd (by decide) h
          | exact absurd (decide_eq_true hP).symm h
          | skip
        all_goals (first | refine res_tmp rfl (by simp [D.plain, plains]) (by simp) ?_ | refine res_at rfl (by simp [D.plain, plains]) (by simp) ?_ | refine res_two rfl (by simp [D.plain, plains]) (by simp) ?_ | refine res_three rfl (by simp [D.plain, plains]) (by simp) ?_ | skip)
        all_goals rfl
    · obtain ⟨n, m, p, q, y1, y2, y3, y4, y5, y6, hsum, n0, n1, m0, m1, pp0, pp1, q0, q1⟩ := hf rfl
      rw [z3] at y1
      have hg : g = true ∧ A = n := by
        injection y1 with y1
        injection y1 with y1 y7
        injection y7 with y7
        injection y1 with y1
        injection y1 with y1 y8
        injection y7 with y7
        exact ⟨by injection y7, y8⟩
      obtain ⟨rfl, rfl⟩ := hg
      rw [z3] at a1
      rw [y2] at a2
      rw [y3] at c3
      rw [y4] at c4
      rw [y5] at a3
      rw [y6] at a4
      clear hf z1 z2 z3 z4 zc y1 y2 y3 y4 y5 y6
      generalize combZ a b 1 = U at *
      generalize combZ a b 2 = I at *
      cases k
      · have hP := hk2 rfl
        subst hP
        refine fn_go Try.func10 rfl rfl Try.ntmps10 Try.results10 (by simp only [slotsOf, argAV, List.map_cons, List.map_nil, Nat.reduceAdd]; rfl) (by simp) ?_
        repeat' (first | (with_reducible first | refine aw_seq fun K hK => ?_ | refine aw_region (by kernel_rfl) ?_ | refine aw_condk ?_ | refine aw_block ?_) | ((with_reducible first | refine evg ?_ | refine ev_guard ?_); simp only [go_sem, ↓reduceIte, Nat.reduceEqDiff, Nat.reduceBEq, Nat.reduceAdd, Nat.reduceMul, Nat.reduceSub, Nat.reduceLT, Nat.reduceLeDiff]) | (simp (disch := omega) only [wr, drop_at, str_at, int_at, Int.reduceSub, Int.reduceAdd, Int.reduceToNat, Int.toNat_zero, bne_self_eq_false, beq_self_eq_true, hE2, wr]) | ((with_reducible refine ev_call ?_); (first | (refine call_fn e0 rfl ?_) | (refine call_fn d1 rfl ?_) | (refine call_fn c1 rfl ?_) | (refine call_fn c2 rfl ?_) | (refine call_fn r1 rfl ?_) | (refine call_fn c3 rfl ?_) | (refine call_fn c4 rfl ?_) | (refine call_fn a1 rfl ?_) | (refine call_fn a2 rfl ?_) | (refine call_fn a3 rfl ?_) | (refine call_fn a4 rfl ?_) | (refine call_fn d2 rfl ?_) | (refine call_fn2 p1 rfl ?_ ?_; (focus (simp only [ints_raw] <;> fail))) | (refine call_fn2 g1 rfl ?_ ?_; (focus (simp only [ints_raw] <;> fail))) | (refine call_fn2 b1 rfl ?_ ?_; (focus (simp only [ints_raw] <;> fail))) | (refine call_fn2 a1 rfl ?_ ?_; (focus (simp only [ints_raw] <;> fail))) | (refine call_fn2 p2 rfl ?_ ?_; (focus (simp only [ints_raw] <;> fail))) | (refine call_fn2 g2 rfl ?_ ?_; (focus (simp only [ints_raw] <;> fail))) | (refine call_fn2 b2 rfl ?_ ?_; (focus (simp only [ints_raw] <;> fail))) | (refine call_fn r2 rfl ?_) | (refine call_fn2 r2 rfl ?_ ?_; (focus (simp only [ints_raw] <;> fail)))); refine k_run ?_) | ((with_reducible refine ev_guard ?_); (with_reducible first | refine guard_t ?_ ?_ rfl | refine guard_f ?_ ?_ rfl) <;> (intro h; (try simp only [h]); (try simp only [nrm] at h) <;> (try ((with_reducible exfalso); omega)))) | ((with_reducible refine ck_split (fun h => ?_) (fun h => ?_)) <;> (try simp only [nrm] at h) <;> (try ((with_reducible exfalso); omega))) | ((with_reducible refine And.intro ?_ ?_); (first | omega | focus (simp; done) | focus (simp; omega) | focus ((repeat' (with_reducible refine And.intro ?_ ?_)) <;> first | omega | rfl | (simp only [go_sem, refsL_app, refs_dmap] <;> fail) | (simp [refsL_app, refs_dmap, AV.refsL, AV.refs] <;> omega)))) | ((with_reducible first | apply hK | (clear hK K; first | apply hK | (clear hK K; first | apply hK | (clear hK K; apply hK)))); clear hK K) | fail)
        all_goals first
          | exact absurd trivial h
          | exact absurd h (by omega)
          | exact absurd (by decide) h
          | exact absurd (decide_eq_true hP).symm h
          | skip
        all_goals (first | refine res_tmp rfl (by simp [D.plain, plains]) (by simp) ?_ | refine res_at rfl (by simp [D.plain, plains]) (by simp) ?_ | refine res_two rfl (by simp [D.plain, plains]) (by simp) ?_ | refine res_three rfl (by simp [D.plain, plains]) (by simp) ?_ | skip)
        all_goals rfl
      · have hP := hk1 rfl
        refine fn_go Try.func10 rfl rfl Try.ntmps10 Try.results10 (by simp only [slotsOf, argAV, List.map_cons, List.map_nil, Nat.reduceAdd]; rfl) (by simp) ?_
        repeat' (first | (with_reducible first | refine aw_seq fun K hK => ?_ | refine aw_region (by kernel_rfl) ?_ | refine aw_condk ?_ | refine aw_block ?_) | ((with_reducible first | refine evg ?_ | refine ev_guard ?_); simp only [go_sem, ↓reduceIte, Nat.reduceEqDiff, Nat.reduceBEq, Nat.reduceAdd, Nat.reduceMul, Nat.reduceSub, Nat.reduceLT, Nat.reduceLeDiff]) | (simp (disch := omega) only [wr, drop_at, str_at, int_at, Int.reduceSub, Int.reduceAdd, Int.reduceToNat, Int.toNat_zero, bne_self_eq_false, beq_self_eq_true, hE2, wr]) | ((with_reducible refine ev_call ?_); (first | (refine call_fn e0 rfl ?_) | (refine call_fn d1 rfl ?_) | (refine call_fn c1 rfl ?_) | (refine call_fn c2 rfl ?_) | (refine call_fn r1 rfl ?_) | (refine call_fn c3 rfl ?_) | (refine call_fn c4 rfl ?_) | (refine call_fn a1 rfl ?_) | (refine call_fn a2 rfl ?_) | (refine call_fn a3 rfl ?_) | (refine call_fn a4 rfl ?_) | (refine call_fn d2 rfl ?_) | (refine call_fn2 p1 rfl ?_ ?_; (focus (simp only [ints_raw] <;> fail))) | (refine call_fn2 g1 rfl ?_ ?_; (focus (simp only [ints_raw] <;> fail))) | (refine call_fn2 b1 rfl ?_ ?_; (focus (simp only [ints_raw] <;> fail))) | (refine call_fn2 a1 rfl ?_ ?_; (focus (simp only [ints_raw] <;> fail))) | (refine call_fn2 p2 rfl ?_ ?_; (focus (simp only [ints_raw] <;> fail))) | (refine call_fn2 g2 rfl ?_ ?_; (focus (simp only [ints_raw] <;> fail))) | (refine call_fn2 b2 rfl ?_ ?_; (focus (simp only [ints_raw] <;> fail))) | (refine call_fn r2 rfl ?_) | (refine call_fn2 r2 rfl ?_ ?_; (focus (simp only [ints_raw] <;> fail)))); refine k_run ?_) | ((with_reducible refine ev_guard ?_); (with_reducible first | refine guard_t ?_ ?_ rfl | refine guard_f ?_ ?_ rfl) <;> (intro h; (try simp only [h]); (try simp only [nrm] at h) <;> (try ((with_reducible exfalso); omega)))) | ((with_reducible refine ck_split (fun h => ?_) (fun h => ?_)) <;> (try simp only [nrm] at h) <;> (try ((with_reducible exfalso); omega))) | ((with_reducible refine And.intro ?_ ?_); (first | omega | focus (simp; done) | focus (simp; omega) | focus ((repeat' (with_reducible refine And.intro ?_ ?_)) <;> first | omega | rfl | (simp only [go_sem, refsL_app, refs_dmap] <;> fail) | (simp [refsL_app, refs_dmap, AV.refsL, AV.refs] <;> omega)))) | ((with_reducible first | apply hK | (clear hK K; first | apply hK | (clear hK K; first | apply hK | (clear hK K; apply hK)))); clear hK K) | fail)
        all_goals first
          | exact absurd trivial h
          | exact absurd h (by omega)
          | exact absurd (by decide) h
          | exact absurd (decide_eq_true hP).symm h
          | skip
        all_goals (first | refine res_tmp rfl (by simp [D.plain, plains]) (by simp) ?_ | refine res_at rfl (by simp [D.plain, plains]) (by simp) ?_ | refine res_two rfl (by simp [D.plain, plains]) (by simp) ?_ | refine res_three rfl (by simp [D.plain, plains]) (by simp) ?_ | skip)
        all_goals rfl

end Go.Proofs.Ytjfeleejiofeoaa
