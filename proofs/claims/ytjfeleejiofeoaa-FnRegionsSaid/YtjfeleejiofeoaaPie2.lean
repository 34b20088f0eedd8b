/- The pieces of a region: both walks and the law. -/
import Derived.Test.YtjfeleejiofeoaaPie
import Derived.Test.YtjfeleejiofeoaaFlowM
import Derived.WalkKit
import Derived.WalkSpells
import Derived.KernelRfl
namespace Go.Proofs.Ytjfeleejiofeoaa
open Go.RowKit
set_option linter.unusedVariables false
set_option linter.unusedSimpArgs false

theorem keyT_pair : KeyT Try.prog 88 2 = True := eq_true (keyT_a2 Try.underlying88 Try.underlying3 (by kernel_rfl) (structEq_a2 Try.underlying88 Try.underlying3 (by kernel_rfl) (by kernel_rfl)))

attribute [local go_sem] intL pairD keyT_pair keysAre_mpB lookD_mpB sidesC besideC

attribute [local simp] ints_plain ints_all ints_all1 ints_plain_take pairs_plain pairs_all

theorem cut_pair (cs : List Nat) (off n : Nat) {c : Nat} {x y : Int} (h1 : ((c % 20 : Nat) : Int) = x) (h2 : ((c / 20 : Nat) : Int) = y) : ((recC pairD cs).drop (off * 2)).take (n * 2) ++ [D.int x, D.int y] = recC pairD ((cs.drop off).take n ++ [c]) := by
  subst h1 h2
  rw [recC_drop pair_k, recC_take pair_k, recC_app]
  rfl

theorem set_pair (S : List Nat) {c : Nat} {x y : Int} (h1 : ((c % 20 : Nat) : Int) = x) (h2 : ((c / 20 : Nat) : Int) = y) (hn : c ∉ S) : setKV [x, y] (Value.bool true) (mpB (prsN S)) = mpB (prsN (S ++ [c])) := by
  rw [setKV_mpB _ _ _ (fun q => hn ((prsN_mem h1 h2).1 q)), prsN_add, h1, h2]

theorem mem_pair (S : List Nat) {c : Nat} {x y : Int} (h1 : ((c % 20 : Nat) : Int) = x) (h2 : ((c / 20 : Nat) : Int) = y) : ((x, y) ∈ prsN S) = (c ∈ S) := propext (prsN_mem h1 h2)

theorem stK_no {zs : List Int} {c k : Nat} {S : List Nat} (h : sideH zs c k = false) : stK zs c S k = S := by
  rw [stK, if_neg]
  rintro ⟨h1, _⟩
  rw [h] at h1
  cases h1

theorem stK_in {zs : List Int} {c k : Nat} {S : List Nat} (h : sideN c k ∈ S) : stK zs c S k = S := by
  rw [stK, if_neg]
  exact fun q => q.2 h

theorem stK_new {zs : List Int} {c k : Nat} {S : List Nat} (h : sideH zs c k = true) (hn : sideN c k ∉ S) : stK zs c S k = S ++ [sideN c k] := by
  rw [stK, if_pos ⟨h, hn⟩]

theorem pieN_in {zs : List Int} {l : List Nat} {i : Nat} (h : l.getD i 0 ∈ (pieN zs l i).1) : pieN zs l (i + 1) = pieN zs l i := by
  rw [pieN, if_pos h]

theorem pieN_new {zs : List Int} {l : List Nat} {i : Nat} (h : l.getD i 0 ∉ (pieN zs l i).1) : pieN zs l (i + 1) = (pieF zs 481 ((pieN zs l i).1 ++ [l.getD i 0]) (pieN zs l i).1.length, (pieN zs l i).2 + 1) := by
  rw [pieN, if_neg h]

set_option maxRecDepth 100000 in
set_option maxHeartbeats 4000000 in
theorem implPie_fn (zs : List Int) (hl : zs.length ≤ 9223372036854775807) (hi : inI zs) : FnD Try.prog 26 [.ag [intL zs]] (pieR zs) := by
  have e1 := isValidRegion_fn zs hl hi
  cases g1 : okReg zs
  · rw [g1] at e1
    refine fn_go Try.func26 rfl rfl Try.ntmps26 Try.results26 (by simp only [slotsOf, argAV, List.map_cons, List.map_nil, Nat.reduceAdd]; rfl) (by simp) ?_
    repeat' (first | (with_reducible first | refine aw_seq fun K hK => ?_ | refine aw_region (by kernel_rfl) ?_ | refine aw_condk ?_ | refine aw_block ?_) | ((with_reducible refine evg ?_); simp only [go_sem, ↓reduceIte, Nat.reduceEqDiff, Nat.reduceBEq, Nat.reduceAdd, Nat.reduceMul, Nat.reduceSub, Nat.reduceLT, Nat.reduceLeDiff]) | ((with_reducible refine ev_call ?_); (first | (refine call_fn e1 rfl ?_)); refine k_run ?_) | ((with_reducible refine ev_guard ?_); (with_reducible first | refine guard_t ?_ ?_ rfl | refine guard_f ?_ ?_ rfl) <;> (intro h; (try simp only [h]); (try simp only [nrm] at h))) | ((with_reducible refine ck_split (fun h => ?_) (fun h => ?_)) <;> (try simp only [nrm] at h)) | ((with_reducible refine And.intro ?_ ?_); (first | omega | focus (simp; done) | focus (simp; omega) | focus ((repeat' (with_reducible refine And.intro ?_ ?_)) <;> first | omega | rfl | (simp only [go_sem, refsL_app, refs_dmap] <;> fail) | (simp [refsL_app, refs_dmap, AV.refsL, AV.refs] <;> omega)))) | ((with_reducible first | apply hK | (clear hK K; first | apply hK | (clear hK K; first | apply hK | (clear hK K; apply hK)))); clear hK K) | (simp (disch := omega) only [wr, drop_at, str_at, int_at, Int.reduceSub, Int.reduceAdd, Int.reduceToNat, Int.toNat_zero]) | fail)
    (first | refine res_tmp rfl (by simp [D.plain, plains]) (by simp) ?_ | refine res_at rfl (by simp [D.plain, plains]) (by simp) ?_ | refine res_two rfl (by simp [D.plain, plains]) (by simp) ?_ | refine res_three rfl (by simp [D.plain, plains]) (by simp) ?_)
    simp [pieR, g1]
  · rw [g1] at e1
    have e2 := cells_fn zs g1
    have hlen := cellsN_len zs 480
    have hl2 := pairs_len (cellsN zs 480)
    have hR : pieR zs = .tu [.int ((pieN zs (cellsN zs 480) (cellsN zs 480).length).2 : Nat), .bool true] := by rw [pieR, if_pos g1]
    have hin : ∀ c ∈ cellsN zs 480, inR0 zs c := fun c hc => cellsN_mem hc
    generalize cellsN zs 480 = l at e2 hlen hl2 hR hin
    rw [hR]
    refine fn_go Try.func26 rfl rfl Try.ntmps26 Try.results26 (by simp only [slotsOf, argAV, List.map_cons, List.map_nil, Nat.reduceAdd]; rfl) (by simp) ?_
    repeat' (first | (with_reducible first | refine aw_seq fun K hK => ?_ | refine aw_region (by kernel_rfl) ?_ | refine aw_condk ?_ | refine aw_block ?_) | ((with_reducible refine evg ?_); simp only [go_sem, ↓reduceIte, Nat.reduceEqDiff, Nat.reduceBEq, Nat.reduceAdd, Nat.reduceMul, Nat.reduceSub, Nat.reduceLT, Nat.reduceLeDiff]) | (simp (disch := omega) only [wr, drop_at, str_at, int_at, Int.reduceSub, Int.reduceAdd, Int.reduceToNat, Int.toNat_zero, wr]) | ((with_reducible refine ev_call ?_); (first | (refine call_fn e1 rfl ?_) | (refine call_fn e2 rfl ?_)); refine k_run ?_) | ((with_reducible refine ev_guard ?_); (with_reducible first | refine guard_t ?_ ?_ rfl | refine guard_f ?_ ?_ rfl) <;> (intro h; (try simp only [h]); (try simp only [nrm] at h) <;> (try ((with_reducible exfalso); omega)))) | ((with_reducible refine ck_split (fun h => ?_) (fun h => ?_)) <;> (try simp only [nrm] at h) <;> (try ((with_reducible exfalso); omega))) | ((with_reducible refine And.intro ?_ ?_); (first | omega | focus (simp; done) | focus (simp; omega) | focus ((repeat' (with_reducible refine And.intro ?_ ?_)) <;> first | omega | rfl | (simp only [go_sem, refsL_app, refs_dmap] <;> fail) | (simp [refsL_app, refs_dmap, AV.refsL, AV.refs] <;> omega)))) | ((with_reducible first | apply hK | (clear hK K; first | apply hK | (clear hK K; first | apply hK | (clear hK K; apply hK)))); clear hK K) | fail)
    refine aw_loopU [5, 7, 8, 9, 11, 19, 20, 21, 22, 23, 24, 25, 26, 27, 28, 29, 30, 31, 32, 33, 34, 35, 36, 37, 38, 39, 40, 41, 42, 43, 44, 45, 46, 47, 48, 49, 50, 51, 52, 53, 54, 55, 56, 57, 58, 59, 60, 61, 62, 63, 64, 65, 66] [7, 9, 11, 15, 31, 33, 41, 42, 52, 63, 64] (fun i : Nat => [(19, .d (.int i)), (5, .d (.int ((pieN zs l i).2 : Nat)))]) (fun i => [(15, .mp (mpB (prsN (pieN zs l i).1)))]) (fun i => i ≤ l.length) (fun i => l.length - i) 0 (by omega) ?_ ?_
    · (refine lessW_of [] rfl ?_ <;> simp only [St.sws, St.sw, swS, swO, AV.sw, AV.swL, OB.sw, swp, St.upd, dropS, dropOs, Less, SubS, SubO, look, lookO, List.elem, List.cons_append, List.nil_append, cond_true, cond_false, and_true, true_and, beq_self_eq_true, ↓reduceIte, Nat.reduceEqDiff, Nat.reduceBEq, Nat.reduceAdd, Nat.reduceMul, Nat.reduceSub, Nat.reduceLT, Nat.reduceLeDiff] <;> try simp)
      all_goals (first | rfl | (refine ⟨?_, ?_⟩ <;> rfl))
    · rintro i i1
      simp only [St.upd, dropS, dropOs, List.elem, List.cons_append, List.nil_append, cond_true, cond_false, beq_self_eq_true, ↓reduceIte, Nat.reduceEqDiff, Nat.reduceBEq, Nat.reduceAdd, Nat.reduceMul, Nat.reduceSub, Nat.reduceLT, Nat.reduceLeDiff]
      by_cases hlt : i < l.length
      · have hcnt := (pieN_cnt (zs := zs) (l := l) i).1
        have hok := okS_pieN hin i (by omega)
        have hc0 := hin _ (getD_mem 0 hlt)
        have hpa := pair_at hlt
        have hnx : l.getD i 0 ∈ (pieN zs l i).1 → pieN zs l (i + 1) = pieN zs l i := pieN_in
        have hny : l.getD i 0 ∉ (pieN zs l i).1 → pieN zs l (i + 1) = (pieF zs 481 ((pieN zs l i).1 ++ [l.getD i 0]) (pieN zs l i).1.length, (pieN zs l i).2 + 1) := pieN_new
        generalize hRe : pieN zs l (i + 1) = R at *
        generalize hT : pieN zs l i = T at *
        obtain ⟨S, n⟩ := T
        generalize l.getD i 0 = c at *
        simp only at hcnt hok hnx hny
        obtain ⟨x, hx⟩ : ∃ x, ((c % 20 : Nat) : Int) = x := ⟨_, rfl⟩
        obtain ⟨y, hy⟩ : ∃ y, ((c / 20 : Nat) : Int) = y := ⟨_, rfl⟩
        have hm := mem_pair S hx hy
        rw [hx, hy] at hpa
        by_cases hin' : c ∈ S
        · have hd : decide ((x, y) ∈ prsN S) = true := decide_eq_true (by rw [hm]; exact hin')
          repeat' (first | (with_reducible first | refine aw_seq fun K hK => ?_ | refine aw_region (by kernel_rfl) ?_ | refine aw_condk ?_ | refine aw_block ?_) | ((with_reducible refine evg ?_); simp only [go_sem, ↓reduceIte, Nat.reduceEqDiff, Nat.reduceBEq, Nat.reduceAdd, Nat.reduceMul, Nat.reduceSub, Nat.reduceLT, Nat.reduceLeDiff]) | (simp (disch := omega) only [wr, drop_at, str_at, int_at, Int.reduceSub, Int.reduceAdd, Int.reduceToNat, Int.toNat_zero, hpa, hd, wr]) | ((with_reducible refine ev_guard ?_); (with_reducible first | refine guard_t ?_ ?_ rfl | refine guard_f ?_ ?_ rfl) <;> (intro h; (try simp only [h]); (try simp only [nrm] at h) <;> (try ((with_reducible exfalso); omega)))) | ((with_reducible refine ck_split (fun h => ?_) (fun h => ?_)) <;> (try simp only [nrm] at h) <;> (try ((with_reducible exfalso); omega))) | ((with_reducible refine And.intro ?_ ?_); (first | omega | focus (simp; done) | focus (simp; omega) | focus ((repeat' (with_reducible refine And.intro ?_ ?_)) <;> first | omega | rfl | (simp only [go_sem, refsL_app, refs_dmap] <;> fail) | (simp [refsL_app, refs_dmap, AV.refsL, AV.refs] <;> omega)))) | ((with_reducible first | apply hK | (clear hK K; first | apply hK | (clear hK K; first | apply hK | (clear hK K; apply hK)))); clear hK K) | fail)
          have := hnx hin'
          refine ⟨i + 1, by omega, by omega, ?_⟩
          rw [hRe, this]
          (refine lessW_of [] rfl ?_ <;> simp only [St.sws, St.sw, swS, swO, AV.sw, AV.swL, OB.sw, swp, St.upd, dropS, dropOs, Less, SubS, SubO, look, lookO, List.elem, List.cons_append, List.nil_append, cond_true, cond_false, and_true, true_and, beq_self_eq_true, ↓reduceIte, Nat.reduceEqDiff, Nat.reduceBEq, Nat.reduceAdd, Nat.reduceMul, Nat.reduceSub, Nat.reduceLT, Nat.reduceLeDiff] <;> try simp)
        · have hd : decide ((x, y) ∈ prsN S) = false := decide_eq_false (by rw [hm]; exact hin')
          have hst := set_pair S hx hy hin'
          have hRR := hny hin'
          have hlS := okS_len hok
          have hS1 := okS_add hok hc0 hin'
          have hfin : pieF zs (481 + S.length - S.length) (S ++ [c]) S.length = pieF zs 481 (S ++ [c]) S.length := by rw [Nat.add_sub_cancel]
          have hF : R.1 = pieF zs 481 (S ++ [c]) S.length := by rw [hRR]
          have hN : R.2 = n + 1 := by rw [hRR]
          obtain ⟨FL, hFL⟩ : ∃ FL, pieF zs 481 (S ++ [c]) S.length = FL := ⟨_, rfl⟩
          obtain ⟨j0, hj0⟩ : ∃ j0, S.length = j0 := ⟨_, rfl⟩
          have hq0 : quN (S ++ [c]) j0 [c] 0 := by rw [← hj0]; exact quN_one
          rw [hFL] at hF hfin
          rw [hj0] at hfin hlS
          clear hRR hny hnx
          repeat' (first | (with_reducible first | refine aw_seq fun K hK => ?_ | refine aw_region (by kernel_rfl) ?_ | refine aw_condk ?_ | refine aw_block ?_) | ((with_reducible refine evg ?_); simp only [go_sem, ↓reduceIte, Nat.reduceEqDiff, Nat.reduceBEq, Nat.reduceAdd, Nat.reduceMul, Nat.reduceSub, Nat.reduceLT, Nat.reduceLeDiff]) | (simp (disch := omega) only [wr, drop_at, str_at, int_at, Int.reduceSub, Int.reduceAdd, Int.reduceToNat, Int.toNat_zero, hpa, hd, hst, wr]) | ((with_reducible refine ev_guard ?_); (with_reducible first | refine guard_t ?_ ?_ rfl | refine guard_f ?_ ?_ rfl) <;> (intro h; (try simp only [h]); (try simp only [nrm] at h) <;> (try ((with_reducible exfalso); omega)))) | ((with_reducible refine ck_split (fun h => ?_) (fun h => ?_)) <;> (try simp only [nrm] at h) <;> (try ((with_reducible exfalso); omega))) | ((with_reducible refine And.intro ?_ ?_); (first | omega | focus (simp; done) | focus (simp; omega) | focus ((repeat' (with_reducible refine And.intro ?_ ?_)) <;> first | omega | rfl | (simp only [go_sem, refsL_app, refs_dmap] <;> fail) | (simp [refsL_app, refs_dmap, AV.refsL, AV.refs] <;> omega)))) | ((with_reducible first | apply hK | (clear hK K; first | apply hK | (clear hK K; first | apply hK | (clear hK K; apply hK)))); clear hK K) | fail)
          refine aw_loopU [7, 8, 9, 11, 20, 21, 22, 23, 24, 25, 26, 27, 28, 29, 30, 31, 32, 33, 34, 35, 36, 37, 38, 39, 40, 41, 42, 43, 44, 45, 46, 47, 48, 49, 50, 51, 52, 53, 54, 55, 56, 57, 58, 59, 60, 61, 62, 63, 64, 65] [7, 9, 11, 15, 20, 21, 22, 23, 24, 25, 26, 27, 28, 29, 30, 31, 33, 41, 42, 52, 63, 64] (fun s : (List Nat × Nat) × (List Nat × Nat) => [(8, .bs 64 (s.1.2 * 2) (s.2.1.length - s.2.2) 2)]) (fun s => [(64, .ds (recC pairD s.1.1)), (15, .mp (mpB (prsN s.2.1)))]) (fun s => quN s.2.1 s.2.2 s.1.1 s.1.2 ∧ s.2.2 ≤ s.2.1.length ∧ okS zs s.2.1 ∧ pieF zs (481 + j0 - s.2.2) s.2.1 s.2.2 = FL ∧ j0 ≤ s.2.2) (fun s => 481 + j0 - s.2.2) (([c], 0), (S ++ [c], j0)) ⟨hq0, by simp only [List.length_append, List.length_singleton]; omega, hS1, hfin, Nat.le_refl _⟩ ?_ ?_
          · simp only [List.length_append, List.length_singleton]
            (refine lessW_of [(31, 64)] rfl ?_ <;> simp only [St.sws, St.sw, swS, swO, AV.sw, AV.swL, OB.sw, swp, St.upd, dropS, dropOs, Less, SubS, SubO, look, lookO, List.elem, List.cons_append, List.nil_append, cond_true, cond_false, and_true, true_and, beq_self_eq_true, ↓reduceIte, Nat.reduceEqDiff, Nat.reduceBEq, Nat.reduceAdd, Nat.reduceMul, Nat.reduceSub, Nat.reduceLT, Nat.reduceLeDiff] <;> try simp)
            refine ⟨by omega, ?_⟩
            rw [← hx, ← hy]
            rfl
          · rintro ⟨⟨cs, off⟩, ⟨Q, j⟩⟩ ⟨f1, f2, f3, f4, f5⟩
            simp only at f1 f2 f3 f4 f5
            simp only [St.upd, dropS, dropOs, List.elem, List.cons_append, List.nil_append, cond_true, cond_false, beq_self_eq_true, ↓reduceIte, Nat.reduceEqDiff, Nat.reduceBEq, Nat.reduceAdd, Nat.reduceMul, Nat.reduceSub, Nat.reduceLT, Nat.reduceLeDiff]
            have hc1 := f1.1
            have hlQ := okS_len f3
            by_cases hj : j < Q.length
            · have hq := f1.2 0 (by omega)
              rw [Nat.add_zero, Nat.add_zero] at hq
              have hpo : ((recC pairD cs).drop (off * 2)).take 2 = [.int ((Q.getD j 0 % 20 : Nat) : Int), .int ((Q.getD j 0 / 20 : Nat) : Int)] := by
                rw [← hq]
                exact pair_at (by omega)
              have hj1 : 481 + j0 - j = (481 + j0 - (j + 1)) + 1 := by omega
              rw [hj1, pieF, if_pos hj] at f4
              have hown := f3.2 _ (getD_mem 0 hj)
              have hlcs := pairs_len cs
              generalize Q.getD j 0 = own at *
              have e3 := sides_fn ((own % 20 : Nat) : Int) ((own / 20 : Nat) : Int) (by omega) (by have := hown.1; omega)
              repeat' (first | (with_reducible first | refine aw_seq fun K hK => ?_ | refine aw_region (by kernel_rfl) ?_ | refine aw_condk ?_ | refine aw_block ?_) | ((with_reducible refine evg ?_); simp only [go_sem, ↓reduceIte, Nat.reduceEqDiff, Nat.reduceBEq, Nat.reduceAdd, Nat.reduceMul, Nat.reduceSub, Nat.reduceLT, Nat.reduceLeDiff]) | (simp (disch := omega) only [wr, drop_at, str_at, int_at, Int.reduceSub, Int.reduceAdd, Int.reduceToNat, Int.toNat_zero, hpo, hlcs, wr]) | ((with_reducible refine ev_call ?_); (first | (refine call_fn e3 rfl ?_)); refine k_run ?_) | ((with_reducible refine ev_guard ?_); (with_reducible first | refine guard_t ?_ ?_ rfl | refine guard_f ?_ ?_ rfl) <;> (intro h; (try simp only [h]); (try simp only [nrm] at h) <;> (try ((with_reducible exfalso); omega)))) | ((with_reducible refine ck_split (fun h => ?_) (fun h => ?_)) <;> (try simp only [nrm] at h) <;> (try ((with_reducible exfalso); omega))) | ((with_reducible refine And.intro ?_ ?_); (first | omega | focus (simp; done) | focus (simp; omega) | focus ((repeat' (with_reducible refine And.intro ?_ ?_)) <;> first | omega | rfl | (simp only [go_sem, refsL_app, refs_dmap] <;> fail) | (simp [refsL_app, refs_dmap, AV.refsL, AV.refs] <;> omega)))) | ((with_reducible first | apply hK | (clear hK K; first | apply hK | (clear hK K; first | apply hK | (clear hK K; apply hK)))); clear hK K) | fail)
              refine aw_loopU [8, 9, 11, 32, 33, 34, 35, 36, 37, 38, 39, 40, 43, 44, 45, 46, 47, 48, 49, 50, 51, 52, 53, 54, 55, 56, 57, 58, 59, 60, 61, 62, 63, 64, 65] [9, 11, 15, 32, 33, 34, 35, 36, 37, 38, 39, 40, 52, 63, 64] (fun s : Nat × ((List Nat × Nat) × Nat) => [(43, .d (.int s.1)), (8, .bs 64 (s.2.1.2 * 2) s.2.2 2)]) (fun s => [(64, .ds (recC pairD s.2.1.1)), (15, .mp (mpB (prsN (stF zs own Q s.1))))]) (fun s => s.1 ≤ 4 ∧ quN (stF zs own Q s.1) (j + 1) s.2.1.1 s.2.1.2 ∧ s.2.2 = (stF zs own Q s.1).length - (j + 1)) (fun s => 4 - s.1) (0, ((cs, off + 1), Q.length - j - 1)) ⟨by omega, quN_pop f1 hj, by simp only [stF]; omega⟩ ?_ ?_
              · simp only [stF]
                (refine lessW_of [] rfl ?_ <;> simp only [St.sws, St.sw, swS, swO, AV.sw, AV.swL, OB.sw, swp, St.upd, dropS, dropOs, Less, SubS, SubO, look, lookO, List.elem, List.cons_append, List.nil_append, cond_true, cond_false, and_true, true_and, beq_self_eq_true, ↓reduceIte, Nat.reduceEqDiff, Nat.reduceBEq, Nat.reduceAdd, Nat.reduceMul, Nat.reduceSub, Nat.reduceLT, Nat.reduceLeDiff] <;> try simp)
                all_goals (first | rfl | omega | (refine ⟨?_, ?_⟩ <;> first | rfl | omega))
              · rintro ⟨k, ⟨ds, of⟩, m⟩ ⟨u1, u2, u3⟩
                simp only at u1 u2 u3
                simp only [St.upd, dropS, dropOs, List.elem, List.cons_append, List.nil_append, cond_true, cond_false, beq_self_eq_true, ↓reduceIte, Nat.reduceEqDiff, Nat.reduceBEq, Nat.reduceAdd, Nat.reduceMul, Nat.reduceSub, Nat.reduceLT, Nat.reduceLeDiff]
                have hst2 := okS_stF (zs := zs) (c := own) f3 k
                obtain ⟨M, hM⟩ := stF_grow (zs := zs) (S := Q) (c := own) k
                have hlM : j + 1 ≤ (stF zs own Q k).length := by rw [hM, List.length_append]; omega
                have hnx2 : stF zs own Q (k + 1) = stK zs own (stF zs own Q k) k := rfl
                have hl4 := okS_len hst2
                have hd1 := u2.1
                have hld := pairs_len ds
                by_cases hk : k < 4
                · have e4 := implHas_fn zs (sx ((own % 20 : Nat) : Int) k) (sy ((own / 20 : Nat) : Int) k) (okReg_len g1) (fun h => okReg_y g1 h)
                  have hk4 : k = 0 ∨ k = 1 ∨ k = 2 ∨ k = 3 := by omega
                  have hside : sideH zs own k = hasZ zs (sx ((own % 20 : Nat) : Int) k) (sy ((own / 20 : Nat) : Int) k) := rfl
                  cases g4 : hasZ zs (sx ((own % 20 : Nat) : Int) k) (sy ((own / 20 : Nat) : Int) k)
                  · rw [g4] at e4 hside
                    rw [stK_no hside] at hnx2
                    rw [← hnx2] at u2 u3
                    rcases hk4 with rfl | rfl | rfl | rfl
                    all_goals
                      simp only [sx, sy, Nat.reduceEqDiff, if_true, if_false, Bool.false_eq_true] at e4
                      repeat' (first | (with_reducible first | refine aw_seq fun K hK => ?_ | refine aw_region (by kernel_rfl) ?_ | refine aw_condk ?_ | refine aw_block ?_) | ((with_reducible refine evg ?_); simp only [go_sem, ↓reduceIte, Nat.reduceEqDiff, Nat.reduceBEq, Nat.reduceAdd, Nat.reduceMul, Nat.reduceSub, Nat.reduceLT, Nat.reduceLeDiff]) | (simp (disch := omega) only [wr, drop_at, str_at, int_at, Int.reduceSub, Int.reduceAdd, Int.reduceToNat, Int.toNat_zero, wr, wru]) | ((with_reducible refine ev_call ?_); (first | (refine call_fn e4 rfl ?_)); refine k_run ?_) | ((with_reducible refine ev_guard ?_); (with_reducible first | refine guard_t ?_ ?_ rfl | refine guard_f ?_ ?_ rfl) <;> (intro h; (try simp only [h]); (try simp only [nrm] at h) <;> (try ((with_reducible exfalso); omega)))) | ((with_reducible refine ck_split (fun h => ?_) (fun h => ?_)) <;> (try simp only [nrm] at h) <;> (try ((with_reducible exfalso); omega))) | ((with_reducible refine And.intro ?_ ?_); (first | omega | focus (simp; done) | focus (simp; omega) | focus ((repeat' (with_reducible refine And.intro ?_ ?_)) <;> first | omega | rfl | (simp only [go_sem, refsL_app, refs_dmap] <;> fail) | (simp [refsL_app, refs_dmap, AV.refsL, AV.refs] <;> omega)))) | ((with_reducible first | apply hK | (clear hK K; first | apply hK | (clear hK K; first | apply hK | (clear hK K; apply hK)))); clear hK K) | fail)
                      refine ⟨(_ + 1, ((ds, of), m)), ⟨by simp only; omega, u2, u3⟩, by simp only; omega, ?_⟩
                      simp only
                      rw [hnx2]
                      (refine lessW_of [] rfl ?_ <;> simp only [St.sws, St.sw, swS, swO, AV.sw, AV.swL, OB.sw, swp, St.upd, dropS, dropOs, Less, SubS, SubO, look, lookO, List.elem, List.cons_append, List.nil_append, cond_true, cond_false, and_true, true_and, beq_self_eq_true, ↓reduceIte, Nat.reduceEqDiff, Nat.reduceBEq, Nat.reduceAdd, Nat.reduceMul, Nat.reduceSub, Nat.reduceLT, Nat.reduceLeDiff] <;> try simp)
                      all_goals (first | rfl | omega | (refine ⟨?_, ?_⟩ <;> first | rfl | omega))
                  · rw [g4] at e4 hside
                    obtain ⟨s1, s2, s3, s4⟩ := sideN_at hside
                    by_cases hin2 : sideN own k ∈ stF zs own Q k
                    · rw [stK_in hin2] at hnx2
                      have hd2 : decide ((sx ((own % 20 : Nat) : Int) k, sy ((own / 20 : Nat) : Int) k) ∈ prsN (stF zs own Q k)) = true := decide_eq_true (by rw [mem_pair _ s1 s2]; exact hin2)
                      rw [← hnx2] at u2 u3
                      rcases hk4 with rfl | rfl | rfl | rfl
                      all_goals
                        simp only [sx, sy, Nat.reduceEqDiff, if_true, if_false, Bool.false_eq_true] at e4 hd2
                        repeat' (first | (with_reducible first | refine aw_seq fun K hK => ?_ | refine aw_region (by kernel_rfl) ?_ | refine aw_condk ?_ | refine aw_block ?_) | ((with_reducible refine evg ?_); simp only [go_sem, ↓reduceIte, Nat.reduceEqDiff, Nat.reduceBEq, Nat.reduceAdd, Nat.reduceMul, Nat.reduceSub, Nat.reduceLT, Nat.reduceLeDiff]) | (simp (disch := omega) only [wr, drop_at, str_at, int_at, Int.reduceSub, Int.reduceAdd, Int.reduceToNat, Int.toNat_zero, hd2, wr, wru]) | ((with_reducible refine ev_call ?_); (first | (refine call_fn e4 rfl ?_)); refine k_run ?_) | ((with_reducible refine ev_guard ?_); (with_reducible first | refine guard_t ?_ ?_ rfl | refine guard_f ?_ ?_ rfl) <;> (intro h; (try simp only [h]); (try simp only [nrm] at h) <;> (try ((with_reducible exfalso); omega)))) | ((with_reducible refine ck_split (fun h => ?_) (fun h => ?_)) <;> (try simp only [nrm] at h) <;> (try ((with_reducible exfalso); omega))) | ((with_reducible refine And.intro ?_ ?_); (first | omega | focus (simp; done) | focus (simp; omega) | focus ((repeat' (with_reducible refine And.intro ?_ ?_)) <;> first | omega | rfl | (simp only [go_sem, refsL_app, refs_dmap] <;> fail) | (simp [refsL_app, refs_dmap, AV.refsL, AV.refs] <;> omega)))) | ((with_reducible first | apply hK | (clear hK K; first | apply hK | (clear hK K; first | apply hK | (clear hK K; apply hK)))); clear hK K) | fail)
                        refine ⟨(_ + 1, ((ds, of), m)), ⟨by simp only; omega, u2, u3⟩, by simp only; omega, ?_⟩
                        simp only
                        rw [hnx2]
                        (refine lessW_of [] rfl ?_ <;> simp only [St.sws, St.sw, swS, swO, AV.sw, AV.swL, OB.sw, swp, St.upd, dropS, dropOs, Less, SubS, SubO, look, lookO, List.elem, List.cons_append, List.nil_append, cond_true, cond_false, and_true, true_and, beq_self_eq_true, ↓reduceIte, Nat.reduceEqDiff, Nat.reduceBEq, Nat.reduceAdd, Nat.reduceMul, Nat.reduceSub, Nat.reduceLT, Nat.reduceLeDiff] <;> try simp)
                        all_goals (first | rfl | omega | (refine ⟨?_, ?_⟩ <;> first | rfl | omega))
                    · rw [stK_new hside hin2] at hnx2
                      have hd2 : decide ((sx ((own % 20 : Nat) : Int) k, sy ((own / 20 : Nat) : Int) k) ∈ prsN (stF zs own Q k)) = false := decide_eq_false (by rw [mem_pair _ s1 s2]; exact hin2)
                      have hst3 := set_pair (stF zs own Q k) s1 s2 hin2
                      have hcut := cut_pair ds of m s1 s2
                      have hpush := quN_push (c := sideN own k) u2 hlM u3
                      have hm1 : m + 1 = (stF zs own Q (k + 1)).length - (j + 1) := by rw [hnx2, List.length_append, List.length_singleton]; omega
                      rw [← hnx2] at hpush hst3
                      rcases hk4 with rfl | rfl | rfl | rfl
                      all_goals
                        simp only [sx, sy, Nat.reduceEqDiff, if_true, if_false, Bool.false_eq_true] at e4 hd2 hst3 hcut
                        repeat' (first | (with_reducible first | refine aw_seq fun K hK => ?_ | refine aw_region (by kernel_rfl) ?_ | refine aw_condk ?_ | refine aw_block ?_) | ((with_reducible refine evg ?_); simp only [go_sem, ↓reduceIte, Nat.reduceEqDiff, Nat.reduceBEq, Nat.reduceAdd, Nat.reduceMul, Nat.reduceSub, Nat.reduceLT, Nat.reduceLeDiff]) | (simp (disch := omega) only [wr, drop_at, str_at, int_at, Int.reduceSub, Int.reduceAdd, Int.reduceToNat, Int.toNat_zero, hd2, hst3, hcut, hld, wr, wru]) | ((with_reducible refine ev_call ?_); (first | (refine call_fn e4 rfl ?_)); refine k_run ?_) | ((with_reducible refine ev_guard ?_); (with_reducible first | refine guard_t ?_ ?_ rfl | refine guard_f ?_ ?_ rfl) <;> (intro h; (try simp only [h]); (try simp only [nrm] at h) <;> (try ((with_reducible exfalso); omega)))) | ((with_reducible refine ck_split (fun h => ?_) (fun h => ?_)) <;> (try simp only [nrm] at h) <;> (try ((with_reducible exfalso); omega))) | ((with_reducible refine And.intro ?_ ?_); (first | omega | focus (simp; done) | focus (simp; omega) | focus ((repeat' (with_reducible refine And.intro ?_ ?_)) <;> first | omega | rfl | (simp only [go_sem, refsL_app, refs_dmap] <;> fail) | (simp [refsL_app, refs_dmap, AV.refsL, AV.refs] <;> omega)))) | ((with_reducible first | apply hK | (clear hK K; first | apply hK | (clear hK K; first | apply hK | (clear hK K; apply hK)))); clear hK K) | fail)
                        refine ⟨(_ + 1, ((((ds.drop of).take m) ++ [sideN own _], 0), m + 1)), ⟨by simp only; omega, hpush, hm1⟩, by simp only; omega, ?_⟩
                        (refine lessW_of [] rfl ?_ <;> simp only [St.sws, St.sw, swS, swO, AV.sw, AV.swL, OB.sw, swp, St.upd, dropS, dropOs, Less, SubS, SubO, look, lookO, List.elem, List.cons_append, List.nil_append, cond_true, cond_false, and_true, true_and, beq_self_eq_true, ↓reduceIte, Nat.reduceEqDiff, Nat.reduceBEq, Nat.reduceAdd, Nat.reduceMul, Nat.reduceSub, Nat.reduceLT, Nat.reduceLeDiff] <;> try simp)
                        all_goals (first | rfl | omega | (refine ⟨?_, ?_⟩ <;> first | rfl | omega))
                · have hk4 : k = 4 := by omega
                  subst hk4
                  repeat' (first | (with_reducible first | refine aw_seq fun K hK => ?_ | refine aw_region (by kernel_rfl) ?_ | refine aw_condk ?_ | refine aw_block ?_) | ((with_reducible refine evg ?_); simp only [go_sem, ↓reduceIte, Nat.reduceEqDiff, Nat.reduceBEq, Nat.reduceAdd, Nat.reduceMul, Nat.reduceSub, Nat.reduceLT, Nat.reduceLeDiff]) | (simp (disch := omega) only [wr, drop_at, str_at, int_at, Int.reduceSub, Int.reduceAdd, Int.reduceToNat, Int.toNat_zero, wr]) | ((with_reducible refine ev_guard ?_); (with_reducible first | refine guard_t ?_ ?_ rfl | refine guard_f ?_ ?_ rfl) <;> (intro h; (try simp only [h]); (try simp only [nrm] at h) <;> (try ((with_reducible exfalso); omega)))) | ((with_reducible refine ck_split (fun h => ?_) (fun h => ?_)) <;> (try simp only [nrm] at h) <;> (try ((with_reducible exfalso); omega))) | ((with_reducible refine And.intro ?_ ?_); (first | omega | focus (simp; done) | focus (simp; omega) | focus ((repeat' (with_reducible refine And.intro ?_ ?_)) <;> first | omega | rfl | (simp only [go_sem, refsL_app, refs_dmap] <;> fail) | (simp [refsL_app, refs_dmap, AV.refsL, AV.refs] <;> omega)))) | ((with_reducible first | apply hK | (clear hK K; first | apply hK | (clear hK K; first | apply hK | (clear hK K; apply hK)))); clear hK K) | fail)
                  subst u3
                  refine ⟨((ds, of), (stF zs own Q 4, j + 1)), ⟨u2, hlM, hst2, f4, by simp only; omega⟩, by simp only; omega, ?_⟩
                  (refine lessW_of [] rfl ?_ <;> simp only [St.sws, St.sw, swS, swO, AV.sw, AV.swL, OB.sw, swp, St.upd, dropS, dropOs, Less, SubS, SubO, look, lookO, List.elem, List.cons_append, List.nil_append, cond_true, cond_false, and_true, true_and, beq_self_eq_true, ↓reduceIte, Nat.reduceEqDiff, Nat.reduceBEq, Nat.reduceAdd, Nat.reduceMul, Nat.reduceSub, Nat.reduceLT, Nat.reduceLeDiff] <;> try simp)
                  all_goals (first | rfl | omega | (refine ⟨?_, ?_⟩ <;> first | rfl | omega))
            · have hjQ : Q.length ≤ j := by omega
              rw [pieF_end hjQ] at f4
              subst f4
              repeat' (first | (with_reducible first | refine aw_seq fun K hK => ?_ | refine aw_region (by kernel_rfl) ?_ | refine aw_condk ?_ | refine aw_block ?_) | ((with_reducible refine evg ?_); simp only [go_sem, ↓reduceIte, Nat.reduceEqDiff, Nat.reduceBEq, Nat.reduceAdd, Nat.reduceMul, Nat.reduceSub, Nat.reduceLT, Nat.reduceLeDiff]) | (simp (disch := omega) only [wr, drop_at, str_at, int_at, Int.reduceSub, Int.reduceAdd, Int.reduceToNat, Int.toNat_zero, wr]) | ((with_reducible refine ev_guard ?_); (with_reducible first | refine guard_t ?_ ?_ rfl | refine guard_f ?_ ?_ rfl) <;> (intro h; (try simp only [h]); (try simp only [nrm] at h) <;> (try ((with_reducible exfalso); omega)))) | ((with_reducible refine ck_split (fun h => ?_) (fun h => ?_)) <;> (try simp only [nrm] at h) <;> (try ((with_reducible exfalso); omega))) | ((with_reducible refine And.intro ?_ ?_); (first | omega | focus (simp; done) | focus (simp; omega) | focus ((repeat' (with_reducible refine And.intro ?_ ?_)) <;> first | omega | rfl | (simp only [go_sem, refsL_app, refs_dmap] <;> fail) | (simp [refsL_app, refs_dmap, AV.refsL, AV.refs] <;> omega)))) | ((with_reducible first | apply hK | (clear hK K; first | apply hK | (clear hK K; first | apply hK | (clear hK K; apply hK)))); clear hK K) | fail)
              refine ⟨i + 1, by omega, by omega, ?_⟩
              rw [hRe]
              obtain ⟨R1, R2⟩ := R
              simp only at hF hN
              subst hF hN
              (refine lessW_of [] rfl ?_ <;> simp only [St.sws, St.sw, swS, swO, AV.sw, AV.swL, OB.sw, swp, St.upd, dropS, dropOs, Less, SubS, SubO, look, lookO, List.elem, List.cons_append, List.nil_append, cond_true, cond_false, and_true, true_and, beq_self_eq_true, ↓reduceIte, Nat.reduceEqDiff, Nat.reduceBEq, Nat.reduceAdd, Nat.reduceMul, Nat.reduceSub, Nat.reduceLT, Nat.reduceLeDiff] <;> try simp)
              all_goals (first | rfl | omega | (refine ⟨?_, ?_⟩ <;> first | rfl | omega))
      · have e : i = l.length := by omega
        subst e
        repeat' (first | (with_reducible first | refine aw_seq fun K hK => ?_ | refine aw_region (by kernel_rfl) ?_ | refine aw_condk ?_ | refine aw_block ?_) | ((with_reducible refine evg ?_); simp only [go_sem, ↓reduceIte, Nat.reduceEqDiff, Nat.reduceBEq, Nat.reduceAdd, Nat.reduceMul, Nat.reduceSub, Nat.reduceLT, Nat.reduceLeDiff]) | (simp (disch := omega) only [wr, drop_at, str_at, int_at, Int.reduceSub, Int.reduceAdd, Int.reduceToNat, Int.toNat_zero, wr]) | ((with_reducible refine ev_guard ?_); (with_reducible first | refine guard_t ?_ ?_ rfl | refine guard_f ?_ ?_ rfl) <;> (intro h; (try simp only [h]); (try simp only [nrm] at h) <;> (try ((with_reducible exfalso); omega)))) | ((with_reducible refine ck_split (fun h => ?_) (fun h => ?_)) <;> (try simp only [nrm] at h) <;> (try ((with_reducible exfalso); omega))) | ((with_reducible refine And.intro ?_ ?_); (first | omega | focus (simp; done) | focus (simp; omega) | focus ((repeat' (with_reducible refine And.intro ?_ ?_)) <;> first | omega | rfl | (simp only [go_sem, refsL_app, refs_dmap] <;> fail) | (simp [refsL_app, refs_dmap, AV.refsL, AV.refs] <;> omega)))) | ((with_reducible first | apply hK | (clear hK K; first | apply hK | (clear hK K; first | apply hK | (clear hK K; apply hK)))); clear hK K) | fail)
        (first | refine res_tmp rfl (by simp [D.plain, plains]) (by simp) ?_ | refine res_at rfl (by simp [D.plain, plains]) (by simp) ?_ | refine res_two rfl (by simp [D.plain, plains]) (by simp) ?_ | refine res_three rfl (by simp [D.plain, plains]) (by simp) ?_)
        rfl

theorem cut_cell (cs : List Nat) (off n : Nat) {c : Nat} {v : Int} (h : v = ((c : Nat) : Int)) : (((cellI cs).map D.int).drop off).take n ++ [D.int v] = (cellI ((cs.drop off).take n ++ [c])).map D.int := by
  subst h
  simp [cellI]

theorem marks_set {S : List Nat} {c : Nat} (h : c < 480) : (marksN S).set c (D.v (Value.bool true)) = marksN (S ++ [c]) := marksN_set h

attribute [local simp] marksN_len

set_option maxRecDepth 100000 in
theorem pl_Pie2_25_20 (l : List Oper) (h : l = opsOf Try.f25 20) : planB l (.pure 0 (.pure 1 (.pure 2 (.pure 3 (.pure 4 (.pure 5 (.pure 6 (.pure 7 (.pure 8 (.pure 9 (.pure 10 (.pure 11 (.pure 12 (.pure 13 PT.fin)))))))))))))) [] = true := by
  subst h
  kernel_rfl

set_option maxRecDepth 100000 in
set_option maxHeartbeats 4000000 in
theorem specPie_fn (zs : List Int) (hl : zs.length ≤ 9223372036854775807) : FnD Try.prog 25 [.ag [intL zs]] (pieR zs) := by
  have e1 := l9Good_fn zs hl
  cases g1 : okReg zs
  · rw [g1] at e1
    refine fn_go Try.func25 rfl rfl Try.ntmps25 Try.results25 (by simp only [slotsOf, argAV, List.map_cons, List.map_nil, Nat.reduceAdd]; rfl) (by simp) ?_
    repeat' (first | (with_reducible first | refine aw_seq fun K hK => ?_ | refine aw_region (by kernel_rfl) ?_ | refine aw_condk ?_ | refine aw_block ?_) | ((with_reducible refine ev_aw ?_); first | (refine aw_draw (id := 20) (by kernel_rfl) _ _ (by kernel_rfl) (pl_Pie2_25_20 _ (by kernel_rfl)) ?_)) | (with_reducible first | refine ru_four ?_ ?_ ?_ ?_ | refine ru_three ?_ ?_ ?_ | refine ru_two ?_ ?_ | refine rv_split ?_ ?_ | refine rv_two ?_ ?_ | refine rp_two ?_ ?_) | ((with_reducible refine evg ?_); simp only [go_sem, St.clean, cleanO, ↓reduceIte, Nat.reduceEqDiff, Nat.reduceBEq, Nat.reduceAdd, Nat.reduceMul, Nat.reduceSub, Nat.reduceLT, Nat.reduceLeDiff]) | ((with_reducible refine ev_call ?_); (first | (refine call_fn e1 rfl ?_)); refine k_run ?_) | ((with_reducible refine ev_guard ?_); (with_reducible first | refine guard_t ?_ ?_ rfl | refine guard_f ?_ ?_ rfl) <;> (intro h; (try simp only [h]); (try simp only [nrm] at h))) | ((with_reducible refine ck_split (fun h => ?_) (fun h => ?_)) <;> (try simp only [nrm] at h)) | ((with_reducible refine And.intro ?_ ?_); (first | omega | focus (simp; done) | focus (simp; omega) | focus ((repeat' (with_reducible refine And.intro ?_ ?_)) <;> first | omega | rfl | (simp only [go_sem, refsL_app, refs_dmap] <;> fail) | (simp [refsL_app, refs_dmap, AV.refsL, AV.refs] <;> omega)))) | (with_reducible refine hJ _ (fun K hK => ?_) ?_ <;> clear hJ KJ) | ((with_reducible refine ev_less ?_); (refine ⟨rfl, ?_, ?_⟩ <;> simp only [go_sem, St.clean, cleanO, SubS, SubO, beq_self_eq_true, ↓reduceIte, Nat.reduceEqDiff, Nat.reduceBEq, Nat.reduceAdd, Nat.reduceMul, Nat.reduceSub, Nat.reduceLT, Nat.reduceLeDiff])) | ((with_reducible first | apply hK | (clear hK K; first | apply hK | (clear hK K; first | apply hK | (clear hK K; apply hK)))); clear hK K) | (simp (disch := omega) only [wr, drop_at, str_at, int_at, Int.reduceSub, Int.reduceAdd, Int.reduceToNat, Int.toNat_zero]) | fail)
    (first | refine res_tmp rfl (by simp [D.plain, plains]) (by simp) ?_ | refine res_at rfl (by simp [D.plain, plains]) (by simp) ?_ | refine res_two rfl (by simp [D.plain, plains]) (by simp) ?_ | refine res_three rfl (by simp [D.plain, plains]) (by simp) ?_)
    simp [pieR, g1]
  · rw [g1] at e1
    have e2 := l9Cells_fn zs g1
    have hlen := cellsN_len zs 480
    have hl2 := cellI_len (cellsN zs 480)
    have hR : pieR zs = .tu [.int ((pieN zs (cellsN zs 480) (cellsN zs 480).length).2 : Nat), .bool true] := by rw [pieR, if_pos g1]
    have hin : ∀ c ∈ cellsN zs 480, inR0 zs c := fun c hc => cellsN_mem hc
    generalize cellsN zs 480 = l at e2 hlen hl2 hR hin
    rw [hR]
    refine fn_go Try.func25 rfl rfl Try.ntmps25 Try.results25 (by simp only [slotsOf, argAV, List.map_cons, List.map_nil, Nat.reduceAdd]; rfl) (by simp) ?_
    repeat' (first | (with_reducible first | refine aw_seq fun K hK => ?_ | refine aw_region (by kernel_rfl) ?_ | refine aw_condk ?_ | refine aw_block ?_) | ((with_reducible refine ev_aw ?_); first | (refine aw_draw (id := 20) (by kernel_rfl) _ _ (by kernel_rfl) (pl_Pie2_25_20 _ (by kernel_rfl)) ?_)) | (with_reducible first | refine ru_four ?_ ?_ ?_ ?_ | refine ru_three ?_ ?_ ?_ | refine ru_two ?_ ?_ | refine rv_split ?_ ?_ | refine rv_two ?_ ?_ | refine rp_two ?_ ?_) | ((with_reducible refine evg ?_); simp only [go_sem, St.clean, cleanO, ↓reduceIte, Nat.reduceEqDiff, Nat.reduceBEq, Nat.reduceAdd, Nat.reduceMul, Nat.reduceSub, Nat.reduceLT, Nat.reduceLeDiff]) | (simp (disch := omega) only [wr, drop_at, str_at, int_at, Int.reduceSub, Int.reduceAdd, Int.reduceToNat, Int.toNat_zero, wr]) | ((with_reducible refine ev_call ?_); (first | (refine call_fn e1 rfl ?_) | (refine call_fn e2 rfl ?_)); refine k_run ?_) | ((with_reducible refine ev_guard ?_); (with_reducible first | refine guard_t ?_ ?_ rfl | refine guard_f ?_ ?_ rfl) <;> (intro h; (try simp only [h]); (try simp only [nrm] at h) <;> (try ((with_reducible exfalso); omega)))) | ((with_reducible refine ck_split (fun h => ?_) (fun h => ?_)) <;> (try simp only [nrm] at h) <;> (try ((with_reducible exfalso); omega))) | ((with_reducible refine And.intro ?_ ?_); (first | omega | focus (simp; done) | focus (simp; omega) | focus ((repeat' (with_reducible refine And.intro ?_ ?_)) <;> first | omega | rfl | (simp only [go_sem, refsL_app, refs_dmap] <;> fail) | (simp [refsL_app, refs_dmap, AV.refsL, AV.refs] <;> omega)))) | (with_reducible refine hJ _ (fun K hK => ?_) ?_ <;> clear hJ KJ) | ((with_reducible refine ev_less ?_); (refine ⟨rfl, ?_, ?_⟩ <;> simp only [go_sem, St.clean, cleanO, SubS, SubO, beq_self_eq_true, ↓reduceIte, Nat.reduceEqDiff, Nat.reduceBEq, Nat.reduceAdd, Nat.reduceMul, Nat.reduceSub, Nat.reduceLT, Nat.reduceLeDiff])) | ((with_reducible first | apply hK | (clear hK K; first | apply hK | (clear hK K; first | apply hK | (clear hK K; apply hK)))); clear hK K) | fail)
    refine aw_loopU [6, 7, 8, 9, 10, 11, 12, 13, 20, 21, 22, 23, 24, 25, 26, 27, 28, 29, 30, 31, 32, 33, 34, 35, 36, 37, 38, 39, 40, 41, 42, 43, 44, 45, 46, 47, 48, 49, 50, 51, 52, 53, 54, 55, 56, 57, 58, 59, 60, 61, 62, 63, 64, 65, 66, 67, 68, 69, 70, 71, 72, 73, 74, 75, 76, 77, 78, 79, 80, 81, 82, 83, 84, 85, 86, 87, 88, 89, 90, 91, 92, 93, 94, 95, 96, 97, 98, 99, 100, 101] [17, 22, 45, 47, 58, 78, 100, 101] (fun i : Nat => [(7, .d (.int i)), (6, .d (.int ((pieN zs l i).2 : Nat)))]) (fun i => [(17, .ds (marksN (pieN zs l i).1))]) (fun i => i ≤ l.length) (fun i => l.length - i) 0 (by omega) ?_ ?_
    · (refine lessW_of [] rfl ?_ <;> simp only [St.sws, St.sw, swS, swO, AV.sw, AV.swL, OB.sw, swp, St.upd, dropS, dropOs, Less, SubS, SubO, look, lookO, List.elem, List.cons_append, List.nil_append, cond_true, cond_false, and_true, true_and, beq_self_eq_true, ↓reduceIte, Nat.reduceEqDiff, Nat.reduceBEq, Nat.reduceAdd, Nat.reduceMul, Nat.reduceSub, Nat.reduceLT, Nat.reduceLeDiff] <;> try simp)
      all_goals (first | rfl | exact marksN_zero | (refine ⟨?_, ?_⟩ <;> first | rfl | exact marksN_zero))
    · rintro i i1
      simp only [St.upd, dropS, dropOs, List.elem, List.cons_append, List.nil_append, cond_true, cond_false, beq_self_eq_true, ↓reduceIte, Nat.reduceEqDiff, Nat.reduceBEq, Nat.reduceAdd, Nat.reduceMul, Nat.reduceSub, Nat.reduceLT, Nat.reduceLeDiff]
      by_cases hlt : i < l.length
      · have hcnt := (pieN_cnt (zs := zs) (l := l) i).1
        have hok := okS_pieN hin i (by omega)
        have hc0 := hin _ (getD_mem 0 hlt)
        have hpa := fun d => cellI_at (d := d) hlt
        have hnx : l.getD i 0 ∈ (pieN zs l i).1 → pieN zs l (i + 1) = pieN zs l i := pieN_in
        have hny : l.getD i 0 ∉ (pieN zs l i).1 → pieN zs l (i + 1) = (pieF zs 481 ((pieN zs l i).1 ++ [l.getD i 0]) (pieN zs l i).1.length, (pieN zs l i).2 + 1) := pieN_new
        generalize hRe : pieN zs l (i + 1) = R at *
        generalize hT : pieN zs l i = T at *
        obtain ⟨S, n⟩ := T
        generalize l.getD i 0 = c at *
        simp only at hcnt hok hnx hny
        have hc4 : c < 480 := hc0.1
        have hml := marksN_len S
        by_cases hin' : c ∈ S
        · have hd := fun d => marksN_at (S := S) (d := d) hc4
          rw [decide_eq_true hin'] at hd
          repeat' (first | (with_reducible first | refine aw_seq fun K hK => ?_ | refine aw_region (by kernel_rfl) ?_ | refine aw_condk ?_ | refine aw_block ?_) | ((with_reducible refine ev_aw ?_); first | (refine aw_draw (id := 20) (by kernel_rfl) _ _ (by kernel_rfl) (pl_Pie2_25_20 _ (by kernel_rfl)) ?_)) | (with_reducible first | refine ru_four ?_ ?_ ?_ ?_ | refine ru_three ?_ ?_ ?_ | refine ru_two ?_ ?_ | refine rv_split ?_ ?_ | refine rv_two ?_ ?_ | refine rp_two ?_ ?_) | ((with_reducible refine evg ?_); simp only [go_sem, St.clean, cleanO, ↓reduceIte, Nat.reduceEqDiff, Nat.reduceBEq, Nat.reduceAdd, Nat.reduceMul, Nat.reduceSub, Nat.reduceLT, Nat.reduceLeDiff]) | (simp (disch := omega) only [wr, drop_at, str_at, int_at, Int.reduceSub, Int.reduceAdd, Int.reduceToNat, Int.toNat_zero, hpa, hd, hml, Int.toNat_natCast, wr]) | ((with_reducible refine ev_guard ?_); (with_reducible first | refine guard_t ?_ ?_ rfl | refine guard_f ?_ ?_ rfl) <;> (intro h; (try simp only [h]); (try simp only [nrm] at h) <;> (try ((with_reducible exfalso); omega)))) | ((with_reducible refine ck_split (fun h => ?_) (fun h => ?_)) <;> (try simp only [nrm] at h) <;> (try ((with_reducible exfalso); omega))) | ((with_reducible refine And.intro ?_ ?_); (first | omega | focus (simp; done) | focus (simp; omega) | focus ((repeat' (with_reducible refine And.intro ?_ ?_)) <;> first | omega | rfl | (simp only [go_sem, refsL_app, refs_dmap] <;> fail) | (simp [refsL_app, refs_dmap, AV.refsL, AV.refs] <;> omega)))) | (with_reducible refine hJ _ (fun K hK => ?_) ?_ <;> clear hJ KJ) | ((with_reducible refine ev_less ?_); (refine ⟨rfl, ?_, ?_⟩ <;> simp only [go_sem, St.clean, cleanO, SubS, SubO, beq_self_eq_true, ↓reduceIte, Nat.reduceEqDiff, Nat.reduceBEq, Nat.reduceAdd, Nat.reduceMul, Nat.reduceSub, Nat.reduceLT, Nat.reduceLeDiff])) | ((with_reducible first | apply hK | (clear hK K; first | apply hK | (clear hK K; first | apply hK | (clear hK K; apply hK)))); clear hK K) | fail)
          have := hnx hin'
          refine ⟨i + 1, by omega, by omega, ?_⟩
          rw [hRe, this]
          (refine lessW_of [] rfl ?_ <;> simp only [St.sws, St.sw, swS, swO, AV.sw, AV.swL, OB.sw, swp, St.upd, dropS, dropOs, Less, SubS, SubO, look, lookO, List.elem, List.cons_append, List.nil_append, cond_true, cond_false, and_true, true_and, beq_self_eq_true, ↓reduceIte, Nat.reduceEqDiff, Nat.reduceBEq, Nat.reduceAdd, Nat.reduceMul, Nat.reduceSub, Nat.reduceLT, Nat.reduceLeDiff] <;> try simp)
        · have hd := fun d => marksN_at (S := S) (d := d) hc4
          rw [decide_eq_false hin'] at hd
          have hst := marks_set (S := S) hc4
          have hRR := hny hin'
          have hlS := okS_len hok
          have hS1 := okS_add hok hc0 hin'
          have hfin : pieF zs (481 + S.length - S.length) (S ++ [c]) S.length = pieF zs 481 (S ++ [c]) S.length := by rw [Nat.add_sub_cancel]
          have hF : R.1 = pieF zs 481 (S ++ [c]) S.length := by rw [hRR]
          have hN : R.2 = n + 1 := by rw [hRR]
          obtain ⟨FL, hFL⟩ : ∃ FL, pieF zs 481 (S ++ [c]) S.length = FL := ⟨_, rfl⟩
          obtain ⟨j0, hj0⟩ : ∃ j0, S.length = j0 := ⟨_, rfl⟩
          have hq0 : quN (S ++ [c]) j0 [c] 0 := by rw [← hj0]; exact quN_one
          rw [hFL] at hF hfin
          rw [hj0] at hfin hlS
          clear hRR hny hnx
          repeat' (first | (with_reducible first | refine aw_seq fun K hK => ?_ | refine aw_region (by kernel_rfl) ?_ | refine aw_condk ?_ | refine aw_block ?_) | ((with_reducible refine ev_aw ?_); first | (refine aw_draw (id := 20) (by kernel_rfl) _ _ (by kernel_rfl) (pl_Pie2_25_20 _ (by kernel_rfl)) ?_)) | (with_reducible first | refine ru_four ?_ ?_ ?_ ?_ | refine ru_three ?_ ?_ ?_ | refine ru_two ?_ ?_ | refine rv_split ?_ ?_ | refine rv_two ?_ ?_ | refine rp_two ?_ ?_) | ((with_reducible refine evg ?_); simp only [go_sem, St.clean, cleanO, ↓reduceIte, Nat.reduceEqDiff, Nat.reduceBEq, Nat.reduceAdd, Nat.reduceMul, Nat.reduceSub, Nat.reduceLT, Nat.reduceLeDiff]) | (simp (disch := omega) only [wr, drop_at, str_at, int_at, Int.reduceSub, Int.reduceAdd, Int.reduceToNat, Int.toNat_zero, hpa, hd, hst, hml, Int.toNat_natCast, wr]) | ((with_reducible refine ev_guard ?_); (with_reducible first | refine guard_t ?_ ?_ rfl | refine guard_f ?_ ?_ rfl) <;> (intro h; (try simp only [h]); (try simp only [nrm] at h) <;> (try ((with_reducible exfalso); omega)))) | ((with_reducible refine ck_split (fun h => ?_) (fun h => ?_)) <;> (try simp only [nrm] at h) <;> (try ((with_reducible exfalso); omega))) | ((with_reducible refine And.intro ?_ ?_); (first | omega | focus (simp; done) | focus (simp; omega) | focus ((repeat' (with_reducible refine And.intro ?_ ?_)) <;> first | omega | rfl | (simp only [go_sem, refsL_app, refs_dmap] <;> fail) | (simp [refsL_app, refs_dmap, AV.refsL, AV.refs] <;> omega)))) | (with_reducible refine hJ _ (fun K hK => ?_) ?_ <;> clear hJ KJ) | ((with_reducible refine ev_less ?_); (refine ⟨rfl, ?_, ?_⟩ <;> simp only [go_sem, St.clean, cleanO, SubS, SubO, beq_self_eq_true, ↓reduceIte, Nat.reduceEqDiff, Nat.reduceBEq, Nat.reduceAdd, Nat.reduceMul, Nat.reduceSub, Nat.reduceLT, Nat.reduceLeDiff])) | ((with_reducible first | apply hK | (clear hK K; first | apply hK | (clear hK K; first | apply hK | (clear hK K; apply hK)))); clear hK K) | fail)
          refine aw_loopU [8, 9, 10, 11, 12, 13, 26, 27, 28, 29, 30, 31, 32, 33, 34, 35, 36, 37, 38, 39, 40, 41, 42, 43, 44, 45, 46, 47, 48, 49, 50, 51, 52, 53, 54, 55, 56, 57, 58, 59, 60, 61, 62, 63, 64, 65, 66, 67, 68, 69, 70, 71, 72, 73, 74, 75, 76, 77, 78, 79, 80, 81, 82, 83, 84, 85, 86, 87, 88, 89, 90, 91, 92, 93, 94, 95, 96, 97, 98, 99, 100, 101] [17, 26, 27, 28, 29, 30, 31, 32, 33, 34, 35, 36, 37, 38, 39, 40, 41, 42, 43, 44, 45, 47, 58, 78, 100, 101] (fun s : (List Nat × Nat) × (List Nat × Nat) => [(8, .bs 101 s.1.2 (s.2.1.length - s.2.2) 1)]) (fun s => [(101, .ds ((cellI s.1.1).map D.int)), (17, .ds (marksN s.2.1))]) (fun s => quN s.2.1 s.2.2 s.1.1 s.1.2 ∧ s.2.2 ≤ s.2.1.length ∧ okS zs s.2.1 ∧ pieF zs (481 + j0 - s.2.2) s.2.1 s.2.2 = FL ∧ j0 ≤ s.2.2) (fun s => 481 + j0 - s.2.2) (([c], 0), (S ++ [c], j0)) ⟨hq0, by simp only [List.length_append, List.length_singleton]; omega, hS1, hfin, Nat.le_refl _⟩ ?_ ?_
          · simp only [List.length_append, List.length_singleton]
            (refine lessW_of [(45, 101)] rfl ?_ <;> simp only [St.sws, St.sw, swS, swO, AV.sw, AV.swL, OB.sw, swp, St.upd, dropS, dropOs, Less, SubS, SubO, look, lookO, List.elem, List.cons_append, List.nil_append, cond_true, cond_false, and_true, true_and, beq_self_eq_true, ↓reduceIte, Nat.reduceEqDiff, Nat.reduceBEq, Nat.reduceAdd, Nat.reduceMul, Nat.reduceSub, Nat.reduceLT, Nat.reduceLeDiff] <;> try simp)
            all_goals (first | rfl | omega | (refine ⟨by omega, ?_⟩; rfl))
          · rintro ⟨⟨cs, off⟩, ⟨Q, j⟩⟩ ⟨f1, f2, f3, f4, f5⟩
            simp only at f1 f2 f3 f4 f5
            simp only [St.upd, dropS, dropOs, List.elem, List.cons_append, List.nil_append, cond_true, cond_false, beq_self_eq_true, ↓reduceIte, Nat.reduceEqDiff, Nat.reduceBEq, Nat.reduceAdd, Nat.reduceMul, Nat.reduceSub, Nat.reduceLT, Nat.reduceLeDiff]
            have hc1 := f1.1
            have hlQ := okS_len f3
            by_cases hj : j < Q.length
            · have hq := f1.2 0 (by omega)
              rw [Nat.add_zero, Nat.add_zero] at hq
              have hpo := fun d => cellI_at (l := cs) (i := off) (d := d) (by omega)
              rw [hq] at hpo
              have hj1 : 481 + j0 - j = (481 + j0 - (j + 1)) + 1 := by omega
              rw [hj1, pieF, if_pos hj] at f4
              have hown := f3.2 _ (getD_mem 0 hj)
              have hlcs := cellI_len cs
              generalize Q.getD j 0 = own at *
              have hown1 : own < 480 := hown.1
              have e3 := l9Beside_fn ((own % 20 : Nat) : Int) ((own / 20 : Nat) : Int) (by omega) (by have := hown.1; omega)
              repeat' (first | (with_reducible first | refine aw_seq fun K hK => ?_ | refine aw_region (by kernel_rfl) ?_ | refine aw_condk ?_ | refine aw_block ?_) | ((with_reducible refine ev_aw ?_); first | (refine aw_draw (id := 20) (by kernel_rfl) _ _ (by kernel_rfl) (pl_Pie2_25_20 _ (by kernel_rfl)) ?_)) | (with_reducible first | refine ru_four ?_ ?_ ?_ ?_ | refine ru_three ?_ ?_ ?_ | refine ru_two ?_ ?_ | refine rv_split ?_ ?_ | refine rv_two ?_ ?_ | refine rp_two ?_ ?_) | ((with_reducible refine evg ?_); simp only [go_sem, St.clean, cleanO, ↓reduceIte, Nat.reduceEqDiff, Nat.reduceBEq, Nat.reduceAdd, Nat.reduceMul, Nat.reduceSub, Nat.reduceLT, Nat.reduceLeDiff]) | (simp (disch := omega) only [wr, drop_at, str_at, int_at, Int.reduceSub, Int.reduceAdd, Int.reduceToNat, Int.toNat_zero, hpo, hlcs, tmod20, tdiv20, wr]) | ((with_reducible refine ev_call ?_); (first | (refine call_fn e3 rfl ?_)); refine k_run ?_) | ((with_reducible refine ev_guard ?_); (with_reducible first | refine guard_t ?_ ?_ rfl | refine guard_f ?_ ?_ rfl) <;> (intro h; (try simp only [h]); (try simp only [nrm] at h) <;> (try ((with_reducible exfalso); omega)))) | ((with_reducible refine ck_split (fun h => ?_) (fun h => ?_)) <;> (try simp only [nrm] at h) <;> (try ((with_reducible exfalso); omega))) | ((with_reducible refine And.intro ?_ ?_); (first | omega | focus (simp; done) | focus (simp; omega) | focus ((repeat' (with_reducible refine And.intro ?_ ?_)) <;> first | omega | rfl | (simp only [go_sem, refsL_app, refs_dmap] <;> fail) | (simp [refsL_app, refs_dmap, AV.refsL, AV.refs] <;> omega)))) | (with_reducible refine hJ _ (fun K hK => ?_) ?_ <;> clear hJ KJ) | ((with_reducible refine ev_less ?_); (refine ⟨rfl, ?_, ?_⟩ <;> simp only [go_sem, St.clean, cleanO, SubS, SubO, beq_self_eq_true, ↓reduceIte, Nat.reduceEqDiff, Nat.reduceBEq, Nat.reduceAdd, Nat.reduceMul, Nat.reduceSub, Nat.reduceLT, Nat.reduceLeDiff])) | ((with_reducible first | apply hK | (clear hK K; first | apply hK | (clear hK K; first | apply hK | (clear hK K; apply hK)))); clear hK K) | fail)
              refine aw_loopU [8, 11, 12, 13, 46, 47, 48, 49, 50, 51, 52, 53, 54, 55, 56, 57, 59, 60, 61, 62, 63, 64, 65, 66, 67, 68, 69, 70, 71, 72, 73, 74, 75, 76, 77, 78, 79, 80, 81, 82, 83, 84, 85, 86, 87, 88, 89, 90, 91, 92, 93, 94, 95, 96, 97, 98, 99, 100, 101] [17, 46, 47, 48, 49, 50, 51, 52, 53, 54, 55, 56, 57, 78, 100, 101] (fun s : Nat × ((List Nat × Nat) × Nat) => [(11, .d (.int s.1)), (8, .bs 101 s.2.1.2 s.2.2 1)]) (fun s => [(101, .ds ((cellI s.2.1.1).map D.int)), (17, .ds (marksN (stF zs own Q s.1)))]) (fun s => s.1 ≤ 4 ∧ quN (stF zs own Q s.1) (j + 1) s.2.1.1 s.2.1.2 ∧ s.2.2 = (stF zs own Q s.1).length - (j + 1)) (fun s => 4 - s.1) (0, ((cs, off + 1), Q.length - j - 1)) ⟨by omega, quN_pop f1 hj, by simp only [stF]; omega⟩ ?_ ?_
              · simp only [stF]
                (refine lessW_of [] rfl ?_ <;> simp only [St.sws, St.sw, swS, swO, AV.sw, AV.swL, OB.sw, swp, St.upd, dropS, dropOs, Less, SubS, SubO, look, lookO, List.elem, List.cons_append, List.nil_append, cond_true, cond_false, and_true, true_and, beq_self_eq_true, ↓reduceIte, Nat.reduceEqDiff, Nat.reduceBEq, Nat.reduceAdd, Nat.reduceMul, Nat.reduceSub, Nat.reduceLT, Nat.reduceLeDiff] <;> try simp)
                all_goals (first | rfl | omega | (refine ⟨?_, ?_⟩ <;> first | rfl | omega))
              · rintro ⟨k, ⟨ds, of⟩, m⟩ ⟨u1, u2, u3⟩
                simp only at u1 u2 u3
                simp only [St.upd, dropS, dropOs, List.elem, List.cons_append, List.nil_append, cond_true, cond_false, beq_self_eq_true, ↓reduceIte, Nat.reduceEqDiff, Nat.reduceBEq, Nat.reduceAdd, Nat.reduceMul, Nat.reduceSub, Nat.reduceLT, Nat.reduceLeDiff]
                have hst2 := okS_stF (zs := zs) (c := own) f3 k
                obtain ⟨M, hM⟩ := stF_grow (zs := zs) (S := Q) (c := own) k
                have hlM : j + 1 ≤ (stF zs own Q k).length := by rw [hM, List.length_append]; omega
                have hnx2 : stF zs own Q (k + 1) = stK zs own (stF zs own Q k) k := rfl
                have hl4 := okS_len hst2
                have hd1 := u2.1
                have hld := cellI_len ds
                have hml2 := marksN_len (stF zs own Q k)
                by_cases hk : k < 4
                · have e4 := l9Has_fn zs (sx ((own % 20 : Nat) : Int) k) (sy ((own / 20 : Nat) : Int) k) (okReg_len g1) (fun h => okReg_y g1 h)
                  have hk4 : k = 0 ∨ k = 1 ∨ k = 2 ∨ k = 3 := by omega
                  have hside : sideH zs own k = hasZ zs (sx ((own % 20 : Nat) : Int) k) (sy ((own / 20 : Nat) : Int) k) := rfl
                  cases g4 : hasZ zs (sx ((own % 20 : Nat) : Int) k) (sy ((own / 20 : Nat) : Int) k)
                  · rw [g4] at e4 hside
                    rw [stK_no hside] at hnx2
                    rw [← hnx2] at u2 u3
                    rcases hk4 with rfl | rfl | rfl | rfl
                    all_goals
                      simp only [sx, sy, Nat.reduceEqDiff, if_true, if_false, Bool.false_eq_true] at e4
                      repeat' (first | (with_reducible first | refine aw_seq fun K hK => ?_ | refine aw_region (by kernel_rfl) ?_ | refine aw_condk ?_ | refine aw_block ?_) | ((with_reducible refine ev_aw ?_); first | (refine aw_draw (id := 20) (by kernel_rfl) _ _ (by kernel_rfl) (pl_Pie2_25_20 _ (by kernel_rfl)) ?_)) | (with_reducible first | refine ru_four ?_ ?_ ?_ ?_ | refine ru_three ?_ ?_ ?_ | refine ru_two ?_ ?_ | refine rv_split ?_ ?_ | refine rv_two ?_ ?_ | refine rp_two ?_ ?_) | ((with_reducible refine evg ?_); simp only [go_sem, St.clean, cleanO, ↓reduceIte, Nat.reduceEqDiff, Nat.reduceBEq, Nat.reduceAdd, Nat.reduceMul, Nat.reduceSub, Nat.reduceLT, Nat.reduceLeDiff]) | (simp (disch := omega) only [wr, drop_at, str_at, int_at, Int.reduceSub, Int.reduceAdd, Int.reduceToNat, Int.toNat_zero, wr, wru]) | ((with_reducible refine ev_call ?_); (first | (refine call_fn e4 rfl ?_)); refine k_run ?_) | ((with_reducible refine ev_guard ?_); (with_reducible first | refine guard_t ?_ ?_ rfl | refine guard_f ?_ ?_ rfl) <;> (intro h; (try simp only [h]); (try simp only [nrm] at h) <;> (try ((with_reducible exfalso); omega)))) | ((with_reducible refine ck_split (fun h => ?_) (fun h => ?_)) <;> (try simp only [nrm] at h) <;> (try ((with_reducible exfalso); omega))) | ((with_reducible refine And.intro ?_ ?_); (first | omega | focus (simp; done) | focus (simp; omega) | focus ((repeat' (with_reducible refine And.intro ?_ ?_)) <;> first | omega | rfl | (simp only [go_sem, refsL_app, refs_dmap] <;> fail) | (simp [refsL_app, refs_dmap, AV.refsL, AV.refs] <;> omega)))) | (with_reducible refine hJ _ (fun K hK => ?_) ?_ <;> clear hJ KJ) | ((with_reducible refine ev_less ?_); (refine ⟨rfl, ?_, ?_⟩ <;> simp only [go_sem, St.clean, cleanO, SubS, SubO, beq_self_eq_true, ↓reduceIte, Nat.reduceEqDiff, Nat.reduceBEq, Nat.reduceAdd, Nat.reduceMul, Nat.reduceSub, Nat.reduceLT, Nat.reduceLeDiff])) | ((with_reducible first | apply hK | (clear hK K; first | apply hK | (clear hK K; first | apply hK | (clear hK K; apply hK)))); clear hK K) | fail)
                      refine ⟨(_ + 1, ((ds, of), m)), ⟨by simp only; omega, u2, u3⟩, by simp only; omega, ?_⟩
                      simp only
                      rw [hnx2]
                      (refine lessW_of [] rfl ?_ <;> simp only [St.sws, St.sw, swS, swO, AV.sw, AV.swL, OB.sw, swp, St.upd, dropS, dropOs, Less, SubS, SubO, look, lookO, List.elem, List.cons_append, List.nil_append, cond_true, cond_false, and_true, true_and, beq_self_eq_true, ↓reduceIte, Nat.reduceEqDiff, Nat.reduceBEq, Nat.reduceAdd, Nat.reduceMul, Nat.reduceSub, Nat.reduceLT, Nat.reduceLeDiff] <;> try simp)
                      all_goals (first | rfl | omega | (refine ⟨?_, ?_⟩ <;> first | rfl | omega))
                  · rw [g4] at e4 hside
                    obtain ⟨s1, s2, s3, s4⟩ := sideN_at hside
                    have s5 := s3.1
                    by_cases hin2 : sideN own k ∈ stF zs own Q k
                    · rw [stK_in hin2] at hnx2
                      have hd2 := fun d => marksN_at (S := stF zs own Q k) (d := d) s5
                      rw [decide_eq_true hin2] at hd2
                      rw [← hnx2] at u2 u3
                      rcases hk4 with rfl | rfl | rfl | rfl
                      all_goals
                        simp only [sx, sy, Nat.reduceEqDiff, if_true, if_false, Bool.false_eq_true] at e4 s4 s1 s2
                        repeat' (first | (with_reducible first | refine aw_seq fun K hK => ?_ | refine aw_region (by kernel_rfl) ?_ | refine aw_condk ?_ | refine aw_block ?_) | ((with_reducible refine ev_aw ?_); first | (refine aw_draw (id := 20) (by kernel_rfl) _ _ (by kernel_rfl) (pl_Pie2_25_20 _ (by kernel_rfl)) ?_)) | (with_reducible first | refine ru_four ?_ ?_ ?_ ?_ | refine ru_three ?_ ?_ ?_ | refine ru_two ?_ ?_ | refine rv_split ?_ ?_ | refine rv_two ?_ ?_ | refine rp_two ?_ ?_) | ((with_reducible refine evg ?_); simp only [go_sem, St.clean, cleanO, ↓reduceIte, Nat.reduceEqDiff, Nat.reduceBEq, Nat.reduceAdd, Nat.reduceMul, Nat.reduceSub, Nat.reduceLT, Nat.reduceLeDiff]) | (simp (disch := omega) only [wr, drop_at, str_at, int_at, Int.reduceSub, Int.reduceAdd, Int.reduceToNat, Int.toNat_zero, s4, hd2, hml2, Int.toNat_natCast, wr, wru]) | ((with_reducible refine ev_call ?_); (first | (refine call_fn e4 rfl ?_)); refine k_run ?_) | ((with_reducible refine ev_guard ?_); (with_reducible first | refine guard_t ?_ ?_ rfl | refine guard_f ?_ ?_ rfl) <;> (intro h; (try simp only [h]); (try simp only [nrm] at h) <;> (try ((with_reducible exfalso); omega)))) | ((with_reducible refine ck_split (fun h => ?_) (fun h => ?_)) <;> (try simp only [nrm] at h) <;> (try ((with_reducible exfalso); omega))) | ((with_reducible refine And.intro ?_ ?_); (first | omega | focus (simp; done) | focus (simp; omega) | focus ((repeat' (with_reducible refine And.intro ?_ ?_)) <;> first | omega | rfl | (simp only [go_sem, refsL_app, refs_dmap] <;> fail) | (simp [refsL_app, refs_dmap, AV.refsL, AV.refs] <;> omega)))) | (with_reducible refine hJ _ (fun K hK => ?_) ?_ <;> clear hJ KJ) | ((with_reducible refine ev_less ?_); (refine ⟨rfl, ?_, ?_⟩ <;> simp only [go_sem, St.clean, cleanO, SubS, SubO, beq_self_eq_true, ↓reduceIte, Nat.reduceEqDiff, Nat.reduceBEq, Nat.reduceAdd, Nat.reduceMul, Nat.reduceSub, Nat.reduceLT, Nat.reduceLeDiff])) | ((with_reducible first | apply hK | (clear hK K; first | apply hK | (clear hK K; first | apply hK | (clear hK K; apply hK)))); clear hK K) | fail)
                        refine ⟨(_ + 1, ((ds, of), m)), ⟨by simp only; omega, u2, u3⟩, by simp only; omega, ?_⟩
                        simp only
                        rw [hnx2]
                        (refine lessW_of [] rfl ?_ <;> simp only [St.sws, St.sw, swS, swO, AV.sw, AV.swL, OB.sw, swp, St.upd, dropS, dropOs, Less, SubS, SubO, look, lookO, List.elem, List.cons_append, List.nil_append, cond_true, cond_false, and_true, true_and, beq_self_eq_true, ↓reduceIte, Nat.reduceEqDiff, Nat.reduceBEq, Nat.reduceAdd, Nat.reduceMul, Nat.reduceSub, Nat.reduceLT, Nat.reduceLeDiff] <;> try simp)
                        all_goals (first | rfl | omega | (refine ⟨?_, ?_⟩ <;> first | rfl | omega))
                    · rw [stK_new hside hin2] at hnx2
                      have hd2 := fun d => marksN_at (S := stF zs own Q k) (d := d) s5
                      rw [decide_eq_false hin2] at hd2
                      have hst3 := marks_set (S := stF zs own Q k) s5
                      have hcut := cut_cell ds of m (c := sideN own k) rfl
                      have hpush := quN_push (c := sideN own k) u2 hlM u3
                      have hm1 : m + 1 = (stF zs own Q (k + 1)).length - (j + 1) := by rw [hnx2, List.length_append, List.length_singleton]; omega
                      rw [← hnx2] at hpush hst3
                      rcases hk4 with rfl | rfl | rfl | rfl
                      all_goals
                        simp only [sx, sy, Nat.reduceEqDiff, if_true, if_false, Bool.false_eq_true] at e4 s4 s1 s2
                        repeat' (first | (with_reducible first | refine aw_seq fun K hK => ?_ | refine aw_region (by kernel_rfl) ?_ | refine aw_condk ?_ | refine aw_block ?_) | ((with_reducible refine ev_aw ?_); first | (refine aw_draw (id := 20) (by kernel_rfl) _ _ (by kernel_rfl) (pl_Pie2_25_20 _ (by kernel_rfl)) ?_)) | (with_reducible first | refine ru_four ?_ ?_ ?_ ?_ | refine ru_three ?_ ?_ ?_ | refine ru_two ?_ ?_ | refine rv_split ?_ ?_ | refine rv_two ?_ ?_ | refine rp_two ?_ ?_) | ((with_reducible refine evg ?_); simp only [go_sem, St.clean, cleanO, ↓reduceIte, Nat.reduceEqDiff, Nat.reduceBEq, Nat.reduceAdd, Nat.reduceMul, Nat.reduceSub, Nat.reduceLT, Nat.reduceLeDiff]) | (simp (disch := omega) only [wr, drop_at, str_at, int_at, Int.reduceSub, Int.reduceAdd, Int.reduceToNat, Int.toNat_zero, s4, hd2, hst3, hcut, hld, hml2, Int.toNat_natCast, wr, wru]) | ((with_reducible refine ev_call ?_); (first | (refine call_fn e4 rfl ?_)); refine k_run ?_) | ((with_reducible refine ev_guard ?_); (with_reducible first | refine guard_t ?_ ?_ rfl | refine guard_f ?_ ?_ rfl) <;> (intro h; (try simp only [h]); (try simp only [nrm] at h) <;> (try ((with_reducible exfalso); omega)))) | ((with_reducible refine ck_split (fun h => ?_) (fun h => ?_)) <;> (try simp only [nrm] at h) <;> (try ((with_reducible exfalso); omega))) | ((with_reducible refine And.intro ?_ ?_); (first | omega | focus (simp; done) | focus (simp; omega) | focus ((repeat' (with_reducible refine And.intro ?_ ?_)) <;> first | omega | rfl | (simp only [go_sem, refsL_app, refs_dmap] <;> fail) | (simp [refsL_app, refs_dmap, AV.refsL, AV.refs] <;> omega)))) | (with_reducible refine hJ _ (fun K hK => ?_) ?_ <;> clear hJ KJ) | ((with_reducible refine ev_less ?_); (refine ⟨rfl, ?_, ?_⟩ <;> simp only [go_sem, St.clean, cleanO, SubS, SubO, beq_self_eq_true, ↓reduceIte, Nat.reduceEqDiff, Nat.reduceBEq, Nat.reduceAdd, Nat.reduceMul, Nat.reduceSub, Nat.reduceLT, Nat.reduceLeDiff])) | ((with_reducible first | apply hK | (clear hK K; first | apply hK | (clear hK K; first | apply hK | (clear hK K; apply hK)))); clear hK K) | fail)
                        refine ⟨(_ + 1, ((((ds.drop of).take m) ++ [sideN own _], 0), m + 1)), ⟨by simp only; omega, hpush, hm1⟩, by simp only; omega, ?_⟩
                        (refine lessW_of [] rfl ?_ <;> simp only [St.sws, St.sw, swS, swO, AV.sw, AV.swL, OB.sw, swp, St.upd, dropS, dropOs, Less, SubS, SubO, look, lookO, List.elem, List.cons_append, List.nil_append, cond_true, cond_false, and_true, true_and, beq_self_eq_true, ↓reduceIte, Nat.reduceEqDiff, Nat.reduceBEq, Nat.reduceAdd, Nat.reduceMul, Nat.reduceSub, Nat.reduceLT, Nat.reduceLeDiff] <;> try simp)
                        all_goals (first | rfl | omega | (refine ⟨?_, ?_⟩ <;> first | rfl | omega))
                · have hk4 : k = 4 := by omega
                  subst hk4
                  repeat' (first | (with_reducible first | refine aw_seq fun K hK => ?_ | refine aw_region (by kernel_rfl) ?_ | refine aw_condk ?_ | refine aw_block ?_) | ((with_reducible refine ev_aw ?_); first | (refine aw_draw (id := 20) (by kernel_rfl) _ _ (by kernel_rfl) (pl_Pie2_25_20 _ (by kernel_rfl)) ?_)) | (with_reducible first | refine ru_four ?_ ?_ ?_ ?_ | refine ru_three ?_ ?_ ?_ | refine ru_two ?_ ?_ | refine rv_split ?_ ?_ | refine rv_two ?_ ?_ | refine rp_two ?_ ?_) | ((with_reducible refine evg ?_); simp only [go_sem, St.clean, cleanO, ↓reduceIte, Nat.reduceEqDiff, Nat.reduceBEq, Nat.reduceAdd, Nat.reduceMul, Nat.reduceSub, Nat.reduceLT, Nat.reduceLeDiff]) | (simp (disch := omega) only [wr, drop_at, str_at, int_at, Int.reduceSub, Int.reduceAdd, Int.reduceToNat, Int.toNat_zero, wr]) | ((with_reducible refine ev_guard ?_); (with_reducible first | refine guard_t ?_ ?_ rfl | refine guard_f ?_ ?_ rfl) <;> (intro h; (try simp only [h]); (try simp only [nrm] at h) <;> (try ((with_reducible exfalso); omega)))) | ((with_reducible refine ck_split (fun h => ?_) (fun h => ?_)) <;> (try simp only [nrm] at h) <;> (try ((with_reducible exfalso); omega))) | ((with_reducible refine And.intro ?_ ?_); (first | omega | focus (simp; done) | focus (simp; omega) | focus ((repeat' (with_reducible refine And.intro ?_ ?_)) <;> first | omega | rfl | (simp only [go_sem, refsL_app, refs_dmap] <;> fail) | (simp [refsL_app, refs_dmap, AV.refsL, AV.refs] <;> omega)))) | (with_reducible refine hJ _ (fun K hK => ?_) ?_ <;> clear hJ KJ) | ((with_reducible refine ev_less ?_); (refine ⟨rfl, ?_, ?_⟩ <;> simp only [go_sem, St.clean, cleanO, SubS, SubO, beq_self_eq_true, ↓reduceIte, Nat.reduceEqDiff, Nat.reduceBEq, Nat.reduceAdd, Nat.reduceMul, Nat.reduceSub, Nat.reduceLT, Nat.reduceLeDiff])) | ((with_reducible first | apply hK | (clear hK K; first | apply hK | (clear hK K; first | apply hK | (clear hK K; apply hK)))); clear hK K) | fail)
                  subst u3
                  refine ⟨((ds, of), (stF zs own Q 4, j + 1)), ⟨u2, hlM, hst2, f4, by simp only; omega⟩, by simp only; omega, ?_⟩
                  (refine lessW_of [] rfl ?_ <;> simp only [St.sws, St.sw, swS, swO, AV.sw, AV.swL, OB.sw, swp, St.upd, dropS, dropOs, Less, SubS, SubO, look, lookO, List.elem, List.cons_append, List.nil_append, cond_true, cond_false, and_true, true_and, beq_self_eq_true, ↓reduceIte, Nat.reduceEqDiff, Nat.reduceBEq, Nat.reduceAdd, Nat.reduceMul, Nat.reduceSub, Nat.reduceLT, Nat.reduceLeDiff] <;> try simp)
                  all_goals (first | rfl | omega | (refine ⟨?_, ?_⟩ <;> first | rfl | omega))
            · have hjQ : Q.length ≤ j := by omega
              rw [pieF_end hjQ] at f4
              subst f4
              repeat' (first | (with_reducible first | refine aw_seq fun K hK => ?_ | refine aw_region (by kernel_rfl) ?_ | refine aw_condk ?_ | refine aw_block ?_) | ((with_reducible refine ev_aw ?_); first | (refine aw_draw (id := 20) (by kernel_rfl) _ _ (by kernel_rfl) (pl_Pie2_25_20 _ (by kernel_rfl)) ?_)) | (with_reducible first | refine ru_four ?_ ?_ ?_ ?_ | refine ru_three ?_ ?_ ?_ | refine ru_two ?_ ?_ | refine rv_split ?_ ?_ | refine rv_two ?_ ?_ | refine rp_two ?_ ?_) | ((with_reducible refine evg ?_); simp only [go_sem, St.clean, cleanO, ↓reduceIte, Nat.reduceEqDiff, Nat.reduceBEq, Nat.reduceAdd, Nat.reduceMul, Nat.reduceSub, Nat.reduceLT, Nat.reduceLeDiff]) | (simp (disch := omega) only [wr, drop_at, str_at, int_at, Int.reduceSub, Int.reduceAdd, Int.reduceToNat, Int.toNat_zero, wr]) | ((with_reducible refine ev_guard ?_); (with_reducible first | refine guard_t ?_ ?_ rfl | refine guard_f ?_ ?_ rfl) <;> (intro h; (try simp only [h]); (try simp only [nrm] at h) <;> (try ((with_reducible exfalso); omega)))) | ((with_reducible refine ck_split (fun h => ?_) (fun h => ?_)) <;> (try simp only [nrm] at h) <;> (try ((with_reducible exfalso); omega))) | ((with_reducible refine And.intro ?_ ?_); (first | omega | focus (simp; done) | focus (simp; omega) | focus ((repeat' (with_reducible refine And.intro ?_ ?_)) <;> first | omega | rfl | (simp only [go_sem, refsL_app, refs_dmap] <;> fail) | (simp [refsL_app, refs_dmap, AV.refsL, AV.refs] <;> omega)))) | (with_reducible refine hJ _ (fun K hK => ?_) ?_ <;> clear hJ KJ) | ((with_reducible refine ev_less ?_); (refine ⟨rfl, ?_, ?_⟩ <;> simp only [go_sem, St.clean, cleanO, SubS, SubO, beq_self_eq_true, ↓reduceIte, Nat.reduceEqDiff, Nat.reduceBEq, Nat.reduceAdd, Nat.reduceMul, Nat.reduceSub, Nat.reduceLT, Nat.reduceLeDiff])) | ((with_reducible first | apply hK | (clear hK K; first | apply hK | (clear hK K; first | apply hK | (clear hK K; apply hK)))); clear hK K) | fail)
              refine ⟨i + 1, by omega, by omega, ?_⟩
              rw [hRe]
              obtain ⟨R1, R2⟩ := R
              simp only at hF hN
              subst hF hN
              (refine lessW_of [] rfl ?_ <;> simp only [St.sws, St.sw, swS, swO, AV.sw, AV.swL, OB.sw, swp, St.upd, dropS, dropOs, Less, SubS, SubO, look, lookO, List.elem, List.cons_append, List.nil_append, cond_true, cond_false, and_true, true_and, beq_self_eq_true, ↓reduceIte, Nat.reduceEqDiff, Nat.reduceBEq, Nat.reduceAdd, Nat.reduceMul, Nat.reduceSub, Nat.reduceLT, Nat.reduceLeDiff] <;> try simp)
              all_goals (first | rfl | omega | (refine ⟨?_, ?_⟩ <;> first | rfl | omega))
      · have e : i = l.length := by omega
        subst e
        repeat' (first | (with_reducible first | refine aw_seq fun K hK => ?_ | refine aw_region (by kernel_rfl) ?_ | refine aw_condk ?_ | refine aw_block ?_) | ((with_reducible refine ev_aw ?_); first | (refine aw_draw (id := 20) (by kernel_rfl) _ _ (by kernel_rfl) (pl_Pie2_25_20 _ (by kernel_rfl)) ?_)) | (with_reducible first | refine ru_four ?_ ?_ ?_ ?_ | refine ru_three ?_ ?_ ?_ | refine ru_two ?_ ?_ | refine rv_split ?_ ?_ | refine rv_two ?_ ?_ | refine rp_two ?_ ?_) | ((with_reducible refine evg ?_); simp only [go_sem, St.clean, cleanO, ↓reduceIte, Nat.reduceEqDiff, Nat.reduceBEq, Nat.reduceAdd, Nat.reduceMul, Nat.reduceSub, Nat.reduceLT, Nat.reduceLeDiff]) | (simp (disch := omega) only [wr, drop_at, str_at, int_at, Int.reduceSub, Int.reduceAdd, Int.reduceToNat, Int.toNat_zero, wr]) | ((with_reducible refine ev_guard ?_); (with_reducible first | refine guard_t ?_ ?_ rfl | refine guard_f ?_ ?_ rfl) <;> (intro h; (try simp only [h]); (try simp only [nrm] at h) <;> (try ((with_reducible exfalso); omega)))) | ((with_reducible refine ck_split (fun h => ?_) (fun h => ?_)) <;> (try simp only [nrm] at h) <;> (try ((with_reducible exfalso); omega))) | ((with_reducible refine And.intro ?_ ?_); (first | omega | focus (simp; done) | focus (simp; omega) | focus ((repeat' (with_reducible refine And.intro ?_ ?_)) <;> first | omega | rfl | (simp only [go_sem, refsL_app, refs_dmap] <;> fail) | (simp [refsL_app, refs_dmap, AV.refsL, AV.refs] <;> omega)))) | (with_reducible refine hJ _ (fun K hK => ?_) ?_ <;> clear hJ KJ) | ((with_reducible refine ev_less ?_); (refine ⟨rfl, ?_, ?_⟩ <;> simp only [go_sem, St.clean, cleanO, SubS, SubO, beq_self_eq_true, ↓reduceIte, Nat.reduceEqDiff, Nat.reduceBEq, Nat.reduceAdd, Nat.reduceMul, Nat.reduceSub, Nat.reduceLT, Nat.reduceLeDiff])) | ((with_reducible first | apply hK | (clear hK K; first | apply hK | (clear hK K; first | apply hK | (clear hK K; apply hK)))); clear hK K) | fail)
        (first | refine res_tmp rfl (by simp [D.plain, plains]) (by simp) ?_ | refine res_at rfl (by simp [D.plain, plains]) (by simp) ?_ | refine res_two rfl (by simp [D.plain, plains]) (by simp) ?_ | refine res_three rfl (by simp [D.plain, plains]) (by simp) ?_)
        rfl

end Go.Proofs.Ytjfeleejiofeoaa
