/- The cross law of swapped tinctures and countered ordinaries. -/
import Derived.Test.YtjbifidphckjoaaSwD
import Derived.Test.YtjbifidphckjoaaPic6
import Derived.Test.YtjbifidphckjoaaOrd2
import Derived.Test.YtjbifidphckjoaaRgD
import Derived.Test.YtjbifidphckjoaaRB
import Derived.Test.YtjbifidphckjoaaOth
import Derived.Test.YtjbifidphckjoaaSwX
import Derived.Test.YtjbifidphckjoaaCnt
import Derived.Test.YtjbifidphckjoaaPop
import Derived.Test.YtjbifidphckjoaaOrdA
import Derived.Test.YtjbifidphckjoaaGrid2
import Derived.Test.YtjbifidphckjoaaPic5
import Derived.WalkKit
import Derived.WalkSpells
import Derived.KernelRfl
namespace Go.Proofs.Ytjbifidphckjoaa
open Go.RowKit
set_option maxRecDepth 100000
set_option maxHeartbeats 4000000
set_option linter.unusedVariables false
set_option linter.unusedSimpArgs false

attribute [local go_sem] codL intL gridD FdS.dd rowsD_len

attribute [local simp] refs_dmap codL ints_plain ints_all ints_all1 ints_plain_take

theorem grid_raw (zs : List (List Int)) : D.ls 1 zs.length (((rowsD zs).drop 0).take (zs.length * 1)) = gridD zs := by
 rw [List.drop_zero, Nat.mul_one, List.take_of_length_le (by simp)]
 rfl

theorem picZ_le (h : Nat -> Nat -> Int) : (picZ h).length <= 24 /\ ∀ z ∈ picZ h, z.length <= 480 := by
 refine ⟨by rw [picZ_len]; exact Nat.le_refl _, fun z hz => ?_⟩
 have h24 : ∀ k ∈ len24, k <= 480 := by decide
 rw [← picZ_lens h] at h24
 exact h24 _ (List.mem_map_of_mem hz)

theorem swap_facts (P : List (List Int)) (a b : Int) : ∃ (ws : List (List Int)) (ok : Bool), swapR P a b = .tu [gridD ws, .bool ok] /\ ws.length <= 24 /\ (∀ z ∈ ws, z.length <= 480) /\ (ok = true -> swapR ws a b = .tu [gridD P, .bool true] /\ ∃ n A : Int, shareR P a = .tu [.int n, .int A, .bool true] /\ shareR ws b = .tu [.int n, .int A, .bool true]) := by
 cases g : (okPic P && inR a 1 9 && inR b 1 9)
 · exact ⟨[], false, by rw [swapR, g]; rfl, by simp, by simp, fun h => by cases h⟩
 ·
  obtain ⟨h1, h2⟩ := picZ_le (swapH P a b)
  refine ⟨picZ (swapH P a b), true, by rw [swapR, g]; rfl, h1, h2, fun _ => ?_⟩
  rw [Bool.and_eq_true, Bool.and_eq_true] at g
  obtain ⟨⟨g1, g2⟩, g3⟩ := g
  have q2 := inR_iff.1 g2
  have q3 := inR_iff.1 g3
  have hm := swap_map g1 q2.1 q3.1
  have hok := swap_ok g1 q2 q3
  rw [hm]
  refine ⟨?_, ((P.flatten.count a : Nat) : Int), ((areaN shZ 24 : Nat) : Int), ?_, ?_⟩
  ·
   rw [swapR, hok, g2, g3, swap_map hok q2.1 q3.1, swap_back]
   rfl
  ·
   rw [shareR, g1, g2]
   rfl
  ·
   rw [shareR, hok, g3, swap_count]
   rfl

theorem cord_facts (d l f s o k : Int) : ∃ (cs : List (List Int)) (ok : Bool), cordR d l f s o k = .tu [gridD cs, .bool ok] /\ cs.length <= 24 /\ (∀ z ∈ cs, z.length <= 480) /\ (ok = true -> ∃ r : List Int, linedR o k = .tu [.ag [intL r], .bool true] /\ r.length = 24 /\ inI r /\ ctrR d l f s r = .tu [gridD cs, .bool true]) := by
 cases g : (inR o 0 7 && inR k 0 4 && okDiv d l f s)
 · exact ⟨[], false, by rw [cordR, g]; rfl, by simp, by simp, fun h => by cases h⟩
 ·
  obtain ⟨h1, h2⟩ := picZ_le (ctrZ d l.toNat f s (regZ (ordP o k.toNat)))
  refine ⟨_, true, by rw [cordR, g]; rfl, h1, h2, fun _ => ?_⟩
  rw [Bool.and_eq_true, Bool.and_eq_true] at g
  obtain ⟨⟨g1, g2⟩, g3⟩ := g
  refine ⟨regZ (ordP o k.toNat), by rw [linedR, g1, g2]; rfl, regZ_len _, ?_, by rw [ctrR, g3, regQ2_good]; rfl⟩
  intro i
  by_cases hi : i < 24
  ·
   have := (regZ_ok (ordP o k.toNat)).2 i hi
   omega
  ·
   rw [List.getD_eq_getElem?_getD, List.getElem?_eq_none (by rw [regZ_len]; omega)]
   simp

theorem twice_ex (d l f s : Int) (rs ss : List Int) : ∃ (ts : List (List Int)) (ok : Bool), twiceR d l f s rs ss = .tu [gridD ts, .bool ok] /\ ts.length <= 24 /\ (∀ z ∈ ts, z.length <= 480) := by
 unfold twiceR
 split
 ·
  obtain ⟨h1, h2⟩ := picZ_le (ctrZ d l.toNat f s (regZ (bothP rs ss)))
  exact ⟨_, _, rfl, h1, h2⟩
 · exact ⟨[], false, rfl, by simp, by simp⟩

theorem fnSwaps_fn (bs : List Int) (hb : ∀ x ∈ bs, 0 <= x /\ x <= 255) (hl : bs.length <= 9223372036854775807) : FnD Try.prog 4 [codL bs] (.bool true) := by
 have e0 := rBig_fn bs hl
 by_cases hbig : 65536 < bs.length
 ·
  rw [decide_eq_true hbig] at e0
  refine fn_go Try.func4 rfl rfl Try.ntmps4 Try.results4 (by simp only [slo, Nat.reduceAdd]; rfl) (by simp) ?_
  repeat' (first | (with_reducible first | refine aw_seq fun K hK => ?_ | refine aw_region (by kernel_rfl) ?_ | refine aw_condk ?_) | ((with_reducible refine evg ?_); simp only [go_sem, ↓reduceIte, Nat.reduceEqDiff, Nat.reduceBEq, Nat.reduceAdd, Nat.reduceMul, Nat.reduceSub, Nat.reduceLT, Nat.reduceLeDiff]) | (simp (disch := omega) only [dsq, Int.reduceSub, Int.reduceAdd, Int.reduceToNat]) | ((with_reducible refine ev_call ?_); (first | (refine call_fn e0 rfl ?_)); refine k_run ?_) | ((with_reducible refine ev_guard ?_); (with_reducible first | refine guard_t ?_ ?_ rfl | refine guard_f ?_ ?_ rfl) <;> (intro h; (try simp only [h]); (try simp only [nrm] at h) <;> (try ((with_reducible exfalso); omega)))) | ((with_reducible refine ck_split (fun h => ?_) (fun h => ?_)) <;> (try simp only [nrm] at h) <;> (try ((with_reducible exfalso); omega))) | ((with_reducible refine And.intro ?_ ?_); (focus first | omega | (simp; done) | (simp; omega) | ((repeat' (with_reducible refine And.intro ?_ ?_)) <;> first | omega | rfl | (simp only [go_sem, refsL_app, refs_dmap] <;> fail) | (simp [refsL_app, refs_dmap, AV.refsL, AV.refs] <;> omega)))) | ((with_reducible first | apply hK | (clear hK K; first | apply hK | (clear hK K; apply hK))); clear hK K) | fail)
  refine res_tmp rfl (by simp [D.plain, plains]) (by simp) ?_
  rfl
 ·
  rw [decide_eq_false hbig] at e0
  have hok : okCod bs := ⟨hb, by omega⟩
  have d1 := drawSw_fn bs hok
  have d2 := drawCO_fn bs hok
  have d3 := drawCT_fn bs hok
  obtain ⟨lp, rp⟩ := swP_ok hok
  obtain ⟨l1, i1⟩ := cR1_ok hok
  obtain ⟨l2, i2⟩ := cR2_ok hok
  generalize swP bs = P at *
  generalize swA bs = a at *
  generalize swB bs = b at *
  generalize cOo bs = o at *
  generalize cOl bs = k at *
  generalize cR1 bs = r1 at *
  generalize cR2 bs = r2 at *
  generalize cfF bs = F at *
  obtain ⟨_, d, l, f, s⟩ := F
  simp only [FdS.dd] at d2 d3
  have i1 := alI_in i1
  have i2 := alI_in i2
  have rp1 : ∀ z ∈ P, z.length <= 9223372036854775807 := fun z hz => by have := rp z hz; omega
  have s1 := implSwap_fn P a b (by omega) rp1
  have s2 := specSwap_fn P a b (by omega) rp1
  have o1 := implCOrd_fn d l f s o k
  have o2 := specCOrd_fn d l f s o k
  have t1 := implTwice_fn d l f s r1 r2 (by omega) i1 (by omega) i2
  have t2 := specTwice_fn d l f s r1 r2 (by omega) (by omega)
  have h1 := share_fn P a (by omega) rp1
  have q1 := implLined_fn o k
  have rP := rTable_fn P (by omega) (fun z hz => by have := rp z hz; omega)
  obtain ⟨ws, ok1, x1, lw, rw1, fw⟩ := swap_facts P a b
  obtain ⟨cs, ok2, x2, lc, rc, fc⟩ := cord_facts d l f s o k
  obtain ⟨ts, ok3, x3, lt, rt⟩ := twice_ex d l f s r1 r2
  rw [x1] at s1 s2
  rw [x2] at o1 o2
  rw [x3] at t1 t2
  have rw2 : ∀ z ∈ ws, z.length <= 9223372036854775807 := fun z hz => by have := rw1 z hz; omega
  have s3 := implSwap_fn ws a b (by omega) rw2
  have h2 := share_fn ws b (by omega) rw2
  have rW := rTable_fn ws (by omega) (fun z hz => by have := rw1 z hz; omega)
  have rC := rTable_fn cs (by omega) (fun z hz => by have := rc z hz; omega)
  have rT := rTable_fn ts (by omega) (fun z hz => by have := rt z hz; omega)
  cases ok1
  ·
   clear fw s3 h1 h2 x1 x2 x3
   cases ok2
   ·
    clear fc q1
    refine fn_go Try.func4 rfl rfl Try.ntmps4 Try.results4 (by simp only [slo, Nat.reduceAdd]; rfl) (by simp) ?_
    repeat' (first | (with_reducible first | refine aw_seq fun K hK => ?_ | refine aw_region (by kernel_rfl) ?_ | refine aw_condk ?_) | ((with_reducible first | refine evg ?_ | refine ev_guard ?_); simp only [go_sem, ↓reduceIte, Nat.reduceEqDiff, Nat.reduceBEq, Nat.reduceAdd, Nat.reduceMul, Nat.reduceSub, Nat.reduceLT, Nat.reduceLeDiff]) | (simp (disch := omega) only [dsq, Int.reduceSub, Int.reduceAdd, Int.reduceToNat, bne_self_eq_false, beq_self_eq_true]) | ((with_reducible refine ev_call ?_); (first | (refine call_fn e0 rfl ?_) | (refine call_fn d1 rfl ?_) | (refine call_fn2 s1 rfl ?_ ?_; (focus (simp only [grid_raw] <;> fail))) | (refine call_fn2 s2 rfl ?_ ?_; (focus (simp only [grid_raw] <;> fail))) | (refine call_fn2 rW rfl ?_ ?_; (focus (simp only [grid_raw] <;> fail))) | (refine call_fn d2 rfl ?_) | (refine call_fn o1 rfl ?_) | (refine call_fn o2 rfl ?_) | (refine call_fn2 rC rfl ?_ ?_; (focus (simp only [grid_raw] <;> fail))) | (refine call_fn d3 rfl ?_) | (refine call_fn t1 rfl ?_) | (refine call_fn t2 rfl ?_) | (refine call_fn2 rT rfl ?_ ?_; (focus (simp only [grid_raw] <;> fail)))); refine k_run ?_) | ((with_reducible refine ev_guard ?_); (with_reducible first | refine guard_t ?_ ?_ rfl | refine guard_f ?_ ?_ rfl) <;> (intro h; (try simp only [h]); (try simp only [nrm] at h) <;> (try ((with_reducible exfalso); omega)))) | ((with_reducible refine ck_split (fun h => ?_) (fun h => ?_)) <;> (try simp only [nrm] at h) <;> (try ((with_reducible exfalso); omega))) | ((with_reducible refine And.intro ?_ ?_); (focus first | omega | (simp; done) | (simp; omega) | ((repeat' (with_reducible refine And.intro ?_ ?_)) <;> first | omega | rfl | (simp only [go_sem, refsL_app, refs_dmap] <;> fail) | (simp [refsL_app, refs_dmap, AV.refsL, AV.refs] <;> omega)))) | ((with_reducible first | apply hK | (clear hK K; first | apply hK | (clear hK K; apply hK))); clear hK K) | fail)
    all_goals first
     | exact absurd trivial (by assumption)
     | skip
    all_goals (first | refine res_tmp rfl (by simp [D.plain, plains]) (by simp) ?_ | skip)
    all_goals rfl
   ·
    obtain ⟨r, y1, y2, y3, y4⟩ := fc rfl
    rw [y1] at q1
    have c1 := implCtr_fn d l f s r (by omega) y3
    rw [y4] at c1
    refine fn_go Try.func4 rfl rfl Try.ntmps4 Try.results4 (by simp only [slo, Nat.reduceAdd]; rfl) (by simp) ?_
    repeat' (first | (with_reducible first | refine aw_seq fun K hK => ?_ | refine aw_region (by kernel_rfl) ?_ | refine aw_condk ?_) | ((with_reducible first | refine evg ?_ | refine ev_guard ?_); simp only [go_sem, ↓reduceIte, Nat.reduceEqDiff, Nat.reduceBEq, Nat.reduceAdd, Nat.reduceMul, Nat.reduceSub, Nat.reduceLT, Nat.reduceLeDiff]) | (simp (disch := omega) only [dsq, Int.reduceSub, Int.reduceAdd, Int.reduceToNat, bne_self_eq_false, beq_self_eq_true]) | ((with_reducible refine ev_call ?_); (first | (refine call_fn e0 rfl ?_) | (refine call_fn d1 rfl ?_) | (refine call_fn2 s1 rfl ?_ ?_; (focus (simp only [grid_raw] <;> fail))) | (refine call_fn2 s2 rfl ?_ ?_; (focus (simp only [grid_raw] <;> fail))) | (refine call_fn2 rW rfl ?_ ?_; (focus (simp only [grid_raw] <;> fail))) | (refine call_fn d2 rfl ?_) | (refine call_fn o1 rfl ?_) | (refine call_fn o2 rfl ?_) | (refine call_fn2 rC rfl ?_ ?_; (focus (simp only [grid_raw] <;> fail))) | (refine call_fn d3 rfl ?_) | (refine call_fn t1 rfl ?_) | (refine call_fn t2 rfl ?_) | (refine call_fn2 rT rfl ?_ ?_; (focus (simp only [grid_raw] <;> fail))) | (refine call_fn q1 rfl ?_) | (refine call_fn c1 rfl ?_) | (refine call_fn2 c1 rfl ?_ ?_; (focus (simp only [ints_raw] <;> fail)))); refine k_run ?_) | ((with_reducible refine ev_guard ?_); (with_reducible first | refine guard_t ?_ ?_ rfl | refine guard_f ?_ ?_ rfl) <;> (intro h; (try simp only [h]); (try simp only [nrm] at h) <;> (try ((with_reducible exfalso); omega)))) | ((with_reducible refine ck_split (fun h => ?_) (fun h => ?_)) <;> (try simp only [nrm] at h) <;> (try ((with_reducible exfalso); omega))) | ((with_reducible refine And.intro ?_ ?_); (focus first | omega | (simp; done) | (simp; omega) | ((repeat' (with_reducible refine And.intro ?_ ?_)) <;> first | omega | rfl | (simp only [go_sem, refsL_app, refs_dmap] <;> fail) | (simp [refsL_app, refs_dmap, AV.refsL, AV.refs] <;> omega)))) | ((with_reducible first | apply hK | (clear hK K; first | apply hK | (clear hK K; apply hK))); clear hK K) | fail)
    all_goals first
     | exact absurd trivial (by assumption)
     | skip
    all_goals (first | refine res_tmp rfl (by simp [D.plain, plains]) (by simp) ?_ | skip)
    all_goals rfl
  ·
   obtain ⟨z1, n, A, z2, z3⟩ := fw rfl
   rw [z1] at s3
   rw [z2] at h1
   rw [z3] at h2
   clear fw x1 x2 x3 z1 z2 z3
   cases ok2
   ·
    clear fc q1
    refine fn_go Try.func4 rfl rfl Try.ntmps4 Try.results4 (by simp only [slo, Nat.reduceAdd]; rfl) (by simp) ?_
    repeat' (first | (with_reducible first | refine aw_seq fun K hK => ?_ | refine aw_region (by kernel_rfl) ?_ | refine aw_condk ?_) | ((with_reducible first | refine evg ?_ | refine ev_guard ?_); simp only [go_sem, ↓reduceIte, Nat.reduceEqDiff, Nat.reduceBEq, Nat.reduceAdd, Nat.reduceMul, Nat.reduceSub, Nat.reduceLT, Nat.reduceLeDiff]) | (simp (disch := omega) only [dsq, Int.reduceSub, Int.reduceAdd, Int.reduceToNat, bne_self_eq_false, beq_self_eq_true]) | ((with_reducible refine ev_call ?_); (first | (refine call_fn e0 rfl ?_) | (refine call_fn d1 rfl ?_) | (refine call_fn2 s1 rfl ?_ ?_; (focus (simp only [grid_raw] <;> fail))) | (refine call_fn2 s2 rfl ?_ ?_; (focus (simp only [grid_raw] <;> fail))) | (refine call_fn2 rW rfl ?_ ?_; (focus (simp only [grid_raw] <;> fail))) | (refine call_fn2 s3 rfl ?_ ?_; (focus (simp only [grid_raw] <;> fail))) | (refine call_fn2 h1 rfl ?_ ?_; (focus (simp only [grid_raw] <;> fail))) | (refine call_fn2 h2 rfl ?_ ?_; (focus (simp only [grid_raw] <;> fail))) | (refine call_fn2 rP rfl ?_ ?_; (focus (simp only [grid_raw] <;> fail))) | (refine call_fn d2 rfl ?_) | (refine call_fn o1 rfl ?_) | (refine call_fn o2 rfl ?_) | (refine call_fn2 rC rfl ?_ ?_; (focus (simp only [grid_raw] <;> fail))) | (refine call_fn d3 rfl ?_) | (refine call_fn t1 rfl ?_) | (refine call_fn t2 rfl ?_) | (refine call_fn2 rT rfl ?_ ?_; (focus (simp only [grid_raw] <;> fail)))); refine k_run ?_) | ((with_reducible refine ev_guard ?_); (with_reducible first | refine guard_t ?_ ?_ rfl | refine guard_f ?_ ?_ rfl) <;> (intro h; (try simp only [h]); (try simp only [nrm] at h) <;> (try ((with_reducible exfalso); omega)))) | ((with_reducible refine ck_split (fun h => ?_) (fun h => ?_)) <;> (try simp only [nrm] at h) <;> (try ((with_reducible exfalso); omega))) | ((with_reducible refine And.intro ?_ ?_); (focus first | omega | (simp; done) | (simp; omega) | ((repeat' (with_reducible refine And.intro ?_ ?_)) <;> first | omega | rfl | (simp only [go_sem, refsL_app, refs_dmap] <;> fail) | (simp [refsL_app, refs_dmap, AV.refsL, AV.refs] <;> omega)))) | ((with_reducible first | apply hK | (clear hK K; first | apply hK | (clear hK K; apply hK))); clear hK K) | fail)
    all_goals first
     | exact absurd trivial (by assumption)
     | skip
    all_goals (first | refine res_tmp rfl (by simp [D.plain, plains]) (by simp) ?_ | skip)
    all_goals rfl
   ·
    obtain ⟨r, y1, y2, y3, y4⟩ := fc rfl
    rw [y1] at q1
    have c1 := implCtr_fn d l f s r (by omega) y3
    rw [y4] at c1
    refine fn_go Try.func4 rfl rfl Try.ntmps4 Try.results4 (by simp only [slo, Nat.reduceAdd]; rfl) (by simp) ?_
    repeat' (first | (with_reducible first | refine aw_seq fun K hK => ?_ | refine aw_region (by kernel_rfl) ?_ | refine aw_condk ?_) | ((with_reducible first | refine evg ?_ | refine ev_guard ?_); simp only [go_sem, ↓reduceIte, Nat.reduceEqDiff, Nat.reduceBEq, Nat.reduceAdd, Nat.reduceMul, Nat.reduceSub, Nat.reduceLT, Nat.reduceLeDiff]) | (simp (disch := omega) only [dsq, Int.reduceSub, Int.reduceAdd, Int.reduceToNat, bne_self_eq_false, beq_self_eq_true]) | ((with_reducible refine ev_call ?_); (first | (refine call_fn e0 rfl ?_) | (refine call_fn d1 rfl ?_) | (refine call_fn2 s1 rfl ?_ ?_; (focus (simp only [grid_raw] <;> fail))) | (refine call_fn2 s2 rfl ?_ ?_; (focus (simp only [grid_raw] <;> fail))) | (refine call_fn2 rW rfl ?_ ?_; (focus (simp only [grid_raw] <;> fail))) | (refine call_fn2 s3 rfl ?_ ?_; (focus (simp only [grid_raw] <;> fail))) | (refine call_fn2 h1 rfl ?_ ?_; (focus (simp only [grid_raw] <;> fail))) | (refine call_fn2 h2 rfl ?_ ?_; (focus (simp only [grid_raw] <;> fail))) | (refine call_fn2 rP rfl ?_ ?_; (focus (simp only [grid_raw] <;> fail))) | (refine call_fn d2 rfl ?_) | (refine call_fn o1 rfl ?_) | (refine call_fn o2 rfl ?_) | (refine call_fn2 rC rfl ?_ ?_; (focus (simp only [grid_raw] <;> fail))) | (refine call_fn d3 rfl ?_) | (refine call_fn t1 rfl ?_) | (refine call_fn t2 rfl ?_) | (refine call_fn2 rT rfl ?_ ?_; (focus (simp only [grid_raw] <;> fail))) | (refine call_fn q1 rfl ?_) | (refine call_fn c1 rfl ?_) | (refine call_fn2 c1 rfl ?_ ?_; (focus (simp only [ints_raw] <;> fail)))); refine k_run ?_) | ((with_reducible refine ev_guard ?_); (with_reducible first | refine guard_t ?_ ?_ rfl | refine guard_f ?_ ?_ rfl) <;> (intro h; (try simp only [h]); (try simp only [nrm] at h) <;> (try ((with_reducible exfalso); omega)))) | ((with_reducible refine ck_split (fun h => ?_) (fun h => ?_)) <;> (try simp only [nrm] at h) <;> (try ((with_reducible exfalso); omega))) | ((with_reducible refine And.intro ?_ ?_); (focus first | omega | (simp; done) | (simp; omega) | ((repeat' (with_reducible refine And.intro ?_ ?_)) <;> first | omega | rfl | (simp only [go_sem, refsL_app, refs_dmap] <;> fail) | (simp [refsL_app, refs_dmap, AV.refsL, AV.refs] <;> omega)))) | ((with_reducible first | apply hK | (clear hK K; first | apply hK | (clear hK K; apply hK))); clear hK K) | fail)
    all_goals first
     | exact absurd trivial (by assumption)
     | skip
    all_goals (first | refine res_tmp rfl (by simp [D.plain, plains]) (by simp) ?_ | skip)
    all_goals rfl

end Go.Proofs.Ytjbifidphckjoaa
