/- The cross law of countered fields. -/
import Derived.Test.YtjbifidphckjoaaSwD
import Derived.Test.YtjbifidphckjoaaCtY
import Derived.Test.YtjbifidphckjoaaPic6
import Derived.Test.YtjbifidphckjoaaCtd2
import Derived.Test.YtjbifidphckjoaaRgD
import Derived.Test.YtjbifidphckjoaaRB
import Derived.Test.YtjbifidphckjoaaSwL
import Derived.WalkKit
import Derived.WalkSpells
import Derived.KernelRfl
namespace Go.Proofs.Ytjbifidphckjoaa
open Go.RowKit
set_option maxRecDepth 100000
set_option maxHeartbeats 4000000
set_option linter.unusedVariables false
set_option linter.unusedSimpArgs false

attribute [local go_sem] codL intL gridD FdS.dd rowsD_len

attribute [local simp] refs_dmap codL ints_plain ints_all ints_all1 ints_plain_take

theorem ctr_facts (d l f s : Int) (r : List Int) : ∃ (ps : List (List Int)) (ok : Bool), ctrR d l f s r = .tu [gridD ps, .bool ok] /\ ps.length <= 24 /\ (∀ z ∈ ps, z.length <= 480) /\ (ok = true -> ctdR ps d l f s = .tu [.ag [intL r], .bool true] /\ (∃ a b A : Int, cellsR d l f s r = .tu [.int a, .int b, .bool true] /\ areaR shZ = .tu [.int A, .bool true] /\ a + b = A /\ 0 <= a /\ a <= 480 /\ 0 <= b /\ b <= 480) /\ ∃ qs : List (List Int), twiceR d l f s r r = .tu [gridD qs, .bool true] /\ fpicR d l f s = .tu [gridD qs, .bool true] /\ qs.length <= 24 /\ (∀ z ∈ qs, z.length <= 480)) := by
 cases g : (okDiv d l f s && okReg r)
 · exact ⟨[], false, by rw [ctrR, g]; rfl, by simp, by simp, fun h => by cases h⟩
 ·
  obtain ⟨h1, h2⟩ := picZ_le (ctrZ d l.toNat f s r)
  refine ⟨_, true, by rw [ctrR, g]; rfl, h1, h2, fun _ => ?_⟩
  rw [Bool.and_eq_true] at g
  obtain ⟨g1, g2⟩ := g
  obtain ⟨_, hl, _⟩ := okField_in (okDiv_field g1)
  obtain ⟨n, rfl⟩ := Int.eq_ofNat_of_zero_le hl.1
  rw [Int.toNat_natCast]
  refine ⟨ctd_back g1 g2, ⟨((picZ (ctrZ d n f s r)).flatten.count f : Nat), ((picZ (ctrZ d n f s r)).flatten.count s : Nat), (areaN shZ 24 : Nat), ?_, ?_, ?_, ?_⟩, picZ (tinctZ d n f s), ?_, ?_, (picZ_le _).1, (picZ_le _).2⟩
  ·
   rw [cellsR, g1, g2, Int.toNat_natCast]
   rfl
  ·
   rw [areaR, shZ_ok]
   rfl
  ·
   have := ctr_fs g1 r
   rw [area_ones] at this
   omega
  ·
   have h3 := ctr_fs g1 r
   rw [area_ones] at h3
   have h4 := area_le shZ shZ_ok
   omega
  ·
   rw [twiceR, g1, g2, Int.toNat_natCast, twice_plain]
   rfl
  ·
   rw [fpicR, okDiv_field g1, Int.toNat_natCast]
   rfl

theorem regZ_inC (p : Int -> Int -> Bool) : inI (regZ p) := by
 intro i
 by_cases hi : i < 24
 ·
  have := (regZ_ok p).2 i hi
  omega
 ·
  rw [List.getD_eq_getElem?_getD, List.getElem?_eq_none (by rw [regZ_len]; omega)]
  simp

theorem ctd_ex (zs : List (List Int)) (d l f s : Int) : ∃ (c : List Int) (ok : Bool), ctdR zs d l f s = .tu [.ag [intL c], .bool ok] /\ c.length <= 24 := by
 unfold ctdR
 split
 · exact ⟨_, _, rfl, by rw [regZ_len]; exact Nat.le_refl _⟩
 · exact ⟨[], false, rfl, by simp⟩

theorem fnCounterchange_fn (bs : List Int) (hb : ∀ x ∈ bs, 0 <= x /\ x <= 255) (hl : bs.length <= 9223372036854775807) : FnD Try.prog 3 [codL bs] (.bool true) := by
 have e0 := rBig_fn bs hl
 by_cases hbig : 65536 < bs.length
 ·
  rw [decide_eq_true hbig] at e0
  refine fn_go Try.func3 rfl rfl Try.ntmps3 Try.results3 (by simp only [slo, Nat.reduceAdd]; rfl) (by simp) ?_
  repeat' (first | (with_reducible first | refine aw_seq fun K hK => ?_ | refine aw_region (by kernel_rfl) ?_ | refine aw_condk ?_) | ((with_reducible refine evg ?_); simp only [go_sem, ↓reduceIte, Nat.reduceEqDiff, Nat.reduceBEq, Nat.reduceAdd, Nat.reduceMul, Nat.reduceSub, Nat.reduceLT, Nat.reduceLeDiff]) | (simp (disch := omega) only [dsq, Int.reduceSub, Int.reduceAdd, Int.reduceToNat]) | ((with_reducible refine ev_call ?_); (first | (refine call_fn e0 rfl ?_)); refine k_run ?_) | ((with_reducible refine ev_guard ?_); (with_reducible first | refine guard_t ?_ ?_ rfl | refine guard_f ?_ ?_ rfl) <;> (intro h; (try simp only [h]); (try simp only [nrm] at h) <;> (try ((with_reducible exfalso); omega)))) | ((with_reducible refine ck_split (fun h => ?_) (fun h => ?_)) <;> (try simp only [nrm] at h) <;> (try ((with_reducible exfalso); omega))) | ((with_reducible refine And.intro ?_ ?_); (focus first | omega | (simp; done) | (simp; omega) | ((repeat' (with_reducible refine And.intro ?_ ?_)) <;> first | omega | rfl | (simp only [go_sem, refsL_app, refs_dmap] <;> fail) | (simp [refsL_app, refs_dmap, AV.refsL, AV.refs] <;> omega)))) | ((with_reducible first | apply hK | (clear hK K; first | apply hK | (clear hK K; apply hK))); clear hK K) | fail)
  refine res_tmp rfl (by simp [D.plain, plains]) (by simp) ?_
  rfl
 ·
  rw [decide_eq_false hbig] at e0
  have hok : okCod bs := ⟨hb, by omega⟩
  have d1 := drawCP_fn bs hok
  have d2 := drawOT_fn bs hok
  have d3 := drawCR_fn bs hok
  obtain ⟨l1, i1⟩ := cR1_ok hok
  obtain ⟨lc, rc⟩ := crP_ok hok
  generalize cR1 bs = r at *
  generalize crP bs = C at *
  generalize cOx bs = x at *
  generalize cfF bs = F at *
  obtain ⟨_, d, l, f, s⟩ := F
  simp only [FdS.dd] at d1 d2 d3
  have i1 := alI_in i1
  have rc1 : ∀ z ∈ C, z.length <= 9223372036854775807 := fun z hz => by have := rc z hz; omega
  have c1 := implCtr_fn d l f s r (by omega) i1
  have c2 := specCtr_fn d l f s r (by omega)
  have o1 := implOther_fn d l f s x
  have o2 := specOther_fn d l f s x
  have k1 := implCtd_fn C d l f s (by omega) rc1
  have k2 := specCtd_fn C d l f s (by omega) rc1
  obtain ⟨ps, ok1, x1, lp, rp, fp⟩ := ctr_facts d l f s r
  obtain ⟨t, ok2, x2, fo⟩ := oth_ex d l f s x
  obtain ⟨c, ok3, x3, lk⟩ := ctd_ex C d l f s
  rw [x1] at c1 c2
  rw [x2] at o1 o2
  rw [x3] at k1 k2
  have o3 := implOther_fn d l f s t
  have rp1 : ∀ z ∈ ps, z.length <= 9223372036854775807 := fun z hz => by have := rp z hz; omega
  have k3 := implCtd_fn ps d l f s (by omega) rp1
  have rP := rTable_fn ps (by omega) (fun z hz => by have := rp z hz; omega)
  have rC := rInts_fn c (by omega)
  have rR := rInts_fn r (by omega)
  have n1 := implCells_fn d l f s r (by omega) i1
  have n2 : FnD Try.prog 13 [] (.ag [intL shZ]) := shieldRegion_fn
  have n3 := implArea_fn shZ (by decide) (regZ_inC _)
  have n4 := implTwice_fn d l f s r r (by omega) i1 (by omega) i1
  have n5 := implFPic_fn d l f s
  cases ok1
  ·
   clear fp k3 n1 n2 n3 n4 n5 rR x1 x2 x3
   cases ok2
   ·
    clear fo o3
    refine fn_go Try.func3 rfl rfl Try.ntmps3 Try.results3 (by simp only [slo, Nat.reduceAdd]; rfl) (by simp) ?_
    repeat' (first | (with_reducible first | refine aw_seq fun K hK => ?_ | refine aw_region (by kernel_rfl) ?_ | refine aw_condk ?_) | ((with_reducible first | refine evg ?_ | refine ev_guard ?_); simp only [go_sem, ↓reduceIte, Nat.reduceEqDiff, Nat.reduceBEq, Nat.reduceAdd, Nat.reduceMul, Nat.reduceSub, Nat.reduceLT, Nat.reduceLeDiff]) | (simp (disch := omega) only [dsq, Int.reduceSub, Int.reduceAdd, Int.reduceToNat, bne_self_eq_false, beq_self_eq_true]) | ((with_reducible refine ev_call ?_); (first | (refine call_fn e0 rfl ?_) | (refine call_fn d1 rfl ?_) | (refine call_fn c1 rfl ?_) | (refine call_fn c2 rfl ?_) | (refine call_fn2 rP rfl ?_ ?_; (focus (simp only [grid_raw] <;> fail))) | (refine call_fn d2 rfl ?_) | (refine call_fn o1 rfl ?_) | (refine call_fn o2 rfl ?_) | (refine call_fn d3 rfl ?_) | (refine call_fn2 k1 rfl ?_ ?_; (focus (simp only [grid_raw] <;> fail))) | (refine call_fn2 k2 rfl ?_ ?_; (focus (simp only [grid_raw] <;> fail))) | (refine call_fn rC rfl ?_) | (refine call_fn2 rC rfl ?_ ?_; (focus (simp only [ints_raw] <;> fail)))); refine k_run ?_) | ((with_reducible refine ev_guard ?_); (with_reducible first | refine guard_t ?_ ?_ rfl | refine guard_f ?_ ?_ rfl) <;> (intro h; (try simp only [h]); (try simp only [nrm] at h) <;> (try ((with_reducible exfalso); omega)))) | ((with_reducible refine ck_split (fun h => ?_) (fun h => ?_)) <;> (try simp only [nrm] at h) <;> (try ((with_reducible exfalso); omega))) | ((with_reducible refine And.intro ?_ ?_); (focus first | omega | (simp; done) | (simp; omega) | ((repeat' (with_reducible refine And.intro ?_ ?_)) <;> first | omega | rfl | (simp only [go_sem, refsL_app, refs_dmap] <;> fail) | (simp [refsL_app, refs_dmap, AV.refsL, AV.refs] <;> omega)))) | ((with_reducible first | apply hK | (clear hK K; first | apply hK | (clear hK K; apply hK))); clear hK K) | fail)
    all_goals first
     | exact absurd trivial (by assumption)
     | skip
    all_goals (first | refine res_tmp rfl (by simp [D.plain, plains]) (by simp) ?_ | skip)
    all_goals rfl
   ·
    have fo := fo rfl
    rw [fo] at o3
    clear fo
    refine fn_go Try.func3 rfl rfl Try.ntmps3 Try.results3 (by simp only [slo, Nat.reduceAdd]; rfl) (by simp) ?_
    repeat' (first | (with_reducible first | refine aw_seq fun K hK => ?_ | refine aw_region (by kernel_rfl) ?_ | refine aw_condk ?_) | ((with_reducible first | refine evg ?_ | refine ev_guard ?_); simp only [go_sem, ↓reduceIte, Nat.reduceEqDiff, Nat.reduceBEq, Nat.reduceAdd, Nat.reduceMul, Nat.reduceSub, Nat.reduceLT, Nat.reduceLeDiff]) | (simp (disch := omega) only [dsq, Int.reduceSub, Int.reduceAdd, Int.reduceToNat, bne_self_eq_false, beq_self_eq_true]) | ((with_reducible refine ev_call ?_); (first | (refine call_fn e0 rfl ?_) | (refine call_fn d1 rfl ?_) | (refine call_fn c1 rfl ?_) | (refine call_fn c2 rfl ?_) | (refine call_fn2 rP rfl ?_ ?_; (focus (simp only [grid_raw] <;> fail))) | (refine call_fn d2 rfl ?_) | (refine call_fn o1 rfl ?_) | (refine call_fn o2 rfl ?_) | (refine call_fn o3 rfl ?_) | (refine call_fn d3 rfl ?_) | (refine call_fn2 k1 rfl ?_ ?_; (focus (simp only [grid_raw] <;> fail))) | (refine call_fn2 k2 rfl ?_ ?_; (focus (simp only [grid_raw] <;> fail))) | (refine call_fn rC rfl ?_) | (refine call_fn2 rC rfl ?_ ?_; (focus (simp only [ints_raw] <;> fail)))); refine k_run ?_) | ((with_reducible refine ev_guard ?_); (with_reducible first | refine guard_t ?_ ?_ rfl | refine guard_f ?_ ?_ rfl) <;> (intro h; (try simp only [h]); (try simp only [nrm] at h) <;> (try ((with_reducible exfalso); omega)))) | ((with_reducible refine ck_split (fun h => ?_) (fun h => ?_)) <;> (try simp only [nrm] at h) <;> (try ((with_reducible exfalso); omega))) | ((with_reducible refine And.intro ?_ ?_); (focus first | omega | (simp; done) | (simp; omega) | ((repeat' (with_reducible refine And.intro ?_ ?_)) <;> first | omega | rfl | (simp only [go_sem, refsL_app, refs_dmap] <;> fail) | (simp [refsL_app, refs_dmap, AV.refsL, AV.refs] <;> omega)))) | ((with_reducible first | apply hK | (clear hK K; first | apply hK | (clear hK K; apply hK))); clear hK K) | fail)
    all_goals first
     | exact absurd trivial (by assumption)
     | skip
    all_goals (first | refine res_tmp rfl (by simp [D.plain, plains]) (by simp) ?_ | skip)
    all_goals rfl
  ·
   obtain ⟨y1, ⟨a, b, A, y2, y3, y4, y5, y6, y7, y8⟩, qs, y9, z1, z2, z3⟩ := fp rfl
   have rQ := rTable_fn qs (by omega) (fun z hz => by have := z3 z hz; omega)
   rw [y1] at k3
   rw [y2] at n1
   rw [y3] at n3
   rw [y9] at n4
   rw [z1] at n5
   clear fp x1 x2 x3 y1 y2 y3 y9 z1
   generalize shZ = sh at *
   cases ok2
   ·
    clear fo o3
    refine fn_go Try.func3 rfl rfl Try.ntmps3 Try.results3 (by simp only [slo, Nat.reduceAdd]; rfl) (by simp) ?_
    repeat' (first | (with_reducible first | refine aw_seq fun K hK => ?_ | refine aw_region (by kernel_rfl) ?_ | refine aw_condk ?_) | ((with_reducible first | refine evg ?_ | refine ev_guard ?_); simp only [go_sem, ↓reduceIte, Nat.reduceEqDiff, Nat.reduceBEq, Nat.reduceAdd, Nat.reduceMul, Nat.reduceSub, Nat.reduceLT, Nat.reduceLeDiff]) | (simp (disch := omega) only [dsq, Int.reduceSub, Int.reduceAdd, Int.reduceToNat, bne_self_eq_false, beq_self_eq_true, y4]) | ((with_reducible refine ev_call ?_); (first | (refine call_fn e0 rfl ?_) | (refine call_fn d1 rfl ?_) | (refine call_fn c1 rfl ?_) | (refine call_fn c2 rfl ?_) | (refine call_fn2 rP rfl ?_ ?_; (focus (simp only [grid_raw] <;> fail))) | (refine call_fn2 k3 rfl ?_ ?_; (focus (simp only [grid_raw] <;> fail))) | (refine call_fn n1 rfl ?_) | (refine call_fn n2 rfl ?_) | (refine call_fn n3 rfl ?_) | (refine call_fn2 n3 rfl ?_ ?_; (focus (simp only [ints_raw] <;> fail))) | (refine call_fn n4 rfl ?_) | (refine call_fn n5 rfl ?_) | (refine call_fn rR rfl ?_) | (refine call_fn2 rR rfl ?_ ?_; (focus (simp only [ints_raw] <;> fail))) | (refine call_fn2 rQ rfl ?_ ?_; (focus (simp only [grid_raw] <;> fail))) | (refine call_fn d2 rfl ?_) | (refine call_fn o1 rfl ?_) | (refine call_fn o2 rfl ?_) | (refine call_fn d3 rfl ?_) | (refine call_fn2 k1 rfl ?_ ?_; (focus (simp only [grid_raw] <;> fail))) | (refine call_fn2 k2 rfl ?_ ?_; (focus (simp only [grid_raw] <;> fail))) | (refine call_fn rC rfl ?_) | (refine call_fn2 rC rfl ?_ ?_; (focus (simp only [ints_raw] <;> fail)))); refine k_run ?_) | ((with_reducible refine ev_guard ?_); (with_reducible first | refine guard_t ?_ ?_ rfl | refine guard_f ?_ ?_ rfl) <;> (intro h; (try simp only [h]); (try simp only [nrm] at h) <;> (try ((with_reducible exfalso); omega)))) | ((with_reducible refine ck_split (fun h => ?_) (fun h => ?_)) <;> (try simp only [nrm] at h) <;> (try ((with_reducible exfalso); omega))) | ((with_reducible refine And.intro ?_ ?_); (focus first | omega | (simp; done) | (simp; omega) | ((repeat' (with_reducible refine And.intro ?_ ?_)) <;> first | omega | rfl | (simp only [go_sem, refsL_app, refs_dmap] <;> fail) | (simp [refsL_app, refs_dmap, AV.refsL, AV.refs] <;> omega)))) | ((with_reducible first | apply hK | (clear hK K; first | apply hK | (clear hK K; apply hK))); clear hK K) | fail)
    all_goals first
     | exact absurd trivial (by assumption)
     | skip
    all_goals (first | refine res_tmp rfl (by simp [D.plain, plains]) (by simp) ?_ | skip)
    all_goals rfl
   ·
    have fo := fo rfl
    rw [fo] at o3
    clear fo
    refine fn_go Try.func3 rfl rfl Try.ntmps3 Try.results3 (by simp only [slo, Nat.reduceAdd]; rfl) (by simp) ?_
    repeat' (first | (with_reducible first | refine aw_seq fun K hK => ?_ | refine aw_region (by kernel_rfl) ?_ | refine aw_condk ?_) | ((with_reducible first | refine evg ?_ | refine ev_guard ?_); simp only [go_sem, ↓reduceIte, Nat.reduceEqDiff, Nat.reduceBEq, Nat.reduceAdd, Nat.reduceMul, Nat.reduceSub, Nat.reduceLT, Nat.reduceLeDiff]) | (simp (disch := omega) only [dsq, Int.reduceSub, Int.reduceAdd, Int.reduceToNat, bne_self_eq_false, beq_self_eq_true, y4]) | ((with_reducible refine ev_call ?_); (first | (refine call_fn e0 rfl ?_) | (refine call_fn d1 rfl ?_) | (refine call_fn c1 rfl ?_) | (refine call_fn c2 rfl ?_) | (refine call_fn2 rP rfl ?_ ?_; (focus (simp only [grid_raw] <;> fail))) | (refine call_fn2 k3 rfl ?_ ?_; (focus (simp only [grid_raw] <;> fail))) | (refine call_fn n1 rfl ?_) | (refine call_fn n2 rfl ?_) | (refine call_fn n3 rfl ?_) | (refine call_fn2 n3 rfl ?_ ?_; (focus (simp only [ints_raw] <;> fail))) | (refine call_fn n4 rfl ?_) | (refine call_fn n5 rfl ?_) | (refine call_fn rR rfl ?_) | (refine call_fn2 rR rfl ?_ ?_; (focus (simp only [ints_raw] <;> fail))) | (refine call_fn2 rQ rfl ?_ ?_; (focus (simp only [grid_raw] <;> fail))) | (refine call_fn d2 rfl ?_) | (refine call_fn o1 rfl ?_) | (refine call_fn o2 rfl ?_) | (refine call_fn o3 rfl ?_) | (refine call_fn d3 rfl ?_) | (refine call_fn2 k1 rfl ?_ ?_; (focus (simp only [grid_raw] <;> fail))) | (refine call_fn2 k2 rfl ?_ ?_; (focus (simp only [grid_raw] <;> fail))) | (refine call_fn rC rfl ?_) | (refine call_fn2 rC rfl ?_ ?_; (focus (simp only [ints_raw] <;> fail)))); refine k_run ?_) | ((with_reducible refine ev_guard ?_); (with_reducible first | refine guard_t ?_ ?_ rfl | refine guard_f ?_ ?_ rfl) <;> (intro h; (try simp only [h]); (try simp only [nrm] at h) <;> (try ((with_reducible exfalso); omega)))) | ((with_reducible refine ck_split (fun h => ?_) (fun h => ?_)) <;> (try simp only [nrm] at h) <;> (try ((with_reducible exfalso); omega))) | ((with_reducible refine And.intro ?_ ?_); (focus first | omega | (simp; done) | (simp; omega) | ((repeat' (with_reducible refine And.intro ?_ ?_)) <;> first | omega | rfl | (simp only [go_sem, refsL_app, refs_dmap] <;> fail) | (simp [refsL_app, refs_dmap, AV.refsL, AV.refs] <;> omega)))) | ((with_reducible first | apply hK | (clear hK K; first | apply hK | (clear hK K; apply hK))); clear hK K) | fail)
    all_goals first
     | exact absurd trivial (by assumption)
     | skip
    all_goals (first | refine res_tmp rfl (by simp [D.plain, plains]) (by simp) ?_ | skip)
    all_goals rfl

end Go.Proofs.Ytjbifidphckjoaa
