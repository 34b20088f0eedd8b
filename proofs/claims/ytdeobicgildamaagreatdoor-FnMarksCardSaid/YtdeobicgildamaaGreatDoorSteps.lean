/- The program's 'steps', at the parents of a family. -/
import Derived.Test.YtdeobicgildamaaGreatDoorBfs
import Derived.WalkKit
import Derived.WalkSpells
import Derived.KernelRfl
namespace Go.Proofs.YtdeobicgildamaaGreatDoor
open Go.RowKit
set_option linter.unusedVariables false
set_option linter.unusedSimpArgs false

attribute [local go_sem] PerV.d PerV.cs perL famD intL

attribute [local simp] refs_dmap perC_all perC_plains ints_plain ints_all ints_all1 ints_plain_take

def quB (L : List (Int × Int)) (j : Nat) (cs : List Int) (off : Nat) : Prop := cs.length = off + (L.length - j) ∧ ∀ k, j + k < L.length → cs.getD (off + k) 0 = (L.getD (j + k) (0, 0)).1

theorem quB_pop {L : List (Int × Int)} {j off : Nat} {cs : List Int} (h : quB L j cs off) (hj : j < L.length) : quB L (j + 1) cs (off + 1) :=
  ⟨by have := h.1; omega, fun k hk => by
    have := h.2 (k + 1) (by omega)
    rw [show off + 1 + k = off + (k + 1) from by omega, show j + 1 + k = j + (k + 1) from by omega]
    exact this⟩

theorem quB_push {L : List (Int × Int)} {j off n : Nat} {cs : List Int} {c v : Int} (h : quB L j cs off) (hj : j ≤ L.length) (hn : n = L.length - j) : quB (L ++ [(c, v)]) j ((cs.drop off).take n ++ [c]) 0 := by
  subst hn
  have h1 := h.1
  refine ⟨by simp; omega, fun k hk => ?_⟩
  rw [List.length_append, List.length_singleton] at hk
  have h2 := h.2 k
  simp only [List.getD_eq_getElem?_getD] at h2 ⊢
  rw [Nat.zero_add]
  by_cases e : j + k < L.length
  · rw [List.getElem?_append_left (by simp; omega), List.getElem?_append_left (by omega), List.getElem?_take, if_pos (by omega), List.getElem?_drop]
    exact h2 e
  · have e1 : j + k = L.length := by omega
    have e2 : k = ((cs.drop off).take (L.length - j)).length := by simp; omega
    rw [e1, e2]
    simp

theorem cut_app (cs : List Int) (off n : Nat) (c : Int) : ((cs.map D.int).drop off).take n ++ [D.int c] = (((cs.drop off).take n) ++ [c]).map D.int := by
  simp

theorem getD_key {L : List (Int × Int)} {j : Nat} (hj : j < L.length) : ((L.getD j (0, 0)).1, (L.getD j (0, 0)).2) ∈ L := by
  rw [getD_eq (0, 0) hj]
  exact List.getElem_mem hj

theorem parI_in {l : List PerV} (h : okFam l = true) {id c : Int} (hid : 0 ≤ findP l id) (hc : c ∈ parI l id) : 0 ≤ findP l c := by
  unfold parI at hc
  split at hc
  · cases hc
  · rename_i h0
    have := parents_in h hid h0
    simp only [List.mem_cons, List.not_mem_nil, or_false] at hc
    rcases hc with rfl | rfl
    · exact this.1
    · exact this.2.1

theorem lkI_app_some {c v : Int} {L M : List (Int × Int)} (h : lkI c L = some v) : lkI c (L ++ M) = some v := by
  induction L with
  | nil => cases h
  | cons p r ih =>
    obtain ⟨a, b⟩ := p
    simp only [List.cons_append, lkI] at h ⊢
    split
    · rename_i e
      rw [if_pos e] at h
      exact h
    · rename_i e
      rw [if_neg e] at h
      exact ih h

set_option maxRecDepth 100000 in
set_option maxHeartbeats 4000000 in
theorem steps_s (l : List PerV) (id : Int) (hok : okFam l = true) (hid : 0 ≤ findP l id) : FnS Tryz.prog 56 [] [.d (.int id), .fc 47 [.d (famD l)] []] [(12, .mp (mpI (bfsI l id)))] (.rf 12 false) := by
  have hl := okFam_len hok
  refine fns_go Tryz.func56 rfl rfl Tryz.ntmps56 Tryz.results56 (by simp only [slotsA, Nat.reduceAdd]; rfl) (by simp) rfl ?_
  repeat' (first | (with_reducible first | refine aw_seq fun K hK => ?_ | refine aw_region (by kernel_rfl) ?_ | refine aw_condk ?_ | refine aw_block ?_) | ((with_reducible refine evg ?_); simp only [go_sem, ↓reduceIte, Nat.reduceEqDiff, Nat.reduceBEq, Nat.reduceAdd, Nat.reduceMul, Nat.reduceSub, Nat.reduceLT, Nat.reduceLeDiff]) | ((with_reducible refine ev_guard ?_); (with_reducible first | refine guard_t ?_ ?_ rfl | refine guard_f ?_ ?_ rfl) <;> (intro h; (try simp only [h]); (try simp only [nrm] at h))) | ((with_reducible refine ck_split (fun h => ?_) (fun h => ?_)) <;> (try simp only [nrm] at h)) | ((with_reducible refine And.intro ?_ ?_); (first | omega | focus (simp; done) | focus (simp; omega) | focus ((repeat' (with_reducible refine And.intro ?_ ?_)) <;> first | omega | rfl | (simp only [go_sem, refsL_app, refs_dmap] <;> fail) | (simp [refsL_app, refs_dmap, AV.refsL, AV.refs] <;> omega)))) | ((with_reducible first | apply hK | (clear hK K; first | apply hK | (clear hK K; first | apply hK | (clear hK K; apply hK)))); clear hK K) | (simp (disch := omega) only [wr, drop_at, str_at, int_at, Int.reduceSub, Int.reduceAdd, Int.reduceToNat, Int.toNat_zero]) | fail)
  refine aw_loopU [6, 7, 9, 10, 11, 16, 17, 18, 19, 20, 21, 22, 23, 24, 25, 26, 27, 28, 29, 30, 31, 32, 33, 34, 35, 36, 37, 38, 39, 40, 41, 42, 43, 44, 45, 46, 47, 48, 49, 50, 51] [12, 16, 18, 27, 28, 49, 50] (fun s : (List Int × Nat) × (List (Int × Int) × Nat) => [(6, .bs 50 s.1.2 (s.2.1.length - s.2.2) 1)]) (fun s => [(50, .ds (s.1.1.map D.int)), (12, .mp (mpI s.2.1))]) (fun s => quB s.2.1 s.2.2 s.1.1 s.1.2 ∧ s.2.2 ≤ s.2.1.length ∧ okB l s.2.2 s.2.1 ∧ bfsF (parI l) (l.length + 1 - s.2.2) s.2.1 s.2.2 = bfsI l id) (fun s => l.length + 1 - s.2.2) (([id], 0), ([(id, 0)], 0)) ?_ ?_ ?_
  · refine ⟨⟨rfl, fun k hk => ?_⟩, by simp, ⟨⟨by simp, fun a ha => ?_⟩, fun p hp => ?_⟩, rfl⟩
    · simp only [List.length_singleton] at hk
      obtain rfl : k = 0 := by omega
      rfl
    · simp only [List.map_cons, List.map_nil, List.mem_singleton] at ha
      rw [ha]
      exact hid
    · rw [List.mem_singleton] at hp
      subst hp
      exact ⟨by simp, by simp⟩
  · (refine lessW_of [(16, 50)] rfl ?_ <;> simp only [St.sws, St.sw, swS, swO, AV.sw, AV.swL, OB.sw, swp, St.upd, dropS, dropOs, Less, SubS, SubO, look, lookO, List.elem, List.cons_append, List.nil_append, cond_true, cond_false, and_true, true_and, beq_self_eq_true, ↓reduceIte, Nat.reduceEqDiff, Nat.reduceBEq, Nat.reduceAdd, Nat.reduceMul, Nat.reduceSub, Nat.reduceLT, Nat.reduceLeDiff] <;> try simp)
  · rintro ⟨⟨cs, off⟩, ⟨L, j⟩⟩ ⟨g1, g2, g3, g4⟩
    simp only at g1 g2 g3 g4
    simp only [St.upd, dropS, dropOs, List.elem, List.cons_append, List.nil_append, cond_true, cond_false, beq_self_eq_true, ↓reduceIte, Nat.reduceEqDiff, Nat.reduceBEq, Nat.reduceAdd, Nat.reduceMul, Nat.reduceSub, Nat.reduceLT, Nat.reduceLeDiff]
    have hc1 := g1.1
    have hLl := okB_len g3
    by_cases hj : j < L.length
    · have hq := g1.2 0 (by omega)
      rw [Nat.add_zero, Nat.add_zero] at hq
      have hkm := getD_key hj
      obtain ⟨own, v, eo, ev⟩ : ∃ own v, (L.getD j (0, 0)).1 = own ∧ (L.getD j (0, 0)).2 = v := ⟨_, _, rfl, rfl⟩
      rw [eo] at hq
      rw [eo, ev] at hkm
      have hown : 0 ≤ findP l own := g3.1.2 own (List.mem_map.2 ⟨_, hkm, rfl⟩)
      have hv := g3.2 _ hkm
      simp only at hv
      have e1 := parents_fn l own (by omega) hown
      have hin : ∀ c ∈ parI l own, 0 ≤ findP l c := fun c hc => parI_in hok hown hc
      have hpl : (parI l own).length ≤ 2 := by unfold parI; split <;> simp
      have hlo := lkI_mem g3.1.1 hkm
      have g5 : bfsF (parI l) (l.length + 1 - (j + 1)) ((parI l own).foldl (stB (v + 1)) L) (j + 1) = bfsI l id := by
        rw [← g4, show l.length + 1 - j = (l.length + 1 - (j + 1)) + 1 from by omega, bfsF, if_pos hj, eo, ev]
      generalize hP : parI l own = P at *
      obtain ⟨Li, hLi⟩ : ∃ Li : Nat → List (Int × Int), ∀ i, Li i = (P.take i).foldl (stB (v + 1)) L := ⟨_, fun _ => rfl⟩
      have hL0 : Li 0 = L := hLi 0
      have hLn : ∀ i, i < P.length → Li (i + 1) = stB (v + 1) (Li i) (P.getD i 0) := fun i hi => by rw [hLi, hLi, foldB_next hi]
      have hLe : Li P.length = P.foldl (stB (v + 1)) L := by rw [hLi, List.take_length]
      have hLo : ∀ i, okB l (j + 1) (Li i) := fun i => by
        rw [hLi]
        exact okB_fold (by omega) (by omega) _ (okB_mono g3 (by omega)) (fun c hc => hin c (List.mem_of_mem_take hc))
      have hLk : ∀ i, lkI own (Li i) = some v := fun i => by
        obtain ⟨M, hM, _⟩ := stB_grow (v := v + 1) (P.take i) L
        rw [hLi, hM]
        exact lkI_app_some hlo
      have hLj : ∀ i, j < (Li i).length := fun i => by
        obtain ⟨M, hM, _⟩ := stB_grow (v := v + 1) (P.take i) L
        rw [hLi, hM, List.length_append]
        omega
      rw [← hLe] at g5
      clear hLi
      repeat' (first | (with_reducible first | refine aw_seq fun K hK => ?_ | refine aw_region (by kernel_rfl) ?_ | refine aw_condk ?_ | refine aw_block ?_) | ((with_reducible refine evg ?_); simp only [go_sem, ↓reduceIte, Nat.reduceEqDiff, Nat.reduceBEq, Nat.reduceAdd, Nat.reduceMul, Nat.reduceSub, Nat.reduceLT, Nat.reduceLeDiff]) | (simp (disch := omega) only [wr, drop_at, str_at, int_at, Int.reduceSub, Int.reduceAdd, Int.reduceToNat, Int.toNat_zero, int_at, hq, wr]) | ((with_reducible refine ev_call ?_); (first | (refine call_fn e1 rfl ?_)); refine k_run ?_) | ((with_reducible refine ev_guard ?_); (with_reducible first | refine guard_t ?_ ?_ rfl | refine guard_f ?_ ?_ rfl) <;> (intro h; (try simp only [h]); (try simp only [nrm] at h) <;> (try ((with_reducible exfalso); omega)))) | ((with_reducible refine ck_split (fun h => ?_) (fun h => ?_)) <;> (try simp only [nrm] at h) <;> (try ((with_reducible exfalso); omega))) | ((with_reducible refine And.intro ?_ ?_); (first | omega | focus (simp; done) | focus (simp; omega) | focus ((repeat' (with_reducible refine And.intro ?_ ?_)) <;> first | omega | rfl | (simp only [go_sem, refsL_app, refs_dmap] <;> fail) | (simp [refsL_app, refs_dmap, AV.refsL, AV.refs] <;> omega)))) | ((with_reducible first | apply hK | (clear hK K; first | apply hK | (clear hK K; first | apply hK | (clear hK K; apply hK)))); clear hK K) | fail)
      · refine aw_loopU [6, 9, 10, 11, 17, 20, 21, 23, 24, 29, 30, 31, 32, 33, 34, 35, 36, 37, 38, 39, 40, 41, 42, 43, 44, 45, 46, 47, 48, 49, 50, 51] [12, 17, 20, 21, 23, 24, 49, 50] (fun s : Nat × ((List Int × Nat) × Nat) => [(29, .d (.int s.1)), (6, .bs 50 s.2.1.2 s.2.2 1)]) (fun s => [(50, .ds (s.2.1.1.map D.int)), (12, .mp (mpI (Li s.1)))]) (fun s => s.1 ≤ P.length ∧ quB (Li s.1) (j + 1) s.2.1.1 s.2.1.2 ∧ s.2.2 = (Li s.1).length - (j + 1)) (fun s => P.length - s.1) (0, ((cs, off + 1), L.length - j - 1)) ⟨by omega, by simp only [hL0]; exact quB_pop g1 hj, by simp only [hL0]; omega⟩ ?_ ?_
        · rw [← hL0]
          (refine lessW_of [] rfl ?_ <;> simp only [St.sws, St.sw, swS, swO, AV.sw, AV.swL, OB.sw, swp, St.upd, dropS, dropOs, Less, SubS, SubO, look, lookO, List.elem, List.cons_append, List.nil_append, cond_true, cond_false, and_true, true_and, beq_self_eq_true, ↓reduceIte, Nat.reduceEqDiff, Nat.reduceBEq, Nat.reduceAdd, Nat.reduceMul, Nat.reduceSub, Nat.reduceLT, Nat.reduceLeDiff] <;> try simp)
        · rintro ⟨i, ⟨ds, of⟩, n⟩ ⟨q1, q2, q3⟩
          simp only at q1 q2 q3
          have hd1 := q2.1
          have hok1 := okB_len (hLo i)
          have hj1 := hLj i
          simp only [St.upd, dropS, dropOs, List.elem, List.cons_append, List.nil_append, cond_true, cond_false, beq_self_eq_true, ↓reduceIte, Nat.reduceEqDiff, Nat.reduceBEq, Nat.reduceAdd, Nat.reduceMul, Nat.reduceSub, Nat.reduceLT, Nat.reduceLeDiff]
          by_cases hi : i < P.length
          · obtain ⟨c, ec⟩ : ∃ c, P.getD i 0 = c := ⟨_, rfl⟩
            have hn1 := hLn i hi
            have hk1 := hLk i
            rw [ec] at hn1
            cases hlk : lkI c (Li i)
            · have hins := insI_app (v := v + 1) hlk
              rw [stB, hlk, if_neg (by simp)] at hn1
              repeat' (first | (with_reducible first | refine aw_seq fun K hK => ?_ | refine aw_region (by kernel_rfl) ?_ | refine aw_condk ?_ | refine aw_block ?_) | ((with_reducible refine evg ?_); simp only [go_sem, ↓reduceIte, Nat.reduceEqDiff, Nat.reduceBEq, Nat.reduceAdd, Nat.reduceMul, Nat.reduceSub, Nat.reduceLT, Nat.reduceLeDiff]) | (simp (disch := omega) only [wr, drop_at, str_at, int_at, Int.reduceSub, Int.reduceAdd, Int.reduceToNat, Int.toNat_zero, int_at, ec, hlk, hk1, hins, cut_app, Option.getD_some, Option.isSome_none, wr]) | ((with_reducible refine ev_guard ?_); (with_reducible first | refine guard_t ?_ ?_ rfl | refine guard_f ?_ ?_ rfl) <;> (intro h; (try simp only [h]); (try simp only [nrm] at h) <;> (try ((with_reducible exfalso); omega)))) | ((with_reducible refine ck_split (fun h => ?_) (fun h => ?_)) <;> (try simp only [nrm] at h) <;> (try ((with_reducible exfalso); omega))) | ((with_reducible refine And.intro ?_ ?_); (first | omega | focus (simp; done) | focus (simp; omega) | focus ((repeat' (with_reducible refine And.intro ?_ ?_)) <;> first | omega | rfl | (simp only [go_sem, refsL_app, refs_dmap] <;> fail) | (simp [refsL_app, refs_dmap, AV.refsL, AV.refs] <;> omega)))) | ((with_reducible first | apply hK | (clear hK K; first | apply hK | (clear hK K; first | apply hK | (clear hK K; apply hK)))); clear hK K) | fail)
              · have hn2 : n + 1 = (Li (i + 1)).length - (j + 1) := by rw [hn1, List.length_append, List.length_singleton]; omega
                refine ⟨(i + 1, ((((ds.drop of).take n) ++ [c], 0), n + 1)), ⟨by simp only; omega, by simp only [hn1]; exact quB_push q2 (by omega) q3, hn2⟩, by simp only; omega, ?_⟩
                rw [← hn1]
                (refine lessW_of [] rfl ?_ <;> simp only [St.sws, St.sw, swS, swO, AV.sw, AV.swL, OB.sw, swp, St.upd, dropS, dropOs, Less, SubS, SubO, look, lookO, List.elem, List.cons_append, List.nil_append, cond_true, cond_false, and_true, true_and, beq_self_eq_true, ↓reduceIte, Nat.reduceEqDiff, Nat.reduceBEq, Nat.reduceAdd, Nat.reduceMul, Nat.reduceSub, Nat.reduceLT, Nat.reduceLeDiff] <;> try simp)
            · rename_i x
              rw [stB, hlk, if_pos (by simp)] at hn1
              repeat' (first | (with_reducible first | refine aw_seq fun K hK => ?_ | refine aw_region (by kernel_rfl) ?_ | refine aw_condk ?_ | refine aw_block ?_) | ((with_reducible refine evg ?_); simp only [go_sem, ↓reduceIte, Nat.reduceEqDiff, Nat.reduceBEq, Nat.reduceAdd, Nat.reduceMul, Nat.reduceSub, Nat.reduceLT, Nat.reduceLeDiff]) | (simp (disch := omega) only [wr, drop_at, str_at, int_at, Int.reduceSub, Int.reduceAdd, Int.reduceToNat, Int.toNat_zero, int_at, ec, hlk, hk1, Option.getD_some, Option.isSome_some, wr]) | ((with_reducible refine ev_guard ?_); (with_reducible first | refine guard_t ?_ ?_ rfl | refine guard_f ?_ ?_ rfl) <;> (intro h; (try simp only [h]); (try simp only [nrm] at h) <;> (try ((with_reducible exfalso); omega)))) | ((with_reducible refine ck_split (fun h => ?_) (fun h => ?_)) <;> (try simp only [nrm] at h) <;> (try ((with_reducible exfalso); omega))) | ((with_reducible refine And.intro ?_ ?_); (first | omega | focus (simp; done) | focus (simp; omega) | focus ((repeat' (with_reducible refine And.intro ?_ ?_)) <;> first | omega | rfl | (simp only [go_sem, refsL_app, refs_dmap] <;> fail) | (simp [refsL_app, refs_dmap, AV.refsL, AV.refs] <;> omega)))) | ((with_reducible first | apply hK | (clear hK K; first | apply hK | (clear hK K; first | apply hK | (clear hK K; apply hK)))); clear hK K) | fail)
              · refine ⟨(i + 1, ((ds, of), n)), ⟨by simp only; omega, by simp only [hn1]; exact q2, by simp only [hn1]; exact q3⟩, by simp only; omega, ?_⟩
                simp only [hn1]
                (refine lessW_of [] rfl ?_ <;> simp only [St.sws, St.sw, swS, swO, AV.sw, AV.swL, OB.sw, swp, St.upd, dropS, dropOs, Less, SubS, SubO, look, lookO, List.elem, List.cons_append, List.nil_append, cond_true, cond_false, and_true, true_and, beq_self_eq_true, ↓reduceIte, Nat.reduceEqDiff, Nat.reduceBEq, Nat.reduceAdd, Nat.reduceMul, Nat.reduceSub, Nat.reduceLT, Nat.reduceLeDiff] <;> try simp)
          · have hiP : i = P.length := by omega
            repeat' (first | (with_reducible first | refine aw_seq fun K hK => ?_ | refine aw_region (by kernel_rfl) ?_ | refine aw_condk ?_ | refine aw_block ?_) | ((with_reducible refine evg ?_); simp only [go_sem, ↓reduceIte, Nat.reduceEqDiff, Nat.reduceBEq, Nat.reduceAdd, Nat.reduceMul, Nat.reduceSub, Nat.reduceLT, Nat.reduceLeDiff]) | (simp (disch := omega) only [wr, drop_at, str_at, int_at, Int.reduceSub, Int.reduceAdd, Int.reduceToNat, Int.toNat_zero, wr]) | ((with_reducible refine ev_guard ?_); (with_reducible first | refine guard_t ?_ ?_ rfl | refine guard_f ?_ ?_ rfl) <;> (intro h; (try simp only [h]); (try simp only [nrm] at h) <;> (try ((with_reducible exfalso); omega)))) | ((with_reducible refine ck_split (fun h => ?_) (fun h => ?_)) <;> (try simp only [nrm] at h) <;> (try ((with_reducible exfalso); omega))) | ((with_reducible refine And.intro ?_ ?_); (first | omega | focus (simp; done) | focus (simp; omega) | focus ((repeat' (with_reducible refine And.intro ?_ ?_)) <;> first | omega | rfl | (simp only [go_sem, refsL_app, refs_dmap] <;> fail) | (simp [refsL_app, refs_dmap, AV.refsL, AV.refs] <;> omega)))) | ((with_reducible first | apply hK | (clear hK K; first | apply hK | (clear hK K; first | apply hK | (clear hK K; apply hK)))); clear hK K) | fail)
            · subst hiP
              subst q3
              refine ⟨((ds, of), (Li P.length, j + 1)), ⟨q2, by simp only; omega, hLo _, g5⟩, by simp only; omega, ?_⟩
              (refine lessW_of [] rfl ?_ <;> simp only [St.sws, St.sw, swS, swO, AV.sw, AV.swL, OB.sw, swp, St.upd, dropS, dropOs, Less, SubS, SubO, look, lookO, List.elem, List.cons_append, List.nil_append, cond_true, cond_false, and_true, true_and, beq_self_eq_true, ↓reduceIte, Nat.reduceEqDiff, Nat.reduceBEq, Nat.reduceAdd, Nat.reduceMul, Nat.reduceSub, Nat.reduceLT, Nat.reduceLeDiff] <;> try simp)
    · have hjL : j = L.length := by omega
      repeat' (first | (with_reducible first | refine aw_seq fun K hK => ?_ | refine aw_region (by kernel_rfl) ?_ | refine aw_condk ?_ | refine aw_block ?_) | ((with_reducible refine evg ?_); simp only [go_sem, ↓reduceIte, Nat.reduceEqDiff, Nat.reduceBEq, Nat.reduceAdd, Nat.reduceMul, Nat.reduceSub, Nat.reduceLT, Nat.reduceLeDiff]) | (simp (disch := omega) only [wr, drop_at, str_at, int_at, Int.reduceSub, Int.reduceAdd, Int.reduceToNat, Int.toNat_zero, wr]) | ((with_reducible refine ev_guard ?_); (with_reducible first | refine guard_t ?_ ?_ rfl | refine guard_f ?_ ?_ rfl) <;> (intro h; (try simp only [h]); (try simp only [nrm] at h) <;> (try ((with_reducible exfalso); omega)))) | ((with_reducible refine ck_split (fun h => ?_) (fun h => ?_)) <;> (try simp only [nrm] at h) <;> (try ((with_reducible exfalso); omega))) | ((with_reducible refine And.intro ?_ ?_); (first | omega | focus (simp; done) | focus (simp; omega) | focus ((repeat' (with_reducible refine And.intro ?_ ?_)) <;> first | omega | rfl | (simp only [go_sem, refsL_app, refs_dmap] <;> fail) | (simp [refsL_app, refs_dmap, AV.refsL, AV.refs] <;> omega)))) | ((with_reducible first | apply hK | (clear hK K; first | apply hK | (clear hK K; first | apply hK | (clear hK K; apply hK)))); clear hK K) | fail)
      rw [← g4, bfsF_end (by omega)]
      exact ress_tmp (by simp [lensO, lookO, obCells]) ⟨rfl, trivial⟩ rfl

theorem bfsF_ok {l : List PerV} (hok : okFam l = true) : ∀ (n : Nat) (L : List (Int × Int)) (j : Nat), okB l j L → okB l (j + n) (bfsF (parI l) n L j)
  | 0, L, j, h => h
  | n + 1, L, j, h => by
    rw [bfsF]
    split
    · rename_i hj
      have hkm := getD_key hj
      have hown : 0 ≤ findP l (L.getD j (0, 0)).1 := h.1.2 _ (List.mem_map.2 ⟨_, hkm, rfl⟩)
      have hv := h.2 _ hkm
      simp only at hv
      have := bfsF_ok hok n _ (j + 1) (okB_fold (m := j + 1) (v := (L.getD j (0, 0)).2 + 1) (by omega) (by omega) (parI l (L.getD j (0, 0)).1) (okB_mono h (by omega)) (fun c hc => parI_in hok hown hc))
      exact okB_mono this (by omega)
    · exact okB_mono h (by omega)

theorem bfsI_ok {l : List PerV} {id : Int} (hok : okFam l = true) (hid : 0 ≤ findP l id) : okB l (l.length + 1) (bfsI l id) := by
  have := bfsF_ok hok (l.length + 1) [(id, 0)] 0 ⟨⟨by simp, fun a ha => by simp at ha; rw [ha]; exact hid⟩, fun p hp => by simp at hp; subst hp; simp⟩
  rwa [Nat.zero_add] at this

end Go.Proofs.YtdeobicgildamaaGreatDoor
