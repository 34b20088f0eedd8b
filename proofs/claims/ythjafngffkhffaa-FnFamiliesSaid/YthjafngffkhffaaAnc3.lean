/- The law of ancestors. -/
import Derived.Test.YthjafngffkhffaaAnc2
import Derived.Test.YthjafngffkhffaaSrt
import Derived.Test.YthjafngffkhffaaFam2
import Derived.Test.YthjafngffkhffaaInts
import Derived.WalkKit
import Derived.WalkSpells
import Derived.KernelRfl
namespace Go.Proofs.Ythjafngffkhffaa
open Go.RowKit
set_option linter.unusedVariables false
set_option linter.unusedSimpArgs false

attribute [local go_sem] PerV.d PerV.cs perL famD intL

attribute [local simp] refs_dmap perC_all perC_plains ints_plain ints_all ints_all1 ints_plain_take

theorem nodupN_le2 : ∀ (zs ids : List Nat), zs.Nodup → (∀ a ∈ zs, a ∈ ids) → zs.length ≤ ids.length
  | [], ids, _, _ => by simp
  | a :: zs, ids, hn, hs => by
    rw [List.nodup_cons] at hn
    have ha := hs a (by simp)
    have := nodupN_le2 zs (ids.erase a) hn.2 (fun b hb => (List.mem_erase_of_ne (fun (e : b = a) => hn.1 (by rw [← e]; exact hb))).2 (hs b (by simp [hb])))
    rw [List.length_erase_of_mem ha] at this
    have := List.length_pos_of_mem ha
    simp only [List.length_cons]
    omega

theorem steps_at2 (l : List PerV) (id : Int) (s : Nat) (hok : okFam l = true) (hid : 0 ≤ findP l id) : FnS Try.prog 70 [] [.d (.int id), .fc 66 [.d (famD l)] []] [(s, .mp (mpI (bfsI l id)))] (.rf s false) := by
  have h := FnS.sw 12 s (steps_s l id hok hid)
  simpa only [swO, AV.swL, AV.sw, OB.sw, swp, if_true] using h

theorem snoc_map2 (out : List Int) (c : Int) : out.map D.int ++ [D.int c] = (out ++ [c]).map D.int := by simp

def ancR (l : List PerV) (id : Int) : D := if askF l id = true then .tu [intL (ancF l 3000 id []), .bool true] else .tu [intL [], .bool false]

theorem up3000 {l : List PerV} (h : okFam l = true) {id : Int} (hid : 0 ≤ findP l id) : upG l 3000 id := ⟨hid, by have := born_in h hid; omega⟩

theorem ascL_nil (l : List PerV) : ascL l [] := ⟨List.Pairwise.nil, fun a ha => by cases ha⟩

set_option maxRecDepth 100000 in
set_option maxHeartbeats 4000000 in
theorem specAnc_fn (l : List PerV) (id : Int) (hl : l.length ≤ 1048576) : FnD Try.prog 36 [famD l, .int id] (ancR l id) := by
  have e1 := l18Asked_fn l id (by omega)
  cases g : askF l id
  · rw [g] at e1
    rw [ancR, g]
    refine fn_go Try.func36 rfl rfl Try.ntmps36 Try.results36 (by simp only [slotsOf, argAV, List.map_cons, List.map_nil, Nat.reduceAdd]; rfl) (by simp) ?_
    repeat' (first | (with_reducible first | refine aw_seq fun K hK => ?_ | refine aw_region (by kernel_rfl) ?_ | refine aw_condk ?_ | refine aw_block ?_) | ((with_reducible refine evg ?_); simp only [go_sem, ↓reduceIte, Nat.reduceEqDiff, Nat.reduceBEq, Nat.reduceAdd, Nat.reduceMul, Nat.reduceSub, Nat.reduceLT, Nat.reduceLeDiff]) | ((with_reducible refine ev_call ?_); (first | (refine call_fn e1 rfl ?_)); refine k_run ?_) | ((with_reducible refine ev_guard ?_); (with_reducible first | refine guard_t ?_ ?_ rfl | refine guard_f ?_ ?_ rfl) <;> (intro h; (try simp only [h]); (try simp only [nrm] at h))) | ((with_reducible refine ck_split (fun h => ?_) (fun h => ?_)) <;> (try simp only [nrm] at h)) | ((with_reducible refine And.intro ?_ ?_); (first | omega | focus (simp; done) | focus (simp; omega) | focus ((repeat' (with_reducible refine And.intro ?_ ?_)) <;> first | omega | rfl | (simp only [go_sem, refsL_app, refs_dmap] <;> fail) | (simp [refsL_app, refs_dmap, AV.refsL, AV.refs] <;> omega)))) | ((with_reducible first | apply hK | (clear hK K; first | apply hK | (clear hK K; first | apply hK | (clear hK K; apply hK)))); clear hK K) | (simp (disch := omega) only [wr, drop_at, str_at, int_at, Int.reduceSub, Int.reduceAdd, Int.reduceToNat, Int.toNat_zero]) | fail)
    all_goals (first | refine res_tmp rfl (by simp [D.plain, plains]) (by simp) ?_ | refine res_at rfl (by simp [D.plain, plains]) (by simp) ?_ | refine res_two rfl (by simp [D.plain, plains]) (by simp) ?_ | refine res_three rfl (by simp [D.plain, plains]) (by simp) ?_ | skip)
    all_goals rfl
  · rw [g] at e1
    obtain ⟨hok, hid⟩ := askF_iff.1 g
    have e2 := anc_call (l18Ancestors_fn l hok 3000 id [] (up3000 hok hid) (ascL_nil l)) 13 14 (by decide) (by decide) (by decide)
    simp only [List.map_nil, List.length_nil] at e2
    rw [ancR, g, if_pos rfl]
    generalize ancF l 3000 id [] = Z at *
    refine fn_go Try.func36 rfl rfl Try.ntmps36 Try.results36 (by simp only [slotsOf, argAV, List.map_cons, List.map_nil, Nat.reduceAdd]; rfl) (by simp) ?_
    repeat' (first | (with_reducible first | refine aw_seq fun K hK => ?_ | refine aw_region (by kernel_rfl) ?_ | refine aw_condk ?_ | refine aw_block ?_) | ((with_reducible refine evg ?_); simp only [go_sem, ↓reduceIte, Nat.reduceEqDiff, Nat.reduceBEq, Nat.reduceAdd, Nat.reduceMul, Nat.reduceSub, Nat.reduceLT, Nat.reduceLeDiff]) | ((with_reducible refine ev_call ?_); (first | (refine call_fn e1 rfl ?_) | (refine call_s e2 ?_ ?_ ?_ ?_ ?_; (focus rfl); (focus first | exact trivial | exact And.intro rfl trivial | exact ⟨rfl, rfl, trivial⟩ | exact ⟨rfl, rfl, rfl, trivial⟩); (focus rfl); (focus (simp [-List.map_map, apartO, dropO, killN, obCells, refs_dmap, nofnsD, AV.refs, AV.refsL, AV.nofn, AV.nofns] <;> fail)))); refine k_run ?_) | ((with_reducible refine ev_guard ?_); (with_reducible first | refine guard_t ?_ ?_ rfl | refine guard_f ?_ ?_ rfl) <;> (intro h; (try simp only [h]); (try simp only [nrm] at h))) | ((with_reducible refine ck_split (fun h => ?_) (fun h => ?_)) <;> (try simp only [nrm] at h)) | ((with_reducible refine And.intro ?_ ?_); (first | omega | focus (simp; done) | focus (simp; omega) | focus ((repeat' (with_reducible refine And.intro ?_ ?_)) <;> first | omega | rfl | (simp only [go_sem, refsL_app, refs_dmap] <;> fail) | (simp [refsL_app, refs_dmap, AV.refsL, AV.refs] <;> omega)))) | ((with_reducible first | apply hK | (clear hK K; first | apply hK | (clear hK K; first | apply hK | (clear hK K; apply hK)))); clear hK K) | (simp (disch := omega) only [wr, drop_at, str_at, int_at, Int.reduceSub, Int.reduceAdd, Int.reduceToNat, Int.toNat_zero]) | fail)
    (first | refine res_tmp rfl (by simp [D.plain, plains]) (by simp) ?_ | refine res_at rfl (by simp [D.plain, plains]) (by simp) ?_ | refine res_two rfl (by simp [D.plain, plains]) (by simp) ?_ | refine res_three rfl (by simp [D.plain, plains]) (by simp) ?_)
    simp [intL]

def outK (L : List (Int × Int)) (id : Int) : List Nat → List Int
  | [] => []
  | i :: r => if (L.getD i (0, 0)).1 = id then outK L id r else outK L id r ++ [(L.getD i (0, 0)).1]

theorem outK_mem (L : List (Int × Int)) (id : Int) : ∀ (S : List Nat) (x : Int), x ∈ outK L id S ↔ x ≠ id ∧ ∃ i ∈ S, (L.getD i (0, 0)).1 = x
  | [], x => by simp [outK]
  | i :: r, x => by
    have ih := outK_mem L id r x
    rw [outK]
    split
    · rename_i h
      rw [ih]
      constructor
      · rintro ⟨h1, k, hk, e⟩
        exact ⟨h1, k, by simp [hk], e⟩
      · rintro ⟨h1, k, hk, e⟩
        rcases List.mem_cons.1 hk with rfl | hk
        · exact absurd (e.symm.trans h) h1
        · exact ⟨h1, k, hk, e⟩
    · rename_i h
      rw [List.mem_append, ih, List.mem_singleton]
      constructor
      · rintro (⟨h1, k, hk, e⟩ | rfl)
        · exact ⟨h1, k, by simp [hk], e⟩
        · exact ⟨h, i, by simp, rfl⟩
      · rintro ⟨h1, k, hk, e⟩
        rcases List.mem_cons.1 hk with rfl | hk
        · exact .inr e.symm
        · exact .inl ⟨h1, k, hk, e⟩

theorem outK_nodup {L : List (Int × Int)} (hL : (L.map Prod.fst).Nodup) (id : Int) : ∀ S : List Nat, S.Nodup → (∀ i ∈ S, i < L.length) → (outK L id S).Nodup
  | [], _, _ => by simp [outK]
  | i :: r, hn, hs => by
    rw [List.nodup_cons] at hn
    have ih := outK_nodup hL id r hn.2 (fun k hk => hs k (by simp [hk]))
    rw [outK]
    split
    · exact ih
    · rw [List.nodup_append]
      refine ⟨ih, by simp, fun a ha b hb e => ?_⟩
      rw [List.mem_singleton] at hb
      subst hb
      subst e
      obtain ⟨_, k, hk, e⟩ := (outK_mem L id r _).1 ha
      have h1 := hs i (by simp)
      have h2 := hs k (by simp [hk])
      have hki : k ≠ i := fun e2 => hn.1 (e2 ▸ hk)
      rw [getD_eq _ h1, getD_eq _ h2] at e
      have hp := List.pairwise_iff_getElem.1 hL
      rcases Nat.lt_or_gt_of_ne hki with hlt | hlt
      · exact hp k i (by simpa using h2) (by simpa using h1) hlt (by simpa using e)
      · exact hp i k (by simpa using h1) (by simpa using h2) hlt (by simpa using e.symm)

theorem outK_len (L : List (Int × Int)) (id : Int) : ∀ S : List Nat, (outK L id S).length ≤ S.length
  | [] => by simp [outK]
  | i :: r => by
    have := outK_len L id r
    rw [outK]
    split
    · simp only [List.length_cons]; omega
    · simp only [List.length_append, List.length_cons, List.length_nil]; omega

theorem anc_srt {l : List PerV} (h : okFam l = true) {id : Int} (hid : 0 ≤ findP l id) {S : List Nat} (hn : S.Nodup) (hs : ∀ i ∈ S, i < (bfsI l id).length) (hall : ∀ i, i < (bfsI l id).length → i ∈ S) : srtI (outK (bfsI l id) id S) = ancF l 3000 id [] := by
  have hB := bfsI_ok h hid
  refine asc_ext _ _ (srtI_asc (outK_nodup hB.1.1 id S hn hs)) (ancF_asc h 3000 id [] hid (ascL_nil l)).1 fun x => ?_
  rw [srtI_mem, outK_mem, ancF_mem h 3000 id [] (up3000 h hid) (ascL_nil l) x]
  have J := bfsI_J h hid
  constructor
  · rintro ⟨hx, i, hi, rfl⟩
    obtain ⟨n, _, n2⟩ := J.a i (hs i hi)
    cases n with
    | zero => exact absurd n2 hx
    | succ n => exact .inr ⟨n, n2⟩
  · rintro (hx | ⟨m, hm⟩)
    · cases hx
    · refine ⟨fun e => ?_, ?_⟩
      · subst e
        have := (pth_in h hid _ _ hm).2
        omega
      · obtain ⟨v, v1, _⟩ := J.done (m + 1) x hm
        obtain ⟨i, i1, i2⟩ := idx_of_lk v1
        exact ⟨i, hall i i1, by rw [i2]⟩

set_option maxRecDepth 100000 in
set_option maxHeartbeats 4000000 in
theorem implAnc0_fn (l : List PerV) (id : Int) (hl : l.length ≤ 1048576) (h : askF l id = false) : FnD Try.prog 37 [famD l, .int id] (.tu [.v (.slice none 0 0), .bool false]) := by
  have e1 := has_fn l id (by omega)
  rw [h] at e1
  refine fn_go Try.func37 rfl rfl Try.ntmps37 Try.results37 (by simp only [slotsOf, argAV, List.map_cons, List.map_nil, Nat.reduceAdd]; rfl) (by simp) ?_
  repeat' (first | (with_reducible first | refine aw_seq fun K hK => ?_ | refine aw_region (by kernel_rfl) ?_ | refine aw_condk ?_ | refine aw_block ?_) | ((with_reducible refine evg ?_); simp only [go_sem, ↓reduceIte, Nat.reduceEqDiff, Nat.reduceBEq, Nat.reduceAdd, Nat.reduceMul, Nat.reduceSub, Nat.reduceLT, Nat.reduceLeDiff]) | ((with_reducible refine ev_call ?_); (first | (refine call_fn e1 rfl ?_)); refine k_run ?_) | ((with_reducible refine ev_guard ?_); (with_reducible first | refine guard_t ?_ ?_ rfl | refine guard_f ?_ ?_ rfl) <;> (intro h; (try simp only [h]); (try simp only [nrm] at h))) | ((with_reducible refine ck_split (fun h => ?_) (fun h => ?_)) <;> (try simp only [nrm] at h)) | ((with_reducible refine And.intro ?_ ?_); (first | omega | focus (simp; done) | focus (simp; omega) | focus ((repeat' (with_reducible refine And.intro ?_ ?_)) <;> first | omega | rfl | (simp only [go_sem, refsL_app, refs_dmap] <;> fail) | (simp [refsL_app, refs_dmap, AV.refsL, AV.refs] <;> omega)))) | ((with_reducible first | apply hK | (clear hK K; first | apply hK | (clear hK K; first | apply hK | (clear hK K; apply hK)))); clear hK K) | (simp (disch := omega) only [wr, drop_at, str_at, int_at, Int.reduceSub, Int.reduceAdd, Int.reduceToNat, Int.toNat_zero]) | fail)
  (first | refine res_tmp rfl (by simp [D.plain, plains]) (by simp) ?_ | refine res_at rfl (by simp [D.plain, plains]) (by simp) ?_ | refine res_two rfl (by simp [D.plain, plains]) (by simp) ?_ | refine res_three rfl (by simp [D.plain, plains]) (by simp) ?_)
  rfl

set_option maxRecDepth 100000 in
set_option maxHeartbeats 4000000 in
theorem implAnc1_fn (l : List PerV) (id : Int) (hl : l.length ≤ 1048576) (h : askF l id = true) : FnD Try.prog 37 [famD l, .int id] (.tu [intL (ancF l 3000 id []), .bool true]) := by
  have e1 := has_fn l id (by omega)
  rw [h] at e1
  obtain ⟨hok, hid⟩ := askF_iff.1 h
  have e2 := steps_at2 l id 16 hok hid
  have hsrt := fun (S : List Nat) => anc_srt (S := S) hok hid
  have hBl := okB_len (bfsI_ok hok hid)
  have hl16 := okFam_len hok
  generalize ancF l 3000 id [] = Z at *
  generalize bfsI l id = La at *
  refine fn_go Try.func37 rfl rfl Try.ntmps37 Try.results37 (by simp only [slotsOf, argAV, List.map_cons, List.map_nil, Nat.reduceAdd]; rfl) (by simp) ?_
  repeat' (first | (with_reducible first | refine aw_seq fun K hK => ?_ | refine aw_region (by kernel_rfl) ?_ | refine aw_condk ?_ | refine aw_block ?_) | ((with_reducible refine evg ?_); simp only [go_sem, ↓reduceIte, Nat.reduceEqDiff, Nat.reduceBEq, Nat.reduceAdd, Nat.reduceMul, Nat.reduceSub, Nat.reduceLT, Nat.reduceLeDiff]) | ((with_reducible refine ev_call ?_); (first | (refine call_fn e1 rfl ?_) | (refine call_s e2 ?_ ?_ ?_ ?_ ?_; (focus rfl); (focus first | exact trivial | exact And.intro rfl trivial | exact ⟨rfl, rfl, trivial⟩ | exact ⟨rfl, rfl, rfl, trivial⟩); (focus rfl); (focus (simp [-List.map_map, apartO, dropO, killN, obCells, refs_dmap, nofnsD, AV.refs, AV.refsL, AV.nofn, AV.nofns] <;> fail)))); refine k_run ?_) | ((with_reducible refine ev_guard ?_); (with_reducible first | refine guard_t ?_ ?_ rfl | refine guard_f ?_ ?_ rfl) <;> (intro h; (try simp only [h]); (try simp only [nrm] at h))) | ((with_reducible refine ck_split (fun h => ?_) (fun h => ?_)) <;> (try simp only [nrm] at h)) | ((with_reducible refine And.intro ?_ ?_); (first | omega | focus (simp; done) | focus (simp; omega) | focus ((repeat' (with_reducible refine And.intro ?_ ?_)) <;> first | omega | rfl | (simp only [go_sem, refsL_app, refs_dmap] <;> fail) | (simp [refsL_app, refs_dmap, AV.refsL, AV.refs] <;> omega)))) | ((with_reducible first | apply hK | (clear hK K; first | apply hK | (clear hK K; first | apply hK | (clear hK K; apply hK)))); clear hK K) | (simp (disch := omega) only [wr, drop_at, str_at, int_at, Int.reduceSub, Int.reduceAdd, Int.reduceToNat, Int.toNat_zero]) | fail)
  refine aw_loopU [6, 7, 12, 18, 19, 20, 21, 22, 23, 24, 25, 26, 27, 28] [12, 17, 27, 28] (fun s : List Nat => [(6, .bs 28 0 (outK La id s).length 1)]) (fun s => [(28, .ds ((outK La id s).map D.int)), (17, .it 16 La.length s)]) (fun s => s.Nodup ∧ ∀ i ∈ s, i < La.length) (fun s => La.length - s.length) [] ⟨by simp, by simp⟩ ?_ ?_
  · (refine lessW_of [(12, 28)] rfl ?_ <;> simp only [St.sws, St.sw, swS, swO, AV.sw, AV.swL, OB.sw, swp, St.upd, dropS, dropOs, Less, SubS, SubO, look, lookO, List.elem, List.cons_append, List.nil_append, cond_true, cond_false, and_true, true_and, beq_self_eq_true, ↓reduceIte, Nat.reduceEqDiff, Nat.reduceBEq, Nat.reduceAdd, Nat.reduceMul, Nat.reduceSub, Nat.reduceLT, Nat.reduceLeDiff] <;> try simp)
    try exact ⟨rfl, rfl⟩
  · rintro S ⟨g1, g2⟩
    have hsl := nodupN_le2 S (List.range La.length) g1 (fun i hi => List.mem_range.2 (g2 i hi))
    rw [List.length_range] at hsl
    have hol := outK_len La id S
    have hstep : ∀ i, outK La id (i :: S) = if (La.getD i (0, 0)).1 = id then outK La id S else outK La id S ++ [(La.getD i (0, 0)).1] := fun _ => rfl
    have hfin := hsrt S g1 g2
    have e3 := sort_s 28 (outK La id S) (by omega)
    have hsn := srtI_len (outK La id S)
    generalize hO : outK La id S = O at *
    simp only [St.upd, dropS, dropOs, List.elem, List.cons_append, List.nil_append, cond_true, cond_false, beq_self_eq_true, ↓reduceIte, Nat.reduceEqDiff, Nat.reduceBEq, Nat.reduceAdd, Nat.reduceMul, Nat.reduceSub, Nat.reduceLT, Nat.reduceLeDiff]
    repeat' (first | (with_reducible first | refine aw_seq fun K hK => ?_ | refine aw_region (by kernel_rfl) ?_ | refine aw_condk ?_ | refine aw_block ?_) | ((with_reducible refine evg ?_); simp only [go_sem, ↓reduceIte, Nat.reduceEqDiff, Nat.reduceBEq, Nat.reduceAdd, Nat.reduceMul, Nat.reduceSub, Nat.reduceLT, Nat.reduceLeDiff]) | (simp (disch := omega) only [wr, drop_at, str_at, int_at, Int.reduceSub, Int.reduceAdd, Int.reduceToNat, Int.toNat_zero, mpI_get hp, ints_all1, wr]) | ((with_reducible refine ev_nxt ?_); refine next_ints rfl rfl rfl (fun i p hp hi => k_run ?_) (fun hall => k_run ?_)) | ((with_reducible refine ev_call ?_); (first | (refine call_s e3 ?_ ?_ ?_ ?_ ?_; (focus rfl); (focus first | exact trivial | exact And.intro rfl trivial | exact ⟨rfl, rfl, trivial⟩ | exact ⟨rfl, rfl, rfl, trivial⟩); (focus rfl); (focus (simp [-List.map_map, apartO, dropO, killN, obCells, refs_dmap, nofnsD, AV.refs, AV.refsL, AV.nofn, AV.nofns] <;> fail)))); refine k_run ?_) | ((with_reducible refine ev_guard ?_); (with_reducible first | refine guard_t ?_ ?_ rfl | refine guard_f ?_ ?_ rfl) <;> (intro h; (try simp only [h]); (try simp only [nrm] at h) <;> (try ((with_reducible exfalso); omega)))) | ((with_reducible refine ck_split (fun h => ?_) (fun h => ?_)) <;> (try simp only [nrm] at h) <;> (try ((with_reducible exfalso); omega))) | ((with_reducible refine And.intro ?_ ?_); (first | omega | focus (simp; done) | focus (simp; omega) | focus ((repeat' (with_reducible refine And.intro ?_ ?_)) <;> first | omega | rfl | (simp only [go_sem, refsL_app, refs_dmap] <;> fail) | (simp [refsL_app, refs_dmap, AV.refsL, AV.refs] <;> omega)))) | ((with_reducible first | apply hK | (clear hK K; first | apply hK | (clear hK K; first | apply hK | (clear hK K; apply hK)))); clear hK K) | fail)
    any_goals (
      have h9 : La.getD i (0, 0) = p := by rw [List.getD_eq_getElem?_getD, hp]; rfl
      have h10 := (List.getElem?_eq_some_iff.1 hp).1
      have h11 := nodupN_le2 (i :: S) (List.range La.length) (List.nodup_cons.2 ⟨hi, g1⟩) (fun k hk => by
        rcases List.mem_cons.1 hk with rfl | hk
        · exact List.mem_range.2 h10
        · exact List.mem_range.2 (g2 k hk))
      rw [List.length_range, List.length_cons] at h11
      refine ⟨i :: S, ⟨List.nodup_cons.2 ⟨hi, g1⟩, fun k hk => by
        rcases List.mem_cons.1 hk with rfl | hk
        · exact h10
        · exact g2 k hk⟩, by simp only [List.length_cons]; omega, ?_⟩
      have hk := hstep i
      rw [h9] at hk
      by_cases hpi : p.1 = id
      · rw [if_pos hpi] at hk
        first
          | (rw [hk]; (refine lessW_of [] rfl ?_ <;> simp only [St.sws, St.sw, swS, swO, AV.sw, AV.swL, OB.sw, swp, St.upd, dropS, dropOs, Less, SubS, SubO, look, lookO, List.elem, List.cons_append, List.nil_append, cond_true, cond_false, and_true, true_and, beq_self_eq_true, ↓reduceIte, Nat.reduceEqDiff, Nat.reduceBEq, Nat.reduceAdd, Nat.reduceMul, Nat.reduceSub, Nat.reduceLT, Nat.reduceLeDiff] <;> try simp); done)
          | (exfalso; exact absurd hpi (by assumption))
      · rw [if_neg hpi] at hk
        first
          | (rw [hk, snoc_map2]; (refine lessW_of [] rfl ?_ <;> simp only [St.sws, St.sw, swS, swO, AV.sw, AV.swL, OB.sw, swp, St.upd, dropS, dropOs, Less, SubS, SubO, look, lookO, List.elem, List.cons_append, List.nil_append, cond_true, cond_false, and_true, true_and, beq_self_eq_true, ↓reduceIte, Nat.reduceEqDiff, Nat.reduceBEq, Nat.reduceAdd, Nat.reduceMul, Nat.reduceSub, Nat.reduceLT, Nat.reduceLeDiff] <;> try simp); done)
          | (rw [hk, snoc_map2]; (refine lessW_of [] rfl ?_ <;> simp only [St.sws, St.sw, swS, swO, AV.sw, AV.swL, OB.sw, swp, St.upd, dropS, dropOs, Less, SubS, SubO, look, lookO, List.elem, List.cons_append, List.nil_append, cond_true, cond_false, and_true, true_and, beq_self_eq_true, ↓reduceIte, Nat.reduceEqDiff, Nat.reduceBEq, Nat.reduceAdd, Nat.reduceMul, Nat.reduceSub, Nat.reduceLT, Nat.reduceLeDiff] <;> try simp); simp; done)
          | (rw [hk, snoc_map2]; (refine lessW_of [] rfl ?_ <;> simp only [St.sws, St.sw, swS, swO, AV.sw, AV.swL, OB.sw, swp, St.upd, dropS, dropOs, Less, SubS, SubO, look, lookO, List.elem, List.cons_append, List.nil_append, cond_true, cond_false, and_true, true_and, beq_self_eq_true, ↓reduceIte, Nat.reduceEqDiff, Nat.reduceBEq, Nat.reduceAdd, Nat.reduceMul, Nat.reduceSub, Nat.reduceLT, Nat.reduceLeDiff] <;> try simp); omega)
          | (exfalso; exact absurd (by assumption) hpi))
    all_goals
      (first | refine res_tmp rfl (by simp [D.plain, plains]) (by simp) ?_ | refine res_at rfl (by simp [D.plain, plains]) (by simp) ?_ | refine res_two rfl (by simp [D.plain, plains]) (by simp) ?_ | refine res_three rfl (by simp [D.plain, plains]) (by simp) ?_)
      rw [← hfin hall, ← hsn]
      simp [intL]

theorem implAnc_fn (l : List PerV) (id : Int) (hl : l.length ≤ 1048576) : FnD Try.prog 37 [famD l, .int id] (ancR l id) := by
  cases g : askF l id
  · rw [ancR, g]
    exact fnd_le (implAnc0_fn l id hl g) (leD_tu (lesD_cons leD_nil (lesD_refl _)))
  · rw [ancR, g]
    exact implAnc1_fn l id hl g

end Go.Proofs.Ythjafngffkhffaa
