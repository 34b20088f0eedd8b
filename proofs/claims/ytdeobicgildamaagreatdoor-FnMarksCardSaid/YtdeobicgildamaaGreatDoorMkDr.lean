/- Draws of marks. -/
import Derived.Test.YtdeobicgildamaaGreatDoorCur
import Derived.Test.YtdeobicgildamaaGreatDoorMtW
import Derived.Test.YtdeobicgildamaaGreatDoorMkX
import Derived.WalkKit
import Derived.WalkSpells
import Derived.KernelRfl
namespace Go.Proofs.YtdeobicgildamaaGreatDoor
open Go.RowKit
set_option linter.unusedVariables false
set_option linter.unusedSimpArgs false

attribute [local go_sem] curO codL intL

attribute [local simp] refs_dmap ints_plain ints_all ints_all1 ints_plain_take curO codL

theorem zeroM_cur : zeroV Tryz.prog 44 = [Value.slice none 0 0, Value.int IntKind.i64 0, Value.int IntKind.u64 0] := by kernel_rfl

attribute [local go_sem] zeroM_cur

def curM : CurV := ⟨0, 0⟩

theorem curM_ok (n : Nat) : okCur n curM := ⟨Int.le_refl _, Int.natCast_nonneg _⟩

structure MkS where
  c : CurV
  l : List Int

def mlN (bs : List Int) : Nat → MkS → MkS
  | 0, s => s
  | n + 1, s => mlN bs n ⟨pickC bs 7 s.c, s.l ++ [1 + pickV bs 7 s.c]⟩

def mlM (bs : List Int) : Nat → MkS → MkS
  | 0, s => ⟨pickC bs 2 s.c, s.l⟩
  | n + 1, s => if (s.l.length : Int) < 6 + pickV bs 2 s.c then mlM bs n ⟨pickC bs 2 s.c, s.l ++ [1 + ((7 - n : Nat) : Int).tmod 7]⟩ else ⟨pickC bs 2 s.c, s.l⟩

theorem mlN_ok {bs : List Int} (hb : okCod bs) : ∀ (k n : Nat) (s : MkS), okCur n s.c → okCur (n + 2 * k) (mlN bs k s).c ∧ (mlN bs k s).l.length = s.l.length + k ∧ ((∀ m ∈ s.l, 1 ≤ m ∧ m ≤ 7) → ∀ m ∈ (mlN bs k s).l, 1 ≤ m ∧ m ≤ 7)
  | 0, _, _, h => ⟨h, rfl, fun g => g⟩
  | k + 1, n, s, h => by
    have h1 := okCur_pick (bs := bs) (n := 7) h
    have p1 := pickV_le hb (n := 7) h.1
    have p2 := p1.2 (by decide)
    obtain ⟨i1, i2, i3⟩ := mlN_ok hb k (n + 2) ⟨pickC bs 7 s.c, s.l ++ [1 + pickV bs 7 s.c]⟩ h1
    rw [mlN]
    refine ⟨okCur_mono i1 (by omega), by rw [i2]; simp only [List.length_append, List.length_singleton]; omega, fun g => i3 fun m hm => ?_⟩
    rcases List.mem_append.1 hm with q | q
    · exact g m q
    · rw [List.mem_singleton.1 q]
      omega

theorem mlM_len {bs : List Int} : ∀ (k : Nat) (s : MkS), (mlM bs k s).l.length ≤ s.l.length + k
  | 0, _ => Nat.le_refl _
  | k + 1, s => by
    rw [mlM]
    split
    · have := mlM_len (bs := bs) k ⟨pickC bs 2 s.c, s.l ++ [1 + ((7 - k : Nat) : Int).tmod 7]⟩
      simp only [List.length_append, List.length_singleton] at this
      omega
    · exact Nat.le_add_right _ _

def mk0 (bs : List Int) : MkS := mlN bs (pickV bs 5 curM).toNat ⟨pickC bs 5 curM, []⟩

def mk1 (bs : List Int) (s : MkS) : MkS := if oneV bs 10 s.c = true then ⟨pickC bs 3 (pickC bs 10 s.c), s.l ++ [amV bs [0, 8, 7] 3 (pickC bs 10 s.c)]⟩ else ⟨pickC bs 10 s.c, s.l⟩

def mk2 (bs : List Int) (s : MkS) : MkS := if oneV bs 16 s.c = true then mlM bs 8 ⟨pickC bs 16 s.c, s.l⟩ else ⟨pickC bs 16 s.c, s.l⟩

def mkT (bs : List Int) : List Int := (mk2 bs (mk1 bs (mk0 bs))).l

theorem mk0_ok {bs : List Int} (hb : okCod bs) : okCur 20 (mk0 bs).c ∧ (mk0 bs).l.length ≤ 4 ∧ okMarks (mk0 bs).l = true := by
  have p1 := pickV_le hb (n := 5) (curM_ok 0).1
  have p2 := p1.2 (by decide)
  have q1 := okCur_pick (bs := bs) (n := 5) (curM_ok 0)
  obtain ⟨i1, i2, i3⟩ := mlN_ok hb (pickV bs 5 curM).toNat 2 ⟨pickC bs 5 curM, []⟩ q1
  have i3 := i3 (by simp)
  simp only [List.length_nil] at i2
  have i4 : (mk0 bs).l.length = 0 + (pickV bs 5 curM).toNat := i2
  refine ⟨okCur_mono i1 (by omega), by omega, ?_⟩
  rw [okMarks, Bool.and_eq_true, List.all_eq_true, decide_eq_true_eq]
  exact ⟨fun m hm => inR_iff.2 (i3 m hm), by omega⟩

theorem mk1_ok {bs : List Int} {n : Nat} {s : MkS} (h : okCur n s.c) : okCur (n + 4) (mk1 bs s).c ∧ (mk1 bs s).l.length ≤ s.l.length + 1 := by
  have q1 := okCur_pick (bs := bs) (n := 10) h
  have q2 := okCur_pick (bs := bs) (n := 3) q1
  unfold mk1
  split
  · exact ⟨q2, by simp⟩
  · exact ⟨okCur_mono q1 (by omega), by simp⟩

theorem mkT_len {bs : List Int} (hb : okCod bs) : (mkT bs).length ≤ 13 := by
  obtain ⟨h1, h2, _⟩ := mk0_ok hb
  obtain ⟨h3, h4⟩ := mk1_ok (bs := bs) h1
  unfold mkT mk2
  split
  · have := mlM_len (bs := bs) 8 ⟨pickC bs 16 (mk1 bs (mk0 bs)).c, (mk1 bs (mk0 bs)).l⟩
    simp only at this
    omega
  · simp only
    omega

theorem mlk_snoc (l : List Int) (v : Int) : (l.map D.int).take l.length ++ [D.int v] = (l ++ [v]).map D.int := by
  rw [List.take_of_length_le (by simp)]
  simp

set_option maxRecDepth 100000 in
set_option maxHeartbeats 4000000 in
theorem drawMT_fn (bs : List Int) (hb : okCod bs) : FnD Tryz.prog 5 [codL bs] (intL (mkT bs)) := by
  have a1 := pick_at 9 bs 5 curM hb (curM_ok _)
  have p1 := pickV_le hb (n := 5) (curM_ok 0).1
  have p2 := p1.2 (by decide)
  have q1 := okCur_pick (bs := bs) (n := 5) (curM_ok 0)
  have hA : mk0 bs = mlN bs (pickV bs 5 curM).toNat ⟨pickC bs 5 curM, []⟩ := rfl
  obtain ⟨k1, k2, _⟩ := mk0_ok hb
  have hT : mkT bs = (mk2 bs (mk1 bs (mk0 bs))).l := rfl
  rw [hT]
  clear hT
  generalize mk0 bs = A at *
  generalize pickV bs 5 curM = n0 at *
  generalize pickC bs 5 curM = c1 at *
  obtain ⟨n, hn⟩ := Int.eq_ofNat_of_zero_le p1.1
  subst hn
  rw [Int.toNat_natCast] at hA
  have b1 := one_at 9 bs 10 A.c hb (okCur_mono k1 (by omega))
  have r1 := okCur_pick (bs := bs) (n := 10) k1
  have b2 := among_at 9 27 bs [0, 8, 7] 3 (pickC bs 10 A.c) hb (okCur_mono r1 (by omega)) (by decide) (by decide) (by decide) (by decide) (by decide) (by decide)
  obtain ⟨k3, k4⟩ := mk1_ok (bs := bs) k1
  have hB : mk1 bs A = if oneV bs 10 A.c = true then ⟨pickC bs 3 (pickC bs 10 A.c), A.l ++ [amV bs [0, 8, 7] 3 (pickC bs 10 A.c)]⟩ else ⟨pickC bs 10 A.c, A.l⟩ := rfl
  generalize mk1 bs A = B at *
  have b3 := one_at 9 bs 16 B.c hb (okCur_mono k3 (by omega))
  have r3 := okCur_pick (bs := bs) (n := 16) k3
  have hC : mk2 bs B = if oneV bs 16 B.c = true then mlM bs 8 ⟨pickC bs 16 B.c, B.l⟩ else ⟨pickC bs 16 B.c, B.l⟩ := rfl
  generalize mk2 bs B = C at *
  generalize amV bs [0, 8, 7] 3 (pickC bs 10 A.c) = v at *
  generalize pickC bs 3 (pickC bs 10 A.c) = c3 at *
  generalize pickC bs 10 A.c = c2 at *
  generalize oneV bs 10 A.c = o1 at *
  generalize pickC bs 16 B.c = c4 at *
  generalize oneV bs 16 B.c = o2 at *
  simp only [curM] at *
  simp only [List.map] at b2
  refine fn_go Tryz.func5 rfl rfl Tryz.ntmps5 Tryz.results5 (by simp only [slotsOf, argAV, List.map_cons, List.map_nil, Nat.reduceAdd]; rfl) (by simp) ?_
  repeat' (first | (with_reducible first | refine aw_seq fun K hK => ?_ | refine aw_region (by kernel_rfl) ?_ | refine aw_condk ?_ | refine aw_block ?_) | ((with_reducible refine evg ?_); simp only [go_sem, ↓reduceIte, Nat.reduceEqDiff, Nat.reduceBEq, Nat.reduceAdd, Nat.reduceMul, Nat.reduceSub, Nat.reduceLT, Nat.reduceLeDiff]) | (simp (disch := omega) only [wr, drop_at, str_at, int_at, Int.reduceSub, Int.reduceAdd, Int.reduceToNat, Int.toNat_zero, wr]) | ((with_reducible refine ev_call ?_); (first | (refine call_s a1 ?_ ?_ ?_ ?_ ?_; (focus rfl); (focus first | exact trivial | exact And.intro rfl trivial | exact ⟨rfl, rfl, trivial⟩ | exact ⟨rfl, rfl, rfl, trivial⟩); (focus rfl); (focus (simp [-List.map_map, apartO, dropO, killN, obCells, refs_dmap, nofnsD, AV.refs, AV.refsL, AV.nofn, AV.nofns] <;> fail)))); refine k_run ?_) | ((with_reducible refine ev_guard ?_); (with_reducible first | refine guard_t ?_ ?_ rfl | refine guard_f ?_ ?_ rfl) <;> (intro h; (try simp only [h]); (try simp only [nrm] at h) <;> (try ((with_reducible exfalso); omega)))) | ((with_reducible refine ck_split (fun h => ?_) (fun h => ?_)) <;> (try simp only [nrm] at h) <;> (try ((with_reducible exfalso); omega))) | ((with_reducible refine And.intro ?_ ?_); (first | omega | focus (simp; done) | focus (simp; omega) | focus ((repeat' (with_reducible refine And.intro ?_ ?_)) <;> first | omega | rfl | (simp only [go_sem, refsL_app, refs_dmap] <;> fail) | (simp [refsL_app, refs_dmap, AV.refsL, AV.refs] <;> omega)))) | ((with_reducible first | apply hK | (clear hK K; first | apply hK | (clear hK K; first | apply hK | (clear hK K; apply hK)))); clear hK K) | fail)
  refine aw_loopU [4, 5, 10, 13, 14, 15, 16, 17, 18, 19, 20, 21, 22] [9, 10, 19, 21, 22] (fun s : Nat × MkS => [(5, .d (.int s.1)), (4, .bs 22 0 s.2.l.length 1)]) (fun s => [(22, .ds (s.2.l.map D.int)), (9, curO bs s.2.c)]) (fun s => mlN bs s.1 s.2 = A ∧ s.1 + s.2.l.length ≤ 4 ∧ okCur (2 + 2 * s.2.l.length) s.2.c) (fun s => s.1) (n, ⟨c1, []⟩) ⟨hA.symm, by simp only [List.length_nil]; omega, okCur_mono q1 (by simp only [List.length_nil]; omega)⟩ ?_ ?_
  · (refine lessW_of [(10, 22)] rfl ?_ <;> simp only [St.sws, St.sw, swS, swO, AV.sw, AV.swL, OB.sw, swp, St.upd, dropS, dropOs, Less, SubS, SubO, look, lookO, List.elem, List.cons_append, List.nil_append, cond_true, cond_false, and_true, true_and, beq_self_eq_true, ↓reduceIte, Nat.reduceEqDiff, Nat.reduceBEq, Nat.reduceAdd, Nat.reduceMul, Nat.reduceSub, Nat.reduceLT, Nat.reduceLeDiff] <;> try simp)
    all_goals (first | rfl | omega | (simp; done) | trace_state)
  · rintro ⟨k, ⟨c, l⟩⟩ ⟨g1, g2, g3⟩
    simp only at g1 g2 g3
    simp only [St.upd, dropS, dropOs, List.elem, List.cons_append, List.nil_append, cond_true, cond_false, beq_self_eq_true, ↓reduceIte, Nat.reduceEqDiff, Nat.reduceBEq, Nat.reduceAdd, Nat.reduceMul, Nat.reduceSub, Nat.reduceLT, Nat.reduceLeDiff]
    cases k with
    | succ k =>
      rw [mlN] at g1
      simp only at g1
      have u1 := pickV_le hb (n := 7) g3.1
      have u2 := u1.2 (by decide)
      have w1 := okCur_pick (bs := bs) (n := 7) g3
      have d1 := pick_at 9 bs 7 c hb (okCur_mono g3 (by omega))
      generalize pickV bs 7 c = x at *
      generalize pickC bs 7 c = cd at *
      have hs := mlk_snoc l (1 + x)
      repeat' (first | (with_reducible first | refine aw_seq fun K hK => ?_ | refine aw_region (by kernel_rfl) ?_ | refine aw_condk ?_ | refine aw_block ?_) | ((with_reducible refine evg ?_); simp only [go_sem, ↓reduceIte, Nat.reduceEqDiff, Nat.reduceBEq, Nat.reduceAdd, Nat.reduceMul, Nat.reduceSub, Nat.reduceLT, Nat.reduceLeDiff]) | (simp (disch := omega) only [wr, drop_at, str_at, int_at, Int.reduceSub, Int.reduceAdd, Int.reduceToNat, Int.toNat_zero, hs, wr]) | ((with_reducible refine ev_call ?_); (first | (refine call_s d1 ?_ ?_ ?_ ?_ ?_; (focus rfl); (focus first | exact trivial | exact And.intro rfl trivial | exact ⟨rfl, rfl, trivial⟩ | exact ⟨rfl, rfl, rfl, trivial⟩); (focus rfl); (focus (simp [-List.map_map, apartO, dropO, killN, obCells, refs_dmap, nofnsD, AV.refs, AV.refsL, AV.nofn, AV.nofns] <;> fail)))); refine k_run ?_) | ((with_reducible refine ev_guard ?_); (with_reducible first | refine guard_t ?_ ?_ rfl | refine guard_f ?_ ?_ rfl) <;> (intro h; (try simp only [h]); (try simp only [nrm] at h) <;> (try ((with_reducible exfalso); omega)))) | ((with_reducible refine ck_split (fun h => ?_) (fun h => ?_)) <;> (try simp only [nrm] at h) <;> (try ((with_reducible exfalso); omega))) | ((with_reducible refine And.intro ?_ ?_); (first | omega | focus (simp; done) | focus (simp; omega) | focus ((repeat' (with_reducible refine And.intro ?_ ?_)) <;> first | omega | rfl | (simp only [go_sem, refsL_app, refs_dmap] <;> fail) | (simp [refsL_app, refs_dmap, AV.refsL, AV.refs] <;> omega)))) | ((with_reducible first | apply hK | (clear hK K; first | apply hK | (clear hK K; first | apply hK | (clear hK K; apply hK)))); clear hK K) | fail)
      all_goals
        refine ⟨(k, ⟨cd, l ++ [1 + x]⟩), ⟨g1, by simp only [List.length_append, List.length_singleton]; omega, okCur_mono w1 (by simp only [List.length_append, List.length_singleton]; omega)⟩, by simp only; omega, ?_⟩
        simp only [List.length_append, List.length_singleton]
        (refine lessW_of [] rfl ?_ <;> simp only [St.sws, St.sw, swS, swO, AV.sw, AV.swL, OB.sw, swp, St.upd, dropS, dropOs, Less, SubS, SubO, look, lookO, List.elem, List.cons_append, List.nil_append, cond_true, cond_false, and_true, true_and, beq_self_eq_true, ↓reduceIte, Nat.reduceEqDiff, Nat.reduceBEq, Nat.reduceAdd, Nat.reduceMul, Nat.reduceSub, Nat.reduceLT, Nat.reduceLeDiff] <;> try simp)
        all_goals (first | rfl | omega | (simp; done) | trace_state)
    | zero =>
      rw [mlN] at g1
      subst g1
      simp only at hB b1 k2 k4
      have hs := mlk_snoc l v
      cases o1
      · rw [if_neg (by simp)] at hB
        subst hB
        simp only at hC b3 r3 k4
        cases o2
        · rw [if_neg (by simp)] at hC
          subst hC
          repeat' (first | (with_reducible first | refine aw_seq fun K hK => ?_ | refine aw_region (by kernel_rfl) ?_ | refine aw_condk ?_ | refine aw_block ?_) | ((with_reducible refine evg ?_); simp only [go_sem, ↓reduceIte, Nat.reduceEqDiff, Nat.reduceBEq, Nat.reduceAdd, Nat.reduceMul, Nat.reduceSub, Nat.reduceLT, Nat.reduceLeDiff]) | (simp (disch := omega) only [wr, drop_at, str_at, int_at, Int.reduceSub, Int.reduceAdd, Int.reduceToNat, Int.toNat_zero, wr]) | ((with_reducible refine ev_call ?_); (first | (refine call_s b1 ?_ ?_ ?_ ?_ ?_; (focus rfl); (focus first | exact trivial | exact And.intro rfl trivial | exact ⟨rfl, rfl, trivial⟩ | exact ⟨rfl, rfl, rfl, trivial⟩); (focus rfl); (focus (simp [-List.map_map, apartO, dropO, killN, obCells, refs_dmap, nofnsD, AV.refs, AV.refsL, AV.nofn, AV.nofns] <;> fail))) | (refine call_s b3 ?_ ?_ ?_ ?_ ?_; (focus rfl); (focus first | exact trivial | exact And.intro rfl trivial | exact ⟨rfl, rfl, trivial⟩ | exact ⟨rfl, rfl, rfl, trivial⟩); (focus rfl); (focus (simp [-List.map_map, apartO, dropO, killN, obCells, refs_dmap, nofnsD, AV.refs, AV.refsL, AV.nofn, AV.nofns] <;> fail)))); refine k_run ?_) | ((with_reducible refine ev_guard ?_); (with_reducible first | refine guard_t ?_ ?_ rfl | refine guard_f ?_ ?_ rfl) <;> (intro h; (try simp only [h]); (try simp only [nrm] at h) <;> (try ((with_reducible exfalso); omega)))) | ((with_reducible refine ck_split (fun h => ?_) (fun h => ?_)) <;> (try simp only [nrm] at h) <;> (try ((with_reducible exfalso); omega))) | ((with_reducible refine And.intro ?_ ?_); (first | omega | focus (simp; done) | focus (simp; omega) | focus ((repeat' (with_reducible refine And.intro ?_ ?_)) <;> first | omega | rfl | (simp only [go_sem, refsL_app, refs_dmap] <;> fail) | (simp [refsL_app, refs_dmap, AV.refsL, AV.refs] <;> omega)))) | ((with_reducible first | apply hK | (clear hK K; first | apply hK | (clear hK K; first | apply hK | (clear hK K; apply hK)))); clear hK K) | fail)
          all_goals (try omega)
          (first | refine res_tmp rfl (by simp [D.plain, plains]) (by simp) ?_ | refine res_at rfl (by simp [D.plain, plains]) (by simp) ?_ | refine res_two rfl (by simp [D.plain, plains]) (by simp) ?_ | refine res_three rfl (by simp [D.plain, plains]) (by simp) ?_)
          first | rfl | exact ints_raw l
        · rw [if_pos rfl] at hC
          have hC2 : mlM bs 8 ⟨c4, l⟩ = C := hC.symm
          clear hC
          repeat' (first | (with_reducible first | refine aw_seq fun K hK => ?_ | refine aw_region (by kernel_rfl) ?_ | refine aw_condk ?_ | refine aw_block ?_) | ((with_reducible refine evg ?_); simp only [go_sem, ↓reduceIte, Nat.reduceEqDiff, Nat.reduceBEq, Nat.reduceAdd, Nat.reduceMul, Nat.reduceSub, Nat.reduceLT, Nat.reduceLeDiff]) | (simp (disch := omega) only [wr, drop_at, str_at, int_at, Int.reduceSub, Int.reduceAdd, Int.reduceToNat, Int.toNat_zero, wr]) | ((with_reducible refine ev_call ?_); (first | (refine call_s b1 ?_ ?_ ?_ ?_ ?_; (focus rfl); (focus first | exact trivial | exact And.intro rfl trivial | exact ⟨rfl, rfl, trivial⟩ | exact ⟨rfl, rfl, rfl, trivial⟩); (focus rfl); (focus (simp [-List.map_map, apartO, dropO, killN, obCells, refs_dmap, nofnsD, AV.refs, AV.refsL, AV.nofn, AV.nofns] <;> fail))) | (refine call_s b3 ?_ ?_ ?_ ?_ ?_; (focus rfl); (focus first | exact trivial | exact And.intro rfl trivial | exact ⟨rfl, rfl, trivial⟩ | exact ⟨rfl, rfl, rfl, trivial⟩); (focus rfl); (focus (simp [-List.map_map, apartO, dropO, killN, obCells, refs_dmap, nofnsD, AV.refs, AV.refsL, AV.nofn, AV.nofns] <;> fail)))); refine k_run ?_) | ((with_reducible refine ev_guard ?_); (with_reducible first | refine guard_t ?_ ?_ rfl | refine guard_f ?_ ?_ rfl) <;> (intro h; (try simp only [h]); (try simp only [nrm] at h) <;> (try ((with_reducible exfalso); omega)))) | ((with_reducible refine ck_split (fun h => ?_) (fun h => ?_)) <;> (try simp only [nrm] at h) <;> (try ((with_reducible exfalso); omega))) | ((with_reducible refine And.intro ?_ ?_); (first | omega | focus (simp; done) | focus (simp; omega) | focus ((repeat' (with_reducible refine And.intro ?_ ?_)) <;> first | omega | rfl | (simp only [go_sem, refsL_app, refs_dmap] <;> fail) | (simp [refsL_app, refs_dmap, AV.refsL, AV.refs] <;> omega)))) | ((with_reducible first | apply hK | (clear hK K; first | apply hK | (clear hK K; first | apply hK | (clear hK K; apply hK)))); clear hK K) | fail)
          refine aw_loopU [4, 6, 22, 33, 34, 35, 36, 37, 38, 39, 40, 41, 42, 43, 44, 45, 46, 47, 48, 49, 50] [9, 22, 34, 36, 49, 50] (fun s : Nat × MkS => [(6, .d (.int ((8 - s.1 : Nat) : Int))), (4, .bs 50 0 s.2.l.length 1)]) (fun s => [(50, .ds (s.2.l.map D.int)), (9, curO bs s.2.c)]) (fun s => mlM bs s.1 s.2 = C ∧ s.1 ≤ 8 ∧ s.2.l.length ≤ 5 + (8 - s.1) ∧ okCur (60 + 2 * (8 - s.1)) s.2.c) (fun s => s.1) (8, ⟨c4, l⟩) ⟨hC2, by simp only; omega, by simp only [List.length_append, List.length_singleton]; omega, okCur_mono r3 (by simp only; omega)⟩ ?_ ?_
          · (refine lessW_of [(22, 50)] rfl ?_ <;> simp only [St.sws, St.sw, swS, swO, AV.sw, AV.swL, OB.sw, swp, St.upd, dropS, dropOs, Less, SubS, SubO, look, lookO, List.elem, List.cons_append, List.nil_append, cond_true, cond_false, and_true, true_and, beq_self_eq_true, ↓reduceIte, Nat.reduceEqDiff, Nat.reduceBEq, Nat.reduceAdd, Nat.reduceMul, Nat.reduceSub, Nat.reduceLT, Nat.reduceLeDiff] <;> try simp)
            all_goals (first | rfl | omega | (simp; done) | trace_state)
          · rintro ⟨k, ⟨c, L⟩⟩ ⟨f1, f2, f3, f4⟩
            simp only at f1 f2 f3 f4
            simp only [St.upd, dropS, dropOs, List.elem, List.cons_append, List.nil_append, cond_true, cond_false, beq_self_eq_true, ↓reduceIte, Nat.reduceEqDiff, Nat.reduceBEq, Nat.reduceAdd, Nat.reduceMul, Nat.reduceSub, Nat.reduceLT, Nat.reduceLeDiff]
            have u1 := pickV_le hb (n := 2) f4.1
            have u2 := u1.2 (by decide)
            have w1 := okCur_pick (bs := bs) (n := 2) f4
            have d1 := pick_at 9 bs 2 c hb (okCur_mono f4 (by omega))
            cases k with
            | zero =>
              rw [mlM] at f1
              subst f1
              generalize pickV bs 2 c = x at *
              generalize pickC bs 2 c = cd at *
              by_cases hL : (L.length : Int) < 6 + x
              all_goals
                repeat' (first | (with_reducible first | refine aw_seq fun K hK => ?_ | refine aw_region (by kernel_rfl) ?_ | refine aw_condk ?_ | refine aw_block ?_) | ((with_reducible refine evg ?_); simp only [go_sem, ↓reduceIte, Nat.reduceEqDiff, Nat.reduceBEq, Nat.reduceAdd, Nat.reduceMul, Nat.reduceSub, Nat.reduceLT, Nat.reduceLeDiff]) | (simp (disch := omega) only [wr, drop_at, str_at, int_at, Int.reduceSub, Int.reduceAdd, Int.reduceToNat, Int.toNat_zero, wr]) | ((with_reducible refine ev_call ?_); (first | (refine call_s d1 ?_ ?_ ?_ ?_ ?_; (focus rfl); (focus first | exact trivial | exact And.intro rfl trivial | exact ⟨rfl, rfl, trivial⟩ | exact ⟨rfl, rfl, rfl, trivial⟩); (focus rfl); (focus (simp [-List.map_map, apartO, dropO, killN, obCells, refs_dmap, nofnsD, AV.refs, AV.refsL, AV.nofn, AV.nofns] <;> fail)))); refine k_run ?_) | ((with_reducible refine ev_guard ?_); (with_reducible first | refine guard_t ?_ ?_ rfl | refine guard_f ?_ ?_ rfl) <;> (intro h; (try simp only [h]); (try simp only [nrm] at h) <;> (try ((with_reducible exfalso); omega)))) | ((with_reducible refine ck_split (fun h => ?_) (fun h => ?_)) <;> (try simp only [nrm] at h) <;> (try ((with_reducible exfalso); omega))) | ((with_reducible refine And.intro ?_ ?_); (first | omega | focus (simp; done) | focus (simp; omega) | focus ((repeat' (with_reducible refine And.intro ?_ ?_)) <;> first | omega | rfl | (simp only [go_sem, refsL_app, refs_dmap] <;> fail) | (simp [refsL_app, refs_dmap, AV.refsL, AV.refs] <;> omega)))) | ((with_reducible first | apply hK | (clear hK K; first | apply hK | (clear hK K; first | apply hK | (clear hK K; apply hK)))); clear hK K) | fail)
                all_goals (try omega)
                (first | refine res_tmp rfl (by simp [D.plain, plains]) (by simp) ?_ | refine res_at rfl (by simp [D.plain, plains]) (by simp) ?_ | refine res_two rfl (by simp [D.plain, plains]) (by simp) ?_ | refine res_three rfl (by simp [D.plain, plains]) (by simp) ?_)
                first | rfl | exact ints_raw L
            | succ k =>
              rw [mlM] at f1
              have e8 : 8 - (k + 1) = 7 - k := by omega
              have e9 : ((8 - k : Nat) : Int) = ((7 - k : Nat) : Int) + 1 := by omega
              rw [e8] at f3 f4 ⊢
              have tm : 0 ≤ ((7 - k : Nat) : Int).tmod 7 ∧ ((7 - k : Nat) : Int).tmod 7 < 7 := by
                rw [Int.tmod_eq_emod_of_nonneg (by omega)]
                omega
              have hs := mlk_snoc L (1 + ((7 - k : Nat) : Int).tmod 7)
              simp only at f1
              generalize pickV bs 2 c = x at *
              generalize pickC bs 2 c = cd at *
              generalize hz : ((7 - k : Nat) : Int).tmod 7 = z at *
              by_cases hL : (L.length : Int) < 6 + x
              · rw [if_pos hL] at f1
                repeat' (first | (with_reducible first | refine aw_seq fun K hK => ?_ | refine aw_region (by kernel_rfl) ?_ | refine aw_condk ?_ | refine aw_block ?_) | ((with_reducible refine evg ?_); simp only [go_sem, ↓reduceIte, Nat.reduceEqDiff, Nat.reduceBEq, Nat.reduceAdd, Nat.reduceMul, Nat.reduceSub, Nat.reduceLT, Nat.reduceLeDiff]) | (simp (disch := omega) only [wr, drop_at, str_at, int_at, Int.reduceSub, Int.reduceAdd, Int.reduceToNat, Int.toNat_zero, hz, hs, wr]) | ((with_reducible refine ev_call ?_); (first | (refine call_s d1 ?_ ?_ ?_ ?_ ?_; (focus rfl); (focus first | exact trivial | exact And.intro rfl trivial | exact ⟨rfl, rfl, trivial⟩ | exact ⟨rfl, rfl, rfl, trivial⟩); (focus rfl); (focus (simp [-List.map_map, apartO, dropO, killN, obCells, refs_dmap, nofnsD, AV.refs, AV.refsL, AV.nofn, AV.nofns] <;> fail)))); refine k_run ?_) | ((with_reducible refine ev_guard ?_); (with_reducible first | refine guard_t ?_ ?_ rfl | refine guard_f ?_ ?_ rfl) <;> (intro h; (try simp only [h]); (try simp only [nrm] at h) <;> (try ((with_reducible exfalso); omega)))) | ((with_reducible refine ck_split (fun h => ?_) (fun h => ?_)) <;> (try simp only [nrm] at h) <;> (try ((with_reducible exfalso); omega))) | ((with_reducible refine And.intro ?_ ?_); (first | omega | focus (simp; done) | focus (simp; omega) | focus ((repeat' (with_reducible refine And.intro ?_ ?_)) <;> first | omega | rfl | (simp only [go_sem, refsL_app, refs_dmap] <;> fail) | (simp [refsL_app, refs_dmap, AV.refsL, AV.refs] <;> omega)))) | ((with_reducible first | apply hK | (clear hK K; first | apply hK | (clear hK K; first | apply hK | (clear hK K; apply hK)))); clear hK K) | fail)
                all_goals (try omega)
                all_goals
                  refine ⟨(k, ⟨cd, L ++ [1 + z]⟩), ⟨f1, by simp only; omega, by simp only [List.length_append, List.length_singleton]; omega, okCur_mono w1 (by simp only; omega)⟩, by simp only; omega, ?_⟩
                  simp only [List.length_append, List.length_singleton, e9]
                  (refine lessW_of [] rfl ?_ <;> simp only [St.sws, St.sw, swS, swO, AV.sw, AV.swL, OB.sw, swp, St.upd, dropS, dropOs, Less, SubS, SubO, look, lookO, List.elem, List.cons_append, List.nil_append, cond_true, cond_false, and_true, true_and, beq_self_eq_true, ↓reduceIte, Nat.reduceEqDiff, Nat.reduceBEq, Nat.reduceAdd, Nat.reduceMul, Nat.reduceSub, Nat.reduceLT, Nat.reduceLeDiff] <;> try simp)
                  all_goals (first | rfl | omega | (simp; done) | trace_state)
              · rw [if_neg hL] at f1
                subst f1
                repeat' (first | (with_reducible first | refine aw_seq fun K hK => ?_ | refine aw_region (by kernel_rfl) ?_ | refine aw_condk ?_ | refine aw_block ?_) | ((with_reducible refine evg ?_); simp only [go_sem, ↓reduceIte, Nat.reduceEqDiff, Nat.reduceBEq, Nat.reduceAdd, Nat.reduceMul, Nat.reduceSub, Nat.reduceLT, Nat.reduceLeDiff]) | (simp (disch := omega) only [wr, drop_at, str_at, int_at, Int.reduceSub, Int.reduceAdd, Int.reduceToNat, Int.toNat_zero, wr]) | ((with_reducible refine ev_call ?_); (first | (refine call_s d1 ?_ ?_ ?_ ?_ ?_; (focus rfl); (focus first | exact trivial | exact And.intro rfl trivial | exact ⟨rfl, rfl, trivial⟩ | exact ⟨rfl, rfl, rfl, trivial⟩); (focus rfl); (focus (simp [-List.map_map, apartO, dropO, killN, obCells, refs_dmap, nofnsD, AV.refs, AV.refsL, AV.nofn, AV.nofns] <;> fail)))); refine k_run ?_) | ((with_reducible refine ev_guard ?_); (with_reducible first | refine guard_t ?_ ?_ rfl | refine guard_f ?_ ?_ rfl) <;> (intro h; (try simp only [h]); (try simp only [nrm] at h) <;> (try ((with_reducible exfalso); omega)))) | ((with_reducible refine ck_split (fun h => ?_) (fun h => ?_)) <;> (try simp only [nrm] at h) <;> (try ((with_reducible exfalso); omega))) | ((with_reducible refine And.intro ?_ ?_); (first | omega | focus (simp; done) | focus (simp; omega) | focus ((repeat' (with_reducible refine And.intro ?_ ?_)) <;> first | omega | rfl | (simp only [go_sem, refsL_app, refs_dmap] <;> fail) | (simp [refsL_app, refs_dmap, AV.refsL, AV.refs] <;> omega)))) | ((with_reducible first | apply hK | (clear hK K; first | apply hK | (clear hK K; first | apply hK | (clear hK K; apply hK)))); clear hK K) | fail)
                all_goals (try omega)
                (first | refine res_tmp rfl (by simp [D.plain, plains]) (by simp) ?_ | refine res_at rfl (by simp [D.plain, plains]) (by simp) ?_ | refine res_two rfl (by simp [D.plain, plains]) (by simp) ?_ | refine res_three rfl (by simp [D.plain, plains]) (by simp) ?_)
                first | rfl | exact ints_raw L
      · rw [if_pos rfl] at hB
        subst hB
        simp only at hC b3 r3 k4
        obtain ⟨V, hV⟩ : ∃ V, l ++ [v] = V := ⟨_, rfl⟩
        have hVl : l.length + 1 = V.length := by rw [← hV]; simp
        rw [hV] at hs hC k4
        cases o2
        · rw [if_neg (by simp)] at hC
          subst hC
          repeat' (first | (with_reducible first | refine aw_seq fun K hK => ?_ | refine aw_region (by kernel_rfl) ?_ | refine aw_condk ?_ | refine aw_block ?_) | ((with_reducible refine evg ?_); simp only [go_sem, ↓reduceIte, Nat.reduceEqDiff, Nat.reduceBEq, Nat.reduceAdd, Nat.reduceMul, Nat.reduceSub, Nat.reduceLT, Nat.reduceLeDiff]) | (simp (disch := omega) only [wr, drop_at, str_at, int_at, Int.reduceSub, Int.reduceAdd, Int.reduceToNat, Int.toNat_zero, hs, hVl, wr]) | ((with_reducible refine ev_call ?_); (first | (refine call_s b1 ?_ ?_ ?_ ?_ ?_; (focus rfl); (focus first | exact trivial | exact And.intro rfl trivial | exact ⟨rfl, rfl, trivial⟩ | exact ⟨rfl, rfl, rfl, trivial⟩); (focus rfl); (focus (simp [-List.map_map, apartO, dropO, killN, obCells, refs_dmap, nofnsD, AV.refs, AV.refsL, AV.nofn, AV.nofns] <;> fail))) | (refine call_s b2 ?_ ?_ ?_ ?_ ?_; (focus rfl); (focus first | exact trivial | exact And.intro rfl trivial | exact ⟨rfl, rfl, trivial⟩ | exact ⟨rfl, rfl, rfl, trivial⟩); (focus rfl); (focus (simp [-List.map_map, apartO, dropO, killN, obCells, refs_dmap, nofnsD, AV.refs, AV.refsL, AV.nofn, AV.nofns] <;> fail))) | (refine call_s b3 ?_ ?_ ?_ ?_ ?_; (focus rfl); (focus first | exact trivial | exact And.intro rfl trivial | exact ⟨rfl, rfl, trivial⟩ | exact ⟨rfl, rfl, rfl, trivial⟩); (focus rfl); (focus (simp [-List.map_map, apartO, dropO, killN, obCells, refs_dmap, nofnsD, AV.refs, AV.refsL, AV.nofn, AV.nofns] <;> fail)))); refine k_run ?_) | ((with_reducible refine ev_guard ?_); (with_reducible first | refine guard_t ?_ ?_ rfl | refine guard_f ?_ ?_ rfl) <;> (intro h; (try simp only [h]); (try simp only [nrm] at h) <;> (try ((with_reducible exfalso); omega)))) | ((with_reducible refine ck_split (fun h => ?_) (fun h => ?_)) <;> (try simp only [nrm] at h) <;> (try ((with_reducible exfalso); omega))) | ((with_reducible refine And.intro ?_ ?_); (first | omega | focus (simp; done) | focus (simp; omega) | focus ((repeat' (with_reducible refine And.intro ?_ ?_)) <;> first | omega | rfl | (simp only [go_sem, refsL_app, refs_dmap] <;> fail) | (simp [refsL_app, refs_dmap, AV.refsL, AV.refs] <;> omega)))) | ((with_reducible first | apply hK | (clear hK K; first | apply hK | (clear hK K; first | apply hK | (clear hK K; apply hK)))); clear hK K) | fail)
          all_goals (try omega)
          (first | refine res_tmp rfl (by simp [D.plain, plains]) (by simp) ?_ | refine res_at rfl (by simp [D.plain, plains]) (by simp) ?_ | refine res_two rfl (by simp [D.plain, plains]) (by simp) ?_ | refine res_three rfl (by simp [D.plain, plains]) (by simp) ?_)
          first | rfl | exact ints_raw V
        · rw [if_pos rfl] at hC
          have hC2 : mlM bs 8 ⟨c4, V⟩ = C := hC.symm
          clear hC
          repeat' (first | (with_reducible first | refine aw_seq fun K hK => ?_ | refine aw_region (by kernel_rfl) ?_ | refine aw_condk ?_ | refine aw_block ?_) | ((with_reducible refine evg ?_); simp only [go_sem, ↓reduceIte, Nat.reduceEqDiff, Nat.reduceBEq, Nat.reduceAdd, Nat.reduceMul, Nat.reduceSub, Nat.reduceLT, Nat.reduceLeDiff]) | (simp (disch := omega) only [wr, drop_at, str_at, int_at, Int.reduceSub, Int.reduceAdd, Int.reduceToNat, Int.toNat_zero, hs, hVl, wr]) | ((with_reducible refine ev_call ?_); (first | (refine call_s b1 ?_ ?_ ?_ ?_ ?_; (focus rfl); (focus first | exact trivial | exact And.intro rfl trivial | exact ⟨rfl, rfl, trivial⟩ | exact ⟨rfl, rfl, rfl, trivial⟩); (focus rfl); (focus (simp [-List.map_map, apartO, dropO, killN, obCells, refs_dmap, nofnsD, AV.refs, AV.refsL, AV.nofn, AV.nofns] <;> fail))) | (refine call_s b2 ?_ ?_ ?_ ?_ ?_; (focus rfl); (focus first | exact trivial | exact And.intro rfl trivial | exact ⟨rfl, rfl, trivial⟩ | exact ⟨rfl, rfl, rfl, trivial⟩); (focus rfl); (focus (simp [-List.map_map, apartO, dropO, killN, obCells, refs_dmap, nofnsD, AV.refs, AV.refsL, AV.nofn, AV.nofns] <;> fail))) | (refine call_s b3 ?_ ?_ ?_ ?_ ?_; (focus rfl); (focus first | exact trivial | exact And.intro rfl trivial | exact ⟨rfl, rfl, trivial⟩ | exact ⟨rfl, rfl, rfl, trivial⟩); (focus rfl); (focus (simp [-List.map_map, apartO, dropO, killN, obCells, refs_dmap, nofnsD, AV.refs, AV.refsL, AV.nofn, AV.nofns] <;> fail)))); refine k_run ?_) | ((with_reducible refine ev_guard ?_); (with_reducible first | refine guard_t ?_ ?_ rfl | refine guard_f ?_ ?_ rfl) <;> (intro h; (try simp only [h]); (try simp only [nrm] at h) <;> (try ((with_reducible exfalso); omega)))) | ((with_reducible refine ck_split (fun h => ?_) (fun h => ?_)) <;> (try simp only [nrm] at h) <;> (try ((with_reducible exfalso); omega))) | ((with_reducible refine And.intro ?_ ?_); (first | omega | focus (simp; done) | focus (simp; omega) | focus ((repeat' (with_reducible refine And.intro ?_ ?_)) <;> first | omega | rfl | (simp only [go_sem, refsL_app, refs_dmap] <;> fail) | (simp [refsL_app, refs_dmap, AV.refsL, AV.refs] <;> omega)))) | ((with_reducible first | apply hK | (clear hK K; first | apply hK | (clear hK K; first | apply hK | (clear hK K; apply hK)))); clear hK K) | fail)
          refine aw_loopU [4, 6, 22, 25, 27, 29, 30, 33, 34, 35, 36, 37, 38, 39, 40, 41, 42, 43, 44, 45, 46, 47, 48, 49, 50] [9, 22, 25, 27, 29, 30, 34, 36, 49, 50] (fun s : Nat × MkS => [(6, .d (.int ((8 - s.1 : Nat) : Int))), (4, .bs 50 0 s.2.l.length 1)]) (fun s => [(50, .ds (s.2.l.map D.int)), (9, curO bs s.2.c)]) (fun s => mlM bs s.1 s.2 = C ∧ s.1 ≤ 8 ∧ s.2.l.length ≤ 5 + (8 - s.1) ∧ okCur (60 + 2 * (8 - s.1)) s.2.c) (fun s => s.1) (8, ⟨c4, V⟩) ⟨hC2, by simp only; omega, by simp only [List.length_append, List.length_singleton]; omega, okCur_mono r3 (by simp only; omega)⟩ ?_ ?_
          · (refine lessW_of [(30, 50)] rfl ?_ <;> simp only [St.sws, St.sw, swS, swO, AV.sw, AV.swL, OB.sw, swp, St.upd, dropS, dropOs, Less, SubS, SubO, look, lookO, List.elem, List.cons_append, List.nil_append, cond_true, cond_false, and_true, true_and, beq_self_eq_true, ↓reduceIte, Nat.reduceEqDiff, Nat.reduceBEq, Nat.reduceAdd, Nat.reduceMul, Nat.reduceSub, Nat.reduceLT, Nat.reduceLeDiff] <;> try simp)
            all_goals (first | rfl | omega | (simp; done) | trace_state)
          · rintro ⟨k, ⟨c, L⟩⟩ ⟨f1, f2, f3, f4⟩
            simp only at f1 f2 f3 f4
            simp only [St.upd, dropS, dropOs, List.elem, List.cons_append, List.nil_append, cond_true, cond_false, beq_self_eq_true, ↓reduceIte, Nat.reduceEqDiff, Nat.reduceBEq, Nat.reduceAdd, Nat.reduceMul, Nat.reduceSub, Nat.reduceLT, Nat.reduceLeDiff]
            have u1 := pickV_le hb (n := 2) f4.1
            have u2 := u1.2 (by decide)
            have w1 := okCur_pick (bs := bs) (n := 2) f4
            have d1 := pick_at 9 bs 2 c hb (okCur_mono f4 (by omega))
            cases k with
            | zero =>
              rw [mlM] at f1
              subst f1
              generalize pickV bs 2 c = x at *
              generalize pickC bs 2 c = cd at *
              by_cases hL : (L.length : Int) < 6 + x
              all_goals
                repeat' (first | (with_reducible first | refine aw_seq fun K hK => ?_ | refine aw_region (by kernel_rfl) ?_ | refine aw_condk ?_ | refine aw_block ?_) | ((with_reducible refine evg ?_); simp only [go_sem, ↓reduceIte, Nat.reduceEqDiff, Nat.reduceBEq, Nat.reduceAdd, Nat.reduceMul, Nat.reduceSub, Nat.reduceLT, Nat.reduceLeDiff]) | (simp (disch := omega) only [wr, drop_at, str_at, int_at, Int.reduceSub, Int.reduceAdd, Int.reduceToNat, Int.toNat_zero, wr]) | ((with_reducible refine ev_call ?_); (first | (refine call_s d1 ?_ ?_ ?_ ?_ ?_; (focus rfl); (focus first | exact trivial | exact And.intro rfl trivial | exact ⟨rfl, rfl, trivial⟩ | exact ⟨rfl, rfl, rfl, trivial⟩); (focus rfl); (focus (simp [-List.map_map, apartO, dropO, killN, obCells, refs_dmap, nofnsD, AV.refs, AV.refsL, AV.nofn, AV.nofns] <;> fail)))); refine k_run ?_) | ((with_reducible refine ev_guard ?_); (with_reducible first | refine guard_t ?_ ?_ rfl | refine guard_f ?_ ?_ rfl) <;> (intro h; (try simp only [h]); (try simp only [nrm] at h) <;> (try ((with_reducible exfalso); omega)))) | ((with_reducible refine ck_split (fun h => ?_) (fun h => ?_)) <;> (try simp only [nrm] at h) <;> (try ((with_reducible exfalso); omega))) | ((with_reducible refine And.intro ?_ ?_); (first | omega | focus (simp; done) | focus (simp; omega) | focus ((repeat' (with_reducible refine And.intro ?_ ?_)) <;> first | omega | rfl | (simp only [go_sem, refsL_app, refs_dmap] <;> fail) | (simp [refsL_app, refs_dmap, AV.refsL, AV.refs] <;> omega)))) | ((with_reducible first | apply hK | (clear hK K; first | apply hK | (clear hK K; first | apply hK | (clear hK K; apply hK)))); clear hK K) | fail)
                all_goals (try omega)
                (first | refine res_tmp rfl (by simp [D.plain, plains]) (by simp) ?_ | refine res_at rfl (by simp [D.plain, plains]) (by simp) ?_ | refine res_two rfl (by simp [D.plain, plains]) (by simp) ?_ | refine res_three rfl (by simp [D.plain, plains]) (by simp) ?_)
                first | rfl | exact ints_raw L
            | succ k =>
              rw [mlM] at f1
              have e8 : 8 - (k + 1) = 7 - k := by omega
              have e9 : ((8 - k : Nat) : Int) = ((7 - k : Nat) : Int) + 1 := by omega
              rw [e8] at f3 f4 ⊢
              have tm : 0 ≤ ((7 - k : Nat) : Int).tmod 7 ∧ ((7 - k : Nat) : Int).tmod 7 < 7 := by
                rw [Int.tmod_eq_emod_of_nonneg (by omega)]
                omega
              have hs := mlk_snoc L (1 + ((7 - k : Nat) : Int).tmod 7)
              simp only at f1
              generalize pickV bs 2 c = x at *
              generalize pickC bs 2 c = cd at *
              generalize hz : ((7 - k : Nat) : Int).tmod 7 = z at *
              by_cases hL : (L.length : Int) < 6 + x
              · rw [if_pos hL] at f1
                repeat' (first | (with_reducible first | refine aw_seq fun K hK => ?_ | refine aw_region (by kernel_rfl) ?_ | refine aw_condk ?_ | refine aw_block ?_) | ((with_reducible refine evg ?_); simp only [go_sem, ↓reduceIte, Nat.reduceEqDiff, Nat.reduceBEq, Nat.reduceAdd, Nat.reduceMul, Nat.reduceSub, Nat.reduceLT, Nat.reduceLeDiff]) | (simp (disch := omega) only [wr, drop_at, str_at, int_at, Int.reduceSub, Int.reduceAdd, Int.reduceToNat, Int.toNat_zero, hz, hs, wr]) | ((with_reducible refine ev_call ?_); (first | (refine call_s d1 ?_ ?_ ?_ ?_ ?_; (focus rfl); (focus first | exact trivial | exact And.intro rfl trivial | exact ⟨rfl, rfl, trivial⟩ | exact ⟨rfl, rfl, rfl, trivial⟩); (focus rfl); (focus (simp [-List.map_map, apartO, dropO, killN, obCells, refs_dmap, nofnsD, AV.refs, AV.refsL, AV.nofn, AV.nofns] <;> fail)))); refine k_run ?_) | ((with_reducible refine ev_guard ?_); (with_reducible first | refine guard_t ?_ ?_ rfl | refine guard_f ?_ ?_ rfl) <;> (intro h; (try simp only [h]); (try simp only [nrm] at h) <;> (try ((with_reducible exfalso); omega)))) | ((with_reducible refine ck_split (fun h => ?_) (fun h => ?_)) <;> (try simp only [nrm] at h) <;> (try ((with_reducible exfalso); omega))) | ((with_reducible refine And.intro ?_ ?_); (first | omega | focus (simp; done) | focus (simp; omega) | focus ((repeat' (with_reducible refine And.intro ?_ ?_)) <;> first | omega | rfl | (simp only [go_sem, refsL_app, refs_dmap] <;> fail) | (simp [refsL_app, refs_dmap, AV.refsL, AV.refs] <;> omega)))) | ((with_reducible first | apply hK | (clear hK K; first | apply hK | (clear hK K; first | apply hK | (clear hK K; apply hK)))); clear hK K) | fail)
                all_goals (try omega)
                all_goals
                  refine ⟨(k, ⟨cd, L ++ [1 + z]⟩), ⟨f1, by simp only; omega, by simp only [List.length_append, List.length_singleton]; omega, okCur_mono w1 (by simp only; omega)⟩, by simp only; omega, ?_⟩
                  simp only [List.length_append, List.length_singleton, e9]
                  (refine lessW_of [] rfl ?_ <;> simp only [St.sws, St.sw, swS, swO, AV.sw, AV.swL, OB.sw, swp, St.upd, dropS, dropOs, Less, SubS, SubO, look, lookO, List.elem, List.cons_append, List.nil_append, cond_true, cond_false, and_true, true_and, beq_self_eq_true, ↓reduceIte, Nat.reduceEqDiff, Nat.reduceBEq, Nat.reduceAdd, Nat.reduceMul, Nat.reduceSub, Nat.reduceLT, Nat.reduceLeDiff] <;> try simp)
                  all_goals (first | rfl | omega | (simp; done) | trace_state)
              · rw [if_neg hL] at f1
                subst f1
                repeat' (first | (with_reducible first | refine aw_seq fun K hK => ?_ | refine aw_region (by kernel_rfl) ?_ | refine aw_condk ?_ | refine aw_block ?_) | ((with_reducible refine evg ?_); simp only [go_sem, ↓reduceIte, Nat.reduceEqDiff, Nat.reduceBEq, Nat.reduceAdd, Nat.reduceMul, Nat.reduceSub, Nat.reduceLT, Nat.reduceLeDiff]) | (simp (disch := omega) only [wr, drop_at, str_at, int_at, Int.reduceSub, Int.reduceAdd, Int.reduceToNat, Int.toNat_zero, wr]) | ((with_reducible refine ev_call ?_); (first | (refine call_s d1 ?_ ?_ ?_ ?_ ?_; (focus rfl); (focus first | exact trivial | exact And.intro rfl trivial | exact ⟨rfl, rfl, trivial⟩ | exact ⟨rfl, rfl, rfl, trivial⟩); (focus rfl); (focus (simp [-List.map_map, apartO, dropO, killN, obCells, refs_dmap, nofnsD, AV.refs, AV.refsL, AV.nofn, AV.nofns] <;> fail)))); refine k_run ?_) | ((with_reducible refine ev_guard ?_); (with_reducible first | refine guard_t ?_ ?_ rfl | refine guard_f ?_ ?_ rfl) <;> (intro h; (try simp only [h]); (try simp only [nrm] at h) <;> (try ((with_reducible exfalso); omega)))) | ((with_reducible refine ck_split (fun h => ?_) (fun h => ?_)) <;> (try simp only [nrm] at h) <;> (try ((with_reducible exfalso); omega))) | ((with_reducible refine And.intro ?_ ?_); (first | omega | focus (simp; done) | focus (simp; omega) | focus ((repeat' (with_reducible refine And.intro ?_ ?_)) <;> first | omega | rfl | (simp only [go_sem, refsL_app, refs_dmap] <;> fail) | (simp [refsL_app, refs_dmap, AV.refsL, AV.refs] <;> omega)))) | ((with_reducible first | apply hK | (clear hK K; first | apply hK | (clear hK K; first | apply hK | (clear hK K; apply hK)))); clear hK K) | fail)
                all_goals (try omega)
                (first | refine res_tmp rfl (by simp [D.plain, plains]) (by simp) ?_ | refine res_at rfl (by simp [D.plain, plains]) (by simp) ?_ | refine res_two rfl (by simp [D.plain, plains]) (by simp) ?_ | refine res_three rfl (by simp [D.plain, plains]) (by simp) ?_)
                first | rfl | exact ints_raw L

def spT (a ch : ByteArray) (k : Nat) (r : Int) : ByteArray :=
  if r = 0 then a.extract 0 k ++ ch ++ a.extract k a.size else if r = 1 then a.extract 0 k ++ ch ++ a.extract (k + 1) a.size else a.extract 0 k ++ a.extract (k + 1) a.size

def spB (bs : List Int) (a b : ByteArray) (c : CurV) : ByteArray :=
  spT a ((b.extract (pickV bs b.size (pickC bs a.size c)).toNat b.size).extract 0 1) (pickV bs a.size c).toNat (pickV bs 3 (pickC bs b.size (pickC bs a.size c)))

theorem spT_size (a ch : ByteArray) (k : Nat) (r : Int) : (spT a ch k r).size ≤ 2 * a.size + ch.size := by
  unfold spT
  repeat' split
  all_goals
    simp only [ByteArray.size_append, ByteArray.size_extract]
    omega

set_option maxRecDepth 100000 in
theorem pl_MkDr_27_7 (l : List Oper) (h : l = opsOf Tryz.f27 7) : planB l (.pure 0 (.pure 1 (.pure 2 (.pure 3 (.pure 4 (.pure 5 (.pure 6 (.pure 7 (.pure 8 (.pure 9 PT.fin)))))))))) [] = true := by
  subst h
  kernel_rfl

set_option maxRecDepth 100000 in
theorem pl_MkDr_27_9 (l : List Oper) (h : l = opsOf Tryz.f27 9) : planB l (.pure 0 (.pure 1 (.pure 2 (.pure 3 (.pure 4 (.pure 5 (.pure 6 (.pure 7 (.pure 8 (.pure 9 (.pure 10 PT.fin))))))))))) [] = true := by
  subst h
  kernel_rfl

set_option maxRecDepth 100000 in
theorem pl_MkDr_27_10 (l : List Oper) (h : l = opsOf Tryz.f27 10) : planB l (.pure 0 (.pure 1 (.pure 2 (.pure 3 (.pure 4 (.pure 5 (.pure 6 (.pure 7 (.pure 8 PT.fin))))))))) [] = true := by
  subst h
  kernel_rfl

set_option maxRecDepth 100000 in
set_option maxHeartbeats 4000000 in
theorem spoilt_at (s : Nat) (bs : List Int) (a b : ByteArray) (c : CurV) (hb : okCod bs) (h0 : okCur 900 c) (ha : 0 < a.size) (ha2 : a.size ≤ 100000) (hb0 : 0 < b.size) (hb2 : b.size ≤ 100000) : ∃ c', FnS Tryz.prog 27 [(s, curO bs c)] [.bp s 0, .d (.str a), .d (.str b)] [(s, curO bs c')] (.d (.str (spB bs a b c))) := by
  refine ⟨pickC bs 3 (pickC bs b.size (pickC bs a.size c)), ?_⟩
  have hi : FnS Tryz.prog 27 [(5000, curO bs c)] [.bp 5000 0, .d (.str a), .d (.str b)] [(5000, curO bs (pickC bs 3 (pickC bs b.size (pickC bs a.size c))))] (.d (.str (spB bs a b c))) := by
    have q1 := okCur_pick (bs := bs) (n := a.size) h0
    have q2 := okCur_pick (bs := bs) (n := b.size) q1
    have e1 := pick_at 5000 bs a.size c hb (okCur_mono h0 (by omega))
    have e2 := pick_at 5000 bs b.size (pickC bs a.size c) hb (okCur_mono q1 (by omega))
    have e3 := pick_at 5000 bs 3 (pickC bs b.size (pickC bs a.size c)) hb (okCur_mono q2 (by omega))
    have p1 := pickV_le hb (n := a.size) h0.1
    have p2 := p1.2 (by omega)
    have r1 := pickV_le hb (n := b.size) q1.1
    have r2 := r1.2 (by omega)
    have t1 := pickV_le hb (n := 3) q2.1
    have hS : spB bs a b c = spT a ((b.extract (pickV bs b.size (pickC bs a.size c)).toNat b.size).extract 0 1) (pickV bs a.size c).toNat (pickV bs 3 (pickC bs b.size (pickC bs a.size c))) := rfl
    generalize spB bs a b c = T at *
    generalize pickV bs 3 (pickC bs b.size (pickC bs a.size c)) = r at *
    generalize pickC bs 3 (pickC bs b.size (pickC bs a.size c)) = c3 at *
    generalize pickV bs b.size (pickC bs a.size c) = j at *
    generalize pickC bs b.size (pickC bs a.size c) = c2 at *
    generalize pickV bs a.size c = k at *
    generalize pickC bs a.size c = c1 at *
    obtain ⟨k, rfl⟩ := Int.eq_ofNat_of_zero_le p1.1
    obtain ⟨j, rfl⟩ := Int.eq_ofNat_of_zero_le r1.1
    simp only [Int.toNat_natCast] at hS
    have z1 : (b.extract j b.size).size = b.size - j := by simp
    have hne : ¬ a = ⟨#[]⟩ := fun e => by
      rw [e] at ha
      exact absurd ha (by decide)
    have hk : ((k : Int) + 1).toNat = k + 1 := by omega
    unfold spT at hS
    by_cases x0 : r = 0
    · rw [if_pos x0] at hS
      subst hS
      refine fns_go Tryz.func27 rfl rfl Tryz.ntmps27 Tryz.results27 (by simp only [slotsA, Nat.reduceAdd]; rfl) (by simp) rfl ?_
      repeat' (first | (with_reducible first | refine aw_seq fun K hK => ?_ | refine aw_region (by kernel_rfl) ?_ | refine aw_condk ?_ | refine aw_block ?_) | ((with_reducible refine ev_aw ?_); first | (refine aw_draw (id := 7) (by kernel_rfl) _ _ (by kernel_rfl) (pl_MkDr_27_7 _ (by kernel_rfl)) ?_) | (refine aw_draw (id := 9) (by kernel_rfl) _ _ (by kernel_rfl) (pl_MkDr_27_9 _ (by kernel_rfl)) ?_) | (refine aw_draw (id := 10) (by kernel_rfl) _ _ (by kernel_rfl) (pl_MkDr_27_10 _ (by kernel_rfl)) ?_)) | (with_reducible first | refine ru_four ?_ ?_ ?_ ?_ | refine ru_three ?_ ?_ ?_ | refine ru_two ?_ ?_ | refine rv_split ?_ ?_ | refine rv_two ?_ ?_ | refine rp_two ?_ ?_) | ((with_reducible refine evg ?_); simp only [go_sem, St.clean, cleanO, ↓reduceIte, Nat.reduceEqDiff, Nat.reduceBEq, Nat.reduceAdd, Nat.reduceMul, Nat.reduceSub, Nat.reduceLT, Nat.reduceLeDiff]) | (simp (disch := omega) only [wr, drop_at, str_at, int_at, Int.reduceSub, Int.reduceAdd, Int.reduceToNat, Int.toNat_zero, hk, z1, ByteArray.size_append, ByteArray.size_extract, wr]) | ((with_reducible refine ev_call ?_); (first | (refine call_s e1 ?_ ?_ ?_ ?_ ?_; (focus rfl); (focus first | exact trivial | exact And.intro rfl trivial | exact ⟨rfl, rfl, trivial⟩ | exact ⟨rfl, rfl, rfl, trivial⟩); (focus rfl); (focus (simp [-List.map_map, apartO, dropO, killN, obCells, refs_dmap, nofnsD, AV.refs, AV.refsL, AV.nofn, AV.nofns] <;> fail))) | (refine call_s e2 ?_ ?_ ?_ ?_ ?_; (focus rfl); (focus first | exact trivial | exact And.intro rfl trivial | exact ⟨rfl, rfl, trivial⟩ | exact ⟨rfl, rfl, rfl, trivial⟩); (focus rfl); (focus (simp [-List.map_map, apartO, dropO, killN, obCells, refs_dmap, nofnsD, AV.refs, AV.refsL, AV.nofn, AV.nofns] <;> fail))) | (refine call_s e3 ?_ ?_ ?_ ?_ ?_; (focus rfl); (focus first | exact trivial | exact And.intro rfl trivial | exact ⟨rfl, rfl, trivial⟩ | exact ⟨rfl, rfl, rfl, trivial⟩); (focus rfl); (focus (simp [-List.map_map, apartO, dropO, killN, obCells, refs_dmap, nofnsD, AV.refs, AV.refsL, AV.nofn, AV.nofns] <;> fail)))); refine k_run ?_) | ((with_reducible refine ev_guard ?_); (with_reducible first | refine guard_t ?_ ?_ rfl | refine guard_f ?_ ?_ rfl) <;> (intro h; (try simp only [h]); (try simp only [nrm] at h) <;> (try ((with_reducible exfalso); omega)))) | ((with_reducible refine ck_split (fun h => ?_) (fun h => ?_)) <;> (try simp only [nrm] at h) <;> (try ((with_reducible exfalso); omega))) | ((with_reducible refine And.intro ?_ ?_); (first | omega | focus (simp; done) | focus (simp; omega) | focus ((repeat' (with_reducible refine And.intro ?_ ?_)) <;> first | omega | rfl | (simp only [go_sem, refsL_app, refs_dmap] <;> fail) | (simp [refsL_app, refs_dmap, AV.refsL, AV.refs] <;> omega)))) | (with_reducible refine hJ _ (fun K hK => ?_) ?_ <;> clear hJ KJ) | ((with_reducible refine ev_less ?_); (refine ⟨rfl, ?_, ?_⟩ <;> simp only [go_sem, St.clean, cleanO, SubS, SubO, beq_self_eq_true, ↓reduceIte, Nat.reduceEqDiff, Nat.reduceBEq, Nat.reduceAdd, Nat.reduceMul, Nat.reduceSub, Nat.reduceLT, Nat.reduceLeDiff])) | ((with_reducible first | apply hK | (clear hK K; first | apply hK | (clear hK K; first | apply hK | (clear hK K; apply hK)))); clear hK K) | fail)
      all_goals (try contradiction)
      all_goals exact ress_tmp (by simp [lensO, lookO, obCells]) ⟨rfl, trivial⟩ rfl
    rw [if_neg x0] at hS
    by_cases x1 : r = 1
    · rw [if_pos x1] at hS
      subst hS
      refine fns_go Tryz.func27 rfl rfl Tryz.ntmps27 Tryz.results27 (by simp only [slotsA, Nat.reduceAdd]; rfl) (by simp) rfl ?_
      repeat' (first | (with_reducible first | refine aw_seq fun K hK => ?_ | refine aw_region (by kernel_rfl) ?_ | refine aw_condk ?_ | refine aw_block ?_) | ((with_reducible refine ev_aw ?_); first | (refine aw_draw (id := 7) (by kernel_rfl) _ _ (by kernel_rfl) (pl_MkDr_27_7 _ (by kernel_rfl)) ?_) | (refine aw_draw (id := 9) (by kernel_rfl) _ _ (by kernel_rfl) (pl_MkDr_27_9 _ (by kernel_rfl)) ?_) | (refine aw_draw (id := 10) (by kernel_rfl) _ _ (by kernel_rfl) (pl_MkDr_27_10 _ (by kernel_rfl)) ?_)) | (with_reducible first | refine ru_four ?_ ?_ ?_ ?_ | refine ru_three ?_ ?_ ?_ | refine ru_two ?_ ?_ | refine rv_split ?_ ?_ | refine rv_two ?_ ?_ | refine rp_two ?_ ?_) | ((with_reducible refine evg ?_); simp only [go_sem, St.clean, cleanO, ↓reduceIte, Nat.reduceEqDiff, Nat.reduceBEq, Nat.reduceAdd, Nat.reduceMul, Nat.reduceSub, Nat.reduceLT, Nat.reduceLeDiff]) | (simp (disch := omega) only [wr, drop_at, str_at, int_at, Int.reduceSub, Int.reduceAdd, Int.reduceToNat, Int.toNat_zero, hk, z1, ByteArray.size_append, ByteArray.size_extract, wr]) | ((with_reducible refine ev_call ?_); (first | (refine call_s e1 ?_ ?_ ?_ ?_ ?_; (focus rfl); (focus first | exact trivial | exact And.intro rfl trivial | exact ⟨rfl, rfl, trivial⟩ | exact ⟨rfl, rfl, rfl, trivial⟩); (focus rfl); (focus (simp [-List.map_map, apartO, dropO, killN, obCells, refs_dmap, nofnsD, AV.refs, AV.refsL, AV.nofn, AV.nofns] <;> fail))) | (refine call_s e2 ?_ ?_ ?_ ?_ ?_; (focus rfl); (focus first | exact trivial | exact And.intro rfl trivial | exact ⟨rfl, rfl, trivial⟩ | exact ⟨rfl, rfl, rfl, trivial⟩); (focus rfl); (focus (simp [-List.map_map, apartO, dropO, killN, obCells, refs_dmap, nofnsD, AV.refs, AV.refsL, AV.nofn, AV.nofns] <;> fail))) | (refine call_s e3 ?_ ?_ ?_ ?_ ?_; (focus rfl); (focus first | exact trivial | exact And.intro rfl trivial | exact ⟨rfl, rfl, trivial⟩ | exact ⟨rfl, rfl, rfl, trivial⟩); (focus rfl); (focus (simp [-List.map_map, apartO, dropO, killN, obCells, refs_dmap, nofnsD, AV.refs, AV.refsL, AV.nofn, AV.nofns] <;> fail)))); refine k_run ?_) | ((with_reducible refine ev_guard ?_); (with_reducible first | refine guard_t ?_ ?_ rfl | refine guard_f ?_ ?_ rfl) <;> (intro h; (try simp only [h]); (try simp only [nrm] at h) <;> (try ((with_reducible exfalso); omega)))) | ((with_reducible refine ck_split (fun h => ?_) (fun h => ?_)) <;> (try simp only [nrm] at h) <;> (try ((with_reducible exfalso); omega))) | ((with_reducible refine And.intro ?_ ?_); (first | omega | focus (simp; done) | focus (simp; omega) | focus ((repeat' (with_reducible refine And.intro ?_ ?_)) <;> first | omega | rfl | (simp only [go_sem, refsL_app, refs_dmap] <;> fail) | (simp [refsL_app, refs_dmap, AV.refsL, AV.refs] <;> omega)))) | (with_reducible refine hJ _ (fun K hK => ?_) ?_ <;> clear hJ KJ) | ((with_reducible refine ev_less ?_); (refine ⟨rfl, ?_, ?_⟩ <;> simp only [go_sem, St.clean, cleanO, SubS, SubO, beq_self_eq_true, ↓reduceIte, Nat.reduceEqDiff, Nat.reduceBEq, Nat.reduceAdd, Nat.reduceMul, Nat.reduceSub, Nat.reduceLT, Nat.reduceLeDiff])) | ((with_reducible first | apply hK | (clear hK K; first | apply hK | (clear hK K; first | apply hK | (clear hK K; apply hK)))); clear hK K) | fail)
      all_goals (try contradiction)
      all_goals exact ress_tmp (by simp [lensO, lookO, obCells]) ⟨rfl, trivial⟩ rfl
    · rw [if_neg x1] at hS
      subst hS
      refine fns_go Tryz.func27 rfl rfl Tryz.ntmps27 Tryz.results27 (by simp only [slotsA, Nat.reduceAdd]; rfl) (by simp) rfl ?_
      repeat' (first | (with_reducible first | refine aw_seq fun K hK => ?_ | refine aw_region (by kernel_rfl) ?_ | refine aw_condk ?_ | refine aw_block ?_) | ((with_reducible refine ev_aw ?_); first | (refine aw_draw (id := 7) (by kernel_rfl) _ _ (by kernel_rfl) (pl_MkDr_27_7 _ (by kernel_rfl)) ?_) | (refine aw_draw (id := 9) (by kernel_rfl) _ _ (by kernel_rfl) (pl_MkDr_27_9 _ (by kernel_rfl)) ?_) | (refine aw_draw (id := 10) (by kernel_rfl) _ _ (by kernel_rfl) (pl_MkDr_27_10 _ (by kernel_rfl)) ?_)) | (with_reducible first | refine ru_four ?_ ?_ ?_ ?_ | refine ru_three ?_ ?_ ?_ | refine ru_two ?_ ?_ | refine rv_split ?_ ?_ | refine rv_two ?_ ?_ | refine rp_two ?_ ?_) | ((with_reducible refine evg ?_); simp only [go_sem, St.clean, cleanO, ↓reduceIte, Nat.reduceEqDiff, Nat.reduceBEq, Nat.reduceAdd, Nat.reduceMul, Nat.reduceSub, Nat.reduceLT, Nat.reduceLeDiff]) | (simp (disch := omega) only [wr, drop_at, str_at, int_at, Int.reduceSub, Int.reduceAdd, Int.reduceToNat, Int.toNat_zero, hk, z1, ByteArray.size_append, ByteArray.size_extract, wr]) | ((with_reducible refine ev_call ?_); (first | (refine call_s e1 ?_ ?_ ?_ ?_ ?_; (focus rfl); (focus first | exact trivial | exact And.intro rfl trivial | exact ⟨rfl, rfl, trivial⟩ | exact ⟨rfl, rfl, rfl, trivial⟩); (focus rfl); (focus (simp [-List.map_map, apartO, dropO, killN, obCells, refs_dmap, nofnsD, AV.refs, AV.refsL, AV.nofn, AV.nofns] <;> fail))) | (refine call_s e2 ?_ ?_ ?_ ?_ ?_; (focus rfl); (focus first | exact trivial | exact And.intro rfl trivial | exact ⟨rfl, rfl, trivial⟩ | exact ⟨rfl, rfl, rfl, trivial⟩); (focus rfl); (focus (simp [-List.map_map, apartO, dropO, killN, obCells, refs_dmap, nofnsD, AV.refs, AV.refsL, AV.nofn, AV.nofns] <;> fail))) | (refine call_s e3 ?_ ?_ ?_ ?_ ?_; (focus rfl); (focus first | exact trivial | exact And.intro rfl trivial | exact ⟨rfl, rfl, trivial⟩ | exact ⟨rfl, rfl, rfl, trivial⟩); (focus rfl); (focus (simp [-List.map_map, apartO, dropO, killN, obCells, refs_dmap, nofnsD, AV.refs, AV.refsL, AV.nofn, AV.nofns] <;> fail)))); refine k_run ?_) | ((with_reducible refine ev_guard ?_); (with_reducible first | refine guard_t ?_ ?_ rfl | refine guard_f ?_ ?_ rfl) <;> (intro h; (try simp only [h]); (try simp only [nrm] at h) <;> (try ((with_reducible exfalso); omega)))) | ((with_reducible refine ck_split (fun h => ?_) (fun h => ?_)) <;> (try simp only [nrm] at h) <;> (try ((with_reducible exfalso); omega))) | ((with_reducible refine And.intro ?_ ?_); (first | omega | focus (simp; done) | focus (simp; omega) | focus ((repeat' (with_reducible refine And.intro ?_ ?_)) <;> first | omega | rfl | (simp only [go_sem, refsL_app, refs_dmap] <;> fail) | (simp [refsL_app, refs_dmap, AV.refsL, AV.refs] <;> omega)))) | (with_reducible refine hJ _ (fun K hK => ?_) ?_ <;> clear hJ KJ) | ((with_reducible refine ev_less ?_); (refine ⟨rfl, ?_, ?_⟩ <;> simp only [go_sem, St.clean, cleanO, SubS, SubO, beq_self_eq_true, ↓reduceIte, Nat.reduceEqDiff, Nat.reduceBEq, Nat.reduceAdd, Nat.reduceMul, Nat.reduceSub, Nat.reduceLT, Nat.reduceLeDiff])) | ((with_reducible first | apply hK | (clear hK K; first | apply hK | (clear hK K; first | apply hK | (clear hK K; apply hK)))); clear hK K) | fail)
      all_goals (try contradiction)
      all_goals exact ress_tmp (by simp [lensO, lookO, obCells]) ⟨rfl, trivial⟩ rfl
  have h := hi.sw 5000 s
  simpa only [curO, swO, AV.swL, AV.sw, OB.sw, swp, if_true] using h

def onA : ByteArray := ⟨#[111, 110, 32, 97]⟩

def pmT (bs : List Int) : ByteArray := if oneV bs 4 (mk0 bs).c = true then spB bs (marksB (mk0 bs).l) onA (pickC bs 4 (mk0 bs).c) else marksB (mk0 bs).l

theorem marksB_pos (l : List Int) : 0 < (marksB l).size := by
  unfold marksB
  split
  · decide
  · rename_i h
    have h1 : 0 < l.length := List.length_pos_iff.2 h
    obtain ⟨n, hn⟩ : ∃ n, l.length = n + 1 := ⟨l.length - 1, by omega⟩
    have h3 : aSp.size = 2 := rfl
    rw [hn, mtT]
    split
    all_goals
      simp only [ByteArray.size_append]
      omega

theorem marksB_small {l : List Int} (h : l.length ≤ 6) : (marksB l).size ≤ 100 := by
  unfold marksB
  split
  · decide
  · have := mtT_size l.reverse l.length
    omega

theorem pmT_size {bs : List Int} (hb : okCod bs) : (pmT bs).size ≤ 1000 := by
  obtain ⟨h1, h2, h3⟩ := mk0_ok hb
  have h4 := marksB_small (l := (mk0 bs).l) (by omega)
  unfold pmT
  split
  · unfold spB
    refine Nat.le_trans (spT_size _ _ _ _) ?_
    have : ∀ (x : ByteArray), (x.extract 0 1).size ≤ 1 := fun x => by
      simp only [ByteArray.size_extract]
      omega
    have := this (onA.extract (pickV bs onA.size (pickC bs (marksB (mk0 bs).l).size (pickC bs 4 (mk0 bs).c))).toNat onA.size)
    omega
  · omega

set_option maxRecDepth 100000 in
set_option maxHeartbeats 4000000 in
theorem drawPM_fn (bs : List Int) (hb : okCod bs) : FnD Tryz.prog 10 [codL bs] (.str (pmT bs)) := by
  have a1 := pick_at 9 bs 5 curM hb (curM_ok _)
  have p1 := pickV_le hb (n := 5) (curM_ok 0).1
  have p2 := p1.2 (by decide)
  have q1 := okCur_pick (bs := bs) (n := 5) (curM_ok 0)
  have hA : mk0 bs = mlN bs (pickV bs 5 curM).toNat ⟨pickC bs 5 curM, []⟩ := rfl
  obtain ⟨k1, k2, k3⟩ := mk0_ok hb
  have hT : pmT bs = if oneV bs 4 (mk0 bs).c = true then spB bs (marksB (mk0 bs).l) onA (pickC bs 4 (mk0 bs).c) else marksB (mk0 bs).l := rfl
  have t1 := l19Text_fn (mk0 bs).l k3
  have b1 := one_at 9 bs 4 (mk0 bs).c hb (okCur_mono k1 (by omega))
  have r1 := okCur_pick (bs := bs) (n := 4) k1
  obtain ⟨c', s1⟩ := spoilt_at 9 bs (marksB (mk0 bs).l) onA (pickC bs 4 (mk0 bs).c) hb (okCur_mono r1 (by omega)) (marksB_pos _) (by have := marksB_small (l := (mk0 bs).l) (by omega); omega) (by decide) (by decide)
  have hon : onA = ⟨#[111, 110, 32, 97]⟩ := rfl
  rw [hon] at s1 hT
  generalize pmT bs = T at *
  generalize spB bs (marksB (mk0 bs).l) ⟨#[111, 110, 32, 97]⟩ (pickC bs 4 (mk0 bs).c) = T2 at *
  generalize pickC bs 4 (mk0 bs).c = c2 at *
  generalize oneV bs 4 (mk0 bs).c = o1 at *
  generalize mk0 bs = A at *
  generalize pickV bs 5 curM = n0 at *
  generalize pickC bs 5 curM = c1 at *
  obtain ⟨n, hn⟩ := Int.eq_ofNat_of_zero_le p1.1
  subst hn
  rw [Int.toNat_natCast] at hA
  simp only [curM] at *
  refine fn_go Tryz.func10 rfl rfl Tryz.ntmps10 Tryz.results10 (by simp only [slotsOf, argAV, List.map_cons, List.map_nil, Nat.reduceAdd]; rfl) (by simp) ?_
  repeat' (first | (with_reducible first | refine aw_seq fun K hK => ?_ | refine aw_region (by kernel_rfl) ?_ | refine aw_condk ?_ | refine aw_block ?_) | ((with_reducible refine evg ?_); simp only [go_sem, ↓reduceIte, Nat.reduceEqDiff, Nat.reduceBEq, Nat.reduceAdd, Nat.reduceMul, Nat.reduceSub, Nat.reduceLT, Nat.reduceLeDiff]) | (simp (disch := omega) only [wr, drop_at, str_at, int_at, Int.reduceSub, Int.reduceAdd, Int.reduceToNat, Int.toNat_zero, wr]) | ((with_reducible refine ev_call ?_); (first | (refine call_s a1 ?_ ?_ ?_ ?_ ?_; (focus rfl); (focus first | exact trivial | exact And.intro rfl trivial | exact ⟨rfl, rfl, trivial⟩ | exact ⟨rfl, rfl, rfl, trivial⟩); (focus rfl); (focus (simp [-List.map_map, apartO, dropO, killN, obCells, refs_dmap, nofnsD, AV.refs, AV.refsL, AV.nofn, AV.nofns] <;> fail)))); refine k_run ?_) | ((with_reducible refine ev_guard ?_); (with_reducible first | refine guard_t ?_ ?_ rfl | refine guard_f ?_ ?_ rfl) <;> (intro h; (try simp only [h]); (try simp only [nrm] at h) <;> (try ((with_reducible exfalso); omega)))) | ((with_reducible refine ck_split (fun h => ?_) (fun h => ?_)) <;> (try simp only [nrm] at h) <;> (try ((with_reducible exfalso); omega))) | ((with_reducible refine And.intro ?_ ?_); (first | omega | focus (simp; done) | focus (simp; omega) | focus ((repeat' (with_reducible refine And.intro ?_ ?_)) <;> first | omega | rfl | (simp only [go_sem, refsL_app, refs_dmap] <;> fail) | (simp [refsL_app, refs_dmap, AV.refsL, AV.refs] <;> omega)))) | ((with_reducible first | apply hK | (clear hK K; first | apply hK | (clear hK K; first | apply hK | (clear hK K; apply hK)))); clear hK K) | fail)
  refine aw_loopU [4, 5, 10, 13, 14, 15, 16, 17, 18, 19, 20, 21, 22] [9, 10, 19, 21, 22] (fun s : Nat × MkS => [(5, .d (.int s.1)), (4, .bs 22 0 s.2.l.length 1)]) (fun s => [(22, .ds (s.2.l.map D.int)), (9, curO bs s.2.c)]) (fun s => mlN bs s.1 s.2 = A ∧ s.1 + s.2.l.length ≤ 4 ∧ okCur (2 + 2 * s.2.l.length) s.2.c) (fun s => s.1) (n, ⟨c1, []⟩) ⟨hA.symm, by simp only [List.length_nil]; omega, okCur_mono q1 (by simp only [List.length_nil]; omega)⟩ ?_ ?_
  · (refine lessW_of [(10, 22)] rfl ?_ <;> simp only [St.sws, St.sw, swS, swO, AV.sw, AV.swL, OB.sw, swp, St.upd, dropS, dropOs, Less, SubS, SubO, look, lookO, List.elem, List.cons_append, List.nil_append, cond_true, cond_false, and_true, true_and, beq_self_eq_true, ↓reduceIte, Nat.reduceEqDiff, Nat.reduceBEq, Nat.reduceAdd, Nat.reduceMul, Nat.reduceSub, Nat.reduceLT, Nat.reduceLeDiff] <;> try simp)
    all_goals (first | rfl | omega | (simp; done) | (refine ⟨?_, ?_⟩ <;> first | rfl | omega))
  · rintro ⟨k, ⟨c, l⟩⟩ ⟨g1, g2, g3⟩
    simp only at g1 g2 g3
    simp only [St.upd, dropS, dropOs, List.elem, List.cons_append, List.nil_append, cond_true, cond_false, beq_self_eq_true, ↓reduceIte, Nat.reduceEqDiff, Nat.reduceBEq, Nat.reduceAdd, Nat.reduceMul, Nat.reduceSub, Nat.reduceLT, Nat.reduceLeDiff]
    cases k with
    | succ k =>
      rw [mlN] at g1
      simp only at g1
      have u1 := pickV_le hb (n := 7) g3.1
      have u2 := u1.2 (by decide)
      have w1 := okCur_pick (bs := bs) (n := 7) g3
      have d1 := pick_at 9 bs 7 c hb (okCur_mono g3 (by omega))
      generalize pickV bs 7 c = x at *
      generalize pickC bs 7 c = cd at *
      have hs := mlk_snoc l (1 + x)
      repeat' (first | (with_reducible first | refine aw_seq fun K hK => ?_ | refine aw_region (by kernel_rfl) ?_ | refine aw_condk ?_ | refine aw_block ?_) | ((with_reducible refine evg ?_); simp only [go_sem, ↓reduceIte, Nat.reduceEqDiff, Nat.reduceBEq, Nat.reduceAdd, Nat.reduceMul, Nat.reduceSub, Nat.reduceLT, Nat.reduceLeDiff]) | (simp (disch := omega) only [wr, drop_at, str_at, int_at, Int.reduceSub, Int.reduceAdd, Int.reduceToNat, Int.toNat_zero, hs, wr]) | ((with_reducible refine ev_call ?_); (first | (refine call_s d1 ?_ ?_ ?_ ?_ ?_; (focus rfl); (focus first | exact trivial | exact And.intro rfl trivial | exact ⟨rfl, rfl, trivial⟩ | exact ⟨rfl, rfl, rfl, trivial⟩); (focus rfl); (focus (simp [-List.map_map, apartO, dropO, killN, obCells, refs_dmap, nofnsD, AV.refs, AV.refsL, AV.nofn, AV.nofns] <;> fail)))); refine k_run ?_) | ((with_reducible refine ev_guard ?_); (with_reducible first | refine guard_t ?_ ?_ rfl | refine guard_f ?_ ?_ rfl) <;> (intro h; (try simp only [h]); (try simp only [nrm] at h) <;> (try ((with_reducible exfalso); omega)))) | ((with_reducible refine ck_split (fun h => ?_) (fun h => ?_)) <;> (try simp only [nrm] at h) <;> (try ((with_reducible exfalso); omega))) | ((with_reducible refine And.intro ?_ ?_); (first | omega | focus (simp; done) | focus (simp; omega) | focus ((repeat' (with_reducible refine And.intro ?_ ?_)) <;> first | omega | rfl | (simp only [go_sem, refsL_app, refs_dmap] <;> fail) | (simp [refsL_app, refs_dmap, AV.refsL, AV.refs] <;> omega)))) | ((with_reducible first | apply hK | (clear hK K; first | apply hK | (clear hK K; first | apply hK | (clear hK K; apply hK)))); clear hK K) | fail)
      all_goals
        refine ⟨(k, ⟨cd, l ++ [1 + x]⟩), ⟨g1, by simp only [List.length_append, List.length_singleton]; omega, okCur_mono w1 (by simp only [List.length_append, List.length_singleton]; omega)⟩, by simp only; omega, ?_⟩
        simp only [List.length_append, List.length_singleton]
        (refine lessW_of [] rfl ?_ <;> simp only [St.sws, St.sw, swS, swO, AV.sw, AV.swL, OB.sw, swp, St.upd, dropS, dropOs, Less, SubS, SubO, look, lookO, List.elem, List.cons_append, List.nil_append, cond_true, cond_false, and_true, true_and, beq_self_eq_true, ↓reduceIte, Nat.reduceEqDiff, Nat.reduceBEq, Nat.reduceAdd, Nat.reduceMul, Nat.reduceSub, Nat.reduceLT, Nat.reduceLeDiff] <;> try simp)
        all_goals (first | rfl | omega | (simp; done) | (refine ⟨?_, ?_⟩ <;> first | rfl | omega))
    | zero =>
      rw [mlN] at g1
      subst g1
      simp only at b1 t1 s1 hT
      cases o1
      · rw [if_neg (by simp)] at hT
        subst hT
        repeat' (first | (with_reducible first | refine aw_seq fun K hK => ?_ | refine aw_region (by kernel_rfl) ?_ | refine aw_condk ?_ | refine aw_block ?_) | ((with_reducible refine evg ?_); simp only [go_sem, ↓reduceIte, Nat.reduceEqDiff, Nat.reduceBEq, Nat.reduceAdd, Nat.reduceMul, Nat.reduceSub, Nat.reduceLT, Nat.reduceLeDiff]) | (simp (disch := omega) only [wr, drop_at, str_at, int_at, Int.reduceSub, Int.reduceAdd, Int.reduceToNat, Int.toNat_zero, wr]) | ((with_reducible refine ev_call ?_); (first | (refine call_fn t1 rfl ?_) | (refine call_fn2 t1 rfl ?_ ?_; (focus (simp only [ints_raw] <;> fail))) | (refine call_s b1 ?_ ?_ ?_ ?_ ?_; (focus rfl); (focus first | exact trivial | exact And.intro rfl trivial | exact ⟨rfl, rfl, trivial⟩ | exact ⟨rfl, rfl, rfl, trivial⟩); (focus rfl); (focus (simp [-List.map_map, apartO, dropO, killN, obCells, refs_dmap, nofnsD, AV.refs, AV.refsL, AV.nofn, AV.nofns] <;> fail)))); refine k_run ?_) | ((with_reducible refine ev_guard ?_); (with_reducible first | refine guard_t ?_ ?_ rfl | refine guard_f ?_ ?_ rfl) <;> (intro h; (try simp only [h]); (try simp only [nrm] at h) <;> (try ((with_reducible exfalso); omega)))) | ((with_reducible refine ck_split (fun h => ?_) (fun h => ?_)) <;> (try simp only [nrm] at h) <;> (try ((with_reducible exfalso); omega))) | ((with_reducible refine And.intro ?_ ?_); (first | omega | focus (simp; done) | focus (simp; omega) | focus ((repeat' (with_reducible refine And.intro ?_ ?_)) <;> first | omega | rfl | (simp only [go_sem, refsL_app, refs_dmap] <;> fail) | (simp [refsL_app, refs_dmap, AV.refsL, AV.refs] <;> omega)))) | ((with_reducible first | apply hK | (clear hK K; first | apply hK | (clear hK K; first | apply hK | (clear hK K; apply hK)))); clear hK K) | fail)
        all_goals (try omega)
        (first | refine res_tmp rfl (by simp [D.plain, plains]) (by simp) ?_ | refine res_at rfl (by simp [D.plain, plains]) (by simp) ?_ | refine res_two rfl (by simp [D.plain, plains]) (by simp) ?_ | refine res_three rfl (by simp [D.plain, plains]) (by simp) ?_)
        rfl
      · rw [if_pos rfl] at hT
        subst hT
        repeat' (first | (with_reducible first | refine aw_seq fun K hK => ?_ | refine aw_region (by kernel_rfl) ?_ | refine aw_condk ?_ | refine aw_block ?_) | ((with_reducible refine evg ?_); simp only [go_sem, ↓reduceIte, Nat.reduceEqDiff, Nat.reduceBEq, Nat.reduceAdd, Nat.reduceMul, Nat.reduceSub, Nat.reduceLT, Nat.reduceLeDiff]) | (simp (disch := omega) only [wr, drop_at, str_at, int_at, Int.reduceSub, Int.reduceAdd, Int.reduceToNat, Int.toNat_zero, wr]) | ((with_reducible refine ev_call ?_); (first | (refine call_fn t1 rfl ?_) | (refine call_fn2 t1 rfl ?_ ?_; (focus (simp only [ints_raw] <;> fail))) | (refine call_s b1 ?_ ?_ ?_ ?_ ?_; (focus rfl); (focus first | exact trivial | exact And.intro rfl trivial | exact ⟨rfl, rfl, trivial⟩ | exact ⟨rfl, rfl, rfl, trivial⟩); (focus rfl); (focus (simp [-List.map_map, apartO, dropO, killN, obCells, refs_dmap, nofnsD, AV.refs, AV.refsL, AV.nofn, AV.nofns] <;> fail))) | (refine call_s s1 ?_ ?_ ?_ ?_ ?_; (focus rfl); (focus first | exact trivial | exact And.intro rfl trivial | exact ⟨rfl, rfl, trivial⟩ | exact ⟨rfl, rfl, rfl, trivial⟩); (focus rfl); (focus (simp [-List.map_map, apartO, dropO, killN, obCells, refs_dmap, nofnsD, AV.refs, AV.refsL, AV.nofn, AV.nofns] <;> fail)))); refine k_run ?_) | ((with_reducible refine ev_guard ?_); (with_reducible first | refine guard_t ?_ ?_ rfl | refine guard_f ?_ ?_ rfl) <;> (intro h; (try simp only [h]); (try simp only [nrm] at h) <;> (try ((with_reducible exfalso); omega)))) | ((with_reducible refine ck_split (fun h => ?_) (fun h => ?_)) <;> (try simp only [nrm] at h) <;> (try ((with_reducible exfalso); omega))) | ((with_reducible refine And.intro ?_ ?_); (first | omega | focus (simp; done) | focus (simp; omega) | focus ((repeat' (with_reducible refine And.intro ?_ ?_)) <;> first | omega | rfl | (simp only [go_sem, refsL_app, refs_dmap] <;> fail) | (simp [refsL_app, refs_dmap, AV.refsL, AV.refs] <;> omega)))) | ((with_reducible first | apply hK | (clear hK K; first | apply hK | (clear hK K; first | apply hK | (clear hK K; apply hK)))); clear hK K) | fail)
        all_goals (try omega)
        (first | refine res_tmp rfl (by simp [D.plain, plains]) (by simp) ?_ | refine res_at rfl (by simp [D.plain, plains]) (by simp) ?_ | refine res_two rfl (by simp [D.plain, plains]) (by simp) ?_ | refine res_three rfl (by simp [D.plain, plains]) (by simp) ?_)
        rfl

end Go.Proofs.YtdeobicgildamaaGreatDoor
