/- The cross law of marks. -/
import Derived.Test.YtdeobicgildamaaGreatDoorMkF
import Derived.Test.YtdeobicgildamaaGreatDoorMks2
import Derived.Test.YtdeobicgildamaaGreatDoorMkDr
import Derived.Test.YtdeobicgildamaaGreatDoorMkDt
import Derived.Test.YtdeobicgildamaaGreatDoorPm
import Derived.Test.YtdeobicgildamaaGreatDoorMkN
import Derived.Test.YtdeobicgildamaaGreatDoorMkY
import Derived.WalkKit
import Derived.WalkSpells
import Derived.KernelRfl
namespace Go.Proofs.YtdeobicgildamaaGreatDoor
open Go.RowKit
set_option linter.unusedVariables false
set_option linter.unusedSimpArgs false

attribute [local go_sem] PerV.d PerV.cs perL famD codL intL

attribute [local simp] refs_dmap perC_all perC_plains ints_plain ints_all ints_all1 ints_plain_take codL

theorem text_facts (l : List Int) : ∃ (s : ByteArray) (ok : Bool) (L : List Int) (fine : Bool), mtxR l = .tu [.str s, .bool ok] ∧ pmR s = .tu [intL L, .bool fine] ∧ s.size ≤ 1000 ∧ L.length ≤ 6 ∧ (ok = true → fine = true ∧ L = l) := by
  have hL : ∀ s : ByteArray, (pmV s).1.length ≤ 6 := fun s => by
    unfold pmV
    split
    · simp
    · split
      · rename_i h
        have := h.1
        rw [okMarks, Bool.and_eq_true, decide_eq_true_eq] at this
        exact this.2
      · simp
  unfold mtxR
  split
  · rename_i h
    have h6 : l.length ≤ 6 := by
      have := h
      rw [okMarks, Bool.and_eq_true, decide_eq_true_eq] at this
      exact this.2
    have h1 := marksB_small h6
    have h2 := pmV_text h
    exact ⟨_, _, _, _, rfl, rfl, by omega, hL _, fun _ => by rw [h2]; exact ⟨rfl, rfl⟩⟩
  · exact ⟨_, _, _, _, rfl, rfl, by decide, hL _, fun h => by cases h⟩

theorem read_facts (t : ByteArray) : ∃ (m : List Int) (read : Bool) (u : ByteArray) (told : Bool), pmR t = .tu [intL m, .bool read] ∧ mtxR m = .tu [.str u, .bool told] ∧ m.length ≤ 6 ∧ (read = true → told = true ∧ u = t) := by
  have hL : (pmV t).1.length ≤ 6 := by
    unfold pmV
    split
    · simp
    · split
      · rename_i h
        have := h.1
        rw [okMarks, Bool.and_eq_true, decide_eq_true_eq] at this
        exact this.2
      · simp
  obtain ⟨u, told, e⟩ := mtxR_ex (pmV t).1
  refine ⟨(pmV t).1, (pmV t).2, u, told, rfl, e, hL, fun h => ?_⟩
  obtain ⟨h1, h2⟩ := pmV_some h
  rw [mtxR, if_pos h1, h2] at e
  injection e with e
  injection e with e1 e2
  injection e2 with e2
  injection e1 with e1
  injection e2 with e2
  injection e2 with e2
  injection e1 with e1
  exact ⟨e2.symm, e1.symm⟩

set_option maxRecDepth 100000 in
set_option maxHeartbeats 4000000 in
theorem fnMarks_fn (bs : List Int) (hb : ∀ x ∈ bs, 0 ≤ x ∧ x ≤ 255) (hl : bs.length ≤ 9223372036854775807) : FnD Tryz.prog 3 [codL bs] (.bool true) := by
  have e0 := vBig_fn bs hl
  by_cases hbig : 65536 < bs.length
  · rw [decide_eq_true hbig] at e0
    refine fn_go Tryz.func3 rfl rfl Tryz.ntmps3 Tryz.results3 (by simp only [slotsOf, argAV, List.map_cons, List.map_nil, Nat.reduceAdd]; rfl) (by simp) ?_
    repeat' (first | (with_reducible first | refine aw_seq fun K hK => ?_ | refine aw_region (by kernel_rfl) ?_ | refine aw_condk ?_ | refine aw_block ?_) | ((with_reducible refine ev_aw ?_); first | (refine aw_draw (id := 26) (by kernel_rfl) _ _ (by kernel_rfl) (pl_MkN_3_26 _ (by kernel_rfl)) ?_)) | (with_reducible first | refine ru_four ?_ ?_ ?_ ?_ | refine ru_three ?_ ?_ ?_ | refine ru_two ?_ ?_ | refine rv_split ?_ ?_ | refine rv_two ?_ ?_ | refine rp_two ?_ ?_) | ((with_reducible refine evg ?_); simp only [go_sem, St.clean, cleanO, ↓reduceIte, Nat.reduceEqDiff, Nat.reduceBEq, Nat.reduceAdd, Nat.reduceMul, Nat.reduceSub, Nat.reduceLT, Nat.reduceLeDiff]) | (simp (disch := omega) only [wr, drop_at, str_at, int_at, Int.reduceSub, Int.reduceAdd, Int.reduceToNat, Int.toNat_zero, wr]) | ((with_reducible refine ev_call ?_); (first | (refine call_fn e0 rfl ?_)); refine k_run ?_) | ((with_reducible refine ev_guard ?_); (with_reducible first | refine guard_t ?_ ?_ rfl | refine guard_f ?_ ?_ rfl) <;> (intro h; (try simp only [h]); (try simp only [nrm] at h) <;> (try ((with_reducible exfalso); omega)))) | ((with_reducible refine ck_split (fun h => ?_) (fun h => ?_)) <;> (try simp only [nrm] at h) <;> (try ((with_reducible exfalso); omega))) | ((with_reducible refine And.intro ?_ ?_); (first | omega | focus (simp; done) | focus (simp; omega) | focus ((repeat' (with_reducible refine And.intro ?_ ?_)) <;> first | omega | rfl | (simp only [go_sem, refsL_app, refs_dmap] <;> fail) | (simp [refsL_app, refs_dmap, AV.refsL, AV.refs] <;> omega)))) | (with_reducible refine hJ _ (fun K hK => ?_) ?_ <;> clear hJ KJ) | ((with_reducible refine ev_less ?_); (refine ⟨rfl, ?_, ?_⟩ <;> simp only [go_sem, St.clean, cleanO, SubS, SubO, beq_self_eq_true, ↓reduceIte, Nat.reduceEqDiff, Nat.reduceBEq, Nat.reduceAdd, Nat.reduceMul, Nat.reduceSub, Nat.reduceLT, Nat.reduceLeDiff])) | ((with_reducible first | apply hK | (clear hK K; first | apply hK | (clear hK K; first | apply hK | (clear hK K; apply hK)))); clear hK K) | fail)
    (first | refine res_tmp rfl (by simp [D.plain, plains]) (by simp) ?_ | refine res_at rfl (by simp [D.plain, plains]) (by simp) ?_ | refine res_two rfl (by simp [D.plain, plains]) (by simp) ?_ | refine res_three rfl (by simp [D.plain, plains]) (by simp) ?_)
    rfl
  · rw [decide_eq_false hbig] at e0
    have hok : okCod bs := ⟨hb, by omega⟩
    have d1 := drawMT_fn bs hok
    have d2 := drawPM_fn bs hok
    have d3 := drawMTo_fn bs hok
    have hlen := sF_len hok
    have hml := mkT_len hok
    have hts := pmT_size hok
    generalize sF bs = f at *
    generalize tP bs = a at *
    generalize tQ bs = b at *
    generalize tY bs = y at *
    generalize mkT bs = l at *
    generalize pmT bs = t at *
    have c1 := implMarks_fn l (by omega)
    have c2 := specMarks_fn l (by omega)
    obtain ⟨s, ok, L, fine, x1, x2, hs, hL, hf⟩ := text_facts l
    rw [x1] at c1 c2
    have c3 := implPm_fn s (by omega)
    rw [x2] at c3
    have c4 := implPm_fn t (by omega)
    obtain ⟨m, read, u, told, x3, x4, hm, hr⟩ := read_facts t
    rw [x3] at c4
    have c5 := implMarks_fn m (by omega)
    rw [x4] at c5
    have k1 := fnd_le (implMarksTo_fn f a b y (by omega)) (mksN_le _)
    have k2 := specMarksTo_fn f a b y (by omega)
    have k3 := implLine_fn f a b (by omega)
    have k4 := fun id => implMark_fn f id y (by omega)
    cases hw : mksW f a b y with
    | none =>
      rw [hw] at k1 k2
      exact fnMarksN_fn bs l L m s t u ok fine read told f a b y hml hs hL hm hts e0 d1 d2 d3 c1 c2 c3 c4 c5 hf hr k1 k2
    | some out =>
      rw [hw] at k1 k2
      obtain ⟨Ln, y1, y2, y3, y4, y5, y6, nz, z0, z1, z2⟩ := marks_facts hw
      rw [y1] at k3
      exact fnMarksY_fn bs l L m s t u ok fine read told f a b y hml hs hL hm hts e0 d1 d2 d3 c1 c2 c3 c4 c5 hf hr out Ln nz y2 (by omega) y4 y5 y6 z0 z1 z2 k1 k2 k3 k4

end Go.Proofs.YtdeobicgildamaaGreatDoor
