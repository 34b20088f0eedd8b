/- A drawn person of a family. -/
import Derived.Test.YtdeobicgildamaaGreatDoorDrG
import Derived.WalkKit
import Derived.WalkSpells
import Derived.KernelRfl
namespace Go.Proofs.YtdeobicgildamaaGreatDoor
open Go.RowKit
set_option linter.unusedVariables false
set_option linter.unusedSimpArgs false

attribute [local go_sem] PerV.d PerV.cs perL famD curO codL

attribute [local simp] refs_dmap perC_all perC_plains ints_plain ints_all ints_all1 ints_plain_take curO codL

def p18E (bs : List Int) (l : List PerV) (c : CurV) : CurV := if l.length = 0 then c else pickC bs 20 c

def p18B (bs : List Int) (l : List PerV) (c : CurV) : Bool := if l.length = 0 then true else oneV bs 20 c

def p18V (bs : List Int) (l : List PerV) (c : CurV) : Int := if p18B bs l c = true then amV bs [0, 1, 999] 3 (p18E bs l c) else (l.getD (pickV bs l.length (p18E bs l c)).toNat PerV.zero).id

def p18C (bs : List Int) (l : List PerV) (c : CurV) : CurV := if p18B bs l c = true then pickC bs 3 (p18E bs l c) else pickC bs l.length (p18E bs l c)

theorem p18_ok {bs : List Int} {l : List PerV} {c : CurV} {m : Nat} (h : okCur m c) : okCur (m + 4) (p18C bs l c) := by
  have h1 : okCur (m + 2) (p18E bs l c) := by
    unfold p18E
    split
    · exact okCur_mono h (by omega)
    · exact okCur_pick h
  unfold p18C
  split
  · exact okCur_pick h1
  · exact okCur_pick h1

set_option maxRecDepth 100000 in
theorem pl_DrP_29_3U (l : List Oper) (h : l = opsOf Tryz.f29 3) : planUB l (.pure 2 (.calc 0 (.calc 3 (.two true 1 (.one true 4 (.pure 5 (.one false 6 (.still 7 (.calc 8 (.one true 9 (.still 10 PU.fin))))))) true 4 (.pure 5 (.two true 1 (.one false 6 (.still 7 (.calc 8 (.one true 9 (.still 10 PU.fin))))) false 6 (.one true 1 (.still 7 (.calc 8 (.one true 9 (.still 10 PU.fin))))))))))) [6] = true := by
  subst h
  kernel_rfl

set_option maxRecDepth 100000 in
set_option maxHeartbeats 4000000 in
theorem person_hi (bs : List Int) (l : List PerV) (c : CurV) (hb : okCod bs) (h0 : okCur 100000 c) (hl : l.length ≤ 1000) : FnS Tryz.prog 29 [(5000, curO bs c), (5001, .ds (perC l))] [.bp 5000 0, .ag [.bs 5001 0 l.length 5]] [(5000, curO bs (p18C bs l c)), (5001, .ds (perC l))] (.d (.int (p18V bs l c))) := by
  have hpl : (perC l).length = l.length * 5 := recC_len per_k l
  have hC : p18C bs l c = if p18B bs l c = true then pickC bs 3 (p18E bs l c) else pickC bs l.length (p18E bs l c) := rfl
  have hV : p18V bs l c = if p18B bs l c = true then amV bs [0, 1, 999] 3 (p18E bs l c) else (l.getD (pickV bs l.length (p18E bs l c)).toNat PerV.zero).id := rfl
  have hB : p18B bs l c = if l.length = 0 then true else oneV bs 20 c := rfl
  have hE : p18E bs l c = if l.length = 0 then c else pickC bs 20 c := rfl
  generalize p18C bs l c = C at *
  generalize p18V bs l c = V at *
  generalize p18B bs l c = B at *
  generalize p18E bs l c = c1 at *
  have q0 := okCur_pick (bs := bs) (n := 20) h0
  by_cases hz : l.length = 0
  · rw [if_pos hz] at hB hE
    subst hB hE
    rw [if_pos rfl] at hC hV
    subst hC hV
    have e3 := among_at 5000 14 bs [0, 1, 999] 3 c1 hb (okCur_mono h0 (by omega)) (by decide) (by decide) (by decide) (by decide) (by decide) (by decide)
    refine fns_go Tryz.func29 rfl rfl Tryz.ntmps29 Tryz.results29 (by simp only [slotsA, Nat.reduceAdd]; rfl) (by simp) rfl ?_
    repeat' (first | (with_reducible first | refine aw_seq fun K hK => ?_ | refine aw_region (by kernel_rfl) ?_ | refine aw_condk ?_ | refine aw_block ?_) | ((with_reducible refine ev_aw ?_); first | (refine aw_drawJ (by kernel_rfl) (id := 3) _ _ (by kernel_rfl) (pl_DrP_29_3U _ (by kernel_rfl)) (fun KJ hJ => ?_))) | (with_reducible first | refine ru_four ?_ ?_ ?_ ?_ | refine ru_three ?_ ?_ ?_ | refine ru_two ?_ ?_ | refine rv_split ?_ ?_ | refine rv_two ?_ ?_ | refine rp_two ?_ ?_) | ((with_reducible refine evg ?_); simp only [go_sem, St.clean, cleanO, ↓reduceIte, Nat.reduceEqDiff, Nat.reduceBEq, Nat.reduceAdd, Nat.reduceMul, Nat.reduceSub, Nat.reduceLT, Nat.reduceLeDiff]) | (simp (disch := omega) only [wr, drop_at, str_at, int_at, Int.reduceSub, Int.reduceAdd, Int.reduceToNat, Int.toNat_zero, wr]) | ((with_reducible refine ev_call ?_); (first | (refine call_s e3 ?_ ?_ ?_ ?_ ?_; (focus rfl); (focus first | exact trivial | exact And.intro rfl trivial | exact ⟨rfl, rfl, trivial⟩ | exact ⟨rfl, rfl, rfl, trivial⟩); (focus rfl); (focus (simp [-List.map_map, apartO, dropO, killN, obCells, refs_dmap, nofnsD, AV.refs, AV.refsL, AV.nofn, AV.nofns] <;> fail)))); refine k_run ?_) | ((with_reducible refine ev_guard ?_); (with_reducible first | refine guard_t ?_ ?_ rfl | refine guard_f ?_ ?_ rfl) <;> (intro h; (try simp only [h]); (try simp only [nrm] at h) <;> (try ((with_reducible exfalso); omega)))) | ((with_reducible refine ck_split (fun h => ?_) (fun h => ?_)) <;> (try simp only [nrm] at h) <;> (try ((with_reducible exfalso); omega))) | ((with_reducible refine And.intro ?_ ?_); (first | omega | focus (simp; done) | focus (simp; omega) | focus ((repeat' (with_reducible refine And.intro ?_ ?_)) <;> first | omega | rfl | (simp only [go_sem, refsL_app, refs_dmap] <;> fail) | (simp [refsL_app, refs_dmap, AV.refsL, AV.refs] <;> omega)))) | (with_reducible refine hJ _ (fun K hK => ?_) ?_ <;> clear hJ KJ) | ((with_reducible refine ev_less ?_); (refine ⟨rfl, ?_, ?_⟩ <;> simp only [go_sem, St.clean, cleanO, SubS, SubO, beq_self_eq_true, ↓reduceIte, Nat.reduceEqDiff, Nat.reduceBEq, Nat.reduceAdd, Nat.reduceMul, Nat.reduceSub, Nat.reduceLT, Nat.reduceLeDiff])) | ((with_reducible first | apply hK | (clear hK K; first | apply hK | (clear hK K; first | apply hK | (clear hK K; apply hK)))); clear hK K) | fail)
    all_goals exact ress_tmp (by simp [lensO, lookO, obCells]) ⟨rfl, rfl, trivial⟩ rfl
  · rw [if_neg hz] at hB hE
    have e1 := one_at 5000 bs 20 c hb (okCur_mono h0 (by omega))
    subst hB hE
    cases ho : oneV bs 20 c
    · rw [ho] at e1 hC hV
      simp only [Bool.false_eq_true, if_false] at hC hV
      have p1 := pickV_le hb (n := l.length) q0.1
      have p2 := p1.2 (by omega)
      have e2 := pick_at 5000 bs l.length (pickC bs 20 c) hb (okCur_mono q0 (by omega))
      generalize pickV bs l.length (pickC bs 20 c) = v at *
      generalize pickC bs l.length (pickC bs 20 c) = c2 at *
      generalize pickC bs 20 c = c1 at *
      subst hC
      obtain ⟨k, rfl⟩ := Int.eq_ofNat_of_zero_le p1.1
      rw [Int.toNat_natCast] at hV
      have hk : k < l.length := by omega
      have hg := per_get0 hk
      rw [← hV] at hg
      refine fns_go Tryz.func29 rfl rfl Tryz.ntmps29 Tryz.results29 (by simp only [slotsA, Nat.reduceAdd]; rfl) (by simp) rfl ?_
      repeat' (first | (with_reducible first | refine aw_seq fun K hK => ?_ | refine aw_region (by kernel_rfl) ?_ | refine aw_condk ?_ | refine aw_block ?_) | ((with_reducible refine ev_aw ?_); first | (refine aw_drawJ (by kernel_rfl) (id := 3) _ _ (by kernel_rfl) (pl_DrP_29_3U _ (by kernel_rfl)) (fun KJ hJ => ?_))) | (with_reducible first | refine ru_four ?_ ?_ ?_ ?_ | refine ru_three ?_ ?_ ?_ | refine ru_two ?_ ?_ | refine rv_split ?_ ?_ | refine rv_two ?_ ?_ | refine rp_two ?_ ?_) | ((with_reducible refine evg ?_); simp only [go_sem, St.clean, cleanO, ↓reduceIte, Nat.reduceEqDiff, Nat.reduceBEq, Nat.reduceAdd, Nat.reduceMul, Nat.reduceSub, Nat.reduceLT, Nat.reduceLeDiff]) | (simp (disch := omega) only [wr, drop_at, str_at, int_at, Int.reduceSub, Int.reduceAdd, Int.reduceToNat, Int.toNat_zero, hg, wr]) | ((with_reducible refine ev_call ?_); (first | (refine call_s e1 ?_ ?_ ?_ ?_ ?_; (focus rfl); (focus first | exact trivial | exact And.intro rfl trivial | exact ⟨rfl, rfl, trivial⟩ | exact ⟨rfl, rfl, rfl, trivial⟩); (focus rfl); (focus (simp [-List.map_map, apartO, dropO, killN, obCells, refs_dmap, nofnsD, AV.refs, AV.refsL, AV.nofn, AV.nofns] <;> fail))) | (refine call_s e2 ?_ ?_ ?_ ?_ ?_; (focus rfl); (focus first | exact trivial | exact And.intro rfl trivial | exact ⟨rfl, rfl, trivial⟩ | exact ⟨rfl, rfl, rfl, trivial⟩); (focus rfl); (focus (simp [-List.map_map, apartO, dropO, killN, obCells, refs_dmap, nofnsD, AV.refs, AV.refsL, AV.nofn, AV.nofns] <;> fail)))); refine k_run ?_) | ((with_reducible refine ev_guard ?_); (with_reducible first | refine guard_t ?_ ?_ rfl | refine guard_f ?_ ?_ rfl) <;> (intro h; (try simp only [h]); (try simp only [nrm] at h) <;> (try ((with_reducible exfalso); omega)))) | ((with_reducible refine ck_split (fun h => ?_) (fun h => ?_)) <;> (try simp only [nrm] at h) <;> (try ((with_reducible exfalso); omega))) | ((with_reducible refine And.intro ?_ ?_); (first | omega | focus (simp; done) | focus (simp; omega) | focus ((repeat' (with_reducible refine And.intro ?_ ?_)) <;> first | omega | rfl | (simp only [go_sem, refsL_app, refs_dmap] <;> fail) | (simp [refsL_app, refs_dmap, AV.refsL, AV.refs] <;> omega)))) | (with_reducible refine hJ _ (fun K hK => ?_) ?_ <;> clear hJ KJ) | ((with_reducible refine ev_less ?_); (refine ⟨rfl, ?_, ?_⟩ <;> simp only [go_sem, St.clean, cleanO, SubS, SubO, beq_self_eq_true, ↓reduceIte, Nat.reduceEqDiff, Nat.reduceBEq, Nat.reduceAdd, Nat.reduceMul, Nat.reduceSub, Nat.reduceLT, Nat.reduceLeDiff])) | ((with_reducible first | apply hK | (clear hK K; first | apply hK | (clear hK K; first | apply hK | (clear hK K; apply hK)))); clear hK K) | fail)
      all_goals exact ress_tmp (by simp [lensO, lookO, obCells]) ⟨rfl, rfl, trivial⟩ rfl
    · rw [ho] at e1 hC hV
      rw [if_pos rfl] at hC hV
      subst hC hV
      have e3 := among_at 5000 14 bs [0, 1, 999] 3 (pickC bs 20 c) hb (okCur_mono q0 (by omega)) (by decide) (by decide) (by decide) (by decide) (by decide) (by decide)
      generalize pickC bs 20 c = c1 at *
      refine fns_go Tryz.func29 rfl rfl Tryz.ntmps29 Tryz.results29 (by simp only [slotsA, Nat.reduceAdd]; rfl) (by simp) rfl ?_
      repeat' (first | (with_reducible first | refine aw_seq fun K hK => ?_ | refine aw_region (by kernel_rfl) ?_ | refine aw_condk ?_ | refine aw_block ?_) | ((with_reducible refine ev_aw ?_); first | (refine aw_drawJ (by kernel_rfl) (id := 3) _ _ (by kernel_rfl) (pl_DrP_29_3U _ (by kernel_rfl)) (fun KJ hJ => ?_))) | (with_reducible first | refine ru_four ?_ ?_ ?_ ?_ | refine ru_three ?_ ?_ ?_ | refine ru_two ?_ ?_ | refine rv_split ?_ ?_ | refine rv_two ?_ ?_ | refine rp_two ?_ ?_) | ((with_reducible refine evg ?_); simp only [go_sem, St.clean, cleanO, ↓reduceIte, Nat.reduceEqDiff, Nat.reduceBEq, Nat.reduceAdd, Nat.reduceMul, Nat.reduceSub, Nat.reduceLT, Nat.reduceLeDiff]) | (simp (disch := omega) only [wr, drop_at, str_at, int_at, Int.reduceSub, Int.reduceAdd, Int.reduceToNat, Int.toNat_zero, wr]) | ((with_reducible refine ev_call ?_); (first | (refine call_s e1 ?_ ?_ ?_ ?_ ?_; (focus rfl); (focus first | exact trivial | exact And.intro rfl trivial | exact ⟨rfl, rfl, trivial⟩ | exact ⟨rfl, rfl, rfl, trivial⟩); (focus rfl); (focus (simp [-List.map_map, apartO, dropO, killN, obCells, refs_dmap, nofnsD, AV.refs, AV.refsL, AV.nofn, AV.nofns] <;> fail))) | (refine call_s e3 ?_ ?_ ?_ ?_ ?_; (focus rfl); (focus first | exact trivial | exact And.intro rfl trivial | exact ⟨rfl, rfl, trivial⟩ | exact ⟨rfl, rfl, rfl, trivial⟩); (focus rfl); (focus (simp [-List.map_map, apartO, dropO, killN, obCells, refs_dmap, nofnsD, AV.refs, AV.refsL, AV.nofn, AV.nofns] <;> fail)))); refine k_run ?_) | ((with_reducible refine ev_guard ?_); (with_reducible first | refine guard_t ?_ ?_ rfl | refine guard_f ?_ ?_ rfl) <;> (intro h; (try simp only [h]); (try simp only [nrm] at h) <;> (try ((with_reducible exfalso); omega)))) | ((with_reducible refine ck_split (fun h => ?_) (fun h => ?_)) <;> (try simp only [nrm] at h) <;> (try ((with_reducible exfalso); omega))) | ((with_reducible refine And.intro ?_ ?_); (first | omega | focus (simp; done) | focus (simp; omega) | focus ((repeat' (with_reducible refine And.intro ?_ ?_)) <;> first | omega | rfl | (simp only [go_sem, refsL_app, refs_dmap] <;> fail) | (simp [refsL_app, refs_dmap, AV.refsL, AV.refs] <;> omega)))) | (with_reducible refine hJ _ (fun K hK => ?_) ?_ <;> clear hJ KJ) | ((with_reducible refine ev_less ?_); (refine ⟨rfl, ?_, ?_⟩ <;> simp only [go_sem, St.clean, cleanO, SubS, SubO, beq_self_eq_true, ↓reduceIte, Nat.reduceEqDiff, Nat.reduceBEq, Nat.reduceAdd, Nat.reduceMul, Nat.reduceSub, Nat.reduceLT, Nat.reduceLeDiff])) | ((with_reducible first | apply hK | (clear hK K; first | apply hK | (clear hK K; first | apply hK | (clear hK K; apply hK)))); clear hK K) | fail)
      all_goals exact ress_tmp (by simp [lensO, lookO, obCells]) ⟨rfl, rfl, trivial⟩ rfl

end Go.Proofs.YtdeobicgildamaaGreatDoor
