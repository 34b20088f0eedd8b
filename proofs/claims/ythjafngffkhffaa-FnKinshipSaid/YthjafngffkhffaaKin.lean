/- The program's KinshipOf: the best pair of steps to a common ancestor, in whatever order the map hands its entries out. -/
import Derived.Test.YthjafngffkhffaaSteps
import Derived.WalkKit
import Derived.WalkSpells
import Derived.KernelRfl
namespace Go.Proofs.Ythjafngffkhffaa
open Go.RowKit
set_option linter.unusedVariables false
set_option linter.unusedSimpArgs false

attribute [local go_sem] PerV.d PerV.cs perL famD intL

attribute [local simp] refs_dmap perC_all perC_plains ints_plain ints_all ints_all1 ints_plain_take

theorem steps_at (l : List PerV) (id : Int) (s : Nat) (hok : okFam l = true) (hid : 0 ≤ findP l id) : FnS Try.prog 70 [] [.d (.int id), .fc 66 [.d (famD l)] []] [(s, .mp (mpI (bfsI l id)))] (.rf s false) := by
  have h := FnS.sw 12 s (steps_s l id hok hid)
  simpa only [swO, AV.swL, AV.sw, OB.sw, swp, if_true] using h

def kinStep (Lb : List (Int × Int)) (z : Int × Int × Bool) (p : Int × Int) : Int × Int × Bool :=
  match lkI p.1 Lb with
  | none => z
  | some o => if z.2.2 = false ∨ p.2 + o < z.1 + z.2.1 ∨ (p.2 + o = z.1 + z.2.1 ∧ p.2 < z.1) then (p.2, o, true) else z

def kinF (La Lb : List (Int × Int)) : List Nat → Int × Int × Bool
  | [] => (0, 0, false)
  | i :: r => kinStep Lb (kinF La Lb r) (La.getD i (0, 0))

structure Best (La Lb : List (Int × Int)) (S : List Nat) (z : Int × Int × Bool) : Prop where
  no : z.2.2 = false → z.1 = 0 ∧ z.2.1 = 0 ∧ ∀ i ∈ S, lkI (La.getD i (0, 0)).1 Lb = none
  ex : z.2.2 = true → ∃ i ∈ S, lkI (La.getD i (0, 0)).1 Lb = some z.2.1 ∧ (La.getD i (0, 0)).2 = z.1
  le : z.2.2 = true → ∀ i ∈ S, ∀ o, lkI (La.getD i (0, 0)).1 Lb = some o → z.1 + z.2.1 < (La.getD i (0, 0)).2 + o ∨ (z.1 + z.2.1 = (La.getD i (0, 0)).2 + o ∧ z.1 ≤ (La.getD i (0, 0)).2)

theorem kinF_best (La Lb : List (Int × Int)) : ∀ S, Best La Lb S (kinF La Lb S)
  | [] => ⟨fun _ => ⟨rfl, rfl, by simp⟩, fun h => (by cases h), fun h => (by cases h)⟩
  | i :: r => by
    have ih := kinF_best La Lb r
    simp only [kinF]
    generalize kinF La Lb r = z at ih ⊢
    obtain ⟨x, y, f⟩ := z
    unfold kinStep
    cases hl : lkI (La.getD i (0, 0)).1 Lb with
    | none =>
      refine ⟨fun h => ⟨(ih.no h).1, (ih.no h).2.1, fun k hk => ?_⟩, fun h => ?_, fun h k hk o ho => ?_⟩
      · rcases List.mem_cons.1 hk with rfl | hk
        · exact hl
        · exact (ih.no h).2.2 k hk
      · obtain ⟨k, h1, h2⟩ := ih.ex h
        exact ⟨k, by simp [h1], h2⟩
      · rcases List.mem_cons.1 hk with rfl | hk
        · rw [hl] at ho; cases ho
        · exact ih.le h k hk o ho
    | some o =>
      simp only
      split
      · rename_i hc
        refine ⟨fun h => (by cases h), fun _ => ⟨i, by simp, hl, rfl⟩, fun _ k hk o' ho' => ?_⟩
        rcases List.mem_cons.1 hk with rfl | hk
        · rw [hl] at ho'; cases ho'
          exact .inr ⟨rfl, Int.le_refl _⟩
        · cases f with
          | false =>
            have := (ih.no rfl).2.2 k hk
            rw [this] at ho'; cases ho'
          | true =>
            have := ih.le rfl k hk o' ho'
            simp only at this hc ⊢
            rcases hc with hc | hc | hc
            · cases hc
            · omega
            · omega
      · rename_i hc
        simp only [not_or] at hc
        cases f with
        | false => exact absurd rfl hc.1
        | true =>
          refine ⟨fun h => (by cases h), fun h => ?_, fun h k hk o' ho' => ?_⟩
          · obtain ⟨k, h1, h2⟩ := ih.ex h
            exact ⟨k, by simp [h1], h2⟩
          · rcases List.mem_cons.1 hk with rfl | hk
            · rw [hl] at ho'; cases ho'
              simp only at hc ⊢
              omega
            · exact ih.le h k hk o' ho'

theorem best_one {La Lb : List (Int × Int)} {S T : List Nat} (hst : ∀ i, i ∈ S ↔ i ∈ T) {z u : Int × Int × Bool} (hz : Best La Lb S z) (hu : Best La Lb T u) : z = u := by
  obtain ⟨x, y, f⟩ := z
  obtain ⟨x', y', f'⟩ := u
  cases f with
  | false =>
    obtain ⟨h1, h2, h3⟩ := hz.no rfl
    simp only at h1 h2
    cases f' with
    | false =>
      obtain ⟨g1, g2, _⟩ := hu.no rfl
      simp only at g1 g2
      rw [h1, h2, g1, g2]
    | true =>
      obtain ⟨i, hi, h4, _⟩ := hu.ex rfl
      rw [h3 i ((hst i).2 hi)] at h4
      cases h4
  | true =>
    obtain ⟨i, hi, h4, h5⟩ := hz.ex rfl
    cases f' with
    | false =>
      rw [(hu.no rfl).2.2 i ((hst i).1 hi)] at h4
      cases h4
    | true =>
      obtain ⟨k, hk, h6, h7⟩ := hu.ex rfl
      have a1 := hz.le rfl k ((hst k).2 hk) _ h6
      have a2 := hu.le rfl i ((hst i).1 hi) _ h4
      simp only at h4 h5 h6 h7 a1 a2
      have : x = x' ∧ y = y' := by omega
      rw [this.1, this.2]

def kinR (La Lb : List (Int × Int)) : Int × Int × Bool := kinF La Lb (List.range La.length)

theorem nodupN_le : ∀ (zs ids : List Nat), zs.Nodup → (∀ a ∈ zs, a ∈ ids) → zs.length ≤ ids.length
  | [], ids, _, _ => by simp
  | a :: zs, ids, hn, hs => by
    rw [List.nodup_cons] at hn
    have ha := hs a (by simp)
    have := nodupN_le zs (ids.erase a) hn.2 (fun b hb => (List.mem_erase_of_ne (fun (e : b = a) => hn.1 (by rw [← e]; exact hb))).2 (hs b (by simp [hb])))
    rw [List.length_erase_of_mem ha] at this
    have := List.length_pos_of_mem ha
    simp only [List.length_cons]
    omega

set_option maxRecDepth 100000 in
theorem pl_Kin_29_3U (l : List Oper) (h : l = opsOf Try.f29 3) : planUB l (.still 0 (.still 4 (.two true 1 (.two true 2 (.two false 3 (.one true 5 (.one true 6 (.one false 7 (.still 8 (.still 9 PU.fin))))) true 5 (.two false 3 (.one true 6 (.one false 7 (.still 8 (.still 9 PU.fin)))) true 6 (.one false 3 (.one false 7 (.still 8 (.still 9 PU.fin)))))) true 5 (.two true 2 (.two false 3 (.one true 6 (.one false 7 (.still 8 (.still 9 PU.fin)))) true 6 (.one false 3 (.one false 7 (.still 8 (.still 9 PU.fin))))) true 6 (.one true 2 (.one false 3 (.one false 7 (.still 8 (.still 9 PU.fin))))))) true 5 (.two true 1 (.two true 2 (.two false 3 (.one true 6 (.one false 7 (.still 8 (.still 9 PU.fin)))) true 6 (.one false 3 (.one false 7 (.still 8 (.still 9 PU.fin))))) true 6 (.one true 2 (.one false 3 (.one false 7 (.still 8 (.still 9 PU.fin)))))) true 6 (.one true 1 (.one true 2 (.one false 3 (.one false 7 (.still 8 (.still 9 PU.fin)))))))))) [3, 7] = true := by
  subst h
  kernel_rfl

set_option maxRecDepth 100000 in
set_option maxHeartbeats 4000000 in
theorem kinshipOf_no (l : List PerV) (a b : Int) (hl : l.length ≤ 9223372036854775807) (h : (askF l a && askF l b) = false) : FnD Try.prog 29 [famD l, .int a, .int b] (.tu [.int 0, .int 0, .bool false]) := by
  have e1 := has_fn l a hl
  have e2 := has_fn l b hl
  cases ha : askF l a
  all_goals
    cases hb : askF l b
    all_goals
      rw [ha] at e1
      rw [hb] at e2
      first
        | (rw [ha, hb] at h; cases h; done)
        | (refine fn_go Try.func29 rfl rfl Try.ntmps29 Try.results29 (by simp only [slotsOf, argAV, List.map_cons, List.map_nil, Nat.reduceAdd]; rfl) (by simp) ?_
           repeat' (first | (with_reducible first | refine aw_seq fun K hK => ?_ | refine aw_region (by kernel_rfl) ?_ | refine aw_condk ?_ | refine aw_block ?_) | ((with_reducible refine ev_aw ?_); first | (refine aw_drawJ (by kernel_rfl) (id := 3) _ _ (by kernel_rfl) (pl_Kin_29_3U _ (by kernel_rfl)) (fun KJ hJ => ?_))) | (with_reducible first | refine ru_four ?_ ?_ ?_ ?_ | refine ru_three ?_ ?_ ?_ | refine ru_two ?_ ?_ | refine rv_split ?_ ?_ | refine rv_two ?_ ?_ | refine rp_two ?_ ?_) | ((with_reducible refine evg ?_); simp only [go_sem, St.clean, cleanO, ↓reduceIte, Nat.reduceEqDiff, Nat.reduceBEq, Nat.reduceAdd, Nat.reduceMul, Nat.reduceSub, Nat.reduceLT, Nat.reduceLeDiff]) | ((with_reducible refine ev_call ?_); (first | (refine call_fn e1 rfl ?_) | (refine call_fn e2 rfl ?_)); refine k_run ?_) | ((with_reducible refine ev_guard ?_); (with_reducible first | refine guard_t ?_ ?_ rfl | refine guard_f ?_ ?_ rfl) <;> (intro h; (try simp only [h]); (try simp only [nrm] at h))) | ((with_reducible refine ck_split (fun h => ?_) (fun h => ?_)) <;> (try simp only [nrm] at h)) | ((with_reducible refine And.intro ?_ ?_); (first | omega | focus (simp; done) | focus (simp; omega) | focus ((repeat' (with_reducible refine And.intro ?_ ?_)) <;> first | omega | rfl | (simp only [go_sem, refsL_app, refs_dmap] <;> fail) | (simp [refsL_app, refs_dmap, AV.refsL, AV.refs] <;> omega)))) | (with_reducible refine hJ _ (fun K hK => ?_) ?_ <;> clear hJ KJ) | ((with_reducible refine ev_less ?_); (refine ⟨rfl, ?_, ?_⟩ <;> simp only [go_sem, St.clean, cleanO, SubS, SubO, beq_self_eq_true, ↓reduceIte, Nat.reduceEqDiff, Nat.reduceBEq, Nat.reduceAdd, Nat.reduceMul, Nat.reduceSub, Nat.reduceLT, Nat.reduceLeDiff])) | ((with_reducible first | apply hK | (clear hK K; first | apply hK | (clear hK K; first | apply hK | (clear hK K; apply hK)))); clear hK K) | (simp (disch := omega) only [wr, drop_at, str_at, int_at, Int.reduceSub, Int.reduceAdd, Int.reduceToNat, Int.toNat_zero]) | fail)
           all_goals (first | refine res_tmp rfl (by simp [D.plain, plains]) (by simp) ?_ | refine res_at rfl (by simp [D.plain, plains]) (by simp) ?_ | refine res_two rfl (by simp [D.plain, plains]) (by simp) ?_ | refine res_three rfl (by simp [D.plain, plains]) (by simp) ?_ | skip)
           all_goals rfl)

theorem kinF_bnd {La Lb : List (Int × Int)} {m : Nat} (ha : ∀ p ∈ La, 0 ≤ p.2 ∧ p.2 ≤ m) (hb : ∀ p ∈ Lb, 0 ≤ p.2 ∧ p.2 ≤ m) : ∀ S : List Nat, (∀ i ∈ S, i < La.length) → 0 ≤ (kinF La Lb S).1 ∧ (kinF La Lb S).1 ≤ m ∧ 0 ≤ (kinF La Lb S).2.1 ∧ (kinF La Lb S).2.1 ≤ m
  | [], _ => by simp [kinF]
  | i :: r, h => by
    have ih := kinF_bnd ha hb r (fun k hk => h k (by simp [hk]))
    simp only [kinF, kinStep]
    split
    · exact ih
    · rename_i o ho
      split
      · have h1 := hb _ (lkI_some ho)
        have h2 := ha _ (getD_key (h i (by simp)))
        exact ⟨h2.1, h2.2, h1.1, h1.2⟩
      · exact ih

set_option maxRecDepth 100000 in
set_option maxHeartbeats 4000000 in
theorem kinshipOf_yes (l : List PerV) (a b : Int) (hl : l.length ≤ 1048576) (ha : askF l a = true) (hb : askF l b = true) : FnD Try.prog 29 [famD l, .int a, .int b] (.tu [.int (kinR (bfsI l a) (bfsI l b)).1, .int (kinR (bfsI l a) (bfsI l b)).2.1, .bool (kinR (bfsI l a) (bfsI l b)).2.2]) := by
  have e1 := has_fn l a (by omega)
  have e2 := has_fn l b (by omega)
  rw [ha] at e1
  rw [hb] at e2
  obtain ⟨hok, ha⟩ := askF_iff.1 ha
  obtain ⟨_, hb⟩ := askF_iff.1 hb
  have hlen := okFam_len hok
  have e3 := steps_at l a 31 hok ha
  have e4 := steps_at l b 35 hok hb
  have hA := (bfsI_ok hok ha).2
  have hB := (bfsI_ok hok hb).2
  have hAl := okB_len (bfsI_ok hok ha)
  generalize bfsI l a = La at *
  generalize bfsI l b = Lb at *
  refine fn_go Try.func29 rfl rfl Try.ntmps29 Try.results29 (by simp only [slotsOf, argAV, List.map_cons, List.map_nil, Nat.reduceAdd]; rfl) (by simp) ?_
  repeat' (first | (with_reducible first | refine aw_seq fun K hK => ?_ | refine aw_region (by kernel_rfl) ?_ | refine aw_condk ?_ | refine aw_block ?_) | ((with_reducible refine ev_aw ?_); first | (refine aw_drawJ (by kernel_rfl) (id := 3) _ _ (by kernel_rfl) (pl_Kin_29_3U _ (by kernel_rfl)) (fun KJ hJ => ?_))) | (with_reducible first | refine ru_four ?_ ?_ ?_ ?_ | refine ru_three ?_ ?_ ?_ | refine ru_two ?_ ?_ | refine rv_split ?_ ?_ | refine rv_two ?_ ?_ | refine rp_two ?_ ?_) | ((with_reducible refine evg ?_); simp only [go_sem, St.clean, cleanO, ↓reduceIte, Nat.reduceEqDiff, Nat.reduceBEq, Nat.reduceAdd, Nat.reduceMul, Nat.reduceSub, Nat.reduceLT, Nat.reduceLeDiff]) | ((with_reducible refine ev_call ?_); (first | (refine call_fn e1 rfl ?_) | (refine call_fn e2 rfl ?_) | (refine call_s e3 ?_ ?_ ?_ ?_ ?_; (focus rfl); (focus first | exact trivial | exact And.intro rfl trivial | exact ⟨rfl, rfl, trivial⟩ | exact ⟨rfl, rfl, rfl, trivial⟩); (focus rfl); (focus (simp [-List.map_map, apartO, dropO, killN, obCells, refs_dmap, nofnsD, AV.refs, AV.refsL, AV.nofn, AV.nofns] <;> fail))) | (refine call_s e4 ?_ ?_ ?_ ?_ ?_; (focus rfl); (focus first | exact trivial | exact And.intro rfl trivial | exact ⟨rfl, rfl, trivial⟩ | exact ⟨rfl, rfl, rfl, trivial⟩); (focus rfl); (focus (simp [-List.map_map, apartO, dropO, killN, obCells, refs_dmap, nofnsD, AV.refs, AV.refsL, AV.nofn, AV.nofns] <;> fail)))); refine k_run ?_) | ((with_reducible refine ev_guard ?_); (with_reducible first | refine guard_t ?_ ?_ rfl | refine guard_f ?_ ?_ rfl) <;> (intro h; (try simp only [h]); (try simp only [nrm] at h))) | ((with_reducible refine ck_split (fun h => ?_) (fun h => ?_)) <;> (try simp only [nrm] at h)) | ((with_reducible refine And.intro ?_ ?_); (first | omega | focus (simp; done) | focus (simp; omega) | focus ((repeat' (with_reducible refine And.intro ?_ ?_)) <;> first | omega | rfl | (simp only [go_sem, refsL_app, refs_dmap] <;> fail) | (simp [refsL_app, refs_dmap, AV.refsL, AV.refs] <;> omega)))) | (with_reducible refine hJ _ (fun K hK => ?_) ?_ <;> clear hJ KJ) | ((with_reducible refine ev_less ?_); (refine ⟨rfl, ?_, ?_⟩ <;> simp only [go_sem, St.clean, cleanO, SubS, SubO, beq_self_eq_true, ↓reduceIte, Nat.reduceEqDiff, Nat.reduceBEq, Nat.reduceAdd, Nat.reduceMul, Nat.reduceSub, Nat.reduceLT, Nat.reduceLeDiff])) | ((with_reducible first | apply hK | (clear hK K; first | apply hK | (clear hK K; first | apply hK | (clear hK K; apply hK)))); clear hK K) | (simp (disch := omega) only [wr, drop_at, str_at, int_at, Int.reduceSub, Int.reduceAdd, Int.reduceToNat, Int.toNat_zero]) | fail)
  refine aw_loopU [11, 12, 13, 14, 15, 16, 17, 38, 39, 40, 41, 42, 43, 44, 45, 46, 47, 48, 49, 50, 51, 52, 53, 54, 55, 56, 57, 58, 59, 60, 61, 62, 63, 64, 65, 66, 67, 68, 69, 70, 71, 72, 73, 74, 75, 76, 77, 78] [37] (fun s : List Nat => [(11, .d (.int (kinF La Lb s).1)), (12, .d (.int (kinF La Lb s).2.1)), (13, .d (.bool (kinF La Lb s).2.2))]) (fun s => [(37, .it 31 La.length s)]) (fun s => s.Nodup ∧ ∀ i ∈ s, i < La.length) (fun s => La.length - s.length) [] ⟨by simp, by simp⟩ ?_ ?_
  · (refine lessW_of [] rfl ?_ <;> simp only [St.sws, St.sw, swS, swO, AV.sw, AV.swL, OB.sw, swp, St.upd, dropS, dropOs, Less, SubS, SubO, look, lookO, List.elem, List.cons_append, List.nil_append, cond_true, cond_false, and_true, true_and, beq_self_eq_true, ↓reduceIte, Nat.reduceEqDiff, Nat.reduceBEq, Nat.reduceAdd, Nat.reduceMul, Nat.reduceSub, Nat.reduceLT, Nat.reduceLeDiff] <;> try simp)
    exact ⟨rfl, rfl, rfl⟩
  · rintro S ⟨g1, g2⟩
    have hob : ∀ k, 0 ≤ (lkI k Lb).getD 0 ∧ (lkI k Lb).getD 0 ≤ (l.length + 1 : Nat) := fun k => by
      cases hk : lkI k Lb with
      | none => simp only [Option.getD_none]; omega
      | some o => exact hB _ (lkI_some hk)
    have hbd := kinF_bnd hA hB S g2
    have hsl := nodupN_le S (List.range La.length) g1 (fun i hi => List.mem_range.2 (g2 i hi))
    rw [List.length_range] at hsl
    have hstep : ∀ i, kinF La Lb (i :: S) = kinStep Lb (kinF La Lb S) (La.getD i (0, 0)) := fun _ => rfl
    generalize hz : kinF La Lb S = z at *
    obtain ⟨x, y, f⟩ := z
    simp only at hbd
    simp only [St.upd, dropS, dropOs, List.elem, List.cons_append, List.nil_append, cond_true, cond_false, beq_self_eq_true, ↓reduceIte, Nat.reduceEqDiff, Nat.reduceBEq, Nat.reduceAdd, Nat.reduceMul, Nat.reduceSub, Nat.reduceLT, Nat.reduceLeDiff]
    repeat' (first | (with_reducible first | refine aw_seq fun K hK => ?_ | refine aw_region (by kernel_rfl) ?_ | refine aw_condk ?_ | refine aw_block ?_) | ((with_reducible refine ev_aw ?_); first | (refine aw_drawJ (by kernel_rfl) (id := 3) _ _ (by kernel_rfl) (pl_Kin_29_3U _ (by kernel_rfl)) (fun KJ hJ => ?_))) | (with_reducible first | refine ru_four ?_ ?_ ?_ ?_ | refine ru_three ?_ ?_ ?_ | refine ru_two ?_ ?_ | refine rv_split ?_ ?_ | refine rv_two ?_ ?_ | refine rp_two ?_ ?_) | ((with_reducible refine evg ?_); simp only [go_sem, St.clean, cleanO, ↓reduceIte, Nat.reduceEqDiff, Nat.reduceBEq, Nat.reduceAdd, Nat.reduceMul, Nat.reduceSub, Nat.reduceLT, Nat.reduceLeDiff]) | (simp (disch := omega) only [wr, drop_at, str_at, int_at, Int.reduceSub, Int.reduceAdd, Int.reduceToNat, Int.toNat_zero, mpI_get hp, wr]) | ((with_reducible refine ev_nxt ?_); refine next_ints rfl rfl rfl (fun i p hp hi => k_run ?_) (fun hall => k_run ?_)) | ((with_reducible refine ev_guard ?_); (with_reducible first | refine guard_t ?_ ?_ rfl | refine guard_f ?_ ?_ rfl) <;> (intro h; (try simp only [h]); (try simp only [nrm] at h) <;> (try ((with_reducible exfalso); omega)))) | ((with_reducible refine ck_split (fun h => ?_) (fun h => ?_)) <;> (try simp only [nrm] at h) <;> (try ((with_reducible exfalso); omega))) | ((with_reducible refine And.intro ?_ ?_); (first | omega | focus (simp; done) | focus (simp; omega) | focus ((repeat' (with_reducible refine And.intro ?_ ?_)) <;> first | omega | rfl | (simp only [go_sem, refsL_app, refs_dmap] <;> fail) | (simp [refsL_app, refs_dmap, AV.refsL, AV.refs] <;> omega)))) | (with_reducible refine hJ _ (fun K hK => ?_) ?_ <;> clear hJ KJ) | ((with_reducible refine ev_less ?_); (refine ⟨rfl, ?_, ?_⟩ <;> simp only [go_sem, St.clean, cleanO, SubS, SubO, beq_self_eq_true, ↓reduceIte, Nat.reduceEqDiff, Nat.reduceBEq, Nat.reduceAdd, Nat.reduceMul, Nat.reduceSub, Nat.reduceLT, Nat.reduceLeDiff])) | ((with_reducible first | apply hK | (clear hK K; first | apply hK | (clear hK K; first | apply hK | (clear hK K; apply hK)))); clear hK K) | fail)
    any_goals (
      have h7 := hA p (List.mem_of_getElem? hp)
      have h8 := hob p.1
      have h9 : La.getD i (0, 0) = p := by rw [List.getD_eq_getElem?_getD, hp]; rfl
      have h10 := (List.getElem?_eq_some_iff.1 hp).1
      have hw1 : IntKind.i64.wrap (p.2 + (lkI p.1 Lb).getD 0) = p.2 + (lkI p.1 Lb).getD 0 := wr (by omega) (by omega)
      have hw2 : IntKind.i64.wrap (x + y) = x + y := wr (by omega) (by omega)
      have h11 := nodupN_le (i :: S) (List.range La.length) (List.nodup_cons.2 ⟨hi, g1⟩) (fun k hk => by
        rcases List.mem_cons.1 hk with rfl | hk
        · exact List.mem_range.2 h10
        · exact List.mem_range.2 (g2 k hk))
      rw [List.length_range, List.length_cons] at h11
      refine ⟨i :: S, ⟨List.nodup_cons.2 ⟨hi, g1⟩, fun k hk => by
        rcases List.mem_cons.1 hk with rfl | hk
        · exact h10
        · exact g2 k hk⟩, by simp only [List.length_cons]; omega, ?_⟩
      have hk := hstep i
      rw [h9, kinStep] at hk
      clear hstep hz e1 e2 e3 e4 hA hB hob h9
      generalize lkI p.1 Lb = q at *
      generalize kinF La Lb (i :: S) = z at *
      cases q with
      | none =>
        first
          | (subst hk; (refine lessW_of [] rfl ?_ <;> simp only [St.sws, St.sw, swS, swO, AV.sw, AV.swL, OB.sw, swp, St.upd, dropS, dropOs, Less, SubS, SubO, look, lookO, List.elem, List.cons_append, List.nil_append, cond_true, cond_false, and_true, true_and, beq_self_eq_true, ↓reduceIte, Nat.reduceEqDiff, Nat.reduceBEq, Nat.reduceAdd, Nat.reduceMul, Nat.reduceSub, Nat.reduceLT, Nat.reduceLeDiff] <;> try simp); done)
          | (exfalso; simp_all; done)
          | (exfalso; simp_all; omega)
      | some o =>
        simp only [Option.getD_some] at *
        cases f
        · simp only [true_or, if_true] at hk
          first
            | (subst hk; (refine lessW_of [] rfl ?_ <;> simp only [St.sws, St.sw, swS, swO, AV.sw, AV.swL, OB.sw, swp, St.upd, dropS, dropOs, Less, SubS, SubO, look, lookO, List.elem, List.cons_append, List.nil_append, cond_true, cond_false, and_true, true_and, beq_self_eq_true, ↓reduceIte, Nat.reduceEqDiff, Nat.reduceBEq, Nat.reduceAdd, Nat.reduceMul, Nat.reduceSub, Nat.reduceLT, Nat.reduceLeDiff] <;> try simp); done)
            | (exfalso; simp_all; done)
        · first
            | (rw [if_pos (by simp; omega)] at hk; subst hk; (refine lessW_of [] rfl ?_ <;> simp only [St.sws, St.sw, swS, swO, AV.sw, AV.swL, OB.sw, swp, St.upd, dropS, dropOs, Less, SubS, SubO, look, lookO, List.elem, List.cons_append, List.nil_append, cond_true, cond_false, and_true, true_and, beq_self_eq_true, ↓reduceIte, Nat.reduceEqDiff, Nat.reduceBEq, Nat.reduceAdd, Nat.reduceMul, Nat.reduceSub, Nat.reduceLT, Nat.reduceLeDiff] <;> try simp); done)
            | (rw [if_neg (by simp; omega)] at hk; subst hk; (refine lessW_of [] rfl ?_ <;> simp only [St.sws, St.sw, swS, swO, AV.sw, AV.swL, OB.sw, swp, St.upd, dropS, dropOs, Less, SubS, SubO, look, lookO, List.elem, List.cons_append, List.nil_append, cond_true, cond_false, and_true, true_and, beq_self_eq_true, ↓reduceIte, Nat.reduceEqDiff, Nat.reduceBEq, Nat.reduceAdd, Nat.reduceMul, Nat.reduceSub, Nat.reduceLT, Nat.reduceLeDiff] <;> try simp); done)
            | (exfalso; simp_all; done))
    · (first | refine res_tmp rfl (by simp [D.plain, plains]) (by simp) ?_ | refine res_at rfl (by simp [D.plain, plains]) (by simp) ?_ | refine res_two rfl (by simp [D.plain, plains]) (by simp) ?_ | refine res_three rfl (by simp [D.plain, plains]) (by simp) ?_)
      have hk : kinR La Lb = (x, y, f) := by
        rw [kinR, ← hz]
        exact best_one (fun i => ⟨fun h => hall i (List.mem_range.1 h), fun h => List.mem_range.2 (g2 i h)⟩) (kinF_best _ _ _) (kinF_best _ _ _)
      rw [hk]

end Go.Proofs.Ythjafngffkhffaa
