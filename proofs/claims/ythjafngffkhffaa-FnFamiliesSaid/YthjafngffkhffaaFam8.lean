/- Generations: the greatest number of steps to parents or to children. -/
import Derived.Test.YthjafngffkhffaaFam6
import Derived.Test.YthjafngffkhffaaFam5
import Derived.Test.YthjafngffkhffaaOkL
import Derived.WalkKit
import Derived.WalkSpells
import Derived.KernelRfl
namespace Go.Proofs.Ythjafngffkhffaa
open Go.RowKit
set_option linter.unusedVariables false
set_option linter.unusedSimpArgs false

attribute [local go_sem] PerV.d PerV.cs perL famD intL

attribute [local simp] perC_all perC_plains ints_plain ints_all ints_all1 ints_plain_take

def stepM (f : Int → Int) (m o : Int) : Int := if 1 + f o > m then 1 + f o else m

def farF (nx : Int → List Int) : Nat → Int → Int
  | 0, _ => 0
  | n + 1, id => (nx id).foldl (stepM (farF nx n)) 0

theorem foldM_le {f : Int → Int} {b : Int} (hf : ∀ o, 0 ≤ f o ∧ 1 + f o ≤ b) : ∀ (l : List Int) (m : Int), 0 ≤ m ∧ m ≤ b → 0 ≤ l.foldl (stepM f) m ∧ l.foldl (stepM f) m ≤ b
  | [], m, h => h
  | o :: l, m, h => by
    refine foldM_le hf l _ ?_
    have := hf o
    unfold stepM
    split <;> omega

theorem farF_le (nx : Int → List Int) : ∀ (n : Nat) (id : Int), 0 ≤ farF nx n id ∧ farF nx n id ≤ n
  | 0, id => ⟨Int.le_refl _, Int.le_refl _⟩
  | n + 1, id => by
    have := foldM_le (f := farF nx n) (b := n + 1) (fun o => by have := farF_le nx n o; omega) (nx id) 0 (by omega)
    rw [farF]
    omega

theorem foldM_next {f : Int → Int} {l : List Int} {i : Nat} (h : i < l.length) : (l.take (i + 1)).foldl (stepM f) 0 = stepM f ((l.take i).foldl (stepM f) 0) (l.getD i 0) := by
  rw [take_next 0 h, List.foldl_append]
  rfl

def hNx (nx : Int → List Int) : List D → D
  | [.v (.int .i64 id)] => intL (nx id)
  | _ => .bool false

theorem hNx_at {nx : Int → List Int} {id : Int} : hNx nx [.int id] = .ls 1 (nx id).length ((nx id).map D.int) := rfl

def isG (g : Int → Prop) (ds : List D) : Prop := ∃ id : Int, ds = [.int id] ∧ g id

set_option maxRecDepth 100000 in
set_option maxHeartbeats 4000000 in
theorem farthest_fn (nx : Int → List Int) (g : Int → Prop) (G : Nat → Int → Prop) (h0 : ∀ id, ¬ G 0 id) (h1 : ∀ n id, G (n + 1) id → g id ∧ ∀ o ∈ nx id, G n o) (hl : ∀ id, (nx id).length ≤ 1000) : ∀ (n : Nat) (id : Int), n ≤ 100000 → G n id → Fn Try.prog 73 [.d (.int id), .fn (isG g) (hNx nx)] (.int (farF nx n id)) := by
  intro n
  induction n with
  | zero => exact fun id _ h => absurd h (h0 id)
  | succ n ih =>
    intro id hn hG
    obtain ⟨q1, q2⟩ := h1 n id hG
    have hll := hl id
    have hd : isG g [D.int id] := ⟨id, rfl, q1⟩
    obtain ⟨L, eL⟩ : ∃ L, nx id = L := ⟨_, rfl⟩
    have hat : hNx nx [D.int id] = .ls 1 L.length (L.map D.int) := by rw [hNx_at, eL]
    rw [eL] at q2 hll
    have hf : farF nx (n + 1) id = L.foldl (stepM (farF nx n)) 0 := by rw [farF, eL]
    have hb : ∀ i, i ≤ L.length → 0 ≤ (L.take i).foldl (stepM (farF nx n)) 0 ∧ (L.take i).foldl (stepM (farF nx n)) 0 ≤ n + 1 := fun i _ => foldM_le (fun o => by have := farF_le nx n o; omega) _ 0 (by omega)
    rw [hf]
    refine fn_go Try.func73 rfl rfl Try.ntmps73 Try.results73 (by simp only [slotsOf, argAV, List.map_cons, List.map_nil, Nat.reduceAdd]; rfl) (by simp) ?_
    repeat' (first | (with_reducible first | refine aw_seq fun K hK => ?_ | refine aw_region (by kernel_rfl) ?_ | refine aw_condk ?_ | refine aw_block ?_) | ((with_reducible refine evg ?_); simp only [go_sem, ↓reduceIte, Nat.reduceEqDiff, Nat.reduceBEq, Nat.reduceAdd, Nat.reduceMul, Nat.reduceSub, Nat.reduceLT, Nat.reduceLeDiff]) | (simp (disch := omega) only [wr, drop_at, str_at, int_at, Int.reduceSub, Int.reduceAdd, Int.reduceToNat, Int.toNat_zero, hat]) | ((with_reducible refine ev_call ?_); (first | (refine call_known rfl hd ?_ )); refine k_run ?_) | ((with_reducible refine ev_guard ?_); (with_reducible first | refine guard_t ?_ ?_ rfl | refine guard_f ?_ ?_ rfl) <;> (intro h; (try simp only [h]); (try simp only [nrm] at h) <;> (try ((with_reducible exfalso); omega)))) | ((with_reducible refine ck_split (fun h => ?_) (fun h => ?_)) <;> (try simp only [nrm] at h) <;> (try ((with_reducible exfalso); omega))) | ((with_reducible refine And.intro ?_ ?_); (first | omega | focus (simp; done) | focus (simp; omega) | focus ((repeat' (with_reducible refine And.intro ?_ ?_)) <;> first | omega | rfl | (simp only [go_sem, refsL_app, refs_dmap] <;> fail) | (simp [refsL_app, refs_dmap, AV.refsL, AV.refs] <;> omega)))) | ((with_reducible first | apply hK | (clear hK K; first | apply hK | (clear hK K; first | apply hK | (clear hK K; apply hK)))); clear hK K) | fail)
    refine aw_loopU [5, 7, 12, 13, 14, 15, 16, 17, 18, 19, 20, 21, 22] [19, 21] (fun i : Nat => [(12, .d (.int i)), (5, .d (.int ((L.take i).foldl (stepM (farF nx n)) 0)))]) (fun _ => []) (fun i => i ≤ L.length) (fun i => L.length - i) 0 (by omega) ?_ ?_
    · (refine lessW_of [] rfl ?_ <;> simp only [St.sws, St.sw, swS, swO, AV.sw, AV.swL, OB.sw, swp, St.upd, dropS, dropOs, Less, SubS, SubO, look, lookO, List.elem, List.cons_append, List.nil_append, cond_true, cond_false, and_true, true_and, beq_self_eq_true, ↓reduceIte, Nat.reduceEqDiff, Nat.reduceBEq, Nat.reduceAdd, Nat.reduceMul, Nat.reduceSub, Nat.reduceLT, Nat.reduceLeDiff] <;> try simp)
    · rintro i g1
      simp only [St.upd, dropS, dropOs, List.elem, List.cons_append, List.nil_append, cond_true, cond_false, beq_self_eq_true, ↓reduceIte, Nat.reduceEqDiff, Nat.reduceBEq, Nat.reduceAdd, Nat.reduceMul, Nat.reduceSub, Nat.reduceLT, Nat.reduceLeDiff]
      by_cases hi : i < L.length
      · have e1 := ih (L.getD i 0) (by omega) (q2 _ (getD_mem 0 hi))
        have e2 := foldM_next (f := farF nx n) hi
        have b1 := hb i g1
        have b2 := farF_le nx n (L.getD i 0)
        repeat' (first | (with_reducible first | refine aw_seq fun K hK => ?_ | refine aw_region (by kernel_rfl) ?_ | refine aw_condk ?_ | refine aw_block ?_) | ((with_reducible refine evg ?_); simp only [go_sem, ↓reduceIte, Nat.reduceEqDiff, Nat.reduceBEq, Nat.reduceAdd, Nat.reduceMul, Nat.reduceSub, Nat.reduceLT, Nat.reduceLeDiff]) | (simp (disch := omega) only [wr, drop_at, str_at, int_at, Int.reduceSub, Int.reduceAdd, Int.reduceToNat, Int.toNat_zero, int_at, wr]) | ((with_reducible refine ev_call ?_); (first | (refine call_cv e1 ⟨_, _, rfl, rfl, _, _, rfl, ⟨rfl, rfl⟩, rfl⟩ ?_ )); refine k_run ?_) | ((with_reducible refine ev_guard ?_); (with_reducible first | refine guard_t ?_ ?_ rfl | refine guard_f ?_ ?_ rfl) <;> (intro h; (try simp only [h]); (try simp only [nrm] at h) <;> (try ((with_reducible exfalso); omega)))) | ((with_reducible refine ck_split (fun h => ?_) (fun h => ?_)) <;> (try simp only [nrm] at h) <;> (try ((with_reducible exfalso); omega))) | ((with_reducible refine And.intro ?_ ?_); (first | omega | focus (simp; done) | focus (simp; omega) | focus ((repeat' (with_reducible refine And.intro ?_ ?_)) <;> first | omega | rfl | (simp only [go_sem, refsL_app, refs_dmap] <;> fail) | (simp [refsL_app, refs_dmap, AV.refsL, AV.refs] <;> omega)))) | ((with_reducible first | apply hK | (clear hK K; first | apply hK | (clear hK K; first | apply hK | (clear hK K; apply hK)))); clear hK K) | fail)
        refine ⟨i + 1, by omega, by omega, ?_⟩
        rw [e2]
        (refine lessW_of [] rfl ?_ <;> simp only [St.sws, St.sw, swS, swO, AV.sw, AV.swL, OB.sw, swp, St.upd, dropS, dropOs, Less, SubS, SubO, look, lookO, List.elem, List.cons_append, List.nil_append, cond_true, cond_false, and_true, true_and, beq_self_eq_true, ↓reduceIte, Nat.reduceEqDiff, Nat.reduceBEq, Nat.reduceAdd, Nat.reduceMul, Nat.reduceSub, Nat.reduceLT, Nat.reduceLeDiff] <;> try simp)
        rfl
      · repeat' (first | (with_reducible first | refine aw_seq fun K hK => ?_ | refine aw_region (by kernel_rfl) ?_ | refine aw_condk ?_ | refine aw_block ?_) | ((with_reducible refine evg ?_); simp only [go_sem, ↓reduceIte, Nat.reduceEqDiff, Nat.reduceBEq, Nat.reduceAdd, Nat.reduceMul, Nat.reduceSub, Nat.reduceLT, Nat.reduceLeDiff]) | (simp (disch := omega) only [wr, drop_at, str_at, int_at, Int.reduceSub, Int.reduceAdd, Int.reduceToNat, Int.toNat_zero, wr]) | ((with_reducible refine ev_guard ?_); (with_reducible first | refine guard_t ?_ ?_ rfl | refine guard_f ?_ ?_ rfl) <;> (intro h; (try simp only [h]); (try simp only [nrm] at h) <;> (try ((with_reducible exfalso); omega)))) | ((with_reducible refine ck_split (fun h => ?_) (fun h => ?_)) <;> (try simp only [nrm] at h) <;> (try ((with_reducible exfalso); omega))) | ((with_reducible refine And.intro ?_ ?_); (first | omega | focus (simp; done) | focus (simp; omega) | focus ((repeat' (with_reducible refine And.intro ?_ ?_)) <;> first | omega | rfl | (simp only [go_sem, refsL_app, refs_dmap] <;> fail) | (simp [refsL_app, refs_dmap, AV.refsL, AV.refs] <;> omega)))) | ((with_reducible first | apply hK | (clear hK K; first | apply hK | (clear hK K; first | apply hK | (clear hK K; apply hK)))); clear hK K) | fail)
        have e : i = L.length := by omega
        rw [List.take_of_length_le (by omega)]
        (first | refine res_tmp rfl (by simp [D.plain, plains]) (by simp) ?_ | refine res_at rfl (by simp [D.plain, plains]) (by simp) ?_ | refine res_two rfl (by simp [D.plain, plains]) (by simp) ?_ | refine res_three rfl (by simp [D.plain, plains]) (by simp) ?_)
        rfl

theorem parI_len (l : List PerV) (id : Int) : (parI l id).length ≤ 1000 := by
  unfold parI
  split <;> simp

def dnG (l : List PerV) (n : Nat) (id : Int) : Prop := 0 ≤ findP l id ∧ 3000 - (perOf l id).born ≤ n

theorem dnG_zero {l : List PerV} (h : okFam l = true) (id : Int) : ¬ dnG l 0 id := fun ⟨h1, h2⟩ => by
  have := born_in h h1
  omega

theorem kid_born {l : List PerV} (h : okFam l = true) {id : Int} (hid : 0 ≤ findP l id) {x : PerV} (hx : x ∈ kids l id) : (perOf l id).born + 15 ≤ x.born := by
  obtain ⟨h1, h2⟩ := kids_mem.1 hx
  obtain ⟨i, hi, rfl⟩ := List.mem_iff_getElem.1 h1
  have hp := okFam_mem h (perOf_in hid)
  have hpid := perOf_id hid
  simp only [okPer, Bool.and_eq_true, inR_iff] at hp
  have q := (okAt_iff.1 (okFam_at h hi)).2.2
  rw [getD_eq _ hi] at q
  simp only [chil, Bool.or_eq_true, decide_eq_true_eq] at h2
  rcases q with q | ⟨_, q2, q3⟩
  · omega
  · rcases h2 with h2 | h2
    · rw [h2, mayG] at q2
      split at q2
      · cases q2
      · simp only [parB, Bool.and_eq_true, decide_eq_true_eq] at q2
        have := q2.1
        unfold perOf
        omega
    · rw [h2, mayG] at q3
      split at q3
      · cases q3
      · simp only [parB, Bool.and_eq_true, decide_eq_true_eq] at q3
        have := q3.1
        unfold perOf
        omega

theorem dnG_next {l : List PerV} (h : okFam l = true) (n : Nat) (id : Int) (hg : dnG l (n + 1) id) : 0 ≤ findP l id ∧ ∀ o ∈ kidI l id, dnG l n o := by
  obtain ⟨h1, h2⟩ := hg
  refine ⟨h1, fun o ho => ?_⟩
  rw [kidI, List.mem_map] at ho
  obtain ⟨x, hx, rfl⟩ := ho
  have q := kid_born h h1 hx
  obtain ⟨q1, q2⟩ := perOf_mem h (kids_mem.1 hx).1
  refine ⟨q2, ?_⟩
  rw [q1]
  omega

theorem kidI_len1 {l : List PerV} (h : okFam l = true) (id : Int) : (kidI l id).length ≤ 1000 := by
  have := okFam_len h
  have := kids_len l id
  rw [kidI_len]
  omega

def genR (l : List PerV) (id : Int) : D := if askF l id then .tu [.int (farF (parI l) 3000 id), .int (farF (kidI l) 3000 id), .bool true] else .tu [.int 0, .int 0, .bool false]

set_option maxRecDepth 100000 in
theorem pl_Fam8_31_3 (l : List Oper) (h : l = opsOf Try.f31 3) : planB l (.pure 0 (.pure 1 (.pure 2 (.pure 4 (.pure 5 (.pure 6 (.one 3 (.one 7 (.pure 8 (.pure 9 (.pure 10 PT.fin))))))))))) [] = true := by
  subst h
  kernel_rfl

set_option maxRecDepth 100000 in
set_option maxHeartbeats 4000000 in
theorem implGen_fn (l : List PerV) (id : Int) (hl : l.length ≤ 1048576) : FnD Try.prog 31 [famD l, .int id] (genR l id) := by
  have e1 := has_fn l id (by omega)
  cases g : askF l id
  · rw [g] at e1
    rw [genR, g]
    refine fn_go Try.func31 rfl rfl Try.ntmps31 Try.results31 (by simp only [slotsOf, argAV, List.map_cons, List.map_nil, Nat.reduceAdd]; rfl) (by simp) ?_
    repeat' (first | (with_reducible first | refine aw_seq fun K hK => ?_ | refine aw_region (by kernel_rfl) ?_ | refine aw_condk ?_ | refine aw_block ?_) | ((with_reducible refine ev_aw ?_); first | (refine aw_draw (id := 3) (by kernel_rfl) _ _ (by kernel_rfl) (pl_Fam8_31_3 _ (by kernel_rfl)) ?_)) | (with_reducible first | refine ru_four ?_ ?_ ?_ ?_ | refine ru_three ?_ ?_ ?_ | refine ru_two ?_ ?_ | refine rv_split ?_ ?_ | refine rv_two ?_ ?_ | refine rp_two ?_ ?_) | ((with_reducible refine evg ?_); simp only [go_sem, St.clean, cleanO, ↓reduceIte, Nat.reduceEqDiff, Nat.reduceBEq, Nat.reduceAdd, Nat.reduceMul, Nat.reduceSub, Nat.reduceLT, Nat.reduceLeDiff]) | (simp (disch := omega) only [wr, drop_at, str_at, int_at, Int.reduceSub, Int.reduceAdd, Int.reduceToNat, Int.toNat_zero, wr]) | ((with_reducible refine ev_call ?_); (first | (refine call_fn e1 rfl ?_)); refine k_run ?_) | ((with_reducible refine ev_guard ?_); (with_reducible first | refine guard_t ?_ ?_ rfl | refine guard_f ?_ ?_ rfl) <;> (intro h; (try simp only [h]); (try simp only [nrm] at h) <;> (try ((with_reducible exfalso); omega)))) | ((with_reducible refine ck_split (fun h => ?_) (fun h => ?_)) <;> (try simp only [nrm] at h) <;> (try ((with_reducible exfalso); omega))) | ((with_reducible refine And.intro ?_ ?_); (first | omega | focus (simp; done) | focus (simp; omega) | focus ((repeat' (with_reducible refine And.intro ?_ ?_)) <;> first | omega | rfl | (simp only [go_sem, refsL_app, refs_dmap] <;> fail) | (simp [refsL_app, refs_dmap, AV.refsL, AV.refs] <;> omega)))) | (with_reducible refine hJ _ (fun K hK => ?_) ?_ <;> clear hJ KJ) | ((with_reducible refine ev_less ?_); (refine ⟨rfl, ?_, ?_⟩ <;> simp only [go_sem, St.clean, cleanO, SubS, SubO, beq_self_eq_true, ↓reduceIte, Nat.reduceEqDiff, Nat.reduceBEq, Nat.reduceAdd, Nat.reduceMul, Nat.reduceSub, Nat.reduceLT, Nat.reduceLeDiff])) | ((with_reducible first | apply hK | (clear hK K; first | apply hK | (clear hK K; first | apply hK | (clear hK K; apply hK)))); clear hK K) | fail)
    all_goals (first | refine res_tmp rfl (by simp [D.plain, plains]) (by simp) ?_ | refine res_at rfl (by simp [D.plain, plains]) (by simp) ?_ | refine res_two rfl (by simp [D.plain, plains]) (by simp) ?_ | refine res_three rfl (by simp [D.plain, plains]) (by simp) ?_ | skip)
    all_goals rfl
  · obtain ⟨hok, hid⟩ := askF_iff.1 g
    have b := born_in hok hid
    have e2 := farthest_fn (parI l) (fun id => 0 ≤ findP l id) (upG l) (upG_zero hok) (upG_next hok) (parI_len l) 3000 id (by omega) ⟨hid, by omega⟩
    have e3 := farthest_fn (kidI l) (fun id => 0 ≤ findP l id) (dnG l) (dnG_zero hok) (dnG_next hok) (kidI_len1 hok) 3000 id (by omega) ⟨hid, by omega⟩
    have f2 : ∀ ds, isG (fun id => 0 ≤ findP l id) ds → FnD Try.prog 66 ([famD l] ++ ds ++ []) (hNx (parI l) ds) := by
      rintro ds ⟨o, rfl, ho⟩
      exact parents_fn l o hl ho
    have f3 : ∀ ds, isG (fun id => 0 ≤ findP l id) ds → FnD Try.prog 63 ([famD l] ++ ds ++ []) (hNx (kidI l) ds) := by
      rintro ds ⟨o, rfl, ho⟩
      exact children_fn l o hok
    have k2 := (parents_fn l id hl hid).1
    have k3 := (children_fn l id hok).1
    rw [g] at e1
    rw [genR, g]
    refine fn_go Try.func31 rfl rfl Try.ntmps31 Try.results31 (by simp only [slotsOf, argAV, List.map_cons, List.map_nil, Nat.reduceAdd]; rfl) (by simp) ?_
    repeat' (first | (with_reducible first | refine aw_seq fun K hK => ?_ | refine aw_region (by kernel_rfl) ?_ | refine aw_condk ?_ | refine aw_block ?_) | ((with_reducible refine ev_aw ?_); first | (refine aw_draw (id := 3) (by kernel_rfl) _ _ (by kernel_rfl) (pl_Fam8_31_3 _ (by kernel_rfl)) ?_)) | (with_reducible first | refine ru_four ?_ ?_ ?_ ?_ | refine ru_three ?_ ?_ ?_ | refine ru_two ?_ ?_ | refine rv_split ?_ ?_ | refine rv_two ?_ ?_ | refine rp_two ?_ ?_) | ((with_reducible refine evg ?_); simp only [go_sem, St.clean, cleanO, ↓reduceIte, Nat.reduceEqDiff, Nat.reduceBEq, Nat.reduceAdd, Nat.reduceMul, Nat.reduceSub, Nat.reduceLT, Nat.reduceLeDiff]) | (simp (disch := omega) only [wr, drop_at, str_at, int_at, Int.reduceSub, Int.reduceAdd, Int.reduceToNat, Int.toNat_zero, wr]) | ((with_reducible refine ev_call ?_); (first | (refine call_fn e1 rfl ?_) | (refine call_pc e2 rfl k2 rfl rfl f2 ?_ ) | (refine call_pc e3 rfl k3 rfl rfl f3 ?_ )); refine k_run ?_) | ((with_reducible refine ev_guard ?_); (with_reducible first | refine guard_t ?_ ?_ rfl | refine guard_f ?_ ?_ rfl) <;> (intro h; (try simp only [h]); (try simp only [nrm] at h) <;> (try ((with_reducible exfalso); omega)))) | ((with_reducible refine ck_split (fun h => ?_) (fun h => ?_)) <;> (try simp only [nrm] at h) <;> (try ((with_reducible exfalso); omega))) | ((with_reducible refine And.intro ?_ ?_); (first | omega | focus (simp; done) | focus (simp; omega) | focus ((repeat' (with_reducible refine And.intro ?_ ?_)) <;> first | omega | rfl | (simp only [go_sem, refsL_app, refs_dmap] <;> fail) | (simp [refsL_app, refs_dmap, AV.refsL, AV.refs] <;> omega)))) | (with_reducible refine hJ _ (fun K hK => ?_) ?_ <;> clear hJ KJ) | ((with_reducible refine ev_less ?_); (refine ⟨rfl, ?_, ?_⟩ <;> simp only [go_sem, St.clean, cleanO, SubS, SubO, beq_self_eq_true, ↓reduceIte, Nat.reduceEqDiff, Nat.reduceBEq, Nat.reduceAdd, Nat.reduceMul, Nat.reduceSub, Nat.reduceLT, Nat.reduceLeDiff])) | ((with_reducible first | apply hK | (clear hK K; first | apply hK | (clear hK K; first | apply hK | (clear hK K; apply hK)))); clear hK K) | fail)
    all_goals (first | refine res_tmp rfl (by simp [D.plain, plains]) (by simp) ?_ | refine res_at rfl (by simp [D.plain, plains]) (by simp) ?_ | refine res_two rfl (by simp [D.plain, plains]) (by simp) ?_ | refine res_three rfl (by simp [D.plain, plains]) (by simp) ?_ | skip)
    all_goals rfl

end Go.Proofs.Ythjafngffkhffaa
