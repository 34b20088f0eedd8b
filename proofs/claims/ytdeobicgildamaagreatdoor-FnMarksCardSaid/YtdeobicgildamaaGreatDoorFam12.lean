/- Those of a list of persons who live in a year: a list cut down in place. -/
import Derived.Test.YtdeobicgildamaaGreatDoorPCode
import Derived.WalkKit
import Derived.WalkSpells
import Derived.KernelRfl
namespace Go.Proofs.YtdeobicgildamaaGreatDoor
open Go.RowKit
set_option linter.unusedVariables false
set_option linter.unusedSimpArgs false

attribute [local go_sem] PerV.d PerV.cs perL famD intL

attribute [local simp] perC_all perC_plains ints_plain ints_all ints_all1 ints_plain_take

def livB (p : PerV) (y : Int) : Bool := decide (p.born ≤ y) && (decide (p.died = 0) || decide (y ≤ p.died))

set_option maxRecDepth 100000 in
set_option maxHeartbeats 4000000 in
theorem lives_fn (p : PerV) (y : Int) : FnD Tryz.prog 68 [p.d, .int y] (.bool (livB p y)) := by
  generalize hr : livB p y = r
  refine fn_go Tryz.func68 rfl rfl Tryz.ntmps68 Tryz.results68 (by simp only [slotsOf, argAV, List.map_cons, List.map_nil, Nat.reduceAdd]; rfl) (by simp) ?_
  repeat' (first | (with_reducible first | refine aw_seq fun K hK => ?_ | refine aw_region (by kernel_rfl) ?_ | refine aw_condk ?_ | refine aw_block ?_) | ((with_reducible refine evg ?_); simp only [go_sem, ↓reduceIte, Nat.reduceEqDiff, Nat.reduceBEq, Nat.reduceAdd, Nat.reduceMul, Nat.reduceSub, Nat.reduceLT, Nat.reduceLeDiff]) | (simp (disch := omega) only [wr, drop_at, str_at, int_at, Int.reduceSub, Int.reduceAdd, Int.reduceToNat, Int.toNat_zero, wr]) | ((with_reducible refine ev_guard ?_); (with_reducible first | refine guard_t ?_ ?_ rfl | refine guard_f ?_ ?_ rfl) <;> (intro h; (try simp only [h]); (try simp only [nrm] at h) <;> (try ((with_reducible exfalso); omega)))) | ((with_reducible refine ck_split (fun h => ?_) (fun h => ?_)) <;> (try simp only [nrm] at h) <;> (try ((with_reducible exfalso); omega))) | ((with_reducible refine And.intro ?_ ?_); (first | omega | focus (simp; done) | focus (simp; omega) | focus ((repeat' (with_reducible refine And.intro ?_ ?_)) <;> first | omega | rfl | (simp only [go_sem, refsL_app, refs_dmap] <;> fail) | (simp [refsL_app, refs_dmap, AV.refsL, AV.refs] <;> omega)))) | ((with_reducible first | apply hK | (clear hK K; first | apply hK | (clear hK K; first | apply hK | (clear hK K; apply hK)))); clear hK K) | fail)
  all_goals (first | refine res_tmp rfl (by simp [D.plain, plains]) (by simp) ?_ | refine res_at rfl (by simp [D.plain, plains]) (by simp) ?_ | refine res_two rfl (by simp [D.plain, plains]) (by simp) ?_ | refine res_three rfl (by simp [D.plain, plains]) (by simp) ?_ | skip)
  all_goals rw [← hr]
  all_goals simp only [livB, *, decide_true, decide_false, Bool.true_and, Bool.false_and, Bool.true_or, Bool.false_or, Bool.or_false, Bool.and_self]

set_option maxRecDepth 100000 in
set_option maxHeartbeats 4000000 in
theorem specLives_fn (p : PerV) (y : Int) : FnD Tryz.prog 91 [p.d, .int y] (.bool (livB p y)) := by
  generalize hr : livB p y = r
  refine fn_go Tryz.func91 rfl rfl Tryz.ntmps91 Tryz.results91 (by simp only [slotsOf, argAV, List.map_cons, List.map_nil, Nat.reduceAdd]; rfl) (by simp) ?_
  repeat' (first | (with_reducible first | refine aw_seq fun K hK => ?_ | refine aw_region (by kernel_rfl) ?_ | refine aw_condk ?_ | refine aw_block ?_) | ((with_reducible refine evg ?_); simp only [go_sem, ↓reduceIte, Nat.reduceEqDiff, Nat.reduceBEq, Nat.reduceAdd, Nat.reduceMul, Nat.reduceSub, Nat.reduceLT, Nat.reduceLeDiff]) | (simp (disch := omega) only [wr, drop_at, str_at, int_at, Int.reduceSub, Int.reduceAdd, Int.reduceToNat, Int.toNat_zero, wr]) | ((with_reducible refine ev_guard ?_); (with_reducible first | refine guard_t ?_ ?_ rfl | refine guard_f ?_ ?_ rfl) <;> (intro h; (try simp only [h]); (try simp only [nrm] at h) <;> (try ((with_reducible exfalso); omega)))) | ((with_reducible refine ck_split (fun h => ?_) (fun h => ?_)) <;> (try simp only [nrm] at h) <;> (try ((with_reducible exfalso); omega))) | ((with_reducible refine And.intro ?_ ?_); (first | omega | focus (simp; done) | focus (simp; omega) | focus ((repeat' (with_reducible refine And.intro ?_ ?_)) <;> first | omega | rfl | (simp only [go_sem, refsL_app, refs_dmap] <;> fail) | (simp [refsL_app, refs_dmap, AV.refsL, AV.refs] <;> omega)))) | ((with_reducible first | apply hK | (clear hK K; first | apply hK | (clear hK K; first | apply hK | (clear hK K; apply hK)))); clear hK K) | fail)
  all_goals (first | refine res_tmp rfl (by simp [D.plain, plains]) (by simp) ?_ | refine res_at rfl (by simp [D.plain, plains]) (by simp) ?_ | refine res_two rfl (by simp [D.plain, plains]) (by simp) ?_ | refine res_three rfl (by simp [D.plain, plains]) (by simp) ?_ | skip)
  all_goals rw [← hr]
  all_goals simp only [livB, *, decide_true, decide_false, Bool.true_and, Bool.false_and, Bool.true_or, Bool.false_or, Bool.or_false, Bool.and_self]

def livI (l : List PerV) (y : Int) (id : Int) : Bool := livB (perOf l id) y

set_option maxRecDepth 100000 in
theorem pl_Fam12_67_1 (l : List Oper) (h : l = opsOf Tryz.f67 1) : planB l (.pure 0 (.pure 1 (.pure 2 (.pure 3 (.pure 7 (.one 4 (.pure 5 (.pure 6 (.one 8 (.pure 9 (.pure 10 PT.fin))))))))))) [] = true := by
  subst h
  kernel_rfl

set_option maxRecDepth 100000 in
set_option maxHeartbeats 4000000 in
theorem living1_fn (l : List PerV) (y id : Int) (hl : l.length ≤ 1048576) (hid : 0 ≤ findP l id) : FnD Tryz.prog 67 [.int id, .pt [perL l], .pt [.int y]] (.bool (!livI l y id)) := by
  have e1 := person_fn l id (by omega)
  obtain ⟨h1, h2, h3⟩ := findP_lt (l := l) (id := id) (by omega)
  obtain ⟨j, hj⟩ := Int.eq_ofNat_of_zero_le hid
  have hp : livI l y id = livB (l.getD j PerV.zero) y := by rw [livI, perOf, hj]; rfl
  have hj2 : j < l.length := by omega
  rw [hj] at e1
  rw [hp]
  refine fn_go Tryz.func67 rfl rfl Tryz.ntmps67 Tryz.results67 (by simp only [slotsOf, argAV, List.map_cons, List.map_nil, Nat.reduceAdd]; rfl) (by simp) ?_
  repeat' (first | (with_reducible first | refine aw_seq fun K hK => ?_ | refine aw_region (by kernel_rfl) ?_ | refine aw_condk ?_ | refine aw_block ?_) | ((with_reducible refine ev_aw ?_); first | (refine aw_draw (id := 1) (by kernel_rfl) _ _ (by kernel_rfl) (pl_Fam12_67_1 _ (by kernel_rfl)) ?_)) | (with_reducible first | refine ru_four ?_ ?_ ?_ ?_ | refine ru_three ?_ ?_ ?_ | refine ru_two ?_ ?_ | refine rv_split ?_ ?_ | refine rv_two ?_ ?_ | refine rp_two ?_ ?_) | ((with_reducible refine evg ?_); simp only [go_sem, St.clean, cleanO, ↓reduceIte, Nat.reduceEqDiff, Nat.reduceBEq, Nat.reduceAdd, Nat.reduceMul, Nat.reduceSub, Nat.reduceLT, Nat.reduceLeDiff]) | (simp (disch := omega) only [wr, drop_at, str_at, int_at, Int.reduceSub, Int.reduceAdd, Int.reduceToNat, Int.toNat_zero, per_at, wr]) | ((with_reducible refine ev_call ?_); (first | (refine call_fn e1 rfl ?_) | (refine call_fn (lives_fn _ _) rfl ?_)); refine k_run ?_) | ((with_reducible refine ev_guard ?_); (with_reducible first | refine guard_t ?_ ?_ rfl | refine guard_f ?_ ?_ rfl) <;> (intro h; (try simp only [h]); (try simp only [nrm] at h) <;> (try ((with_reducible exfalso); omega)))) | ((with_reducible refine ck_split (fun h => ?_) (fun h => ?_)) <;> (try simp only [nrm] at h) <;> (try ((with_reducible exfalso); omega))) | ((with_reducible refine And.intro ?_ ?_); (first | omega | focus (simp; done) | focus (simp; omega) | focus ((repeat' (with_reducible refine And.intro ?_ ?_)) <;> first | omega | rfl | (simp only [go_sem, refsL_app, refs_dmap] <;> fail) | (simp [refsL_app, refs_dmap, AV.refsL, AV.refs] <;> omega)))) | (with_reducible refine hJ _ (fun K hK => ?_) ?_ <;> clear hJ KJ) | ((with_reducible refine ev_less ?_); (refine ⟨rfl, ?_, ?_⟩ <;> simp only [go_sem, St.clean, cleanO, SubS, SubO, beq_self_eq_true, ↓reduceIte, Nat.reduceEqDiff, Nat.reduceBEq, Nat.reduceAdd, Nat.reduceMul, Nat.reduceSub, Nat.reduceLT, Nat.reduceLeDiff])) | ((with_reducible first | apply hK | (clear hK K; first | apply hK | (clear hK K; first | apply hK | (clear hK K; apply hK)))); clear hK K) | fail)
  all_goals (first | refine res_tmp rfl (by simp [D.plain, plains]) (by simp) ?_ | refine res_at rfl (by simp [D.plain, plains]) (by simp) ?_ | refine res_two rfl (by simp [D.plain, plains]) (by simp) ?_ | refine res_three rfl (by simp [D.plain, plains]) (by simp) ?_ | skip)
  all_goals rfl

def hI (p : Int → Bool) : List D → D
  | [.v (.int .i64 a)] => .bool (p a)
  | _ => .bool false

theorem hI_at {p : Int → Bool} {a : Int} : hI p [.int a] = .bool (p a) := rfl

set_option maxRecDepth 100000 in
set_option maxHeartbeats 4000000 in
theorem indexI_fn (zs : List Int) (p : Int → Bool) (g : Int → Prop) (hg : ∀ a ∈ zs, g a) (hl : zs.length ≤ 9223372036854775807) : Fn Tryz.prog 87 [.d (intL zs), .fn (isG g) (hI p)] (.int (idxR zs p)) := by
  refine fn_go Tryz.func87 rfl rfl Tryz.ntmps87 Tryz.results87 (by simp only [slotsOf, argAV, List.map_cons, List.map_nil, Nat.reduceAdd]; rfl) (by simp) ?_
  repeat' (first | (with_reducible first | refine aw_seq fun K hK => ?_ | refine aw_region (by kernel_rfl) ?_ | refine aw_condk ?_ | refine aw_block ?_) | ((with_reducible refine evg ?_); simp only [go_sem, ↓reduceIte, Nat.reduceEqDiff, Nat.reduceBEq, Nat.reduceAdd, Nat.reduceMul, Nat.reduceSub, Nat.reduceLT, Nat.reduceLeDiff]) | ((with_reducible refine ev_guard ?_); (with_reducible first | refine guard_t ?_ ?_ rfl | refine guard_f ?_ ?_ rfl) <;> (intro h; (try simp only [h]); (try simp only [nrm] at h))) | ((with_reducible refine ck_split (fun h => ?_) (fun h => ?_)) <;> (try simp only [nrm] at h)) | ((with_reducible refine And.intro ?_ ?_); (first | omega | focus (simp; done) | focus (simp; omega) | focus ((repeat' (with_reducible refine And.intro ?_ ?_)) <;> first | omega | rfl | (simp only [go_sem, refsL_app, refs_dmap] <;> fail) | (simp [refsL_app, refs_dmap, AV.refsL, AV.refs] <;> omega)))) | ((with_reducible first | apply hK | (clear hK K; first | apply hK | (clear hK K; first | apply hK | (clear hK K; apply hK)))); clear hK K) | (simp (disch := omega) only [wr, drop_at, str_at, int_at, Int.reduceSub, Int.reduceAdd, Int.reduceToNat, Int.toNat_zero]) | fail)
  refine aw_loopU [4, 5, 8, 9, 10, 11, 12, 13, 14, 15, 16, 17, 18] [16] (fun i : Nat => [(8, .d (.int i))]) (fun _ => []) (fun i => i ≤ zs.length ∧ (zs.take i).all (fun x => !p x) = true) (fun i => zs.length - i) 0 ⟨by omega, rfl⟩ ?_ ?_
  · (refine lessW_of [] rfl ?_ <;> simp only [St.sws, St.sw, swS, swO, AV.sw, AV.swL, OB.sw, swp, St.upd, dropS, dropOs, Less, SubS, SubO, look, lookO, List.elem, List.cons_append, List.nil_append, cond_true, cond_false, and_true, true_and, beq_self_eq_true, ↓reduceIte, Nat.reduceEqDiff, Nat.reduceBEq, Nat.reduceAdd, Nat.reduceMul, Nat.reduceSub, Nat.reduceLT, Nat.reduceLeDiff] <;> try simp)
  · rintro i ⟨g1, g2⟩
    simp only [St.upd, dropS, dropOs, List.elem, List.cons_append, List.nil_append, cond_true, cond_false, beq_self_eq_true, ↓reduceIte, Nat.reduceEqDiff, Nat.reduceBEq, Nat.reduceAdd, Nat.reduceMul, Nat.reduceSub, Nat.reduceLT, Nat.reduceLeDiff]
    by_cases hi : i < zs.length
    · have hd : isG g [D.int (zs.getD i 0)] := ⟨_, rfl, hg _ (getD_mem 0 hi)⟩
      repeat' (first | (with_reducible first | refine aw_seq fun K hK => ?_ | refine aw_region (by kernel_rfl) ?_ | refine aw_condk ?_ | refine aw_block ?_) | ((with_reducible refine evg ?_); simp only [go_sem, ↓reduceIte, Nat.reduceEqDiff, Nat.reduceBEq, Nat.reduceAdd, Nat.reduceMul, Nat.reduceSub, Nat.reduceLT, Nat.reduceLeDiff]) | (simp (disch := omega) only [wr, drop_at, str_at, int_at, Int.reduceSub, Int.reduceAdd, Int.reduceToNat, Int.toNat_zero, int_at, hI_at, wr]) | ((with_reducible refine ev_call ?_); (first | (refine call_known rfl hd ?_ )); refine k_run ?_) | ((with_reducible refine ev_guard ?_); (with_reducible first | refine guard_t ?_ ?_ rfl | refine guard_f ?_ ?_ rfl) <;> (intro h; (try simp only [h]); (try simp only [nrm] at h) <;> (try ((with_reducible exfalso); omega)))) | ((with_reducible refine ck_split (fun h => ?_) (fun h => ?_)) <;> (try simp only [nrm] at h) <;> (try ((with_reducible exfalso); omega))) | ((with_reducible refine And.intro ?_ ?_); (first | omega | focus (simp; done) | focus (simp; omega) | focus ((repeat' (with_reducible refine And.intro ?_ ?_)) <;> first | omega | rfl | (simp only [go_sem, refsL_app, refs_dmap] <;> fail) | (simp [refsL_app, refs_dmap, AV.refsL, AV.refs] <;> omega)))) | ((with_reducible first | apply hK | (clear hK K; first | apply hK | (clear hK K; first | apply hK | (clear hK K; apply hK)))); clear hK K) | fail)
      · (first | refine res_tmp rfl (by simp [D.plain, plains]) (by simp) ?_ | refine res_at rfl (by simp [D.plain, plains]) (by simp) ?_ | refine res_two rfl (by simp [D.plain, plains]) (by simp) ?_ | refine res_three rfl (by simp [D.plain, plains]) (by simp) ?_)
        rw [idxR_at 0 (by omega) g2 h]
      · refine ⟨i + 1, ?_, ?_, by (refine lessW_of [] rfl ?_ <;> simp only [St.sws, St.sw, swS, swO, AV.sw, AV.swL, OB.sw, swp, St.upd, dropS, dropOs, Less, SubS, SubO, look, lookO, List.elem, List.cons_append, List.nil_append, cond_true, cond_false, and_true, true_and, beq_self_eq_true, ↓reduceIte, Nat.reduceEqDiff, Nat.reduceBEq, Nat.reduceAdd, Nat.reduceMul, Nat.reduceSub, Nat.reduceLT, Nat.reduceLeDiff] <;> try simp)⟩
        · exact ⟨by omega, allR_take 0 (p := fun x => !p x) g2 (by omega) (by rw [h]; rfl)⟩
        · omega
    · repeat' (first | (with_reducible first | refine aw_seq fun K hK => ?_ | refine aw_region (by kernel_rfl) ?_ | refine aw_condk ?_ | refine aw_block ?_) | ((with_reducible refine evg ?_); simp only [go_sem, ↓reduceIte, Nat.reduceEqDiff, Nat.reduceBEq, Nat.reduceAdd, Nat.reduceMul, Nat.reduceSub, Nat.reduceLT, Nat.reduceLeDiff]) | (simp (disch := omega) only [wr, drop_at, str_at, int_at, Int.reduceSub, Int.reduceAdd, Int.reduceToNat, Int.toNat_zero, wr]) | ((with_reducible refine ev_guard ?_); (with_reducible first | refine guard_t ?_ ?_ rfl | refine guard_f ?_ ?_ rfl) <;> (intro h; (try simp only [h]); (try simp only [nrm] at h) <;> (try ((with_reducible exfalso); omega)))) | ((with_reducible refine ck_split (fun h => ?_) (fun h => ?_)) <;> (try simp only [nrm] at h) <;> (try ((with_reducible exfalso); omega))) | ((with_reducible refine And.intro ?_ ?_); (first | omega | focus (simp; done) | focus (simp; omega) | focus ((repeat' (with_reducible refine And.intro ?_ ?_)) <;> first | omega | rfl | (simp only [go_sem, refsL_app, refs_dmap] <;> fail) | (simp [refsL_app, refs_dmap, AV.refsL, AV.refs] <;> omega)))) | ((with_reducible first | apply hK | (clear hK K; first | apply hK | (clear hK K; first | apply hK | (clear hK K; apply hK)))); clear hK K) | fail)
      (first | refine res_tmp rfl (by simp [D.plain, plains]) (by simp) ?_ | refine res_at rfl (by simp [D.plain, plains]) (by simp) ?_ | refine res_two rfl (by simp [D.plain, plains]) (by simp) ?_ | refine res_three rfl (by simp [D.plain, plains]) (by simp) ?_)
      have e : zs.take i = zs := List.take_of_length_le (by omega)
      rw [e] at g2
      simp [idxR, g2]

def delI (zs : List Int) (q : Int → Bool) : List Int := zs.filter q ++ List.replicate (zs.length - (zs.filter q).length) 0

theorem delI_len (zs : List Int) (q : Int → Bool) : (delI zs q).length = zs.length := by
  have := List.length_filter_le q zs
  simp only [delI, List.length_append, List.length_replicate]
  omega

theorem filt_next {zs : List Int} {q : Int → Bool} {i : Nat} (h : i < zs.length) : (zs.take (i + 1)).filter q = (zs.take i).filter q ++ (if q (zs.getD i 0) then [zs.getD i 0] else []) := by
  rw [take_next 0 h, List.filter_append]
  congr 1
  cases hc : q (zs.getD i 0)
  · simp only [List.filter_cons, List.filter_nil, hc]
    try rfl
  · simp only [List.filter_cons, List.filter_nil, hc]
    try rfl

theorem clearI_eq {L : List Int} {k n : Nat} (h1 : L.length = n) (h2 : k ≤ n) : (L.map D.int).take k ++ (List.replicate (n - k) [D.int 0]).flatten ++ (L.map D.int).drop (k + ((List.replicate (n - k) [D.int 0]).flatten).length) = (L.take k ++ List.replicate (n - k) 0).map D.int := by
  have e : (List.replicate (n - k) [D.int 0]).flatten = (List.replicate (n - k) (0 : Int)).map D.int := by
    rw [List.map_replicate]
    simp
  rw [e, List.drop_of_length_le (by simp; omega), List.append_nil, List.map_append, List.map_take]

set_option maxRecDepth 100000 in
set_option maxHeartbeats 4000000 in
theorem delI_hi (l : List PerV) (y : Int) (zs : List Int) (hl : l.length ≤ 1048576) (hz : zs.length ≤ 1048576) (hg : ∀ a ∈ zs, 0 ≤ findP l a) : FnS Tryz.prog 66 [(5000, .ds (zs.map D.int)), (5001, .av [.d (perL l)]), (5002, .av [.d (.int y)])] [.bs 5000 0 zs.length 1, .fc 67 [] [.bp 5001 0, .bp 5002 0]] [(5000, .ds ((delI zs (livI l y)).map D.int)), (5001, .av [.d (perL l)]), (5002, .av [.d (.int y)])] (.bs 5000 0 (zs.filter (livI l y)).length 1) := by
  have e1 := indexI_fn zs (fun a => !livI l y a) (fun a => 0 ≤ findP l a) hg (by omega)
  rw [← ints_raw zs] at e1
  have g1 : ∀ ds, isG (fun a => 0 ≤ findP l a) ds → FnD Tryz.prog 67 ([] ++ ds ++ [.pt [perL l], .pt [.int y]]) (hI (fun a => !livI l y a) ds) := by
    rintro ds ⟨a, rfl, ha⟩
    exact living1_fn l y a hl ha
  have k1 : FnOk Tryz.prog 67 := (living1_fn [PerV.zero] 0 0 (by decide) (by decide)).1
  generalize hq : livI l y = q at *
  rcases idxR_ex 0 zs (fun a => !q a) with ⟨q1, q2⟩ | ⟨i, q1, q2, q3⟩
  · rw [q1] at e1
    have hf : zs.filter q = zs := by
      rw [List.filter_eq_self]
      intro x hx
      have := List.all_eq_true.1 q2 x hx
      simpa using this
    refine fns_go Tryz.func66 rfl rfl Tryz.ntmps66 Tryz.results66 (by simp only [slotsA, Nat.reduceAdd]; rfl) (by simp) rfl ?_
    repeat' (first | (with_reducible first | refine aw_seq fun K hK => ?_ | refine aw_region (by kernel_rfl) ?_ | refine aw_condk ?_ | refine aw_block ?_) | ((with_reducible refine evg ?_); simp only [go_sem, ↓reduceIte, Nat.reduceEqDiff, Nat.reduceBEq, Nat.reduceAdd, Nat.reduceMul, Nat.reduceSub, Nat.reduceLT, Nat.reduceLeDiff]) | (simp (disch := omega) only [wr, drop_at, str_at, int_at, Int.reduceSub, Int.reduceAdd, Int.reduceToNat, Int.toNat_zero, wr]) | ((with_reducible refine ev_call ?_); (first | (refine call_pc e1 rfl k1 rfl rfl g1 ?_ )); refine k_run ?_) | ((with_reducible refine ev_guard ?_); (with_reducible first | refine guard_t ?_ ?_ rfl | refine guard_f ?_ ?_ rfl) <;> (intro h; (try simp only [h]); (try simp only [nrm] at h) <;> (try ((with_reducible exfalso); omega)))) | ((with_reducible refine ck_split (fun h => ?_) (fun h => ?_)) <;> (try simp only [nrm] at h) <;> (try ((with_reducible exfalso); omega))) | ((with_reducible refine And.intro ?_ ?_); (first | omega | focus (simp; done) | focus (simp; omega) | focus ((repeat' (with_reducible refine And.intro ?_ ?_)) <;> first | omega | rfl | (simp only [go_sem, refsL_app, refs_dmap] <;> fail) | (simp [refsL_app, refs_dmap, AV.refsL, AV.refs] <;> omega)))) | ((with_reducible first | apply hK | (clear hK K; first | apply hK | (clear hK K; first | apply hK | (clear hK K; apply hK)))); clear hK K) | fail)
    rotate_left
    · exact absurd trivial h
    have e : delI zs q = zs := by
      rw [delI, hf]
      simp
    rw [e, hf]
    exact ress_tmp (by simp [lensO, lookO, obCells]) ⟨rfl, rfl, rfl, trivial⟩ rfl
  · rw [q1] at e1
    have q4 := idx_first q1
    have a1 : (zs.take (i + 1)).filter q = zs.take i := by
      rw [filt_next q2, if_neg (by simpa using q3), List.append_nil, List.filter_eq_self]
      intro x hx
      have := List.all_eq_true.1 q4 x hx
      simpa using this
    have a2 : (zs.take i).length = i := by simp; omega
    refine fns_go Tryz.func66 rfl rfl Tryz.ntmps66 Tryz.results66 (by simp only [slotsA, Nat.reduceAdd]; rfl) (by simp) rfl ?_
    repeat' (first | (with_reducible first | refine aw_seq fun K hK => ?_ | refine aw_region (by kernel_rfl) ?_ | refine aw_condk ?_ | refine aw_block ?_) | ((with_reducible refine evg ?_); simp only [go_sem, ↓reduceIte, Nat.reduceEqDiff, Nat.reduceBEq, Nat.reduceAdd, Nat.reduceMul, Nat.reduceSub, Nat.reduceLT, Nat.reduceLeDiff]) | (simp (disch := omega) only [wr, drop_at, str_at, int_at, Int.reduceSub, Int.reduceAdd, Int.reduceToNat, Int.toNat_zero, wr]) | ((with_reducible refine ev_call ?_); (first | (refine call_pc e1 rfl k1 rfl rfl g1 ?_ )); refine k_run ?_) | ((with_reducible refine ev_guard ?_); (with_reducible first | refine guard_t ?_ ?_ rfl | refine guard_f ?_ ?_ rfl) <;> (intro h; (try simp only [h]); (try simp only [nrm] at h) <;> (try ((with_reducible exfalso); omega)))) | ((with_reducible refine ck_split (fun h => ?_) (fun h => ?_)) <;> (try simp only [nrm] at h) <;> (try ((with_reducible exfalso); omega))) | ((with_reducible refine And.intro ?_ ?_); (first | omega | focus (simp; done) | focus (simp; omega) | focus ((repeat' (with_reducible refine And.intro ?_ ?_)) <;> first | omega | rfl | (simp only [go_sem, refsL_app, refs_dmap] <;> fail) | (simp [refsL_app, refs_dmap, AV.refsL, AV.refs] <;> omega)))) | ((with_reducible first | apply hK | (clear hK K; first | apply hK | (clear hK K; first | apply hK | (clear hK K; apply hK)))); clear hK K) | fail)
    refine aw_loopU [5, 6, 7, 16, 17, 18, 19, 20, 21, 22, 23, 24, 25, 26, 27, 28, 29, 30, 31, 32, 33, 34, 35] [18, 28, 5000] (fun s : Nat × List Int => [(5, .d (.int ((zs.take s.1).filter q).length)), (6, .d (.int s.1))]) (fun s => [(5000, .ds (s.2.map D.int))]) (fun s => s.1 ≤ zs.length ∧ s.2.length = zs.length ∧ s.2.take ((zs.take s.1).filter q).length = (zs.take s.1).filter q ∧ s.2.drop s.1 = zs.drop s.1 ∧ ((zs.take s.1).filter q).length < s.1) (fun s => zs.length - s.1) (i + 1, zs) ?_ ?_ ?_
    · refine ⟨by simp only; omega, rfl, ?_, rfl, ?_⟩
      · simp only [a1, a2]
      · simp only [a1, a2]
        omega
    · (refine lessW_of [] rfl ?_ <;> simp only [St.sws, St.sw, swS, swO, AV.sw, AV.swL, OB.sw, swp, St.upd, dropS, dropOs, Less, SubS, SubO, look, lookO, List.elem, List.cons_append, List.nil_append, cond_true, cond_false, and_true, true_and, beq_self_eq_true, ↓reduceIte, Nat.reduceEqDiff, Nat.reduceBEq, Nat.reduceAdd, Nat.reduceMul, Nat.reduceSub, Nat.reduceLT, Nat.reduceLeDiff] <;> try simp)
      rw [a1, a2]
    · rintro ⟨j, L⟩ ⟨f1, f2, f3, f4, f5⟩
      simp only [St.upd, dropS, dropOs, List.elem, List.cons_append, List.nil_append, cond_true, cond_false, beq_self_eq_true, ↓reduceIte, Nat.reduceEqDiff, Nat.reduceBEq, Nat.reduceAdd, Nat.reduceMul, Nat.reduceSub, Nat.reduceLT, Nat.reduceLeDiff]
      simp only at f1 f2 f3 f4 f5
      have m1 : j < zs.length → L.getD j 0 = zs.getD j 0 := fun hj => by
        have := congrArg (fun l : List Int => l.getD 0 0) f4
        simpa [List.getD_eq_getElem?_getD] using this
      have f6 : L.drop (j + 1) = zs.drop (j + 1) := by
        have := congrArg (List.drop 1) f4
        simpa [List.drop_drop] using this
      have hgj : j < zs.length → 0 ≤ findP l (zs.getD j 0) := fun hj => hg _ (getD_mem 0 hj)
      by_cases hj : j < zs.length
      · have e5 := living1_fn l y (zs.getD j 0) hl (hgj hj)
        rw [hq] at e5
        have fl : (L.map D.int).length = zs.length := by simp [f2]
        repeat' (first | (with_reducible first | refine aw_seq fun K hK => ?_ | refine aw_region (by kernel_rfl) ?_ | refine aw_condk ?_ | refine aw_block ?_) | ((with_reducible refine evg ?_); simp only [go_sem, ↓reduceIte, Nat.reduceEqDiff, Nat.reduceBEq, Nat.reduceAdd, Nat.reduceMul, Nat.reduceSub, Nat.reduceLT, Nat.reduceLeDiff]) | (simp (disch := omega) only [wr, drop_at, str_at, int_at, Int.reduceSub, Int.reduceAdd, Int.reduceToNat, Int.toNat_zero, int_at, m1, wr, fl]) | ((with_reducible refine ev_call ?_); (first | (refine call_fn e5 rfl ?_)); refine k_run ?_) | ((with_reducible refine ev_guard ?_); (with_reducible first | refine guard_t ?_ ?_ rfl | refine guard_f ?_ ?_ rfl) <;> (intro h; (try simp only [h]); (try simp only [nrm] at h) <;> (try ((with_reducible exfalso); omega)))) | ((with_reducible refine ck_split (fun h => ?_) (fun h => ?_)) <;> (try simp only [nrm] at h) <;> (try ((with_reducible exfalso); omega))) | ((with_reducible refine And.intro ?_ ?_); (first | omega | focus (simp; done) | focus (simp; omega) | focus ((repeat' (with_reducible refine And.intro ?_ ?_)) <;> first | omega | rfl | (simp only [go_sem, refsL_app, refs_dmap] <;> fail) | (simp [refsL_app, refs_dmap, AV.refsL, AV.refs] <;> omega)))) | ((with_reducible first | apply hK | (clear hK K; first | apply hK | (clear hK K; first | apply hK | (clear hK K; apply hK)))); clear hK K) | fail)
        · have a3 := filt_next (q := q) hj
          rw [if_pos h] at a3
          have a4 : ((zs.take (j + 1)).filter q).length = ((zs.take j).filter q).length + 1 := by rw [a3]; simp
          rw [map_set]
          refine ⟨(j + 1, L.set ((zs.take j).filter q).length (zs.getD j 0)), ⟨by simp only; omega, by simpa using f2, ?_, ?_, by simp only; omega⟩, by simp only; omega, by
            (refine lessW_of [] rfl ?_ <;> simp only [St.sws, St.sw, swS, swO, AV.sw, AV.swL, OB.sw, swp, St.upd, dropS, dropOs, Less, SubS, SubO, look, lookO, List.elem, List.cons_append, List.nil_append, cond_true, cond_false, and_true, true_and, beq_self_eq_true, ↓reduceIte, Nat.reduceEqDiff, Nat.reduceBEq, Nat.reduceAdd, Nat.reduceMul, Nat.reduceSub, Nat.reduceLT, Nat.reduceLeDiff] <;> try simp)
            rw [a4]
            omega⟩
          · simp only [a4]
            rw [take_next 0 (by simp; omega), a3, List.take_set, List.set_eq_of_length_le (by simp; omega), f3, getD_eq _ (by simp; omega), List.getElem_set_self]
          · simp only
            rw [List.drop_set_of_lt (by omega)]
            exact f6
        · have a3 := filt_next (q := q) hj
          rw [if_neg (by rw [h]; simp), List.append_nil] at a3
          refine ⟨(j + 1, L), ⟨by simp only; omega, f2, by simp only; rw [a3]; exact f3, f6, by simp only; rw [a3]; omega⟩, by simp only; omega, by
            (refine lessW_of [] rfl ?_ <;> simp only [St.sws, St.sw, swS, swO, AV.sw, AV.swL, OB.sw, swp, St.upd, dropS, dropOs, Less, SubS, SubO, look, lookO, List.elem, List.cons_append, List.nil_append, cond_true, cond_false, and_true, true_and, beq_self_eq_true, ↓reduceIte, Nat.reduceEqDiff, Nat.reduceBEq, Nat.reduceAdd, Nat.reduceMul, Nat.reduceSub, Nat.reduceLT, Nat.reduceLeDiff] <;> try simp)
            rw [a3]⟩
      · have fl : (L.map D.int).length = zs.length := by simp [f2]
        repeat' (first | (with_reducible first | refine aw_seq fun K hK => ?_ | refine aw_region (by kernel_rfl) ?_ | refine aw_condk ?_ | refine aw_block ?_) | ((with_reducible refine evg ?_); simp only [go_sem, ↓reduceIte, Nat.reduceEqDiff, Nat.reduceBEq, Nat.reduceAdd, Nat.reduceMul, Nat.reduceSub, Nat.reduceLT, Nat.reduceLeDiff]) | (simp (disch := omega) only [wr, drop_at, str_at, int_at, Int.reduceSub, Int.reduceAdd, Int.reduceToNat, Int.toNat_zero, wr, fl]) | ((with_reducible refine ev_guard ?_); (with_reducible first | refine guard_t ?_ ?_ rfl | refine guard_f ?_ ?_ rfl) <;> (intro h; (try simp only [h]); (try simp only [nrm] at h) <;> (try ((with_reducible exfalso); omega)))) | ((with_reducible refine ck_split (fun h => ?_) (fun h => ?_)) <;> (try simp only [nrm] at h) <;> (try ((with_reducible exfalso); omega))) | ((with_reducible refine And.intro ?_ ?_); (first | omega | focus (simp; done) | focus (simp; omega) | focus ((repeat' (with_reducible refine And.intro ?_ ?_)) <;> first | omega | rfl | (simp only [go_sem, refsL_app, refs_dmap] <;> fail) | (simp [refsL_app, refs_dmap, AV.refsL, AV.refs] <;> omega)))) | ((with_reducible first | apply hK | (clear hK K; first | apply hK | (clear hK K; first | apply hK | (clear hK K; apply hK)))); clear hK K) | fail)
        have e : zs.take j = zs := List.take_of_length_le (by omega)
        rw [e] at f3 f5
        have e2 := clearI_eq (L := L) (k := (zs.filter q).length) (n := zs.length) f2 (by omega)
        rw [f3] at e2
        rw [e]
        exact ress_tmp (by simp [lensO, lookO, obCells, delI_len]) ⟨congrArg (fun c => some (OB.ds c)) e2, rfl, rfl, trivial⟩ rfl

theorem delI_s (s t u : Nat) (l : List PerV) (y : Int) (zs : List Int) (hl : l.length ≤ 1048576) (hz : zs.length ≤ 1048576) (hg : ∀ a ∈ zs, 0 ≤ findP l a) (ht : t < 5000) (hu : u < 5000) (htu : t ≠ u) (hs : s = 5000 ∨ (s < 5000 ∧ s ≠ t ∧ s ≠ u)) : FnS Tryz.prog 66 [(s, .ds (zs.map D.int)), (t, .av [.d (perL l)]), (u, .av [.d (.int y)])] [.bs s 0 zs.length 1, .fc 67 [] [.bp t 0, .bp u 0]] [(s, .ds ((delI zs (livI l y)).map D.int)), (t, .av [.d (perL l)]), (u, .av [.d (.int y)])] (.bs s 0 (zs.filter (livI l y)).length 1) := by
  have h := (((delI_hi l y zs hl hz hg).sw 5000 s).sw 5001 t).sw 5002 u
  have e1 : swp 5000 s 5001 = 5001 := by
    have : 5001 ≠ s := by omega
    simp [swp, this]
  have e2 : swp 5000 s 5002 = 5002 := by
    have : 5002 ≠ s := by omega
    simp [swp, this]
  have e3 : swp 5001 t s = s := by
    have h1 : s ≠ 5001 := by omega
    have h2 : s ≠ t := by omega
    simp [swp, h1, h2]
  have e4 : swp 5001 t 5002 = 5002 := by
    have : 5002 ≠ t := by omega
    simp [swp, this]
  have e5 : swp 5002 u s = s := by
    have h1 : s ≠ 5002 := by omega
    have h2 : s ≠ u := by omega
    simp [swp, h1, h2]
  have e6 : swp 5002 u t = t := by
    have h1 : t ≠ 5002 := by omega
    simp [swp, h1, htu]
  simpa only [swO, AV.swL, AV.sw, OB.sw, sw_self, e1, e2, e3, e4, e5, e6] using h

set_option maxRecDepth 100000 in
set_option maxHeartbeats 4000000 in
theorem living_hi (l : List PerV) (y : Int) (zs : List Int) (hl : l.length ≤ 1048576) (hz : zs.length ≤ 1048576) (hg : ∀ a ∈ zs, 0 ≤ findP l a) : FnS Tryz.prog 50 [(5000, .ds (zs.map D.int))] [.d (famD l), .bs 5000 0 zs.length 1, .d (.int y)] [(5000, .ds ((delI zs (livI l y)).map D.int))] (.bs 5000 0 (zs.filter (livI l y)).length 1) := by
  refine fns_go Tryz.func50 rfl rfl Tryz.ntmps50 Tryz.results50 (by simp only [slotsA, Nat.reduceAdd]; rfl) (by simp) rfl ?_
  repeat' (first | (with_reducible first | refine aw_seq fun K hK => ?_ | refine aw_region (by kernel_rfl) ?_ | refine aw_condk ?_ | refine aw_block ?_) | ((with_reducible refine evg ?_); simp only [go_sem, ↓reduceIte, Nat.reduceEqDiff, Nat.reduceBEq, Nat.reduceAdd, Nat.reduceMul, Nat.reduceSub, Nat.reduceLT, Nat.reduceLeDiff]) | ((with_reducible refine ev_call ?_); (first | (refine call_s (delI_s 5000 3 5 l y zs hl hz hg (by decide) (by decide) (by decide) (by decide)) ?_ ?_ ?_ ?_ ?_; (focus rfl); (focus first | exact trivial | exact And.intro rfl trivial | exact ⟨rfl, rfl, trivial⟩ | exact ⟨rfl, rfl, rfl, trivial⟩); (focus rfl); (focus (simp [-List.map_map, apartO, dropO, killN, obCells, refs_dmap, nofnsD, AV.refs, AV.refsL, AV.nofn, AV.nofns] <;> fail)))); refine k_run ?_) | ((with_reducible refine ev_guard ?_); (with_reducible first | refine guard_t ?_ ?_ rfl | refine guard_f ?_ ?_ rfl) <;> (intro h; (try simp only [h]); (try simp only [nrm] at h))) | ((with_reducible refine ck_split (fun h => ?_) (fun h => ?_)) <;> (try simp only [nrm] at h)) | ((with_reducible refine And.intro ?_ ?_); (first | omega | focus (simp; done) | focus (simp; omega) | focus ((repeat' (with_reducible refine And.intro ?_ ?_)) <;> first | omega | rfl | (simp only [go_sem, refsL_app, refs_dmap] <;> fail) | (simp [refsL_app, refs_dmap, AV.refsL, AV.refs] <;> omega)))) | ((with_reducible first | apply hK | (clear hK K; first | apply hK | (clear hK K; first | apply hK | (clear hK K; apply hK)))); clear hK K) | (simp (disch := omega) only [wr, drop_at, str_at, int_at, Int.reduceSub, Int.reduceAdd, Int.reduceToNat, Int.toNat_zero]) | fail)
  exact ress_tmp (by simp [lensO, lookO, obCells, delI_len]) ⟨rfl, trivial⟩ rfl

theorem living_s (s : Nat) (l : List PerV) (y : Int) (zs : List Int) (hl : l.length ≤ 1048576) (hz : zs.length ≤ 1048576) (hg : ∀ a ∈ zs, 0 ≤ findP l a) : FnS Tryz.prog 50 [(s, .ds (zs.map D.int))] [.d (famD l), .bs s 0 zs.length 1, .d (.int y)] [(s, .ds ((delI zs (livI l y)).map D.int))] (.bs s 0 (zs.filter (livI l y)).length 1) := by
  have h := (living_hi l y zs hl hz hg).sw 5000 s
  simpa only [swO, AV.swL, AV.sw, OB.sw, sw_self] using h

end Go.Proofs.YtdeobicgildamaaGreatDoor
