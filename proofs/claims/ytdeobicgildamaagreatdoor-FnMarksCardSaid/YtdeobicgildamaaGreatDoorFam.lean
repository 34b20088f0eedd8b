/- Families: lists of persons; copying, comparing, finding; valid families. -/
import Derived.Test.YtdeobicgildamaaGreatDoorGlob
import Derived.Test.YtdeobicgildamaaGreatDoorFacts
import Derived.Test.YtdeobicgildamaaGreatDoorJoi
import Derived.WalkKit
import Derived.WalkSpells
import Derived.KernelRfl
namespace Go.Proofs.YtdeobicgildamaaGreatDoor
open Go.RowKit
set_option linter.unusedVariables false
set_option linter.unusedSimpArgs false

structure PerV where
  (id born died one two : Int)

def PerV.d (b : PerV) : D := .ag [.int b.id, .int b.born, .int b.died, .int b.one, .int b.two]

def PerV.cs (b : PerV) : List D := [.int b.id, .int b.born, .int b.died, .int b.one, .int b.two]

def PerV.zero : PerV := ⟨0, 0, 0, 0, 0⟩

def perC (l : List PerV) : List D := recC PerV.cs l

def perL (l : List PerV) : D := .ls 5 l.length (perC l)

def famD (l : List PerV) : D := .ag [perL l]

attribute [local go_sem] PerV.d PerV.cs perL famD

theorem per_k : ∀ b : PerV, b.cs.length = 5 := fun _ => rfl

theorem per_at {l : List PerV} {i : Nat} (h : i < l.length) : ((perC l).drop (i * 5)).take 5 = [.int (l.getD i PerV.zero).id, .int (l.getD i PerV.zero).born, .int (l.getD i PerV.zero).died, .int (l.getD i PerV.zero).one, .int (l.getD i PerV.zero).two] := recC_at per_k PerV.zero h

theorem per_get {l : List PerV} {i j : Nat} (h : i < l.length) (hj : j < 5) : (perC l).getD (i * 5 + j) (.v undef) = [D.int (l.getD i PerV.zero).id, .int (l.getD i PerV.zero).born, .int (l.getD i PerV.zero).died, .int (l.getD i PerV.zero).one, .int (l.getD i PerV.zero).two].getD j (.v undef) := by
  rw [← per_at h]
  simp only [List.getD_eq_getElem?_getD, List.getElem?_take, List.getElem?_drop, if_pos hj]

theorem per_get0 {l : List PerV} {i : Nat} (h : i < l.length) : (perC l).getD (i * 5) (.v undef) = .int (l.getD i PerV.zero).id := per_get (j := 0) h (by omega)

theorem per_get1 {l : List PerV} {i : Nat} (h : i < l.length) : (perC l).getD (i * 5 + 1) (.v undef) = .int (l.getD i PerV.zero).born := per_get (j := 1) h (by omega)

theorem per_get2 {l : List PerV} {i : Nat} (h : i < l.length) : (perC l).getD (i * 5 + 2) (.v undef) = .int (l.getD i PerV.zero).died := per_get (j := 2) h (by omega)

theorem perC_all (l : List PerV) : (perC l).take (l.length * 5) = perC l := recC_all per_k l

theorem perC_raw (l : List PerV) : D.ls 5 l.length (((perC l).drop 0).take (l.length * 5)) = perL l := recC_raw per_k l

theorem perC_plains (l : List PerV) : plains (perC l) := recC_plains (cs := PerV.cs) (fun b => (⟨trivial, trivial, trivial, trivial, trivial, trivial⟩ : plains [.int b.id, .int b.born, .int b.died, .int b.one, .int b.two])) l

@[simp] theorem perC_len (l : List PerV) : (perC l).length = l.length * 5 := recC_len per_k l

attribute [local simp] perC_all perC_plains

def idxR {α : Type} (l : List α) (p : α → Bool) : Int := if l.all (fun x => !p x) then -1 else (l.findIdx p : Nat)

theorem idxR_at {α : Type} (z : α) {l : List α} {p : α → Bool} {i : Nat} (hi : i < l.length) (h : (l.take i).all (fun x => !p x) = true) (hp : p (l.getD i z) = true) : idxR l p = i := by
  have h1 : l.all (fun x => !p x) = false := allR_not z (p := fun x => !p x) hi (by rw [hp]; rfl)
  have h2 : l.findIdx p = i := by
    rw [List.findIdx_eq hi]
    rw [getD_eq _ hi] at hp
    refine ⟨hp, fun j hj => ?_⟩
    have := List.all_eq_true.1 h (l[j]'(by omega)) (by
      rw [List.mem_take_iff_getElem]
      exact ⟨j, by omega, rfl⟩)
    simpa using this
  simp only [idxR, h1, h2]
  rfl

theorem idxR_ex {α : Type} (z : α) (l : List α) (p : α → Bool) : idxR l p = -1 ∧ l.all (fun x => !p x) = true ∨ ∃ i : Nat, idxR l p = i ∧ i < l.length ∧ p (l.getD i z) = true := by
  cases h : l.all (fun x => !p x)
  · refine .inr ⟨l.findIdx p, by simp [idxR, h], ?_, ?_⟩
    · rw [List.findIdx_lt_length]
      rw [List.all_eq_false] at h
      obtain ⟨x, h1, h2⟩ := h
      exact ⟨x, h1, by simpa using h2⟩
    · rw [List.all_eq_false] at h
      obtain ⟨x, h1, h2⟩ := h
      have h3 : l.findIdx p < l.length := List.findIdx_lt_length.2 ⟨x, h1, by simpa using h2⟩
      rw [getD_eq _ h3]
      exact List.findIdx_getElem
  · exact .inl ⟨by simp [idxR, h], rfl⟩

def findP (l : List PerV) (id : Int) : Int := idxR l (fun p => decide (p.id = id))

set_option maxRecDepth 100000 in
set_option maxHeartbeats 4000000 in
theorem l18Find_fn (l : List PerV) (id : Int) (hl : l.length ≤ 9223372036854775807) : FnD Tryz.prog 34 [famD l, .int id] (.int (findP l id)) := by
  refine fn_go Tryz.func34 rfl rfl Tryz.ntmps34 Tryz.results34 (by simp only [slotsOf, argAV, List.map_cons, List.map_nil, Nat.reduceAdd]; rfl) (by simp) ?_
  repeat' (first | (with_reducible first | refine aw_seq fun K hK => ?_ | refine aw_region (by kernel_rfl) ?_ | refine aw_condk ?_ | refine aw_block ?_) | ((with_reducible refine evg ?_); simp only [go_sem, ↓reduceIte, Nat.reduceEqDiff, Nat.reduceBEq, Nat.reduceAdd, Nat.reduceMul, Nat.reduceSub, Nat.reduceLT, Nat.reduceLeDiff]) | ((with_reducible refine ev_guard ?_); (with_reducible first | refine guard_t ?_ ?_ rfl | refine guard_f ?_ ?_ rfl) <;> (intro h; (try simp only [h]); (try simp only [nrm] at h))) | ((with_reducible refine ck_split (fun h => ?_) (fun h => ?_)) <;> (try simp only [nrm] at h)) | ((with_reducible refine And.intro ?_ ?_); (first | omega | focus (simp; done) | focus (simp; omega) | focus ((repeat' (with_reducible refine And.intro ?_ ?_)) <;> first | omega | rfl | (simp only [go_sem, refsL_app, refs_dmap] <;> fail) | (simp [refsL_app, refs_dmap, AV.refsL, AV.refs] <;> omega)))) | ((with_reducible first | apply hK | (clear hK K; first | apply hK | (clear hK K; first | apply hK | (clear hK K; apply hK)))); clear hK K) | (simp (disch := omega) only [wr, drop_at, str_at, int_at, Int.reduceSub, Int.reduceAdd, Int.reduceToNat, Int.toNat_zero]) | fail)
  refine aw_loopU [4, 5, 6, 7, 8, 9, 10, 11, 12, 13, 14, 15, 16, 17, 18, 19, 20, 21] [9] (fun i : Nat => [(5, .d (.int i))]) (fun _ => []) (fun i => i ≤ l.length ∧ (l.take i).all (fun p => !decide (p.id = id)) = true) (fun i => l.length - i) 0 ⟨by omega, rfl⟩ ?_ ?_
  · (refine lessW_of [] rfl ?_ <;> simp only [St.sws, St.sw, swS, swO, AV.sw, AV.swL, OB.sw, swp, St.upd, dropS, dropOs, Less, SubS, SubO, look, lookO, List.elem, List.cons_append, List.nil_append, cond_true, cond_false, and_true, true_and, beq_self_eq_true, ↓reduceIte, Nat.reduceEqDiff, Nat.reduceBEq, Nat.reduceAdd, Nat.reduceMul, Nat.reduceSub, Nat.reduceLT, Nat.reduceLeDiff] <;> try simp)
  · rintro i ⟨g1, g2⟩
    simp only [St.upd, dropS, dropOs, List.elem, List.cons_append, List.nil_append, cond_true, cond_false, beq_self_eq_true, ↓reduceIte, Nat.reduceEqDiff, Nat.reduceBEq, Nat.reduceAdd, Nat.reduceMul, Nat.reduceSub, Nat.reduceLT, Nat.reduceLeDiff]
    repeat' (first | (with_reducible first | refine aw_seq fun K hK => ?_ | refine aw_region (by kernel_rfl) ?_ | refine aw_condk ?_ | refine aw_block ?_) | ((with_reducible refine evg ?_); simp only [go_sem, ↓reduceIte, Nat.reduceEqDiff, Nat.reduceBEq, Nat.reduceAdd, Nat.reduceMul, Nat.reduceSub, Nat.reduceLT, Nat.reduceLeDiff]) | (simp (disch := omega) only [wr, drop_at, str_at, int_at, Int.reduceSub, Int.reduceAdd, Int.reduceToNat, Int.toNat_zero, per_at, per_get0]) | ((with_reducible refine ev_guard ?_); (with_reducible first | refine guard_t ?_ ?_ rfl | refine guard_f ?_ ?_ rfl) <;> (intro h; (try simp only [h]); (try simp only [nrm] at h) <;> (try ((with_reducible exfalso); omega)))) | ((with_reducible refine ck_split (fun h => ?_) (fun h => ?_)) <;> (try simp only [nrm] at h) <;> (try ((with_reducible exfalso); omega))) | ((with_reducible refine And.intro ?_ ?_); (first | omega | focus (simp; done) | focus (simp; omega) | focus ((repeat' (with_reducible refine And.intro ?_ ?_)) <;> first | omega | rfl | (simp only [go_sem, refsL_app, refs_dmap] <;> fail) | (simp [refsL_app, refs_dmap, AV.refsL, AV.refs] <;> omega)))) | ((with_reducible first | apply hK | (clear hK K; first | apply hK | (clear hK K; first | apply hK | (clear hK K; apply hK)))); clear hK K) | fail)
    · (first | refine res_tmp rfl (by simp [D.plain, plains]) (by simp) ?_ | refine res_at rfl (by simp [D.plain, plains]) (by simp) ?_ | refine res_two rfl (by simp [D.plain, plains]) (by simp) ?_ | refine res_three rfl (by simp [D.plain, plains]) (by simp) ?_)
      rw [findP, idxR_at PerV.zero (by omega) g2 (decide_eq_true h)]
    · refine ⟨i + 1, ?_, ?_, by (refine lessW_of [] rfl ?_ <;> simp only [St.sws, St.sw, swS, swO, AV.sw, AV.swL, OB.sw, swp, St.upd, dropS, dropOs, Less, SubS, SubO, look, lookO, List.elem, List.cons_append, List.nil_append, cond_true, cond_false, and_true, true_and, beq_self_eq_true, ↓reduceIte, Nat.reduceEqDiff, Nat.reduceBEq, Nat.reduceAdd, Nat.reduceMul, Nat.reduceSub, Nat.reduceLT, Nat.reduceLeDiff] <;> try simp)⟩
      · exact ⟨by omega, allR_take PerV.zero (p := fun p => !decide (p.id = id)) g2 (by omega) (by rw [decide_eq_false h]; rfl)⟩
      · omega
    · (first | refine res_tmp rfl (by simp [D.plain, plains]) (by simp) ?_ | refine res_at rfl (by simp [D.plain, plains]) (by simp) ?_ | refine res_two rfl (by simp [D.plain, plains]) (by simp) ?_ | refine res_three rfl (by simp [D.plain, plains]) (by simp) ?_)
      have e : l.take i = l := List.take_of_length_le (by omega)
      rw [e] at g2
      simp [findP, idxR, g2]

def hPer (p : PerV → Bool) : List D → D
  | [.ag [.v (.int .i64 a0), .v (.int .i64 a1), .v (.int .i64 a2), .v (.int .i64 a3), .v (.int .i64 a4)]] => .bool (p ⟨a0, a1, a2, a3, a4⟩)
  | _ => .bool false

theorem hPer_at {p : PerV → Bool} {x : PerV} : hPer p [.ag [.int x.id, .int x.born, .int x.died, .int x.one, .int x.two]] = .bool (p x) := rfl

def isPer (ds : List D) : Prop := ∃ x : PerV, ds = [x.d]

set_option maxRecDepth 100000 in
set_option maxHeartbeats 4000000 in
theorem indexPer_fn (l : List PerV) (p : PerV → Bool) (hl : l.length ≤ 9223372036854775807) : Fn Tryz.prog 74 [.d (perL l), .fn isPer (hPer p)] (.int (idxR l p)) := by
  refine fn_go Tryz.func74 rfl rfl Tryz.ntmps74 Tryz.results74 (by simp only [slotsOf, argAV, List.map_cons, List.map_nil, Nat.reduceAdd]; rfl) (by simp) ?_
  repeat' (first | (with_reducible first | refine aw_seq fun K hK => ?_ | refine aw_region (by kernel_rfl) ?_ | refine aw_condk ?_ | refine aw_block ?_) | ((with_reducible refine evg ?_); simp only [go_sem, ↓reduceIte, Nat.reduceEqDiff, Nat.reduceBEq, Nat.reduceAdd, Nat.reduceMul, Nat.reduceSub, Nat.reduceLT, Nat.reduceLeDiff]) | ((with_reducible refine ev_guard ?_); (with_reducible first | refine guard_t ?_ ?_ rfl | refine guard_f ?_ ?_ rfl) <;> (intro h; (try simp only [h]); (try simp only [nrm] at h))) | ((with_reducible refine ck_split (fun h => ?_) (fun h => ?_)) <;> (try simp only [nrm] at h)) | ((with_reducible refine And.intro ?_ ?_); (first | omega | focus (simp; done) | focus (simp; omega) | focus ((repeat' (with_reducible refine And.intro ?_ ?_)) <;> first | omega | rfl | (simp only [go_sem, refsL_app, refs_dmap] <;> fail) | (simp [refsL_app, refs_dmap, AV.refsL, AV.refs] <;> omega)))) | ((with_reducible first | apply hK | (clear hK K; first | apply hK | (clear hK K; first | apply hK | (clear hK K; apply hK)))); clear hK K) | (simp (disch := omega) only [wr, drop_at, str_at, int_at, Int.reduceSub, Int.reduceAdd, Int.reduceToNat, Int.toNat_zero]) | fail)
  refine aw_loopU [4, 5, 8, 9, 10, 11, 12, 13, 14, 15, 16, 17, 18] [16] (fun i : Nat => [(8, .d (.int i))]) (fun _ => []) (fun i => i ≤ l.length ∧ (l.take i).all (fun x => !p x) = true) (fun i => l.length - i) 0 ⟨by omega, rfl⟩ ?_ ?_
  · (refine lessW_of [] rfl ?_ <;> simp only [St.sws, St.sw, swS, swO, AV.sw, AV.swL, OB.sw, swp, St.upd, dropS, dropOs, Less, SubS, SubO, look, lookO, List.elem, List.cons_append, List.nil_append, cond_true, cond_false, and_true, true_and, beq_self_eq_true, ↓reduceIte, Nat.reduceEqDiff, Nat.reduceBEq, Nat.reduceAdd, Nat.reduceMul, Nat.reduceSub, Nat.reduceLT, Nat.reduceLeDiff] <;> try simp)
  · rintro i ⟨g1, g2⟩
    simp only [St.upd, dropS, dropOs, List.elem, List.cons_append, List.nil_append, cond_true, cond_false, beq_self_eq_true, ↓reduceIte, Nat.reduceEqDiff, Nat.reduceBEq, Nat.reduceAdd, Nat.reduceMul, Nat.reduceSub, Nat.reduceLT, Nat.reduceLeDiff]
    repeat' (first | (with_reducible first | refine aw_seq fun K hK => ?_ | refine aw_region (by kernel_rfl) ?_ | refine aw_condk ?_ | refine aw_block ?_) | ((with_reducible refine evg ?_); simp only [go_sem, ↓reduceIte, Nat.reduceEqDiff, Nat.reduceBEq, Nat.reduceAdd, Nat.reduceMul, Nat.reduceSub, Nat.reduceLT, Nat.reduceLeDiff]) | (simp (disch := omega) only [wr, drop_at, str_at, int_at, Int.reduceSub, Int.reduceAdd, Int.reduceToNat, Int.toNat_zero, per_at, hPer_at]) | ((with_reducible refine ev_call ?_); (first | (refine call_known rfl ⟨_, rfl⟩ ?_ )); refine k_run ?_) | ((with_reducible refine ev_guard ?_); (with_reducible first | refine guard_t ?_ ?_ rfl | refine guard_f ?_ ?_ rfl) <;> (intro h; (try simp only [h]); (try simp only [nrm] at h) <;> (try ((with_reducible exfalso); omega)))) | ((with_reducible refine ck_split (fun h => ?_) (fun h => ?_)) <;> (try simp only [nrm] at h) <;> (try ((with_reducible exfalso); omega))) | ((with_reducible refine And.intro ?_ ?_); (first | omega | focus (simp; done) | focus (simp; omega) | focus ((repeat' (with_reducible refine And.intro ?_ ?_)) <;> first | omega | rfl | (simp only [go_sem, refsL_app, refs_dmap] <;> fail) | (simp [refsL_app, refs_dmap, AV.refsL, AV.refs] <;> omega)))) | ((with_reducible first | apply hK | (clear hK K; first | apply hK | (clear hK K; first | apply hK | (clear hK K; apply hK)))); clear hK K) | fail)
    · (first | refine res_tmp rfl (by simp [D.plain, plains]) (by simp) ?_ | refine res_at rfl (by simp [D.plain, plains]) (by simp) ?_ | refine res_two rfl (by simp [D.plain, plains]) (by simp) ?_ | refine res_three rfl (by simp [D.plain, plains]) (by simp) ?_)
      rw [idxR_at PerV.zero (by omega) g2 h]
    · refine ⟨i + 1, ?_, ?_, by (refine lessW_of [] rfl ?_ <;> simp only [St.sws, St.sw, swS, swO, AV.sw, AV.swL, OB.sw, swp, St.upd, dropS, dropOs, Less, SubS, SubO, look, lookO, List.elem, List.cons_append, List.nil_append, cond_true, cond_false, and_true, true_and, beq_self_eq_true, ↓reduceIte, Nat.reduceEqDiff, Nat.reduceBEq, Nat.reduceAdd, Nat.reduceMul, Nat.reduceSub, Nat.reduceLT, Nat.reduceLeDiff] <;> try simp)⟩
      · exact ⟨by omega, allR_take PerV.zero (p := fun x => !p x) g2 (by omega) (by rw [h]; rfl)⟩
      · omega
    · (first | refine res_tmp rfl (by simp [D.plain, plains]) (by simp) ?_ | refine res_at rfl (by simp [D.plain, plains]) (by simp) ?_ | refine res_two rfl (by simp [D.plain, plains]) (by simp) ?_ | refine res_three rfl (by simp [D.plain, plains]) (by simp) ?_)
      have e : l.take i = l := List.take_of_length_le (by omega)
      rw [e] at g2
      simp [idxR, g2]

theorem call_pc {σ : St} {q : Bool} {dst : Option Nat} {K : St → Prop} {g g2 : FuncId} {first cap : List AV} {fs cs : List D} {x : AV} {y r : D} {dom : List D → Prop} {h : List D → D} (hc : Fn Tryz.prog g [.d y, .fn dom h] r) (hx : toD σ.ob 4 x = some y) (hok : FnOk Tryz.prog g2) (hfirst : mapD (toD σ.ob 4) first = some fs) (hcap : mapD (toD σ.ob 4) cap = some cs) (hf : ∀ ds, dom ds → FnD Tryz.prog g2 (fs ++ ds ++ cs) (h ds)) (hk : K (σ.adopt dst r)) :
    CallOk Tryz.prog q σ dst (.fc g [] []) [x, .fc g2 first cap] K := by
  refine call_cv hc ?_ hk
  simp only [List.nil_append, List.append_nil, ArgsAre]
  refine ⟨_, _, rfl, ?_, _, _, rfl, ?_, rfl⟩
  · unfold ArgIs
    cases x <;> exact hx
  · unfold ArgIs
    exact ⟨hok, fs, cs, hfirst, hcap, fun ds hd => hf ds hd⟩

set_option maxRecDepth 100000 in
set_option maxHeartbeats 4000000 in
theorem person1_fn (x : PerV) (id : Int) : FnD Tryz.prog 75 [x.d, .pt [.int id]] (.bool (decide (x.id = id))) := by
  refine fn_go Tryz.func75 rfl rfl Tryz.ntmps75 Tryz.results75 (by simp only [slotsOf, argAV, List.map_cons, List.map_nil, Nat.reduceAdd]; rfl) (by simp) ?_
  repeat' (first | (with_reducible first | refine aw_seq fun K hK => ?_ | refine aw_region (by kernel_rfl) ?_ | refine aw_condk ?_ | refine aw_block ?_) | ((with_reducible refine evg ?_); simp only [go_sem, ↓reduceIte, Nat.reduceEqDiff, Nat.reduceBEq, Nat.reduceAdd, Nat.reduceMul, Nat.reduceSub, Nat.reduceLT, Nat.reduceLeDiff]) | ((with_reducible refine ev_guard ?_); (with_reducible first | refine guard_t ?_ ?_ rfl | refine guard_f ?_ ?_ rfl) <;> (intro h; (try simp only [h]); (try simp only [nrm] at h))) | ((with_reducible refine ck_split (fun h => ?_) (fun h => ?_)) <;> (try simp only [nrm] at h)) | ((with_reducible refine And.intro ?_ ?_); (first | omega | focus (simp; done) | focus (simp; omega) | focus ((repeat' (with_reducible refine And.intro ?_ ?_)) <;> first | omega | rfl | (simp only [go_sem, refsL_app, refs_dmap] <;> fail) | (simp [refsL_app, refs_dmap, AV.refsL, AV.refs] <;> omega)))) | ((with_reducible first | apply hK | (clear hK K; first | apply hK | (clear hK K; first | apply hK | (clear hK K; apply hK)))); clear hK K) | (simp (disch := omega) only [wr, drop_at, str_at, int_at, Int.reduceSub, Int.reduceAdd, Int.reduceToNat, Int.toNat_zero]) | fail)
  (first | refine res_tmp rfl (by simp [D.plain, plains]) (by simp) ?_ | refine res_at rfl (by simp [D.plain, plains]) (by simp) ?_ | refine res_two rfl (by simp [D.plain, plains]) (by simp) ?_ | refine res_three rfl (by simp [D.plain, plains]) (by simp) ?_)
  rfl

set_option maxRecDepth 100000 in
set_option maxHeartbeats 4000000 in
theorem person_fn (l : List PerV) (id : Int) (hl : l.length ≤ 9223372036854775807) : FnD Tryz.prog 55 [famD l, .int id] (.int (findP l id)) := by
  have g1 : ∀ ds, isPer ds → FnD Tryz.prog 75 ([] ++ ds ++ [.pt [.int id]]) (hPer (fun p => decide (p.id = id)) ds) := by
    rintro ds ⟨x, rfl⟩
    exact person1_fn x id
  refine fn_go Tryz.func55 rfl rfl Tryz.ntmps55 Tryz.results55 (by simp only [slotsOf, argAV, List.map_cons, List.map_nil, Nat.reduceAdd]; rfl) (by simp) ?_
  repeat' (first | (with_reducible first | refine aw_seq fun K hK => ?_ | refine aw_region (by kernel_rfl) ?_ | refine aw_condk ?_ | refine aw_block ?_) | ((with_reducible refine evg ?_); simp only [go_sem, ↓reduceIte, Nat.reduceEqDiff, Nat.reduceBEq, Nat.reduceAdd, Nat.reduceMul, Nat.reduceSub, Nat.reduceLT, Nat.reduceLeDiff]) | ((with_reducible refine ev_call ?_); (first | (refine call_pc (indexPer_fn l _ hl) rfl (person1_fn PerV.zero 0).1 rfl rfl g1 ?_ )); refine k_run ?_) | ((with_reducible refine ev_guard ?_); (with_reducible first | refine guard_t ?_ ?_ rfl | refine guard_f ?_ ?_ rfl) <;> (intro h; (try simp only [h]); (try simp only [nrm] at h))) | ((with_reducible refine ck_split (fun h => ?_) (fun h => ?_)) <;> (try simp only [nrm] at h)) | ((with_reducible refine And.intro ?_ ?_); (first | omega | focus (simp; done) | focus (simp; omega) | focus ((repeat' (with_reducible refine And.intro ?_ ?_)) <;> first | omega | rfl | (simp only [go_sem, refsL_app, refs_dmap] <;> fail) | (simp [refsL_app, refs_dmap, AV.refsL, AV.refs] <;> omega)))) | ((with_reducible first | apply hK | (clear hK K; first | apply hK | (clear hK K; first | apply hK | (clear hK K; apply hK)))); clear hK K) | (simp (disch := omega) only [wr, drop_at, str_at, int_at, Int.reduceSub, Int.reduceAdd, Int.reduceToNat, Int.toNat_zero]) | fail)
  (first | refine res_tmp rfl (by simp [D.plain, plains]) (by simp) ?_ | refine res_at rfl (by simp [D.plain, plains]) (by simp) ?_ | refine res_two rfl (by simp [D.plain, plains]) (by simp) ?_ | refine res_three rfl (by simp [D.plain, plains]) (by simp) ?_)
  rfl

end Go.Proofs.YtdeobicgildamaaGreatDoor
