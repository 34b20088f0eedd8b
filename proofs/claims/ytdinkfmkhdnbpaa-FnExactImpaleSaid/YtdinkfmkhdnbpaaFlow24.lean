/- A function's entry and exit. -/
import Derived.Test.YtdinkfmkhdnbpaaFlow23
import Derived.WalkKit
import Derived.WalkSpells
namespace Go.Proofs.Ytdinkfmkhdnbpaa
open Go.RowKit
set_option linter.unusedVariables false
set_option linter.unusedSimpArgs false

mutual
/-- What the frame gives back, in memory of its own: the data, the objects that it lies in. -/
def own (ob : List (Nat × OB)) : Nat → AV → Option (Prop × D × List Nat)
  | _, .d x => some (x.plain, x, [])
  | n + 1, .bs s off m k => match lookO ob s with
    | some (.ds cs) => some (plains ((cs.drop off).take (m * k)), .ls k m ((cs.drop off).take (m * k)), [s])
    | some (.av cs) => match ownL ob n ((cs.drop off).take (m * k)) with
      | some (p, ds, ss) => some (p, .ls k m ds, s :: ss)
      | none => none
    | _ => none
  | n + 1, .ag cs => match ownL ob n cs with
    | some (p, ds, ss) => some (p, .ag ds, ss)
    | none => none
  | n + 1, .tu cs => match ownL ob n cs with
    | some (p, ds, ss) => some (p, .tu ds, ss)
    | none => none
  | _, _ => none
def ownL (ob : List (Nat × OB)) : Nat → List AV → Option (Prop × List D × List Nat)
  | _, [] => some (True, [], [])
  | 0, _ :: _ => none
  | n + 1, x :: xs => match own ob n x, ownL ob n xs with
    | some (p, d, ss), some (q, ds, ss') => some (p ∧ q, d :: ds, ss ++ ss')
    | _, _ => none
end

def argAV : CV → AV
  | .d x => .d x
  | .fn dom h => .fn dom h

def slotsOf : Nat → List CV → List (Nat × AV)
  | _, [] => []
  | i, c :: cs => (i, argAV c) :: slotsOf (i + 1) cs

def resAV (P : Program) (σ : St) : ResultVar → Option (Prop × AV)
  | .tmp t => some (True, look σ.sl t)
  | .cell t ty => pureOp P σ (.load ty (.tmp t))

def joinR : List AV → AV
  | [x] => x
  | xs => .tu xs

def resAVs (P : Program) (σ : St) : List ResultVar → Option (Prop × List AV)
  | [] => some (True, [])
  | r :: rs => match resAV P σ r, resAVs P σ rs with
    | some (p, x), some (q, xs) => some (p ∧ q, x :: xs)
    | _, _ => none

/-- What comes back. -/
def ResOk (P : Program) (rs : List ResultVar) (σ : St) (res : D) : Prop :=
  rs.length ≤ 3 ∧ match resAVs P σ rs with
    | some (p, xs) => p ∧ ∃ q ss, own σ.ob 20 (joinR xs) = some (q, res, ss) ∧ q ∧ ss.Nodup
    | none => False

section
variable {P : Program} {w0 : Env} {w w' : World} {σ : St} {ν : Loc} {a : Act}

/-- The blocks are those of the objects named. -/
def InObs (ob : List (Nat × OB)) (ν : Loc) (ss bs : List Nat) : Prop := bs.Nodup ∧ ∀ b ∈ bs, ∃ s ∈ ss, (lookO ob s).isSome = true ∧ ∃ base, ν s = some (b, base)

theorem InObs.nil {ob : List (Nat × OB)} {ss : List Nat} : InObs ob ν ss [] := ⟨List.nodup_nil, by simp⟩

theorem InObs.append (h : Sim P w0 σ ν a w) {s1 s2 b1 b2 : List Nat} (h1 : InObs σ.ob ν s1 b1) (h2 : InObs σ.ob ν s2 b2) (hn : (s1 ++ s2).Nodup) : InObs σ.ob ν (s1 ++ s2) (b1 ++ b2) := by
  refine ⟨List.nodup_append.2 ⟨h1.1, h2.1, fun x hx y hy e => ?_⟩, fun b hb => ?_⟩
  · subst e
    obtain ⟨s, e1, e2, base, e3⟩ := h1.2 x hx
    obtain ⟨s', f1, f2, base', f3⟩ := h2.2 x hy
    obtain ⟨o, e2⟩ := Option.isSome_iff_exists.1 e2
    obtain ⟨o', f2⟩ := Option.isSome_iff_exists.1 f2
    exact h.inj s s' o o' _ _ ((List.nodup_append.1 hn).2.2 s e1 s' f1) e2 f2 e3 f3 rfl
  · rcases List.mem_append.1 hb with hb | hb
    · obtain ⟨s, e1, e2⟩ := h1.2 b hb
      exact ⟨s, List.mem_append_left _ e1, e2⟩
    · obtain ⟨s, e1, e2⟩ := h2.2 b hb
      exact ⟨s, List.mem_append_right _ e1, e2⟩

/-- A slice over an own object whose cells are read. -/
theorem own_slice (h : Sim P w0 σ ν a w) {s off m k : Nat} {o : OB} {y : Value} {ds : List D} {ss : List Nat} (ho : lookO σ.ob s = some o) (hv : VR P w0 w σ.ob ν (.bs s off m k) y) (hn : (s :: ss).Nodup)
    (hds : ∀ ys, VRs P w0 w σ.ob ν (((obCells o).drop off).take (m * k)) ys → ∃ bs, RDs w true ds ys bs ∧ InObs σ.ob ν ss bs) : ∃ bs, RD w true (.ls k m ds) y bs ∧ InObs σ.ob ν (s :: ss) bs := by
  simp only [VR] at hv
  obtain ⟨hle, hv⟩ := hv (by rw [ho]; rfl)
  have hle := hle o ho
  simp only [RD]
  rcases hv with ⟨g1, rfl, rfl, rfl⟩ | ⟨b, base, cap, ad, c, T, g1, rfl, g3, g4, g5, g6⟩
  · obtain ⟨bs, hb, _⟩ := hds [] (by simp [VRs])
    have := hb.length
    exact ⟨[], .inl ⟨none, 0, by trivial, (by first | trivial | rfl | simp), by trivial, List.eq_nil_of_length_eq_zero (by simpa using this.symm), rfl⟩, .nil⟩
  · obtain ⟨xs, r1, r2, r3⟩ := (h.objs s o ho).read g1
    have hl := r3.length
    obtain ⟨bs, hb, hin⟩ := hds _ ((r3.drop off).take (m * k))
    have hbl := hb.length
    have hall : InObs σ.ob ν (s :: ss) (b :: bs) := InObs.append h (s1 := [s]) (b1 := [b]) ⟨by simp, fun b' hb' => by simp at hb'; exact ⟨s, by simp, by rw [ho]; rfl, base, by rw [hb', g1]⟩⟩ hin hn
    rcases g4 with ⟨g4, x0, hx0, rfl⟩ | rfl
    · have hm : m = 0 := by omega
      subst hm
      have hds0 : ds = [] := List.eq_nil_of_length_eq_zero (by simpa using hbl.symm)
      subst hds0
      simp only [List.length_nil, RDs] at hb hbl
      obtain ⟨_, rfl⟩ := hb
      exact ⟨[b], .inr ⟨b, x0, cap, [], [], rfl, rfl, by simp, by omega, ⟨(fun x hx => by cases hx), c, T, (0, 0), g5, (fun i hi => by simp at hi), fun _ => ⟨rfl, by subst g4; simpa using hx0⟩⟩, by simp [RDs]⟩, hall⟩
    · refine ⟨b :: bs, .inr ⟨b, base + off, cap, (xs.drop off).take (m * k), bs, rfl, rfl, by simp at hbl; omega, g3, ⟨(r2.drop _).take _, c, T, (0, 0), g5, fun i hi => ?_, fun _ => ⟨rfl, g6⟩⟩, hb⟩, hall⟩
      simp only [List.length_take, List.length_drop] at hi
      have := r1 (off + i) (by omega)
      rw [cell_row g5] at this
      rw [Nat.add_assoc, this, List.getElem?_take, if_pos (by omega), List.getElem?_drop]

mutual
theorem own_sound (h : Sim P w0 σ ν a w) : ∀ (n : Nat) {x : AV} {p : Prop} {d : D} {ss : List Nat} {y : Value}, own σ.ob n x = some (p, d, ss) → p → ss.Nodup → VR P w0 w σ.ob ν x y → ∃ bs, RD w true d y bs ∧ InObs σ.ob ν ss bs
  | n, .d x, p, d, ss, y, ho, hp, hn, hv => by
    have : (x.plain, x, ([] : List Nat)) = (p, d, ss) := by cases n <;> simpa [own] using ho
    cases this
    simp only [VR] at hv
    obtain ⟨bs, h1, _⟩ := hv
    exact ⟨[], (RD.plain h1 hp).2, .nil⟩
  | n + 1, .bs s off m k, p, d, ss, y, ho, hp, hn, hv => by
    simp only [own] at ho
    split at ho
    · rename_i cs hcs
      cases ho
      refine own_slice h hcs hv (by simp) (fun ys hys => ?_)
      simp only [obCells, ← List.map_drop, ← List.map_take] at hys
      obtain ⟨bs, h1, _⟩ := hys.to_rds
      exact ⟨[], (RDs.plain h1 hp).2, .nil⟩
    · rename_i cs hcs
      split at ho
      · rename_i q ds ss' hds
        cases ho
        exact own_slice h hcs hv hn (fun ys hys => ownL_sound h n hds hp (List.nodup_cons.1 hn).2 hys)
      · cases ho
    · cases ho
  | n + 1, .ag cs, p, d, ss, y, ho, hp, hn, hv => by
    simp only [own] at ho
    split at ho
    · rename_i q ds ss' hds
      cases ho
      simp only [VR] at hv
      obtain ⟨xs, rfl, h1, h2⟩ := hv
      obtain ⟨bs, h3, h4⟩ := ownL_sound h n hds hp hn h2
      exact ⟨bs, by simp only [RD]; exact ⟨xs, rfl, h1, h3⟩, h4⟩
    · cases ho
  | n + 1, .tu cs, p, d, ss, y, ho, hp, hn, hv => by
    simp only [own] at ho
    split at ho
    · rename_i q ds ss' hds
      cases ho
      simp only [VR] at hv
      obtain ⟨xs, rfl, h2⟩ := hv
      obtain ⟨bs, h3, h4⟩ := ownL_sound h n hds hp hn h2
      exact ⟨bs, by simp only [RD]; exact ⟨xs, rfl, h3⟩, h4⟩
    · cases ho
  | n + 1, .bp _ _, _, _, _, _, ho, _, _, _ => by simp [own] at ho
  | n + 1, .fn _ _, _, _, _, _, ho, _, _, _ => by simp [own] at ho
  | n + 1, .fc _ _ _, _, _, _, _, ho, _, _, _ => by simp [own] at ho
  | n + 1, .un, _, _, _, _, ho, _, _, _ => by simp [own] at ho
  | 0, .bs _ _ _ _, _, _, _, _, ho, _, _, _ => by simp [own] at ho
  | 0, .bp _ _, _, _, _, _, ho, _, _, _ => by simp [own] at ho
  | 0, .ag _, _, _, _, _, ho, _, _, _ => by simp [own] at ho
  | 0, .tu _, _, _, _, _, ho, _, _, _ => by simp [own] at ho
  | 0, .fn _ _, _, _, _, _, ho, _, _, _ => by simp [own] at ho
  | 0, .fc _ _ _, _, _, _, _, ho, _, _, _ => by simp [own] at ho
  | 0, .un, _, _, _, _, ho, _, _, _ => by simp [own] at ho
theorem ownL_sound (h : Sim P w0 σ ν a w) : ∀ (n : Nat) {xs : List AV} {p : Prop} {ds : List D} {ss : List Nat} {ys : List Value}, ownL σ.ob n xs = some (p, ds, ss) → p → ss.Nodup → VRs P w0 w σ.ob ν xs ys → ∃ bs, RDs w true ds ys bs ∧ InObs σ.ob ν ss bs
  | n, [], p, ds, ss, ys, ho, hp, hn, hv => by
    have : (True, ([] : List D), ([] : List Nat)) = (p, ds, ss) := by cases n <;> simpa [ownL] using ho
    cases this
    simp only [VRs] at hv
    exact ⟨[], by simp [RDs, hv], .nil⟩
  | 0, x :: xs, p, ds, ss, ys, ho, hp, hn, hv => by simp [ownL] at ho
  | n + 1, x :: xs, p, ds, ss, ys, ho, hp, hn, hv => by
    simp only [ownL] at ho
    split at ho
    · rename_i p1 d1 s1 p2 d2 s2 h1 h2
      cases ho
      simp only [VRs] at hv
      obtain ⟨y, ys', rfl, h3, h4⟩ := hv
      have hn' := List.nodup_append.1 hn
      obtain ⟨b1, h5, h6⟩ := own_sound h n h1 hp.1 hn'.1 h3
      obtain ⟨b2, h7, h8⟩ := ownL_sound h n h2 hp.2 hn'.2.1 h4
      exact ⟨b1 ++ b2, by simp only [RDs]; exact ⟨y, ys', b1, b2, rfl, rfl, h5, h7⟩, InObs.append h h6 h8 hn⟩
    · cases ho
end

theorem InObs.own (h : Sim P w0 σ ν a w) {ss bs : List Nat} (hi : InObs σ.ob ν ss bs) : ∀ b ∈ bs, ¬ w0.S b ∧ w0.D b := fun b hb => by
  obtain ⟨s, _, h1, base, h2⟩ := hi.2 b hb
  obtain ⟨o, ho⟩ := Option.isSome_iff_exists.1 h1
  rcases h.objs s o ho with ⟨r1, _⟩ | ⟨b', base', c, T, xs, r1, r2, _⟩
  · rw [r1] at h2; cases h2
  · rw [r1] at h2; cases h2; exact r2

def resRun (tmps : Array Value) : ResultVar → Sem Value
  | .tmp t => pure (tmps.getD t undef)
  | .cell t ty => do loadVar ty (← asAddr (tmps.getD t undef))

theorem results_eq (fn : Func) (tmps : Array Value) : results fn tmps = (do
    let vs ← fn.results.mapM (resRun tmps)
    pure (if h : vs.size = 1 then vs[0] else .tuple vs)) := by
  unfold results
  congr 2

theorem res_one (h : Sim P w0 σ ν a w) {r : ResultVar} {p : Prop} {x : AV} (hr : resAV P σ r = some (p, x)) (hp : p) :
    ∃ v, (resRun a.tmps r).run P w = .ok v w ∧ VR P w0 w σ.ob ν x v := by
  cases r with
  | tmp t =>
    simp only [resAV, Option.some.injEq, Prod.mk.injEq] at hr
    obtain ⟨_, rfl⟩ := hr
    exact ⟨_, rfl, h.slots t⟩
  | cell t ty =>
    simp only [resAV] at hr
    obtain ⟨v, h1, h2⟩ := load_sound h hr hp
    refine ⟨v, ?_, h2⟩
    have := h1.here
    simp only [Act.eval] at this
    simp only [resRun]
    cases hx : a.tmps.getD t undef with
    | pointer ad =>
      rw [hx] at this
      cases ad with
      | none => simp [Instr.loadAt, Instr.sureAddr] at this
      | some ad => simpa [Instr.loadAt, Instr.sureAddr, asAddr] using this
    | _ => rw [hx] at this; simp [Instr.loadAt, Instr.sureAddr] at this

/-- What a function gives back, read off its last frame. -/
theorem res_vals (h : Sim P w0 σ ν a w) {fn : Func} {p : Prop} {xs : List AV} (hl : fn.results.toList.length ≤ 3) (hr : resAVs P σ fn.results.toList = some (p, xs)) (hp : p) : ∃ v, (results fn a.tmps).run P w = .ok v w ∧ VR P w0 w σ.ob ν (joinR xs) v := by
  generalize hrs : fn.results.toList = rs at hl hr
  match rs, hl, hr, hrs with
  | [], _, hr, hrs =>
    have hl' : fn.results = #[] := by apply Array.ext'; simpa using hrs
    simp only [resAVs, Option.some.injEq, Prod.mk.injEq] at hr
    obtain ⟨_, rfl⟩ := hr
    refine ⟨.tuple #[], by simp [results_eq, hl'], ?_⟩
    simp only [joinR, VR]
    exact ⟨[], rfl, by simp only [VRs]⟩
  | [r], _, hr, hrs =>
    have hl' : fn.results = #[r] := by apply Array.ext'; simpa using hrs
    simp only [resAVs] at hr
    split at hr
    · rename_i p1 x1 p2 x2 h1 h2
      cases h2
      cases hr
      obtain ⟨v, h4, h5⟩ := res_one h h1 hp.1
      exact ⟨v, by simp [results_eq, hl', h4], h5⟩
    · cases hr
  | [r1, r2], _, hr, hrs =>
    have hl' : fn.results = #[r1, r2] := by apply Array.ext'; simpa using hrs
    simp only [resAVs] at hr
    split at hr
    · rename_i p1 x1 p2 x2 h1 h2
      split at h2
      · rename_i q1 y1 q2 y2 h3 h4
        cases h4
        cases h2
        cases hr
        obtain ⟨v1, e1, e2⟩ := res_one h h1 hp.1
        obtain ⟨v2, e3, e4⟩ := res_one h h3 hp.2.1
        refine ⟨.tuple #[v1, v2], by simp [results_eq, hl', e1, e3], ?_⟩
        simp only [joinR, VR]
        exact ⟨[v1, v2], rfl, by simp only [VRs]; exact ⟨v1, [v2], rfl, e2, v2, [], rfl, e4, rfl⟩⟩
      · cases h2
    · cases hr
  | [r1, r2, r3], _, hr, hrs =>
    have hl' : fn.results = #[r1, r2, r3] := by apply Array.ext'; simpa using hrs
    simp only [resAVs] at hr
    split at hr
    · rename_i p1 x1 p2 x2 h1 h2
      split at h2
      · rename_i q1 y1 q2 y2 h3 h4
        split at h4
        · rename_i u1 z1 u2 z2 h5 h6
          cases h6
          cases h4
          cases h2
          cases hr
          obtain ⟨v1, e1, e2⟩ := res_one h h1 hp.1
          obtain ⟨v2, e3, e4⟩ := res_one h h3 hp.2.1
          obtain ⟨v3, e5, e6⟩ := res_one h h5 hp.2.2.1
          refine ⟨.tuple #[v1, v2, v3], by simp [results_eq, hl', e1, e3, e5], ?_⟩
          simp only [joinR, VR]
          exact ⟨[v1, v2, v3], rfl, by simp only [VRs]; exact ⟨v1, [v2, v3], rfl, e2, v2, [v3], rfl, e4, v3, [], rfl, e6, rfl⟩⟩
        · cases h4
      · cases h2
    · cases hr
  | _ :: _ :: _ :: _ :: _, hl, _, _ => simp at hl

theorem res_sound (h : Sim P w0 σ ν a w) {fn : Func} {res : D} (hr : ResOk P fn.results.toList σ res) : ∃ v bs, (results fn a.tmps).run P w = .ok v w ∧ RD w true res v bs ∧ bs.Nodup ∧ ∀ b ∈ bs, ¬ w0.S b ∧ w0.D b := by
  obtain ⟨hl, hr⟩ := hr
  split at hr
  · rename_i p xs hx
    obtain ⟨hp, q, ss, h1, h2, h3⟩ := hr
    obtain ⟨v, h4, h5⟩ := res_vals h hl hx hp
    obtain ⟨bs, h6, h7⟩ := own_sound h 20 h1 h2 h3 h5
    exact ⟨v, bs, h4, h6, h7.1, h7.own h⟩
  · exact hr.elim

theorem slots_sound {ν : Loc} {n : Nat} : ∀ {cs : List CV} {vs : List Value} (i t : Nat), RCs P w cs vs → VR P ⟨w, (· < w.heap.size), fun _ => True, fun _ => none, n⟩ w [] ν (look (slotsOf i cs) t) (if i ≤ t then vs.getD (t - i) undef else undef)
  | [], vs, i, t, _ => by simp only [slotsOf, look, VR]
  | c :: cs, vs, i, t, h => by
    simp only [RCs] at h
    obtain ⟨v, vs', rfl, h1, h2⟩ := h
    simp only [slotsOf, look]
    by_cases e : i = t
    · subst e
      rw [if_pos rfl, if_pos (Nat.le_refl _)]
      simp only [Nat.sub_self, List.getD_cons_zero]
      cases c with
      | d x =>
        simp only [argAV, VR]
        obtain ⟨bs, h3, h4⟩ := h1
        exact ⟨bs, h3, fun b hb => ⟨h4 b hb, fun s o ho => by simp [lookO] at ho, trivial⟩⟩
      | fn dom k =>
        simp only [argAV, VR]
        exact h1
    · rw [if_neg e]
      have := slots_sound (ν := ν) (n := n) (i + 1) t h2
      by_cases hle : i ≤ t
      · rw [if_pos hle]
        rw [if_pos (by omega)] at this
        have e2 : t - i = (t - (i + 1)) + 1 := by omega
        rw [e2, List.getD_cons_succ]
        exact this
      · rw [if_neg hle]
        rw [if_neg (by omega)] at this
        exact this

theorem RCs.length : ∀ {cs : List CV} {vs : List Value}, RCs P w cs vs → vs.length = cs.length
  | [], vs, h => by simp only [RCs] at h; simp [h]
  | c :: cs, vs, h => by
    simp only [RCs] at h
    obtain ⟨v, vs', rfl, _, h2⟩ := h
    simp [RCs.length h2]

/-- A FUNCTION KEEPS ITS CONTRACT if its body does, seen through the view. -/
theorem fn_of_aw {f : FuncId} {fn : Func} {c : Code} {args : List CV} {res : D} (hf : P.funcs[f]? = some fn) (hb : fn.body = some c) (hname : (fn.name == "runtime.NumGoroutine") = false) (hn : args.length ≤ fn.ntmps)
    (h : AW P c (fun e σ => (e = .ret ∨ e = .normal) ∧ ResOk P fn.results.toList σ res) ⟨fn.ntmps, slotsOf 0 args, []⟩) : Fn P f args res := by
  refine ⟨⟨fn, hf, by rw [hb]; rfl, hname⟩, fun w vs hv => ?_⟩
  have hlen := hv.length
  refine calls_of_wp hf hb (Code.wp_mono (fun e a' w' hh => ?_) (h ⟨w, (· < w.heap.size), fun _ => True, fun _ => none, fn.ntmps⟩ (fun _ => none) _ w ?_))
  · obtain ⟨σ', ν', ⟨he, hr⟩, hs⟩ := hh
    obtain ⟨v, bs, h1, h2, h3, h4⟩ := res_sound hs hr
    rcases he with rfl | rfl
    · exact ⟨hs.defers, v, h1, v, bs, rfl, hs.below.below, h2, h3, fun b hb => Nat.le_of_not_lt (h4 b hb).1⟩
    · exact ⟨hs.defers, v, h1, v, bs, rfl, hs.below.below, h2, h3, fun b hb => Nat.le_of_not_lt (h4 b hb).1⟩
  · refine ⟨⟨fun s o ho => by simp [lookO] at ho, fun s s' o o' x x' _ ho => by simp [lookO] at ho⟩, Keep.refl _ _, Rows.refl _, fun b hb => hb, fun _ _ => trivial, Nat.le_refl _, fun _ _ => rfl, rfl, by simp; omega, fun t => ?_⟩
    have := slots_sound (ν := fun _ => none) (n := fn.ntmps) 0 t hv
    rw [if_pos (Nat.zero_le _)] at this
    have e : (vs.toArray ++ Array.replicate (fn.ntmps - vs.toArray.size) undef).getD t undef = vs.getD (t - 0) undef := by
      simp only [Array.getD_eq_getD_getElem?, Nat.sub_zero, List.getD_eq_getElem?_getD, Array.getElem?_append, List.getElem?_toArray, List.size_toArray]
      by_cases hlt : t < vs.length
      · rw [if_pos hlt]
      · rw [if_neg hlt, List.getElem?_eq_none (by omega)]
        simp only [Array.getElem?_replicate]
        split <;> rfl
    rw [e]
    exact this
end

end Go.Proofs.Ytdinkfmkhdnbpaa
