/- Names are turned, functions that are handed objects, equality of structs, regions that draw their order. -/
import Derived.Test.YteimddagjikcaaaFlowD
import Derived.WalkKit
import Derived.WalkSpells
import Derived.Laws.StructEq
import Derived.OrdersHeld
namespace Go.Proofs.Yteimddagjikcaaa
open Go.RowKit
set_option linter.unusedVariables false
set_option linter.unusedSimpArgs false

section
variable {P : Program}

def Still {α : Type} (P : Program) (s : Sem α) : Prop := ∀ (w : World) (v : α) (w1 : World), s.run P w = .ok v w1 → w1 = w ∧ ∀ w', s.run P w' = .ok v w'

theorem Still.pure {α : Type} (a : α) : Still P (Pure.pure a : Sem α) := fun w v w1 h => by
  simp only [Sem.run_pure, Result.ok.injEq] at h
  obtain ⟨rfl, rfl⟩ := h
  exact ⟨rfl, fun _ => rfl⟩

theorem Still.bind {α β : Type} {x : Sem α} {f : α → Sem β} (hx : Still P x) (hf : ∀ a, Still P (f a)) : Still P (x >>= f) := fun w v w1 h => by
  rw [Sem.run_bind] at h
  cases hr : x.run P w with
  | ok a w2 =>
    rw [hr, Result.andThen_ok] at h
    obtain ⟨rfl, h2⟩ := hx _ _ _ hr
    obtain ⟨rfl, h3⟩ := hf a _ _ _ h
    refine ⟨rfl, fun w' => ?_⟩
    rw [Sem.run_bind, h2 w', Result.andThen_ok]
    exact h3 w'
  | halt a w2 =>
    rw [hr, Result.andThen_halt] at h
    cases h

def Never {α : Type} (P : Program) (s : Sem α) : Prop := ∀ (w : World) (v : α) (w1 : World), s.run P w ≠ .ok v w1

theorem Never.still {α : Type} {s : Sem α} (h : Never P s) : Still P s := fun w v w1 e => absurd e (h w v w1)

theorem Never.bind {α β : Type} {x : Sem α} {f : α → Sem β} (hf : ∀ a, Never P (f a)) : Never P (x >>= f) := fun w v w1 h => by
  rw [Sem.run_bind] at h
  cases hr : x.run P w with
  | ok a w2 =>
    rw [hr, Result.andThen_ok] at h
    exact hf a _ _ _ h
  | halt a w2 =>
    rw [hr, Result.andThen_halt] at h
    cases h

end

def swp (a b s : Nat) : Nat := if s = a then b else if s = b then a else s

mutual
def AV.sw (a b : Nat) : AV → AV
  | .bp s o => .bp (swp a b s) o
  | .bs s off n k => .bs (swp a b s) off n k
  | .ag cs => .ag (AV.swL a b cs)
  | .tu cs => .tu (AV.swL a b cs)
  | .fc g x y => .fc g (AV.swL a b x) (AV.swL a b y)
  | .d x => .d x
  | .fn dom h => .fn dom h
  | .rf s k => .rf (swp a b s) k
  | .un => .un
def AV.swL (a b : Nat) : List AV → List AV
  | [] => []
  | x :: r => x.sw a b :: AV.swL a b r
end

def OB.sw (a b : Nat) : OB → OB
  | .ds cs => .ds cs
  | .av cs => .av (AV.swL a b cs)
  | .mp kvs => .mp kvs
  | .it t n seen => .it (swp a b t) n seen
  | .dead => .dead

def swS (a b : Nat) : List (Nat × AV) → List (Nat × AV)
  | [] => []
  | (t, x) :: r => (t, x.sw a b) :: swS a b r

def swO (a b : Nat) : List (Nat × OB) → List (Nat × OB)
  | [] => []
  | (s, o) :: r => (swp a b s, o.sw a b) :: swO a b r

def St.sw (a b : Nat) (σ : St) : St := { n := σ.n, sl := swS a b σ.sl, ob := swO a b σ.ob }

def St.sws : List (Nat × Nat) → St → St
  | [], σ => σ
  | (a, b) :: r, σ => St.sws r (σ.sw a b)

def swsO : List (Nat × Nat) → List (Nat × OB) → List (Nat × OB)
  | [], ob => ob
  | (a, b) :: r, ob => swsO r (swO a b ob)

def swsA : List (Nat × Nat) → AV → AV
  | [], x => x
  | (a, b) :: r, x => swsA r (x.sw a b)

section
variable {P : Program} {w0 : Env} {w w' : World} {σ : St} {ν : Loc} {a : Act} {m n : Nat}

theorem swp_swp (a b s : Nat) : swp a b (swp a b s) = s := by
  unfold swp
  by_cases h1 : s = a
  · subst h1
    rw [if_pos rfl]
    by_cases h2 : b = s
    · rw [if_pos h2, h2]
    · rw [if_neg h2, if_pos rfl]
  · rw [if_neg h1]
    by_cases h2 : s = b
    · subst h2
      rw [if_pos rfl, if_pos rfl]
    · rw [if_neg h2, if_neg h1, if_neg h2]

theorem swp_ne {a b s : Nat} (h1 : s ≠ a) (h2 : s ≠ b) : swp a b s = s := by
  unfold swp
  rw [if_neg h1, if_neg h2]

theorem look_sw (sl : List (Nat × AV)) (t : Nat) : look (swS m n sl) t = (look sl t).sw m n := by
  induction sl with
  | nil => simp [swS, look, AV.sw]
  | cons p r ih =>
    obtain ⟨k, x⟩ := p
    simp only [swS, look]
    by_cases h : k = t
    · rw [if_pos h, if_pos h]
    · rw [if_neg h, if_neg h, ih]

theorem lookO_sw {ob : List (Nat × OB)} {s : Nat} {o : OB} (h : lookO (swO m n ob) s = some o) : ∃ o1, lookO ob (swp m n s) = some o1 ∧ o = o1.sw m n := by
  induction ob with
  | nil => simp [swO, lookO] at h
  | cons p r ih =>
    obtain ⟨k, x⟩ := p
    simp only [swO, lookO] at h ⊢
    by_cases e : swp m n k = s
    · rw [if_pos e] at h
      have e2 : k = swp m n s := by rw [← e, swp_swp]
      rw [if_pos e2]
      cases x with
      | dead => simp [OB.sw] at h
      | ds cs => simp only [OB.sw, Option.some.injEq] at h; exact ⟨_, rfl, h.symm⟩
      | av cs => simp only [OB.sw, Option.some.injEq] at h; exact ⟨_, rfl, h.symm⟩
      | mp _ => simp only [OB.sw, Option.some.injEq] at h; exact ⟨_, rfl, h.symm⟩
      | it _ _ _ => simp only [OB.sw, Option.some.injEq] at h; exact ⟨_, rfl, h.symm⟩
    · rw [if_neg e] at h
      have e2 : ¬ k = swp m n s := fun e2 => e (by rw [e2, swp_swp])
      rw [if_neg e2]
      exact ih h

theorem lookO_sw_of {ob : List (Nat × OB)} {s : Nat} {o : OB} (h : lookO ob s = some o) : lookO (swO m n ob) (swp m n s) = some (o.sw m n) := by
  induction ob with
  | nil => simp [lookO] at h
  | cons p r ih =>
    obtain ⟨k, x⟩ := p
    simp only [swO, lookO] at h ⊢
    by_cases e : k = s
    · rw [if_pos e] at h
      rw [if_pos (by rw [e])]
      cases x with
      | dead => simp at h
      | ds cs => simp only [Option.some.injEq] at h; subst h; rfl
      | av cs => simp only [Option.some.injEq] at h; subst h; rfl
      | mp _ => simp only [Option.some.injEq] at h; subst h; rfl
      | it _ _ _ => simp only [Option.some.injEq] at h; subst h; rfl
    · rw [if_neg e] at h
      have e2 : ¬ swp m n k = swp m n s := fun e2 => e (by have := congrArg (swp m n) e2; rwa [swp_swp, swp_swp] at this)
      rw [if_neg e2]
      exact ih h

theorem swL_d : ∀ cs : List D, AV.swL m n (cs.map AV.d) = cs.map AV.d
  | [] => rfl
  | c :: cs => by simp only [List.map_cons, AV.swL, AV.sw, swL_d cs]

theorem swL_length : ∀ cs : List AV, (AV.swL m n cs).length = cs.length
  | [] => rfl
  | c :: cs => by simp only [AV.swL, List.length_cons, swL_length cs]

theorem cells_sw (o : OB) : obCells (o.sw m n) = AV.swL m n (obCells o) := by
  cases o with
  | ds cs => simp only [OB.sw, obCells, swL_d]
  | av cs => simp only [OB.sw, obCells]
  | mp _ => simp only [OB.sw, obCells, AV.swL]
  | it _ _ _ => simp only [OB.sw, obCells, AV.swL, AV.sw]
  | dead => simp only [OB.sw, obCells, AV.swL]

theorem objOf_sw (o : OB) (c : Array Value) (T : TypeId) : objOf (o.sw m n) c T = objOf o c T := by
  cases o <;> rfl

theorem avoid_sw {ob : List (Nat × OB)} {b : Nat} (h : AvoidB ob ν b) : AvoidB (swO m n ob) (fun s => ν (swp m n s)) b := fun s o hs x hx => by
  obtain ⟨o1, h1, _⟩ := lookO_sw hs
  exact h _ o1 h1 x hx

mutual
theorem VR.sw {ob : List (Nat × OB)} : ∀ {x : AV} {y : Value}, VR P w0 w ob ν x y → VR P w0 w (swO m n ob) (fun s => ν (swp m n s)) (x.sw m n) y
  | .d x, y, h => by
    simp only [AV.sw, VR] at h ⊢
    obtain ⟨bs, h1, h2⟩ := h
    exact ⟨bs, h1, fun b hb => ⟨(h2 b hb).1, avoid_sw (h2 b hb).2.1, (h2 b hb).2.2⟩⟩
  | .bp s o, y, h => by
    simp only [AV.sw, VR, swp_swp] at h ⊢
    intro hs
    obtain ⟨o1, hs⟩ := Option.isSome_iff_exists.1 hs
    obtain ⟨o2, h1, _⟩ := lookO_sw hs
    rw [swp_swp] at h1
    exact h (by rw [h1]; rfl)
  | .bs s off k l, y, h => by
    simp only [AV.sw, VR, swp_swp] at h ⊢
    intro hs
    obtain ⟨o1, hs⟩ := Option.isSome_iff_exists.1 hs
    obtain ⟨o2, h1, _⟩ := lookO_sw hs
    rw [swp_swp] at h1
    obtain ⟨h2, h3⟩ := h (by rw [h1]; rfl)
    refine ⟨fun o ho => ?_, h3⟩
    obtain ⟨o3, h4, rfl⟩ := lookO_sw ho
    rw [swp_swp] at h4
    rw [cells_sw, swL_length]
    exact h2 o3 h4
  | .ag cs, y, h => by
    simp only [AV.sw, VR] at h ⊢
    obtain ⟨xs, h1, h0, h2⟩ := h
    exact ⟨xs, h1, h0, VRs.sw h2⟩
  | .tu cs, y, h => by
    simp only [AV.sw, VR] at h ⊢
    obtain ⟨xs, h1, h2⟩ := h
    exact ⟨xs, h1, VRs.sw h2⟩
  | .fn dom k, y, h => by
    simp only [AV.sw, VR] at h ⊢
    exact h
  | .fc g l1 l2, y, h => by
    simp only [AV.sw, VR] at h ⊢
    obtain ⟨xs, ys, h1, h2, h3⟩ := h
    exact ⟨xs, ys, h1, VRs.sw h2, VRs.sw h3⟩
  | .rf s k, y, h => by
    simp only [AV.sw, VR, swp_swp] at h ⊢
    intro hs
    obtain ⟨o1, hs⟩ := Option.isSome_iff_exists.1 hs
    obtain ⟨o2, h1, _⟩ := lookO_sw hs
    rw [swp_swp] at h1
    exact h (by rw [h1]; rfl)
  | .un, y, h => by simp only [AV.sw, VR]
theorem VRs.sw {ob : List (Nat × OB)} : ∀ {xs : List AV} {ys : List Value}, VRs P w0 w ob ν xs ys → VRs P w0 w (swO m n ob) (fun s => ν (swp m n s)) (AV.swL m n xs) ys
  | [], ys, h => by simp only [AV.swL, VRs] at h ⊢; exact h
  | x :: xs, ys, h => by
    simp only [AV.swL, VRs] at h ⊢
    obtain ⟨y, ys', h1, h2, h3⟩ := h
    exact ⟨y, ys', h1, VR.sw h2, VRs.sw h3⟩
end

theorem Mem.env {E : Env} {ob : List (Nat × OB)} (h : Mem P w0 w ob ν) (hs : ∀ b, E.S b → w0.S b) (hd : ∀ b, w0.D b → E.D b) (hk : ∀ w', Keep E.S E.w w' → Keep w0.S w0.w w') : Mem P E w ob ν := by
  refine ⟨fun s o ho => ?_, h.inj⟩
  rcases h.objs s o ho with q | ⟨b, base, c, T, xs, q1, q2, q3, q4, q5, q6⟩
  · exact .inl q
  · exact .inr ⟨b, base, c, T, xs, q1, ⟨fun hb => q2.1 (hs b hb), hd b q2.2⟩, q3, q4, q5, VRs.into (fun _ _ h => h) (fun b _ _ h => hd b h) hk q6⟩

theorem Mem.sw {ob : List (Nat × OB)} (h : Mem P w0 w ob ν) : Mem P w0 w (swO m n ob) (fun s => ν (swp m n s)) := by
  refine ⟨fun s o hs => ?_, fun s s' o o' x x' hne h1 h2 h3 h4 => ?_⟩
  · obtain ⟨o1, h1, rfl⟩ := lookO_sw hs
    rcases h.objs _ o1 h1 with ⟨g1, g2⟩ | ⟨b, base, c, T, xs, g1, g2, g3, g4, g5, g6⟩
    · exact .inl ⟨g1, by rw [cells_sw, g2]; rfl⟩
    · exact .inr ⟨b, base, c, T, xs, g1, g2, g3.trans (by rw [objOf_sw]), g4, g5, by rw [cells_sw]; exact VRs.sw g6⟩
  · obtain ⟨o1, g1, _⟩ := lookO_sw h1
    obtain ⟨o2, g2, _⟩ := lookO_sw h2
    exact h.inj _ _ o1 o2 x x' (fun e => hne (by have := congrArg (swp m n) e; rwa [swp_swp, swp_swp] at this)) g1 g2 h3 h4

theorem Sim.sw (h : Sim P w0 σ ν a w) (hm : m < σ.n ∨ 1000000000 ≤ m) (hn : n < σ.n ∨ 1000000000 ≤ n) : Sim P w0 (σ.sw m n) (fun s => ν (swp m n s)) a w := by
  refine ⟨h.toMem.sw, h.below, h.rows, h.lt, h.fresh, h.le, h.glob, fun s hs hs2 => ?_, h.defers, h.size, fun t => ?_⟩
  · have hle := h.le
    rw [swp_ne (by omega) (by omega)]
    exact h.stab s hs hs2
  · show VR P w0 w (swO m n σ.ob) _ (look (swS m n σ.sl) t) _
    rw [look_sw]
    exact VR.sw (h.slots t)

def okSw (n : Nat) : List (Nat × Nat) → Bool
  | [] => true
  | (a, b) :: r => (decide (a < n) || decide (1000000000 ≤ a)) && (decide (b < n) || decide (1000000000 ≤ b)) && okSw n r

def LessW (σ τ : St) : Prop := ∃ ps, okSw σ.n ps = true ∧ Less (σ.sws ps) τ

theorem Sim.sws : ∀ (ps : List (Nat × Nat)) {σ : St} {ν : Loc}, Sim P w0 σ ν a w → okSw σ.n ps = true → ∃ ν', Sim P w0 (σ.sws ps) ν' a w
  | [], _, ν, h, _ => ⟨ν, h⟩
  | (x, y) :: r, σ, ν, h, ho => by
    simp only [okSw, Bool.and_eq_true, Bool.or_eq_true, decide_eq_true_eq] at ho
    exact Sim.sws r (h.sw ho.1.1 ho.1.2) ho.2

theorem Sim.lessW (h : Sim P w0 σ ν a w) {τ : St} (hl : LessW σ τ) : ∃ ν', Sim P w0 τ ν' a w := by
  obtain ⟨ps, h1, h2⟩ := hl
  obtain ⟨ν', h3⟩ := Sim.sws ps h h1
  exact ⟨ν', h3.less h2⟩

theorem aw_loopW {c : Code} {Q : Exit → St → Prop} {α : Type} (I : α → St) (ok : α → Prop) (μ : α → Nat) (i0 : α) (h0 : ok i0) (hl : LessW σ (I i0))
    (hr : ∀ i, ok i → AW P c (Kx (fun σ' => ∃ j, ok j ∧ μ j < μ i ∧ LessW σ' (I j)) Q) (I i)) : AW P (.loop c) Q σ := fun w0 ν a w hs => by
  have key : ∀ n i ν a w, μ i < n → ok i → Sim P w0 (I i) ν a w → Code.rounds P c (fun e a' w' => ∃ σ' ν', Q e σ' ∧ Sim P w0 σ' ν' a' w') n a w := by
    intro n
    induction n with
    | zero => intro i ν a w h; omega
    | succ n ih =>
      intro i ν a w hlt hi hs
      rw [rounds_succ]
      refine Code.wp_mono (fun e a' w' hh => ?_) (hr i hi w0 ν a w hs)
      obtain ⟨σ', ν', q, s⟩ := hh
      cases e with
      | normal =>
        obtain ⟨j, hj, hlt2, hless⟩ := q
        obtain ⟨ν2, s2⟩ := s.lessW hless
        exact ih j ν2 a' w' (by omega) hj s2
      | _ => exact ⟨σ', ν', q, s⟩
  obtain ⟨ν2, s2⟩ := hs.lessW hl
  exact wp_loop_rounds _ (key (μ i0 + 1) i0 ν2 a w (by omega) h0 s2)

def dropS (ws : List Nat) : List (Nat × AV) → List (Nat × AV)
  | [] => []
  | (t, x) :: r => bif ws.elem t then dropS ws r else (t, x) :: dropS ws r

def dropOs (ws : List Nat) : List (Nat × OB) → List (Nat × OB)
  | [] => []
  | (t, x) :: r => bif ws.elem t then dropOs ws r else (t, x) :: dropOs ws r

def St.upd (σ : St) (ws : List Nat) (sl : List (Nat × AV)) (os : List Nat) (ob : List (Nat × OB)) : St := { n := σ.n, sl := sl ++ dropS ws σ.sl, ob := ob ++ dropOs os σ.ob }

theorem aw_loopU (ws os : List Nat) {c : Code} {Q : Exit → St → Prop} {α : Type} (f : α → List (Nat × AV)) (g : α → List (Nat × OB)) (ok : α → Prop) (μ : α → Nat) (i0 : α) (h0 : ok i0) (hl : LessW σ (σ.upd ws (f i0) os (g i0)))
    (hr : ∀ i, ok i → AW P c (Kx (fun σ' => ∃ j, ok j ∧ μ j < μ i ∧ LessW σ' (σ.upd ws (f j) os (g j))) Q) (σ.upd ws (f i) os (g i))) : AW P (.loop c) Q σ :=
  aw_loopW (fun i => σ.upd ws (f i) os (g i)) ok μ i0 h0 hl hr

theorem lessW_of {τ : St} (ps : List (Nat × Nat)) (h1 : okSw σ.n ps = true) (h2 : Less (σ.sws ps) τ) : LessW σ τ := ⟨ps, h1, h2⟩

/- A function that is handed objects. -/
def slotsA : Nat → List AV → List (Nat × AV)
  | _, [] => []
  | i, c :: cs => (i, c) :: slotsA (i + 1) cs

def geAll (n : Nat) : List (Nat × OB) → Bool
  | [] => true
  | (s, _) :: r => decide (n ≤ s) && decide (s < 1000000000) && geAll n r

def offSw (ob : List (Nat × OB)) : List (Nat × Nat) → Bool
  | [] => true
  | (a, b) :: r => ob.all (fun p => !(p.1 == a) && !(p.1 == b)) && offSw ob r

def lensO (ob : List (Nat × OB)) : List (Nat × OB) → Prop
  | [] => True
  | (s, o') :: r => (match lookO ob s with | some o => (obCells o').length = (obCells o).length | none => True) ∧ lensO ob r

def ResS (P : Program) (rs : List ResultVar) (σ : St) (ob ob' : List (Nat × OB)) (res : AV) : Prop :=
  rs.length ≤ 4 ∧ lensO ob ob' ∧ ∃ ps, offSw ob ps = true ∧ SubO (swsO ps σ.ob) ob' ∧ match resAVs P σ rs with
    | some (p, xs) => p ∧ swsA ps (joinR xs) = res
    | none => False

theorem lensO_spec {ob : List (Nat × OB)} {s : Nat} {o o' : OB} (ho : lookO ob s = some o) : ∀ {r : List (Nat × OB)}, lensO ob r → lookO r s = some o' → (obCells o').length = (obCells o).length
  | [], _, h => by simp [lookO] at h
  | (k, x) :: r, hl, h => by
    simp only [lensO] at hl
    simp only [lookO] at h
    by_cases e : k = s
    · subst e
      rw [if_pos rfl] at h
      rw [ho] at hl
      have : x = o' := by
        split at h
        · cases h
        · exact Option.some.inj h
      rw [← this]
      exact hl.1
    · rw [if_neg e] at h
      exact lensO_spec ho hl.2 h

theorem slotsA_sound {ob : List (Nat × OB)} : ∀ {cs : List AV} {vs : List Value} (i t : Nat), VRs P w0 w ob ν cs vs → VR P w0 w ob ν (look (slotsA i cs) t) (if i ≤ t then vs.getD (t - i) undef else undef)
  | [], vs, i, t, _ => by simp only [slotsA, look, VR]
  | c :: cs, vs, i, t, h => by
    simp only [VRs] at h
    obtain ⟨v, vs', rfl, h1, h2⟩ := h
    simp only [slotsA, look]
    by_cases e : i = t
    · subst e
      rw [if_pos rfl, if_pos (Nat.le_refl _)]
      simp only [Nat.sub_self, List.getD_cons_zero]
      exact h1
    · rw [if_neg e]
      have := slotsA_sound (i + 1) t h2
      by_cases hle : i ≤ t
      · rw [if_pos hle]
        rw [if_pos (by omega)] at this
        have e2 : t - i = (t - (i + 1)) + 1 := by omega
        rw [e2, List.getD_cons_succ]
        exact this
      · rw [if_neg hle]
        rw [if_neg (by omega)] at this
        exact this

theorem geAll_spec {s : Nat} {o : OB} : ∀ {ob : List (Nat × OB)}, geAll n ob = true → (s, o) ∈ ob → n ≤ s ∧ s < 1000000000
  | [], _, h => by simp at h
  | (k, x) :: r, hg, h => by
    simp only [geAll, Bool.and_eq_true, decide_eq_true_eq] at hg
    rcases List.mem_cons.1 h with e | h
    · cases e; exact hg.1
    · exact geAll_spec hg.2 h

theorem swsX {E : Env} : ∀ (ps : List (Nat × Nat)) {ob : List (Nat × OB)} {ν : Loc} {x : AV} {v : Value}, Mem P E w ob ν → VR P E w ob ν x v →
    ∃ ν', Mem P E w (swsO ps ob) ν' ∧ VR P E w (swsO ps ob) ν' (swsA ps x) v ∧ ∀ s, (∀ p ∈ ps, s ≠ p.1 ∧ s ≠ p.2) → ν' s = ν s
  | [], ob, ν, x, v, h1, h2 => ⟨ν, h1, h2, fun _ _ => rfl⟩
  | (y, z) :: r, ob, ν, x, v, h1, h2 => by
    obtain ⟨ν', g1, g2, g3⟩ := swsX r (h1.sw (m := y) (n := z)) (VR.sw h2)
    refine ⟨ν', g1, g2, fun s hs => ?_⟩
    rw [g3 s (fun p hp => hs p (List.mem_cons_of_mem _ hp))]
    have := hs (y, z) (by simp)
    rw [swp_ne this.1 this.2]

theorem offSw_spec {ob : List (Nat × OB)} {s : Nat} {o : OB} (hm : (s, o) ∈ ob) : ∀ {ps : List (Nat × Nat)}, offSw ob ps = true → ∀ p ∈ ps, s ≠ p.1 ∧ s ≠ p.2
  | [], _, p, hp => by simp at hp
  | (a, b) :: r, h, p, hp => by
    simp only [offSw, Bool.and_eq_true, List.all_eq_true] at h
    rcases List.mem_cons.1 hp with rfl | hp
    · have := h.1 _ hm
      simpa using this
    · exact offSw_spec hm h.2 p hp

theorem VR.envn {w1 : World} {S Dt : Nat → Prop} {ν1 : Loc} {k k' : Nat} {ob ob1 : List (Nat × OB)} {x : AV} {y : Value} (h : VR P ⟨w1, S, Dt, ν1, k⟩ w ob ν x y) (hsub : ∀ s o, lookO ob1 s = some o → lookO ob s = some o) : VR P ⟨w1, S, Dt, ν1, k'⟩ w ob1 ν x y :=
  VR.into (w0 := ⟨w1, S, Dt, ν1, k⟩) (E := ⟨w1, S, Dt, ν1, k'⟩) hsub (fun _ _ _ h => h) (fun _ h => h) h

theorem VRs.envn {w1 : World} {S Dt : Nat → Prop} {ν1 : Loc} {k k' : Nat} {ob ob1 : List (Nat × OB)} {x : List AV} {y : List Value} (h : VRs P ⟨w1, S, Dt, ν1, k⟩ w ob ν x y) (hsub : ∀ s o, lookO ob1 s = some o → lookO ob s = some o) : VRs P ⟨w1, S, Dt, ν1, k'⟩ w ob1 ν x y :=
  VRs.into (w0 := ⟨w1, S, Dt, ν1, k⟩) (E := ⟨w1, S, Dt, ν1, k'⟩) hsub (fun _ _ _ h => h) (fun _ h => h) h

def ResX (P : Program) (rs : List ResultVar) (σ : St) (ob : List (Nat × OB)) (RR : List (Nat × OB) → AV → Prop) : Prop := ∃ ob' res, RR ob' res ∧ ResS P rs σ ob ob' res

theorem fnx_of_aw {f : FuncId} {fn : Func} {c : Code} {args : List AV} {ob : List (Nat × OB)} {RR : List (Nat × OB) → AV → Prop} (hf : P.funcs[f]? = some fn) (hb : fn.body = some c) (hname : (fn.name == "runtime.NumGoroutine") = false) (hn : args.length ≤ fn.ntmps) (hge : geAll fn.ntmps ob = true)
    (h : AW P c (fun e σ => (e = .ret ∨ e = .normal) ∧ ResX P fn.results.toList σ ob RR) ⟨fn.ntmps, slotsA 0 args, ob⟩) : FnX P f ob args RR := by
  refine ⟨⟨fn, hf, by rw [hb]; rfl, hname⟩, fun w ν Dt vs hDt hm hv => ?_⟩
  obtain ⟨hDt, hgw, hga⟩ := hDt
  have hlen := hv.length
  refine calls_of_wp hf hb (Code.wp_mono (fun e a' w' hh => ?_) (h ⟨w, fun b => b < w.heap.size ∧ AvoidB ob ν b, Dt, ν, fn.ntmps⟩ ν _ w ?_))
  · obtain ⟨σ', ν', ⟨he, hr⟩, hs⟩ := hh
    obtain ⟨ob', res, hRR, hl, hlens, ps, hoff, hso, hr⟩ := hr
    split at hr
    · rename_i p xs hx
      obtain ⟨hp, rfl⟩ := hr
      obtain ⟨v, h4, h5⟩ := res_vals hs hl hx hp
      obtain ⟨ν2, g1, g2, g3⟩ := swsX ps hs.toMem h5
      have hsub : ∀ s o, lookO ob' s = some o → lookO (swsO ps σ'.ob) s = some o := subO_look hso
      have g1' : Mem P ⟨w, fun b => b < w.heap.size ∧ AvoidB ob ν b, Dt, ν, 0⟩ w' ob' ν2 := by
        refine ⟨fun s o ho => ?_, fun s s' o o' x x' hne e1 e2 => g1.inj s s' o o' x x' hne (hsub s o e1) (hsub s' o' e2)⟩
        rcases g1.objs s o (hsub s o ho) with q | ⟨b, base, c, T, xs, q1, q2, q3, q4, q5, q6⟩
        · exact .inl q
        · exact .inr ⟨b, base, c, T, xs, q1, q2, q3, q4, q5, VRs.envn q6 hsub⟩
      have hfin : ∀ s o o', lookO ob s = some o → lookO ob' s = some o' → ν2 s = ν s ∧ (obCells o').length = (obCells o).length := fun s o o' e1 e2 => by
        refine ⟨?_, lensO_spec e1 hlens e2⟩
        rw [g3 s (offSw_spec (lookO_mem e1) hoff)]
        exact hs.stab s (geAll_spec hge (lookO_mem e1)).1 (geAll_spec hge (lookO_mem e1)).2
      have hres : VR P ⟨w, fun b => b < w.heap.size ∧ AvoidB ob ν b, Dt, ν, 0⟩ w' ob' ν2 (swsA ps (joinR xs)) v := VR.envn g2 hsub
      rcases he with rfl | rfl
      · exact ⟨hs.defers, v, h4, ob', _, hRR, v, ν2, rfl, hs.below, hs.rows, g1', hres, hfin⟩
      · exact ⟨hs.defers, v, h4, ob', _, hRR, v, ν2, rfl, hs.below, hs.rows, g1', hres, hfin⟩
    · exact hr.elim
  · refine ⟨hm.env (fun _ h => h) (fun _ h => h) (fun _ h => h), Keep.refl _ _, Rows.refl _, fun b hb => hb.1, hDt, Nat.le_refl _, fun b hb => (hgw b hb).elim fun m hm => ⟨⟨cell_lt hm, hga b hb⟩, m, hm⟩, fun _ _ _ => rfl, rfl, by simp; omega, fun t => ?_⟩
    have := slotsA_sound 0 t (VRs.envn (k' := fn.ntmps) hv (fun _ _ h => h))
    rw [if_pos (Nat.zero_le _)] at this
    have e : (vs.toArray ++ Array.replicate (fn.ntmps - vs.toArray.size) undef).getD t undef = vs.getD (t - 0) undef := by
      simp only [Array.getD_eq_getD_getElem?, Nat.sub_zero, List.getD_eq_getElem?_getD, Array.getElem?_append, List.getElem?_toArray, List.size_toArray]
      by_cases hlt : t < vs.length
      · rw [if_pos hlt]
      · rw [if_neg hlt, List.getElem?_eq_none (by omega)]
        simp only [Array.getElem?_replicate]
        split <;> rfl
    rw [e]
    exact this

theorem fns_of_x {f : FuncId} {args : List AV} {ob ob' : List (Nat × OB)} {res : AV} (h : FnX P f ob args (fun o r => o = ob' ∧ r = res)) : FnS P f ob args ob' res :=
  ⟨h.1, fun w ν Dt vs h1 h2 h3 => (h.2 w ν Dt vs h1 h2 h3).mono fun _ _ he => by
    obtain ⟨_, _, ⟨rfl, rfl⟩, q⟩ := he
    exact q⟩

theorem fns_of_aw {f : FuncId} {fn : Func} {c : Code} {args : List AV} {ob ob' : List (Nat × OB)} {res : AV} (hf : P.funcs[f]? = some fn) (hb : fn.body = some c) (hname : (fn.name == "runtime.NumGoroutine") = false) (hn : args.length ≤ fn.ntmps) (hge : geAll fn.ntmps ob = true)
    (h : AW P c (fun e σ => (e = .ret ∨ e = .normal) ∧ ResS P fn.results.toList σ ob ob' res) ⟨fn.ntmps, slotsA 0 args, ob⟩) : FnS P f ob args ob' res :=
  fns_of_x (fnx_of_aw hf hb hname hn hge (aw_mono (fun _ _ q => ⟨q.1, ob', res, ⟨rfl, rfl⟩, q.2⟩) h))

def PostS (P : Program) (rs : List ResultVar) (ob ob' : List (Nat × OB)) (res : AV) : Exit → St → Prop
  | .ret, σ => ResS P rs σ ob ob' res
  | .normal, σ => ResS P rs σ ob ob' res
  | _, _ => False

theorem ps_r {rs : List ResultVar} {ob ob' : List (Nat × OB)} {res : AV} : PostS P rs ob ob' res .ret σ = ResS P rs σ ob ob' res := rfl

theorem ps_n {rs : List ResultVar} {ob ob' : List (Nat × OB)} {res : AV} : PostS P rs ob ob' res .normal σ = ResS P rs σ ob ob' res := rfl

theorem fns_go {f : FuncId} {fn : Func} {c : Code} {args : List AV} {ob ob' : List (Nat × OB)} {res : AV} {n : Nat} {sl : List (Nat × AV)} {rs : List ResultVar} (hf : P.funcs[f]? = some fn) (hb : fn.body = some c) (hname : (fn.name == "runtime.NumGoroutine") = false)
    (hn : fn.ntmps = n) (hr : fn.results = rs.toArray) (hsl : slotsA 0 args = sl) (hle : args.length ≤ n) (hge : geAll n ob = true) (h : AW P c (PostS P rs ob ob' res) ⟨n, sl, ob⟩) : FnS P f ob args ob' res := by
  subst hn hsl
  refine fns_of_aw hf hb hname hle hge (aw_mono (fun e σ q => ?_) h)
  rw [hr]
  cases e <;> first | exact ⟨.inl rfl, q⟩ | exact ⟨.inr rfl, q⟩ | exact q.elim

def PostX (P : Program) (rs : List ResultVar) (ob : List (Nat × OB)) (RR : List (Nat × OB) → AV → Prop) : Exit → St → Prop
  | .ret, σ => ResX P rs σ ob RR
  | .normal, σ => ResX P rs σ ob RR
  | _, _ => False

theorem px_r {rs : List ResultVar} {ob : List (Nat × OB)} {RR : List (Nat × OB) → AV → Prop} : PostX P rs ob RR .ret σ = ResX P rs σ ob RR := rfl

theorem px_n {rs : List ResultVar} {ob : List (Nat × OB)} {RR : List (Nat × OB) → AV → Prop} : PostX P rs ob RR .normal σ = ResX P rs σ ob RR := rfl

theorem argsS_refl {ob : List (Nat × OB)} {β : Bool} : ∀ {xs : List AV}, ArgsS σ ob β xs xs
  | [] => by simp only [ArgsS]
  | x :: xs => by
    simp only [ArgsS]
    exact ⟨x, xs, rfl, .inl rfl, argsS_refl⟩

theorem call_s {K : St → Prop} {dst : Option Nat} {g : FuncId} {first cap args cas : List AV} {ob ob' : List (Nat × OB)} {res : AV} (hc : FnS P g ob cas ob' res) (ha : first ++ args ++ cap = cas) (hso : SubO σ.ob ob) (hlt : ltAll σ.n (newN ob ob') = true) (hap : apartO (dropO σ.ob ob) ob' res = true)
    (hk : K (σ.after ob ob' dst res)) : CallOk P false σ dst (.fc g first cap) args K :=
  .inr (.inl ⟨rfl, ob, cas, _, false, hc.x, by rw [ha]; exact argsS_refl, hso, ⟨ob', res, rfl, rfl⟩, fun o r e => by obtain ⟨rfl, rfl⟩ := e; exact ⟨(fun e => by cases e), hlt, hap, hk⟩⟩)

end

def flatF (P : Program) (g : TypeId → Bool) : List Field → Nat → Nat → Bool
  | [], o, n => o == n
  | f :: fs, o, n => f.name != "_" && f.offset == o && g f.type && flatF P g fs (o + P.cellsOf f.type) n

def flatT (P : Program) : Nat → TypeId → Bool
  | 0, _ => false
  | d + 1, t => match P.underlying t with
    | some (.int _) => P.cellsOf t == 1
    | some (.struct fs) => !P.stoodInHeld t && flatF P (flatT P d) fs.toList 0 (P.cellsOf t)
    | _ => false

def FlatV (P : Program) (t : TypeId) (ps : List (IntKind × Int)) (v : Value) : Prop :=
  (tAgg P t = true ∧ v = .agg (ps.map fun p => Value.int p.1 p.2).toArray) ∨ (tAgg P t = false ∧ ∃ p, ps = [p] ∧ v = .int p.1 p.2)

section
variable {P : Program} {w : World}

theorem flat_part {t : TypeId} {ps : List (IntKind × Int)} {o : Nat} (hu : (P.underlying t).isSome = true) (h1 : tAgg P t = false → P.cellsOf t = 1) (hl : o + P.cellsOf t ≤ ps.length) :
    ∃ v, (part t (ps.map fun p => Value.int p.1 p.2).toArray o).run P w = .ok v w ∧ FlatV P t ((ps.drop o).take (P.cellsOf t)) v := by
  cases ht : tAgg P t with
  | true =>
    refine ⟨.agg (((ps.drop o).take (P.cellsOf t)).map fun p => Value.int p.1 p.2).toArray, ?_, .inl ⟨ht, rfl⟩⟩
    simp only [part, Sem.run_bind, run_agg (tAgg_some ht), Result.andThen_ok, ht, if_true, run_size (tAgg_some ht), Sem.run_pure]
    congr 2
    apply Array.ext'
    simp [List.extract_eq_take_drop, List.map_take, List.map_drop]
  | false =>
    have hc := h1 ht
    rw [hc] at hl ⊢
    have hlt : o < ps.length := by omega
    refine ⟨.int ps[o].1 ps[o].2, ?_, .inr ⟨ht, ps[o], ?_, rfl⟩⟩
    · simp only [part, Sem.run_bind, run_agg hu, Result.andThen_ok, ht]
      simp [hlt]
    · rw [List.drop_eq_getElem_cons hlt]
      rfl

theorem beq_split (xs ys : List Int) (n : Nat) : (xs == ys) = ((xs.take n == ys.take n) && (xs.drop n == ys.drop n)) := by
  by_cases h : xs = ys
  · subst h; simp
  · have : ¬ (xs.take n = ys.take n ∧ xs.drop n = ys.drop n) := fun e => h (by rw [← List.take_append_drop n xs, ← List.take_append_drop n ys, e.1, e.2])
    rw [beq_eq_false_iff_ne.2 h]
    by_cases h1 : xs.take n = ys.take n
    · have h2 : xs.drop n ≠ ys.drop n := fun e => this ⟨h1, e⟩
      simp [h2]
    · simp [h1]

theorem flat_fields (d : Nat) (D : Nat) {ps qs : List (IntKind × Int)} (hk : ps.map (·.1) = qs.map (·.1))
    (ih : ∀ t, flatT P d t = true → ∀ (rs ss : List (IntKind × Int)) (u v : Value), rs.length = P.cellsOf t → ss.length = P.cellsOf t → rs.map (·.1) = ss.map (·.1) → FlatV P t rs u → FlatV P t ss v → (Op.equalIn (D + 1) t u v).run P w = .ok (rs.map (·.2) == ss.map (·.2)) w)
    (hcell : ∀ t, flatT P d t = true → (P.underlying t).isSome = true ∧ (tAgg P t = false → P.cellsOf t = 1)) :
    ∀ (fs : List Field) (o : Nat), flatF P (flatT P d) fs o ps.length = true → o ≤ ps.length →
      (Op.eqFields (D + 1) (ps.map fun p => Value.int p.1 p.2).toArray (qs.map fun p => Value.int p.1 p.2).toArray fs).run P w = .ok ((ps.drop o).map (·.2) == (qs.drop o).map (·.2)) w
  | [], o, h, ho => by
    have hlen : ps.length = qs.length := by simpa using congrArg List.length hk
    simp only [flatF, beq_iff_eq] at h
    subst h
    simp [Op.eqFields, hlen]
  | f :: fs, o, h, ho => by
    have hlen : ps.length = qs.length := by simpa using congrArg List.length hk
    simp only [flatF, Bool.and_eq_true, beq_iff_eq, bne_iff_ne, ne_eq] at h
    obtain ⟨⟨⟨h1, h2⟩, h3⟩, h4⟩ := h
    have hle : ∀ (fs : List Field) (o : Nat), flatF P (flatT P d) fs o ps.length = true → o ≤ ps.length := by
      intro fs
      induction fs with
      | nil => intro o h; simp only [flatF, beq_iff_eq] at h; omega
      | cons f fs ih => intro o h; simp only [flatF, Bool.and_eq_true] at h; have := ih _ h.2; omega
    have h5 := hle fs _ h4
    obtain ⟨c1, c2⟩ := hcell f.type h3
    obtain ⟨u, u1, u2⟩ := flat_part (w := w) (ps := ps) (o := o) c1 c2 (by omega)
    obtain ⟨v, v1, v2⟩ := flat_part (w := w) (ps := qs) (o := o) c1 c2 (by omega)
    have he := ih f.type h3 _ _ u v (by simp; omega) (by simp; omega) (by
      rw [List.map_take, List.map_drop, hk, List.map_take, List.map_drop]) u2 v2
    have hrest := flat_fields d D hk ih hcell fs _ h4 h5
    simp only [Op.eqFields, if_pos h1, Sem.run_bind, h2, u1, v1, Result.andThen_ok, he]
    rw [beq_split ((ps.drop o).map (·.2)) ((qs.drop o).map (·.2)) (P.cellsOf f.type)]
    simp only [List.map_take, List.map_drop, List.drop_drop] at hrest ⊢
    cases hb : (((ps.map (·.2)).drop o).take (P.cellsOf f.type) == ((qs.map (·.2)).drop o).take (P.cellsOf f.type)) with
    | true => simpa using hrest
    | false => simp

theorem flat_cell (d : Nat) (t : TypeId) (h : flatT P d t = true) : (P.underlying t).isSome = true ∧ (tAgg P t = false → P.cellsOf t = 1) := by
  cases d with
  | zero => simp [flatT] at h
  | succ d =>
    simp only [flatT] at h
    split at h
    · rename_i k hu
      exact ⟨by rw [hu]; rfl, fun _ => by simpa using h⟩
    · rename_i fs hu
      exact ⟨by rw [hu]; rfl, fun e => by simp [tAgg, hu] at e⟩
    · cases h

theorem flat_equal : ∀ (d : Nat) (D : Nat) (t : TypeId), d ≤ D → flatT P d t = true → ∀ (w : World) (rs ss : List (IntKind × Int)) (u v : Value), rs.length = P.cellsOf t → ss.length = P.cellsOf t → rs.map (·.1) = ss.map (·.1) → FlatV P t rs u → FlatV P t ss v → (Op.equalIn (D + 1) t u v).run P w = .ok (rs.map (·.2) == ss.map (·.2)) w
  | 0, _, t, _, h => by simp [flatT] at h
  | d + 1, 0, t, hd, h => by omega
  | d + 1, D + 1, t, hd, h => by
    intro w rs ss u v hr hs hk hu hv
    simp only [flatT] at h
    split at h
    · rename_i k hty
      have hag : tAgg P t = false := by simp [tAgg, hty]
      rcases hu with ⟨e, _⟩ | ⟨_, p, rfl, rfl⟩
      · rw [hag] at e; cases e
      · rcases hv with ⟨e, _⟩ | ⟨_, q, rfl, rfl⟩
        · rw [hag] at e; cases e
        · simp only [List.map_cons, List.map_nil, List.cons.injEq, and_true] at hk
          rw [← hk]
          rw [run_equalIn_int w (D + 1) t p.1 k p.2 q.2 hty]
          simp
    · rename_i fs hty
      simp only [Bool.and_eq_true, Bool.not_eq_true'] at h
      have hag : tAgg P t = true := by simp [tAgg, hty]
      rcases hu with ⟨_, rfl⟩ | ⟨e, _⟩
      · rcases hv with ⟨_, rfl⟩ | ⟨e, _⟩
        · have hfs : P.fieldsOf t = fs := by simp [Program.fieldsOf, hty]
          rw [run_equalIn_struct w (D + 1) t _ _ (by rw [hfs]; exact hty) h.1, hfs]
          have := flat_fields (w := w) d D hk (fun t ht rs ss u v a b c e f => flat_equal d D t (by omega) ht w rs ss u v a b c e f) (flat_cell d) fs.toList 0 (by rw [hr]; exact h.2) (Nat.zero_le _)
          simpa using this
        · rw [hag] at e; cases e
      · rw [hag] at e; cases e
    · cases h

theorem structEq_of {t : TypeId} {n : Nat} (h : flatT P 8 t = true) (hag : tAgg P t = true) (hn : P.cellsOf t = n) (hg : P.eqGuardType P.depth t = false) : StructEq P t n := by
  intro xs ys x y w h1 h2 h3 u v hu hv
  subst hu hv
  refine ⟨run_eqGuard_agg w .eql t x y _ _ hg, run_eqGuard_agg w .neq t x y _ _ hg, ?_⟩
  have := flat_equal (P := P) 8 9999 t (by omega) h w xs ys _ _ (h1.trans hn.symm) (h2.trans hn.symm) h3 (.inl ⟨hag, rfl⟩) (.inl ⟨hag, rfl⟩)
  simpa [Op.equal, Op.maxDepth] using this

end

section
variable {P : Program} {w0 : Env} {w w' : World} {σ : St} {ν : Loc} {a : Act} {m n : Nat}

mutual
theorem AV.sw_sw : ∀ x : AV, (x.sw m n).sw m n = x
  | .bp s o => by simp only [AV.sw, swp_swp]
  | .bs s off k l => by simp only [AV.sw, swp_swp]
  | .ag cs => by simp only [AV.sw, AV.swL_swL cs]
  | .tu cs => by simp only [AV.sw, AV.swL_swL cs]
  | .fc g x y => by simp only [AV.sw, AV.swL_swL x, AV.swL_swL y]
  | .d x => by simp only [AV.sw]
  | .fn dom h => by simp only [AV.sw]
  | .rf s k => by simp only [AV.sw, swp_swp]
  | .un => by simp only [AV.sw]
theorem AV.swL_swL : ∀ xs : List AV, AV.swL m n (AV.swL m n xs) = xs
  | [] => by simp only [AV.swL]
  | x :: r => by simp only [AV.swL, AV.sw_sw x, AV.swL_swL r]
end

theorem OB.sw_sw (o : OB) : (o.sw m n).sw m n = o := by
  cases o <;> simp only [OB.sw, AV.swL_swL, swp_swp]

theorem swO_swO : ∀ ob : List (Nat × OB), swO m n (swO m n ob) = ob
  | [] => rfl
  | (s, o) :: r => by simp only [swO, swp_swp, OB.sw_sw, swO_swO r]

theorem avoid_sw_iff {ob : List (Nat × OB)} {b : Nat} : AvoidB (swO m n ob) ν b ↔ AvoidB ob (fun s => ν (swp m n s)) b := by
  constructor
  · intro h s o hs x hx
    exact h _ _ (lookO_sw_of hs) x hx
  · intro h s o hs x hx
    obtain ⟨o1, h1, _⟩ := lookO_sw hs
    exact h _ o1 h1 x (by simpa only [swp_swp] using hx)

theorem FnS.sw {g : FuncId} {ob ob' : List (Nat × OB)} {args : List AV} {res : AV} (m n : Nat) (h : FnS P g ob args ob' res) : FnS P g (swO m n ob) (AV.swL m n args) (swO m n ob') (res.sw m n) := by
  refine ⟨h.1, fun w ν Dt vs hDt hm hv => ?_⟩
  have hS : (fun b => b < w.heap.size ∧ AvoidB (swO m n ob) ν b) = (fun b => b < w.heap.size ∧ AvoidB ob (fun s => ν (swp m n s)) b) := by
    funext b
    rw [avoid_sw_iff]
  have hm1 := hm.sw (m := m) (n := n)
  rw [swO_swO] at hm1
  have hv1 := VRs.sw (m := m) (n := n) hv
  rw [swO_swO, AV.swL_swL] at hv1
  rw [hS] at hm1 hv1
  have hm2 : Mem P ⟨w, fun b => b < w.heap.size ∧ AvoidB ob (fun s => ν (swp m n s)) b, Dt, fun s => ν (swp m n s), 0⟩ w ob (fun s => ν (swp m n s)) := hm1.env (fun _ h => h) (fun _ h => h) (fun _ h => h)
  have hv2 : VRs P ⟨w, fun b => b < w.heap.size ∧ AvoidB ob (fun s => ν (swp m n s)) b, Dt, fun s => ν (swp m n s), 0⟩ w ob (fun s => ν (swp m n s)) args vs := VRs.into (w0 := ⟨w, fun b => b < w.heap.size ∧ AvoidB ob (fun s => ν (swp m n s)) b, Dt, ν, 0⟩) (E := ⟨w, fun b => b < w.heap.size ∧ AvoidB ob (fun s => ν (swp m n s)) b, Dt, fun s => ν (swp m n s), 0⟩) (fun _ _ h => h) (fun b _ _ h => h) (fun _ h => h) hv1
  refine (h.2 w (fun s => ν (swp m n s)) Dt vs ⟨hDt.1, hDt.2.1, fun b hb => avoid_sw_iff.1 (hDt.2.2 b hb)⟩ hm2 hv2).mono fun e w' hh => ?_
  obtain ⟨r, ν', he, hk, hr, hm3, hv3, hf⟩ := hh
  rw [hS]
  refine ⟨r, fun s => ν' (swp m n s), he, hk, hr, ?_, ?_, fun s o o' e1 e2 => ?_⟩
  · exact (hm3.sw (m := m) (n := n)).env (fun _ h => h) (fun _ h => h) (fun _ h => h)
  · exact VR.into (w0 := ⟨w, fun b => b < w.heap.size ∧ AvoidB ob (fun s => ν (swp m n s)) b, Dt, fun s => ν (swp m n s), 0⟩) (E := ⟨w, fun b => b < w.heap.size ∧ AvoidB ob (fun s => ν (swp m n s)) b, Dt, ν, 0⟩) (fun _ _ h => h) (fun b _ _ h => h) (fun _ h => h) (VR.sw (m := m) (n := n) hv3)
  · obtain ⟨o1, g1, rfl⟩ := lookO_sw e1
    obtain ⟨o2, g2, rfl⟩ := lookO_sw e2
    obtain ⟨q1, q2⟩ := hf _ o1 o2 g1 g2
    refine ⟨?_, by rw [cells_sw, cells_sw, swL_length, swL_length, q2]⟩
    show ν' (swp m n s) = ν s
    rw [q1]
    show ν (swp m n (swp m n s)) = ν s
    rw [swp_swp]

theorem FnX.sw {g : FuncId} {ob : List (Nat × OB)} {args : List AV} {RR : List (Nat × OB) → AV → Prop} (m n : Nat) (h : FnX P g ob args RR) : FnX P g (swO m n ob) (AV.swL m n args) (fun o r => ∃ o1 r1, RR o1 r1 ∧ o = swO m n o1 ∧ r = r1.sw m n) := by
  refine ⟨h.1, fun w ν Dt vs hDt hm hv => ?_⟩
  have hS : (fun b => b < w.heap.size ∧ AvoidB (swO m n ob) ν b) = (fun b => b < w.heap.size ∧ AvoidB ob (fun s => ν (swp m n s)) b) := by
    funext b
    rw [avoid_sw_iff]
  have hm1 := hm.sw (m := m) (n := n)
  rw [swO_swO] at hm1
  have hv1 := VRs.sw (m := m) (n := n) hv
  rw [swO_swO, AV.swL_swL] at hv1
  rw [hS] at hm1 hv1
  have hm2 : Mem P ⟨w, fun b => b < w.heap.size ∧ AvoidB ob (fun s => ν (swp m n s)) b, Dt, fun s => ν (swp m n s), 0⟩ w ob (fun s => ν (swp m n s)) := hm1.env (fun _ h => h) (fun _ h => h) (fun _ h => h)
  have hv2 : VRs P ⟨w, fun b => b < w.heap.size ∧ AvoidB ob (fun s => ν (swp m n s)) b, Dt, fun s => ν (swp m n s), 0⟩ w ob (fun s => ν (swp m n s)) args vs := VRs.into (w0 := ⟨w, fun b => b < w.heap.size ∧ AvoidB ob (fun s => ν (swp m n s)) b, Dt, ν, 0⟩) (E := ⟨w, fun b => b < w.heap.size ∧ AvoidB ob (fun s => ν (swp m n s)) b, Dt, fun s => ν (swp m n s), 0⟩) (fun _ _ h => h) (fun b _ _ h => h) (fun _ h => h) hv1
  refine (h.2 w (fun s => ν (swp m n s)) Dt vs ⟨hDt.1, hDt.2.1, fun b hb => avoid_sw_iff.1 (hDt.2.2 b hb)⟩ hm2 hv2).mono fun e w' hh => ?_
  obtain ⟨ob', res, hRR, r, ν', he, hk, hr, hm3, hv3, hf⟩ := hh
  rw [hS]
  refine ⟨swO m n ob', res.sw m n, ⟨ob', res, hRR, rfl, rfl⟩, r, fun s => ν' (swp m n s), he, hk, hr, ?_, ?_, fun s o o' e1 e2 => ?_⟩
  · exact (hm3.sw (m := m) (n := n)).env (fun _ h => h) (fun _ h => h) (fun _ h => h)
  · exact VR.into (w0 := ⟨w, fun b => b < w.heap.size ∧ AvoidB ob (fun s => ν (swp m n s)) b, Dt, fun s => ν (swp m n s), 0⟩) (E := ⟨w, fun b => b < w.heap.size ∧ AvoidB ob (fun s => ν (swp m n s)) b, Dt, ν, 0⟩) (fun _ _ h => h) (fun b _ _ h => h) (fun _ h => h) (VR.sw (m := m) (n := n) hv3)
  · obtain ⟨o1, g1, rfl⟩ := lookO_sw e1
    obtain ⟨o2, g2, rfl⟩ := lookO_sw e2
    obtain ⟨q1, q2⟩ := hf _ o1 o2 g1 g2
    refine ⟨?_, by rw [cells_sw, cells_sw, swL_length, swL_length, q2]⟩
    show ν' (swp m n s) = ν s
    rw [q1]
    show ν (swp m n (swp m n s)) = ν s
    rw [swp_swp]

theorem FnX.mono {g : FuncId} {ob : List (Nat × OB)} {args : List AV} {RR RR' : List (Nat × OB) → AV → Prop} (h : FnX P g ob args RR) (hR : ∀ o r, RR o r → RR' o r) : FnX P g ob args RR' :=
  ⟨h.1, fun w ν Dt vs h1 h2 h3 => (h.2 w ν Dt vs h1 h2 h3).mono fun _ _ he => by
    obtain ⟨o, r, q1, q2⟩ := he
    exact ⟨o, r, hR o r q1, q2⟩⟩

def apartN (o1 o2 : List (Nat × OB)) : Bool := o1.all fun p => o2.all fun q => p.1 != q.1

theorem ress_tmp {t : Nat} {ob ob' : List (Nat × OB)} {res : AV} (hl : lensO ob ob') (hs : SubO σ.ob ob') (hr : look σ.sl t = res) : ResS P [.tmp t] σ ob ob' res := by
  refine ⟨by simp, hl, [], rfl, hs, ?_⟩
  simp only [resAVs, resAV, joinR, swsA]
  exact ⟨⟨trivial, trivial⟩, hr⟩

def resStep (P : Program) (σ : St) : List ResultVar → (List AV → Prop) → Prop
  | [], K => K []
  | .tmp t :: r, K => resStep P σ r (fun xs => K (look σ.sl t :: xs))
  | .cell t ty :: r, K => match pureOp P σ (.load ty (.tmp t)) with
    | some (p, x) => p ∧ resStep P σ r (fun xs => K (x :: xs))
    | none => False

def ResK (P : Program) (σ : St) (r : List ResultVar) (K : List AV → Prop) : Option (Prop × AV) → Prop
  | some (p, x) => p ∧ resStep P σ r (fun xs => K (x :: xs))
  | none => False

theorem rs_n {K : List AV → Prop} : resStep P σ [] K = K [] := rfl

theorem rs_t {K : List AV → Prop} {t : Nat} {r : List ResultVar} : resStep P σ (.tmp t :: r) K = resStep P σ r (fun xs => K (look σ.sl t :: xs)) := rfl

theorem rs_c {K : List AV → Prop} {t : Nat} {ty : TypeId} {r : List ResultVar} : resStep P σ (.cell t ty :: r) K = ResK P σ r K (pureOp P σ (.load ty (.tmp t))) := by
  rw [resStep]
  unfold ResK
  rfl

theorem rs_k {K : List AV → Prop} {p : Prop} {x : AV} {r : List ResultVar} : ResK P σ r K (some (p, x)) = (p ∧ resStep P σ r (fun xs => K (x :: xs))) := rfl

theorem resStep_sound : ∀ {rs : List ResultVar} {K : List AV → Prop}, resStep P σ rs K → ∃ p xs, resAVs P σ rs = some (p, xs) ∧ p ∧ K xs
  | [], K, h => ⟨True, [], rfl, trivial, h⟩
  | .tmp t :: r, K, h => by
    obtain ⟨p, xs, h1, h2, h3⟩ := resStep_sound (rs := r) h
    refine ⟨True ∧ p, _ :: xs, ?_, ⟨trivial, h2⟩, h3⟩
    simp only [resAVs, resAV, h1]
  | .cell t ty :: r, K, h => by
    rw [resStep] at h
    cases hx : pureOp P σ (.load ty (.tmp t)) with
    | none => rw [hx] at h; exact h.elim
    | some x =>
      obtain ⟨q, x⟩ := x
      rw [hx] at h
      obtain ⟨p, xs, h1, h2, h3⟩ := resStep_sound (rs := r) h.2
      refine ⟨q ∧ p, x :: xs, ?_, ⟨h.1, h2⟩, h3⟩
      simp only [resAVs, resAV, hx, h1]

theorem res_any {rs : List ResultVar} {res : D} (hl : rs.length ≤ 4) (h : resStep P σ rs (fun xs => ResAt σ (joinR xs) res)) : ResOk P rs σ res := by
  obtain ⟨p, xs, h1, h2, q, ss, h3, h4, h5⟩ := resStep_sound h
  refine ⟨hl, ?_⟩
  rw [h1]
  exact ⟨h2, q, ss, h3, h4, h5⟩

theorem jr_1 {x : AV} : joinR [x] = x := rfl

theorem jr_2 {x y : AV} : joinR [x, y] = .tu [x, y] := rfl

theorem jr_3 {x y z : AV} : joinR [x, y, z] = .tu [x, y, z] := rfl

theorem jr_4 {x y z u : AV} : joinR [x, y, z, u] = .tu [x, y, z, u] := rfl

theorem ev_res2 {t : Nat} {ty : TypeId} {u : ResultVar} {res : D} (h : resStep P σ [.cell t ty, u] (fun xs => ResAt σ (joinR xs) res)) : ResOk P [.cell t ty, u] σ res := res_any (by simp) h

theorem ev_res2b {t : Nat} {ty : TypeId} {u : Nat} {res : D} (h : resStep P σ [.tmp u, .cell t ty] (fun xs => ResAt σ (joinR xs) res)) : ResOk P [.tmp u, .cell t ty] σ res := res_any (by simp) h

theorem ev_res3 {t : Nat} {ty : TypeId} {u v : ResultVar} {res : D} (h : resStep P σ [.cell t ty, u, v] (fun xs => ResAt σ (joinR xs) res)) : ResOk P [.cell t ty, u, v] σ res := res_any (by simp) h

theorem ev_res4 {t : Nat} {ty : TypeId} {u v x : ResultVar} {res : D} (h : resStep P σ [.cell t ty, u, v, x] (fun xs => ResAt σ (joinR xs) res)) : ResOk P [.cell t ty, u, v, x] σ res := res_any (by simp) h

theorem ev_res3b {t : Nat} {ty : TypeId} {u : Nat} {v : ResultVar} {res : D} (h : resStep P σ [.tmp u, .cell t ty, v] (fun xs => ResAt σ (joinR xs) res)) : ResOk P [.tmp u, .cell t ty, v] σ res := res_any (by simp) h

def leD (d e : D) : Prop := ∀ w o y bs, RD w o d y bs → RD w o e y bs

def lesD (ds es : List D) : Prop := ∀ w o ys bs, RDs w o ds ys bs → RDs w o es ys bs

end

def wpAnyF (P : Program) (ops : Array Oper) (Q : Exit → Act → World → Prop) (U : List Nat) : Nat → Array Bool → Act → World → Prop
  | 0, listed, a, w => Region.ready .any ops listed = [] ∧ Q .normal a w
  | n + 1, listed, a, w => Region.ready .any ops listed ≠ [] ∧ ∀ i ∈ Region.ready .any ops listed, wpOp P ops Q i (fun a' w' => (i ∉ U → Below w.heap.size w w') ∧ wpAnyF P ops Q U n (listed.setIfInBounds i true) a' w') a w

def stillKind : Op → Bool
  | .move _ | .assign _ | .extract _ _ | .slice _ _ _ _ _ | .indexAddr _ _ _ => true
  | _ => false

def calcKind : Op → Bool
  | .binOp _ _ _ _ _ => true
  | .fieldAddr _ _ _ => true
  | _ => false

def intAV : AV → Bool
  | .d (.v (.int _ _)) => true
  | _ => false

def calcB (o : Option Oper) (σ : St) : Bool := match o with
  | some o => match o.op with
    | .binOp _ _ x y _ => intAV (σ.ev x) && intAV (σ.ev y)
    | .fieldAddr _ _ _ => o.guard.isNone
    | _ => false
  | none => false

theorem calc_b {dst : Option Nat} {op : BinOp} {t u ty : TypeId} {x y : Operand} {pos : String} {after : Array Edge} {g : Option (Nat × Bool)} {σ : St} : (calcB (some ⟨dst, .binOp op t x y u, ty, pos, after, g⟩) σ = true) = (intAV (σ.ev x) = true ∧ intAV (σ.ev y) = true) := by
  simp only [calcB, Bool.and_eq_true]

theorem calc_fa {dst : Option Nat} {t ty : TypeId} {x : Operand} {f : Nat} {pos : String} {after : Array Edge} {σ : St} : (calcB (some ⟨dst, .fieldAddr t x f, ty, pos, after, none⟩) σ = true) = True := eq_true rfl

theorem intAV_int {k : IntKind} {n : Int} : (intAV (.d (.v (.int k n))) = true) = True := eq_true rfl

inductive PU where
  | fin
  | pure (i : Nat) (t : PU)
  | still (i : Nat) (t : PU)
  | calc (i : Nat) (t : PU)
  | one (q : Bool) (i : Nat) (t : PU)
  | two (q : Bool) (i : Nat) (t : PU) (q' : Bool) (j : Nat) (u : PU)
  | three (q : Bool) (i : Nat) (t : PU) (q' : Bool) (j : Nat) (u : PU) (q'' : Bool) (k : Nat) (v : PU)
  | four (q : Bool) (i : Nat) (t : PU) (q' : Bool) (j : Nat) (u : PU) (q'' : Bool) (k : Nat) (v : PU) (q3 : Bool) (m : Nat) (x : PU)

def PU.depth : PU → Nat
  | .fin => 0
  | .pure _ t => t.depth + 1
  | .still _ t => t.depth + 1
  | .calc _ t => t.depth + 1
  | .one _ _ t => t.depth + 1
  | .two _ _ t _ _ _ => t.depth + 1
  | .three _ _ t _ _ _ _ _ _ => t.depth + 1
  | .four _ _ t _ _ _ _ _ _ _ _ _ => t.depth + 1

def okU (ops : Array Oper) (U : List Nat) (q : Bool) (i : Nat) : Bool := bif q then kindAt quietKind ops i else U.contains i

def planU (ops : Array Oper) (U : List Nat) : PU → Array Bool → Bool
  | .fin, listed => (Region.ready .any ops listed).isEmpty
  | .pure i r, listed => kindAt pureKind ops i && (Region.ready .any ops listed).contains i && Region.free .any ops listed i && U.all (boundAfter ops i) && planU ops U r (listed.setIfInBounds i true)
  | .still i r, listed => kindAt stillKind ops i && (Region.ready .any ops listed).contains i && Region.free .any ops listed i && planU ops U r (listed.setIfInBounds i true)
  | .calc i r, listed => kindAt calcKind ops i && (Region.ready .any ops listed).contains i && Region.free .any ops listed i && planU ops U r (listed.setIfInBounds i true)
  | .one q i r, listed => okU ops U q i && Region.ready .any ops listed == [i] && planU ops U r (listed.setIfInBounds i true)
  | .two q i r q' j u, listed => okU ops U q i && okU ops U q' j && Region.ready .any ops listed == [i, j] && r.depth == u.depth && planU ops U r (listed.setIfInBounds i true) && planU ops U u (listed.setIfInBounds j true)
  | .three q i r q' j u q'' k v, listed => okU ops U q i && okU ops U q' j && okU ops U q'' k && Region.ready .any ops listed == [i, j, k] && r.depth == u.depth && r.depth == v.depth && planU ops U r (listed.setIfInBounds i true) && planU ops U u (listed.setIfInBounds j true) && planU ops U v (listed.setIfInBounds k true)
  | .four q i r q' j u q'' k v q3 m x, listed => okU ops U q i && okU ops U q' j && okU ops U q'' k && okU ops U q3 m && Region.ready .any ops listed == [i, j, k, m] && r.depth == u.depth && r.depth == v.depth && r.depth == x.depth && planU ops U r (listed.setIfInBounds i true) && planU ops U u (listed.setIfInBounds j true) && planU ops U v (listed.setIfInBounds k true) && planU ops U x (listed.setIfInBounds m true)

def planUB (l : List Oper) (E : PU) (U : List Nat) : Bool :=
  Region.noSelect l.toArray && E.depth == l.length && planU l.toArray U E (Array.replicate l.length false)

def AtU (P : Program) (q : Bool) (ops : List Oper) (o : Option Oper) (σ : St) (K : St → Prop) : Prop := match o with
  | some o => Step P q ops o σ K
  | none => False

def RunU (P : Program) (ops : List Oper) : PU → St → (St → Prop) → Prop
  | .fin, σ, K => K σ
  | .pure i t, σ, K => AtU P true ops ops[i]? σ (fun σ' => RunU P ops t σ' K)
  | .still i t, σ, K => AtU P true ops ops[i]? σ (fun σ' => RunU P ops t σ' K)
  | .calc i t, σ, K => calcB ops[i]? σ = true ∧ AtU P true ops ops[i]? σ (fun σ' => RunU P ops t σ' K)
  | .one q i t, σ, K => AtU P q ops ops[i]? σ (fun σ' => RunU P ops t σ' K)
  | .two q i t q' j u, σ, K => AtU P q ops ops[i]? σ (fun σ' => RunU P ops t σ' K) ∧ AtU P q' ops ops[j]? σ (fun σ' => RunU P ops u σ' K)
  | .three q i t q' j u q'' k v, σ, K => AtU P q ops ops[i]? σ (fun σ' => RunU P ops t σ' K) ∧ AtU P q' ops ops[j]? σ (fun σ' => RunU P ops u σ' K) ∧ AtU P q'' ops ops[k]? σ (fun σ' => RunU P ops v σ' K)
  | .four q i t q' j u q'' k v q3 m x, σ, K => AtU P q ops ops[i]? σ (fun σ' => RunU P ops t σ' K) ∧ AtU P q' ops ops[j]? σ (fun σ' => RunU P ops u σ' K) ∧ AtU P q'' ops ops[k]? σ (fun σ' => RunU P ops v σ' K) ∧ AtU P q3 ops ops[m]? σ (fun σ' => RunU P ops x σ' K)

section
variable {P : Program} {ops : Array Oper} {Q : Exit → Act → World → Prop} {U : List Nat}

end

section
variable {P : Program} {w0 : Env} {l : List Oper} {K : St → Prop} {Q : Exit → Act → World → Prop}

end

section
variable {P : Program} {σ : St} {K : St → Prop} {ops : List Oper}

def RunUK (P : Program) (ops : List Oper) (t : PU) (K : St → Prop) (σ : St) : Prop := RunU P ops t σ K

def RunAtU (P : Program) (q : Bool) (ops : List Oper) (o : Option Oper) (t : PU) (σ : St) (K : St → Prop) : Prop := match o with
  | some o => Run P q ops [o] σ (RunUK P ops t K)
  | none => False

theorem ru_at {q : Bool} {t : PU} (x : Option Oper) : AtU P q ops x σ (fun σ' => RunU P ops t σ' K) = RunAtU P q ops x t σ K := by
  cases x with
  | none => rfl
  | some o =>
    simp only [RunAtU, AtU, run_cons]
    rfl

theorem ruk {t : PU} : RunUK P ops t K σ = RunU P ops t σ K := Eq.trans rfl rfl

theorem ru_fin : RunU P ops .fin σ K = K σ := Eq.trans rfl rfl

theorem ru_pure {i : Nat} {t : PU} : RunU P ops (.pure i t) σ K = RunAtU P true ops ops[i]? t σ K := by
  rw [RunU]; exact ru_at _

theorem ru_calc {i : Nat} {t : PU} : RunU P ops (.calc i t) σ K = (calcB ops[i]? σ = true ∧ RunAtU P true ops ops[i]? t σ K) := by
  rw [RunU]; exact congrArg _ (ru_at _)

theorem ru_still {i : Nat} {t : PU} : RunU P ops (.still i t) σ K = RunAtU P true ops ops[i]? t σ K := by
  rw [RunU]; exact ru_at _

theorem ru_one {q : Bool} {i : Nat} {t : PU} : RunU P ops (.one q i t) σ K = RunAtU P q ops ops[i]? t σ K := by
  rw [RunU]; exact ru_at _

theorem ru_two {q q' : Bool} {i j : Nat} {t u : PU} (h1 : RunAtU P q ops ops[i]? t σ K) (h2 : RunAtU P q' ops ops[j]? u σ K) : RunU P ops (.two q i t q' j u) σ K := by
  rw [RunU]
  exact ⟨(ru_at _).mpr h1, (ru_at _).mpr h2⟩

theorem ru_three {q q' q'' : Bool} {i j k : Nat} {t u v : PU} (h1 : RunAtU P q ops ops[i]? t σ K) (h2 : RunAtU P q' ops ops[j]? u σ K) (h3 : RunAtU P q'' ops ops[k]? v σ K) : RunU P ops (.three q i t q' j u q'' k v) σ K := by
  rw [RunU]
  exact ⟨(ru_at _).mpr h1, (ru_at _).mpr h2, (ru_at _).mpr h3⟩

theorem ru_four {q q' q'' q3 : Bool} {i j k m : Nat} {t u v x : PU} (h1 : RunAtU P q ops ops[i]? t σ K) (h2 : RunAtU P q' ops ops[j]? u σ K) (h3 : RunAtU P q'' ops ops[k]? v σ K) (h4 : RunAtU P q3 ops ops[m]? x σ K) : RunU P ops (.four q i t q' j u q'' k v q3 m x) σ K := by
  rw [RunU]
  exact ⟨(ru_at _).mpr h1, (ru_at _).mpr h2, (ru_at _).mpr h3, (ru_at _).mpr h4⟩

theorem rau_some {q : Bool} {o : Oper} {t : PU} : RunAtU P q ops (some o) t σ K = Run P q ops [o] σ (RunUK P ops t K) := Eq.trans rfl rfl

end

section
variable {P : Program} {σ : St} {K : St → Prop}

def cleanO : List (Nat × OB) → List (Nat × OB)
  | [] => []
  | (_, .dead) :: r => cleanO r
  | (s, .ds cs) :: r => (s, .ds cs) :: cleanO r
  | (s, .av cs) :: r => (s, .av cs) :: cleanO r
  | (s, .mp kvs) :: r => (s, .mp kvs) :: cleanO r
  | (s, .it t n l) :: r => (s, .it t n l) :: cleanO r

def St.clean (σ : St) : St := { n := σ.n, sl := σ.sl, ob := cleanO σ.ob }

theorem ev_less {τ : St} (h : Less σ τ) : Less σ τ := h

end

class Evg (p : Prop) (q : outParam Prop) : Prop where
  go : q → p

theorem evg {p q : Prop} [c : Evg p q] (h : q) : p := c.go h

section
variable {P : Program} {q : Bool} {ops l : List Oper} {σ : St} {K : St → Prop} {Q : Exit → St → Prop}

instance : Evg (Run P q ops l σ K) (Run P q ops l σ K) := ⟨id⟩

instance {o : Option (Prop × St)} : Evg (Next P q ops l K o) (Next P q ops l K o) := ⟨id⟩

instance {l : List (Nat × Bool)} : Evg (RunI P ops l σ K) (RunI P ops l σ K) := ⟨id⟩

instance {x y : Code} {v : AV} : Evg (CondK P x y Q σ v) (CondK P x y Q σ v) := ⟨id⟩

instance {T : List Nat} {t : PT} : Evg (RunP P ops T t σ K) (RunP P ops T t σ K) := ⟨id⟩

instance {T : List Nat} {o : Option Oper} {t : PT} : Evg (RunAtP P ops T o t σ K) (RunAtP P ops T o t σ K) := ⟨id⟩

instance {t : PU} : Evg (RunU P ops t σ K) (RunU P ops t σ K) := ⟨id⟩

instance {o : Option Oper} {t : PU} : Evg (RunAtU P q ops o t σ K) (RunAtU P q ops o t σ K) := ⟨id⟩

instance {t : Nat} {ty : TypeId} {res : D} : Evg (ResOk P [.cell t ty] σ res) (ResOk P [.cell t ty] σ res) := ⟨id⟩

instance {t : Nat} {ty : TypeId} {u : ResultVar} {res : D} : Evg (ResOk P [.cell t ty, u] σ res) (resStep P σ [.cell t ty, u] (fun xs => ResAt σ (joinR xs) res)) := ⟨ev_res2⟩

instance {t : Nat} {ty : TypeId} {u : Nat} {res : D} : Evg (ResOk P [.tmp u, .cell t ty] σ res) (resStep P σ [.tmp u, .cell t ty] (fun xs => ResAt σ (joinR xs) res)) := ⟨ev_res2b⟩

instance {t : Nat} {ty : TypeId} {u v : ResultVar} {res : D} : Evg (ResOk P [.cell t ty, u, v] σ res) (resStep P σ [.cell t ty, u, v] (fun xs => ResAt σ (joinR xs) res)) := ⟨ev_res3⟩

instance {t : Nat} {ty : TypeId} {u v x : ResultVar} {res : D} : Evg (ResOk P [.cell t ty, u, v, x] σ res) (resStep P σ [.cell t ty, u, v, x] (fun xs => ResAt σ (joinR xs) res)) := ⟨ev_res4⟩

instance {t : Nat} {ty : TypeId} {u : Nat} {v : ResultVar} {res : D} : Evg (ResOk P [.tmp u, .cell t ty, v] σ res) (resStep P σ [.tmp u, .cell t ty, v] (fun xs => ResAt σ (joinR xs) res)) := ⟨ev_res3b⟩

instance : Evg (AW P .skip Q σ) (Q .normal σ) := ⟨aw_skip⟩

instance : Evg (AW P .ret Q σ) (Q .ret σ) := ⟨aw_ret⟩

instance {id : Nat} : Evg (AW P (.exit id) Q σ) (Q (.exit id) σ) := ⟨aw_exit⟩

instance : Evg (Kx K Q .normal σ) (Kx K Q .normal σ) := ⟨fun h => h⟩

instance {id : Nat} : Evg (inB id Q .normal σ) (inB id Q .normal σ) := ⟨fun h => h⟩

end

def opsIn (id : Nat) : Code → Option (List Oper)
  | .region k ops _ => if k = id then some ops.toList else none
  | .seq a b => match opsIn id a with
    | some l => some l
    | none => opsIn id b
  | .cond _ a b => match opsIn id a with
    | some l => some l
    | none => opsIn id b
  | .block _ c => opsIn id c
  | .loop c => opsIn id c
  | _ => none

def opsOf (fn : Func) (id : Nat) : List Oper := match fn.body with
  | some c => (opsIn id c).getD []
  | none => []

theorem nrm : (∀ (p : Prop) [Decidable p], (decide p = true) = p) ∧ (∀ (p : Prop) [Decidable p], (decide p = false) = ¬p) ∧ (∀ (a b : Int), ((a != b) = true) = (a ≠ b)) ∧ (∀ (a b : Int), ((a == b) = true) = (a = b)) ∧ (∀ (a b : Int), ((a != b) = false) = (a = b)) ∧ (∀ (a b : Int), ((a == b) = false) = (a ≠ b)) ∧ (∀ (a b : Bool), ((a != b) = true) = (a ≠ b)) ∧ (∀ (a b : Bool), ((a == b) = true) = (a = b)) ∧ (∀ (a b : Bool), ((a != b) = false) = (a = b)) ∧ (∀ (a b : Bool), ((a == b) = false) = (a ≠ b)) ∧ (∀ (a b : List Int), ((a == b) = true) = (a = b)) ∧ (∀ (a b : List Int), ((a == b) = false) = (a ≠ b)) ∧ (∀ (a b : List Int), ((a != b) = true) = (a ≠ b)) ∧ (∀ (a b : List Int), ((a != b) = false) = (a = b)) ∧ (∀ (b : Bool), ((!b) = true) = (b = false)) ∧ (∀ (b : Bool), ((!b) = false) = (b = true)) ∧ (∀ {α : Sort 1} (a b : α), (a ≠ b) = ¬a = b) := by
  refine ⟨fun p _ => by simp, fun p _ => by simp, ?_, ?_, ?_, ?_, ?_, ?_, ?_, ?_, ?_, ?_, ?_, ?_, ?_, ?_, fun a b => rfl⟩ <;> intros <;> simp

section
variable {P : Program} {σ : St} {K : St → Prop} {dst : Option Nat}

def mpI (L : List (Int × Int)) : List (List Int × Value) := L.map fun p => ([p.1], Value.int .i64 p.2)

def lkI (k : Int) : List (Int × Int) → Option Int
  | [] => none
  | (l, v) :: r => if l = k then some v else lkI k r

def insI' (k v : Int) : List (Int × Int) → List (Int × Int)
  | [] => [(k, v)]
  | (l, u) :: r => if l = k then (k, v) :: r else (l, u) :: insI' k v r

theorem lookK_mpI (k : Int) : ∀ L, lookK [k] (mpI L) = (lkI k L).map (Value.int .i64)
  | [] => rfl
  | (l, v) :: r => by
    show (if [l] = [k] then some (Value.int .i64 v) else lookK [k] (mpI r)) = _
    simp only [lkI, lookK_mpI k r]
    by_cases e : l = k
    · simp [e]
    · simp [e]

theorem lookD_mpI (k : Int) (L : List (Int × Int)) (z : Int) (ok : Bool) : lookD [k] (mpI L) (.int .i64 z) ok = bif ok then .tu [.int ((lkI k L).getD z), .bool (lkI k L).isSome] else .int ((lkI k L).getD z) := by
  simp only [lookD, lookK_mpI]
  cases lkI k L <;> cases ok <;> rfl

theorem setKV_mpI (k v : Int) : ∀ L, setKV [k] (.int .i64 v) (mpI L) = mpI (insI' k v L)
  | [] => rfl
  | (l, u) :: r => by
    show (if [l] = [k] then ([k], Value.int .i64 v) :: mpI r else ([l], Value.int .i64 u) :: setKV [k] (.int .i64 v) (mpI r)) = _
    simp only [insI', setKV_mpI k v r]
    by_cases e : l = k
    · simp [e, mpI]
    · simp [e, mpI]

theorem setKV_nil (k v : Int) : setKV [k] (.int .i64 v) [] = mpI [(k, v)] := Eq.trans rfl rfl

theorem keysAre_mpI (L : List (Int × Int)) : keysAre 1 (mpI L) = True := eq_true (fun p hp => by
  obtain ⟨q, _, rfl⟩ := List.mem_map.1 hp
  rfl)

theorem keysAre_nil (m : Nat) : keysAre m [] = True := eq_true (fun p hp => by cases hp)

theorem mpI_len (L : List (Int × Int)) : (mpI L).length = L.length := by simp [mpI]

theorem keyB_int (n : Int) : keyB [n] = .int n := Eq.trans rfl rfl

end

end Go.Proofs.Yteimddagjikcaaa
