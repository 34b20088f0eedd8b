/- Names are turned; a function that is handed objects; loops whose states are given up to names. -/
import Derived.Test.YtdinkfmkhdnbpaaFlow26
import Derived.WalkKit
import Derived.WalkSpells
namespace Go.Proofs.Ytdinkfmkhdnbpaa
open Go.RowKit
set_option linter.unusedVariables false
set_option linter.unusedSimpArgs false

def swp (a b s : Nat) : Nat := if s = a then b else if s = b then a else s

mutual
def AV.sw (a b : Nat) : AV → AV
  | .bp s o => .bp (swp a b s) o
  | .bs s off n k => .bs (swp a b s) off n k
  | .ag cs => .ag (AV.swL a b cs)
  | .tu cs => .tu (AV.swL a b cs)
  | .fc g x y => .fc g (AV.swL a b x) (AV.swL a b y)
  | .d x => .d x
  | .fn dom h => .fn dom h
  | .un => .un
def AV.swL (a b : Nat) : List AV → List AV
  | [] => []
  | x :: r => x.sw a b :: AV.swL a b r
end

def OB.sw (a b : Nat) : OB → OB
  | .ds cs => .ds cs
  | .av cs => .av (AV.swL a b cs)
  | .dead => .dead

def swS (a b : Nat) : List (Nat × AV) → List (Nat × AV)
  | [] => []
  | (t, x) :: r => (t, x.sw a b) :: swS a b r

def swO (a b : Nat) : List (Nat × OB) → List (Nat × OB)
  | [] => []
  | (s, o) :: r => (swp a b s, o.sw a b) :: swO a b r

/-- Two names change places. -/
def St.sw (a b : Nat) (σ : St) : St := { n := σ.n, sl := swS a b σ.sl, ob := swO a b σ.ob }

def St.sws : List (Nat × Nat) → St → St
  | [], σ => σ
  | (a, b) :: r, σ => St.sws r (σ.sw a b)

def swsO : List (Nat × Nat) → List (Nat × OB) → List (Nat × OB)
  | [], ob => ob
  | (a, b) :: r, ob => swsO r (swO a b ob)

def swsA : List (Nat × Nat) → AV → AV
  | [], x => x
  | (a, b) :: r, x => swsA r (x.sw a b)

section
variable {P : Program} {w0 : Env} {w w' : World} {σ : St} {ν : Loc} {a : Act} {m n : Nat}

theorem swp_swp (a b s : Nat) : swp a b (swp a b s) = s := by
  unfold swp
  by_cases h1 : s = a
  · subst h1
    rw [if_pos rfl]
    by_cases h2 : b = s
    · rw [if_pos h2, h2]
    · rw [if_neg h2, if_pos rfl]
  · rw [if_neg h1]
    by_cases h2 : s = b
    · subst h2
      rw [if_pos rfl, if_pos rfl]
    · rw [if_neg h2, if_neg h1, if_neg h2]

theorem swp_ne {a b s : Nat} (h1 : s ≠ a) (h2 : s ≠ b) : swp a b s = s := by
  unfold swp
  rw [if_neg h1, if_neg h2]

theorem look_sw (sl : List (Nat × AV)) (t : Nat) : look (swS m n sl) t = (look sl t).sw m n := by
  induction sl with
  | nil => simp [swS, look, AV.sw]
  | cons p r ih =>
    obtain ⟨k, x⟩ := p
    simp only [swS, look]
    by_cases h : k = t
    · rw [if_pos h, if_pos h]
    · rw [if_neg h, if_neg h, ih]

theorem lookO_sw {ob : List (Nat × OB)} {s : Nat} {o : OB} (h : lookO (swO m n ob) s = some o) : ∃ o1, lookO ob (swp m n s) = some o1 ∧ o = o1.sw m n := by
  induction ob with
  | nil => simp [swO, lookO] at h
  | cons p r ih =>
    obtain ⟨k, x⟩ := p
    simp only [swO, lookO] at h ⊢
    by_cases e : swp m n k = s
    · rw [if_pos e] at h
      have e2 : k = swp m n s := by rw [← e, swp_swp]
      rw [if_pos e2]
      cases x with
      | dead => simp [OB.sw] at h
      | ds cs => simp only [OB.sw, Option.some.injEq] at h; exact ⟨_, rfl, h.symm⟩
      | av cs => simp only [OB.sw, Option.some.injEq] at h; exact ⟨_, rfl, h.symm⟩
    · rw [if_neg e] at h
      have e2 : ¬ k = swp m n s := fun e2 => e (by rw [e2, swp_swp])
      rw [if_neg e2]
      exact ih h

theorem lookO_sw_of {ob : List (Nat × OB)} {s : Nat} {o : OB} (h : lookO ob s = some o) : lookO (swO m n ob) (swp m n s) = some (o.sw m n) := by
  induction ob with
  | nil => simp [lookO] at h
  | cons p r ih =>
    obtain ⟨k, x⟩ := p
    simp only [swO, lookO] at h ⊢
    by_cases e : k = s
    · rw [if_pos e] at h
      rw [if_pos (by rw [e])]
      cases x with
      | dead => simp at h
      | ds cs => simp only [Option.some.injEq] at h; subst h; rfl
      | av cs => simp only [Option.some.injEq] at h; subst h; rfl
    · rw [if_neg e] at h
      have e2 : ¬ swp m n k = swp m n s := fun e2 => e (by have := congrArg (swp m n) e2; rwa [swp_swp, swp_swp] at this)
      rw [if_neg e2]
      exact ih h

theorem swL_d : ∀ cs : List D, AV.swL m n (cs.map AV.d) = cs.map AV.d
  | [] => rfl
  | c :: cs => by simp only [List.map_cons, AV.swL, AV.sw, swL_d cs]

theorem swL_length : ∀ cs : List AV, (AV.swL m n cs).length = cs.length
  | [] => rfl
  | c :: cs => by simp only [AV.swL, List.length_cons, swL_length cs]

theorem cells_sw (o : OB) : obCells (o.sw m n) = AV.swL m n (obCells o) := by
  cases o with
  | ds cs => simp only [OB.sw, obCells, swL_d]
  | av cs => simp only [OB.sw, obCells]
  | dead => simp only [OB.sw, obCells, AV.swL]

theorem avoid_sw {ob : List (Nat × OB)} {b : Nat} (h : AvoidB ob ν b) : AvoidB (swO m n ob) (fun s => ν (swp m n s)) b := fun s o hs x hx => by
  obtain ⟨o1, h1, _⟩ := lookO_sw hs
  exact h _ o1 h1 x hx

mutual
theorem VR.sw {ob : List (Nat × OB)} : ∀ {x : AV} {y : Value}, VR P w0 w ob ν x y → VR P w0 w (swO m n ob) (fun s => ν (swp m n s)) (x.sw m n) y
  | .d x, y, h => by
    simp only [AV.sw, VR] at h ⊢
    obtain ⟨bs, h1, h2⟩ := h
    exact ⟨bs, h1, fun b hb => ⟨(h2 b hb).1, avoid_sw (h2 b hb).2.1, (h2 b hb).2.2⟩⟩
  | .bp s o, y, h => by
    simp only [AV.sw, VR, swp_swp] at h ⊢
    intro hs
    obtain ⟨o1, hs⟩ := Option.isSome_iff_exists.1 hs
    obtain ⟨o2, h1, _⟩ := lookO_sw hs
    rw [swp_swp] at h1
    exact h (by rw [h1]; rfl)
  | .bs s off k l, y, h => by
    simp only [AV.sw, VR, swp_swp] at h ⊢
    intro hs
    obtain ⟨o1, hs⟩ := Option.isSome_iff_exists.1 hs
    obtain ⟨o2, h1, _⟩ := lookO_sw hs
    rw [swp_swp] at h1
    obtain ⟨h2, h3⟩ := h (by rw [h1]; rfl)
    refine ⟨fun o ho => ?_, h3⟩
    obtain ⟨o3, h4, rfl⟩ := lookO_sw ho
    rw [swp_swp] at h4
    rw [cells_sw, swL_length]
    exact h2 o3 h4
  | .ag cs, y, h => by
    simp only [AV.sw, VR] at h ⊢
    obtain ⟨xs, h1, h0, h2⟩ := h
    exact ⟨xs, h1, h0, VRs.sw h2⟩
  | .tu cs, y, h => by
    simp only [AV.sw, VR] at h ⊢
    obtain ⟨xs, h1, h2⟩ := h
    exact ⟨xs, h1, VRs.sw h2⟩
  | .fn dom k, y, h => by
    simp only [AV.sw, VR] at h ⊢
    exact h
  | .fc g l1 l2, y, h => by
    simp only [AV.sw, VR] at h ⊢
    obtain ⟨xs, ys, h1, h2, h3⟩ := h
    exact ⟨xs, ys, h1, VRs.sw h2, VRs.sw h3⟩
  | .un, y, h => by simp only [AV.sw, VR]
theorem VRs.sw {ob : List (Nat × OB)} : ∀ {xs : List AV} {ys : List Value}, VRs P w0 w ob ν xs ys → VRs P w0 w (swO m n ob) (fun s => ν (swp m n s)) (AV.swL m n xs) ys
  | [], ys, h => by simp only [AV.swL, VRs] at h ⊢; exact h
  | x :: xs, ys, h => by
    simp only [AV.swL, VRs] at h ⊢
    obtain ⟨y, ys', h1, h2, h3⟩ := h
    exact ⟨y, ys', h1, VR.sw h2, VRs.sw h3⟩
end

theorem Mem.env {E : Env} {ob : List (Nat × OB)} (h : Mem P w0 w ob ν) (hs : ∀ b, E.S b → w0.S b) (hd : ∀ b, w0.D b → E.D b) (hk : ∀ w', Keep E.S E.w w' → Keep w0.S w0.w w') : Mem P E w ob ν := by
  refine ⟨fun s o ho => ?_, h.inj⟩
  rcases h.objs s o ho with q | ⟨b, base, c, T, xs, q1, q2, q3, q4, q5, q6⟩
  · exact .inl q
  · exact .inr ⟨b, base, c, T, xs, q1, ⟨fun hb => q2.1 (hs b hb), hd b q2.2⟩, q3, q4, q5, VRs.into (fun _ _ h => h) (fun b _ _ h => hd b h) hk q6⟩

theorem Mem.sw {ob : List (Nat × OB)} (h : Mem P w0 w ob ν) : Mem P w0 w (swO m n ob) (fun s => ν (swp m n s)) := by
  refine ⟨fun s o hs => ?_, fun s s' o o' x x' hne h1 h2 h3 h4 => ?_⟩
  · obtain ⟨o1, h1, rfl⟩ := lookO_sw hs
    rcases h.objs _ o1 h1 with ⟨g1, g2⟩ | ⟨b, base, c, T, xs, g1, g2, g3, g4, g5, g6⟩
    · exact .inl ⟨g1, by rw [cells_sw, g2]; rfl⟩
    · exact .inr ⟨b, base, c, T, xs, g1, g2, g3, g4, g5, by rw [cells_sw]; exact VRs.sw g6⟩
  · obtain ⟨o1, g1, _⟩ := lookO_sw h1
    obtain ⟨o2, g2, _⟩ := lookO_sw h2
    exact h.inj _ _ o1 o2 x x' (fun e => hne (by have := congrArg (swp m n) e; rwa [swp_swp, swp_swp] at this)) g1 g2 h3 h4

theorem Sim.sw (h : Sim P w0 σ ν a w) (hm : m < σ.n) (hn : n < σ.n) : Sim P w0 (σ.sw m n) (fun s => ν (swp m n s)) a w := by
  refine ⟨h.toMem.sw, h.below, h.rows, h.lt, h.fresh, h.le, fun s hs => ?_, h.defers, h.size, fun t => ?_⟩
  · have hle := h.le
    rw [swp_ne (by omega) (by omega)]
    exact h.stab s hs
  · show VR P w0 w (swO m n σ.ob) _ (look (swS m n σ.sl) t) _
    rw [look_sw]
    exact VR.sw (h.slots t)

def okSw (n : Nat) : List (Nat × Nat) → Bool
  | [] => true
  | (a, b) :: r => decide (a < n) && decide (b < n) && okSw n r

/-- The second view knows no more than the first, names turned. -/
def LessW (σ τ : St) : Prop := ∃ ps, okSw σ.n ps = true ∧ Less (σ.sws ps) τ

theorem Sim.sws : ∀ (ps : List (Nat × Nat)) {σ : St} {ν : Loc}, Sim P w0 σ ν a w → okSw σ.n ps = true → ∃ ν', Sim P w0 (σ.sws ps) ν' a w
  | [], _, ν, h, _ => ⟨ν, h⟩
  | (x, y) :: r, σ, ν, h, ho => by
    simp only [okSw, Bool.and_eq_true, decide_eq_true_eq] at ho
    exact Sim.sws r (h.sw ho.1.1 ho.1.2) ho.2

theorem Sim.lessW (h : Sim P w0 σ ν a w) {τ : St} (hl : LessW σ τ) : ∃ ν', Sim P w0 τ ν' a w := by
  obtain ⟨ps, h1, h2⟩ := hl
  obtain ⟨ν', h3⟩ := Sim.sws ps h h1
  exact ⟨ν', h3.less h2⟩

theorem aw_lessW {c : Code} {τ : St} {Q : Exit → St → Prop} (hl : LessW σ τ) (h : AW P c Q τ) : AW P c Q σ := fun w0 ν a w hs => by
  obtain ⟨ν', h1⟩ := hs.lessW hl
  exact h w0 ν' a w h1

/-- A LOOP: a family of views, one for each state of the loop; the measure sinks. -/
theorem aw_loopW {c : Code} {Q : Exit → St → Prop} {α : Type} (I : α → St) (ok : α → Prop) (μ : α → Nat) (i0 : α) (h0 : ok i0) (hl : LessW σ (I i0))
    (hr : ∀ i, ok i → AW P c (Kx (fun σ' => ∃ j, ok j ∧ μ j < μ i ∧ LessW σ' (I j)) Q) (I i)) : AW P (.loop c) Q σ := fun w0 ν a w hs => by
  have key : ∀ n i ν a w, μ i < n → ok i → Sim P w0 (I i) ν a w → Code.rounds P c (fun e a' w' => ∃ σ' ν', Q e σ' ∧ Sim P w0 σ' ν' a' w') n a w := by
    intro n
    induction n with
    | zero => intro i ν a w h; omega
    | succ n ih =>
      intro i ν a w hlt hi hs
      rw [rounds_succ]
      refine Code.wp_mono (fun e a' w' hh => ?_) (hr i hi w0 ν a w hs)
      obtain ⟨σ', ν', q, s⟩ := hh
      cases e with
      | normal =>
        obtain ⟨j, hj, hlt2, hless⟩ := q
        obtain ⟨ν2, s2⟩ := s.lessW hless
        exact ih j ν2 a' w' (by omega) hj s2
      | _ => exact ⟨σ', ν', q, s⟩
  obtain ⟨ν2, s2⟩ := hs.lessW hl
  exact wp_loop_rounds _ (key (μ i0 + 1) i0 ν2 a w (by omega) h0 s2)

def dropS (ws : List Nat) : List (Nat × AV) → List (Nat × AV)
  | [] => []
  | (t, x) :: r => bif ws.elem t then dropS ws r else (t, x) :: dropS ws r

def dropOs (ws : List Nat) : List (Nat × OB) → List (Nat × OB)
  | [] => []
  | (t, x) :: r => bif ws.elem t then dropOs ws r else (t, x) :: dropOs ws r

/-- The view with some slots and objects anew. -/
def St.upd (σ : St) (ws : List Nat) (sl : List (Nat × AV)) (os : List Nat) (ob : List (Nat × OB)) : St := { n := σ.n, sl := sl ++ dropS ws σ.sl, ob := ob ++ dropOs os σ.ob }

/-- A loop: the slots ws and the objects os turn, all else stays. -/
theorem aw_loopU (ws os : List Nat) {c : Code} {Q : Exit → St → Prop} {α : Type} (f : α → List (Nat × AV)) (g : α → List (Nat × OB)) (ok : α → Prop) (μ : α → Nat) (i0 : α) (h0 : ok i0) (hl : LessW σ (σ.upd ws (f i0) os (g i0)))
    (hr : ∀ i, ok i → AW P c (Kx (fun σ' => ∃ j, ok j ∧ μ j < μ i ∧ LessW σ' (σ.upd ws (f j) os (g j))) Q) (σ.upd ws (f i) os (g i))) : AW P (.loop c) Q σ :=
  aw_loopW (fun i => σ.upd ws (f i) os (g i)) ok μ i0 h0 hl hr

theorem lessW_of {τ : St} (ps : List (Nat × Nat)) (h1 : okSw σ.n ps = true) (h2 : Less (σ.sws ps) τ) : LessW σ τ := ⟨ps, h1, h2⟩

/- A function that is handed objects. -/
def slotsA : Nat → List AV → List (Nat × AV)
  | _, [] => []
  | i, c :: cs => (i, c) :: slotsA (i + 1) cs

def geAll (n : Nat) : List (Nat × OB) → Bool
  | [] => true
  | (s, _) :: r => decide (n ≤ s) && geAll n r

def offSw (ob : List (Nat × OB)) : List (Nat × Nat) → Bool
  | [] => true
  | (a, b) :: r => ob.all (fun p => !(p.1 == a) && !(p.1 == b)) && offSw ob r

def lensO (ob : List (Nat × OB)) : List (Nat × OB) → Prop
  | [] => True
  | (s, o') :: r => (match lookO ob s with | some o => (obCells o').length = (obCells o).length | none => True) ∧ lensO ob r

/-- What comes back of a function that was handed the objects ob. -/
def ResS (P : Program) (rs : List ResultVar) (σ : St) (ob ob' : List (Nat × OB)) (res : AV) : Prop :=
  rs.length ≤ 3 ∧ lensO ob ob' ∧ ∃ ps, offSw ob ps = true ∧ SubO (swsO ps σ.ob) ob' ∧ match resAVs P σ rs with
    | some (p, xs) => p ∧ swsA ps (joinR xs) = res
    | none => False

theorem lensO_spec {ob : List (Nat × OB)} {s : Nat} {o o' : OB} (ho : lookO ob s = some o) : ∀ {r : List (Nat × OB)}, lensO ob r → lookO r s = some o' → (obCells o').length = (obCells o).length
  | [], _, h => by simp [lookO] at h
  | (k, x) :: r, hl, h => by
    simp only [lensO] at hl
    simp only [lookO] at h
    by_cases e : k = s
    · subst e
      rw [if_pos rfl] at h
      rw [ho] at hl
      have : x = o' := by
        split at h
        · cases h
        · exact Option.some.inj h
      rw [← this]
      exact hl.1
    · rw [if_neg e] at h
      exact lensO_spec ho hl.2 h

theorem slotsA_sound {ob : List (Nat × OB)} : ∀ {cs : List AV} {vs : List Value} (i t : Nat), VRs P w0 w ob ν cs vs → VR P w0 w ob ν (look (slotsA i cs) t) (if i ≤ t then vs.getD (t - i) undef else undef)
  | [], vs, i, t, _ => by simp only [slotsA, look, VR]
  | c :: cs, vs, i, t, h => by
    simp only [VRs] at h
    obtain ⟨v, vs', rfl, h1, h2⟩ := h
    simp only [slotsA, look]
    by_cases e : i = t
    · subst e
      rw [if_pos rfl, if_pos (Nat.le_refl _)]
      simp only [Nat.sub_self, List.getD_cons_zero]
      exact h1
    · rw [if_neg e]
      have := slotsA_sound (i + 1) t h2
      by_cases hle : i ≤ t
      · rw [if_pos hle]
        rw [if_pos (by omega)] at this
        have e2 : t - i = (t - (i + 1)) + 1 := by omega
        rw [e2, List.getD_cons_succ]
        exact this
      · rw [if_neg hle]
        rw [if_neg (by omega)] at this
        exact this

theorem geAll_spec {s : Nat} {o : OB} : ∀ {ob : List (Nat × OB)}, geAll n ob = true → (s, o) ∈ ob → n ≤ s
  | [], _, h => by simp at h
  | (k, x) :: r, hg, h => by
    simp only [geAll, Bool.and_eq_true, decide_eq_true_eq] at hg
    rcases List.mem_cons.1 h with e | h
    · cases e; exact hg.1
    · exact geAll_spec hg.2 h

theorem swsX {E : Env} : ∀ (ps : List (Nat × Nat)) {ob : List (Nat × OB)} {ν : Loc} {x : AV} {v : Value}, Mem P E w ob ν → VR P E w ob ν x v →
    ∃ ν', Mem P E w (swsO ps ob) ν' ∧ VR P E w (swsO ps ob) ν' (swsA ps x) v ∧ ∀ s, (∀ p ∈ ps, s ≠ p.1 ∧ s ≠ p.2) → ν' s = ν s
  | [], ob, ν, x, v, h1, h2 => ⟨ν, h1, h2, fun _ _ => rfl⟩
  | (y, z) :: r, ob, ν, x, v, h1, h2 => by
    obtain ⟨ν', g1, g2, g3⟩ := swsX r (h1.sw (m := y) (n := z)) (VR.sw h2)
    refine ⟨ν', g1, g2, fun s hs => ?_⟩
    rw [g3 s (fun p hp => hs p (List.mem_cons_of_mem _ hp))]
    have := hs (y, z) (by simp)
    rw [swp_ne this.1 this.2]

theorem offSw_spec {ob : List (Nat × OB)} {s : Nat} {o : OB} (hm : (s, o) ∈ ob) : ∀ {ps : List (Nat × Nat)}, offSw ob ps = true → ∀ p ∈ ps, s ≠ p.1 ∧ s ≠ p.2
  | [], _, p, hp => by simp at hp
  | (a, b) :: r, h, p, hp => by
    simp only [offSw, Bool.and_eq_true, List.all_eq_true] at h
    rcases List.mem_cons.1 hp with rfl | hp
    · have := h.1 _ hm
      simpa using this
    · exact offSw_spec hm h.2 p hp

theorem VR.envn {w1 : World} {S Dt : Nat → Prop} {ν1 : Loc} {k k' : Nat} {ob ob1 : List (Nat × OB)} {x : AV} {y : Value} (h : VR P ⟨w1, S, Dt, ν1, k⟩ w ob ν x y) (hsub : ∀ s o, lookO ob1 s = some o → lookO ob s = some o) : VR P ⟨w1, S, Dt, ν1, k'⟩ w ob1 ν x y :=
  VR.into (w0 := ⟨w1, S, Dt, ν1, k⟩) (E := ⟨w1, S, Dt, ν1, k'⟩) hsub (fun _ _ _ h => h) (fun _ h => h) h

theorem VRs.envn {w1 : World} {S Dt : Nat → Prop} {ν1 : Loc} {k k' : Nat} {ob ob1 : List (Nat × OB)} {x : List AV} {y : List Value} (h : VRs P ⟨w1, S, Dt, ν1, k⟩ w ob ν x y) (hsub : ∀ s o, lookO ob1 s = some o → lookO ob s = some o) : VRs P ⟨w1, S, Dt, ν1, k'⟩ w ob1 ν x y :=
  VRs.into (w0 := ⟨w1, S, Dt, ν1, k⟩) (E := ⟨w1, S, Dt, ν1, k'⟩) hsub (fun _ _ _ h => h) (fun _ h => h) h

/-- A FUNCTION KEEPS ITS CONTRACT if its body does, seen through the view. -/
theorem fns_of_aw {f : FuncId} {fn : Func} {c : Code} {args : List AV} {ob ob' : List (Nat × OB)} {res : AV} (hf : P.funcs[f]? = some fn) (hb : fn.body = some c) (hname : (fn.name == "runtime.NumGoroutine") = false) (hn : args.length ≤ fn.ntmps) (hge : geAll fn.ntmps ob = true)
    (h : AW P c (fun e σ => (e = .ret ∨ e = .normal) ∧ ResS P fn.results.toList σ ob ob' res) ⟨fn.ntmps, slotsA 0 args, ob⟩) : FnS P f ob args ob' res := by
  refine ⟨⟨fn, hf, by rw [hb]; rfl, hname⟩, fun w ν Dt vs hDt hm hv => ?_⟩
  have hlen := hv.length
  refine calls_of_wp hf hb (Code.wp_mono (fun e a' w' hh => ?_) (h ⟨w, fun b => b < w.heap.size ∧ AvoidB ob ν b, Dt, ν, fn.ntmps⟩ ν _ w ?_))
  · obtain ⟨σ', ν', ⟨he, hr⟩, hs⟩ := hh
    obtain ⟨hl, hlens, ps, hoff, hso, hr⟩ := hr
    split at hr
    · rename_i p xs hx
      obtain ⟨hp, rfl⟩ := hr
      obtain ⟨v, h4, h5⟩ := res_vals hs hl hx hp
      obtain ⟨ν2, g1, g2, g3⟩ := swsX ps hs.toMem h5
      have hsub : ∀ s o, lookO ob' s = some o → lookO (swsO ps σ'.ob) s = some o := subO_look hso
      have g1' : Mem P ⟨w, fun b => b < w.heap.size ∧ AvoidB ob ν b, Dt, ν, 0⟩ w' ob' ν2 := by
        refine ⟨fun s o ho => ?_, fun s s' o o' x x' hne e1 e2 => g1.inj s s' o o' x x' hne (hsub s o e1) (hsub s' o' e2)⟩
        rcases g1.objs s o (hsub s o ho) with q | ⟨b, base, c, T, xs, q1, q2, q3, q4, q5, q6⟩
        · exact .inl q
        · exact .inr ⟨b, base, c, T, xs, q1, q2, q3, q4, q5, VRs.envn q6 hsub⟩
      have hfin : ∀ s o o', lookO ob s = some o → lookO ob' s = some o' → ν2 s = ν s ∧ (obCells o').length = (obCells o).length := fun s o o' e1 e2 => by
        refine ⟨?_, lensO_spec e1 hlens e2⟩
        rw [g3 s (offSw_spec (lookO_mem e1) hoff)]
        exact hs.stab s (geAll_spec hge (lookO_mem e1))
      have hres : VR P ⟨w, fun b => b < w.heap.size ∧ AvoidB ob ν b, Dt, ν, 0⟩ w' ob' ν2 (swsA ps (joinR xs)) v := VR.envn g2 hsub
      rcases he with rfl | rfl
      · exact ⟨hs.defers, v, h4, v, ν2, rfl, hs.below, hs.rows, g1', hres, hfin⟩
      · exact ⟨hs.defers, v, h4, v, ν2, rfl, hs.below, hs.rows, g1', hres, hfin⟩
    · exact hr.elim
  · refine ⟨hm.env (fun _ h => h) (fun _ h => h) (fun _ h => h), Keep.refl _ _, Rows.refl _, fun b hb => hb.1, hDt, Nat.le_refl _, fun _ _ => rfl, rfl, by simp; omega, fun t => ?_⟩
    have := slotsA_sound 0 t (VRs.envn (k' := fn.ntmps) hv (fun _ _ h => h))
    rw [if_pos (Nat.zero_le _)] at this
    have e : (vs.toArray ++ Array.replicate (fn.ntmps - vs.toArray.size) undef).getD t undef = vs.getD (t - 0) undef := by
      simp only [Array.getD_eq_getD_getElem?, Nat.sub_zero, List.getD_eq_getElem?_getD, Array.getElem?_append, List.getElem?_toArray, List.size_toArray]
      by_cases hlt : t < vs.length
      · rw [if_pos hlt]
      · rw [if_neg hlt, List.getElem?_eq_none (by omega)]
        simp only [Array.getElem?_replicate]
        split <;> rfl
    rw [e]
    exact this

/-- A function's end. -/
def PostS (P : Program) (rs : List ResultVar) (ob ob' : List (Nat × OB)) (res : AV) : Exit → St → Prop
  | .ret, σ => ResS P rs σ ob ob' res
  | .normal, σ => ResS P rs σ ob ob' res
  | _, _ => False

theorem ps_r {rs : List ResultVar} {ob ob' : List (Nat × OB)} {res : AV} : PostS P rs ob ob' res .ret σ = ResS P rs σ ob ob' res := rfl

theorem ps_n {rs : List ResultVar} {ob ob' : List (Nat × OB)} {res : AV} : PostS P rs ob ob' res .normal σ = ResS P rs σ ob ob' res := rfl

theorem fns_go {f : FuncId} {fn : Func} {c : Code} {args : List AV} {ob ob' : List (Nat × OB)} {res : AV} {n : Nat} {sl : List (Nat × AV)} {rs : List ResultVar} (hf : P.funcs[f]? = some fn) (hb : fn.body = some c) (hname : (fn.name == "runtime.NumGoroutine") = false)
    (hn : fn.ntmps = n) (hr : fn.results = rs.toArray) (hsl : slotsA 0 args = sl) (hle : args.length ≤ n) (hge : geAll n ob = true) (h : AW P c (PostS P rs ob ob' res) ⟨n, sl, ob⟩) : FnS P f ob args ob' res := by
  subst hn hsl
  refine fns_of_aw hf hb hname hle hge (aw_mono (fun e σ q => ?_) h)
  rw [hr]
  cases e <;> first | exact ⟨.inl rfl, q⟩ | exact ⟨.inr rfl, q⟩ | exact q.elim

theorem argsS_refl {ob : List (Nat × OB)} {β : Bool} : ∀ {xs : List AV}, ArgsS σ ob β xs xs
  | [] => by simp only [ArgsS]
  | x :: xs => by
    simp only [ArgsS]
    exact ⟨x, xs, rfl, .inl rfl, argsS_refl⟩

/-- A call that is handed objects. -/
theorem call_s {K : St → Prop} {dst : Option Nat} {g : FuncId} {first cap args cas : List AV} {ob ob' : List (Nat × OB)} {res : AV} (hc : FnS P g ob cas ob' res) (ha : first ++ args ++ cap = cas) (hso : SubO σ.ob ob) (hlt : ltAll σ.n (newN ob ob') = true) (hap : apartO (dropO σ.ob ob) ob' res = true)
    (hk : K (σ.after ob ob' dst res)) : CallOk P false σ dst (.fc g first cap) args K :=
  .inr (.inl ⟨rfl, ob, cas, ob', res, false, hc, by rw [ha]; exact argsS_refl, (fun e => by cases e), hso, hlt, hap, hk⟩)

/-- The same, where some arguments are data that the frame's own objects read as. -/
theorem call_b {K : St → Prop} {dst : Option Nat} {g : FuncId} {first cap args cas : List AV} {ob ob' : List (Nat × OB)} {res : AV} (hc : FnS P g ob cas ob' res) (ha : ArgsS σ ob true (first ++ args ++ cap) cas) (hso : SubO σ.ob ob) (hlt : ltAll σ.n (newN ob ob') = true) (hap : apartO (dropO σ.ob ob) ob' res = true)
    (hpo : plainOs ob') (hpr : res.plain) (hk : K (σ.after ob ob' dst res)) : CallOk P false σ dst (.fc g first cap) args K :=
  .inr (.inl ⟨rfl, ob, cas, ob', res, true, hc, ha, (fun _ => ⟨hpo, hpr⟩), hso, hlt, hap, hk⟩)

end

end Go.Proofs.Ytdinkfmkhdnbpaa
