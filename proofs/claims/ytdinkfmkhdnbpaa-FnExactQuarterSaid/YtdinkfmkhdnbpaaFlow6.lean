/- How a frame that fits its abstract view is turned: slots, new objects, calls. -/
import Derived.Test.YtdinkfmkhdnbpaaFlow5
import Derived.WalkKit
import Derived.WalkSpells
namespace Go.Proofs.Ytdinkfmkhdnbpaa
open Go.RowKit
set_option linter.unusedVariables false
set_option linter.unusedSimpArgs false

theorem look_put (sl : List (Nat × AV)) (t : Nat) (x : AV) (t' : Nat) : look (put sl t x) t' = if t' = t then x else look sl t' := by
  induction sl with
  | nil =>
    simp only [put, look]
    by_cases h : t = t'
    · simp [h]
    · rw [if_neg h, if_neg (fun e => h e.symm)]
  | cons p r ih =>
    obtain ⟨k, y⟩ := p
    simp only [put]
    by_cases h : k = t
    · subst h
      simp only [if_true, look]
      by_cases h' : k = t'
      · simp [h']
      · rw [if_neg h', if_neg h', if_neg (fun e => h' e.symm)]
    · rw [if_neg h]
      simp only [look, ih]
      by_cases h' : k = t'
      · subst h'
        rw [if_pos rfl, if_pos rfl, if_neg h]
      · rw [if_neg h', if_neg h']

theorem look_kill (s : Nat) (sl : List (Nat × AV)) (t : Nat) : look (killS s sl) t = if (look sl t).refs s then .un else look sl t := by
  induction sl with
  | nil => simp [killS, look, AV.refs]
  | cons p r ih =>
    obtain ⟨k, y⟩ := p
    simp only [killS, look]
    by_cases h : k = t
    · simp [h]
    · simp only [if_neg h, ih]

theorem lookO_ne {ob : List (Nat × OB)} {t : Nat} {o : OB} (h : lookO ob t = some o) : o ≠ .dead := by
  induction ob with
  | nil => simp [lookO] at h
  | cons p r ih =>
    obtain ⟨k, y⟩ := p
    simp only [lookO] at h
    by_cases ht : k = t
    · rw [if_pos ht] at h
      cases y <;> simp_all
      all_goals (rw [← h]; simp)
    · rw [if_neg ht] at h
      exact ih h

theorem lookO_kill {s : Nat} {ob : List (Nat × OB)} {t : Nat} {o : OB} (h : lookO (killO s ob) t = some o) : t ≠ s ∧ lookO ob t = some o ∧ o.refs s = false := by
  induction ob with
  | nil => simp [killO, lookO] at h
  | cons p r ih =>
    obtain ⟨k, y⟩ := p
    simp only [killO] at h
    by_cases hk : k = s
    · rw [if_pos hk] at h
      obtain ⟨h1, h2, h3⟩ := ih h
      refine ⟨h1, ?_, h3⟩
      simp only [lookO]
      rw [if_neg (fun e => h1 (e.symm.trans hk))]
      exact h2
    · rw [if_neg hk] at h
      simp only [lookO] at h ⊢
      by_cases ht : k = t
      · subst ht
        rw [if_pos rfl] at h ⊢
        refine ⟨hk, ?_, ?_⟩
        · by_cases hr : y.refs s = true
          · simp [hr] at h
          · simpa [hr] using h
        · by_cases hr : y.refs s = true
          · simp [hr] at h
          · have hy : o = y := by
              cases y <;> simp_all
            rw [hy]; simpa using hr
      · rw [if_neg ht] at h ⊢
        exact ih h

theorem lookO_del {ob : List (Nat × OB)} {b t : Nat} {o : OB} (h : lookO (delO ob b) t = some o) : t ≠ b ∧ lookO ob t = some o := by
  induction ob with
  | nil => simp [delO, lookO] at h
  | cons p r ih =>
    obtain ⟨k, y⟩ := p
    simp only [delO] at h
    by_cases hk : k = b
    · rw [if_pos hk] at h
      simp only [lookO] at h
      by_cases ht : k = t
      · rw [if_pos ht] at h; simp at h
      · rw [if_neg ht] at h
        obtain ⟨h1, h2⟩ := ih h
        refine ⟨h1, ?_⟩
        simp only [lookO]
        rw [if_neg ht]
        exact h2
    · rw [if_neg hk] at h
      simp only [lookO] at h ⊢
      by_cases ht : k = t
      · subst ht
        rw [if_pos rfl] at h ⊢
        exact ⟨hk, h⟩
      · rw [if_neg ht] at h ⊢
        exact ih h

theorem lookO_put {ob : List (Nat × OB)} {s t : Nat} {o : OB} (ho : o ≠ .dead) : lookO (putO ob s o) t = if t = s then some o else lookO ob t := by
  have hm : (match o with | .dead => none | x => some x) = some o := by cases o <;> first | rfl | exact absurd rfl ho
  induction ob with
  | nil =>
    simp only [putO, lookO]
    by_cases h : s = t
    · rw [if_pos h, if_pos h.symm]; try exact hm
    · rw [if_neg h, if_neg (fun e => h e.symm)]
  | cons p r ih =>
    obtain ⟨k, y⟩ := p
    simp only [putO]
    by_cases h : k = s
    · subst h
      simp only [if_true, lookO]
      by_cases h' : k = t
      · rw [if_pos h', if_pos h'.symm]; try exact hm
      · rw [if_neg h', if_neg h', if_neg (fun e => h' e.symm)]
    · rw [if_neg h]
      simp only [lookO]
      by_cases h' : k = t
      · subst h'
        rw [if_pos rfl, if_pos rfl, if_neg h]
      · rw [if_neg h', if_neg h', ih]

section
variable {P : Program} {w0 : Env} {w w' : World} {σ σ' : St} {ν ν' : Loc} {a : Act}

theorem tmps_put (a : Act) (t : Nat) (v : Value) (ht : t < a.tmps.size) (t' : Nat) : (a.put (some t) v).tmps.getD t' undef = if t' = t then v else a.tmps.getD t' undef := by
  simp only [Act.put, Array.getD_eq_getD_getElem?, Array.getElem?_setIfInBounds]
  by_cases h : t = t'
  · subst h
    simp [ht]
  · rw [if_neg h, if_neg (fun e => h e.symm)]

theorem size_put (a : Act) (t : Nat) (v : Value) : (a.put (some t) v).tmps.size = a.tmps.size := by simp [Act.put]

/-- A slot is written. -/
theorem Sim.put (h : Sim P w0 σ ν a w) {t : Nat} (ht : t < σ.n) {x : AV} {v : Value} (hv : VR P w0 w σ.ob ν x v) : Sim P w0 (σ.put t x) ν (a.put (some t) v) w := by
  refine ⟨h.toMem, h.below, h.rows, h.lt, h.fresh, h.le, h.stab, h.defers, (size_put a t v).trans h.size, fun t' => ?_⟩
  rw [tmps_put a t v (h.size ▸ ht)]
  show VR P w0 w σ.ob ν (look (Go.Proofs.Ytdinkfmkhdnbpaa.put σ.sl t x) t') _
  rw [look_put]
  split
  · exact hv
  · exact h.slots t'

theorem Sim.puto (h : Sim P w0 σ ν a w) {dst : Option Nat} (ht : ∀ t, dst = some t → t < σ.n) {x : AV} {v : Value} (hv : VR P w0 w σ.ob ν x v) : Sim P w0 (σ.puto dst x) ν (a.put dst v) w := by
  cases dst with
  | none => exact h
  | some t => exact h.put (ht t rfl) hv

/-- The world has grown, nothing that was there has turned. -/
theorem later_below (hb : Below w.heap.size w w') (ob : List (Nat × OB)) (ν : Loc) : Later ob ν w ob ν w' :=
  ⟨hb.size, fun b hb' ha => ⟨ha, hb.block b hb'⟩, fun b c T h => ⟨c, T, (hb.block b (Array.getElem?_eq_some_iff.1 h).1).trans h, rfl⟩⟩

theorem fits_refl (ob : List (Nat × OB)) (ν : Loc) (s : Nat) : Fits ob ν ob ν s := fun h => ⟨h, rfl, fun o o' h1 h2 => by rw [h1] at h2; cases h2; rfl⟩

theorem OR.later {s : Nat} {o : OB} (h : OR P w0 w σ.ob ν s o) (hl : Later σ.ob ν w σ'.ob ν' w') (hs : ν' s = ν s) (hr : ∀ s', AV.refsL s' (obCells o) = true → Fits σ.ob ν σ'.ob ν' s')
    (hk : ∀ b base, ν s = some (b, base) → w'.heap[b]? = w.heap[b]?) : OR P w0 w' σ'.ob ν' s o := by
  rcases h with ⟨h1, h2⟩ | ⟨b, base, c, T, xs, h1, h2, h3, h4, h0, h5⟩
  · exact .inl ⟨hs.trans h1, h2⟩
  · exact .inr ⟨b, base, c, T, xs, hs.trans h1, h2, (hk b base h1).trans h3, h4, h0, VRs.later hl h5 hr⟩

theorem Sim.keep (h : Sim P w0 σ ν a w) (hb : Below w.heap.size w w') : Keep w0.S w0.w w' :=
  h.below.trans (keep_below hb (fun k hk => Nat.lt_of_lt_of_le (h.lt k hk) h.below.size))

theorem rows_below (hb : Below w.heap.size w w') : Rows w w' := fun b c T h => ⟨c, T, (hb.block b (Array.getElem?_eq_some_iff.1 h).1).trans h, rfl⟩

/-- A new block is nobody's that must stay, and data may lie in it. -/
theorem Sim.newB (h : Sim P w0 σ ν a w) {b : Nat} (hb : w.heap.size ≤ b) : ¬ w0.S b ∧ w0.D b :=
  ⟨fun hs => by have := h.lt b hs; have := h.below.size; omega, h.fresh b (Nat.le_trans h.below.size hb)⟩

theorem Sim.grown (h : Sim P w0 σ ν a w) (hb : Below w.heap.size w w') : Sim P w0 σ ν a w' := by
  have hl := later_below hb σ.ob ν
  refine ⟨⟨fun s o ho => ?_, h.inj⟩, h.keep hb, h.rows.trans (rows_below hb), h.lt, h.fresh, h.le, h.stab, h.defers, h.size, fun t => VR.later hl (h.slots t) (fun s _ => fits_refl _ _ s)⟩
  refine (h.objs s o ho).later hl rfl (fun s' _ => fits_refl _ _ s') (fun b base hs => ?_)
  rcases h.objs s o ho with ⟨h1, _⟩ | ⟨b', base', c, T, xs, h1, h2, h3, h4, h5⟩
  · rw [h1] at hs; cases hs
  · rw [h1] at hs
    cases hs
    exact hb.block b (Array.getElem?_eq_some_iff.1 h3).1

/-- An object of the frame's own comes up in memory that nobody else holds (w' : the world has grown by it). -/
theorem Sim.new (h : Sim P w0 σ ν a w) (hb : Below w.heap.size w w') {s : Nat} (hs : s < σ.n) {o : OB} (ho : o ≠ .dead) {x : AV} {v : Value} {loc : Option (Nat × Nat)}
    (hloc : ∀ p, loc = some p → w.heap.size ≤ p.1)
    (hor : ∀ ob' ν', Later σ.ob ν w ob' ν' w' → (∀ s', s' ≠ s → Fits σ.ob ν ob' ν' s') → ν' s = loc → lookO ob' s = some o → OR P w0 w' ob' ν' s o ∧ VR P w0 w' ob' ν' x v) :
    ∃ ν', Sim P w0 (σ.new s o x) ν' (a.put (some s) v) w' := by
  have hm : ∀ r, lookO ((s, o) :: r) s = some o := fun r => by
    simp only [lookO, if_true]
  let ob' := (s, o) :: killO s σ.ob
  let ν' : Loc := fun t => if t = s then loc else ν t
  have hν : ∀ t, t ≠ s → ν' t = ν t := fun t ht => by simp only [ν']; rw [if_neg ht]
  have hνs : ν' s = loc := by simp [ν']
  have hlook : ∀ t o', lookO ob' t = some o' → (t = s ∧ o' = o) ∨ (t ≠ s ∧ lookO σ.ob t = some o' ∧ o'.refs s = false) := fun t o' ht => by
    by_cases hts : t = s
    · subst hts
      rw [show lookO ob' t = some o from hm _] at ht
      exact .inl ⟨rfl, (Option.some.inj ht).symm⟩
    · have : lookO ob' t = lookO (killO s σ.ob) t := by
        show lookO ((s, o) :: killO s σ.ob) t = _
        simp only [lookO]
        rw [if_neg (fun e => hts e.symm)]
      rw [this] at ht
      exact .inr (lookO_kill ht)
  have hl : Later σ.ob ν w ob' ν' w' := by
    refine ⟨hb.size, fun b hbl ha => ⟨fun t o' ht p hp => ?_, hb.block b hbl⟩, (later_below hb σ.ob ν).rows⟩
    rcases hlook t o' ht with ⟨rfl, _⟩ | ⟨h1, h2, _⟩
    · rw [hνs] at hp
      have := hloc p hp
      omega
    · rw [hν t h1] at hp
      exact ha t o' h2 p hp
  have hf : ∀ s', s' ≠ s → Fits σ.ob ν ob' ν' s' := fun s' hs' hsome => by
    obtain ⟨o', ho'⟩ := Option.isSome_iff_exists.1 hsome
    rcases hlook s' o' ho' with ⟨e, _⟩ | ⟨_, h2, _⟩
    · exact absurd e hs'
    · exact ⟨by rw [h2]; rfl, hν s' hs', fun o1 o2 g1 g2 => by
        rw [h2] at g1; rw [ho'] at g2; cases g1; cases g2; rfl⟩
  obtain ⟨hor1, hor2⟩ := hor ob' ν' hl hf hνs (hm _)
  refine ⟨ν', ⟨fun t o' ht => ?_, fun t t' o1 o2 p p' hne h1 h2 hp hp' => ?_⟩, h.keep hb, h.rows.trans (rows_below hb), h.lt, h.fresh, h.le, fun t ht => (hν t (fun e => by have := h.le; omega)).trans (h.stab t ht), h.defers, (size_put a s v).trans h.size, fun t => ?_⟩
  rotate_left 2
  · rw [tmps_put a s v (h.size ▸ hs)]
    show VR P w0 w' ob' ν' (look (Go.Proofs.Ytdinkfmkhdnbpaa.put (killS s σ.sl) s x) t) _
    rw [look_put]
    split
    · exact hor2
    · rw [look_kill]
      split
      · simp only [VR]
      · rename_i hr
        exact VR.later hl (h.slots t) (fun s' hs' => hf s' (fun e => hr (e ▸ hs')))
  · rcases hlook t o' ht with ⟨rfl, rfl⟩ | ⟨h1, h2, h3⟩
    · exact hor1
    · refine (h.objs t o' h2).later (σ' := ⟨0, [], ob'⟩) hl (hν t h1) (fun s' hs' => hf s' (fun e => ?_)) (fun b base hsb => ?_)
      · subst e
        have hne := lookO_ne h2
        cases o' <;> simp_all [obCells, OB.refs]
        rename_i cs
        have : ∀ cs : List D, AV.refsL s' (cs.map AV.d) = false := fun cs => by induction cs <;> simp_all [AV.refsL, AV.refs]
        rw [this] at hs'; cases hs'
      · rcases h.objs t o' h2 with ⟨h4, _⟩ | ⟨b', base', c, T, xs, h4, h5, h6, _⟩
        · rw [h4] at hsb; cases hsb
        · rw [h4] at hsb; cases hsb
          exact hb.block b (Array.getElem?_eq_some_iff.1 h6).1
  · have hlt : ∀ t o' p, t ≠ s → lookO σ.ob t = some o' → ν t = some p → p.1 < w.heap.size := fun t o' p _ h2 hp => by
      rcases h.objs t o' h2 with ⟨h4, _⟩ | ⟨b', base', c, T, xs, h4, h5, h6, _⟩
      · rw [h4] at hp; cases hp
      · rw [h4] at hp; cases hp
        exact (Array.getElem?_eq_some_iff.1 h6).1
    rcases hlook t o1 h1 with ⟨rfl, _⟩ | ⟨h3, h4, _⟩
    · rcases hlook t' o2 h2 with ⟨rfl, _⟩ | ⟨h5, h6, _⟩
      · exact absurd rfl hne
      · rw [hν t' h5] at hp'
        rw [hνs] at hp
        have := hloc p hp
        have := hlt t' o2 p' h5 h6 hp'
        omega
    · rcases hlook t' o2 h2 with ⟨rfl, _⟩ | ⟨h5, h6, _⟩
      · rw [hν t h3] at hp
        rw [hνs] at hp'
        have := hloc p' hp'
        have := hlt t o1 p h3 h4 hp
        omega
      · rw [hν t h3] at hp
        rw [hν t' h5] at hp'
        exact h.inj t t' o1 o2 p p' hne h4 h6 hp hp'
end

end Go.Proofs.Ytdinkfmkhdnbpaa
