/- What a call gives back, taken over whole, each list under a name of its own. -/
import Derived.Test.YtdinkfmkhdnbpaaFlow21
import Derived.WalkKit
import Derived.WalkSpells
namespace Go.Proofs.Ytdinkfmkhdnbpaa
open Go.RowKit
set_option linter.unusedVariables false
set_option linter.unusedSimpArgs false

section
variable {P : Program} {w0 : Env} {w w' : World} {σ : St} {ν : Loc} {a : Act} {m n : Nat}

theorem plainsD : ∀ {cs : List D}, plains cs → AV.plains (cs.map AV.d)
  | [], _ => by simp [AV.plains]
  | c :: cs, h => by
    simp only [plains] at h
    simp only [List.map_cons, AV.plains, AV.plain]
    exact ⟨h.1, plainsD h.2⟩

theorem nofnsD : ∀ (cs : List D), AV.nofns (cs.map AV.d) = true
  | [] => by simp [AV.nofns]
  | c :: cs => by simp [AV.nofns, AV.nofn, nofnsD cs]

mutual
theorem Opn.facts : ∀ {d : D} {x : AV} {os : List (Nat × OB)}, Opn d x os → x.plain ∧ x.nofn = true ∧ (∀ s, x.refs s = true → ∃ p ∈ os, p.1 = s) ∧ plainOs os ∧ (∀ p ∈ os, p.2 ≠ .dead ∧ AV.plains (obCells p.2) ∧ AV.nofns (obCells p.2) = true ∧ ∀ s, AV.refsL s (obCells p.2) = true → ∃ q ∈ os, q.1 = s)
  | .v x, a, os, h => by
    simp only [Opn] at h
    obtain ⟨rfl, rfl⟩ := h
    simp [AV.plain, D.plain, AV.nofn, AV.refs, plainOs]
  | .ag cs, a, os, h => by
    simp only [Opn] at h
    rcases h with ⟨h1, rfl, rfl⟩ | ⟨as, rfl, h1⟩
    · simp [AV.plain, D.plain, AV.nofn, AV.refs, plainOs, h1]
    · have := OpnL.facts h1
      simpa only [AV.plain, AV.nofn, AV.refs] using this
  | .tu cs, a, os, h => by
    simp only [Opn] at h
    rcases h with ⟨h1, rfl, rfl⟩ | ⟨as, rfl, h1⟩
    · simp [AV.plain, D.plain, AV.nofn, AV.refs, plainOs, h1]
    · have := OpnL.facts h1
      simpa only [AV.plain, AV.nofn, AV.refs] using this
  | .ls k n cs, a, os, h => by
    simp only [Opn] at h
    obtain ⟨s, rfl, ⟨h1, rfl⟩ | ⟨as, os', rfl, h1, h2⟩⟩ := h
    · refine ⟨by simp [AV.plain], by simp [AV.nofn], fun t ht => ⟨(s, .ds cs), by simp, by simpa [AV.refs] using ht⟩, by simp [plainOs, OB.plain, h1], fun p hp => ?_⟩
      simp only [List.mem_singleton] at hp
      subst hp
      exact ⟨by simp, plainsD h1, nofnsD cs, fun t ht => by simp only [obCells, refs_dmap] at ht; cases ht⟩
    · obtain ⟨g1, g2, g3, g4, g5⟩ := OpnL.facts h1
      refine ⟨by simp [AV.plain], by simp [AV.nofn], fun t ht => ⟨_, List.mem_cons_self .., by simpa [AV.refs] using ht⟩, by simp [plainOs, OB.plain, g1, g4], fun p hp => ?_⟩
      rcases List.mem_cons.1 hp with rfl | hp
      · exact ⟨by simp, g1, g2, fun t ht => by obtain ⟨q, q1, q2⟩ := g3 t ht; exact ⟨q, List.mem_cons_of_mem _ q1, q2⟩⟩
      · obtain ⟨e1, e2, e3, e4⟩ := g5 p hp
        exact ⟨e1, e2, e3, fun t ht => by obtain ⟨q, q1, q2⟩ := e4 t ht; exact ⟨q, List.mem_cons_of_mem _ q1, q2⟩⟩
  | .pt _, a, os, h => by simp only [Opn] at h
theorem OpnL.facts : ∀ {ds : List D} {xs : List AV} {os : List (Nat × OB)}, OpnL ds xs os → AV.plains xs ∧ AV.nofns xs = true ∧ (∀ s, AV.refsL s xs = true → ∃ p ∈ os, p.1 = s) ∧ plainOs os ∧ (∀ p ∈ os, p.2 ≠ .dead ∧ AV.plains (obCells p.2) ∧ AV.nofns (obCells p.2) = true ∧ ∀ s, AV.refsL s (obCells p.2) = true → ∃ q ∈ os, q.1 = s)
  | [], xs, os, h => by
    simp only [OpnL] at h
    obtain ⟨rfl, rfl⟩ := h
    simp [AV.plains, AV.nofns, AV.refsL, plainOs]
  | d :: ds, xs, os, h => by
    simp only [OpnL] at h
    obtain ⟨x, xs', o1, o2, rfl, rfl, h1, h2, h3⟩ := h
    obtain ⟨a1, a2, a3, a4, a5⟩ := Opn.facts h1
    obtain ⟨b1, b2, b3, b4, b5⟩ := OpnL.facts h2
    have hpl : ∀ (x y : List (Nat × OB)), plainOs x → plainOs y → plainOs (x ++ y) := fun x y hx hy => by
      induction x with
      | nil => exact hy
      | cons p r ih => exact ⟨hx.1, ih hx.2⟩
    refine ⟨by simp [AV.plains, a1, b1], by simp [AV.nofns, a2, b2], fun s hs => ?_, hpl _ _ a4 b4, fun p hp => ?_⟩
    · simp only [AV.refsL, Bool.or_eq_true] at hs
      rcases hs with hs | hs
      · obtain ⟨p, q1, q2⟩ := a3 s hs
        exact ⟨p, List.mem_append_left _ q1, q2⟩
      · obtain ⟨p, q1, q2⟩ := b3 s hs
        exact ⟨p, List.mem_append_right _ q1, q2⟩
    · rcases List.mem_append.1 hp with hp | hp
      · obtain ⟨e1, e2, e3, e4⟩ := a5 p hp
        exact ⟨e1, e2, e3, fun t ht => by obtain ⟨q, q1, q2⟩ := e4 t ht; exact ⟨q, List.mem_append_left _ q1, q2⟩⟩
      · obtain ⟨e1, e2, e3, e4⟩ := b5 p hp
        exact ⟨e1, e2, e3, fun t ht => by obtain ⟨q, q1, q2⟩ := e4 t ht; exact ⟨q, List.mem_append_right _ q1, q2⟩⟩
end

theorem lookO_none {ob : List (Nat × OB)} {s : Nat} (h : ∀ p ∈ ob, p.1 ≠ s) : lookO ob s = none := by
  induction ob with
  | nil => rfl
  | cons p r ih =>
    obtain ⟨k, x⟩ := p
    simp only [lookO]
    rw [if_neg (h (k, x) (by simp))]
    exact ih (fun q hq => h q (by simp [hq]))

theorem lookO_right {x y : List (Nat × OB)} {s : Nat} {o : OB} (h : lookO y s = some o) (hn : ∀ p ∈ x, p.1 ≠ s) : lookO (x ++ y) s = some o := by
  induction x with
  | nil => exact h
  | cons p r ih =>
    obtain ⟨k, z⟩ := p
    simp only [lookO, List.cons_append]
    rw [if_neg (hn (k, z) (by simp))]
    exact ih (fun q hq => hn q (by simp [hq]))

/-- Some objects, seen among more. -/
theorem VRs.among {ob ob1 : List (Nat × OB)} {ν1 : Loc} {xs : List AV} {ys : List Value} (h : VRs P w0 w ob1 ν1 xs ys) (hp : AV.plains xs) (hf : AV.nofns xs = true) (hr : ∀ s, AV.refsL s xs = true → ∀ o, lookO ob s = some o → lookO ob1 s = some o ∧ ν s = ν1 s) : VRs P w0 w ob ν xs ys :=
  VRs.back h hf (.inr hp) hr

theorem VR.among {ob ob1 : List (Nat × OB)} {ν1 : Loc} {x : AV} {y : Value} (h : VR P w0 w ob1 ν1 x y) (hp : x.plain) (hf : x.nofn = true) (hr : ∀ s, x.refs s = true → ∀ o, lookO ob s = some o → lookO ob1 s = some o ∧ ν s = ν1 s) : VR P w0 w ob ν x y :=
  VR.back h hf (.inr hp) hr

/-- Two families of objects side by side. -/
theorem Mem.side {o1 o2 : List (Nat × OB)} {ν1 ν2 ν : Loc} {b1 b2 : List Nat} (h1 : Mem P w0 w o1 ν1) (h2 : Mem P w0 w o2 ν2) (hd : ∀ p ∈ o1, ∀ q ∈ o2, p.1 ≠ q.1)
    (l1 : ∀ s x, ν1 s = some x → x.1 ∈ b1) (l2 : ∀ s x, ν2 s = some x → x.1 ∈ b2) (hb : ∀ x ∈ b1, ∀ y ∈ b2, x ≠ y) (n1 : ∀ p ∈ o1, ν p.1 = ν1 p.1) (n2 : ∀ p ∈ o2, ν p.1 = ν2 p.1)
    (f1 : ∀ p ∈ o1, AV.plains (obCells p.2) ∧ AV.nofns (obCells p.2) = true ∧ ∀ s, AV.refsL s (obCells p.2) = true → ∃ q ∈ o1, q.1 = s)
    (f2 : ∀ p ∈ o2, AV.plains (obCells p.2) ∧ AV.nofns (obCells p.2) = true ∧ ∀ s, AV.refsL s (obCells p.2) = true → ∃ q ∈ o2, q.1 = s) : Mem P w0 w (o1 ++ o2) ν := by
  have hlook : ∀ s o, lookO (o1 ++ o2) s = some o → (lookO o1 s = some o ∧ ν s = ν1 s) ∨ (lookO o2 s = some o ∧ ν s = ν2 s) := fun s o h => by
    rcases lookO_app h with h | ⟨_, h⟩
    · exact .inl ⟨h, n1 _ (lookO_mem h)⟩
    · exact .inr ⟨h, n2 _ (lookO_mem h)⟩
  refine ⟨fun s o h => ?_, fun s s' o o' x x' hne e1 e2 g1 g2 => ?_⟩
  · rcases lookO_app h with h | ⟨hn, h⟩
    · have hs := n1 _ (lookO_mem h)
      rcases h1.objs s o h with ⟨q1, q2⟩ | ⟨b, base, c, T, xs, q1, q2, q3, q4, q5, q6⟩
      · exact .inl ⟨hs.trans q1, q2⟩
      · obtain ⟨e1, e2, e3⟩ := f1 _ (lookO_mem h)
        refine .inr ⟨b, base, c, T, xs, hs.trans q1, q2, q3, q4, q5, q6.among e1 e2 (fun t ht o2 ho2 => ?_)⟩
        obtain ⟨q, hq, rfl⟩ := e3 t ht
        rcases lookO_app ho2 with e | ⟨e, _⟩
        · exact ⟨e, n1 q hq⟩
        · exact absurd rfl (e q hq)
    · have hs := n2 _ (lookO_mem h)
      rcases h2.objs s o h with ⟨q1, q2⟩ | ⟨b, base, c, T, xs, q1, q2, q3, q4, q5, q6⟩
      · exact .inl ⟨hs.trans q1, q2⟩
      · obtain ⟨e1, e2, e3⟩ := f2 _ (lookO_mem h)
        refine .inr ⟨b, base, c, T, xs, hs.trans q1, q2, q3, q4, q5, q6.among e1 e2 (fun t ht o2 ho2 => ?_)⟩
        obtain ⟨q, hq, rfl⟩ := e3 t ht
        rcases lookO_app ho2 with e | ⟨_, e⟩
        · exact absurd rfl (hd _ (lookO_mem e) q hq)
        · exact ⟨e, n2 q hq⟩
  · rcases hlook s o e1 with ⟨k1, v1⟩ | ⟨k1, v1⟩
    · rcases hlook s' o' e2 with ⟨k2, v2⟩ | ⟨k2, v2⟩
      · exact h1.inj s s' o o' x x' hne k1 k2 (v1 ▸ g1) (v2 ▸ g2)
      · exact hb _ (l1 s x (v1 ▸ g1)) _ (l2 s' x' (v2 ▸ g2))
    · rcases hlook s' o' e2 with ⟨k2, v2⟩ | ⟨k2, v2⟩
      · exact fun e => hb _ (l1 s' x' (v2 ▸ g2)) _ (l2 s x (v1 ▸ g1)) e.symm
      · exact h2.inj s s' o o' x x' hne k1 k2 (v1 ▸ g1) (v2 ▸ g2)

theorem mem_nil {ν : Loc} : Mem P w0 w [] ν := ⟨fun s o h => by simp [lookO] at h, fun s s' o o' x x' _ h => by simp [lookO] at h⟩

mutual
theorem Opn.sound : ∀ {d : D} {x : AV} {os : List (Nat × OB)} {v : Value} {bs : List Nat}, Opn d x os → RD w true d v bs → bs.Nodup → (∀ b ∈ bs, ¬ w0.S b ∧ w0.D b) →
    ∃ ν : Loc, (∀ s y, ν s = some y → y.1 ∈ bs) ∧ (∀ s, (∀ p ∈ os, p.1 ≠ s) → ν s = none) ∧ Mem P w0 w os ν ∧ VR P w0 w os ν x v
  | .v x, a, os, v, bs, h, hr, hn, hb => by
    simp only [Opn] at h
    obtain ⟨rfl, rfl⟩ := h
    simp only [RD] at hr
    obtain ⟨rfl, rfl⟩ := hr
    exact ⟨fun _ => none, by simp, by simp, mem_nil, VR.mk _⟩
  | .ag cs, a, os, v, bs, h, hr, hn, hb => by
    simp only [Opn] at h
    rcases h with ⟨h1, rfl, rfl⟩ | ⟨as, rfl, h1⟩
    · refine ⟨fun _ => none, by simp, by simp, mem_nil, ?_⟩
      simp only [VR]
      exact ⟨[], (RD.plain hr (by simpa only [D.plain] using h1)).2, by simp⟩
    · simp only [RD] at hr
      obtain ⟨xs, rfl, g1, g2⟩ := hr
      obtain ⟨ν, k1, k2, k3, k4⟩ := OpnL.sound h1 g2 hn hb
      refine ⟨ν, k1, k2, k3, ?_⟩
      simp only [VR]
      exact ⟨xs, rfl, g1, k4⟩
  | .tu cs, a, os, v, bs, h, hr, hn, hb => by
    simp only [Opn] at h
    rcases h with ⟨h1, rfl, rfl⟩ | ⟨as, rfl, h1⟩
    · refine ⟨fun _ => none, by simp, by simp, mem_nil, ?_⟩
      simp only [VR]
      exact ⟨[], (RD.plain hr (by simpa only [D.plain] using h1)).2, by simp⟩
    · simp only [RD] at hr
      obtain ⟨xs, rfl, g2⟩ := hr
      obtain ⟨ν, k1, k2, k3, k4⟩ := OpnL.sound h1 g2 hn hb
      refine ⟨ν, k1, k2, k3, ?_⟩
      simp only [VR]
      exact ⟨xs, rfl, k4⟩
  | .ls k m cs, a, os, v, bs, h, hr, hn, hb => by
    simp only [Opn] at h
    obtain ⟨s, rfl, h⟩ := h
    simp only [RD] at hr
    have hfin : ∀ (o : OB) (os' : List (Nat × OB)) (ν0 : Loc), os = (s, o) :: os' → o ≠ .dead → (obCells o).length = cs.length → (∀ p ∈ os', p.1 ≠ s) →
        (∀ bs' xs, RDs w true cs xs bs' → bs'.Nodup → (∀ b ∈ bs', ¬ w0.S b ∧ w0.D b) → ∃ ν : Loc, (∀ s y, ν s = some y → y.1 ∈ bs') ∧ (∀ s, (∀ p ∈ os', p.1 ≠ s) → ν s = none) ∧ Mem P w0 w os' ν ∧ VRs P w0 w os' ν (obCells o) xs) →
        (AV.plains (obCells o) ∧ AV.nofns (obCells o) = true ∧ ∀ t, AV.refsL t (obCells o) = true → ∃ q ∈ os', q.1 = t) → (∀ p ∈ os', AV.plains (obCells p.2) ∧ AV.nofns (obCells p.2) = true ∧ ∀ t, AV.refsL t (obCells p.2) = true → ∃ q ∈ os', q.1 = t) →
        ∃ ν : Loc, (∀ s y, ν s = some y → y.1 ∈ bs) ∧ (∀ s, (∀ p ∈ os, p.1 ≠ s) → ν s = none) ∧ Mem P w0 w os ν ∧ VR P w0 w os ν (.bs s 0 m k) v := by
      intro o os' _ hos ho hlen hns hin hfo hfos
      subst hos
      have hlk : lookO ((s, o) :: os') s = some o := by
        simp only [lookO, if_true]
      rcases hr with ⟨a0, c0, rfl, h0, rfl, rfl, rfl⟩ | ⟨b, off, cap, xs, bs', rfl, rfl, g3, g4, g5, g6⟩
      · obtain ⟨rfl, rfl⟩ : a0 = none ∧ c0 = 0 := by simpa using h0
        obtain ⟨ν, k1, k2, k3, k4⟩ := hin [] [] (by simp [RDs]) (by simp) (by simp)
        have hs0 : ν s = none := k2 s hns
        have hc0 : obCells o = [] := List.eq_nil_of_length_eq_zero (by simpa using hlen)
        refine ⟨ν, k1, fun t ht => k2 t (fun p hp => ht p (by simp [hp])), ⟨fun t o' ht => ?_, fun t t' o1 o2 x x' hne e1 e2 q1 q2 => ?_⟩, ?_⟩
        · by_cases e : s = t
          · subst e
            rw [hlk] at ht
            cases ht
            exact .inl ⟨hs0, hc0⟩
          · simp only [lookO] at ht
            rw [if_neg e] at ht
            rcases k3.objs t o' ht with q | ⟨b, base, c, T, xs, q1, q2, q3, q4, q5, q6⟩
            · exact .inl q
            · have := k1 t _ q1
              simp at this
        · have := k1 t _ q1
          simp at this
        · simp only [VR]
          exact fun _ => ⟨fun o' _ => by simp, .inl ⟨hs0, by trivial, by trivial, by trivial⟩⟩
      · obtain ⟨q1, c, T, fz, q2, q3, q4⟩ := g5
        obtain ⟨rfl, q5⟩ := q4 rfl
        have hnd := (List.nodup_cons.1 hn)
        obtain ⟨ν1, k1, k2, k3, k4⟩ := hin bs' xs g6 hnd.2 (fun b hb' => hb b (by simp [hb']))
        let ν : Loc := fun t => if t = s then some (b, off) else ν1 t
        have hνs : ν s = some (b, off) := by simp [ν]
        have hνt : ∀ t, t ≠ s → ν t = ν1 t := fun t ht => by simp [ν, ht]
        have hsub : ∀ t o', lookO ((s, o) :: os') t = some o' → t ≠ s → lookO os' t = some o' := fun t o' ht hne => by
          simp only [lookO] at ht
          rw [if_neg (fun e => hne e.symm)] at ht
          exact ht
        have ham : ∀ t, (∃ q ∈ os', q.1 = t) → ∀ o', lookO ((s, o) :: os') t = some o' → lookO os' t = some o' ∧ ν t = ν1 t := fun t ht o' ho' => by
          obtain ⟨q, hq, rfl⟩ := ht
          exact ⟨hsub _ o' ho' (hns q hq), hνt _ (hns q hq)⟩
        refine ⟨ν, fun t y hy => ?_, fun t ht => ?_, ⟨fun t o' ht => ?_, fun t t' o1 o2 x x' hne e1 e2 p1 p2 => ?_⟩, ?_⟩
        · by_cases e : t = s
          · subst e
            rw [hνs] at hy
            cases hy
            simp
          · rw [hνt t e] at hy
            exact List.mem_cons_of_mem _ (k1 t y hy)
        · rw [hνt t (fun e => ht (s, o) (by simp) e.symm)]
          exact k2 t (fun p hp => ht p (by simp [hp]))
        · by_cases e : t = s
          · subst e
            rw [hlk] at ht
            cases ht
            exact .inr ⟨b, off, c, T, xs, hνs, hb b (by simp), q2, q3, q1, k4.among hfo.1 hfo.2.1 (fun t' ht' => ham t' (hfo.2.2 t' ht'))⟩
          · have ht' := hsub t o' ht e
            rcases k3.objs t o' ht' with ⟨p1, p2⟩ | ⟨b', base, c', T', xs', p1, p2, p3, p4, p5, p6⟩
            · exact .inl ⟨(hνt t e).trans p1, p2⟩
            · obtain ⟨f1, f2, f3⟩ := hfos _ (lookO_mem ht')
              exact .inr ⟨b', base, c', T', xs', (hνt t e).trans p1, p2, p3, p4, p5, p6.among f1 f2 (fun t' h' => ham t' (f3 t' h'))⟩
        · by_cases e : t = s
          · have e' : t' ≠ s := fun h => hne (e.trans h.symm)
            rw [e, hνs] at p1
            cases p1
            rw [hνt t' e'] at p2
            exact fun h => hnd.1 (by have := k1 t' x' p2; rw [← h] at this; exact this)
          · rw [hνt t e] at p1
            by_cases e' : t' = s
            · rw [e', hνs] at p2
              cases p2
              exact fun h => hnd.1 (by have := k1 t x p1; rw [h] at this; exact this)
            · rw [hνt t' e'] at p2
              exact k3.inj t t' o1 o2 x x' hne (hsub t o1 e1 e) (hsub t' o2 e2 e') p1 p2
        · simp only [VR]
          exact fun _ => ⟨fun o' ho' => by rw [hlk] at ho'; cases ho'; rw [hlen, ← g3]; omega, .inr ⟨b, off, cap, ⟨b, off, none⟩, c, T, hνs, rfl, g4, .inr (by simp), q2, by simpa using q5⟩⟩
    rcases h with ⟨h1, rfl⟩ | ⟨as, os', rfl, h1, h2⟩
    · refine hfin (.ds cs) [] (fun _ => none) rfl (by simp) (by simp [obCells]) (by simp) (fun bs' xs hx _ _ => ⟨fun _ => none, by simp, by simp, mem_nil, ?_⟩) ⟨plainsD h1, nofnsD cs, fun t ht => by simp only [obCells, refs_dmap] at ht; cases ht⟩ (by simp)
      exact VRs.of_rds (RDs.plain hx h1).2 (fun b hb => by cases hb)
    · have hf := OpnL.facts h1
      have hl : as.length = cs.length := by
        have : ∀ {ds : List D} {xs : List AV} {os : List (Nat × OB)}, OpnL ds xs os → xs.length = ds.length := fun {ds} => by
          induction ds with
          | nil => intro xs os h; simp only [OpnL] at h; simp [h.1]
          | cons d ds ih =>
            intro xs os h
            simp only [OpnL] at h
            obtain ⟨a, as', o1, o2, rfl, rfl, _, h, _⟩ := h
            simp [ih h]
        exact this h1
      exact hfin (.av as) os' (fun _ => none) rfl (by simp) hl h2 (fun bs' xs hx hn' hb' => OpnL.sound h1 hx hn' hb') ⟨hf.1, hf.2.1, hf.2.2.1⟩ (fun p hp => (hf.2.2.2.2 p hp).2)
  | .pt _, a, os, v, bs, h, _, _, _ => by simp only [Opn] at h
theorem OpnL.sound : ∀ {ds : List D} {xs : List AV} {os : List (Nat × OB)} {vs : List Value} {bs : List Nat}, OpnL ds xs os → RDs w true ds vs bs → bs.Nodup → (∀ b ∈ bs, ¬ w0.S b ∧ w0.D b) →
    ∃ ν : Loc, (∀ s y, ν s = some y → y.1 ∈ bs) ∧ (∀ s, (∀ p ∈ os, p.1 ≠ s) → ν s = none) ∧ Mem P w0 w os ν ∧ VRs P w0 w os ν xs vs
  | [], xs, os, vs, bs, h, hr, hn, hb => by
    simp only [OpnL] at h
    obtain ⟨rfl, rfl⟩ := h
    simp only [RDs] at hr
    obtain ⟨rfl, rfl⟩ := hr
    exact ⟨fun _ => none, by simp, by simp, mem_nil, by simp [VRs]⟩
  | d :: ds, xs, os, vs, bs, h, hr, hn, hb => by
    simp only [OpnL] at h
    obtain ⟨x, xs', o1, o2, rfl, rfl, h1, h2, h3⟩ := h
    simp only [RDs] at hr
    obtain ⟨y, ys', b1, b2, rfl, rfl, r1, r2⟩ := hr
    have hnd := List.nodup_append.1 hn
    obtain ⟨ν1, k1, k2, k3, k4⟩ := Opn.sound h1 r1 hnd.1 (fun b hb' => hb b (by simp [hb']))
    obtain ⟨ν2, l1, l2, l3, l4⟩ := OpnL.sound h2 r2 hnd.2.1 (fun b hb' => hb b (by simp [hb']))
    obtain ⟨a1, a2, a3, a4, a5⟩ := Opn.facts h1
    obtain ⟨c1, c2, c3, c4, c5⟩ := OpnL.facts h2
    let ν : Loc := fun s => match ν1 s with | some x => some x | none => ν2 s
    have n1 : ∀ p ∈ o1, ν p.1 = ν1 p.1 := fun p hp => by
      show (match ν1 p.1 with | some x => some x | none => ν2 p.1) = ν1 p.1
      cases hv : ν1 p.1 with
      | some x => rfl
      | none => exact l2 p.1 (fun q hq => (h3 p hp q hq).symm)
    have n2 : ∀ p ∈ o2, ν p.1 = ν2 p.1 := fun p hp => by
      show (match ν1 p.1 with | some x => some x | none => ν2 p.1) = ν2 p.1
      rw [k2 p.1 (fun q hq => h3 q hq p hp)]
    refine ⟨ν, fun s y hy => ?_, fun s hs => ?_, Mem.side k3 l3 h3 k1 l1 (fun x hx y hy => hnd.2.2 x hx y hy) n1 n2 (fun p hp => (a5 p hp).2) (fun p hp => (c5 p hp).2), ?_⟩
    · have hy' : (match ν1 s with | some x => some x | none => ν2 s) = some y := hy
      cases hv : ν1 s with
      | some x =>
        rw [hv] at hy'
        cases hy'
        exact List.mem_append_left _ (k1 s _ hv)
      | none =>
        rw [hv] at hy'
        exact List.mem_append_right _ (l1 s y hy')
    · show (match ν1 s with | some x => some x | none => ν2 s) = none
      rw [k2 s (fun p hp => hs p (by simp [hp]))]
      exact l2 s (fun p hp => hs p (by simp [hp]))
    · simp only [VRs]
      refine ⟨y, ys', rfl, k4.among a1 a2 (fun s hs o ho => ?_), l4.among c1 c2 (fun s hs o ho => ?_)⟩
      · obtain ⟨p, hp, rfl⟩ := a3 s hs
        rcases lookO_app ho with e | ⟨e, _⟩
        · exact ⟨e, n1 p hp⟩
        · exact absurd rfl (e p hp)
      · obtain ⟨p, hp, rfl⟩ := c3 s hs
        rcases lookO_app ho with e | ⟨_, e⟩
        · exact absurd rfl (h3 _ (lookO_mem e) p hp)
        · exact ⟨e, n2 p hp⟩
end
end

end Go.Proofs.Ytdinkfmkhdnbpaa
