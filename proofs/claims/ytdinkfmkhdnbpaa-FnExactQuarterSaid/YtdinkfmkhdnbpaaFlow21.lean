/- A call that is handed objects, by its contract. -/
import Derived.Test.YtdinkfmkhdnbpaaFlow20
import Derived.WalkKit
import Derived.WalkSpells
namespace Go.Proofs.Ytdinkfmkhdnbpaa
open Go.RowKit
set_option linter.unusedVariables false
set_option linter.unusedSimpArgs false

section
variable {P : Program} {w0 : Env} {w w' : World} {σ : St} {ν : Loc} {a : Act}

theorem subS_look {sl : List (Nat × AV)} : ∀ {r : List (Nat × AV)}, SubS sl r → ∀ t, look r t = .un ∨ look r t = look sl t
  | [], _, t => .inl rfl
  | (k, x) :: r, h, t => by
    obtain ⟨h1, h2⟩ := h
    simp only [look]
    by_cases e : k = t
    · subst e
      rw [if_pos rfl]
      exact .inr h1.symm
    · rw [if_neg e]
      exact subS_look h2 t

theorem subO_look {ob : List (Nat × OB)} : ∀ {r : List (Nat × OB)}, SubO ob r → ∀ s o, lookO r s = some o → lookO ob s = some o
  | [], _, s, o, h => by simp [lookO] at h
  | (k, x) :: r, h, s, o, hl => by
    obtain ⟨h1, h2⟩ := h
    simp only [lookO] at hl
    by_cases e : k = s
    · subst e
      rw [if_pos rfl] at hl
      split at hl
      · cases hl
      · cases hl; exact h1
    · rw [if_neg e] at hl
      exact subO_look h2 s o hl

mutual
theorem RD.plain {o o' : Bool} : ∀ {d : D} {y : Value} {bs : List Nat}, RD w o d y bs → d.plain → bs = [] ∧ RD w' o' d y []
  | .v x, y, bs, h, _ => by simp only [RD] at h ⊢; simp [h]
  | .ag cs, y, bs, h, hp => by
    simp only [RD] at h ⊢
    obtain ⟨xs, h1, h2, h3⟩ := h
    obtain ⟨e, h4⟩ := RDs.plain h3 (by simpa only [D.plain] using hp)
    exact ⟨e, xs, h1, h2, h4⟩
  | .tu cs, y, bs, h, hp => by
    simp only [RD] at h ⊢
    obtain ⟨xs, h1, h3⟩ := h
    obtain ⟨e, h4⟩ := RDs.plain h3 (by simpa only [D.plain] using hp)
    exact ⟨e, xs, h1, h4⟩
  | .ls _ _ _, y, bs, h, hp => by simp only [D.plain] at hp
  | .pt _, y, bs, h, hp => by simp only [D.plain] at hp
theorem RDs.plain {o o' : Bool} : ∀ {ds : List D} {ys : List Value} {bs : List Nat}, RDs w o ds ys bs → plains ds → bs = [] ∧ RDs w' o' ds ys []
  | [], ys, bs, h, _ => by simp only [RDs] at h ⊢; simp [h]
  | d :: ds, ys, bs, h, hp => by
    simp only [RDs] at h ⊢
    simp only [plains] at hp
    obtain ⟨x, xs', b1, b2, rfl, rfl, h1, h2⟩ := h
    obtain ⟨e1, h3⟩ := RD.plain h1 hp.1
    obtain ⟨e2, h4⟩ := RDs.plain h2 hp.2
    exact ⟨by simp [e1, e2], x, xs', [], [], rfl, rfl, h3, h4⟩
end

theorem lookO_mem {ob : List (Nat × OB)} {s : Nat} {o : OB} (h : lookO ob s = some o) : (s, o) ∈ ob := by
  induction ob with
  | nil => simp [lookO] at h
  | cons p r ih =>
    obtain ⟨k, x⟩ := p
    simp only [lookO] at h
    by_cases e : k = s
    · subst e
      rw [if_pos rfl] at h
      have : x = o := by
        split at h
        · cases h
        · exact Option.some.inj h
      subst this
      simp
    · rw [if_neg e] at h
      exact List.mem_cons_of_mem _ (ih h)

theorem lookO_left {x y : List (Nat × OB)} {s : Nat} {o : OB} (h : lookO x s = some o) : lookO (x ++ y) s = some o := by
  induction x with
  | nil => simp [lookO] at h
  | cons p r ih =>
    obtain ⟨k, z⟩ := p
    simp only [lookO, List.cons_append] at h ⊢
    by_cases e : k = s
    · rw [if_pos e] at h ⊢; exact h
    · rw [if_neg e] at h ⊢; exact ih h

theorem lookO_app {x y : List (Nat × OB)} {s : Nat} {o : OB} (h : lookO (x ++ y) s = some o) : lookO x s = some o ∨ ((∀ p ∈ x, p.1 ≠ s) ∧ lookO y s = some o) := by
  induction x with
  | nil => exact .inr ⟨by simp, h⟩
  | cons p r ih =>
    obtain ⟨k, z⟩ := p
    simp only [lookO, List.cons_append] at h ⊢
    by_cases e : k = s
    · rw [if_pos e] at h ⊢; exact .inl h
    · rw [if_neg e] at h ⊢
      rcases ih h with h | ⟨h1, h2⟩
      · exact .inl h
      · exact .inr ⟨fun p hp => by rcases List.mem_cons.1 hp with rfl | hp; exact e; exact h1 p hp, h2⟩

theorem lookO_killN {s t : Nat} {ob : List (Nat × OB)} {o : OB} (h : lookO (killN s ob) t = some o) : t ≠ s ∧ lookO ob t = some o := by
  induction ob with
  | nil => simp [killN, lookO] at h
  | cons p r ih =>
    obtain ⟨k, x⟩ := p
    simp only [killN] at h
    by_cases e : k = s
    · rw [if_pos e] at h
      obtain ⟨h1, h2⟩ := ih h
      exact ⟨h1, by simp only [lookO]; rw [if_neg (fun e2 => h1 (e2.symm.trans e))]; exact h2⟩
    · rw [if_neg e] at h
      simp only [lookO] at h ⊢
      by_cases e2 : k = t
      · subst e2
        rw [if_pos rfl] at h ⊢
        exact ⟨e, h⟩
      · rw [if_neg e2] at h ⊢
        exact ih h

theorem lookO_dropO {t : Nat} {o : OB} : ∀ {r ob : List (Nat × OB)}, lookO (dropO ob r) t = some o → (∀ p ∈ r, p.1 ≠ t) ∧ lookO ob t = some o
  | [], ob, h => ⟨by simp, h⟩
  | (s, x) :: r, ob, h => by
    simp only [dropO] at h
    obtain ⟨h1, h2⟩ := lookO_dropO h
    obtain ⟨h3, h4⟩ := lookO_killN h2
    exact ⟨fun p hp => by rcases List.mem_cons.1 hp with rfl | hp; exact h3.symm; exact h1 p hp, h4⟩

theorem lookO_killOs {t : Nat} {o : OB} : ∀ {nn : List Nat} {ob : List (Nat × OB)}, lookO (killOs nn ob) t = some o → (∀ s ∈ nn, t ≠ s ∧ o.refs s = false) ∧ lookO ob t = some o
  | [], ob, h => ⟨by simp, h⟩
  | s :: nn, ob, h => by
    simp only [killOs] at h
    obtain ⟨h1, h2⟩ := lookO_killOs h
    obtain ⟨h3, h4, h5⟩ := lookO_kill h2
    exact ⟨fun p hp => by rcases List.mem_cons.1 hp with rfl | hp; exact ⟨h3, h5⟩; exact h1 p hp, h4⟩

theorem look_killSs {t : Nat} : ∀ {nn : List Nat} {sl : List (Nat × AV)}, look (killSs nn sl) t = .un ∨ (look (killSs nn sl) t = look sl t ∧ ∀ s ∈ nn, (look sl t).refs s = false)
  | [], sl => .inr ⟨rfl, by simp⟩
  | s :: nn, sl => by
    simp only [killSs]
    rcases look_killSs (t := t) (nn := nn) (sl := killS s sl) with h | ⟨h1, h2⟩
    · exact .inl h
    · rw [look_kill] at h1 h2
      split at h1
      · exact .inl h1
      · rename_i hr
        rw [if_neg hr] at h2
        exact .inr ⟨h1, fun p hp => by rcases List.mem_cons.1 hp with rfl | hp; simpa using hr; exact h2 p hp⟩

theorem newN_mem {ob : List (Nat × OB)} {t : Nat} : ∀ {r : List (Nat × OB)} {o : OB}, (t, o) ∈ r → lookO ob t = none → t ∈ newN ob r
  | [], o, h, _ => by simp at h
  | (s, x) :: r, o, h, hn => by
    simp only [newN]
    rcases List.mem_cons.1 h with e | h
    · cases e
      rw [hn]
      simp
    · have := newN_mem h hn
      split
      · exact this
      · exact List.mem_cons_of_mem _ this

theorem newN_none {ob : List (Nat × OB)} {t : Nat} : ∀ {r : List (Nat × OB)}, t ∈ newN ob r → lookO ob t = none
  | [], h => by simp [newN] at h
  | (s, x) :: r, h => by
    simp only [newN] at h
    split at h
    · exact newN_none h
    · rename_i hn
      rcases List.mem_cons.1 h with rfl | h
      · exact hn
      · exact newN_none h

theorem ltAll_spec {n t : Nat} : ∀ {l : List Nat}, ltAll n l = true → t ∈ l → t < n
  | [], _, h => by simp at h
  | s :: r, h, hm => by
    simp only [ltAll, Bool.and_eq_true, decide_eq_true_eq] at h
    rcases List.mem_cons.1 hm with rfl | hm
    · exact h.1
    · exact ltAll_spec h.2 hm

theorem apartO_spec {ob' : List (Nat × OB)} {res : AV} : ∀ {rest : List (Nat × OB)}, apartO rest ob' res = true →
    (∀ p ∈ ob', AV.nofns (obCells p.2) = true) ∧ res.nofn = true ∧ ∀ t o, (t, o) ∈ rest → (∀ p ∈ ob', AV.refsL t (obCells p.2) = false) ∧ res.refs t = false
  | [], h => by
    simp only [apartO, Bool.and_eq_true, List.all_eq_true] at h
    exact ⟨h.1, h.2, by simp⟩
  | (t, o) :: r, h => by
    simp only [apartO, Bool.and_eq_true, List.all_eq_true] at h
    obtain ⟨h1, h2, h3⟩ := apartO_spec h.2
    refine ⟨h1, h2, fun t' o' hm => ?_⟩
    rcases List.mem_cons.1 hm with e | hm
    · cases e
      exact ⟨fun p hp => by simpa using h.1.1 p hp, by simpa using h.1.2⟩
    · exact h3 t' o' hm

/-- From the frame to the function: less is known of fewer objects. -/
theorem RF.sub {S S' : Nat → Prop} {w1 w2 : World} {y : Value} {dom : List D → Prop} {h : List D → D} (hr : RF P S w1 y dom h) (hk : ∀ w', Keep S' w2 w' → Keep S w1 w') : RF P S' w2 y dom h := by
  obtain ⟨g, first, cap, rfl, hg, hc⟩ := hr
  exact ⟨g, first, cap, rfl, hg, fun w' ds vs bs h1 => hc w' ds vs bs (hk w' h1)⟩

mutual
theorem VR.into {E : Env} {ob ob1 : List (Nat × OB)} (hsub : ∀ s o, lookO ob1 s = some o → lookO ob s = some o) (hd : ∀ b, b < w.heap.size → AvoidB ob ν b → w0.D b → E.D b) (hk : ∀ w', Keep E.S E.w w' → Keep w0.S w0.w w') :
    ∀ {x : AV} {y : Value}, VR P w0 w ob ν x y → VR P E w ob1 ν x y
  | .d x, y, h => by
    simp only [VR] at h ⊢
    obtain ⟨bs, h1, h2⟩ := h
    exact ⟨bs, h1, fun b hb => ⟨(h2 b hb).1, fun s o hs => (h2 b hb).2.1 s o (hsub s o hs), hd b (h2 b hb).1 (h2 b hb).2.1 (h2 b hb).2.2⟩⟩
  | .bp s o, y, h => by
    simp only [VR] at h ⊢
    intro hs
    obtain ⟨o1, hs⟩ := Option.isSome_iff_exists.1 hs
    exact h (by rw [hsub s o1 hs]; rfl)
  | .bs s off n k, y, h => by
    simp only [VR] at h ⊢
    intro hs
    obtain ⟨o1, hs⟩ := Option.isSome_iff_exists.1 hs
    obtain ⟨h1, h2⟩ := h (by rw [hsub s o1 hs]; rfl)
    exact ⟨fun o ho => h1 o (hsub s o ho), h2⟩
  | .ag cs, y, h => by
    simp only [VR] at h ⊢
    obtain ⟨xs, h1, h0, h2⟩ := h
    exact ⟨xs, h1, h0, VRs.into hsub hd hk h2⟩
  | .tu cs, y, h => by
    simp only [VR] at h ⊢
    obtain ⟨xs, h1, h2⟩ := h
    exact ⟨xs, h1, VRs.into hsub hd hk h2⟩
  | .fn dom k, y, h => by
    simp only [VR] at h ⊢
    exact h.sub hk
  | .fc g l1 l2, y, h => by
    simp only [VR] at h ⊢
    obtain ⟨xs, ys, h1, h2, h3⟩ := h
    exact ⟨xs, ys, h1, VRs.into hsub hd hk h2, VRs.into hsub hd hk h3⟩
  | .un, y, h => by simp only [VR]
theorem VRs.into {E : Env} {ob ob1 : List (Nat × OB)} (hsub : ∀ s o, lookO ob1 s = some o → lookO ob s = some o) (hd : ∀ b, b < w.heap.size → AvoidB ob ν b → w0.D b → E.D b) (hk : ∀ w', Keep E.S E.w w' → Keep w0.S w0.w w') :
    ∀ {xs : List AV} {ys : List Value}, VRs P w0 w ob ν xs ys → VRs P E w ob1 ν xs ys
  | [], ys, h => by simp only [VRs] at h ⊢; exact h
  | x :: xs, ys, h => by
    simp only [VRs] at h ⊢
    obtain ⟨y, ys', h1, h2, h3⟩ := h
    exact ⟨y, ys', h1, VR.into hsub hd hk h2, VRs.into hsub hd hk h3⟩
end

mutual
/-- From the function back to the frame. -/
theorem VR.back {E : Env} {ob ob1 : List (Nat × OB)} {ν1 : Loc} : ∀ {x : AV} {y : Value}, VR P E w ob1 ν1 x y → x.nofn = true →
    ((∀ b, b < w.heap.size → AvoidB ob1 ν1 b → E.D b → AvoidB ob ν b ∧ w0.D b) ∨ x.plain) → (∀ s, x.refs s = true → ∀ o, lookO ob s = some o → lookO ob1 s = some o ∧ ν s = ν1 s) → VR P w0 w ob ν x y
  | .d x, y, h, _, hd, _ => by
    simp only [VR] at h ⊢
    obtain ⟨bs, h1, h2⟩ := h
    rcases hd with hd | hd
    · exact ⟨bs, h1, fun b hb => ⟨(h2 b hb).1, hd b (h2 b hb).1 (h2 b hb).2.1 (h2 b hb).2.2⟩⟩
    · simp only [AV.plain] at hd
      exact ⟨[], (RD.plain h1 hd).2, by simp⟩
  | .bp s o, y, h, _, _, hr => by
    simp only [VR] at h ⊢
    intro hs
    obtain ⟨o1, hs⟩ := Option.isSome_iff_exists.1 hs
    obtain ⟨e1, e2⟩ := hr s (by simp [AV.refs]) o1 hs
    obtain ⟨b, base, h1, h2⟩ := h (by rw [e1]; rfl)
    exact ⟨b, base, e2.trans h1, h2⟩
  | .bs s off n k, y, h, _, _, hr => by
    simp only [VR] at h ⊢
    intro hs
    obtain ⟨o1, hs⟩ := Option.isSome_iff_exists.1 hs
    obtain ⟨e1, e2⟩ := hr s (by simp [AV.refs]) o1 hs
    obtain ⟨h1, h2⟩ := h (by rw [e1]; rfl)
    refine ⟨fun o ho => h1 o (by rw [e1, ← hs, ho]), ?_⟩
    rw [e2]
    exact h2
  | .ag cs, y, h, hf, hd, hr => by
    simp only [VR] at h ⊢
    obtain ⟨xs, h1, h0, h2⟩ := h
    exact ⟨xs, h1, h0, VRs.back h2 (by simpa [AV.nofn] using hf) (hd.imp id (by simp [AV.plain])) (fun s hs => hr s (by simpa [AV.refs] using hs))⟩
  | .tu cs, y, h, hf, hd, hr => by
    simp only [VR] at h ⊢
    obtain ⟨xs, h1, h2⟩ := h
    exact ⟨xs, h1, VRs.back h2 (by simpa [AV.nofn] using hf) (hd.imp id (by simp [AV.plain])) (fun s hs => hr s (by simpa [AV.refs] using hs))⟩
  | .fn dom k, y, h, hf, _, _ => by simp [AV.nofn] at hf
  | .fc g l1 l2, y, h, hf, hd, hr => by
    simp only [VR] at h ⊢
    obtain ⟨xs, ys, h1, h2, h3⟩ := h
    simp only [AV.nofn, Bool.and_eq_true] at hf
    exact ⟨xs, ys, h1, VRs.back h2 hf.1 (hd.imp id (fun h => by simp only [AV.plain] at h; exact h.1)) (fun s hs => hr s (by simp [AV.refs, hs])), VRs.back h3 hf.2 (hd.imp id (fun h => by simp only [AV.plain] at h; exact h.2)) (fun s hs => hr s (by simp [AV.refs, hs]))⟩
  | .un, y, h, _, _, _ => by simp only [VR]
theorem VRs.back {E : Env} {ob ob1 : List (Nat × OB)} {ν1 : Loc} : ∀ {xs : List AV} {ys : List Value}, VRs P E w ob1 ν1 xs ys → AV.nofns xs = true →
    ((∀ b, b < w.heap.size → AvoidB ob1 ν1 b → E.D b → AvoidB ob ν b ∧ w0.D b) ∨ AV.plains xs) → (∀ s, AV.refsL s xs = true → ∀ o, lookO ob s = some o → lookO ob1 s = some o ∧ ν s = ν1 s) → VRs P w0 w ob ν xs ys
  | [], ys, h, _, _, _ => by simp only [VRs] at h ⊢; exact h
  | x :: xs, ys, h, hf, hd, hr => by
    simp only [VRs] at h ⊢
    obtain ⟨y, ys', h1, h2, h3⟩ := h
    simp only [AV.nofns, Bool.and_eq_true] at hf
    exact ⟨y, ys', h1, VR.back h2 hf.1 (hd.imp id (fun h => by simp only [AV.plains] at h; exact h.1)) (fun s hs => hr s (by simp [AV.refsL, hs])), VRs.back h3 hf.2 (hd.imp id (fun h => by simp only [AV.plains] at h; exact h.2)) (fun s hs => hr s (by simp [AV.refsL, hs]))⟩
end
end

end Go.Proofs.Ytdinkfmkhdnbpaa
