/- The abstract view is kept by what leaves its blocks alone. -/
import Derived.Test.YtdinkfmkhdnbpaaFlow4
import Derived.WalkKit
import Derived.WalkSpells
namespace Go.Proofs.Ytdinkfmkhdnbpaa
open Go.RowKit
set_option linter.unusedVariables false
set_option linter.unusedSimpArgs false

theorem Row.keep {w w' : World} {o : Bool} {b off ext : Nat} {xs : List Value} (h : Row w o b off xs ext) (hk : w'.heap[b]? = w.heap[b]?) : Row w' o b off xs ext := by
  obtain ⟨h0, c, T, fz, h1, h2, h3⟩ := h
  exact ⟨h0, c, T, fz, hk.trans h1, h2, h3⟩

theorem Row.lt {w : World} {o : Bool} {b off ext : Nat} {xs : List Value} (h : Row w o b off xs ext) : b < w.heap.size := by
  obtain ⟨_, c, T, fz, h1, _⟩ := h
  have := Array.getElem?_eq_some_iff.1 h1
  exact this.1

theorem Row.weak {w : World} {b off ext : Nat} {xs : List Value} (h : Row w true b off xs ext) (o : Bool) : Row w o b off xs ext := by
  obtain ⟨h0, c, T, fz, h1, h2, h3⟩ := h
  exact ⟨h0, c, T, fz, h1, h2, fun _ => h3 rfl⟩

mutual
theorem RD.keep {w w' : World} {o : Bool} : ∀ {d : D} {y : Value} {bs : List Nat}, RD w o d y bs → (∀ b ∈ bs, w'.heap[b]? = w.heap[b]?) → RD w' o d y bs
  | .v x, y, bs, h, _ => by simp only [RD] at h ⊢; exact h
  | .ag cs, y, bs, h, hk => by
    simp only [RD] at h ⊢
    obtain ⟨xs, h1, h0, h2⟩ := h
    exact ⟨xs, h1, h0, RDs.keep h2 hk⟩
  | .tu cs, y, bs, h, hk => by
    simp only [RD] at h ⊢
    obtain ⟨xs, h1, h2⟩ := h
    exact ⟨xs, h1, RDs.keep h2 hk⟩
  | .ls k n cs, y, bs, h, hk => by
    simp only [RD] at h ⊢
    rcases h with h | ⟨b, off, cap, xs, bs', h1, h2, h3, h4, h5, h6⟩
    · exact .inl h
    · subst h2
      exact .inr ⟨b, off, cap, xs, bs', h1, rfl, h3, h4, h5.keep (hk b (by simp)), RDs.keep h6 (fun b hb => hk b (by simp [hb]))⟩
  | .pt cs, y, bs, h, hk => by
    simp only [RD] at h ⊢
    obtain ⟨b, off, xs, bs', h1, h2, h3, h4⟩ := h
    subst h2
    exact ⟨b, off, xs, bs', h1, rfl, h3.keep (hk b (by simp)), RDs.keep h4 (fun b hb => hk b (by simp [hb]))⟩
theorem RDs.keep {w w' : World} {o : Bool} : ∀ {ds : List D} {ys : List Value} {bs : List Nat}, RDs w o ds ys bs → (∀ b ∈ bs, w'.heap[b]? = w.heap[b]?) → RDs w' o ds ys bs
  | [], ys, bs, h, _ => by simp only [RDs] at h ⊢; exact h
  | d :: ds, ys, bs, h, hk => by
    simp only [RDs] at h ⊢
    obtain ⟨x, xs', b1, b2, h1, h2, h3, h4⟩ := h
    subst h2
    exact ⟨x, xs', b1, b2, h1, rfl, RD.keep h3 (fun b hb => hk b (by simp [hb])), RDs.keep h4 (fun b hb => hk b (by simp [hb]))⟩
end

mutual
theorem RD.lt {w : World} {o : Bool} : ∀ {d : D} {y : Value} {bs : List Nat}, RD w o d y bs → ∀ b ∈ bs, b < w.heap.size
  | .v x, y, bs, h => by simp only [RD] at h; simp [h.2]
  | .ag cs, y, bs, h => by
    simp only [RD] at h
    obtain ⟨xs, h1, _, h2⟩ := h
    exact RDs.lt h2
  | .tu cs, y, bs, h => by
    simp only [RD] at h
    obtain ⟨xs, h1, h2⟩ := h
    exact RDs.lt h2
  | .ls k n cs, y, bs, h => by
    simp only [RD] at h
    rcases h with ⟨_, _, _, _, _, _, h⟩ | ⟨b, off, cap, xs, bs', h1, h2, h3, h4, h5, h6⟩
    · simp [h]
    · subst h2
      intro b' hb'
      rcases List.mem_cons.1 hb' with rfl | hb'
      · exact h5.lt
      · exact RDs.lt h6 b' hb'
  | .pt cs, y, bs, h => by
    simp only [RD] at h
    obtain ⟨b, off, xs, bs', h1, h2, h3, h4⟩ := h
    subst h2
    intro b' hb'
    rcases List.mem_cons.1 hb' with rfl | hb'
    · exact h3.lt
    · exact RDs.lt h4 b' hb'
theorem RDs.lt {w : World} {o : Bool} : ∀ {ds : List D} {ys : List Value} {bs : List Nat}, RDs w o ds ys bs → ∀ b ∈ bs, b < w.heap.size
  | [], ys, bs, h => by simp only [RDs] at h; simp [h.2]
  | d :: ds, ys, bs, h => by
    simp only [RDs] at h
    obtain ⟨x, xs', b1, b2, h1, h2, h3, h4⟩ := h
    subst h2
    intro b hb
    rcases List.mem_append.1 hb with hb | hb
    · exact RD.lt h3 b hb
    · exact RDs.lt h4 b hb
end

mutual
theorem RD.weak {w : World} (o : Bool) : ∀ {d : D} {y : Value} {bs : List Nat}, RD w true d y bs → RD w o d y bs
  | .v x, y, bs, h => by simp only [RD] at h ⊢; exact h
  | .ag cs, y, bs, h => by
    simp only [RD] at h ⊢
    obtain ⟨xs, h1, h0, h2⟩ := h
    exact ⟨xs, h1, h0, RDs.weak o h2⟩
  | .tu cs, y, bs, h => by
    simp only [RD] at h ⊢
    obtain ⟨xs, h1, h2⟩ := h
    exact ⟨xs, h1, RDs.weak o h2⟩
  | .ls k n cs, y, bs, h => by
    simp only [RD] at h ⊢
    rcases h with ⟨a, c, h1, h2, h3⟩ | ⟨b, off, cap, xs, bs', h1, h2, h3, h4, h5, h6⟩
    · exact .inl ⟨a, c, h1, (fun _ => by simpa using h2), h3⟩
    · exact .inr ⟨b, off, cap, xs, bs', h1, h2, h3, h4, h5.weak o, RDs.weak o h6⟩
  | .pt cs, y, bs, h => by
    simp only [RD] at h ⊢
    obtain ⟨b, off, xs, bs', h1, h2, h3, h4⟩ := h
    exact ⟨b, off, xs, bs', h1, h2, h3.weak o, RDs.weak o h4⟩
theorem RDs.weak {w : World} (o : Bool) : ∀ {ds : List D} {ys : List Value} {bs : List Nat}, RDs w true ds ys bs → RDs w o ds ys bs
  | [], ys, bs, h => by simp only [RDs] at h ⊢; exact h
  | d :: ds, ys, bs, h => by
    simp only [RDs] at h ⊢
    obtain ⟨x, xs', b1, b2, h1, h2, h3, h4⟩ := h
    exact ⟨x, xs', b1, b2, h1, h2, RD.weak o h3, RDs.weak o h4⟩
end

/-- From one state of a frame to a later one: the live names that are named still lie where they lay; the blocks that are no own object's are as they were; an own object's block is still a row of as many cells. -/
structure Later (ob : List (Nat × OB)) (ν : Loc) (w : World) (ob' : List (Nat × OB)) (ν' : Loc) (w' : World) : Prop where
  size : w.heap.size ≤ w'.heap.size
  avoid : ∀ b, b < w.heap.size → AvoidB ob ν b → AvoidB ob' ν' b ∧ w'.heap[b]? = w.heap[b]?
  rows : ∀ (b : Nat) (c : Array Value) (T : TypeId), w.heap[b]? = some (.cells c T (0, 0)) → ∃ (c' : Array Value) (T' : TypeId), w'.heap[b]? = some (.cells c' T' (0, 0)) ∧ c'.size = c.size

def Fits (ob : List (Nat × OB)) (ν : Loc) (ob' : List (Nat × OB)) (ν' : Loc) (s : Nat) : Prop := (lookO ob' s).isSome = true → (lookO ob s).isSome = true ∧ ν' s = ν s ∧ ∀ o o', lookO ob s = some o → lookO ob' s = some o' → (obCells o').length = (obCells o).length

mutual
theorem VR.later {P : Program} {w0 : Env} {w w' : World} {ob ob' : List (Nat × OB)} {ν ν' : Loc} (hl : Later ob ν w ob' ν' w') : ∀ {x : AV} {y : Value}, VR P w0 w ob ν x y → (∀ s, x.refs s = true → Fits ob ν ob' ν' s) → VR P w0 w' ob' ν' x y
  | .d x, y, h, _ => by
    simp only [VR] at h ⊢
    obtain ⟨bs, h1, h2⟩ := h
    refine ⟨bs, h1.keep (fun b hb => (hl.avoid b (h2 b hb).1 (h2 b hb).2.1).2), fun b hb => ⟨Nat.lt_of_lt_of_le (h2 b hb).1 hl.size, (hl.avoid b (h2 b hb).1 (h2 b hb).2.1).1, (h2 b hb).2.2⟩⟩
  | .bp s o, y, h, hr => by
    simp only [VR] at h ⊢
    intro hs
    obtain ⟨h1, h2, _⟩ := hr s (by simp [AV.refs]) hs
    obtain ⟨b, base, h3, h4⟩ := h h1
    exact ⟨b, base, h2.trans h3, h4⟩
  | .bs s off n k, y, h, hr => by
    simp only [VR] at h ⊢
    intro hs
    obtain ⟨h1, h2, hlen⟩ := hr s (by simp [AV.refs]) hs
    obtain ⟨o1, ho1⟩ := Option.isSome_iff_exists.1 h1
    obtain ⟨hle, h⟩ := h h1
    refine ⟨fun o' ho' => by rw [hlen o1 o' ho1 ho']; exact hle o1 ho1, ?_⟩
    rcases h with h3 | ⟨b, base, cap, a, c, T, h3, h4, h5, h6, h7, h8⟩
    · exact .inl ⟨h2.trans h3.1, h3.2⟩
    · obtain ⟨c', T', h9, h10⟩ := hl.rows b c T h7
      exact .inr ⟨b, base, cap, a, c', T', h2.trans h3, h4, h5, by rw [h10]; exact h6, h9, by omega⟩
  | .ag cs, y, h, hr => by
    simp only [VR] at h ⊢
    obtain ⟨xs, h1, h0, h2⟩ := h
    exact ⟨xs, h1, h0, VRs.later hl h2 (fun s hs => hr s (by simpa [AV.refs] using hs))⟩
  | .tu cs, y, h, hr => by
    simp only [VR] at h ⊢
    obtain ⟨xs, h1, h2⟩ := h
    exact ⟨xs, h1, VRs.later hl h2 (fun s hs => hr s (by simpa [AV.refs] using hs))⟩
  | .fn dom k, y, h, _ => by
    simp only [VR] at h ⊢
    exact h
  | .fc g a b, y, h, hr => by
    simp only [VR] at h ⊢
    obtain ⟨xs, ys, h1, h2, h3⟩ := h
    exact ⟨xs, ys, h1, VRs.later hl h2 (fun s hs => hr s (by simp [AV.refs, hs])), VRs.later hl h3 (fun s hs => hr s (by simp [AV.refs, hs]))⟩
  | .un, y, h, _ => by simp only [VR]
theorem VRs.later {P : Program} {w0 : Env} {w w' : World} {ob ob' : List (Nat × OB)} {ν ν' : Loc} (hl : Later ob ν w ob' ν' w') : ∀ {xs : List AV} {ys : List Value}, VRs P w0 w ob ν xs ys → (∀ s, AV.refsL s xs = true → Fits ob ν ob' ν' s) → VRs P w0 w' ob' ν' xs ys
  | [], ys, h, _ => by simp only [VRs] at h ⊢; exact h
  | x :: xs, ys, h, hr => by
    simp only [VRs] at h ⊢
    obtain ⟨y, ys', h1, h2, h3⟩ := h
    exact ⟨y, ys', h1, VR.later hl h2 (fun s hs => hr s (by simp [AV.refsL, hs])), VRs.later hl h3 (fun s hs => hr s (by simp [AV.refsL, hs]))⟩
end

end Go.Proofs.Ytdinkfmkhdnbpaa
