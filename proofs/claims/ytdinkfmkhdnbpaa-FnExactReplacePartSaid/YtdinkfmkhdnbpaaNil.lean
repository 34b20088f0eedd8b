/- A nil slice in an own object's cell becomes an own object with no cells. -/
import Derived.Test.YtdinkfmkhdnbpaaFlowE
import Derived.WalkKit
import Derived.WalkSpells
namespace Go.Proofs.Ytdinkfmkhdnbpaa
open Go.RowKit
set_option linter.unusedVariables false
set_option linter.unusedSimpArgs false

section
variable {P : Program} {w0 : Env} {w : World} {σ : St} {ν : Loc} {a : Act}

/-- A nil slice in cell i of object t (cells cs) is an own object s of no cells from now on. -/
def St.nilAt (σ : St) (s t i k : Nat) (cs : List AV) : St := { n := σ.n, sl := killS s σ.sl, ob := (s, .ds []) :: (t, .av (cs.set i (.bs s 0 0 k))) :: killO t (killO s σ.ob) }

theorem VRs.set {ob : List (Nat × OB)} : ∀ {cs : List AV} {ys : List Value} (i : Nat) {x : AV}, VRs P w0 w ob ν cs ys → (∀ y, ys[i]? = some y → VR P w0 w ob ν x y) → VRs P w0 w ob ν (cs.set i x) ys
  | [], ys, i, x, h, _ => by simpa using h
  | c :: cs, ys, 0, x, h, hx => by
    simp only [VRs] at h
    obtain ⟨y, ys', rfl, h1, h2⟩ := h
    simp only [List.set_cons_zero, VRs]
    exact ⟨y, ys', rfl, hx y (by simp), h2⟩
  | c :: cs, ys, i + 1, x, h, hx => by
    simp only [VRs] at h
    obtain ⟨y, ys', rfl, h1, h2⟩ := h
    simp only [List.set_cons_succ, VRs]
    exact ⟨y, ys', rfl, h1, VRs.set i h2 (fun z hz => hx z (by simpa using hz))⟩

theorem refsL_set {s : Nat} : ∀ {cs : List AV} {i : Nat} {x : AV} {t : Nat}, AV.refsL t (cs.set i x) = true → AV.refsL t cs = true ∨ x.refs t = true
  | [], _, _, _, h => by simp [AV.refsL] at h
  | c :: cs, 0, x, t, h => by
    simp only [List.set_cons_zero, AV.refsL, Bool.or_eq_true] at h ⊢
    rcases h with h | h
    · exact .inr h
    · exact .inl (.inr h)
  | c :: cs, i + 1, x, t, h => by
    simp only [List.set_cons_succ, AV.refsL, Bool.or_eq_true] at h ⊢
    rcases h with h | h
    · exact .inl (.inl h)
    · rcases refsL_set (s := s) h with h | h
      · exact .inl (.inr h)
      · exact .inr h

theorem Sim.nilAt (h : Sim P w0 σ ν a w) {s t i k : Nat} {cs : List AV} (hs : s < σ.n) (hst : s ≠ t) (ht : lookO σ.ob t = some (.av cs)) (hi : cs[i]? = some (.d (.v (.slice none 0 0)))) (hr : AV.refsL s cs = false) (hrt : AV.refsL t cs = false) :
    ∃ ν', Sim P w0 (σ.nilAt s t i k cs) ν' a w := by
  let ob' : List (Nat × OB) := (s, .ds []) :: (t, .av (cs.set i (.bs s 0 0 k))) :: killO t (killO s σ.ob)
  let ν' : Loc := fun x => if x = s then none else ν x
  have hνs : ν' s = none := by simp [ν']
  have hνx : ∀ x, x ≠ s → ν' x = ν x := fun x hx => by simp [ν', hx]
  have hls : lookO ob' s = some (.ds []) := by simp [ob', lookO]
  have hlt : lookO ob' t = some (.av (cs.set i (.bs s 0 0 k))) := by
    simp only [ob', lookO]
    rw [if_neg hst]
    simp
  have hlook : ∀ x o, lookO ob' x = some o → (x = s ∧ o = .ds []) ∨ (x = t ∧ o = .av (cs.set i (.bs s 0 0 k))) ∨ (x ≠ s ∧ x ≠ t ∧ lookO σ.ob x = some o ∧ o.refs s = false ∧ o.refs t = false) := fun x o hx => by
    by_cases e : x = s
    · subst e
      rw [hls] at hx
      cases hx
      exact .inl ⟨rfl, rfl⟩
    · by_cases e2 : x = t
      · subst e2
        rw [hlt] at hx
        cases hx
        exact .inr (.inl ⟨rfl, rfl⟩)
      · simp only [ob', lookO] at hx
        rw [if_neg (fun q => e q.symm), if_neg (fun q => e2 q.symm)] at hx
        obtain ⟨q1, q2, q3⟩ := lookO_kill hx
        obtain ⟨q4, q5, q6⟩ := lookO_kill q2
        exact .inr (.inr ⟨e, e2, q5, q6, q3⟩)
  have hl : Later σ.ob ν w ob' ν' w := by
    refine ⟨Nat.le_refl _, fun b hb ha => ⟨fun x o hx p hp => ?_, rfl⟩, fun b c T hb => ⟨c, T, hb, rfl⟩⟩
    rcases hlook x o hx with ⟨rfl, _⟩ | ⟨rfl, _⟩ | ⟨e1, _, e2, _⟩
    · rw [hνs] at hp; cases hp
    · rw [hνx x (fun e => hst e.symm)] at hp
      exact ha x _ ht p hp
    · rw [hνx x e1] at hp
      exact ha x o e2 p hp
  have hfit : ∀ x, x ≠ s → Fits σ.ob ν ob' ν' x := fun x hx hsome => by
    obtain ⟨o', ho'⟩ := Option.isSome_iff_exists.1 hsome
    rcases hlook x o' ho' with ⟨e, _⟩ | ⟨rfl, rfl⟩ | ⟨_, _, e2, _⟩
    · exact absurd e hx
    · exact ⟨by rw [ht]; rfl, hνx x hx, fun o1 o2 g1 g2 => by
        rw [ht] at g1; rw [ho'] at g2; cases g1; cases g2; simp [obCells]⟩
    · exact ⟨by rw [e2]; rfl, hνx x hx, fun o1 o2 g1 g2 => by
        rw [e2] at g1; rw [ho'] at g2; cases g1; cases g2; rfl⟩
  have hnil : ∀ y : Value, y = .slice none 0 0 → VR P w0 w ob' ν' (.bs s 0 0 k) y := fun y hy => by
    simp only [VR]
    exact fun _ => ⟨fun o _ => by simp, .inl ⟨hνs, hy, by trivial, by trivial⟩⟩
  refine ⟨ν', ⟨fun x o hx => ?_, fun x x' o1 o2 p p' hne g1 g2 g3 g4 => ?_⟩, h.below, h.rows, h.lt, h.fresh, h.le, fun x hx => (hνx x (fun e => by have := h.le; have hx' : w0.n ≤ x := hx; omega)).trans (h.stab x hx), h.defers, h.size, fun x => ?_⟩
  · rcases hlook x o hx with ⟨rfl, rfl⟩ | ⟨rfl, rfl⟩ | ⟨e1, e2, e3, e4, e5⟩
    · exact .inl ⟨hνs, rfl⟩
    · rcases h.objs x _ ht with ⟨r1, r2⟩ | ⟨b, base, c, T, xs, r1, r2, r3, r4, r5, r6⟩
      · simp only [obCells] at r2
        rw [r2] at hi
        simp at hi
      · refine .inr ⟨b, base, c, T, xs, (hνx x (fun e => hst e.symm)).trans r1, r2, r3, r4, r5, ?_⟩
        have r7 : VRs P w0 w ob' ν' cs xs := VRs.later hl (by simpa only [obCells] using r6) (fun q hq => hfit q (fun e => by rw [e, hr] at hq; cases hq))
        show VRs P w0 w ob' ν' (cs.set i (.bs s 0 0 k)) xs
        refine VRs.set i r7 (fun y hy => hnil y ?_)
        have hlen := r7.length
        have hlt' := (List.getElem?_eq_some_iff.1 hi).1
        obtain ⟨y', h1, h2⟩ := r7.get i hlt'
        rw [hy] at h1
        cases h1
        rw [List.getD_eq_getElem?_getD, hi] at h2
        exact h2.val
    · refine (h.objs x o e3).later (σ' := ⟨0, [], ob'⟩) hl (hνx x e1) (fun q hq => hfit q (fun e => ?_)) (fun _ _ _ => rfl)
      subst e
      have hne := lookO_ne e3
      cases o with
      | ds cs' => simp only [obCells, refs_dmap] at hq; cases hq
      | av cs' => simp only [obCells] at hq; simp only [OB.refs] at e4; rw [e4] at hq; cases hq
      | dead => exact absurd rfl hne
  · have key : ∀ x o p, lookO ob' x = some o → ν' x = some p → ∃ o1, lookO σ.ob x = some o1 ∧ ν x = some p := fun x o p hx hp => by
      rcases hlook x o hx with ⟨rfl, _⟩ | ⟨rfl, _⟩ | ⟨e1, _, e3, _⟩
      · rw [hνs] at hp; cases hp
      · exact ⟨_, ht, by rwa [hνx x (fun e => hst e.symm)] at hp⟩
      · exact ⟨o, e3, by rwa [hνx x e1] at hp⟩
    obtain ⟨q1, k1, k2⟩ := key x o1 p g1 g3
    obtain ⟨q2, k3, k4⟩ := key x' o2 p' g2 g4
    exact h.inj x x' q1 q2 p p' hne k1 k3 k2 k4
  · show VR P w0 w ob' ν' (look (killS s σ.sl) x) _
    rw [look_kill]
    split
    · simp only [VR]
    · rename_i hq
      exact VR.later hl (h.slots x) (fun q hq' => hfit q (fun e => hq (e ▸ hq')))

theorem aw_nil {c : Code} {Q : Exit → St → Prop} (s t i k : Nat) {cs : List AV} (hs : s < σ.n) (hst : s ≠ t) (ht : lookO σ.ob t = some (.av cs)) (hi : cs[i]? = some (.d (.v (.slice none 0 0)))) (hr : AV.refsL s cs = false) (hrt : AV.refsL t cs = false)
    (h : AW P c Q (σ.nilAt s t i k cs)) : AW P c Q σ := fun w0 ν a w hsim => by
  obtain ⟨ν', h'⟩ := hsim.nilAt (k := k) hs hst ht hi hr hrt
  exact h w0 ν' a w h'
end

end Go.Proofs.Ytdinkfmkhdnbpaa
