/- append to a slice of the frame's own. -/
import Derived.Test.YtdinkfmkhdnbpaaFlow16
import Derived.WalkKit
import Derived.WalkSpells
import Derived.IntWalk
import Derived.Laws.Append
import Derived.Laws.AppendOwn
import Derived.Laws.CopyRow
namespace Go.Proofs.Ytdinkfmkhdnbpaa
open Go.RowKit
set_option linter.unusedVariables false
set_option linter.unusedSimpArgs false

section
variable {P : Program} {w0 : Env} {w w' : World} {σ : St} {ν : Loc} {a : Act}

/-- An object is made in the place of one that is given up. -/
theorem Sim.renew (h : Sim P w0 σ ν a w) {ob1 : List (Nat × OB)} (hob1 : ∀ t o, lookO ob1 t = some o → lookO σ.ob t = some o) (hb : Keep w0.S w w')
    (hrows : ∀ (b : Nat) (c : Array Value) (T : TypeId), w.heap[b]? = some (.cells c T (0, 0)) → ∃ (c' : Array Value) (T' : TypeId), w'.heap[b]? = some (.cells c' T' (0, 0)) ∧ c'.size = c.size)
    (havoid : ∀ b, b < w.heap.size → AvoidB σ.ob ν b → w'.heap[b]? = w.heap[b]?) (hlive : ∀ t o, lookO ob1 t = some o → ∀ p, ν t = some p → w'.heap[p.1]? = w.heap[p.1]?)
    {s : Nat} (hs : s < σ.n) {o : OB} (ho : o ≠ .dead) {x : AV} {v : Value} {loc : Option (Nat × Nat)}
    (hloc : ∀ p, loc = some p → w.heap.size ≤ p.1 ∨ ((∃ t o q, lookO σ.ob t = some o ∧ ν t = some q ∧ q.1 = p.1) ∧ ∀ t o, lookO ob1 t = some o → ∀ q, ν t = some q → q.1 ≠ p.1))
    (hor : ∀ ob' ν', Later σ.ob ν w ob' ν' w' → (∀ s', s' ≠ s → Fits σ.ob ν ob' ν' s') → ν' s = loc → lookO ob' s = some o → OR P w0 w' ob' ν' s o ∧ VR P w0 w' ob' ν' x v) :
    ∃ ν', Sim P w0 (St.new { σ with ob := ob1 } s o x) ν' (a.put (some s) v) w' := by
  have hm : ∀ r, lookO ((s, o) :: r) s = some o := fun r => by
    simp only [lookO, if_true]
  let ob' := (s, o) :: killO s ob1
  let ν' : Loc := fun t => if t = s then loc else ν t
  have hν : ∀ t, t ≠ s → ν' t = ν t := fun t ht => by simp only [ν']; rw [if_neg ht]
  have hνs : ν' s = loc := by simp [ν']
  have hlook : ∀ t o', lookO ob' t = some o' → (t = s ∧ o' = o) ∨ (t ≠ s ∧ lookO ob1 t = some o' ∧ o'.refs s = false) := fun t o' ht => by
    by_cases hts : t = s
    · subst hts
      rw [show lookO ob' t = some o from hm _] at ht
      exact .inl ⟨rfl, (Option.some.inj ht).symm⟩
    · have : lookO ob' t = lookO (killO s ob1) t := by
        show lookO ((s, o) :: killO s ob1) t = _
        simp only [lookO]
        rw [if_neg (fun e => hts e.symm)]
      rw [this] at ht
      exact .inr (lookO_kill ht)
  have hl : Later σ.ob ν w ob' ν' w' := by
    refine ⟨hb.size, fun b hbl ha => ⟨fun t o' ht p hp => ?_, havoid b hbl ha⟩, hrows⟩
    rcases hlook t o' ht with ⟨rfl, _⟩ | ⟨h1, h2, _⟩
    · rw [hνs] at hp
      rcases hloc p hp with g | ⟨⟨t', o2, q, g1, g2, g3⟩, _⟩
      · omega
      · rw [← g3]
        exact ha t' o2 g1 q g2
    · rw [hν t h1] at hp
      exact ha t o' (hob1 _ _ h2) p hp
  have hf : ∀ s', s' ≠ s → Fits σ.ob ν ob' ν' s' := fun s' hs' hsome => by
    obtain ⟨o', ho'⟩ := Option.isSome_iff_exists.1 hsome
    rcases hlook s' o' ho' with ⟨e, _⟩ | ⟨_, h2, _⟩
    · exact absurd e hs'
    · exact ⟨by rw [hob1 _ _ h2]; rfl, hν s' hs', fun o1 o2 g1 g2 => by
        rw [hob1 _ _ h2] at g1; rw [ho'] at g2; cases g1; cases g2; rfl⟩
  obtain ⟨hor1, hor2⟩ := hor ob' ν' hl hf hνs (hm _)
  have hlt : ∀ t o' p, lookO σ.ob t = some o' → ν t = some p → p.1 < w.heap.size := fun t o' p h2 hp => by
    rcases h.objs t o' h2 with ⟨h4, _⟩ | ⟨b', base', c, T, xs, h4, h5, h6, _⟩
    · rw [h4] at hp; cases hp
    · rw [h4] at hp; cases hp
      exact (Array.getElem?_eq_some_iff.1 h6).1
  refine ⟨ν', ⟨fun t o' ht => ?_, fun t t' o1 o2 p p' hne h1 h2 hp hp' => ?_⟩, h.below.trans hb, h.rows.trans hrows, h.lt, h.fresh, h.le, fun t ht => (hν t (fun e => by have := h.le; omega)).trans (h.stab t ht), h.defers, (size_put a s v).trans h.size, fun t => ?_⟩
  rotate_left 2
  · rw [tmps_put a s v (h.size ▸ hs)]
    show VR P w0 w' ob' ν' (look (Go.Proofs.Ytdinkfmkhdnbpaa.put (killS s σ.sl) s x) t) _
    rw [look_put]
    split
    · exact hor2
    · rw [look_kill]
      split
      · simp only [VR]
      · rename_i hr
        exact VR.later hl (h.slots t) (fun s' hs' => hf s' (fun e => hr (e ▸ hs')))
  · rcases hlook t o' ht with ⟨rfl, rfl⟩ | ⟨h1, h2, h3⟩
    · exact hor1
    · refine (h.objs t o' (hob1 _ _ h2)).later (σ' := ⟨0, [], ob'⟩) hl (hν t h1) (fun s' hs' => hf s' (fun e => ?_)) (fun b base hsb => hlive t o' h2 _ hsb)
      subst e
      have hne := lookO_ne h2
      cases o' <;> simp_all [obCells, OB.refs]
      rw [refs_dmap] at hs'; cases hs'
  · have key : ∀ t o' p q, lookO ob1 t = some o' → ν t = some p → loc = some q → p.1 ≠ q.1 := fun t o' p q h2 hp hq => by
      have := hlt t o' p (hob1 _ _ h2) hp
      rcases hloc q hq with g | ⟨_, g⟩
      · omega
      · exact g t o' h2 p hp
    rcases hlook t o1 h1 with ⟨rfl, _⟩ | ⟨h3, h4, _⟩
    · rcases hlook t' o2 h2 with ⟨rfl, _⟩ | ⟨h5, h6, _⟩
      · exact absurd rfl hne
      · rw [hν t' h5] at hp'
        rw [hνs] at hp
        exact (key t' o2 p' p h6 hp' hp).symm
    · rcases hlook t' o2 h2 with ⟨rfl, _⟩ | ⟨h5, h6, _⟩
      · rw [hν t h3] at hp
        rw [hνs] at hp'
        exact key t o1 p p' h4 hp hp'
      · rw [hν t h3] at hp
        rw [hν t' h5] at hp'
        exact h.inj t t' o1 o2 p p' hne (hob1 _ _ h4) (hob1 _ _ h6) hp hp'

/-- What an append's source holds. -/
theorem src_sound (h : Sim P w0 σ ν a w) {x : AV} {y : Value} (hx : VR P w0 w σ.ob ν x y) {q : Prop} {m k : Nat} {o : OB} (hs : srcCells σ x = some (q, m, k, o)) (hq : q) :
    ∃ ad c news, y = .slice ad m c ∧ news.length = m * k ∧ (∀ d, ad = some d → ∀ (j : Nat) (u : Value), news[j]? = some u → w.cell? (d.add j) = some u) ∧ (ad = none → m = 0) ∧ Ones news ∧ VRs P w0 w σ.ob ν (obCells o) news := by
  unfold srcCells at hs
  split at hs
  · rename_i s off n k'
    have key : ∀ o2 : OB, lookO σ.ob s = some o2 → off + n * k' ≤ (obCells o2).length →
        ∃ ad c news, y = .slice ad n c ∧ news.length = n * k' ∧ (∀ d, ad = some d → ∀ (j : Nat) (u : Value), news[j]? = some u → w.cell? (d.add j) = some u) ∧ (ad = none → n = 0) ∧ Ones news ∧ VRs P w0 w σ.ob ν (((obCells o2).drop off).take (n * k')) news := by
      intro o2 ho2 hle
      simp only [VR] at hx
      rcases (hx (by rw [ho2]; rfl)).2 with ⟨g1, rfl, rfl, rfl⟩ | ⟨b, base, cap, ad, c, T, g1, rfl, g3, g4, g5, g6⟩
      · exact ⟨none, 0, [], rfl, by simp, by simp, by simp, fun x hx => (by cases hx), by simp [VRs]⟩
      · obtain ⟨xs, r1, r2, r3⟩ := (h.objs s o2 ho2).read g1
        have hl := r3.length
        refine ⟨some ad, cap, (xs.drop off).take (n * k'), rfl, by simp; omega, fun d hd j u hu => ?_, by simp, (r2.drop _).take _, (r3.drop _).take _⟩
        cases hd
        have hj := (List.getElem?_eq_some_iff.1 hu).1
        simp only [List.length_take, List.length_drop] at hj
        rcases g4 with ⟨g4, _⟩ | rfl
        · have : n = 0 := by omega
          subst this
          simp at hj
        · rw [addr_add, Nat.add_assoc, r1 _ (by omega)]
          rw [List.getElem?_take, if_pos (by omega), List.getElem?_drop] at hu
          exact hu
    split at hs
    · rename_i cs ho2
      simp only [Option.some.injEq, Prod.mk.injEq] at hs
      obtain ⟨rfl, rfl, rfl, rfl⟩ := hs
      have := key _ ho2 (by simpa [obCells] using hq)
      simpa [obCells] using this
    · rename_i cs ho2
      simp only [Option.some.injEq, Prod.mk.injEq] at hs
      obtain ⟨rfl, rfl, rfl, rfl⟩ := hs
      exact key _ ho2 hq
    · cases hs
  · rename_i k' n cs
    simp only [Option.some.injEq, Prod.mk.injEq] at hs
    obtain ⟨rfl, rfl, rfl, rfl⟩ := hs
    simp only [VR, RD] at hx
    obtain ⟨bs, hx, hf⟩ := hx
    rcases hx with ⟨a0, c0, rfl, _, rfl, rfl, rfl⟩ | ⟨b, off, cap, xs, bs', rfl, rfl, g3, g4, g5, g6⟩
    · exact ⟨a0, c0, [], rfl, by simp, by simp, by simp, fun x hx => (by cases hx), by simp [VRs, obCells]⟩
    · obtain ⟨q1, c, T, fz, q2, q3, _⟩ := g5
      refine ⟨some ⟨b, off, none⟩, cap, xs, rfl, by rw [g6.length, g3], fun d hd j u hu => ?_, by simp, q1, VRs.of_rds g6 (fun b' hb' => hf b' (by simp [hb']))⟩
      cases hd
      rw [addr_add, cell_row q2, q3 _ (List.getElem?_eq_some_iff.1 hu).1, hu]
  · cases hs

theorem obCells_join (a b : OB) : obCells (a.join b) = obCells a ++ obCells b := by
  unfold OB.join
  split
  · simp [obCells]
  · split
    · rename_i cs h
      simp only [obCells]
      exact (allD_spec h).symm
    · rfl

theorem join_ne (a b : OB) : a.join b ≠ .dead := by
  unfold OB.join
  split
  · simp
  · split <;> simp
end

end Go.Proofs.Ytdinkfmkhdnbpaa
