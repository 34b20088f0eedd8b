/- Stores into the frame's own objects. -/
import Derived.Test.YtdinkfmkhdnbpaaFlow14
import Derived.WalkKit
import Derived.WalkSpells
import Derived.Laws.CopyRow
import Derived.Laws.Tables
namespace Go.Proofs.Ytdinkfmkhdnbpaa
open Go.RowKit
set_option linter.unusedVariables false
set_option linter.unusedSimpArgs false

section
variable {P : Program} {w0 : Env} {w : World} {σ : St} {ν : Loc} {a : Act}

/-- The cells of an own object are written anew. -/
theorem Sim.store (h : Sim P w0 σ ν a w) {s : Nat} {o o' : OB} (hs : lookO σ.ob s = some o) (ho' : o' ≠ .dead) {b base : Nat} (hν : ν s = some (b, base)) {c c' : Array Value} {T : TypeId} (hc : w.heap[b]? = some (.cells c T (0, 0))) (hsz : c'.size = c.size)
    {ys : List Value} (hy : VRs P w0 w σ.ob ν (obCells o') ys) (h1 : Ones ys) (hcy : ∀ i, i < ys.length → c'[base + i]? = ys[i]?) (hlen : ys.length = (obCells o).length) :
    Sim P w0 { σ with ob := putO σ.ob s o' } ν a (w.setRow b c') := by
  have hlk : ∀ t, lookO (putO σ.ob s o') t = if t = s then some o' else lookO σ.ob t := fun t => lookO_put ho'
  have hlive : ∀ t, (lookO (putO σ.ob s o') t).isSome = true → (lookO σ.ob t).isSome = true := fun t ht => by
    rw [hlk] at ht
    split at ht
    · rename_i e; subst e; simp [hs]
    · exact ht
  have hB : ¬ w0.S b ∧ w0.D b := by
    rcases h.objs s o hs with ⟨g, _⟩ | ⟨b', base', c2, T2, xs, g1, g2, _⟩
    · rw [g] at hν; cases hν
    · rw [g1] at hν; cases hν; exact g2
  have hsz' : (w.setRow b c').heap.size = w.heap.size := by simp [World.setRow]
  have hl : Later σ.ob ν w (putO σ.ob s o') ν (w.setRow b c') := by
    refine ⟨Nat.le_of_eq hsz'.symm, fun b' hb' ha => ⟨fun t o2 ht p hp => ?_, setRow_other w b b' c' (fun e => ?_)⟩, fun b' c2 T2 h2 => ?_⟩
    · rw [hlk] at ht
      split at ht
      · rename_i e; subst e
        exact ha t o hs p hp
      · exact ha t o2 ht p hp
    · exact ha s o hs _ hν e.symm
    · by_cases e : b' = b
      · subst e
        rw [hc] at h2
        cases h2
        exact ⟨c', T, setRow_heap w b' c c' T (0, 0) hc, hsz⟩
      · exact ⟨c2, T2, (setRow_other w b b' c' e).trans h2, rfl⟩
  have hxl : (obCells o').length = (obCells o).length := by
    rw [← hy.length]
    exact hlen
  have hf : ∀ t, Fits σ.ob ν (putO σ.ob s o') ν t := fun t ht => ⟨hlive t ht, rfl, fun o1 o2 g1 g2 => by
    rw [hlk] at g2
    split at g2
    · rename_i e; subst e
      rw [hs] at g1; cases g1; cases g2
      exact hxl
    · rw [g1] at g2; cases g2; rfl⟩
  have hbelow : Keep w0.S w (w.setRow b c') := ⟨rfl, rfl, rfl, Nat.le_of_eq hsz'.symm, fun k hk => setRow_other w b k c' (fun e => hB.1 (e ▸ hk))⟩
  refine ⟨⟨fun t o2 ht => ?_, fun t t' o1 o2 p p' hne g1 g2 g3 g4 => ?_⟩, h.below.trans hbelow, h.rows.trans hl.rows, h.lt, h.fresh, h.le, h.stab, h.defers, h.size, fun t => VR.later hl (h.slots t) (fun t' _ => hf t')⟩
  · have ht' := ht
    rw [hlk] at ht'
    split at ht'
    · rename_i e; subst e
      cases ht'
      exact .inr ⟨b, base, c', T, ys, hν, hB, setRow_heap w b c c' T (0, 0) hc, hcy, h1, VRs.later hl hy (fun t' _ => hf t')⟩
    · rename_i hne
      refine (h.objs t o2 ht').later (σ' := { σ with ob := putO σ.ob s o' }) hl rfl (fun t' _ => hf t') (fun b2 base2 hb2 => setRow_other w b b2 c' (fun e => ?_))
      subst e
      exact h.inj t s o2 o _ _ hne ht' hs hb2 hν rfl
  · obtain ⟨q1, hq1⟩ := Option.isSome_iff_exists.1 (hlive t (by rw [g1]; rfl))
    obtain ⟨q2, hq2⟩ := Option.isSome_iff_exists.1 (hlive t' (by rw [g2]; rfl))
    exact h.inj t t' q1 q2 p p' hne hq1 hq2 g3 g4

theorem splice_get {α : Type} (l : List α) (off : Nat) (vs : List α) (h : off + vs.length ≤ l.length) (i : Nat) : (l.take off ++ vs ++ l.drop (off + vs.length))[i]? = if i < off then l[i]? else if i < off + vs.length then vs[i - off]? else l[i]? := by
  have h1 : (l.take off).length = off := by simp; omega
  rw [List.append_assoc, List.getElem?_append, h1]
  by_cases hi : i < off
  · rw [if_pos hi, if_pos hi, List.getElem?_take, if_pos hi]
  · rw [if_neg hi, if_neg hi, List.getElem?_append]
    by_cases hi2 : i < off + vs.length
    · rw [if_pos (by omega), if_pos hi2]
    · rw [if_neg (by omega), if_neg hi2, List.getElem?_drop]
      congr 1
      omega

theorem store_sound (h : Sim P w0 σ ν a w) {t : TypeId} {x y : Operand} {s off : Nat} (hsx : σ.ev x = .bp s off) {o o' : OB} (hs : lookO σ.ob s = some o) {p : Prop} (ho : storeOb P σ.ob t o off (σ.ev y) = some (p, o')) (hp : p) :
    ∃ w', (Instr.storeAt t (a.eval x) (a.eval y)).run P w = .ok () w' ∧ Sim P w0 { σ with ob := putO σ.ob s o' } ν a w' := by
  have hx := h.ev x
  rw [hsx] at hx
  simp only [VR] at hx
  obtain ⟨b, base, hν, hax⟩ := hx (by rw [hs]; rfl)
  unfold storeOb at ho
  split at ho
  · cases ho
  · rename_i cs hsp
    obtain ⟨vs, g1, g2, g3⟩ := split_sound hsp (h.ev y)
    have hlen := g3.length
    rcases h.objs s o hs with ⟨q, _⟩ | ⟨b', base', c, T, xs, q1, q2, q3, q4, q5, q6⟩
    · rw [q] at hν; cases hν
    rw [q1] at hν
    cases hν
    have key : ∀ (o2 : OB), o2 ≠ .dead → obCells o2 = (obCells o).take off ++ cs ++ (obCells o).drop (off + cs.length) → cs.length = P.cellsOf t → P.cellsOf t ≠ 0 → off + cs.length ≤ (obCells o).length →
        ∃ w', (Instr.storeAt t (a.eval x) (a.eval y)).run P w = .ok () w' ∧ Sim P w0 { σ with ob := putO σ.ob s o2 } ν a w' := by
      intro o2 hne hcells hcl hk hle
      have hxl := q6.length
      have hin : ∀ i, i < xs.length → base + i < c.size := fun i hi => by
        have := q4 i hi
        rw [List.getElem?_eq_getElem hi] at this
        exact (Array.getElem?_eq_some_iff.1 this).1
      have hfit : base + off + 0 + vs.length ≤ c.size := by
        have := hin (off + vs.length - 1) (by omega)
        omega
      have hrun := run_storeCells_at P b (base + off) T vs 0 c w q3 hfit g2
      simp only [Nat.add_zero] at hrun
      refine ⟨_, ?_, h.store hs hne q1 q3 (c' := (c.toList.take (base + off) ++ vs ++ c.toList.drop (base + off + vs.length)).toArray) (by simp; omega) (ys := xs.take off ++ vs ++ xs.drop (off + vs.length)) ?_ (((q5.take _).append g2).append (q5.drop _)) ?_ (by simp; omega)⟩
      · rw [hax]
        simp only [Instr.storeAt, Instr.sureAddr, Sem.run_bind, Sem.run_pure, Result.andThen_ok, storeVar, run_size' rfl hk]
        rw [if_neg (by rw [g1]; simp; omega), g1]
        exact hrun
      · rw [hcells]
        exact q6.splice g3 off
      · intro i hi
        simp only [List.length_append, List.length_take, List.length_drop] at hi
        rw [List.getElem?_toArray, splice_get _ _ _ (by simp; omega), splice_get _ _ _ (by omega)]
        by_cases hi1 : i < off
        · rw [if_pos (by omega), if_pos hi1, Array.getElem?_toList]
          exact q4 i (by omega)
        · rw [if_neg (by omega), if_neg hi1]
          by_cases hi2 : i < off + vs.length
          · rw [if_pos (by omega), if_pos hi2]
            congr 1
            omega
          · rw [if_neg (by omega), if_neg hi2, Array.getElem?_toList]
            exact q4 i (by omega)
    split at ho
    · rename_i old
      obtain ⟨rfl, rfl⟩ := Prod.mk.inj (Option.some.inj ho)
      exact key _ (by simp) rfl hp.1 hp.2.1 hp.2.2
    · rename_i old
      split at ho
      · rename_i d hd
        obtain ⟨rfl, rfl⟩ := Prod.mk.inj (Option.some.inj ho)
        have e := allD_spec hd
        subst e
        refine key _ (by simp) ?_ (by simpa using hp.1.symm) (by rw [hp.1]; decide) (by simp [obCells]; omega)
        simp only [obCells, List.length_cons, List.length_nil, List.map_cons, List.map_nil]
        rw [List.map_set, List.set_eq_take_append_cons_drop, if_pos (by simpa using hp.2)]
        simp
      · rename_i ds _ hd
        obtain ⟨rfl, rfl⟩ := Prod.mk.inj (Option.some.inj ho)
        have e := allD_spec hd
        subst e
        refine key _ (by simp) ?_ (by simpa using hp.1) hp.2.1 (by simpa [obCells] using hp.2.2)
        simp only [obCells, List.length_map, List.map_append, List.map_take, List.map_drop]
      · cases ho
    · cases ho
end

end Go.Proofs.Ytdinkfmkhdnbpaa
