/- Operations that make objects of the frame's own. -/
import Derived.Test.YtdinkfmkhdnbpaaFlow12
import Derived.WalkKit
import Derived.WalkSpells
namespace Go.Proofs.Ytdinkfmkhdnbpaa
open Go.RowKit
set_option linter.unusedVariables false
set_option linter.unusedSimpArgs false

section
variable {P : Program} {w0 : Env} {w : World} {σ : St} {ν : Loc} {a : Act}

theorem below_alloc (w : World) (o : Obj) : Below w.heap.size w (w.alloc o) := (Below.refl _ _).alloc (Nat.le_refl _) _

theorem alloc_heap (w : World) (o : Obj) : (w.alloc o).heap[w.heap.size]? = some o := by
  show (w.heap.push o)[w.heap.size]? = _
  simp

theorem obCells_obOf (cs : List AV) : obCells (obOf cs) = cs := by
  unfold obOf
  split
  · rename_i ds h
    simp only [obCells]
    exact (allD_spec h).symm
  · rfl

theorem obOf_ne (cs : List AV) : obOf cs ≠ .dead := by
  unfold obOf
  split <;> simp

/-- A new block, whose cells are values that the view knows, becomes an own object. -/
theorem Sim.alloc (h : Sim P w0 σ ν a w) {s : Nat} (hs : s < σ.n) {o : OB} (ho : o ≠ .dead) {xs : List Value} (hv : VRs P w0 w σ.ob ν (obCells o) xs) (h1 : Ones xs) (hr : AV.refsL s (obCells o) = false) (T : TypeId) (x : AV) (v : Value)
    (hx : (x = .bp s 0 ∧ v = .pointer (some ⟨w.heap.size, 0, none⟩)) ∨ ∃ n k, x = .bs s 0 n k ∧ v = .slice (some ⟨w.heap.size, 0, none⟩) n n ∧ n * k = xs.length) :
    ∃ ν', Sim P w0 (σ.new s o x) ν' (a.put (some s) v) (w.alloc (.cells xs.toArray T)) := by
  refine h.new (below_alloc w _) hs ho (loc := some (w.heap.size, 0)) (fun p hp => by cases hp; exact Nat.le_refl _) (fun ob' ν' hl hf hνs hlook => ⟨?_, ?_⟩)
  · refine .inr ⟨w.heap.size, 0, xs.toArray, T, xs, hνs, h.newB (Nat.le_refl _), alloc_heap w _, fun i hi => by simp, h1, ?_⟩
    exact VRs.later hl hv (fun s' hs' => hf s' (fun e => by subst e; rw [hr] at hs'; cases hs'))
  · rcases hx with ⟨rfl, rfl⟩ | ⟨n, k, rfl, rfl, hn⟩
    · simp only [VR]
      exact fun _ => ⟨w.heap.size, 0, hνs, by simp⟩
    · simp only [VR]
      exact fun _ => ⟨fun o' ho' => by rw [hlook] at ho'; cases ho'; rw [← hv.length]; omega, .inr ⟨w.heap.size, 0, n, ⟨w.heap.size, 0, none⟩, xs.toArray, T, hνs, rfl, Nat.le_refl _, .inr (by simp), alloc_heap w _, by simp [hn]⟩⟩

theorem refs_dmap (s : Nat) : ∀ ds : List D, AV.refsL s (ds.map AV.d) = false
  | [] => rfl
  | d :: ds => by simp [AV.refsL, AV.refs, refs_dmap s ds]

theorem alloc_sound (h : Sim P w0 σ ν a w) {t : TypeId} {s : Nat} (hs : s < σ.n) (hz : zeroOk P t = true) :
    ∃ v w' ν', (Instr.alloc t true (.tuple #[])).run P w = .ok v w' ∧ Sim P w0 (σ.new s (.av ((zeroD P t).map AV.d)) (.bp s 0)) ν' (a.put (some s) v) w' ∧ Below w.heap.size w w' := by
  obtain ⟨z, h1, h2, h3, h4⟩ := zero_run (w := w) hz
  obtain ⟨ν', h5⟩ := h.alloc hs (o := .av ((zeroD P t).map AV.d)) (by simp) (xs := zeroV P t) (VRs.vals _) h3 (refs_dmap s _) t (.bp s 0) _ (.inl ⟨rfl, rfl⟩)
  refine ⟨.pointer (some ⟨w.heap.size, 0, none⟩), w.alloc (.cells (zeroV P t).toArray t), ν', ?_, h5, below_alloc w _⟩
  have e : z.cells = (zeroV P t).toArray := by rw [← h2]
  simp only [Instr.alloc, Sem.run_bind, h1, Result.andThen_ok, newVar, newRow, newObj, e]
  rfl

theorem box_sound (h : Sim P w0 σ ν a w) {t : TypeId} {x : Operand} {s : Nat} (hs : s < σ.n) {cs : List AV} (hsp : (σ.ev x).split σ.ob = some cs) (hr : AV.refsL s cs = false) :
    ∃ v w' ν', (Instr.box t (a.eval x)).run P w = .ok v w' ∧ Sim P w0 (σ.new s (.av cs) (.bp s 0)) ν' (a.put (some s) v) w' ∧ Below w.heap.size w w' := by
  obtain ⟨xs, h1, h2, h3⟩ := split_sound hsp (h.ev x)
  obtain ⟨ν', h5⟩ := h.alloc hs (o := .av cs) (by simp) h3 h2 hr t (.bp s 0) _ (.inl ⟨rfl, rfl⟩)
  refine ⟨.pointer (some ⟨w.heap.size, 0, none⟩), w.alloc (.cells xs.toArray t), ν', ?_, h5, below_alloc w _⟩
  simp only [Instr.box, newVar, newRow, newObj, h1]
  rfl
end

end Go.Proofs.Ytdinkfmkhdnbpaa
