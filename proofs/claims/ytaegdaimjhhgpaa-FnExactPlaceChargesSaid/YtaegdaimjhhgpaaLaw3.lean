/- A law's arguments, all of them, as data of given shapes. -/
import Derived.Test.YtaegdaimjhhgpaaLaw2
import Derived.Test.YtaegdaimjhhgpaaRead
import Derived.ProofKit
namespace Go.Proofs.Ytaegdaimjhhgpaa
open Go.ChangeShapes Go.WideShapes Go.ChangeAt Go.RowKit
set_option linter.unusedVariables false
set_option linter.unusedSimpArgs false

def ArgSh : Sh → D → Prop
  | .st ss, x => ∃ ds, x = .ag ds ∧ HasShL ss ds
  | s, x => HasSh s [x]

def ArgShL : List Sh → List D → Prop
  | [], xs => xs = []
  | s :: ss, xs => ∃ x xs', xs = x :: xs' ∧ ArgSh s x ∧ ArgShL ss xs'

def isShs (P : Program) : List Sh → List TypeId → Bool
  | [], [] => true
  | s :: ss, t :: ts => isSh P s t && isShs P ss ts
  | _, _ => false

section
variable {H : Type} {enc : TypeId × Value → H} {P : Program} {W : World} {base : Nat} {spare : Nat → Bool} {held : Bool}

theorem reads_one {s : Sh} {v : Value} (h : Reads W s [v]) : ∃ x bs, HasSh s [x] ∧ RD W false x v bs := by
  obtain ⟨ds, bs, h1, h2, h3, h4⟩ := h
  have hl := h2.length
  match ds, hl, h1, h2 with
  | [x], _, h1, h2 =>
    simp only [RDs] at h2
    obtain ⟨y, ys, b1, b2, e1, e2, g1, g2⟩ := h2
    simp only [List.cons.injEq] at e1
    rw [e1.1]
    exact ⟨x, b1, h1, g1⟩
  | [], hl, _, _ => simp at hl
  | _ :: _ :: _, hl, _, _ => simp at hl

theorem arg_read {s : Sh} {t : TypeId} {v : Value} {d : DataW H} {p : List MemPlace} {w : World} {r : Reach} {b0 : Nat} (hs : isSh P s t = true) (hv : Value.okWide P w r b0 t v) (h : DataW.Trod enc P W base spare held t v d p) : ∃ x bs, ArgSh s x ∧ RD W false x v bs := by
  obtain ⟨fuel, h⟩ := h
  have hr := read_sound s hs h
  cases s with
  | int =>
    unfold isSh at hs
    split at hs
    · rename_i hu
      obtain ⟨n, rfl⟩ := okWide_int hu hv
      exact reads_one hr
    · cases hs
  | bool =>
    unfold isSh at hs
    split at hs
    · rename_i hu
      obtain ⟨n, rfl⟩ := okWide_bool hu hv
      exact reads_one hr
    · cases hs
  | str =>
    unfold isSh at hs
    split at hs
    · rename_i hu
      obtain ⟨n, rfl⟩ := okWide_string hu hv
      exact reads_one hr
    · cases hs
  | sl e =>
    unfold isSh at hs
    split at hs
    · rename_i e2 hu
      obtain ⟨a, n, c, rfl⟩ := okWide_slice hu hv
      exact reads_one hr
    · cases hs
  | st ss =>
    unfold isSh at hs
    split at hs
    · rename_i fs hu
      obtain ⟨cs, rfl, _⟩ := okWide_struct hu hv
      obtain ⟨ds, bs, h1, h2, h3, h4⟩ := hr
      refine ⟨.ag ds, bs, ⟨ds, rfl, h1⟩, ?_⟩
      simp only [RD]
      exact ⟨cs.toList, by simp, h3, h2⟩
    · cases hs

theorem args_read {w : World} {r : Reach} {b0 : Nat} : ∀ (ss : List Sh) {ts : List TypeId} {vs : List Value} {ds : List (DataW H)} {ps : List MemPlace}, isShs P ss ts = true →
    (∀ (j : Nat) t v, ts[j]? = some t → vs[j]? = some v → Value.okWide P w r b0 t v) → DataW.TrodAll enc P W base spare held ts vs ds ps → ∃ xs bs, ArgShL ss xs ∧ RDs W false xs vs bs
  | [], [], [], [], _, _, _, _ => ⟨[], [], rfl, by simp [RDs]⟩
  | s :: ss, t :: ts, v :: vs, d :: ds, ps, hs, hv, h => by
    obtain ⟨p, q, h1, h2, rfl⟩ := h
    simp only [isShs, Bool.and_eq_true] at hs
    obtain ⟨x, b1, g1, g2⟩ := arg_read hs.1 (hv 0 t v rfl rfl) h1
    obtain ⟨xs, b2, g3, g4⟩ := args_read ss hs.2 (fun j t v e1 e2 => hv (j + 1) t v (by simpa using e1) (by simpa using e2)) h2
    refine ⟨x :: xs, b1 ++ b2, ⟨x, xs, rfl, g1, g3⟩, ?_⟩
    simp only [RDs]
    exact ⟨v, vs, b1, b2, rfl, rfl, g2, g4⟩
  | [], _ :: _, _, _, _, hs, _, _ => by simp [isShs] at hs
  | _ :: _, [], _, _, _, hs, _, _ => by simp [isShs] at hs
  | [], [], _ :: _, _, _, _, _, h => h.elim
  | [], [], [], _ :: _, _, _, _, h => h.elim
  | _ :: _, _ :: _, [], _, _, _, _, h => h.elim
  | _ :: _, _ :: _, _ :: _, [], _, _, _, h => h.elim

/-- From a contract over all data of the shapes to the law's call. -/
theorem law_sh {f : FuncId} {ss : List Sh} {ts : List TypeId} {args : Array Value} {ds : List (DataW H)} {ps : List MemPlace} {w : World} {r : Reach} {b0 : Nat} (hf : ∀ xs, ArgShL ss xs → FnD P f xs (.bool true)) (hs : isShs P ss ts = true)
    (hv : ∀ (j : Nat) t v, ts[j]? = some t → args.toList[j]? = some v → Value.okWide P w r b0 t v) (h : DataW.TrodAll enc P W base spare held ts args.toList ds ps) :
    Calls P f args W fun e W' => e = .returned (.bool true) ∧ Below W.heap.size W W' := by
  obtain ⟨xs, bs, h1, h2⟩ := args_read ss hs hv h
  have := law_calls (hf xs h1) h2
  simpa using this

end

end Go.Proofs.Ytaegdaimjhhgpaa
