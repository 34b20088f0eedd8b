/- Fields and regions as arguments. -/
import Derived.Test.YtaegdaimjhhgpaaLaw3
import Derived.Test.YtaegdaimjhhgpaaPic6
import Derived.ProofKit
namespace Go.Proofs.Ytaegdaimjhhgpaa
open Go.ChangeShapes Go.WideShapes Go.ChangeAt Go.RowKit
set_option linter.unusedVariables false
set_option linter.unusedSimpArgs false

theorem fieldSh_of {ds : List D} (h : HasShL [.int, .int, .int, .int] ds) : ∃ d l f s : Int, D.ag ds = .ag [.int d, .int l, .int f, .int s] := by
  simp only [HasShL, HasSh] at h
  obtain ⟨_, _, rfl, ⟨a0, rfl, _⟩, _, _, rfl, ⟨a1, rfl, _⟩, _, _, rfl, ⟨a2, rfl, _⟩, _, _, rfl, ⟨a3, rfl, _⟩, rfl⟩ := h
  exact ⟨a0, a1, a2, a3, rfl⟩

theorem intC_of : ∀ es : List (List D), (∀ e ∈ es, HasSh .int e) → ∃ l : List Int, l.length = es.length ∧ l.map D.int = es.flatten ∧ inI l
  | [], _ => ⟨[], rfl, rfl, fun i => by simp⟩
  | e :: es, h => by
    have h0 := h e (by simp)
    rw [HasSh.eq_def] at h0
    obtain ⟨x, rfl, hx⟩ := h0
    obtain ⟨l, h1, h2, h3⟩ := intC_of es fun e he => h e (by simp [he])
    refine ⟨x :: l, by simp [h1], by simp [h2], fun i => ?_⟩
    cases i with
    | zero => simpa using hx
    | succ i => simpa using h3 i

end Go.Proofs.Ytaegdaimjhhgpaa
