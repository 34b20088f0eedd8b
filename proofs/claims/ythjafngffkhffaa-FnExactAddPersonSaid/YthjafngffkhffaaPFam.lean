/- Arguments of laws about families. -/
import Derived.Test.YthjafngffkhffaaLaw
import Derived.Test.YthjafngffkhffaaFam2
import Derived.ProofKit
namespace Go.Proofs.Ythjafngffkhffaa
open Go.ChangeShapes Go.WideShapes Go.ChangeAt Go.RowKit
set_option linter.unusedVariables false
set_option linter.unusedSimpArgs false

theorem per_of {ds : List D} (h : HasShL [.int, .int, .int, .int, .int] ds) : ∃ x : PerV, ds = x.cs := by
  simp only [HasShL, HasSh] at h
  obtain ⟨_, _, rfl, ⟨a0, rfl, _⟩, _, _, rfl, ⟨a1, rfl, _⟩, _, _, rfl, ⟨a2, rfl, _⟩, _, _, rfl, ⟨a3, rfl, _⟩, _, _, rfl, ⟨a4, rfl, _⟩, rfl⟩ := h
  exact ⟨⟨a0, a1, a2, a3, a4⟩, rfl⟩

theorem perC_of : ∀ es : List (List D), (∀ e ∈ es, HasShL [.int, .int, .int, .int, .int] e) → ∃ l : List PerV, l.length = es.length ∧ perC l = es.flatten
  | [], _ => ⟨[], rfl, rfl⟩
  | e :: es, h => by
    obtain ⟨x, hx⟩ := per_of (h e (by simp))
    obtain ⟨l, h1, h2⟩ := perC_of es fun e he => h e (by simp [he])
    refine ⟨x :: l, by simp [h1], ?_⟩
    simp only [perC, recC, List.flatMap_cons, List.flatten_cons] at h2 ⊢
    rw [h2, hx]

theorem fam_of {ds : List D} (h : HasShL [.sl (.st [.int, .int, .int, .int, .int])] ds) : ∃ l : List PerV, D.ag ds = famD l ∧ l.length ≤ 9223372036854775807 := by
  obtain ⟨_, _, rfl, h1, rfl⟩ := (by simpa only [HasShL] using h : ∃ a b, ds = a ++ b ∧ HasSh (.sl (.st [.int, .int, .int, .int, .int])) a ∧ b = [])
  rw [HasSh.eq_def] at h1
  obtain ⟨es, rfl, h3, h4⟩ := h1
  obtain ⟨l, h5, h6⟩ := perC_of es fun e he => by
    have := h3 e he
    rw [HasSh.eq_def] at this
    exact this
  refine ⟨l, ?_, by omega⟩
  rw [famD, perL, h5, h6]
  rfl

end Go.Proofs.Ythjafngffkhffaa
