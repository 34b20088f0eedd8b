/- The program's ArmsText and ArmsBefore return what the reference's return, for all arms. No condition. -/
import Derived.Test.YteimddagjikcaaaLaw
import Derived.Test.YteimddagjikcaaaArmsText4
import Derived.ProofKit
namespace Go.Proofs.Yteimddagjikcaaa
open Go.ChangeShapes Go.WideShapes Go.ChangeAt Go.RowKit
set_option linter.unusedVariables false
set_option linter.unusedSimpArgs false

theorem arms_of {ds : List D} (h : HasShL [.st [.int, .int, .int, .int], .int, .int, .int, .st [.int, .int, .int, .int], .st [.int, .int, .int, .int]] ds) : ∃ x : ArmsV, D.ag ds = x.d := by
  simp only [HasShL, HasSh] at h
  obtain ⟨_, _, rfl, ⟨_, _, rfl, ⟨a0, rfl, _⟩, _, _, rfl, ⟨a1, rfl, _⟩, _, _, rfl, ⟨a2, rfl, _⟩, _, _, rfl, ⟨a3, rfl, _⟩, rfl⟩, _, _, rfl, ⟨a4, rfl, _⟩, _, _, rfl, ⟨a5, rfl, _⟩, _, _, rfl, ⟨a6, rfl, _⟩,
    _, _, rfl, ⟨_, _, rfl, ⟨a7, rfl, _⟩, _, _, rfl, ⟨a8, rfl, _⟩, _, _, rfl, ⟨a9, rfl, _⟩, _, _, rfl, ⟨b0, rfl, _⟩, rfl⟩, _, _, rfl, ⟨_, _, rfl, ⟨b1, rfl, _⟩, _, _, rfl, ⟨b2, rfl, _⟩, _, _, rfl, ⟨b3, rfl, _⟩, _, _, rfl, ⟨b4, rfl, _⟩, rfl⟩, rfl⟩ := h
  exact ⟨⟨a0, a1, a2, a3, a4, a5, a6, a7, a8, a9, b0, b1, b2, b3, b4⟩, rfl⟩

end Go.Proofs.Yteimddagjikcaaa
