/- Arguments of laws about draws: bytes. -/
import Derived.Test.YtjfeleejiofeoaaLaw
import Derived.Test.YtjfeleejiofeoaaCur
import Derived.ProofKit
namespace Go.Proofs.Ytjfeleejiofeoaa
open Go.ChangeShapes Go.WideShapes Go.ChangeAt Go.RowKit
set_option linter.unusedVariables false
set_option linter.unusedSimpArgs false

theorem bytes_es : ∀ es : List (List D), (∀ e ∈ es, HasSh .u8 e) → ∃ bs : List Int, bs.length = es.length ∧ bs.map byD = es.flatten ∧ ∀ x ∈ bs, 0 ≤ x ∧ x ≤ 255
  | [], _ => ⟨[], rfl, rfl, fun x hx => by cases hx⟩
  | e :: es, h => by
    have h0 := h e (by simp)
    rw [HasSh.eq_def] at h0
    obtain ⟨n, hn, hn2⟩ := h0
    obtain ⟨bs, h1, h2, h3⟩ := bytes_es es fun e he => h e (by simp [he])
    refine ⟨n :: bs, by simp [h1], ?_, ?_⟩
    · rw [List.map_cons, List.flatten_cons, h2, hn]
      rfl
    · intro x hx
      rcases List.mem_cons.1 hx with rfl | hx
      · exact hn2
      · exact h3 x hx

theorem bytes_of {d : D} (h : ArgSh (.sl .u8) d) : ∃ bs : List Int, d = codL bs ∧ (∀ x ∈ bs, 0 ≤ x ∧ x ≤ 255) ∧ bs.length ≤ 9223372036854775807 := by
  simp only [ArgSh] at h
  rw [HasSh.eq_def] at h
  obtain ⟨es, h1, h2, h3⟩ := h
  obtain ⟨bs, k1, k2, k3⟩ := bytes_es es h2
  refine ⟨bs, ?_, k3, by omega⟩
  rw [(List.cons.inj h1).1, codL, k1, k2]
  rfl

end Go.Proofs.Ytjfeleejiofeoaa
