/- From a contract over data to a law's call. -/
import Derived.Test.YtaegdaimjhhgpaaLaw
import Derived.Test.YtaegdaimjhhgpaaFlowD
import Derived.ProofKit
namespace Go.Proofs.Ytaegdaimjhhgpaa
open Go.ChangeShapes Go.WideShapes Go.ChangeAt Go.RowKit
set_option linter.unusedVariables false
set_option linter.unusedSimpArgs false

theorem law_calls {P : Program} {f : FuncId} {ds : List D} (h : FnD P f ds (.bool true)) {W : World} {vs : List Value} {bs : List Nat} (hr : RDs W false ds vs bs) :
    Calls P f vs.toArray W fun e W' => e = .returned (.bool true) ∧ Below W.heap.size W W' := by
  refine Calls.mono (h.2 W vs (rcs_data hr hr.lt)) (fun e W' he => ?_)
  obtain ⟨r, bs', rfl, h1, h2, _⟩ := he
  simp only [RD] at h2
  exact ⟨by rw [h2.1], h1⟩

end Go.Proofs.Ytaegdaimjhhgpaa
