/- The program's DrawingDifference returns what the reference's returns, for all arguments. No condition. -/
import Derived.Test.YtaegdaimjhhgpaaPArms
import Derived.Test.YtaegdaimjhhgpaaDrawD
import Derived.ProofKit
namespace Go.Proofs.Ytaegdaimjhhgpaa
open Go.ChangeShapes Go.WideShapes Go.ChangeAt Go.RowKit
set_option linter.unusedVariables false
set_option linter.unusedSimpArgs false

theorem fnExactDrawingDifference_all (xs : List D) (h : ArgShL [.st [.st [.int, .int, .int, .int], .int, .int, .int, .st [.int, .int, .int, .int], .st [.int, .int, .int, .int]], .st [.st [.int, .int, .int, .int], .int, .int, .int, .st [.int, .int, .int, .int], .st [.int, .int, .int, .int]]] xs) : FnD Try.prog 14 xs (.bool true) := by
  obtain ⟨x, _, rfl, ⟨ds, rfl, h1⟩, y, _, rfl, ⟨es, rfl, h2⟩, rfl⟩ := h
  obtain ⟨a, e⟩ := arms_of h1
  obtain ⟨b, e'⟩ := arms_of h2
  rw [e, e']
  exact fnExactDrawingDifference_fn a b

set_option maxRecDepth 100000 in
theorem fnExactDrawingDifference_lifted (os : Os) (started : os.Started) (H : Type) (enc : TypeId × Value → H) :
    ReturnsInHanded {} Try.checked os 14 .any (Rows.fnExactDrawingDifferenceSpec.pre6 enc Try.prog Try.f14 Rows.fnExactDrawingDifferenceRow.domain false) (Rows.fnExactDrawingDifferenceSpec.post enc Try.prog Try.f14 false true false false) := by
  refine returnsInHanded_of_change (C := Try.checked) ownKnob_none started (by kernel_rfl) Try.func14
    (ChangeSpec.witness6 (enc := enc) (C := Try.checked) false ⟨#[], #[.agg #[.int .i64 0, .int .i64 0, .int .i64 0, .int .i64 0, .int .i64 0, .int .i64 0, .int .i64 0, .int .i64 0, .int .i64 0, .int .i64 0, .int .i64 0, .int .i64 0, .int .i64 0, .int .i64 0, .int .i64 0], .agg #[.int .i64 0, .int .i64 0, .int .i64 0, .int .i64 0, .int .i64 0, .int .i64 0, .int .i64 0, .int .i64 0, .int .i64 0, .int .i64 0, .int .i64 0, .int .i64 0, .int .i64 0, .int .i64 0, .int .i64 0]], []⟩ 12 (by kernel_rfl) (by kernel_rfl) (by kernel_rfl) (by kernel_rfl)) ?_
  intro W base args ds gs before hval0 hW hcnd _
  have hW' := hW
  obtain ⟨p, q, hA0, hV, rfl, hfz, hnd⟩ := hW
  have hA : DataW.TrodAll enc Try.prog W 0 (fun _ => true) true Try.f14.params.toList args.toList ds p := hA0
  have hval : ∀ (j : Nat) t v, Try.f14.params.toList[j]? = some t → args.toList[j]? = some v → Value.okWide Try.prog W .any base t v := fun j t v h1 h2 => hval0 j t v (by simpa using h1) (by simpa using h2)
  have hA1 := hA
  rw [Try.params14] at hA1
  obtain ⟨v0, v1, d0, d1, p0, p1, rfl, rfl, rfl, h0, h1⟩ := trodAll_two hA1
  refine (law_sh (ss := [.st [.st [.int, .int, .int, .int], .int, .int, .int, .st [.int, .int, .int, .int], .st [.int, .int, .int, .int]], .st [.st [.int, .int, .int, .int], .int, .int, .int, .st [.int, .int, .int, .int], .st [.int, .int, .int, .int]]]) fnExactDrawingDifference_all (by kernel_rfl) hval hA).mono fun e W' ⟨he, hg⟩ => ?_
  subst he
  exact ⟨_, rfl, law_post laidOut_prog rfl hW' (by kernel_rfl) (by kernel_rfl) Try.underlying4 rfl hg⟩

theorem fnExactDrawingDifference_holds : Rows.FnExactDrawingDifferenceSaid :=
  OpenClaim.holds_of_wide 14 Try.f14 rfl rfl rfl rfl rfl rfl rfl ⟨rfl, rfl, rfl, rfl, rfl⟩ rfl rfl rfl rfl rfl (by kernel_rfl) Try.func14 (by kernel_rfl)
    (of_decide_eq_true (by kernel_rfl)) (by unfold Func.isWrapper; first | (rw [if_pos (by decide +kernel)]; kernel_rfl) | (rw [if_neg (by decide +kernel)]; exact ⟨rfl, rfl⟩))
    (fun os started H enc _ => fnExactDrawingDifference_lifted os started H enc)

end Go.Proofs.Ytaegdaimjhhgpaa
