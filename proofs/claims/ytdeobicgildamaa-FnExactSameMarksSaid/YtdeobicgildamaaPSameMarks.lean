/- The program's SameMarks returns what the reference's returns, for all families and numbers. No condition. -/
import Derived.Test.YtdeobicgildamaaLaw
import Derived.Test.YtdeobicgildamaaSam4
import Derived.Test.YtdeobicgildamaaPFam
import Derived.ProofKit
namespace Go.Proofs.Ytdeobicgildamaa
open Go.ChangeShapes Go.WideShapes Go.ChangeAt Go.RowKit
set_option linter.unusedVariables false
set_option linter.unusedSimpArgs false

theorem fnExactSameMarks_all (xs : List D) (h : ArgShL [.st [.sl (.st [.int, .int, .int, .int, .int])], .int, .int] xs) : FnD Try.prog 4 xs (.bool true) := by
  obtain ⟨x, _, rfl, ⟨ds, rfl, h1⟩, y, _, rfl, hy, z, _, rfl, hz, rfl⟩ := h
  obtain ⟨l, e, hl⟩ := fam_of h1
  obtain ⟨a, e'⟩ := int_of hy
  obtain ⟨b, e''⟩ := int_of hz
  rw [e, e', e'']
  exact fnExactSameMarks_fn l a b hl

set_option maxRecDepth 100000 in
theorem fnExactSameMarks_lifted (os : Os) (started : os.Started) (H : Type) (enc : TypeId × Value → H) :
    ReturnsInHanded {} Try.checked os 4 .any (Rows.fnExactSameMarksSpec.pre6 enc Try.prog Try.f4 Rows.fnExactSameMarksRow.domain false) (Rows.fnExactSameMarksSpec.post enc Try.prog Try.f4 false true false false) := by
  refine returnsInHanded_of_change (C := Try.checked) ownKnob_none started (by kernel_rfl) Try.func4
    (ChangeSpec.witness6 (enc := enc) (C := Try.checked) false ⟨#[], #[.agg #[.slice none 0 0], .int .i64 0, .int .i64 0], []⟩ 12 (by kernel_rfl) (by kernel_rfl) (by kernel_rfl) (by kernel_rfl)) ?_
  intro W base args ds gs before hval0 hW hcnd _
  have hW' := hW
  obtain ⟨p, q, hA0, hV, rfl, hfz, hnd⟩ := hW
  have hA : DataW.TrodAll enc Try.prog W 0 (fun _ => true) true Try.f4.params.toList args.toList ds p := hA0
  have hval : ∀ (j : Nat) t v, Try.f4.params.toList[j]? = some t → args.toList[j]? = some v → Value.okWide Try.prog W .any base t v := fun j t v h1 h2 => hval0 j t v (by simpa using h1) (by simpa using h2)
  have hA1 := hA
  rw [Try.params4] at hA1
  obtain ⟨v0, v1, v2, d0, d1, d2, p0, p1, p2, rfl, rfl, rfl, h0, h1, h2⟩ := trodAll_three hA1
  refine (law_sh (ss := [.st [.sl (.st [.int, .int, .int, .int, .int])], .int, .int]) fnExactSameMarks_all (by kernel_rfl) hval hA).mono fun e W' ⟨he, hg⟩ => ?_
  subst he
  exact ⟨_, rfl, law_post laidOut_prog rfl hW' (by kernel_rfl) (by kernel_rfl) Try.underlying4 rfl hg⟩

theorem fnExactSameMarks_holds : Rows.FnExactSameMarksSaid :=
  OpenClaim.holds_of_wide 4 Try.f4 rfl rfl rfl rfl rfl rfl rfl ⟨rfl, rfl, rfl, rfl, rfl⟩ rfl rfl rfl rfl rfl (by kernel_rfl) Try.func4 (by kernel_rfl)
    (of_decide_eq_true (by kernel_rfl)) (by unfold Func.isWrapper; first | (rw [if_pos (by decide +kernel)]; kernel_rfl) | (rw [if_neg (by decide +kernel)]; exact ⟨rfl, rfl⟩))
    (fun os started H enc _ => fnExactSameMarks_lifted os started H enc)

end Go.Proofs.Ytdeobicgildamaa
