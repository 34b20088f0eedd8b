/- The program's AddPerson returns what the reference's returns, for all families and persons. No condition. -/
import Derived.Test.YthjafngffkhffaaLaw
import Derived.Test.YthjafngffkhffaaAddL
import Derived.Test.YthjafngffkhffaaPFam
import Derived.ProofKit
namespace Go.Proofs.Ythjafngffkhffaa
open Go.ChangeShapes Go.WideShapes Go.ChangeAt Go.RowKit
set_option linter.unusedVariables false
set_option linter.unusedSimpArgs false

theorem fnExactAddPerson_all (xs : List D) (h : ArgShL [.st [.sl (.st [.int, .int, .int, .int, .int])], .st [.int, .int, .int, .int, .int]] xs) : FnD Try.prog 11 xs (.bool true) := by
  obtain ⟨x, _, rfl, ⟨ds, rfl, h1⟩, y, _, rfl, ⟨es, rfl, h2⟩, rfl⟩ := h
  obtain ⟨l, e, hl⟩ := fam_of h1
  obtain ⟨p, rfl⟩ := per_of h2
  rw [e]
  exact fnExactAddPerson_fn l p hl

set_option maxRecDepth 100000 in
theorem fnExactAddPerson_lifted (os : Os) (started : os.Started) (H : Type) (enc : TypeId × Value → H) :
    ReturnsInHanded {} Try.checked os 11 .any (Rows.fnExactAddPersonSpec.pre6 enc Try.prog Try.f11 Rows.fnExactAddPersonRow.domain false) (Rows.fnExactAddPersonSpec.post enc Try.prog Try.f11 false true false false) := by
  refine returnsInHanded_of_change (C := Try.checked) ownKnob_none started (by kernel_rfl) Try.func11
    (ChangeSpec.witness6 (enc := enc) (C := Try.checked) false ⟨#[], #[.agg #[.slice none 0 0], .agg #[.int .i64 0, .int .i64 0, .int .i64 0, .int .i64 0, .int .i64 0]], []⟩ 12 (by kernel_rfl) (by kernel_rfl) (by kernel_rfl) (by kernel_rfl)) ?_
  intro W base args ds gs before hval0 hW hcnd _
  have hW' := hW
  obtain ⟨p, q, hA0, hV, rfl, hfz, hnd⟩ := hW
  have hA : DataW.TrodAll enc Try.prog W 0 (fun _ => true) true Try.f11.params.toList args.toList ds p := hA0
  have hval : ∀ (j : Nat) t v, Try.f11.params.toList[j]? = some t → args.toList[j]? = some v → Value.okWide Try.prog W .any base t v := fun j t v h1 h2 => hval0 j t v (by simpa using h1) (by simpa using h2)
  have hA1 := hA
  rw [Try.params11] at hA1
  obtain ⟨v0, v1, d0, d1, p0, p1, rfl, rfl, rfl, h0, h1⟩ := trodAll_two hA1
  refine (law_sh (ss := [.st [.sl (.st [.int, .int, .int, .int, .int])], .st [.int, .int, .int, .int, .int]]) fnExactAddPerson_all (by kernel_rfl) hval hA).mono fun e W' ⟨he, hg⟩ => ?_
  subst he
  exact ⟨_, rfl, law_post laidOut_prog rfl hW' (by kernel_rfl) (by kernel_rfl) Try.underlying4 rfl hg⟩

theorem fnExactAddPerson_holds : Rows.FnExactAddPersonSaid :=
  OpenClaim.holds_of_wide 11 Try.f11 rfl rfl rfl rfl rfl rfl rfl ⟨rfl, rfl, rfl, rfl, rfl⟩ rfl rfl rfl rfl rfl (by kernel_rfl) Try.func11 (by kernel_rfl)
    (of_decide_eq_true (by kernel_rfl)) (by unfold Func.isWrapper; first | (rw [if_pos (by decide +kernel)]; kernel_rfl) | (rw [if_neg (by decide +kernel)]; exact ⟨rfl, rfl⟩))
    (fun os started H enc _ => fnExactAddPerson_lifted os started H enc)

end Go.Proofs.Ythjafngffkhffaa
