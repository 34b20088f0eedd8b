/- The program's TinctureAt returns what the reference's returns, for all arguments. No condition. -/
import Derived.Test.YtaegdaimjhhgpaaPArms
import Derived.Test.YtaegdaimjhhgpaaTinA
import Derived.ProofKit
namespace Go.Proofs.Ytaegdaimjhhgpaa
open Go.ChangeShapes Go.WideShapes Go.ChangeAt Go.RowKit
set_option linter.unusedVariables false
set_option linter.unusedSimpArgs false

theorem fnExactTinctureAt_all (xs : List D) (h : ArgShL [.st [.st [.int, .int, .int, .int], .int, .int, .int, .st [.int, .int, .int, .int], .st [.int, .int, .int, .int]], .int, .int] xs) : FnD Try.prog 11 xs (.bool true) := by
  obtain ⟨x, _, rfl, ⟨ds, rfl, h1⟩, y, _, rfl, ⟨s0, q0, _⟩, z, _, rfl, ⟨s1, q1, _⟩, rfl⟩ := h
  obtain ⟨a, e⟩ := arms_of h1
  cases q0
  cases q1
  rw [e]
  exact fnExactTinctureAt_fn a s0 s1

set_option maxRecDepth 100000 in
theorem fnExactTinctureAt_lifted (os : Os) (started : os.Started) (H : Type) (enc : TypeId × Value → H) :
    ReturnsInHanded {} Try.checked os 11 .any (Rows.fnExactTinctureAtSpec.pre6 enc Try.prog Try.f11 Rows.fnExactTinctureAtRow.domain false) (Rows.fnExactTinctureAtSpec.post enc Try.prog Try.f11 false true false false) := by
  refine returnsInHanded_of_change (C := Try.checked) ownKnob_none started (by kernel_rfl) Try.func11
    (ChangeSpec.witness6 (enc := enc) (C := Try.checked) false ⟨#[], #[.agg #[.int .i64 0, .int .i64 0, .int .i64 0, .int .i64 0, .int .i64 0, .int .i64 0, .int .i64 0, .int .i64 0, .int .i64 0, .int .i64 0, .int .i64 0, .int .i64 0, .int .i64 0, .int .i64 0, .int .i64 0], .int .i64 0, .int .i64 0], []⟩ 12 (by kernel_rfl) (by kernel_rfl) (by kernel_rfl) (by kernel_rfl)) ?_
  intro W base args ds gs before hval0 hW hcnd _
  have hW' := hW
  obtain ⟨p, q, hA0, hV, rfl, hfz, hnd⟩ := hW
  have hA : DataW.TrodAll enc Try.prog W 0 (fun _ => true) true Try.f11.params.toList args.toList ds p := hA0
  have hval : ∀ (j : Nat) t v, Try.f11.params.toList[j]? = some t → args.toList[j]? = some v → Value.okWide Try.prog W .any base t v := fun j t v h1 h2 => hval0 j t v (by simpa using h1) (by simpa using h2)
  have hA1 := hA
  rw [Try.params11] at hA1
  obtain ⟨v0, v1, v2, d0, d1, d2, p0, p1, p2, rfl, rfl, rfl, h0, h1, h2⟩ := trodAll_three hA1
  refine (law_sh (ss := [.st [.st [.int, .int, .int, .int], .int, .int, .int, .st [.int, .int, .int, .int], .st [.int, .int, .int, .int]], .int, .int]) fnExactTinctureAt_all (by kernel_rfl) hval hA).mono fun e W' ⟨he, hg⟩ => ?_
  subst he
  exact ⟨_, rfl, law_post laidOut_prog rfl hW' (by kernel_rfl) (by kernel_rfl) Try.underlying4 rfl hg⟩

/-- THE STATEMENT. -/
theorem fnExactTinctureAt_holds : Rows.FnExactTinctureAtSaid :=
  OpenClaim.holds_of_wide 11 Try.f11 rfl rfl rfl rfl rfl rfl rfl ⟨rfl, rfl, rfl, rfl, rfl⟩ rfl rfl rfl rfl rfl (by kernel_rfl) Try.func11 (by kernel_rfl)
    (of_decide_eq_true (by kernel_rfl)) (by unfold Func.isWrapper; first | (rw [if_pos (by decide +kernel)]; kernel_rfl) | (rw [if_neg (by decide +kernel)]; exact ⟨rfl, rfl⟩))
    (fun os started H enc _ => fnExactTinctureAt_lifted os started H enc)

end Go.Proofs.Ytaegdaimjhhgpaa
