/- The program's FieldPicture returns what the reference's returns, for all arguments. No condition. -/
import Derived.Test.YtaegdaimjhhgpaaLaw3
import Derived.Test.YtaegdaimjhhgpaaPic4
import Derived.ProofKit
namespace Go.Proofs.Ytaegdaimjhhgpaa
open Go.ChangeShapes Go.WideShapes Go.ChangeAt Go.RowKit
set_option linter.unusedVariables false
set_option linter.unusedSimpArgs false

theorem fieldSh_of {ds : List D} (h : HasShL [.int, .int, .int, .int] ds) : ∃ d l f s : Int, D.ag ds = .ag [.int d, .int l, .int f, .int s] := by
  simp only [HasShL, HasSh] at h
  obtain ⟨_, _, rfl, ⟨a0, rfl, _⟩, _, _, rfl, ⟨a1, rfl, _⟩, _, _, rfl, ⟨a2, rfl, _⟩, _, _, rfl, ⟨a3, rfl, _⟩, rfl⟩ := h
  exact ⟨a0, a1, a2, a3, rfl⟩

theorem fnExactFieldPicture_all (xs : List D) (h : ArgShL [.st [.int, .int, .int, .int]] xs) : FnD Try.prog 3 xs (.bool true) := by
  obtain ⟨x, _, rfl, ⟨ds, rfl, h1⟩, rfl⟩ := h
  obtain ⟨d, l, f, s, e⟩ := fieldSh_of h1
  rw [e]
  exact fnExactFieldPicture_fn d l f s

set_option maxRecDepth 100000 in
theorem fnExactFieldPicture_lifted (os : Os) (started : os.Started) (H : Type) (enc : TypeId × Value → H) :
    ReturnsInHanded {} Try.checked os 3 .any (Rows.fnExactFieldPictureSpec.pre6 enc Try.prog Try.f3 Rows.fnExactFieldPictureRow.domain false) (Rows.fnExactFieldPictureSpec.post enc Try.prog Try.f3 false true false false) := by
  refine returnsInHanded_of_change (C := Try.checked) ownKnob_none started (by kernel_rfl) Try.func3
    (ChangeSpec.witness6 (enc := enc) (C := Try.checked) false ⟨#[], #[.agg #[.int .i64 0, .int .i64 0, .int .i64 0, .int .i64 0]], []⟩ 12 (by kernel_rfl) (by kernel_rfl) (by kernel_rfl) (by kernel_rfl)) ?_
  intro W base args ds gs before hval0 hW hcnd _
  have hW' := hW
  obtain ⟨p, q, hA0, hV, rfl, hfz, hnd⟩ := hW
  have hA : DataW.TrodAll enc Try.prog W 0 (fun _ => true) true Try.f3.params.toList args.toList ds p := hA0
  have hval : ∀ (j : Nat) t v, Try.f3.params.toList[j]? = some t → args.toList[j]? = some v → Value.okWide Try.prog W .any base t v := fun j t v h1 h2 => hval0 j t v (by simpa using h1) (by simpa using h2)
  have hA1 := hA
  rw [Try.params3] at hA1
  obtain ⟨v0, d0, rfl, rfl, h0⟩ := trodAll_one hA1
  refine (law_sh (ss := [.st [.int, .int, .int, .int]]) fnExactFieldPicture_all (by kernel_rfl) hval hA).mono fun e W' ⟨he, hg⟩ => ?_
  subst he
  exact ⟨_, rfl, law_post laidOut_prog rfl hW' (by kernel_rfl) (by kernel_rfl) Try.underlying4 rfl hg⟩

/-- THE STATEMENT. -/
theorem fnExactFieldPicture_holds : Rows.FnExactFieldPictureSaid :=
  OpenClaim.holds_of_wide 3 Try.f3 rfl rfl rfl rfl rfl rfl rfl ⟨rfl, rfl, rfl, rfl, rfl⟩ rfl rfl rfl rfl rfl (by kernel_rfl) Try.func3 (by kernel_rfl)
    (of_decide_eq_true (by kernel_rfl)) (by unfold Func.isWrapper; first | (rw [if_pos (by decide +kernel)]; kernel_rfl) | (rw [if_neg (by decide +kernel)]; exact ⟨rfl, rfl⟩))
    (fun os started H enc _ => fnExactFieldPicture_lifted os started H enc)

end Go.Proofs.Ytaegdaimjhhgpaa
