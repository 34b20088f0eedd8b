/- The program's IsValidFamily returns what the reference's returns, for all families. No condition. -/
import Derived.Test.YthjafngffkhffaaLaw3
import Derived.Test.YthjafngffkhffaaFam2
import Derived.ProofKit
namespace Go.Proofs.Ythjafngffkhffaa
open Go.ChangeShapes Go.WideShapes Go.ChangeAt Go.RowKit
set_option linter.unusedVariables false
set_option linter.unusedSimpArgs false

theorem per_of {ds : List D} (h : HasShL [.int, .int, .int, .int, .int] ds) : ∃ x : PerV, ds = x.cs := by
  simp only [HasShL, HasSh] at h
  obtain ⟨_, _, rfl, ⟨a0, rfl, _⟩, _, _, rfl, ⟨a1, rfl, _⟩, _, _, rfl, ⟨a2, rfl, _⟩, _, _, rfl, ⟨a3, rfl, _⟩, _, _, rfl, ⟨a4, rfl, _⟩, rfl⟩ := h
  exact ⟨⟨a0, a1, a2, a3, a4⟩, rfl⟩

theorem perC_of : ∀ es : List (List D), (∀ e ∈ es, HasShL [.int, .int, .int, .int, .int] e) → ∃ l : List PerV, l.length = es.length ∧ perC l = es.flatten
  | [], _ => ⟨[], rfl, rfl⟩
  | e :: es, h => by
    obtain ⟨x, hx⟩ := per_of (h e (by simp))
    obtain ⟨l, h1, h2⟩ := perC_of es fun e he => h e (by simp [he])
    refine ⟨x :: l, by simp [h1], ?_⟩
    simp only [perC, recC, List.flatMap_cons, List.flatten_cons] at h2 ⊢
    rw [h2, hx]

theorem fam_of {ds : List D} (h : HasShL [.sl (.st [.int, .int, .int, .int, .int])] ds) : ∃ l : List PerV, D.ag ds = famD l ∧ l.length ≤ 9223372036854775807 := by
  obtain ⟨_, _, rfl, h1, rfl⟩ := (by simpa only [HasShL] using h : ∃ a b, ds = a ++ b ∧ HasSh (.sl (.st [.int, .int, .int, .int, .int])) a ∧ b = [])
  rw [HasSh.eq_def] at h1
  obtain ⟨es, rfl, h3, h4⟩ := h1
  obtain ⟨l, h5, h6⟩ := perC_of es fun e he => by
    have := h3 e he
    rw [HasSh.eq_def] at this
    exact this
  refine ⟨l, ?_, by omega⟩
  rw [famD, perL, h5, h6]
  rfl

theorem fnExactIsValidFamily_all (xs : List D) (h : ArgShL [.st [.sl (.st [.int, .int, .int, .int, .int])]] xs) : FnD Try.prog 3 xs (.bool true) := by
  obtain ⟨x, _, rfl, ⟨ds, rfl, h1⟩, rfl⟩ := h
  obtain ⟨l, e, hl⟩ := fam_of h1
  rw [e]
  exact fnExactIsValidFamily_fn l hl

set_option maxRecDepth 100000 in
theorem fnExactIsValidFamily_lifted (os : Os) (started : os.Started) (H : Type) (enc : TypeId × Value → H) :
    ReturnsInHanded {} Try.checked os 3 .any (Rows.fnExactIsValidFamilySpec.pre6 enc Try.prog Try.f3 Rows.fnExactIsValidFamilyRow.domain false) (Rows.fnExactIsValidFamilySpec.post enc Try.prog Try.f3 false true false false) := by
  refine returnsInHanded_of_change (C := Try.checked) ownKnob_none started (by kernel_rfl) Try.func3
    (ChangeSpec.witness6 (enc := enc) (C := Try.checked) false ⟨#[], #[.agg #[.slice none 0 0]], []⟩ 12 (by kernel_rfl) (by kernel_rfl) (by kernel_rfl) (by kernel_rfl)) ?_
  intro W base args ds gs before hval0 hW hcnd _
  have hW' := hW
  obtain ⟨p, q, hA0, hV, rfl, hfz, hnd⟩ := hW
  have hA : DataW.TrodAll enc Try.prog W 0 (fun _ => true) true Try.f3.params.toList args.toList ds p := hA0
  have hval : ∀ (j : Nat) t v, Try.f3.params.toList[j]? = some t → args.toList[j]? = some v → Value.okWide Try.prog W .any base t v := fun j t v h1 h2 => hval0 j t v (by simpa using h1) (by simpa using h2)
  have hA1 := hA
  rw [Try.params3] at hA1
  obtain ⟨v0, d0, rfl, rfl, h0⟩ := trodAll_one hA1
  refine (law_sh (ss := [.st [.sl (.st [.int, .int, .int, .int, .int])]]) fnExactIsValidFamily_all (by kernel_rfl) hval hA).mono fun e W' ⟨he, hg⟩ => ?_
  subst he
  exact ⟨_, rfl, law_post laidOut_prog rfl hW' (by kernel_rfl) (by kernel_rfl) Try.underlying4 rfl hg⟩

/-- THE STATEMENT. -/
theorem fnExactIsValidFamily_holds : Rows.FnExactIsValidFamilySaid :=
  OpenClaim.holds_of_wide 3 Try.f3 rfl rfl rfl rfl rfl rfl rfl ⟨rfl, rfl, rfl, rfl, rfl⟩ rfl rfl rfl rfl rfl (by kernel_rfl) Try.func3 (by kernel_rfl)
    (of_decide_eq_true (by kernel_rfl)) (by unfold Func.isWrapper; first | (rw [if_pos (by decide +kernel)]; kernel_rfl) | (rw [if_neg (by decide +kernel)]; exact ⟨rfl, rfl⟩))
    (fun os started H enc _ => fnExactIsValidFamily_lifted os started H enc)

end Go.Proofs.Ythjafngffkhffaa
