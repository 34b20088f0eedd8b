/- The program's MarksText returns what the reference's returns, for all lists. No condition. -/
import Derived.Test.YtdeobicgildamaaLaw
import Derived.Test.YtdeobicgildamaaMtW
import Derived.ProofKit
namespace Go.Proofs.Ytdeobicgildamaa
open Go.ChangeShapes Go.WideShapes Go.ChangeAt Go.RowKit
set_option linter.unusedVariables false
set_option linter.unusedSimpArgs false

theorem intM_of : ∀ es : List (List D), (∀ e ∈ es, HasSh .int e) → ∃ l : List Int, l.length = es.length ∧ l.map D.int = es.flatten
  | [], _ => ⟨[], rfl, rfl⟩
  | e :: es, h => by
    have h0 := h e (by simp)
    rw [HasSh.eq_def] at h0
    obtain ⟨x, rfl, hx⟩ := h0
    obtain ⟨l, h1, h2⟩ := intM_of es fun e he => h e (by simp [he])
    exact ⟨x :: l, by simp [h1], by simp [h2]⟩

theorem intS_of {d : D} (h : ArgSh (.sl .int) d) : ∃ l : List Int, d = intL l ∧ l.length ≤ 9223372036854775807 := by
  simp only [ArgSh] at h
  rw [HasSh.eq_def] at h
  obtain ⟨es, h1, h2, h3⟩ := h
  obtain ⟨l, k1, k2⟩ := intM_of es h2
  refine ⟨l, ?_, by omega⟩
  rw [(List.cons.inj h1).1, intL, k1, k2]
  rfl

theorem fnExactMarksText_all (xs : List D) (h : ArgShL [.sl .int] xs) : FnD Try.prog 3 xs (.bool true) := by
  obtain ⟨x, _, rfl, hx, rfl⟩ := h
  obtain ⟨l, e, hl⟩ := intS_of hx
  rw [e]
  exact fnExactMarksText_fn l hl

set_option maxRecDepth 100000 in
theorem fnExactMarksText_lifted (os : Os) (started : os.Started) (H : Type) (enc : TypeId × Value → H) :
    ReturnsInHanded {} Try.checked os 3 .any (Rows.fnExactMarksTextSpec.pre6 enc Try.prog Try.f3 Rows.fnExactMarksTextRow.domain false) (Rows.fnExactMarksTextSpec.post enc Try.prog Try.f3 false true false false) := by
  refine returnsInHanded_of_change_shaped (C := Try.checked) ownKnob_none started (by kernel_rfl) Try.func3
    (ChangeSpec.witness6 (enc := enc) (C := Try.checked) false ⟨#[], #[.slice none 0 0], []⟩ 12 (by kernel_rfl) (by kernel_rfl) (by kernel_rfl) (by kernel_rfl)) ?_
  intro W base args ds gs before hval0 hW hcnd _ hshape _
  have hW' := hW
  obtain ⟨p, q, hA0, hV, rfl, hfz, hnd⟩ := hW
  have hA : DataW.TrodAll enc Try.prog W 0 (fun _ => true) true Try.f3.params.toList args.toList ds p := hA0
  have hval : ∀ (j : Nat) t v, Try.f3.params.toList[j]? = some t → args.toList[j]? = some v → Value.okWide Try.prog W .any base t v := fun j t v h1 h2 => hval0 j t v (by simpa using h1) (by simpa using h2)
  have hA1 := hA
  rw [Try.params3] at hA1
  obtain ⟨v0, d0, rfl, rfl, h0⟩ := trodAll_one hA1
  refine (law_sh (ss := [.sl .int]) fnExactMarksText_all (by kernel_rfl) hval hA (glob_shaped hshape)).mono fun e W' ⟨he, hg⟩ => ?_
  subst he
  exact ⟨_, rfl, law_post laidOut_prog rfl hW' (by kernel_rfl) (by kernel_rfl) Try.underlying4 rfl hg⟩

theorem fnExactMarksText_holds : Rows.FnExactMarksTextSaid :=
  OpenClaim.holds_of_wide 3 Try.f3 rfl rfl rfl rfl rfl rfl rfl ⟨rfl, rfl, rfl, rfl, rfl⟩ rfl rfl rfl rfl rfl (by kernel_rfl) Try.func3 (by kernel_rfl)
    (of_decide_eq_true (by kernel_rfl)) (by unfold Func.isWrapper; first | (rw [if_pos (by decide +kernel)]; kernel_rfl) | (rw [if_neg (by decide +kernel)]; exact ⟨rfl, rfl⟩))
    (fun os started H enc _ => fnExactMarksText_lifted os started H enc)

end Go.Proofs.Ytdeobicgildamaa
