/- The program's PiecesOf returns what the reference's returns, for all regions. No condition. -/
import Derived.Test.YtjfeleejiofeoaaLaw
import Derived.Test.YtjfeleejiofeoaaPie2
import Derived.ProofKit
namespace Go.Proofs.Ytjfeleejiofeoaa
open Go.ChangeShapes Go.WideShapes Go.ChangeAt Go.RowKit
set_option linter.unusedVariables false
set_option linter.unusedSimpArgs false

theorem intC_of : ∀ es : List (List D), (∀ e ∈ es, HasSh .int e) → ∃ l : List Int, l.length = es.length ∧ l.map D.int = es.flatten ∧ inI l
  | [], _ => ⟨[], rfl, rfl, fun i => by simp⟩
  | e :: es, h => by
    have h0 := h e (by simp)
    rw [HasSh.eq_def] at h0
    obtain ⟨x, rfl, hx⟩ := h0
    obtain ⟨l, h1, h2, h3⟩ := intC_of es fun e he => h e (by simp [he])
    refine ⟨x :: l, by simp [h1], by simp [h2], fun i => ?_⟩
    cases i with
    | zero => simpa using hx
    | succ i => simpa using h3 i

theorem region_of {ds : List D} (h : HasShL [.sl .int] ds) : ∃ l : List Int, D.ag ds = .ag [intL l] ∧ l.length ≤ 9223372036854775807 ∧ inI l := by
  obtain ⟨_, _, rfl, h1, rfl⟩ := (by simpa only [HasShL] using h : ∃ a b, ds = a ++ b ∧ HasSh (.sl .int) a ∧ b = [])
  rw [HasSh.eq_def] at h1
  obtain ⟨es, rfl, h3, h4⟩ := h1
  obtain ⟨l, h5, h6, h7⟩ := intC_of es h3
  refine ⟨l, ?_, by omega, h7⟩
  rw [intL, h5, h6]
  rfl

theorem fnExactPiecesOf_all (xs : List D) (h : ArgShL [.st [.sl .int]] xs) : FnD Try.prog 6 xs (.bool true) := by
  obtain ⟨x, _, rfl, ⟨ds, rfl, h1⟩, rfl⟩ := h
  obtain ⟨l, e, hl, hi⟩ := region_of h1
  rw [e]
  exact fnExactPiecesOf_fn l hl hi

set_option maxRecDepth 100000 in
theorem fnExactPiecesOf_lifted (os : Os) (started : os.Started) (H : Type) (enc : TypeId × Value → H) :
    ReturnsInHanded {} Try.checked os 6 .any (Rows.fnExactPiecesOfSpec.pre6 enc Try.prog Try.f6 Rows.fnExactPiecesOfRow.domain false) (Rows.fnExactPiecesOfSpec.post enc Try.prog Try.f6 false true false false) := by
  refine returnsInHanded_of_change (C := Try.checked) ownKnob_none started (by kernel_rfl) Try.func6
    (ChangeSpec.witness6 (enc := enc) (C := Try.checked) false ⟨#[], #[.agg #[.slice none 0 0]], []⟩ 12 (by kernel_rfl) (by kernel_rfl) (by kernel_rfl) (by kernel_rfl)) ?_
  intro W base args ds gs before hval0 hW hcnd _
  have hW' := hW
  obtain ⟨p, q, hA0, hV, rfl, hfz, hnd⟩ := hW
  have hA : DataW.TrodAll enc Try.prog W 0 (fun _ => true) true Try.f6.params.toList args.toList ds p := hA0
  have hval : ∀ (j : Nat) t v, Try.f6.params.toList[j]? = some t → args.toList[j]? = some v → Value.okWide Try.prog W .any base t v := fun j t v h1 h2 => hval0 j t v (by simpa using h1) (by simpa using h2)
  have hA1 := hA
  rw [Try.params6] at hA1
  obtain ⟨v0, d0, rfl, rfl, h0⟩ := trodAll_one hA1
  refine (law_sh (ss := [.st [.sl .int]]) fnExactPiecesOf_all (by kernel_rfl) hval hA (fun b hb => absurd hb (by simp [globB]))).mono fun e W' ⟨he, hg⟩ => ?_
  subst he
  exact ⟨_, rfl, law_post laidOut_prog rfl hW' (by kernel_rfl) (by kernel_rfl) Try.underlying4 rfl hg⟩

theorem fnExactPiecesOf_holds : Rows.FnExactPiecesOfSaid :=
  OpenClaim.holds_of_wide 6 Try.f6 rfl rfl rfl rfl rfl rfl rfl ⟨rfl, rfl, rfl, rfl, rfl⟩ rfl rfl rfl rfl rfl (by kernel_rfl) Try.func6 (by kernel_rfl)
    (of_decide_eq_true (by kernel_rfl)) (by unfold Func.isWrapper; first | (rw [if_pos (by decide +kernel)]; kernel_rfl) | (rw [if_neg (by decide +kernel)]; exact ⟨rfl, rfl⟩))
    (fun os started H enc _ => fnExactPiecesOf_lifted os started H enc)

end Go.Proofs.Ytjfeleejiofeoaa
