/- The program's ReplacePart returns what the reference's returns, for all shields and arms. No condition. -/
import Derived.Test.YtdinkfmkhdnbpaaLaw3
import Derived.Test.YtdinkfmkhdnbpaaShield13
import Derived.ProofKit
namespace Go.Proofs.Ytdinkfmkhdnbpaa
open Go.ChangeShapes Go.WideShapes Go.ChangeAt Go.RowKit
set_option linter.unusedVariables false
set_option linter.unusedSimpArgs false

theorem arms_of {ds : List D} (h : HasShL [.st [.int, .int, .int, .int], .int, .int, .int, .st [.int, .int, .int, .int], .st [.int, .int, .int, .int]] ds) : ∃ x : ArmsV, ds = x.cs := by
  simp only [HasShL, HasSh] at h
  obtain ⟨_, _, rfl, ⟨_, _, rfl, ⟨a0, rfl, _⟩, _, _, rfl, ⟨a1, rfl, _⟩, _, _, rfl, ⟨a2, rfl, _⟩, _, _, rfl, ⟨a3, rfl, _⟩, rfl⟩, _, _, rfl, ⟨a4, rfl, _⟩, _, _, rfl, ⟨a5, rfl, _⟩, _, _, rfl, ⟨a6, rfl, _⟩,
    _, _, rfl, ⟨_, _, rfl, ⟨a7, rfl, _⟩, _, _, rfl, ⟨a8, rfl, _⟩, _, _, rfl, ⟨a9, rfl, _⟩, _, _, rfl, ⟨b0, rfl, _⟩, rfl⟩, _, _, rfl, ⟨_, _, rfl, ⟨b1, rfl, _⟩, _, _, rfl, ⟨b2, rfl, _⟩, _, _, rfl, ⟨b3, rfl, _⟩, _, _, rfl, ⟨b4, rfl, _⟩, rfl⟩, rfl⟩ := h
  exact ⟨⟨a0, a1, a2, a3, a4, a5, a6, a7, a8, a9, b0, b1, b2, b3, b4⟩, rfl⟩

theorem armsC_of : ∀ es : List (List D), (∀ e ∈ es, HasShL [.st [.int, .int, .int, .int], .int, .int, .int, .st [.int, .int, .int, .int], .st [.int, .int, .int, .int]] e) → ∃ l : List ArmsV, l.length = es.length ∧ armsC l = es.flatten
  | [], _ => ⟨[], rfl, rfl⟩
  | e :: es, h => by
    obtain ⟨x, hx⟩ := arms_of (h e (by simp))
    obtain ⟨l, h1, h2⟩ := armsC_of es fun e he => h e (by simp [he])
    refine ⟨x :: l, by simp [h1], ?_⟩
    simp only [armsC, List.flatMap_cons, List.flatten_cons] at h2 ⊢
    rw [h2, hx]

theorem shield_of {ds : List D} (h : HasShL [.int, .sl (.st [.st [.int, .int, .int, .int], .int, .int, .int, .st [.int, .int, .int, .int], .st [.int, .int, .int, .int]])] ds) : ∃ (m : Int) (l : List ArmsV), D.ag ds = .ag [.int m, armsL l] ∧ l.length ≤ 9223372036854775807 := by
  obtain ⟨_, _, rfl, h1, _, _, rfl, h2, rfl⟩ := (by simpa only [HasShL] using h : ∃ a b, ds = a ++ b ∧ HasSh .int a ∧ ∃ a' b', b = a' ++ b' ∧ HasSh (.sl (.st [.st [.int, .int, .int, .int], .int, .int, .int, .st [.int, .int, .int, .int], .st [.int, .int, .int, .int]])) a' ∧ b' = [])
  rw [HasSh.eq_def] at h1 h2
  obtain ⟨m, rfl, _⟩ := h1
  obtain ⟨es, rfl, h3, h4⟩ := h2
  obtain ⟨l, h5, h6⟩ := armsC_of es fun e he => by
    have := h3 e he
    rw [HasSh.eq_def] at this
    exact this
  refine ⟨m, l, ?_, by omega⟩
  rw [armsL, h5, h6]
  rfl

theorem fnExactReplacePart_all (xs : List D) (h : ArgShL [.st [.int, .sl (.st [.st [.int, .int, .int, .int], .int, .int, .int, .st [.int, .int, .int, .int], .st [.int, .int, .int, .int]])], .st [.st [.int, .int, .int, .int], .int, .int, .int, .st [.int, .int, .int, .int], .st [.int, .int, .int, .int]], .st [.st [.int, .int, .int, .int], .int, .int, .int, .st [.int, .int, .int, .int], .st [.int, .int, .int, .int]]] xs) : FnD Try.prog 8 xs (.bool true) := by
  obtain ⟨x, _, rfl, ⟨ds, rfl, h1⟩, y, _, rfl, ⟨es, rfl, h2⟩, z, _, rfl, ⟨fs, rfl, h3⟩, rfl⟩ := h
  obtain ⟨m, l, e, hl⟩ := shield_of h1
  obtain ⟨a, ea⟩ := arms_of h2
  obtain ⟨b, eb⟩ := arms_of h3
  rw [e, ea, eb]
  exact fnExactReplacePart_fn m l a b hl

set_option maxRecDepth 100000 in
theorem fnExactReplacePart_lifted (os : Os) (started : os.Started) (H : Type) (enc : TypeId × Value → H) :
    ReturnsInHanded {} Try.checked os 8 .any (Rows.fnExactReplacePartSpec.pre6 enc Try.prog Try.f8 Rows.fnExactReplacePartRow.domain false) (Rows.fnExactReplacePartSpec.post enc Try.prog Try.f8 false true false false) := by
  refine returnsInHanded_of_change (C := Try.checked) ownKnob_none started (by kernel_rfl) Try.func8
    (ChangeSpec.witness6 (enc := enc) (C := Try.checked) false ⟨#[], #[.agg #[.int .i64 0, .slice none 0 0], .agg #[.int .i64 0, .int .i64 0, .int .i64 0, .int .i64 0, .int .i64 0, .int .i64 0, .int .i64 0, .int .i64 0, .int .i64 0, .int .i64 0, .int .i64 0, .int .i64 0, .int .i64 0, .int .i64 0, .int .i64 0], .agg #[.int .i64 0, .int .i64 0, .int .i64 0, .int .i64 0, .int .i64 0, .int .i64 0, .int .i64 0, .int .i64 0, .int .i64 0, .int .i64 0, .int .i64 0, .int .i64 0, .int .i64 0, .int .i64 0, .int .i64 0]], []⟩ 12 (by kernel_rfl) (by kernel_rfl) (by kernel_rfl) (by kernel_rfl)) ?_
  intro W base args ds gs before hval0 hW hcnd _
  have hW' := hW
  obtain ⟨p, q, hA0, hV, rfl, hfz, hnd⟩ := hW
  have hA : DataW.TrodAll enc Try.prog W 0 (fun _ => true) true Try.f8.params.toList args.toList ds p := hA0
  have hval : ∀ (j : Nat) t v, Try.f8.params.toList[j]? = some t → args.toList[j]? = some v → Value.okWide Try.prog W .any base t v := fun j t v h1 h2 => hval0 j t v (by simpa using h1) (by simpa using h2)
  have hA1 := hA
  rw [Try.params8] at hA1
  obtain ⟨v0, v1, v2, d0, d1, d2, p0, p1, p2, rfl, rfl, rfl, h0, h1, h2⟩ := trodAll_three hA1
  refine (law_sh (ss := [.st [.int, .sl (.st [.st [.int, .int, .int, .int], .int, .int, .int, .st [.int, .int, .int, .int], .st [.int, .int, .int, .int]])], .st [.st [.int, .int, .int, .int], .int, .int, .int, .st [.int, .int, .int, .int], .st [.int, .int, .int, .int]], .st [.st [.int, .int, .int, .int], .int, .int, .int, .st [.int, .int, .int, .int], .st [.int, .int, .int, .int]]]) fnExactReplacePart_all (by kernel_rfl) hval hA).mono fun e W' ⟨he, hg⟩ => ?_
  subst he
  exact ⟨_, rfl, law_post laidOut_prog rfl hW' (by kernel_rfl) (by kernel_rfl) Try.underlying4 rfl hg⟩

/-- THE STATEMENT. -/
theorem fnExactReplacePart_holds : Rows.FnExactReplacePartSaid :=
  OpenClaim.holds_of_wide 8 Try.f8 rfl rfl rfl rfl rfl rfl rfl ⟨rfl, rfl, rfl, rfl, rfl⟩ rfl rfl rfl rfl rfl (by kernel_rfl) Try.func8 (by kernel_rfl)
    (of_decide_eq_true (by kernel_rfl)) (by unfold Func.isWrapper; first | (rw [if_pos (by decide +kernel)]; kernel_rfl) | (rw [if_neg (by decide +kernel)]; exact ⟨rfl, rfl⟩))
    (fun os started H enc _ => fnExactReplacePart_lifted os started H enc)

end Go.Proofs.Ytdinkfmkhdnbpaa
