/- The program's SketchText returns what the reference's returns, for all sketches. No condition. -/
import Derived.Test.YteimddagjikcaaaLaw
import Derived.Test.YteimddagjikcaaaSlr
import Derived.ProofKit
namespace Go.Proofs.Yteimddagjikcaaa
open Go.ChangeShapes Go.WideShapes Go.ChangeAt Go.RowKit
set_option linter.unusedVariables false
set_option linter.unusedSimpArgs false

theorem skArms_of {ds : List D} (h : HasShL [.st [.int, .int, .int, .int], .int, .int, .int, .st [.int, .int, .int, .int], .st [.int, .int, .int, .int]] ds) : ∃ x : ArmsV, ds = x.cs := by
  simp only [HasShL, HasSh] at h
  obtain ⟨_, _, rfl, ⟨_, _, rfl, ⟨a0, rfl, _⟩, _, _, rfl, ⟨a1, rfl, _⟩, _, _, rfl, ⟨a2, rfl, _⟩, _, _, rfl, ⟨a3, rfl, _⟩, rfl⟩, _, _, rfl, ⟨a4, rfl, _⟩, _, _, rfl, ⟨a5, rfl, _⟩, _, _, rfl, ⟨a6, rfl, _⟩,
    _, _, rfl, ⟨_, _, rfl, ⟨a7, rfl, _⟩, _, _, rfl, ⟨a8, rfl, _⟩, _, _, rfl, ⟨a9, rfl, _⟩, _, _, rfl, ⟨b0, rfl, _⟩, rfl⟩, _, _, rfl, ⟨_, _, rfl, ⟨b1, rfl, _⟩, _, _, rfl, ⟨b2, rfl, _⟩, _, _, rfl, ⟨b3, rfl, _⟩, _, _, rfl, ⟨b4, rfl, _⟩, rfl⟩, rfl⟩ := h
  exact ⟨⟨a0, a1, a2, a3, a4, a5, a6, a7, a8, a9, b0, b1, b2, b3, b4⟩, rfl⟩

theorem slot_of {ds : List D} (h : HasShL [.int, .int] ds) : ∃ x : SlV, ds = x.cs := by
  simp only [HasShL, HasSh] at h
  obtain ⟨_, _, rfl, ⟨a0, rfl, _⟩, _, _, rfl, ⟨a1, rfl, _⟩, rfl⟩ := h
  exact ⟨⟨a0, a1⟩, rfl⟩

theorem slots_of : ∀ es : List (List D), (∀ e ∈ es, HasShL [.int, .int] e) → ∃ l : List SlV, l.length = es.length ∧ recC SlV.cs l = es.flatten
  | [], _ => ⟨[], rfl, rfl⟩
  | e :: es, h => by
    obtain ⟨x, hx⟩ := slot_of (h e (by simp))
    obtain ⟨l, h1, h2⟩ := slots_of es fun e he => h e (by simp [he])
    refine ⟨x :: l, by simp [h1], ?_⟩
    simp only [recC, List.flatMap_cons, List.flatten_cons] at h2 ⊢
    rw [h2, hx]

theorem sketch_of {ds : List D} (h : HasShL [.st [.st [.int, .int, .int, .int], .int, .int, .int, .st [.int, .int, .int, .int], .st [.int, .int, .int, .int]], .sl (.st [.int, .int])] ds) : ∃ (x : ArmsV) (l : List SlV), D.ag ds = skD x l ∧ l.length ≤ 9223372036854775807 := by
  obtain ⟨_, _, rfl, h1, _, _, rfl, h2, rfl⟩ := (by simpa only [HasShL] using h : ∃ a b, ds = a ++ b ∧ HasSh (.st [.st [.int, .int, .int, .int], .int, .int, .int, .st [.int, .int, .int, .int], .st [.int, .int, .int, .int]]) a ∧ ∃ a' b', b = a' ++ b' ∧ HasSh (.sl (.st [.int, .int])) a' ∧ b' = [])
  rw [HasSh.eq_def] at h1 h2
  obtain ⟨es, rfl, h3, h4⟩ := h2
  obtain ⟨x, rfl⟩ := skArms_of h1
  obtain ⟨l, h5, h6⟩ := slots_of es fun e he => by
    have := h3 e he
    rw [HasSh.eq_def] at this
    exact this
  refine ⟨x, l, ?_, by omega⟩
  rw [skD, slL, h5, h6]
  rfl

theorem fnExactSketchText_all (xs : List D) (h : ArgShL [.st [.st [.st [.int, .int, .int, .int], .int, .int, .int, .st [.int, .int, .int, .int], .st [.int, .int, .int, .int]], .sl (.st [.int, .int])]] xs) : FnD Try.prog 10 xs (.bool true) := by
  obtain ⟨x, _, rfl, ⟨ds, rfl, h1⟩, rfl⟩ := h
  obtain ⟨x, l, e, hl⟩ := sketch_of h1
  rw [e]
  exact fnExactSketchText_fn x l hl

set_option maxRecDepth 100000 in
theorem fnExactSketchText_lifted (os : Os) (started : os.Started) (H : Type) (enc : TypeId × Value → H) :
    ReturnsInHanded {} Try.checked os 10 .any (Rows.fnExactSketchTextSpec.pre6 enc Try.prog Try.f10 Rows.fnExactSketchTextRow.domain false) (Rows.fnExactSketchTextSpec.post enc Try.prog Try.f10 false true false false) := by
  refine returnsInHanded_of_change_shaped (C := Try.checked) ownKnob_none started (by kernel_rfl) Try.func10
    (ChangeSpec.witness6 (enc := enc) (C := Try.checked) false ⟨#[], #[.agg #[.int .i64 0, .int .i64 0, .int .i64 0, .int .i64 0, .int .i64 0, .int .i64 0, .int .i64 0, .int .i64 0, .int .i64 0, .int .i64 0, .int .i64 0, .int .i64 0, .int .i64 0, .int .i64 0, .int .i64 0, .slice none 0 0]], []⟩ 12 (by kernel_rfl) (by kernel_rfl) (by kernel_rfl) (by kernel_rfl)) ?_
  intro W base args ds gs before hval0 hW hcnd _ hshape _
  have hW' := hW
  obtain ⟨p, q, hA0, hV, rfl, hfz, hnd⟩ := hW
  have hA : DataW.TrodAll enc Try.prog W 0 (fun _ => true) true Try.f10.params.toList args.toList ds p := hA0
  have hval : ∀ (j : Nat) t v, Try.f10.params.toList[j]? = some t → args.toList[j]? = some v → Value.okWide Try.prog W .any base t v := fun j t v h1 h2 => hval0 j t v (by simpa using h1) (by simpa using h2)
  have hA1 := hA
  rw [Try.params10] at hA1
  obtain ⟨v0, d0, rfl, rfl, h0⟩ := trodAll_one hA1
  refine (law_sh (ss := [.st [.st [.st [.int, .int, .int, .int], .int, .int, .int, .st [.int, .int, .int, .int], .st [.int, .int, .int, .int]], .sl (.st [.int, .int])]]) fnExactSketchText_all (by kernel_rfl) hval hA (glob_shaped hshape)).mono fun e W' ⟨he, hg⟩ => ?_
  subst he
  exact ⟨_, rfl, law_post laidOut_prog rfl hW' (by kernel_rfl) (by kernel_rfl) Try.underlying4 rfl hg⟩

theorem fnExactSketchText_holds : Rows.FnExactSketchTextSaid :=
  OpenClaim.holds_of_wide 10 Try.f10 rfl rfl rfl rfl rfl rfl rfl ⟨rfl, rfl, rfl, rfl, rfl⟩ rfl rfl rfl rfl rfl (by kernel_rfl) Try.func10 (by kernel_rfl)
    (of_decide_eq_true (by kernel_rfl)) (by unfold Func.isWrapper; first | (rw [if_pos (by decide +kernel)]; kernel_rfl) | (rw [if_neg (by decide +kernel)]; exact ⟨rfl, rfl⟩))
    (fun os started H enc _ => fnExactSketchText_lifted os started H enc)

end Go.Proofs.Yteimddagjikcaaa
