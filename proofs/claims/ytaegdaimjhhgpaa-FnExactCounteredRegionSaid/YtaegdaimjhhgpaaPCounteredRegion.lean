/- The program's CounteredRegion returns what the reference's returns, for all arguments. No condition. -/
import Derived.Test.YtaegdaimjhhgpaaPPic
import Derived.Test.YtaegdaimjhhgpaaCtd3
import Derived.ProofKit
namespace Go.Proofs.Ytaegdaimjhhgpaa
open Go.ChangeShapes Go.WideShapes Go.ChangeAt Go.RowKit
set_option linter.unusedVariables false
set_option linter.unusedSimpArgs false

theorem intG_of : ∀ es : List (List D), (∀ e ∈ es, HasSh .int e) → ∃ l : List Int, l.length = es.length ∧ l.map D.int = es.flatten
  | [], _ => ⟨[], rfl, rfl⟩
  | e :: es, h => by
    have h0 := h e (by simp)
    rw [HasSh.eq_def] at h0
    obtain ⟨x, rfl, hx⟩ := h0
    obtain ⟨l, h1, h2⟩ := intG_of es fun e he => h e (by simp [he])
    exact ⟨x :: l, by simp [h1], by simp [h2]⟩

theorem row_of {e : List D} (h : HasSh (.sl .int) e) : ∃ l : List Int, e = [.ls 1 l.length (l.map D.int)] ∧ l.length ≤ 9223372036854775807 := by
  rw [HasSh.eq_def] at h
  obtain ⟨es, rfl, h3, h4⟩ := h
  obtain ⟨l, h5, h6⟩ := intG_of es h3
  refine ⟨l, ?_, by omega⟩
  rw [h5, h6]
  rfl

theorem rows_of : ∀ es : List (List D), (∀ e ∈ es, HasSh (.sl .int) e) → ∃ zs : List (List Int), zs.length = es.length ∧ rowsD zs = es.flatten ∧ ∀ z ∈ zs, z.length ≤ 9223372036854775807
  | [], _ => ⟨[], rfl, rfl, by simp⟩
  | e :: es, h => by
    obtain ⟨l, rfl, hl⟩ := row_of (h e (by simp))
    obtain ⟨zs, h1, h2, h3⟩ := rows_of es fun e he => h e (by simp [he])
    refine ⟨l :: zs, by simp [h1], ?_, ?_⟩
    · rw [List.flatten_cons, ← h2]
      rfl
    · intro z hz
      rcases List.mem_cons.1 hz with rfl | hz
      · exact hl
      · exact h3 z hz

theorem grid_of {x : List D} (h : HasSh (.sl (.sl .int)) x) : ∃ zs : List (List Int), x = [gridD zs] ∧ zs.length ≤ 9223372036854775807 ∧ ∀ z ∈ zs, z.length ≤ 9223372036854775807 := by
  rw [HasSh.eq_def] at h
  obtain ⟨es, rfl, h3, h4⟩ := h
  obtain ⟨zs, h5, h6, h7⟩ := rows_of es h3
  refine ⟨zs, ?_, by omega, h7⟩
  rw [gridD, h5, h6]
  rfl

theorem fnExactCounteredRegion_all (xs : List D) (h : ArgShL [.sl (.sl .int), .st [.int, .int, .int, .int]] xs) : FnD Try.prog 5 xs (.bool true) := by
  obtain ⟨x, _, rfl, h1, y, _, rfl, ⟨ds, rfl, h2⟩, rfl⟩ := h
  obtain ⟨zs, e, hl, hr⟩ := grid_of h1
  obtain ⟨d, l, f, s, e2⟩ := fieldSh_of h2
  cases e
  rw [e2]
  exact fnExactCounteredRegion_fn zs d l f s hl hr

set_option maxRecDepth 100000 in
theorem fnExactCounteredRegion_lifted (os : Os) (started : os.Started) (H : Type) (enc : TypeId × Value → H) :
    ReturnsInHanded {} Try.checked os 5 .any (Rows.fnExactCounteredRegionSpec.pre6 enc Try.prog Try.f5 Rows.fnExactCounteredRegionRow.domain false) (Rows.fnExactCounteredRegionSpec.post enc Try.prog Try.f5 false true false false) := by
  refine returnsInHanded_of_change (C := Try.checked) ownKnob_none started (by kernel_rfl) Try.func5
    (ChangeSpec.witness6 (enc := enc) (C := Try.checked) false ⟨#[], #[.slice none 0 0, .agg #[.int .i64 0, .int .i64 0, .int .i64 0, .int .i64 0]], []⟩ 12 (by kernel_rfl) (by kernel_rfl) (by kernel_rfl) (by kernel_rfl)) ?_
  intro W base args ds gs before hval0 hW hcnd _
  have hW' := hW
  obtain ⟨p, q, hA0, hV, rfl, hfz, hnd⟩ := hW
  have hA : DataW.TrodAll enc Try.prog W 0 (fun _ => true) true Try.f5.params.toList args.toList ds p := hA0
  have hval : ∀ (j : Nat) t v, Try.f5.params.toList[j]? = some t → args.toList[j]? = some v → Value.okWide Try.prog W .any base t v := fun j t v h1 h2 => hval0 j t v (by simpa using h1) (by simpa using h2)
  have hA1 := hA
  rw [Try.params5] at hA1
  obtain ⟨v0, v1, d0, d1, p0, p1, rfl, rfl, rfl, h0, h1⟩ := trodAll_two hA1
  refine (law_sh (ss := [.sl (.sl .int), .st [.int, .int, .int, .int]]) fnExactCounteredRegion_all (by kernel_rfl) hval hA).mono fun e W' ⟨he, hg⟩ => ?_
  subst he
  exact ⟨_, rfl, law_post laidOut_prog rfl hW' (by kernel_rfl) (by kernel_rfl) Try.underlying4 rfl hg⟩

/-- THE STATEMENT. -/
theorem fnExactCounteredRegion_holds : Rows.FnExactCounteredRegionSaid :=
  OpenClaim.holds_of_wide 5 Try.f5 rfl rfl rfl rfl rfl rfl rfl ⟨rfl, rfl, rfl, rfl, rfl⟩ rfl rfl rfl rfl rfl (by kernel_rfl) Try.func5 (by kernel_rfl)
    (of_decide_eq_true (by kernel_rfl)) (by unfold Func.isWrapper; first | (rw [if_pos (by decide +kernel)]; kernel_rfl) | (rw [if_neg (by decide +kernel)]; exact ⟨rfl, rfl⟩))
    (fun os started H enc _ => fnExactCounteredRegion_lifted os started H enc)

end Go.Proofs.Ytaegdaimjhhgpaa
