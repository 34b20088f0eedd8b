/- The program's CounterCells returns what the reference's returns, for all arguments. No condition. -/
import Derived.Test.YtaegdaimjhhgpaaPPic
import Derived.Test.YtaegdaimjhhgpaaCnt2
import Derived.ProofKit
namespace Go.Proofs.Ytaegdaimjhhgpaa
open Go.ChangeShapes Go.WideShapes Go.ChangeAt Go.RowKit
set_option linter.unusedVariables false
set_option linter.unusedSimpArgs false

theorem fnExactCounterCells_all (xs : List D) (h : ArgShL [.st [.int, .int, .int, .int], .st [.sl .int]] xs) : FnD Try.prog 4 xs (.bool true) := by
  obtain ⟨x, _, rfl, ⟨ds, rfl, h1⟩, y, _, rfl, ⟨es, rfl, h2⟩, rfl⟩ := h
  obtain ⟨d, l, f, s, e⟩ := fieldSh_of h1
  obtain ⟨zs, e', hl, hi⟩ := region_of h2
  rw [e, e']
  exact fnExactCounterCells_fn d l f s zs hl hi

set_option maxRecDepth 100000 in
theorem fnExactCounterCells_lifted (os : Os) (started : os.Started) (H : Type) (enc : TypeId × Value → H) :
    ReturnsInHanded {} Try.checked os 4 .any (Rows.fnExactCounterCellsSpec.pre6 enc Try.prog Try.f4 Rows.fnExactCounterCellsRow.domain false) (Rows.fnExactCounterCellsSpec.post enc Try.prog Try.f4 false true false false) := by
  refine returnsInHanded_of_change (C := Try.checked) ownKnob_none started (by kernel_rfl) Try.func4
    (ChangeSpec.witness6 (enc := enc) (C := Try.checked) false ⟨#[], #[.agg #[.int .i64 0, .int .i64 0, .int .i64 0, .int .i64 0], .agg #[.slice none 0 0]], []⟩ 12 (by kernel_rfl) (by kernel_rfl) (by kernel_rfl) (by kernel_rfl)) ?_
  intro W base args ds gs before hval0 hW hcnd _
  have hW' := hW
  obtain ⟨p, q, hA0, hV, rfl, hfz, hnd⟩ := hW
  have hA : DataW.TrodAll enc Try.prog W 0 (fun _ => true) true Try.f4.params.toList args.toList ds p := hA0
  have hval : ∀ (j : Nat) t v, Try.f4.params.toList[j]? = some t → args.toList[j]? = some v → Value.okWide Try.prog W .any base t v := fun j t v h1 h2 => hval0 j t v (by simpa using h1) (by simpa using h2)
  have hA1 := hA
  rw [Try.params4] at hA1
  obtain ⟨v0, v1, d0, d1, p0, p1, rfl, rfl, rfl, h0, h1⟩ := trodAll_two hA1
  refine (law_sh (ss := [.st [.int, .int, .int, .int], .st [.sl .int]]) fnExactCounterCells_all (by kernel_rfl) hval hA).mono fun e W' ⟨he, hg⟩ => ?_
  subst he
  exact ⟨_, rfl, law_post laidOut_prog rfl hW' (by kernel_rfl) (by kernel_rfl) Try.underlying4 rfl hg⟩

/-- THE STATEMENT. -/
theorem fnExactCounterCells_holds : Rows.FnExactCounterCellsSaid :=
  OpenClaim.holds_of_wide 4 Try.f4 rfl rfl rfl rfl rfl rfl rfl ⟨rfl, rfl, rfl, rfl, rfl⟩ rfl rfl rfl rfl rfl (by kernel_rfl) Try.func4 (by kernel_rfl)
    (of_decide_eq_true (by kernel_rfl)) (by unfold Func.isWrapper; first | (rw [if_pos (by decide +kernel)]; kernel_rfl) | (rw [if_neg (by decide +kernel)]; exact ⟨rfl, rfl⟩))
    (fun os started H enc _ => fnExactCounterCells_lifted os started H enc)

end Go.Proofs.Ytaegdaimjhhgpaa
