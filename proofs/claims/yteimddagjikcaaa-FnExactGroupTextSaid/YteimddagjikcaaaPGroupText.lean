/- The program's GroupText returns what the reference's returns, for every group. No condition. -/
import Derived.Test.YteimddagjikcaaaLaw2
import Derived.Test.YteimddagjikcaaaGroupText
import Derived.Lib.SmallJoins
namespace Go.Proofs.Yteimddagjikcaaa
open Go.ChangeShapes Go.WideShapes Go.ChangeAt Go.RowKit
set_option linter.unusedVariables false
set_option linter.unusedSimpArgs false

theorem fnExactGroupText_c (d l f s : Int) (W : World) : Calls Try.prog 4 #[.agg #[.int .i64 d, .int .i64 l, .int .i64 f, .int .i64 s]] W fun e W' => e = .returned (.bool true) ∧ Below W.heap.size W W' :=
  law_calls (fnExactGroupText_fn d l f s) (vs := [.agg #[.int .i64 d, .int .i64 l, .int .i64 f, .int .i64 s]]) (bs := []) (by
    simp only [RDs, RD]
    exact ⟨_, _, [], [], rfl, rfl, ⟨[.int .i64 d, .int .i64 l, .int .i64 f, .int .i64 s], rfl, ones_of rfl, _, _, [], [], rfl, rfl, ⟨rfl, rfl⟩, _, _, [], [], rfl, rfl, ⟨rfl, rfl⟩, _, _, [], [], rfl, rfl, ⟨rfl, rfl⟩, _, _, [], [], rfl, rfl, ⟨rfl, rfl⟩, rfl, rfl⟩, rfl, rfl⟩)

set_option maxRecDepth 100000 in
theorem fnExactGroupText_lifted (os : Os) (started : os.Started) (H : Type) (enc : TypeId × Value → H) :
    ReturnsInHanded {} Try.checked os 4 .any (Rows.fnExactGroupTextSpec.pre6 enc Try.prog Try.f4 Rows.fnExactGroupTextRow.domain false) (Rows.fnExactGroupTextSpec.post enc Try.prog Try.f4 false true false false) := by
  refine returnsInHanded_of_change (C := Try.checked) ownKnob_none started (by kernel_rfl) Try.func4
    (ChangeSpec.witness6 (enc := enc) (C := Try.checked) false ⟨#[], #[.agg #[.int .i64 0, .int .i64 0, .int .i64 0, .int .i64 0]], []⟩ 8 (by kernel_rfl) (by kernel_rfl) (by kernel_rfl) (by kernel_rfl)) ?_
  intro W base args ds gs before hval0 hW hcnd _
  have hval : ∀ (j : Nat) t v, Try.f4.params[j]? = some t → args[j]? = some v → Value.okWide Try.prog W .any base t v := hval0
  have hW' := hW
  obtain ⟨p, q, hA0, hV, rfl, hfz, hnd⟩ := hW
  have hA : DataW.TrodAll enc Try.prog W 0 (fun _ => true) true Try.f4.params.toList args.toList ds p := hA0
  rw [Try.params4] at hA hval
  obtain ⟨v0, d0, rfl, rfl, h0⟩ := trodAll_one hA
  clear hA0 hval0
  obtain ⟨v0, v1, v2, v3, y0, y1, y2, y3, n, rfl, rfl, rfl, t0, t1, t2, t3⟩ := Go.Joins.open_agg4 Try.underlying30 (by kernel_rfl) (by kernel_rfl) (hval 0 30 v0 rfl rfl) h0
  obtain ⟨a0, e0, _⟩ := DataW.trod_int Try.underlying3 t0
  obtain ⟨a1, e1, _⟩ := DataW.trod_int Try.underlying3 t1
  obtain ⟨a2, e2, _⟩ := DataW.trod_int Try.underlying3 t2
  obtain ⟨a3, e3, _⟩ := DataW.trod_int Try.underlying3 t3
  cases e0; cases e1; cases e2; cases e3
  refine (fnExactGroupText_c a0 a1 a2 a3 W).mono fun e W' ⟨he, hg⟩ => ?_
  subst he
  exact ⟨_, rfl, law_post laidOut_prog rfl hW' (by kernel_rfl) (by kernel_rfl) Try.underlying4 rfl hg⟩

/-- THE STATEMENT. -/
theorem fnExactGroupText_holds : Rows.FnExactGroupTextSaid :=
  OpenClaim.holds_of_wide 4 Try.f4 rfl rfl rfl rfl rfl rfl rfl ⟨rfl, rfl, rfl, rfl, rfl⟩ rfl rfl rfl rfl rfl (by kernel_rfl) Try.func4 (by kernel_rfl)
    (of_decide_eq_true (by kernel_rfl)) (by unfold Func.isWrapper; first | (rw [if_pos (by decide +kernel)]; kernel_rfl) | (rw [if_neg (by decide +kernel)]; exact ⟨rfl, rfl⟩))
    (fun os started H enc _ => fnExactGroupText_lifted os started H enc)

end Go.Proofs.Yteimddagjikcaaa
