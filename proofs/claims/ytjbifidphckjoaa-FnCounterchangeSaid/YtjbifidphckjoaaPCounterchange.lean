/- The cross law of countered fields holds for all codes. No condition. -/
import Derived.Test.YtjbifidphckjoaaPCode
import Derived.Test.YtjbifidphckjoaaCtL
import Derived.ProofKit
namespace Go.Proofs.Ytjbifidphckjoaa
open Go.ChangeShapes Go.WideShapes Go.ChangeAt Go.RowKit
set_option linter.unusedVariables false
set_option linter.unusedSimpArgs false

theorem fnCounterchange_all (xs : List D) (h : ArgShL [.sl .u8] xs) : FnD Try.prog 3 xs (.bool true) := by
 obtain ⟨x, _, rfl, hx, rfl⟩ := h
 obtain ⟨bs, e, h1, h2⟩ := bytes_of hx
 rw [e]
 exact fnCounterchange_fn bs h1 h2

set_option maxRecDepth 100000 in
theorem fnCounterchange_lifted (os : Os) (started : os.Started) (H : Type) (enc : TypeId × Value -> H) :
  ReturnsInHanded {} Try.checked os 3 .any (Rows.fnCounterchangeSpec.pre6 enc Try.prog Try.f3 Rows.fnCounterchangeRow.domain false) (Rows.fnCounterchangeSpec.post enc Try.prog Try.f3 false true false false) := by
 refine returnsInHanded_of_change (C := Try.checked) ownKnob_none started (by kernel_rfl) Try.func3
  (ChangeSpec.witness6 (enc := enc) (C := Try.checked) false ⟨#[], #[.slice none 0 0], []⟩ 12 (by kernel_rfl) (by kernel_rfl) (by kernel_rfl) (by kernel_rfl)) ?_
 intro W base args ds gs before hval0 hW hcnd _
 have hW' := hW
 obtain ⟨p, q, hA0, hV, rfl, hfz, hnd⟩ := hW
 have hA : DataW.TrodAll enc Try.prog W 0 (fun _ => true) true Try.f3.params.toList args.toList ds p := hA0
 have hval : ∀ (j : Nat) t v, Try.f3.params.toList[j]? = some t -> args.toList[j]? = some v -> Value.okWide Try.prog W .any base t v := fun j t v h1 h2 => hval0 j t v (by simpa using h1) (by simpa using h2)
 have hA1 := hA
 rw [Try.params3] at hA1
 obtain ⟨v0, d0, rfl, rfl, h0⟩ := trodAll_one hA1
 refine (law_sh (ss := [.sl .u8]) fnCounterchange_all (by kernel_rfl) hval hA (fun b hb => absurd hb (by simp [globB]))).mono fun e W' ⟨he, hg⟩ => ?_
 subst he
 exact ⟨_, rfl, law_post laidOut_prog rfl hW' (by kernel_rfl) (by kernel_rfl) Try.underlying4 rfl hg⟩

theorem fnCounterchange_holds : Rows.FnCounterchangeSaid :=
 OpenClaim.holds_of_wide 3 Try.f3 rfl rfl rfl rfl rfl rfl rfl ⟨rfl, rfl, rfl, rfl, rfl⟩ rfl rfl rfl rfl rfl (by kernel_rfl) Try.func3 (by kernel_rfl)
  (of_decide_eq_true (by kernel_rfl)) (by unfold Func.isWrapper; first | (rw [if_pos (by decide +kernel)]; kernel_rfl) | (rw [if_neg (by decide +kernel)]; exact ⟨rfl, rfl⟩))
  (fun os started H enc _ => fnCounterchange_lifted os started H enc)

end Go.Proofs.Ytjbifidphckjoaa
