/- The cross law of marks holds for all codes (a tied card). No condition. -/
import Derived.Test.YtdeobicgildamaaGreatDoorPCode
import Derived.Test.YtdeobicgildamaaGreatDoorMkL
import Derived.ProofKit
import Derived.OpenShut
import Derived.LaidMore
import Derived.Lay
import Derived.SevenTiedAt
import Derived.Test.YtdeobicgildamaaGreatDoorCards
import Derived.Test.YtdeobicgildamaaGreatDoorTie
namespace Go.Proofs.YtdeobicgildamaaGreatDoor
open Go.ChangeShapes Go.WideShapes Go.ChangeAt Go.RowKit
set_option linter.unusedVariables false
set_option linter.unusedSimpArgs false

theorem fnMarks_all (xs : List D) (h : ArgShL [.sl .u8] xs) : FnD Tryz.prog 3 xs (.bool true) := by
  obtain ⟨x, _, rfl, hx, rfl⟩ := h
  obtain ⟨bs, e, h1, h2⟩ := bytes_of hx
  rw [e]
  exact fnMarks_fn bs h1 h2

set_option maxRecDepth 100000 in
theorem fnMarks_lifted (os : Os) (started : os.Started) (H : Type) (enc : TypeId × Value → H) :
    ReturnsInHanded {} Tryz.checked os 3 .any (fun w args => (Rows.fnMarksSpec.pre enc Tryz.prog Tryz.f3 Rows.fnMarksRow.domain false w args ∧ laidMetH Tryz.prog Rows.fnMarksRow.laid w) ∧ sizedMet enc Tryz.prog Tryz.f3 (OpenSpec.ofChange Rows.fnMarksSpec) false w args)
      (Rows.fnMarksSpec.post enc Tryz.prog Tryz.f3 false true false false) := by
  refine returnsInHanded_of_calls ownKnob_none started (by kernel_rfl)
    (ChangeSpec.witness_shaped (enc := enc) (C := Tryz.checked) (os := os) (X := fun w _ => laidMetH Tryz.prog Rows.fnMarksRow.laid w) false (World.laidAll Tryz.prog os Rows.fnMarksRow.laid) #[.slice none 0 0] 12 (World.laidAll_os _ _ _)
      (World.shaped_of_ZipB (by kernel_rfl) (by kernel_rfl)) (by kernel_rfl) (by kernel_rfl) (by kernel_rfl)
      (by rw [MakeChecks.laidMetH_plain _ _ _ (by kernel_rfl)]; exact laidMet_laidAll _ (by kernel_rfl) (by kernel_rfl))) ?_
  intro w tape i _ hshape _ hok hpre _
  obtain ⟨_, _, _, fn', hfn', _, _, _, _, hval0⟩ := hok
  have hfe : fn' = Tryz.f3 := Option.some.inj (hfn'.symm.trans Tryz.func3)
  subst hfe
  obtain ⟨⟨⟨ds, gs, before, hw, _⟩, _⟩, _⟩ := hpre
  have hW' := DataW.Whole.of_heap (w' := w.forCall tape i) (by rfl) hw
  have hW := hW'
  obtain ⟨p, q, hA0, hV, rfl, hfz, hnd⟩ := hW
  have hA : DataW.TrodAll enc Tryz.prog (w.forCall tape i) 0 (fun _ => true) true Tryz.f3.params.toList i.args.toList ds p := hA0
  have hval : ∀ (j : Nat) t v, Tryz.f3.params.toList[j]? = some t → i.args.toList[j]? = some v → Value.okWide Tryz.prog (w.forCall tape i) .any w.heap.size t v := fun j t v h1 h2 => hval0 j t v (by simpa using h1) (by simpa using h2)
  have hA1 := hA
  rw [Tryz.params3] at hA1
  obtain ⟨v0, d0, hargs, rfl, h0⟩ := trodAll_one hA1
  refine (law_sh (ss := [.sl .u8]) fnMarks_all (by kernel_rfl) hval hA (glob_shaped hshape)).mono fun e W' ⟨he, hg⟩ => ?_
  subst he
  exact ChangeSpec.post_blind (law_post laidOut_prog rfl hW' (by kernel_rfl) (by kernel_rfl) Tryz.underlying4 rfl hg)

theorem fnMarks_row : Rows.FnMarksSaid :=
  OpenClaim.holds_of_wide 3 Tryz.f3 rfl rfl rfl rfl rfl rfl rfl ⟨rfl, rfl, rfl, rfl, rfl⟩ rfl rfl rfl rfl rfl (by kernel_rfl) Tryz.func3 (by kernel_rfl)
    (of_decide_eq_true (by kernel_rfl)) (by unfold Func.isWrapper; first | (rw [if_pos (by decide +kernel)]; kernel_rfl) | (rw [if_neg (by decide +kernel)]; exact ⟨rfl, rfl⟩))
    (fun os started H enc _ => fnMarks_lifted os started H enc)

theorem fnMarks_holds : Rows.FnMarksCardSaid :=
  Claim7.holds_tied_plain_at .later [] [.data, .pinned] true (true, "255de75b8c9ec6fb5757f261ccb3f0ace5232e15243616eeff819ef0d9c4b75e") false fnMarks_row (fun _ h => by cases h) (by kernel_rfl) (fun _ h => by cases h) fnMarks_row_tie rfl ⟨rfl, rfl⟩ (by kernel_rfl) rfl
    (fun f fn hf hfn => by
      obtain rfl : f = 3 := Option.some.inj ((show Tryz.prog.funcNamed "loop.example/g00884/laws.FnMarks" = some 3 by kernel_rfl).symm.trans hf) |>.symm
      obtain rfl : fn = Tryz.f3 := (Option.some.inj (Tryz.func3.symm.trans hfn)).symm
      exact ⟨by kernel_rfl, fun j t ht => by
        have hm : t ∈ Tryz.f3.params.toList := by simpa using Array.mem_of_getElem? ht
        have hall : (Tryz.f3.params.toList.all fun u => !Tryz.prog.wantsStandIn u) = true := by kernel_rfl
        exact (show Tryz.prog.wantsStandIn t = false by simpa using List.all_eq_true.1 hall t hm)⟩)
    (by kernel_rfl)

end Go.Proofs.YtdeobicgildamaaGreatDoor
