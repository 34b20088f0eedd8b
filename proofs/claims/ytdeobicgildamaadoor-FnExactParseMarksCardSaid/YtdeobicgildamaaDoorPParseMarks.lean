/- The program's ParseMarks returns what the reference's returns, for all texts (a tied card). No condition. -/
import Derived.Test.YtdeobicgildamaaDoorLaw
import Derived.Test.YtdeobicgildamaaDoorPm
import Derived.ProofKit
import Derived.OpenShut
import Derived.LaidMore
import Derived.Lay
import Derived.SevenTiedAt
import Derived.Test.YtdeobicgildamaaDoorCards
import Derived.Test.YtdeobicgildamaaDoorTie
namespace Go.Proofs.YtdeobicgildamaaDoor
open Go.ChangeShapes Go.WideShapes Go.ChangeAt Go.RowKit
set_option linter.unusedVariables false
set_option linter.unusedSimpArgs false

theorem fnExactParseMarks_all (xs : List D) (h : ArgShL [.str] xs) : FnD Tryd.prog 3 xs (.bool true) := by
  obtain ⟨x, _, rfl, hx, rfl⟩ := h
  simp only [ArgSh] at hx
  rw [HasSh.eq_def] at hx
  obtain ⟨s, e, _⟩ := hx
  rw [(List.cons.inj e).1]
  exact fnExactParseMarks_fn s

set_option maxRecDepth 100000 in
theorem fnExactParseMarks_lifted (os : Os) (started : os.Started) (H : Type) (enc : TypeId × Value → H) :
    ReturnsInHanded {} Tryd.checked os 3 .any (fun w args => (Rows.fnExactParseMarksSpec.pre enc Tryd.prog Tryd.f3 Rows.fnExactParseMarksRow.domain false w args ∧ laidMetH Tryd.prog Rows.fnExactParseMarksRow.laid w) ∧ sizedMet enc Tryd.prog Tryd.f3 (OpenSpec.ofChange Rows.fnExactParseMarksSpec) false w args)
      (Rows.fnExactParseMarksSpec.post enc Tryd.prog Tryd.f3 false true false false) := by
  refine returnsInHanded_of_calls ownKnob_none started (by kernel_rfl)
    (ChangeSpec.witness_shaped (enc := enc) (C := Tryd.checked) (os := os) (X := fun w _ => laidMetH Tryd.prog Rows.fnExactParseMarksRow.laid w) false (World.laidAll Tryd.prog os Rows.fnExactParseMarksRow.laid) #[.string ⟨#[]⟩] 12 (World.laidAll_os _ _ _)
      (World.shaped_of_ZipB (by kernel_rfl) (by kernel_rfl)) (by kernel_rfl) (by kernel_rfl) (by kernel_rfl)
      (by rw [MakeChecks.laidMetH_plain _ _ _ (by kernel_rfl)]; exact laidMet_laidAll _ (by kernel_rfl) (by kernel_rfl))) ?_
  intro w tape i _ hshape _ hok hpre _
  obtain ⟨_, _, _, fn', hfn', _, _, _, _, hval0⟩ := hok
  have hfe : fn' = Tryd.f3 := Option.some.inj (hfn'.symm.trans Tryd.func3)
  subst hfe
  obtain ⟨⟨⟨ds, gs, before, hw, _⟩, _⟩, _⟩ := hpre
  have hW' := DataW.Whole.of_heap (w' := w.forCall tape i) (by rfl) hw
  have hW := hW'
  obtain ⟨p, q, hA0, hV, rfl, hfz, hnd⟩ := hW
  have hA : DataW.TrodAll enc Tryd.prog (w.forCall tape i) 0 (fun _ => true) true Tryd.f3.params.toList i.args.toList ds p := hA0
  have hval : ∀ (j : Nat) t v, Tryd.f3.params.toList[j]? = some t → i.args.toList[j]? = some v → Value.okWide Tryd.prog (w.forCall tape i) .any w.heap.size t v := fun j t v h1 h2 => hval0 j t v (by simpa using h1) (by simpa using h2)
  have hA1 := hA
  rw [Tryd.params3] at hA1
  obtain ⟨v0, d0, hargs, rfl, h0⟩ := trodAll_one hA1
  refine (law_sh (ss := [.str]) fnExactParseMarks_all (by kernel_rfl) hval hA (glob_shaped hshape)).mono fun e W' ⟨he, hg⟩ => ?_
  subst he
  exact ChangeSpec.post_blind (law_post laidOut_prog rfl hW' (by kernel_rfl) (by kernel_rfl) Tryd.underlying4 rfl hg)

theorem fnExactParseMarks_row : Rows.FnExactParseMarksSaid :=
  OpenClaim.holds_of_wide 3 Tryd.f3 rfl rfl rfl rfl rfl rfl rfl ⟨rfl, rfl, rfl, rfl, rfl⟩ rfl rfl rfl rfl rfl (by kernel_rfl) Tryd.func3 (by kernel_rfl)
    (of_decide_eq_true (by kernel_rfl)) (by unfold Func.isWrapper; first | (rw [if_pos (by decide +kernel)]; kernel_rfl) | (rw [if_neg (by decide +kernel)]; exact ⟨rfl, rfl⟩))
    (fun os started H enc _ => fnExactParseMarks_lifted os started H enc)

theorem fnExactParseMarks_holds : Rows.FnExactParseMarksCardSaid :=
  Claim7.holds_tied_plain_at .later [] [.data, .pinned] true (true, "1fecb5fa99b6f55cf8358eb7e53701f0784dd869bc8431cd6d6b4e8df5b8b245") false fnExactParseMarks_row (fun _ h => by cases h) (by kernel_rfl) (fun _ h => by cases h) fnExactParseMarks_row_tie rfl ⟨rfl, rfl⟩ (by kernel_rfl) rfl
    (fun f fn hf hfn => by
      obtain rfl : f = 3 := Option.some.inj ((show Tryd.prog.funcNamed "loop.example/g00884/laws.FnExactParseMarks" = some 3 by kernel_rfl).symm.trans hf) |>.symm
      obtain rfl : fn = Tryd.f3 := (Option.some.inj (Tryd.func3.symm.trans hfn)).symm
      exact ⟨by kernel_rfl, fun j t ht => by
        have hm : t ∈ Tryd.f3.params.toList := by simpa using Array.mem_of_getElem? ht
        have hall : (Tryd.f3.params.toList.all fun u => !Tryd.prog.wantsStandIn u) = true := by kernel_rfl
        exact (show Tryd.prog.wantsStandIn t = false by simpa using List.all_eq_true.1 hall t hm)⟩)
    (by kernel_rfl)

end Go.Proofs.YtdeobicgildamaaDoor
