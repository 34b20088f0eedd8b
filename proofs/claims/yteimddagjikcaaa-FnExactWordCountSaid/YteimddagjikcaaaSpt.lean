/- The library's contracts on texts, over data: Split, Cut, CutPrefix, TrimPrefix, TrimSuffix, Count. -/
import Derived.Test.YteimddagjikcaaaSplX
import Derived.Test.YteimddagjikcaaaFacts
import Derived.Deep.Draws
import Derived.WalkKit
import Derived.WalkSpells
import Derived.KernelRfl
import Derived.Test.YteimddagjikcaaaShelfS
namespace Go.Proofs.Yteimddagjikcaaa
open Go.RowKit
set_option linter.unusedVariables false
set_option linter.unusedSimpArgs false

def cutR (s sep : ByteArray) : D := .tu [.str (toB (Lib.cut s.data.toList sep.data.toList).1), .str (toB (Lib.cut s.data.toList sep.data.toList).2.1), .bool (Lib.cut s.data.toList sep.data.toList).2.2]

theorem countOk : FnOk Try.prog 63 := ⟨_, Try.func63, by kernel_rfl, by kernel_rfl⟩

theorem count_fn (s sep : ByteArray) (hs : s.size < 4294967281) (h1 : 1 ≤ sep.size) : FnD Try.prog 63 [.str s, .str sep] (.int (Lib.countB s sep : Nat)) := by
  refine ⟨countOk, fun w vs hv => ?_⟩
  obtain ⟨hv, hg⟩ := hv
  simp only [List.map_cons, List.map_nil, RCs, RC] at hv
  obtain ⟨v1, _, rfl, ⟨bs1, h1', _⟩, v2, _, rfl, ⟨bs2, h2, _⟩, rfl⟩ := hv
  simp only [RD] at h1' h2
  obtain ⟨rfl, _⟩ := h1'
  obtain ⟨rfl, _⟩ := h2
  obtain ⟨m, hm⟩ := hg _ (List.mem_singleton.2 rfl)
  refine (Try.strings_Count_any s sep m w hs hm h1).mono fun e w' hh => ?_
  obtain ⟨rfl, rfl⟩ := hh
  exact ⟨_, [], rfl, Below.refl _ _, by simp [RD], List.nodup_nil, by simp⟩

end Go.Proofs.Yteimddagjikcaaa
