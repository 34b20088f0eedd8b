/- The library's contracts on texts, over data: Split, Cut, CutPrefix, TrimPrefix, TrimSuffix, Count. -/
import Derived.Test.YteimddagjikcaaaSplX
import Derived.Test.YteimddagjikcaaaFacts
import Derived.Deep.Draws
import Derived.WalkKit
import Derived.WalkSpells
import Derived.KernelRfl
import Derived.Test.YteimddagjikcaaaShelfS
namespace Go.Proofs.Yteimddagjikcaaa
open Go.RowKit
set_option linter.unusedVariables false
set_option linter.unusedSimpArgs false

def cutR (s sep : ByteArray) : D := .tu [.str (toB (Lib.cut s.data.toList sep.data.toList).1), .str (toB (Lib.cut s.data.toList sep.data.toList).2.1), .bool (Lib.cut s.data.toList sep.data.toList).2.2]

theorem trimSufOk : FnOk Try.prog 114 := ⟨_, Try.func114, by kernel_rfl, by kernel_rfl⟩

theorem trimSuf_fn (s p : ByteArray) (hs : s.size ≤ 9223372036854775807) : FnD Try.prog 114 [.str s, .str p] (.str (toB (Lib.trimSuffix s.data.toList p.data.toList))) := by
  refine ⟨trimSufOk, fun w vs hv => ?_⟩
  obtain ⟨hv, _⟩ := hv
  simp only [List.map_cons, List.map_nil, RCs, RC] at hv
  obtain ⟨v1, _, rfl, ⟨bs1, h1', _⟩, v2, _, rfl, ⟨bs2, h2, _⟩, rfl⟩ := hv
  simp only [RD] at h1' h2
  obtain ⟨rfl, _⟩ := h1'
  obtain ⟨rfl, _⟩ := h2
  refine (Try.strings_TrimSuffix s p w hs).mono fun e w' hh => ?_
  obtain ⟨rfl, rfl⟩ := hh
  exact ⟨_, [], rfl, Below.refl _ _, by simp [RD, toB], List.nodup_nil, by simp⟩

end Go.Proofs.Yteimddagjikcaaa
