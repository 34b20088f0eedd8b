/- The library's contracts on texts, over data: Split, Cut, CutPrefix, TrimPrefix, TrimSuffix, Count. -/
import Derived.Test.YteimddagjikcaaaSplX
import Derived.Test.YteimddagjikcaaaFacts
import Derived.Deep.Draws
import Derived.WalkKit
import Derived.WalkSpells
import Derived.KernelRfl
import Derived.Test.YteimddagjikcaaaShelfS
namespace Go.Proofs.Yteimddagjikcaaa
open Go.RowKit
set_option linter.unusedVariables false
set_option linter.unusedSimpArgs false

theorem rds_of_vals {w : World} {o : Bool} : ∀ xs : List Value, RDs w o (xs.map D.v) xs []
  | [] => by simp [RDs]
  | x :: xs => by
    simp only [List.map_cons, RDs, RD]
    exact ⟨x, xs, [], [], rfl, rfl, ⟨rfl, rfl⟩, rds_of_vals xs⟩

theorem below_drewN (w : World) : ∀ n, Below w.heap.size w (w.drewN n)
  | 0 => Below.refl _ _
  | n + 1 => by
    rw [← World.drew_drewN]
    exact (below_drewN w n).drew

theorem cutOk : FnOk Try.prog 49 := ⟨_, Try.func49, by kernel_rfl, by kernel_rfl⟩

def cutR (s sep : ByteArray) : D := .tu [.str (toB (Lib.cut s.data.toList sep.data.toList).1), .str (toB (Lib.cut s.data.toList sep.data.toList).2.1), .bool (Lib.cut s.data.toList sep.data.toList).2.2]

theorem cut_fn (s sep : ByteArray) (hs : s.size < 4294967281) : FnD Try.prog 49 [.str s, .str sep] (cutR s sep) := by
  refine ⟨cutOk, fun w vs hv => ?_⟩
  obtain ⟨hv, hg⟩ := hv
  simp only [List.map_cons, List.map_nil, RCs, RC] at hv
  obtain ⟨v1, _, rfl, ⟨bs1, h1', _⟩, v2, _, rfl, ⟨bs2, h2, _⟩, rfl⟩ := hv
  simp only [RD] at h1' h2
  obtain ⟨rfl, _⟩ := h1'
  obtain ⟨rfl, _⟩ := h2
  obtain ⟨m, hm⟩ := hg _ (List.mem_singleton.2 rfl)
  refine (Try.strings_Cut s sep m w hs hm).mono fun e w' hh => ?_
  obtain ⟨rfl, n, rfl⟩ := hh
  refine ⟨_, [], rfl, below_drewN w n, ?_, List.nodup_nil, by simp⟩
  simp only [cutR, RD]
  refine ⟨[.string (toB (Lib.cut s.data.toList sep.data.toList).1), .string (toB (Lib.cut s.data.toList sep.data.toList).2.1), .bool (Lib.cut s.data.toList sep.data.toList).2.2], rfl, ?_⟩
  exact rds_of_vals [.string (toB (Lib.cut s.data.toList sep.data.toList).1), .string (toB (Lib.cut s.data.toList sep.data.toList).2.1), .bool (Lib.cut s.data.toList sep.data.toList).2.2]

theorem cutPreOk : FnOk Try.prog 47 := ⟨_, Try.func47, by kernel_rfl, by kernel_rfl⟩

theorem cutPre_fn (s p : ByteArray) : FnD Try.prog 47 [.str s, .str p] (.tu [.str (toB (Lib.trimPrefix s.data.toList p.data.toList)), .bool (Lib.hasPrefix s.data.toList p.data.toList)]) := by
  refine ⟨cutPreOk, fun w vs hv => ?_⟩
  obtain ⟨hv, _⟩ := hv
  simp only [List.map_cons, List.map_nil, RCs, RC] at hv
  obtain ⟨v1, _, rfl, ⟨bs1, h1', _⟩, v2, _, rfl, ⟨bs2, h2, _⟩, rfl⟩ := hv
  simp only [RD] at h1' h2
  obtain ⟨rfl, _⟩ := h1'
  obtain ⟨rfl, _⟩ := h2
  refine (Try.strings_CutPrefix s p w).mono fun e w' hh => ?_
  obtain ⟨rfl, rfl⟩ := hh
  refine ⟨_, [], rfl, Below.refl _ _, ?_, List.nodup_nil, by simp⟩
  simp only [RD]
  exact ⟨[.string (toB (Lib.trimPrefix s.data.toList p.data.toList)), .bool (Lib.hasPrefix s.data.toList p.data.toList)], rfl, rds_of_vals [.string (toB (Lib.trimPrefix s.data.toList p.data.toList)), .bool (Lib.hasPrefix s.data.toList p.data.toList)]⟩

end Go.Proofs.Yteimddagjikcaaa
