/- The library's contracts on texts, over data: Split, Cut, CutPrefix, TrimPrefix, TrimSuffix, Count. -/
import Derived.Test.YtdeobicgildamaaDoorSplX
import Derived.Test.YtdeobicgildamaaDoorFacts
import Derived.Deep.Draws
import Derived.WalkKit
import Derived.WalkSpells
import Derived.KernelRfl
import Derived.Test.YtdeobicgildamaaDoorShelfS
namespace Go.Proofs.YtdeobicgildamaaDoor
open Go.RowKit
set_option linter.unusedVariables false
set_option linter.unusedSimpArgs false

theorem rds_of_vals {w : World} {o : Bool} : ∀ xs : List Value, RDs w o (xs.map D.v) xs []
  | [] => by simp [RDs]
  | x :: xs => by
    simp only [List.map_cons, RDs, RD]
    exact ⟨x, xs, [], [], rfl, rfl, ⟨rfl, rfl⟩, rds_of_vals xs⟩

theorem splitOk : FnOk Tryd.prog 13 := ⟨_, Tryd.func13, by kernel_rfl, by kernel_rfl⟩

theorem split_fn (s sep : ByteArray) (hs : s.size < 4294967281) (h1 : 1 ≤ sep.size) : FnD Tryd.prog 13 [.str s, .str sep] (strs (splT s sep)) := by
  refine ⟨splitOk, fun w vs hv => ?_⟩
  obtain ⟨hv, hg⟩ := hv
  simp only [List.map_cons, List.map_nil, RCs, RC] at hv
  obtain ⟨v1, _, rfl, ⟨bs1, h1', _⟩, v2, _, rfl, ⟨bs2, h2, _⟩, rfl⟩ := hv
  simp only [RD] at h1' h2
  obtain ⟨rfl, _⟩ := h1'
  obtain ⟨rfl, _⟩ := h2
  obtain ⟨m, hm⟩ := hg _ (List.mem_singleton.2 rfl)
  refine (Tryd.strings_Split s sep m w hs hm h1).mono fun e w' hh => ?_
  obtain ⟨rfl, rfl⟩ := hh
  have hl2 : (splT s sep).length = Lib.countB s sep + 1 := splT_len h1
  rw [splB_eq]
  refine ⟨_, [w.heap.size], rfl, (Below.refl _ _).alloc (Nat.le_refl _) _, ?_, by simp, by simp⟩
  simp only [strs, RD]
  refine .inr ⟨w.heap.size, 0, Lib.countB s sep + 1, (splT s sep).map Value.string, [], by rw [hl2], rfl, by simp, by rw [hl2]; exact Nat.le_refl _, ⟨?_, ((splT s sep).map Value.string).toArray, _, (0, 0), push_at w _, fun i hi => by simp, fun _ => ⟨rfl, by simp [hl2]⟩⟩, ?_⟩
  · intro x hx
    obtain ⟨y, _, rfl⟩ := List.mem_map.1 hx
    rfl
  · have := rds_of_vals (w := w.alloc (.cells ((splT s sep).map Value.string).toArray 9)) (o := true) ((splT s sep).map Value.string)
    rw [List.map_map] at this
    exact this

def cutR (s sep : ByteArray) : D := .tu [.str (toB (Lib.cut s.data.toList sep.data.toList).1), .str (toB (Lib.cut s.data.toList sep.data.toList).2.1), .bool (Lib.cut s.data.toList sep.data.toList).2.2]

theorem trimPreOk : FnOk Tryd.prog 16 := ⟨_, Tryd.func16, by kernel_rfl, by kernel_rfl⟩

theorem trimPre_fn (s p : ByteArray) : FnD Tryd.prog 16 [.str s, .str p] (.str (toB (Lib.trimPrefix s.data.toList p.data.toList))) := by
  refine ⟨trimPreOk, fun w vs hv => ?_⟩
  obtain ⟨hv, _⟩ := hv
  simp only [List.map_cons, List.map_nil, RCs, RC] at hv
  obtain ⟨v1, _, rfl, ⟨bs1, h1', _⟩, v2, _, rfl, ⟨bs2, h2, _⟩, rfl⟩ := hv
  simp only [RD] at h1' h2
  obtain ⟨rfl, _⟩ := h1'
  obtain ⟨rfl, _⟩ := h2
  refine (Tryd.strings_TrimPrefix s p w).mono fun e w' hh => ?_
  obtain ⟨rfl, rfl⟩ := hh
  exact ⟨_, [], rfl, Below.refl _ _, by simp [RD, toB], List.nodup_nil, by simp⟩

end Go.Proofs.YtdeobicgildamaaDoor
