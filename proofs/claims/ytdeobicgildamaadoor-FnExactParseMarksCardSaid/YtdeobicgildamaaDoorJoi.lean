/- strings.Join: the library's contract, over data. -/
import Derived.Test.YtdeobicgildamaaDoorMtx
import Derived.Test.YtdeobicgildamaaDoorFacts
import Derived.WalkKit
import Derived.WalkSpells
import Derived.KernelRfl
import Derived.Shelf.Strings.OnBuilder
import Derived.Test.YtdeobicgildamaaDoorShelfJ
namespace Go.Proofs.YtdeobicgildamaaDoor
open Go.RowKit
set_option linter.unusedVariables false
set_option linter.unusedSimpArgs false

theorem rds_vals {w : World} {o : Bool} : ∀ {xs ys : List Value} {bs : List Nat}, RDs w o (xs.map D.v) ys bs → ys = xs
  | [], ys, bs, h => by
    simp only [List.map_nil, RDs] at h
    exact h.1
  | x :: xs, ys, bs, h => by
    simp only [List.map_cons, RDs, RD] at h
    obtain ⟨y, ys', b1, b2, rfl, _, ⟨h1, _⟩, h2⟩ := h
    rw [h1, rds_vals h2]

theorem cell_at {w : World} {b : Nat} {c : Array Value} {T : TypeId} {fz : Nat × Nat} (hb : w.heap[b]? = some (.cells c T fz)) (o : Nat) : w.cell? ⟨b, o, none⟩ = c[o]? := by
  simp only [World.cell?, hb, Option.isSome_none, Bool.false_eq_true, if_false]

theorem joinOk : FnOk Tryd.prog 22 := ⟨_, Tryd.func22, by kernel_rfl, by kernel_rfl⟩

theorem join_fn (xs : List ByteArray) (sep : ByteArray) (hN : xs.length ≤ 1000) (hl : (Lib.join (xs.map (·.data.toList)) sep.data.toList).length ≤ 140737488355328) : FnD Tryd.prog 22 [strs xs, .str sep] (.str ⟨(Lib.join (xs.map (·.data.toList)) sep.data.toList).toArray⟩) := by
  refine ⟨joinOk, fun w vs hv => ?_⟩
  obtain ⟨hv, _⟩ := hv
  simp only [List.map_cons, List.map_nil, RCs, RC] at hv
  obtain ⟨v1, _, rfl, ⟨bs1, h1, h1b⟩, v2, _, rfl, ⟨bs2, h2, _⟩, rfl⟩ := hv
  simp only [strs, RD] at h1 h2
  obtain ⟨rfl, _⟩ := h2
  rcases h1 with ⟨a, c, rfl, _, hn, _⟩ | ⟨b, off, cap, ys, bs', rfl, rfl, _, hcap, ⟨hones, c, T, fz, hb, hcz, _⟩, hrd⟩
  · have hx : xs = [] := List.eq_nil_of_length_eq_zero hn
    subst hx
    refine (Tryd.strings_Join_none a c sep w).mono fun e w' hh => ?_
    obtain ⟨rfl, rfl⟩ := hh
    exact ⟨_, [], rfl, Below.refl _ _, by simp [RD, Lib.join, List.intercalate], List.nodup_nil, by simp⟩
  · have hys : ys = xs.map Value.string := rds_vals (xs := xs.map Value.string) (by rw [List.map_map]; exact hrd)
    subst hys
    have hlt : b < w.heap.size := h1b b (by simp)
    refine (Tryd.strings_Join b off cap xs sep w (fun j x hj => ?_) hlt (by omega) hcap hl).mono fun e w' hh => ?_
    · rw [cell_at hb, hcz j (by simpa using (List.getElem?_eq_some_iff.1 hj).1)]
      simp [hj]
    · obtain ⟨rfl, hB⟩ := hh
      exact ⟨_, [], rfl, hB, by simp [RD], List.nodup_nil, by simp⟩

end Go.Proofs.YtdeobicgildamaaDoor
