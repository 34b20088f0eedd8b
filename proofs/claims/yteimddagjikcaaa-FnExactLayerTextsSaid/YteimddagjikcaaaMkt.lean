/- A mark's text: the letter m and a digit. -/
import Derived.Test.YteimddagjikcaaaWords
import Derived.WalkKit
import Derived.WalkSpells
import Derived.KernelRfl
import Derived.Handy
import Derived.Below
import Derived.Laws.IdiomStrings
namespace Go.Proofs.Yteimddagjikcaaa
open Go.RowKit
set_option linter.unusedVariables false
set_option linter.unusedSimpArgs false

theorem push_at (w : World) (o : Obj) : (w.alloc o).heap[w.heap.size]? = some o := by
  show (w.heap.push o)[w.heap.size]? = _
  simp

theorem cv_cell (w : World) (v : Value) (t : TypeId) : (w.alloc (.cells #[v] t)).cell? ⟨w.heap.size, 0, none⟩ = some v := by
  simp only [World.cell?, push_at, Option.isSome_none, Bool.false_eq_true, if_false]
  rfl

theorem cv_one (w : World) (z : Int) (b : UInt8) (hz : z = (b.toNat : Int)) : (convert 102 9 (.slice (some ⟨w.heap.size, 0, none⟩) 1 1)).run Try.prog (w.alloc (.cells #[.int .u8 z] 5)) = .ok (.string ⟨#[b]⟩) (w.alloc (.cells #[.int .u8 z] 5)) := by
  have h := run_convert_bytes_back (P := Try.prog) (w.alloc (.cells #[.int .u8 z] 5)) 102 9 5 ⟨w.heap.size, 0, none⟩ 1 [b] Try.underlying102 Try.underlying5 Try.underlying9 (by
    intro j hj
    have h0 : j = 0 := by simpa using hj
    subst h0
    have h1 := cv_cell w (.int .u8 z) 5
    rw [hz] at h1 ⊢
    exact h1)
  exact h

def mtB (k : Int) : ByteArray := ⟨#[109, UInt8.ofNat (48 + k.toNat)]⟩

set_option maxRecDepth 100000 in
theorem markText_c (k : Int) (h : k = 1 ∨ k = 2 ∨ k = 3 ∨ k = 4) (w : World) : Calls Try.prog 61 #[.int .i64 k] w fun e w' => e = .returned (.string (mtB k)) ∧ Below w.heap.size w w' := by
  rcases h with rfl | rfl | rfl | rfl
  · have hc := cv_one w 49 49 rfl
    go_enter Try.func61, Try.ntmps61
    go_wp2
    go_rounds 2
    go_ret
    exact ⟨congrArg (fun b => Ending.returned (Value.string b)) (by decide), by go_grown⟩
  · have hc := cv_one w 50 50 rfl
    go_enter Try.func61, Try.ntmps61
    go_wp2
    go_rounds 2
    go_ret
    exact ⟨congrArg (fun b => Ending.returned (Value.string b)) (by decide), by go_grown⟩
  · have hc := cv_one w 51 51 rfl
    go_enter Try.func61, Try.ntmps61
    go_wp2
    go_rounds 2
    go_ret
    exact ⟨congrArg (fun b => Ending.returned (Value.string b)) (by decide), by go_grown⟩
  · have hc := cv_one w 52 52 rfl
    go_enter Try.func61, Try.ntmps61
    go_wp2
    go_rounds 2
    go_ret
    exact ⟨congrArg (fun b => Ending.returned (Value.string b)) (by decide), by go_grown⟩

theorem markText_fn (k : Int) (h1 : 1 ≤ k) (h2 : k ≤ 4) : FnD Try.prog 61 [.int k] (.str (mtB k)) := by
  refine ⟨⟨_, Try.func61, by kernel_rfl, by kernel_rfl⟩, fun w vs hv => ?_⟩
  obtain ⟨hv, _⟩ := hv
  simp only [List.map_cons, List.map_nil, RCs, RC] at hv
  obtain ⟨v1, _, rfl, ⟨bs1, h1', _⟩, rfl⟩ := hv
  simp only [RD] at h1'
  obtain ⟨rfl, _⟩ := h1'
  refine (markText_c k (by omega) w).mono fun e w' hh => ?_
  obtain ⟨rfl, hB⟩ := hh
  exact ⟨_, [], rfl, hB, by simp [RD], List.nodup_nil, by simp⟩

end Go.Proofs.Yteimddagjikcaaa
