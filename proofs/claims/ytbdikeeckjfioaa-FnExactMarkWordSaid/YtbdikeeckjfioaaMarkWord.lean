/- What MarkWord does, in the program and in the reference. -/
import Derived.Test.YtbdikeeckjfioaaBase
namespace Go.Proofs.Ytbdikeeckjfioaa
open Go.RowKit

def markWord (n : Int) : ByteArray :=
  match n with
  | 1 => ⟨#[108, 97, 98, 101, 108]⟩
  | 2 => ⟨#[99, 114, 101, 115, 99, 101, 110, 116]⟩
  | 3 => ⟨#[115, 116, 97, 114]⟩
  | 4 => ⟨#[98, 105, 114, 100]⟩
  | 5 => ⟨#[114, 105, 110, 103]⟩
  | 6 => ⟨#[102, 108, 111, 119, 101, 114]⟩
  | 7 => ⟨#[119, 104, 101, 101, 108]⟩
  | _ => ⟨#[]⟩

theorem l19Word_c (n : Int) (w : World) (h1 : 1 ≤ n) (h2 : n ≤ 7) :
    Calls Try.prog 32 #[.int .i64 n] w fun e w' => e = .returned (.string (markWord n)) ∧ Below w.heap.size w w' := by
  obtain rfl | rfl | rfl | rfl | rfl | rfl | rfl : n = 1 ∨ n = 2 ∨ n = 3 ∨ n = 4 ∨ n = 5 ∨ n = 6 ∨ n = 7 := by omega
  all_goals
    go_enter Try.func32, Try.ntmps32
    go_wp2
    go_ret
    exact ⟨rfl, (Below.refl _ _).alloc (Nat.le_refl _) _⟩

theorem specMarkWord_no (n : Int) (w : World) (h : inR n 1 7 = false) :
    Calls Try.prog 9 #[.int .i64 n] w fun e w' => e = .returned (.tuple #[.string ⟨#[]⟩, .bool false]) ∧ Below w.heap.size w w' := by
  go_enter Try.func9, Try.ntmps9
  go_wp2_with (go_at_call 31; refine (l1In_c _ _ _ _).mono ?_; rintro e w' ⟨rfl, rfl⟩)
  go_ret2
  exact ⟨rfl, Below.refl _ _⟩

theorem specMarkWord_yes (n : Int) (w : World) (h : inR n 1 7 = true) (h1 : 1 ≤ n) (h2 : n ≤ 7) :
    Calls Try.prog 9 #[.int .i64 n] w fun e w' => e = .returned (.tuple #[.string (markWord n), .bool true]) ∧ Below w.heap.size w w' := by
  go_enter Try.func9, Try.ntmps9
  go_wp2_with (first | (go_at_call 31; refine (l1In_c _ _ _ _).mono ?_; rintro e w' ⟨rfl, rfl⟩) | (go_at_call 32; refine (l19Word_c _ _ h1 h2).mono ?_; rintro e w' ⟨rfl, hb⟩))
  go_ret2
  exact ⟨rfl, hb⟩

theorem implMarkWord_no (n : Int) (w : World) (h : inR n 1 7 = false) :
    Calls Try.prog 10 #[.int .i64 n] w fun e w' => e = .returned (.tuple #[.string ⟨#[]⟩, .bool false]) ∧ Below w.heap.size w w' := by
  go_enter Try.func10, Try.ntmps10
  go_wp2_with (go_at_call 33; refine (inside_c _ _ _ _).mono ?_; rintro e w' ⟨rfl, rfl⟩)
  go_ret2
  exact ⟨rfl, Below.refl _ _⟩

theorem implMarkWord_yes (n : Int) (w : World) (h1 : 1 ≤ n) (h2 : n ≤ 7) :
    Calls Try.prog 10 #[.int .i64 n] w fun e w' => e = .returned (.tuple #[.string (markWord n), .bool true]) ∧ Below w.heap.size w w' := by
  obtain rfl | rfl | rfl | rfl | rfl | rfl | rfl : n = 1 ∨ n = 2 ∨ n = 3 ∨ n = 4 ∨ n = 5 ∨ n = 6 ∨ n = 7 := by omega
  all_goals
    go_enter Try.func10, Try.ntmps10
    go_wp2
    go_ret2
    exact ⟨rfl, (Below.refl _ _).alloc (Nat.le_refl _) _⟩

theorem fnExactMarkWord_c (n : Int) (w : World) :
    Calls Try.prog 3 #[.int .i64 n] w fun e w' => e = .returned (.bool true) ∧ Below w.heap.size w w' := by
  by_cases h : 1 ≤ n ∧ n ≤ 7
  · obtain ⟨h1, h2⟩ := h
    go_enter Try.func3, Try.ntmps3
    go_wp2_with (first | (go_at_call 9; refine (specMarkWord_yes _ _ (inR_yes h1 h2) h1 h2).mono ?_; rintro e w' ⟨rfl, hb⟩) | (go_at_call 10; refine (implMarkWord_yes _ _ h1 h2).mono ?_; rintro e w' ⟨rfl, hc⟩))
    go_ret
    exact ⟨rfl, hb.trans (hc.mono hb.size)⟩
  · go_enter Try.func3, Try.ntmps3
    go_wp2_with (first | (go_at_call 9; refine (specMarkWord_no _ _ (inR_not h)).mono ?_; rintro e w' ⟨rfl, hb⟩) | (go_at_call 10; refine (implMarkWord_no _ _ (inR_not h)).mono ?_; rintro e w' ⟨rfl, hc⟩))
    go_ret
    exact ⟨rfl, hb.trans (hc.mono hb.size)⟩

end Go.Proofs.Ytbdikeeckjfioaa
