/- The text of marks; no program. -/
import Derived.Test.YtdeobicgildamaaDoorWords
import Derived.Test.YtdeobicgildamaaDoorInts
import Derived.Test.YtdeobicgildamaaDoorBya
import Derived.WalkKit
import Derived.WalkSpells
import Derived.KernelRfl
import Derived.Lib.Join
namespace Go.Proofs.YtdeobicgildamaaDoor
open Go.RowKit
set_option linter.unusedVariables false
set_option linter.unusedSimpArgs false

def mkWord (n : Int) : ByteArray :=
  match n with
  | 1 => ⟨#[108, 97, 98, 101, 108]⟩
  | 2 => ⟨#[99, 114, 101, 115, 99, 101, 110, 116]⟩
  | 3 => ⟨#[115, 116, 97, 114]⟩
  | 4 => ⟨#[98, 105, 114, 100]⟩
  | 5 => ⟨#[114, 105, 110, 103]⟩
  | 6 => ⟨#[102, 108, 111, 119, 101, 114]⟩
  | 7 => ⟨#[119, 104, 101, 101, 108]⟩
  | _ => ⟨#[]⟩

def aSp : ByteArray := ⟨#[97, 32]⟩

def onB : ByteArray := ⟨#[32, 111, 110, 32]⟩

def noM : ByteArray := ⟨#[110, 111, 32, 109, 97, 114, 107]⟩

def wA (m : Int) : ByteArray := aSp ++ mkWord m

theorem mkWord_size (n : Int) : (mkWord n).size ≤ 8 := by
  unfold mkWord
  split <;> decide

def okMarks (l : List Int) : Bool := l.all (fun m => inR m 1 7) && decide (l.length ≤ 6)

def mtT (r : List Int) : Nat → ByteArray
  | 0 => ⟨#[]⟩
  | k + 1 => if k + 1 < r.length then (mtT r k ++ aSp ++ mkWord (r.getD k 0)) ++ onB else mtT r k ++ aSp ++ mkWord (r.getD k 0)

theorem mtT_size (r : List Int) : ∀ k, (mtT r k).size ≤ 14 * k
  | 0 => Nat.le_refl 0
  | k + 1 => by
    have h1 := mtT_size r k
    have h2 := mkWord_size (r.getD k 0)
    have h3 : aSp.size = 2 := rfl
    have h4 : onB.size = 4 := rfl
    rw [mtT]
    split
    · simp only [ByteArray.size_append]
      omega
    · simp only [ByteArray.size_append]
      omega

def marksB (l : List Int) : ByteArray := if l = [] then noM else mtT l.reverse l.length

def wL (m : Int) : List UInt8 := (wA m).data.toList

theorem join_cons (sep : List UInt8) (x : List UInt8) : ∀ (r : List (List UInt8)), Lib.join (x :: r) sep ++ sep = x ++ sep ++ (if r = [] then [] else Lib.join r sep ++ sep)
  | [] => by simp [Lib.join]
  | y :: r => by simp [Lib.join, List.intercalate]

theorem join_flat (sep : List UInt8) : ∀ (r : List (List UInt8)), r ≠ [] → Lib.join r sep ++ sep = r.flatMap (fun x => x ++ sep)
  | [], h => absurd rfl h
  | [x], _ => by simp [Lib.join]
  | x :: y :: r, _ => by
    rw [join_cons, if_neg (by simp), join_flat sep (y :: r) (by simp)]
    rfl

theorem mtT_list (r : List Int) : ∀ k, k < r.length → (mtT r k).data.toList = (r.take k).flatMap fun m => wL m ++ onB.data.toList
  | 0, _ => rfl
  | k + 1, h => by
    have ih := mtT_list r k (by omega)
    rw [mtT, if_pos h, take_next 0 (by omega), List.flatMap_append, ba_app, ba_app, ba_app, ih]
    simp [wL, wA, ba_app]

theorem mtT_join {r : List Int} (h : r ≠ []) : mtT r r.length = ⟨(Lib.join ((r.map wA).map (·.data.toList)) onB.data.toList).toArray⟩ := by
  refine ba_ext ?_
  simp only
  have h1 : (mtT r r.length).data.toList ++ onB.data.toList = (r.map wL).flatMap (fun x => x ++ onB.data.toList) := by
    obtain ⟨n, hn⟩ : ∃ n, r.length = n + 1 := ⟨r.length - 1, by have := List.length_pos_iff.2 h; omega⟩
    have ht : r.take n ++ [r.getD n 0] = r := by
      rw [← take_next 0 (by omega), List.take_of_length_le (by omega)]
    rw [hn, mtT, if_neg (by omega), ba_app, ba_app, mtT_list r n (by omega)]
    conv => rhs; rw [← ht]
    rw [List.map_append, List.flatMap_append, List.flatMap_map]
    simp [wL, wA, ba_app]
  have h2 := join_flat onB.data.toList ((r.map wA).map (·.data.toList)) (by simpa using h)
  have e : (r.map wA).map (·.data.toList) = r.map wL := by
    rw [List.map_map]
    rfl
  rw [e] at h2 ⊢
  rw [← h1] at h2
  exact (List.append_cancel_right h2).symm

end Go.Proofs.YtdeobicgildamaaDoor
