/- Texts cut at a separator; no program. -/
import Derived.Test.YtdeobicgildamaaGreatDoorGlob
import Derived.Test.YtdeobicgildamaaGreatDoorJoi
import Derived.WalkKit
import Derived.WalkSpells
import Derived.KernelRfl
import Derived.Lib.Split
namespace Go.Proofs.YtdeobicgildamaaGreatDoor
open Go.RowKit
set_option linter.unusedVariables false
set_option linter.unusedSimpArgs false

def splL (s sep : List UInt8) : List (List UInt8) := Lib.splitK sep 0 (Lib.count s sep) s

theorem splL_hit {s sep : List UInt8} {i : Nat} (hs : sep ≠ []) (h : Lib.index s sep = i) : splL s sep = s.take i :: splL (s.drop (i + sep.length)) sep := by
  unfold splL
  have hne : ¬ (Lib.index s sep == -1) = true := by
    rw [h, beq_iff_eq]
    omega
  rw [Lib.count_hit hs h, Nat.add_comm 1, Lib.splitK, if_neg hne, h, Int.toNat_natCast, Nat.add_zero]

theorem splL_end {s sep : List UInt8} (h : Lib.index s sep = -1) : splL s sep = [s] := by
  unfold splL
  rw [Lib.count_miss h]
  rfl

theorem splL_cut {s sep p rest : List UInt8} (hs : sep ≠ []) (e : s = p ++ sep ++ rest) (h : Lib.index s sep = p.length) : splL s sep = p :: splL rest sep := by
  rw [splL_hit hs h]
  subst e
  congr 1
  · rw [List.append_assoc, List.take_left]
  · congr 1
    rw [← List.length_append, List.drop_left]

theorem splL_len {sep : List UInt8} (hs : sep ≠ []) : ∀ (n : Nat) (s : List UInt8), s.length ≤ n → (splL s sep).length = Lib.count s sep + 1 := by
  intro n
  induction n with
  | zero =>
    intro s hn
    have : s = [] := List.eq_nil_of_length_eq_zero (by omega)
    subst this
    have hi : Lib.index [] sep = -1 := by
      unfold Lib.index
      cases sep with
      | nil => exact absurd rfl hs
      | cons a b => rfl
    rw [splL_end hi, Lib.count_miss hi]
    rfl
  | succ n ih =>
    intro s hn
    have hge := Lib.index_ge s sep
    by_cases h : Lib.index s sep = -1
    · rw [splL_end h, Lib.count_miss h]
      rfl
    · obtain ⟨i, hi⟩ : ∃ i : Nat, Lib.index s sep = i := ⟨(Lib.index s sep).toNat, by omega⟩
      have hpos : 1 ≤ sep.length := List.length_pos_iff.2 hs
      have hroom := Lib.index_room s sep (by omega)
      rw [splL_hit hs hi, Lib.count_hit hs hi, List.length_cons, ih _ (by rw [List.length_drop]; omega)]
      omega

def spL (b : UInt8) (cur : List UInt8) : List UInt8 → List (List UInt8)
  | [] => [cur]
  | x :: r => if x = b then cur :: spL b [] r else spL b (cur ++ [x]) r

def toB (l : List UInt8) : ByteArray := ⟨l.toArray⟩

@[simp] theorem toB_list (l : List UInt8) : (toB l).data.toList = l := rfl

@[simp] theorem toB_size (l : List UInt8) : (toB l).size = l.length := rfl

theorem toB_of (s : ByteArray) : toB s.data.toList = s := ba_list s

theorem ba_size (s : ByteArray) : s.size = s.data.toList.length := by
  rw [← toB_size, toB_of]

def splT (s sep : ByteArray) : List ByteArray := (splL s.data.toList sep.data.toList).map toB

theorem splB_eq (s sep : ByteArray) : Lib.splitB sep 0 (Lib.countB s sep) s = splT s sep := by
  have h := Lib.splitB_data sep 0 (Lib.countB s sep) s
  have h2 : ((Lib.splitB sep 0 (Lib.countB s sep) s).map (·.data.toList)).map toB = splT s sep := by
    rw [h]
    rfl
  rw [List.map_map] at h2
  rw [← h2]
  conv => lhs; rw [← List.map_id (Lib.splitB sep 0 (Lib.countB s sep) s)]
  exact List.map_congr_left fun x _ => (toB_of x).symm

theorem splT_len {s sep : ByteArray} (hs : 1 ≤ sep.size) : (splT s sep).length = Lib.countB s sep + 1 := by
  have h0 : sep.data.toList ≠ [] := fun e => by
    rw [ba_size, e] at hs
    simp at hs
  rw [splT, List.length_map, splL_len h0 _ _ (Nat.le_refl _)]

def idxB (w : ByteArray) : List ByteArray → Int
  | [] => -1
  | x :: r => if x = w then 0 else if idxB w r = -1 then -1 else idxB w r + 1

theorem idxB_at {w : ByteArray} : ∀ {l : List ByteArray} {i : Nat}, i < l.length → l.getD i ⟨#[]⟩ = w → (∀ k, k < i → l.getD k ⟨#[]⟩ ≠ w) → idxB w l = i
  | [], i, h, _, _ => by simp at h
  | x :: r, 0, _, h, _ => by
    rw [idxB, if_pos (by simpa using h)]
    rfl
  | x :: r, i + 1, hi, h, hn => by
    have h0 : x ≠ w := by simpa using hn 0 (by omega)
    have ih := idxB_at (l := r) (i := i) (by simpa using hi) (by simpa using h) (fun k hk => by simpa using hn (k + 1) (by omega))
    rw [idxB, if_neg h0, ih, if_neg (by omega)]
    omega

theorem idxB_no {w : ByteArray} : ∀ {l : List ByteArray}, (∀ k, k < l.length → l.getD k ⟨#[]⟩ ≠ w) → idxB w l = -1
  | [], _ => rfl
  | x :: r, hn => by
    have h0 : x ≠ w := by simpa using hn 0 (by simp)
    have ih := idxB_no (l := r) (fun k hk => by simpa using hn (k + 1) (by simpa using hk))
    rw [idxB, if_neg h0, if_pos ih]

theorem idxB_in (w : ByteArray) : ∀ l : List ByteArray, -1 ≤ idxB w l ∧ idxB w l < l.length
  | [] => by simp [idxB]
  | x :: r => by
    have := idxB_in w r
    rw [idxB]
    split
    · simp only [List.length_cons]
      omega
    · split
      · simp only [List.length_cons]
        omega
      · simp only [List.length_cons]
        omega

end Go.Proofs.YtdeobicgildamaaGreatDoor
