/- Lines from an ancestor to a descendant: the nearest child with the smallest number, step by step, is the first line of all. -/
import Derived.Test.YthjafngffkhffaaBfs2
import Derived.WalkKit
import Derived.WalkSpells
import Derived.KernelRfl
namespace Go.Proofs.Ythjafngffkhffaa
open Go.RowKit
set_option linter.unusedVariables false
set_option linter.unusedSimpArgs false

theorem pth_front' {nx : Int → List Int} : ∀ (n : Nat) (id k : Int), pth nx id (n + 1) k ↔ ∃ x ∈ nx id, pth nx x n k
  | 0, id, k => by
    simp only [pth]
    exact ⟨fun ⟨x, h1, h2⟩ => ⟨k, by rw [← h1]; exact h2, rfl⟩, fun ⟨x, h1, h2⟩ => ⟨id, rfl, by rw [h2]; exact h1⟩⟩
  | n + 1, id, k => by
    rw [pth]
    constructor
    · rintro ⟨x, h1, h2⟩
      obtain ⟨y, y1, y2⟩ := (pth_front' n id x).1 h1
      exact ⟨y, y1, x, y2, h2⟩
    · rintro ⟨y, y1, x, y2, h2⟩
      exact ⟨x, (pth_front' n id x).2 ⟨y, y1, y2⟩, h2⟩

def nxtSt (U : List (Int × Int)) (d : Int) (next c : Int) : Int := if lkI c U = some (d - 1) ∧ (next = 0 ∨ c < next) then c else next

def nxtF (U : List (Int × Int)) (d : Int) (cs : List Int) : Int := cs.foldl (nxtSt U d) 0

def lineF (U : List (Int × Int)) (l : List PerV) : Nat → Int → List Int
  | 0, a => [a]
  | n + 1, a => a :: lineF U l n (nxtF U ((n + 1 : Nat) : Int) (kidI l a))

def fstF (g : PerV → List Int) : List PerV → List Int
  | [] => []
  | p :: r => if (g p).length = 0 then fstF g r else g p

def linS (l : List PerV) (to : Int) : Nat → List Int → Int → List Int
  | 0, pre, a => if a = to then pre ++ [a] else []
  | n + 1, pre, a => fstF (fun p => if chil p a then linS l to n (pre ++ [a]) p.id else []) l

theorem chil_iff {p : PerV} {a : Int} : chil p a = true ↔ p.one = a ∨ p.two = a := by simp [chil]

theorem per_pos {l : List PerV} (h : okFam l = true) {a : Int} (ha : 0 ≤ findP l a) : 1 ≤ a ∧ a ≤ 999 := by
  have h1 := okFam_mem h (perOf_in ha)
  have h2 := perOf_id ha
  simp only [okPer, Bool.and_eq_true, inR_iff] at h1
  omega

theorem chil_par {l : List PerV} (h : okFam l = true) {p : PerV} (hp : p ∈ l) {a : Int} (ha : 1 ≤ a) : chil p a = true ↔ a ∈ parI l p.id := by
  obtain ⟨h1, h2⟩ := perOf_mem h hp
  have h3 := two_zero h h2
  rw [chil_iff, parI, h1]
  rw [h1] at h3
  split
  · rename_i h0
    have := h3 h0
    simp only [List.not_mem_nil, iff_false, not_or]
    omega
  · simp only [List.mem_cons, List.not_mem_nil, or_false]
    constructor
    · rintro (e | e)
      · exact .inl e.symm
      · exact .inr e.symm
    · rintro (e | e)
      · exact .inl e.symm
      · exact .inr e.symm

theorem kidI_par {l : List PerV} (h : okFam l = true) {a c : Int} (ha : 1 ≤ a) : c ∈ kidI l a ↔ 0 ≤ findP l c ∧ a ∈ parI l c := by
  rw [kidI, List.mem_map]
  constructor
  · rintro ⟨p, hp, rfl⟩
    obtain ⟨h1, h2⟩ := kids_mem.1 hp
    exact ⟨(perOf_mem h h1).2, (chil_par h h1 ha).1 h2⟩
  · rintro ⟨h1, h2⟩
    refine ⟨perOf l c, kids_mem.2 ⟨perOf_in h1, (chil_par h (perOf_in h1) ha).2 ?_⟩, perOf_id h1⟩
    rw [perOf_id h1]
    exact h2

def stair (L : List (Int × Int)) : Prop := ∀ i, i < L.length → (L.getD i (0, 0)).2 ≤ i

def toL (l : List PerV) (a to : Int) : List Int :=
  match lkI a (bfsI l to) with
  | none => []
  | some n => lineF (bfsI l to) l n.toNat a

def toS (l : List PerV) (a to : Int) : Nat → List Int
  | 0 => []
  | k + 1 => if (toS l a to k).length = 0 then linS l to k [] a else toS l a to k

end Go.Proofs.Ythjafngffkhffaa
