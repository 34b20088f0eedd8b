/- Lines from an ancestor to a descendant: the nearest child with the smallest number, step by step, is the first line of all. -/
import Derived.Test.YthjafngffkhffaaBfs2
import Derived.WalkKit
import Derived.WalkSpells
import Derived.KernelRfl
namespace Go.Proofs.Ythjafngffkhffaa
open Go.RowKit
set_option linter.unusedVariables false
set_option linter.unusedSimpArgs false

theorem pth_front' {nx : Int → List Int} : ∀ (n : Nat) (id k : Int), pth nx id (n + 1) k ↔ ∃ x ∈ nx id, pth nx x n k
  | 0, id, k => by
    simp only [pth]
    exact ⟨fun ⟨x, h1, h2⟩ => ⟨k, by rw [← h1]; exact h2, rfl⟩, fun ⟨x, h1, h2⟩ => ⟨id, rfl, by rw [h2]; exact h1⟩⟩
  | n + 1, id, k => by
    rw [pth]
    constructor
    · rintro ⟨x, h1, h2⟩
      obtain ⟨y, y1, y2⟩ := (pth_front' n id x).1 h1
      exact ⟨y, y1, x, y2, h2⟩
    · rintro ⟨y, y1, x, y2, h2⟩
      exact ⟨x, (pth_front' n id x).2 ⟨y, y1, y2⟩, h2⟩

def nxtSt (U : List (Int × Int)) (d : Int) (next c : Int) : Int := if lkI c U = some (d - 1) ∧ (next = 0 ∨ c < next) then c else next

def nxtF (U : List (Int × Int)) (d : Int) (cs : List Int) : Int := cs.foldl (nxtSt U d) 0

def lineF (U : List (Int × Int)) (l : List PerV) : Nat → Int → List Int
  | 0, a => [a]
  | n + 1, a => a :: lineF U l n (nxtF U ((n + 1 : Nat) : Int) (kidI l a))

def fstF (g : PerV → List Int) : List PerV → List Int
  | [] => []
  | p :: r => if (g p).length = 0 then fstF g r else g p

def linS (l : List PerV) (to : Int) : Nat → List Int → Int → List Int
  | 0, pre, a => if a = to then pre ++ [a] else []
  | n + 1, pre, a => fstF (fun p => if chil p a then linS l to n (pre ++ [a]) p.id else []) l

def stair (L : List (Int × Int)) : Prop := ∀ i, i < L.length → (L.getD i (0, 0)).2 ≤ i

def toL (l : List PerV) (a to : Int) : List Int :=
  match lkI a (bfsI l to) with
  | none => []
  | some n => lineF (bfsI l to) l n.toNat a

def toS (l : List PerV) (a to : Int) : Nat → List Int
  | 0 => []
  | k + 1 => if (toS l a to k).length = 0 then linS l to k [] a else toS l a to k

end Go.Proofs.Ythjafngffkhffaa
