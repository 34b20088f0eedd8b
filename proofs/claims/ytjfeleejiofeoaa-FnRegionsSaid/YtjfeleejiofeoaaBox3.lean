/- All cells of a box. -/
import Derived.Test.YtjfeleejiofeoaaBox2
import Derived.WalkKit
import Derived.WalkSpells
import Derived.KernelRfl
namespace Go.Proofs.Ytjfeleejiofeoaa
open Go.RowKit
set_option linter.unusedVariables false
set_option linter.unusedSimpArgs false

attribute [local go_sem] BoxV.d BoxV.cs boxL

def hXY (p : Int → Int → Bool) : List D → D
  | [.v (.int .i64 x), .v (.int .i64 y)] => .bool (p x y)
  | _ => .bool false

theorem hXY_at {p : Int → Int → Bool} {x y : Int} : hXY p [.int x, .int y] = .bool (p x y) := rfl

def isXY (ds : List D) : Prop := ∃ x y : Int, ds = [.int x, .int y] ∧ 0 ≤ x ∧ x ≤ 2000 ∧ 0 ≤ y ∧ y ≤ 2000

def rowB (b : BoxV) (p : Int → Int → Bool) (j n : Nat) : Bool := (List.range n).all fun i => p (b.x + i) (b.y + j)

def allB (b : BoxV) (p : Int → Int → Bool) (n : Nat) : Bool := (List.range n).all fun j => rowB b p j b.s.toNat

end Go.Proofs.Ytjfeleejiofeoaa
