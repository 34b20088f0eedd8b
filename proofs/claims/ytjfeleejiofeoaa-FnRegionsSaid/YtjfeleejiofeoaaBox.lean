/- Lists of boxes: copying, comparing, counting. -/
import Derived.Test.YtjfeleejiofeoaaRecs
import Derived.Test.YtjfeleejiofeoaaBase
import Derived.Test.YtjfeleejiofeoaaFacts
import Derived.WalkKit
import Derived.WalkSpells
import Derived.KernelRfl
namespace Go.Proofs.Ytjfeleejiofeoaa
open Go.RowKit
set_option linter.unusedVariables false
set_option linter.unusedSimpArgs false

structure BoxV where
  (x y s : Int)

def BoxV.d (b : BoxV) : D := .ag [.int b.x, .int b.y, .int b.s]

def BoxV.cs (b : BoxV) : List D := [.int b.x, .int b.y, .int b.s]

def BoxV.zero : BoxV := ⟨0, 0, 0⟩

def boxC (l : List BoxV) : List D := recC BoxV.cs l

def boxL (l : List BoxV) : D := .ls 3 l.length (boxC l)

attribute [local go_sem] BoxV.d BoxV.cs boxL

theorem box_k : ∀ b : BoxV, b.cs.length = 3 := fun _ => rfl

theorem boxC_all (l : List BoxV) : (boxC l).take (l.length * 3) = boxC l := recC_all box_k l

theorem boxC_plains (l : List BoxV) : plains (boxC l) := recC_plains (cs := BoxV.cs) (fun b => (⟨trivial, trivial, trivial, trivial⟩ : plains [.int b.x, .int b.y, .int b.s])) l

@[simp] theorem boxC_len (l : List BoxV) : (boxC l).length = l.length * 3 := recC_len box_k l

attribute [local simp] boxC_all boxC_plains

end Go.Proofs.Ytjfeleejiofeoaa
