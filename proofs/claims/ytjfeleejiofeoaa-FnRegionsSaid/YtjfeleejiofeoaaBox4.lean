/- Valid boxes; boxes that overlap. -/
import Derived.Test.YtjfeleejiofeoaaBox3
import Derived.Test.YtjfeleejiofeoaaBits
import Derived.WalkKit
import Derived.WalkSpells
import Derived.KernelRfl
namespace Go.Proofs.Ytjfeleejiofeoaa
open Go.RowKit
set_option linter.unusedVariables false
set_option linter.unusedSimpArgs false

attribute [local go_sem] BoxV.d BoxV.cs boxL intL

def hasB (b : BoxV) (x y : Int) : Bool := inR (x - b.x) 0 (b.s - 1) && inR (y - b.y) 0 (b.s - 1)

def fullZ : List Int := List.replicate 24 1048575

attribute [local simp] ints_plain ints_all ints_all1

def okBox (b : BoxV) : Bool := inR b.s 1 8 && inR b.x 0 19 && inR b.y 0 23 && allB b inSh b.s.toNat

end Go.Proofs.Ytjfeleejiofeoaa
