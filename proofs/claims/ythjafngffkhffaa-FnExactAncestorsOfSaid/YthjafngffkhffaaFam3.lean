/- The children of a person: a part of a list, sorted in place. -/
import Derived.Test.YthjafngffkhffaaFam2
import Derived.Test.YthjafngffkhffaaInts
import Derived.WalkKit
import Derived.WalkSpells
import Derived.KernelRfl
namespace Go.Proofs.Ythjafngffkhffaa
open Go.RowKit
set_option linter.unusedVariables false
set_option linter.unusedSimpArgs false

attribute [local go_sem] PerV.d PerV.cs perL famD intL

attribute [local simp] perC_all perC_plains ints_plain ints_all ints_all1 ints_plain_take

def chil (p : PerV) (id : Int) : Bool := decide (p.one = id) || decide (p.two = id)

def kidF (l : List PerV) (id : Int) : List PerV := l.filter fun p => chil p id

def delL (l : List PerV) (id : Int) : List PerV := kidF l id ++ List.replicate (l.length - (kidF l id).length) PerV.zero

end Go.Proofs.Ythjafngffkhffaa
