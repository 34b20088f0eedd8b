/- Insertion sort by years of birth: the lists, no program. -/
import Derived.Test.YthjafngffkhffaaFam2
import Derived.Test.YthjafngffkhffaaInts
import Derived.WalkKit
import Derived.WalkSpells
import Derived.KernelRfl
namespace Go.Proofs.Ythjafngffkhffaa
open Go.RowKit
set_option linter.unusedVariables false
set_option linter.unusedSimpArgs false

def posB (l : List PerV) (x : PerV) : Nat := (l.reverse.dropWhile fun y => decide (x.born < y.born)).length

def insB (l : List PerV) (x : PerV) : List PerV := l.take (posB l x) ++ x :: l.drop (posB l x)

def sortB (l : List PerV) : List PerV := l.foldl insB []

def mid (B : List PerV) (x : PerV) (j : Nat) (R : List PerV) : List PerV := B.take j ++ x :: (B.drop j ++ R)

def srtN (a : List PerV) (i : Nat) : List PerV := sortB (a.take i) ++ a.drop i

end Go.Proofs.Ythjafngffkhffaa
