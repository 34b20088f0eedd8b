/- The length of a region's edge. -/
/- Areas of regions, of unions and intersections; no program. -/
import Derived.Test.YtjbifidphckjoaaCells
import Derived.WalkKit
import Derived.WalkSpells
import Derived.KernelRfl
import Derived.Test.YtjbifidphckjoaaPop
import Derived.Laws.BitsLemmas
namespace Go.Proofs.Ytjbifidphckjoaa
open Go.RowKit
set_option linter.unusedVariables false
set_option linter.unusedSimpArgs false

attribute [local go_sem] intL pairD

attribute [local simp] ints_plain ints_all ints_all1 ints_plain_take pairs_plain pairs_all

def sx (x : Int) (k : Nat) : Int := if k = 0 then x - 1 else if k = 1 then x + 1 else x

def sy (y : Int) (k : Nat) : Int := if k = 2 then y - 1 else if k = 3 then y + 1 else y

def sidesC (x y : Int) : List D := [.int (x - 1), .int y, .int (x + 1), .int y, .int x, .int (y - 1), .int x, .int (y + 1)]

def besideC (x y : Int) : List D := [.ls 1 2 [.int (x - 1), .int y], .ls 1 2 [.int (x + 1), .int y], .ls 1 2 [.int x, .int (y - 1)], .ls 1 2 [.int x, .int (y + 1)]]

attribute [local go_sem] sidesC besideC

def sd (zs : List Int) (c k : Nat) : Int := if hasZ zs (sx ((c % 20 : Nat) : Int) k) (sy ((c / 20 : Nat) : Int) k) then 0 else 1

def edgeP (zs : List Int) (c k : Nat) : Int := ((List.range k).map (sd zs c)).sum

def edgeS (zs : List Int) (l : List Nat) (i : Nat) : Int := ((List.range i).map fun j => edgeP zs (l.getD j 0) 4).sum

def edgeR (zs : List Int) : D := if okReg zs then .tu [.int (edgeS zs (cellsN zs 480) (cellsN zs 480).length), .bool true] else .tu [.int 0, .bool false]

end Go.Proofs.Ytjbifidphckjoaa

namespace Go.Proofs.Ytjbifidphckjoaa
open Go.RowKit
set_option linter.unusedVariables false
set_option linter.unusedSimpArgs false

def rbit (zs : List Int) (y x : Nat) : Bool := (zs.getD y 0).toNat.testBit x

def cmbI (how a b : Int) : Int := if how = 1 then bits .or .i64 a b else if how = 2 then bits .and .i64 a b else bits .andNot .i64 a b

def combZ (a b : List Int) (how : Int) : List Int := tab (fun y => cmbI how (a.getD y 0) (b.getD y 0)) 24

@[simp] theorem combZ_len (a b : List Int) (how : Int) : (combZ a b how).length = 24 := tab_len _ _

def combR (a b : List Int) (how : Int) : D := if okReg a && okReg b && inR how 1 3 then .tu [.ag [intL (combZ a b how)], .bool true] else .tu [.ag [intL []], .bool false]

end Go.Proofs.Ytjbifidphckjoaa
