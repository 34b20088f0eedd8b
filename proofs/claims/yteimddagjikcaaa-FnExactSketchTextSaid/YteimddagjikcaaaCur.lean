/- The draws' cursor: choices read from bytes. -/
import Derived.Test.YteimddagjikcaaaRecs
import Derived.Test.YteimddagjikcaaaBase
import Derived.Test.YteimddagjikcaaaFacts
import Derived.Test.YteimddagjikcaaaWords
import Derived.Test.YteimddagjikcaaaInts
import Derived.WalkKit
import Derived.WalkSpells
import Derived.KernelRfl
namespace Go.Proofs.Yteimddagjikcaaa
open Go.RowKit
set_option linter.unusedVariables false
set_option linter.unusedSimpArgs false

attribute [local simp] refs_dmap ints_plain ints_all ints_all1 ints_plain_take

def byD (n : Int) : D := .v (.int .u8 n)

def codL (bs : List Int) : D := .ls 1 bs.length (bs.map byD)

structure CurV where
  at' : Int
  seed : Int

def curO (bs : List Int) (c : CurV) : OB := .av [.d (codL bs), .d (.int c.at'), .d (.v (.int .u64 c.seed))]

def sdF (seed b : Int) : Int := IntKind.u64.wrap (IntKind.u64.wrap (IntKind.u64.wrap (seed * 6364136223846793005) + IntKind.u64.wrap b) + 884884)

attribute [local go_sem] curO codL

attribute [local simp] curO codL

def nxB (bs : List Int) (c : CurV) : Int := if c.at' < bs.length then bs.getD c.at'.toNat 0 else 0

def nxC (bs : List Int) (c : CurV) : CurV := ⟨c.at' + 1, sdF c.seed (nxB bs c)⟩

def hiF (seed : Int) : Int := bits .and .u64 (seed.fdiv (2 ^ min 40 64)) 255

def nxV (bs : List Int) (c : CurV) : Int := if c.at' + 1 ≤ bs.length then nxB bs c else hiF (sdF c.seed (nxB bs c))

def okCod (bs : List Int) : Prop := (∀ x ∈ bs, 0 ≤ x ∧ x ≤ 255) ∧ bs.length ≤ 65536

def okCur (n : Nat) (c : CurV) : Prop := 0 ≤ c.at' ∧ c.at' ≤ n

def pickV (bs : List Int) (n : Int) (c : CurV) : Int := if n ≤ 1 then 0 else if 200 < n then (nxV bs c * 256 + nxV bs (nxC bs c)).tmod n else (nxV bs c).tmod n

def pickC (bs : List Int) (n : Int) (c : CurV) : CurV := if n ≤ 1 then c else if 200 < n then nxC bs (nxC bs c) else nxC bs c

def oneV (bs : List Int) (n : Int) (c : CurV) : Bool := pickV bs n c == 0

def amV (bs : List Int) (zs : List Int) (m : Nat) (c : CurV) : Int := zs.getD (pickV bs m c).toNat 0

end Go.Proofs.Yteimddagjikcaaa
