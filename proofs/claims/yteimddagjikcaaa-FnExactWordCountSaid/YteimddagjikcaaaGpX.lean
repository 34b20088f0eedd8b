/- A group of charges read off its text; no program. -/
import Derived.Test.YteimddagjikcaaaSplX
import Derived.Test.YteimddagjikcaaaGroupText
import Derived.WalkKit
import Derived.WalkSpells
import Derived.KernelRfl
namespace Go.Proofs.Yteimddagjikcaaa
open Go.RowKit
set_option linter.unusedVariables false
set_option linter.unusedSimpArgs false

def spB : ByteArray := ⟨#[32]⟩

def ckC (n : Nat) : Int := ((n / 8 + 1 : Nat) : Int)

def ckK (n : Nat) : Int := ((n % 8 + 1 : Nat) : Int)

def gkF (w0 w1 : ByteArray) : Nat → Int × Int
  | 0 => (0, 0)
  | n + 1 => if w0 = numText (ckC n) (ckK n) ∧ w1 = kindText (ckK n) (ckC n) then (ckC n, ckK n) else gkF w0 w1 n

def gWords (c k a t : Int) : List ByteArray := if 0 < a then [numText c k, kindText k c, attName k a, tincWord t] else [numText c k, kindText k c, tincWord t]

def gpC (ws : List ByteArray) : Int × Int × Int × Int :=
  ((gkF (ws.getD 0 ⟨#[]⟩) (ws.getD 1 ⟨#[]⟩) 48).1, (gkF (ws.getD 0 ⟨#[]⟩) (ws.getD 1 ⟨#[]⟩) 48).2,
    (if ws.length = 4 then idxB (ws.getD 2 ⟨#[]⟩) (attNames (gkF (ws.getD 0 ⟨#[]⟩) (ws.getD 1 ⟨#[]⟩) 48).2) + 1 else 0), idxB (ws.getD (ws.length - 1) ⟨#[]⟩) tincWords + 1)

def okG (g : Int × Int × Int × Int) : Bool := okGroup g.1 g.2.1 g.2.2.1 g.2.2.2

def textG (g : Int × Int × Int × Int) : ByteArray := groupText g.1 g.2.1 g.2.2.1 g.2.2.2

def gpV (s : ByteArray) : (Int × Int × Int × Int) × Bool :=
  if 3 ≤ (splT s spB).length ∧ (splT s spB).length ≤ 4 ∧ okG (gpC (splT s spB)) = true ∧ textG (gpC (splT s spB)) = s then (gpC (splT s spB), true) else ((0, 0, 0, 0), false)

def gpR (s : ByteArray) : D := .tu [.ag [.int (gpV s).1.1, .int (gpV s).1.2.1, .int (gpV s).1.2.2.1, .int (gpV s).1.2.2.2], .bool (gpV s).2]

end Go.Proofs.Yteimddagjikcaaa
