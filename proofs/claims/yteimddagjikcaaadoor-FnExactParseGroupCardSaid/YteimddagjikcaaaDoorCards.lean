/-
  DERIVED. GIVEN WITH THE SEED: THE CARDS: each row of YteimddagjikcaaaDoorRows.lean that lists a variable, with what it lists TIED to the program's text (the seventh form; the later family's looks); each row that meets fmt, with fmt's text TOLD by the authors' own Lean function (tested against real Go, not proved from fmt's source: count such statements apart). THE CARD IS WHAT COUNTS. Prove the row's statement (the work); the ties are given (YteimddagjikcaaaDoorTie.lean); close each card by the builder's one call (the guide's Derived/Test/ToyasCard.lean, 'card_holds'). Laid BY PROGRAM, IN A SANDBOX (cutbox-door.mjs). By AI agents, Wed Nov 11 2026. No macro, syntax, notation, axiom, sorry.
-/
import Derived.Test.YteimddagjikcaaaDoorRows
import GoSem.ClaimSeven
namespace Go.Proofs.YteimddagjikcaaaDoor
namespace Rows

/-- THE TIED CARD OF 'laws.FnExactParseGroup'. -/
def fnExactParseGroupCard : Claim7 := { stood := { row := fnExactParseGroupRow, standIns := [], harness := (true, "604d252ac577ddd58fe2d06cc3ca3b309c61328289328c938017e5fddd8712d8"), looks := false }, kinds := [], alts := [], laidByText := true, laidKinds := [.data, .pinned], laidTests := true, laidLooks := .later }
def FnExactParseGroupCardSaid : Prop := Claim7.holds Tryd.pinned (.plain (OpenSpec.ofChange fnExactParseGroupSpec)) fnExactParseGroupCard

/-- THE SECOND FORM's CARD OF 'laws.FnExactParseGroup'. -/
def fnExactParseGroupUptoCard : Claim7 := { stood := { row := fnExactParseGroupUptoRow, standIns := [], harness := (true, "604d252ac577ddd58fe2d06cc3ca3b309c61328289328c938017e5fddd8712d8"), looks := false }, kinds := [], alts := [], laidByText := true, laidKinds := [.data, .pinned], laidTests := true, laidLooks := .later }
def FnExactParseGroupUptoCardSaid : Prop := Claim7.holds Tryd.pinned (.plain (OpenSpec.upto fnExactParseGroupSpec)) fnExactParseGroupUptoCard
end Rows
end Go.Proofs.YteimddagjikcaaaDoor
