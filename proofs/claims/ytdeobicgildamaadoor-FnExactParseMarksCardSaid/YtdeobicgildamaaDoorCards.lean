/-
  DERIVED. GIVEN WITH THE SEED: THE CARDS: each row of YtdeobicgildamaaDoorRows.lean that lists a variable, with what it lists TIED to the program's text (the seventh form; the later family's looks); each row that meets fmt, with fmt's text TOLD by the authors' own Lean function (tested against real Go, not proved from fmt's source: count such statements apart). THE CARD IS WHAT COUNTS. Prove the row's statement (the work); the ties are given (YtdeobicgildamaaDoorTie.lean); close each card by the builder's one call (the guide's Derived/Test/ToyasCard.lean, 'card_holds'). Laid BY PROGRAM, IN A SANDBOX (cutbox-door.mjs). By AI agents, Wed Nov 11 2026. No macro, syntax, notation, axiom, sorry.
-/
import Derived.Test.YtdeobicgildamaaDoorRows
import GoSem.ClaimSeven
namespace Go.Proofs.YtdeobicgildamaaDoor
namespace Rows

/-- THE TIED CARD OF 'laws.FnExactParseMarks'. -/
def fnExactParseMarksCard : Claim7 := { stood := { row := fnExactParseMarksRow, standIns := [], harness := (true, "1fecb5fa99b6f55cf8358eb7e53701f0784dd869bc8431cd6d6b4e8df5b8b245"), looks := false }, kinds := [], alts := [], laidByText := true, laidKinds := [.data, .pinned], laidTests := true, laidLooks := .later }
def FnExactParseMarksCardSaid : Prop := Claim7.holds Tryd.pinned (.plain (OpenSpec.ofChange fnExactParseMarksSpec)) fnExactParseMarksCard

/-- THE SECOND FORM's CARD OF 'laws.FnExactParseMarks'. -/
def fnExactParseMarksUptoCard : Claim7 := { stood := { row := fnExactParseMarksUptoRow, standIns := [], harness := (true, "1fecb5fa99b6f55cf8358eb7e53701f0784dd869bc8431cd6d6b4e8df5b8b245"), looks := false }, kinds := [], alts := [], laidByText := true, laidKinds := [.data, .pinned], laidTests := true, laidLooks := .later }
def FnExactParseMarksUptoCardSaid : Prop := Claim7.holds Tryd.pinned (.plain (OpenSpec.upto fnExactParseMarksSpec)) fnExactParseMarksUptoCard
end Rows
end Go.Proofs.YtdeobicgildamaaDoor
