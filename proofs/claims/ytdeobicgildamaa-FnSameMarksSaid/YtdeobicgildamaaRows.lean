/-
  No cell of these rows narrows 'for every input' (looked for: loops, veiled, ifaces, maps, wideKeys, modest, calm, conditions, laid).
  DERIVED. THE GIVEN ROWS OF THIS SEAT. 6 by the template 'for every input the law returns true; each argument reads behind the call as it read before'; 0 by the template 'total and deterministic' (their statements: YtdeobicgildamaaTotals.lean).
  GIVEN WITH THE SEED: the statements are not yours to turn. If you find one false, say at which input.
  Laid BY PROGRAM, IN A SANDBOX (cutbox-rows.mjs): the forced cells as the released guide's own fill.sh prints them over the translation 27accb6869867178… (all of the seat's roots in one cut). By AI agents, Wed Nov 11 2026. No macro, syntax, notation, axiom, sorry.
-/
import Derived.Test.YtdeobicgildamaaChecked
import GoSem.Claim
import GoSem.ClaimJoined
import GoSem.ClaimMapViews
import Derived.JoinedTies
import Derived.KernelRfl
namespace Go.Proofs.Ytdeobicgildamaa
/- THE CELL 'sum', in the pinned program and in every row, IS THE sha256 OF THE DUMP (.gsa) THAT YtdeobicgildamaaProg.lean LOADS. Nothing in Lean hashes anything: it is a label: what it is worth is what the hold of that sum in a sandbox is worth. -/
noncomputable def Try.pinned : Pinned := { name := "ytdeobicgildamaa", sum := "27accb6869867178c164fc4fc673d1a62f4f8948619c8faa8ddd4ee2e64cbd9c", checked := Try.checked }
namespace Rows
def none {H : Type} : Left H := { results := [], args := [] }

/-- 'laws.FnExactMarksText': WHATEVER THE INPUT: true; the input reads as it did. -/
def fnExactMarksTextSpec : ChangeSpec := { name := "fnExactMarksText", fn := fun _ => fun
  | [d] => { results := [.lit (.bool true)], args := [d] }
  | _ => none }
def fnExactMarksTextRow : OpenClaim := { program := "ytdeobicgildamaa", sum := "27accb6869867178c164fc4fc673d1a62f4f8948619c8faa8ddd4ee2e64cbd9c", func := "loop.example/g00884/laws.FnExactMarksText", spec := "fnExactMarksText", inPlace := ["internal/abi.NoEscape", "internal/bytealg.MakeNoZero"], apart := false }
def FnExactMarksTextSaid : Prop := fnExactMarksTextRow.holds Try.pinned (OpenSpec.ofChange fnExactMarksTextSpec)

/-- ITS FALSE NEIGHBOUR: 'it returns false'. Refute it at one input. -/
def fnExactMarksTextWrong : ChangeSpec := { name := "fnExactMarksText", fn := fun _ => fun
  | [d] => { results := [.lit (.bool false)], args := [d] }
  | _ => none }
def FnExactMarksTextWrongFalsely : Prop := fnExactMarksTextRow.holds Try.pinned (OpenSpec.ofChange fnExactMarksTextWrong)

/-- 'laws.FnExactSameMarks': WHATEVER THE INPUT: true; the input reads as it did. -/
def fnExactSameMarksSpec : ChangeSpec := { name := "fnExactSameMarks", fn := fun _ => fun
  | [d1, d2, d3] => { results := [.lit (.bool true)], args := [d1, d2, d3] }
  | _ => none }
def fnExactSameMarksRow : OpenClaim := { program := "ytdeobicgildamaa", sum := "27accb6869867178c164fc4fc673d1a62f4f8948619c8faa8ddd4ee2e64cbd9c", func := "loop.example/g00884/laws.FnExactSameMarks", spec := "fnExactSameMarks", unfollowed := true, recurses := true, apart := false }
def FnExactSameMarksSaid : Prop := fnExactSameMarksRow.holds Try.pinned (OpenSpec.ofChange fnExactSameMarksSpec)

/-- ITS FALSE NEIGHBOUR: 'it returns false'. Refute it at one input. -/
def fnExactSameMarksWrong : ChangeSpec := { name := "fnExactSameMarks", fn := fun _ => fun
  | [d1, d2, d3] => { results := [.lit (.bool false)], args := [d1, d2, d3] }
  | _ => none }
def FnExactSameMarksWrongFalsely : Prop := fnExactSameMarksRow.holds Try.pinned (OpenSpec.ofChange fnExactSameMarksWrong)

/-- 'laws.FnSameMarks': WHATEVER THE INPUT: true; the input reads as it did. -/
def fnSameMarksSpec : ChangeSpec := { name := "fnSameMarks", fn := fun _ => fun
  | [d] => { results := [.lit (.bool true)], args := [d] }
  | _ => none }
def fnSameMarksRow : OpenClaim := { program := "ytdeobicgildamaa", sum := "27accb6869867178c164fc4fc673d1a62f4f8948619c8faa8ddd4ee2e64cbd9c", func := "loop.example/g00884/laws.FnSameMarks", spec := "fnSameMarks", unfollowed := true, recurses := true, apart := false }
def FnSameMarksSaid : Prop := fnSameMarksRow.holds Try.pinned (OpenSpec.ofChange fnSameMarksSpec)

/-- ITS FALSE NEIGHBOUR: 'it returns false'. Refute it at one input. -/
def fnSameMarksWrong : ChangeSpec := { name := "fnSameMarks", fn := fun _ => fun
  | [d] => { results := [.lit (.bool false)], args := [d] }
  | _ => none }
def FnSameMarksWrongFalsely : Prop := fnSameMarksRow.holds Try.pinned (OpenSpec.ofChange fnSameMarksWrong)

/-- 'laws.FnExactLineTo': WHATEVER THE INPUT: true; the input reads as it did. -/
def fnExactLineToSpec : ChangeSpec := { name := "fnExactLineTo", fn := fun _ => fun
  | [d1, d2, d3] => { results := [.lit (.bool true)], args := [d1, d2, d3] }
  | _ => none }
def fnExactLineToRow : OpenClaim := { program := "ytdeobicgildamaa", sum := "27accb6869867178c164fc4fc673d1a62f4f8948619c8faa8ddd4ee2e64cbd9c", func := "loop.example/g00884/laws.FnExactLineTo", spec := "fnExactLineTo", unfollowed := true, recurses := true, apart := false }
def FnExactLineToSaid : Prop := fnExactLineToRow.holds Try.pinned (OpenSpec.ofChange fnExactLineToSpec)

/-- ITS FALSE NEIGHBOUR: 'it returns false'. Refute it at one input. -/
def fnExactLineToWrong : ChangeSpec := { name := "fnExactLineTo", fn := fun _ => fun
  | [d1, d2, d3] => { results := [.lit (.bool false)], args := [d1, d2, d3] }
  | _ => none }
def FnExactLineToWrongFalsely : Prop := fnExactLineToRow.holds Try.pinned (OpenSpec.ofChange fnExactLineToWrong)

/-- 'laws.FnExactMarksTo': WHATEVER THE INPUT: true; the input reads as it did. -/
def fnExactMarksToSpec : ChangeSpec := { name := "fnExactMarksTo", fn := fun _ => fun
  | [d1, d2, d3, d4] => { results := [.lit (.bool true)], args := [d1, d2, d3, d4] }
  | _ => none }
def fnExactMarksToRow : OpenClaim := { program := "ytdeobicgildamaa", sum := "27accb6869867178c164fc4fc673d1a62f4f8948619c8faa8ddd4ee2e64cbd9c", func := "loop.example/g00884/laws.FnExactMarksTo", spec := "fnExactMarksTo", unfollowed := true, recurses := true, apart := false }
def FnExactMarksToSaid : Prop := fnExactMarksToRow.holds Try.pinned (OpenSpec.ofChange fnExactMarksToSpec)

/-- ITS FALSE NEIGHBOUR: 'it returns false'. Refute it at one input. -/
def fnExactMarksToWrong : ChangeSpec := { name := "fnExactMarksTo", fn := fun _ => fun
  | [d1, d2, d3, d4] => { results := [.lit (.bool false)], args := [d1, d2, d3, d4] }
  | _ => none }
def FnExactMarksToWrongFalsely : Prop := fnExactMarksToRow.holds Try.pinned (OpenSpec.ofChange fnExactMarksToWrong)

/-- 'laws.FnExactUnmarked': WHATEVER THE INPUT: true; the input reads as it did. -/
def fnExactUnmarkedSpec : ChangeSpec := { name := "fnExactUnmarked", fn := fun _ => fun
  | [d1, d2, d3] => { results := [.lit (.bool true)], args := [d1, d2, d3] }
  | _ => none }
def fnExactUnmarkedRow : OpenClaim := { program := "ytdeobicgildamaa", sum := "27accb6869867178c164fc4fc673d1a62f4f8948619c8faa8ddd4ee2e64cbd9c", func := "loop.example/g00884/laws.FnExactUnmarked", spec := "fnExactUnmarked", unfollowed := true, recurses := true, apart := false }
def FnExactUnmarkedSaid : Prop := fnExactUnmarkedRow.holds Try.pinned (OpenSpec.ofChange fnExactUnmarkedSpec)

/-- ITS FALSE NEIGHBOUR: 'it returns false'. Refute it at one input. -/
def fnExactUnmarkedWrong : ChangeSpec := { name := "fnExactUnmarked", fn := fun _ => fun
  | [d1, d2, d3] => { results := [.lit (.bool false)], args := [d1, d2, d3] }
  | _ => none }
def FnExactUnmarkedWrongFalsely : Prop := fnExactUnmarkedRow.holds Try.pinned (OpenSpec.ofChange fnExactUnmarkedWrong)

/- THE SECOND FORM. 'bulk': how many values and letters a reading holds, each counted each time it is reached (what is shared counts as often as it is met; a slice's spare places count too). A statement '..UptoSaid' is the law's where the arguments, and the package variables that the reading takes, are together of bulk at most 1048576: NARROWER than '..Said'. Prove '..Said' where nothing that the law and all that it calls make is longer than what came in: it says more and counts as full. Else prove '..UptoSaid'. A law counts once. -/
mutual
def uptoBulk {H : Type} : DataW H → Nat
  | .lit (.string bytes) => bytes.length + 1
  | .lit _ => 1
  | .nil => 1
  | .ptr d => uptoBulk d + 1
  | .slice elems spare => uptoBulkAll elems + uptoBulkAll spare + 1
  | .agg parts => uptoBulkAll parts + 1
  | .iface _ d => uptoBulk d + 1
  | .map entries => uptoBulkEntries entries + 1
  | .held _ => 1
def uptoBulkAll {H : Type} : List (DataW H) → Nat
  | [] => 0
  | d :: r => uptoBulk d + uptoBulkAll r
def uptoBulkEntries {H : Type} : List (Lit × DataW H) → Nat
  | [] => 0
  | x :: r => uptoBulkEntry x + uptoBulkEntries r
def uptoBulkEntry {H : Type} : Lit × DataW H → Nat
  | (.string bytes, d) => bytes.length + uptoBulk d + 1
  | (_, d) => uptoBulk d + 1
 end
def uptoSmall : (H : Type) → List (DataW H) → Bool := fun _ ds => decide (uptoBulkAll ds ≤ 1048576)
def OpenSpec.upto (s : _root_.Go.ChangeSpec) : _root_.Go.OpenSpec := { _root_.Go.OpenSpec.ofChange s with cond := some uptoSmall }

/-- 'laws.FnExactMarksText', WHERE WHAT IT READS IS OF BULK AT MOST 1048576: true; the input reads as it did. -/
def fnExactMarksTextUptoRow : OpenClaim := { program := "ytdeobicgildamaa", sum := "27accb6869867178c164fc4fc673d1a62f4f8948619c8faa8ddd4ee2e64cbd9c", func := "loop.example/g00884/laws.FnExactMarksText", spec := "fnExactMarksText", inPlace := ["internal/abi.NoEscape", "internal/bytealg.MakeNoZero"], apart := false, narrowed := true }
def FnExactMarksTextUptoSaid : Prop := fnExactMarksTextUptoRow.holds Try.pinned (OpenSpec.upto fnExactMarksTextSpec)

/-- 'laws.FnExactSameMarks', WHERE WHAT IT READS IS OF BULK AT MOST 1048576: true; the input reads as it did. -/
def fnExactSameMarksUptoRow : OpenClaim := { program := "ytdeobicgildamaa", sum := "27accb6869867178c164fc4fc673d1a62f4f8948619c8faa8ddd4ee2e64cbd9c", func := "loop.example/g00884/laws.FnExactSameMarks", spec := "fnExactSameMarks", unfollowed := true, recurses := true, apart := false, narrowed := true }
def FnExactSameMarksUptoSaid : Prop := fnExactSameMarksUptoRow.holds Try.pinned (OpenSpec.upto fnExactSameMarksSpec)

/-- 'laws.FnSameMarks', WHERE WHAT IT READS IS OF BULK AT MOST 1048576: true; the input reads as it did. -/
def fnSameMarksUptoRow : OpenClaim := { program := "ytdeobicgildamaa", sum := "27accb6869867178c164fc4fc673d1a62f4f8948619c8faa8ddd4ee2e64cbd9c", func := "loop.example/g00884/laws.FnSameMarks", spec := "fnSameMarks", unfollowed := true, recurses := true, apart := false, narrowed := true }
def FnSameMarksUptoSaid : Prop := fnSameMarksUptoRow.holds Try.pinned (OpenSpec.upto fnSameMarksSpec)

/-- 'laws.FnExactLineTo', WHERE WHAT IT READS IS OF BULK AT MOST 1048576: true; the input reads as it did. -/
def fnExactLineToUptoRow : OpenClaim := { program := "ytdeobicgildamaa", sum := "27accb6869867178c164fc4fc673d1a62f4f8948619c8faa8ddd4ee2e64cbd9c", func := "loop.example/g00884/laws.FnExactLineTo", spec := "fnExactLineTo", unfollowed := true, recurses := true, apart := false, narrowed := true }
def FnExactLineToUptoSaid : Prop := fnExactLineToUptoRow.holds Try.pinned (OpenSpec.upto fnExactLineToSpec)

/-- 'laws.FnExactMarksTo', WHERE WHAT IT READS IS OF BULK AT MOST 1048576: true; the input reads as it did. -/
def fnExactMarksToUptoRow : OpenClaim := { program := "ytdeobicgildamaa", sum := "27accb6869867178c164fc4fc673d1a62f4f8948619c8faa8ddd4ee2e64cbd9c", func := "loop.example/g00884/laws.FnExactMarksTo", spec := "fnExactMarksTo", unfollowed := true, recurses := true, apart := false, narrowed := true }
def FnExactMarksToUptoSaid : Prop := fnExactMarksToUptoRow.holds Try.pinned (OpenSpec.upto fnExactMarksToSpec)

/-- 'laws.FnExactUnmarked', WHERE WHAT IT READS IS OF BULK AT MOST 1048576: true; the input reads as it did. -/
def fnExactUnmarkedUptoRow : OpenClaim := { program := "ytdeobicgildamaa", sum := "27accb6869867178c164fc4fc673d1a62f4f8948619c8faa8ddd4ee2e64cbd9c", func := "loop.example/g00884/laws.FnExactUnmarked", spec := "fnExactUnmarked", unfollowed := true, recurses := true, apart := false, narrowed := true }
def FnExactUnmarkedUptoSaid : Prop := fnExactUnmarkedUptoRow.holds Try.pinned (OpenSpec.upto fnExactUnmarkedSpec)

end Rows
end Go.Proofs.Ytdeobicgildamaa
