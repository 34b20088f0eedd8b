/-
  No cell of these rows narrows 'for every input' (looked for: loops, veiled, ifaces, maps, wideKeys, modest, calm, conditions, laid).
  DERIVED. THE GIVEN ROWS OF THIS SEAT. 7 by the template 'for every input the law returns true; each argument reads behind the call as it read before'; 0 by the template 'total and deterministic' (their statements: YtdinkfmkhdnbpaaTotals.lean).
  GIVEN WITH THE SEED: the statements are not yours to turn. If you find one false, say at which input.
  Laid BY PROGRAM, IN A SANDBOX (cutbox-rows.mjs): the forced cells as the released guide's own fill.sh prints them over the translation 7e971948c117355c… (all of the seat's roots in one cut). By AI agents, Wed Nov 11 2026. No macro, syntax, notation, axiom, sorry.
-/
import Derived.Test.YtdinkfmkhdnbpaaChecked
import GoSem.Claim
import GoSem.ClaimJoined
import GoSem.ClaimMapViews
import Derived.JoinedTies
import Derived.KernelRfl
namespace Go.Proofs.Ytdinkfmkhdnbpaa
/- THE CELL 'sum', in the pinned program and in every row, IS THE sha256 OF THE DUMP (.gsa) THAT YtdinkfmkhdnbpaaProg.lean LOADS. Nothing in Lean hashes anything: it is a label: what it is worth is what the hold of that sum in a sandbox is worth. -/
noncomputable def Try.pinned : Pinned := { name := "ytdinkfmkhdnbpaa", sum := "7e971948c117355c4ac4caf7e4d4b3bbdc3860d5ef9c12edf2c16a4c5d177d3f", checked := Try.checked }
namespace Rows
def none {H : Type} : Left H := { results := [], args := [] }

/-- 'laws.FnExactSwapTinctures': WHATEVER THE INPUT: true; the input reads as it did. -/
def fnExactSwapTincturesSpec : ChangeSpec := { name := "fnExactSwapTinctures", fn := fun _ => fun
  | [d1, d2, d3] => { results := [.lit (.bool true)], args := [d1, d2, d3] }
  | _ => none }
def fnExactSwapTincturesRow : OpenClaim := { program := "ytdinkfmkhdnbpaa", sum := "7e971948c117355c4ac4caf7e4d4b3bbdc3860d5ef9c12edf2c16a4c5d177d3f", func := "loop.example/g00884/laws.FnExactSwapTinctures", spec := "fnExactSwapTinctures", unfollowed := true, recurses := true, apart := false }
def FnExactSwapTincturesSaid : Prop := fnExactSwapTincturesRow.holds Try.pinned (OpenSpec.ofChange fnExactSwapTincturesSpec)

/-- ITS FALSE NEIGHBOUR: 'it returns false'. Refute it at one input. -/
def fnExactSwapTincturesWrong : ChangeSpec := { name := "fnExactSwapTinctures", fn := fun _ => fun
  | [d1, d2, d3] => { results := [.lit (.bool false)], args := [d1, d2, d3] }
  | _ => none }
def FnExactSwapTincturesWrongFalsely : Prop := fnExactSwapTincturesRow.holds Try.pinned (OpenSpec.ofChange fnExactSwapTincturesWrong)

/-- 'laws.FnExactIsValidShield': WHATEVER THE INPUT: true; the input reads as it did. -/
def fnExactIsValidShieldSpec : ChangeSpec := { name := "fnExactIsValidShield", fn := fun _ => fun
  | [d] => { results := [.lit (.bool true)], args := [d] }
  | _ => none }
def fnExactIsValidShieldRow : OpenClaim := { program := "ytdinkfmkhdnbpaa", sum := "7e971948c117355c4ac4caf7e4d4b3bbdc3860d5ef9c12edf2c16a4c5d177d3f", func := "loop.example/g00884/laws.FnExactIsValidShield", spec := "fnExactIsValidShield", unfollowed := true, recurses := true, apart := false }
def FnExactIsValidShieldSaid : Prop := fnExactIsValidShieldRow.holds Try.pinned (OpenSpec.ofChange fnExactIsValidShieldSpec)

/-- ITS FALSE NEIGHBOUR: 'it returns false'. Refute it at one input. -/
def fnExactIsValidShieldWrong : ChangeSpec := { name := "fnExactIsValidShield", fn := fun _ => fun
  | [d] => { results := [.lit (.bool false)], args := [d] }
  | _ => none }
def FnExactIsValidShieldWrongFalsely : Prop := fnExactIsValidShieldRow.holds Try.pinned (OpenSpec.ofChange fnExactIsValidShieldWrong)

/-- 'laws.FnExactImpale': WHATEVER THE INPUT: true; the input reads as it did. -/
def fnExactImpaleSpec : ChangeSpec := { name := "fnExactImpale", fn := fun _ => fun
  | [d1, d2] => { results := [.lit (.bool true)], args := [d1, d2] }
  | _ => none }
def fnExactImpaleRow : OpenClaim := { program := "ytdinkfmkhdnbpaa", sum := "7e971948c117355c4ac4caf7e4d4b3bbdc3860d5ef9c12edf2c16a4c5d177d3f", func := "loop.example/g00884/laws.FnExactImpale", spec := "fnExactImpale", apart := false }
def FnExactImpaleSaid : Prop := fnExactImpaleRow.holds Try.pinned (OpenSpec.ofChange fnExactImpaleSpec)

/-- ITS FALSE NEIGHBOUR: 'it returns false'. Refute it at one input. -/
def fnExactImpaleWrong : ChangeSpec := { name := "fnExactImpale", fn := fun _ => fun
  | [d1, d2] => { results := [.lit (.bool false)], args := [d1, d2] }
  | _ => none }
def FnExactImpaleWrongFalsely : Prop := fnExactImpaleRow.holds Try.pinned (OpenSpec.ofChange fnExactImpaleWrong)

/-- 'laws.FnExactQuarter': WHATEVER THE INPUT: true; the input reads as it did. -/
def fnExactQuarterSpec : ChangeSpec := { name := "fnExactQuarter", fn := fun _ => fun
  | [d1, d2] => { results := [.lit (.bool true)], args := [d1, d2] }
  | _ => none }
def fnExactQuarterRow : OpenClaim := { program := "ytdinkfmkhdnbpaa", sum := "7e971948c117355c4ac4caf7e4d4b3bbdc3860d5ef9c12edf2c16a4c5d177d3f", func := "loop.example/g00884/laws.FnExactQuarter", spec := "fnExactQuarter", apart := false }
def FnExactQuarterSaid : Prop := fnExactQuarterRow.holds Try.pinned (OpenSpec.ofChange fnExactQuarterSpec)

/-- ITS FALSE NEIGHBOUR: 'it returns false'. Refute it at one input. -/
def fnExactQuarterWrong : ChangeSpec := { name := "fnExactQuarter", fn := fun _ => fun
  | [d1, d2] => { results := [.lit (.bool false)], args := [d1, d2] }
  | _ => none }
def FnExactQuarterWrongFalsely : Prop := fnExactQuarterRow.holds Try.pinned (OpenSpec.ofChange fnExactQuarterWrong)

/-- 'laws.FnExactDifferentParts': WHATEVER THE INPUT: true; the input reads as it did. -/
def fnExactDifferentPartsSpec : ChangeSpec := { name := "fnExactDifferentParts", fn := fun _ => fun
  | [d] => { results := [.lit (.bool true)], args := [d] }
  | _ => none }
def fnExactDifferentPartsRow : OpenClaim := { program := "ytdinkfmkhdnbpaa", sum := "7e971948c117355c4ac4caf7e4d4b3bbdc3860d5ef9c12edf2c16a4c5d177d3f", func := "loop.example/g00884/laws.FnExactDifferentParts", spec := "fnExactDifferentParts", unfollowed := true, recurses := true, apart := false }
def FnExactDifferentPartsSaid : Prop := fnExactDifferentPartsRow.holds Try.pinned (OpenSpec.ofChange fnExactDifferentPartsSpec)

/-- ITS FALSE NEIGHBOUR: 'it returns false'. Refute it at one input. -/
def fnExactDifferentPartsWrong : ChangeSpec := { name := "fnExactDifferentParts", fn := fun _ => fun
  | [d] => { results := [.lit (.bool false)], args := [d] }
  | _ => none }
def FnExactDifferentPartsWrongFalsely : Prop := fnExactDifferentPartsRow.holds Try.pinned (OpenSpec.ofChange fnExactDifferentPartsWrong)

/-- 'laws.FnExactReplacePart': WHATEVER THE INPUT: true; the input reads as it did. -/
def fnExactReplacePartSpec : ChangeSpec := { name := "fnExactReplacePart", fn := fun _ => fun
  | [d1, d2, d3] => { results := [.lit (.bool true)], args := [d1, d2, d3] }
  | _ => none }
def fnExactReplacePartRow : OpenClaim := { program := "ytdinkfmkhdnbpaa", sum := "7e971948c117355c4ac4caf7e4d4b3bbdc3860d5ef9c12edf2c16a4c5d177d3f", func := "loop.example/g00884/laws.FnExactReplacePart", spec := "fnExactReplacePart", unfollowed := true, recurses := true, apart := false }
def FnExactReplacePartSaid : Prop := fnExactReplacePartRow.holds Try.pinned (OpenSpec.ofChange fnExactReplacePartSpec)

/-- ITS FALSE NEIGHBOUR: 'it returns false'. Refute it at one input. -/
def fnExactReplacePartWrong : ChangeSpec := { name := "fnExactReplacePart", fn := fun _ => fun
  | [d1, d2, d3] => { results := [.lit (.bool false)], args := [d1, d2, d3] }
  | _ => none }
def FnExactReplacePartWrongFalsely : Prop := fnExactReplacePartRow.holds Try.pinned (OpenSpec.ofChange fnExactReplacePartWrong)

/-- 'laws.FnExactSimplerShield': WHATEVER THE INPUT: true; the input reads as it did. -/
def fnExactSimplerShieldSpec : ChangeSpec := { name := "fnExactSimplerShield", fn := fun _ => fun
  | [d] => { results := [.lit (.bool true)], args := [d] }
  | _ => none }
def fnExactSimplerShieldRow : OpenClaim := { program := "ytdinkfmkhdnbpaa", sum := "7e971948c117355c4ac4caf7e4d4b3bbdc3860d5ef9c12edf2c16a4c5d177d3f", func := "loop.example/g00884/laws.FnExactSimplerShield", spec := "fnExactSimplerShield", unfollowed := true, recurses := true, apart := false }
def FnExactSimplerShieldSaid : Prop := fnExactSimplerShieldRow.holds Try.pinned (OpenSpec.ofChange fnExactSimplerShieldSpec)

/-- ITS FALSE NEIGHBOUR: 'it returns false'. Refute it at one input. -/
def fnExactSimplerShieldWrong : ChangeSpec := { name := "fnExactSimplerShield", fn := fun _ => fun
  | [d] => { results := [.lit (.bool false)], args := [d] }
  | _ => none }
def FnExactSimplerShieldWrongFalsely : Prop := fnExactSimplerShieldRow.holds Try.pinned (OpenSpec.ofChange fnExactSimplerShieldWrong)

/- THE SECOND FORM. 'bulk': how many values and letters a reading holds, each counted each time it is reached (what is shared counts as often as it is met; a slice's spare places count too). A statement '..UptoSaid' is the law's where the arguments, and the package variables that the reading takes, are together of bulk at most 1048576: NARROWER than '..Said'. Prove '..Said' where nothing that the law and all that it calls make is longer than what came in: it says more and counts as full. Else prove '..UptoSaid'. A law counts once. -/
mutual
def uptoBulk {H : Type} : DataW H → Nat
  | .lit (.string bytes) => bytes.length + 1
  | .lit _ => 1
  | .nil => 1
  | .ptr d => uptoBulk d + 1
  | .slice elems spare => uptoBulkAll elems + uptoBulkAll spare + 1
  | .agg parts => uptoBulkAll parts + 1
  | .iface _ d => uptoBulk d + 1
  | .map entries => uptoBulkEntries entries + 1
  | .held _ => 1
def uptoBulkAll {H : Type} : List (DataW H) → Nat
  | [] => 0
  | d :: r => uptoBulk d + uptoBulkAll r
def uptoBulkEntries {H : Type} : List (Lit × DataW H) → Nat
  | [] => 0
  | x :: r => uptoBulkEntry x + uptoBulkEntries r
def uptoBulkEntry {H : Type} : Lit × DataW H → Nat
  | (.string bytes, d) => bytes.length + uptoBulk d + 1
  | (_, d) => uptoBulk d + 1
 end
def uptoSmall : (H : Type) → List (DataW H) → Bool := fun _ ds => decide (uptoBulkAll ds ≤ 1048576)
def OpenSpec.upto (s : _root_.Go.ChangeSpec) : _root_.Go.OpenSpec := { _root_.Go.OpenSpec.ofChange s with cond := some uptoSmall }

/-- 'laws.FnExactSwapTinctures', WHERE WHAT IT READS IS OF BULK AT MOST 1048576: true; the input reads as it did. -/
def fnExactSwapTincturesUptoRow : OpenClaim := { program := "ytdinkfmkhdnbpaa", sum := "7e971948c117355c4ac4caf7e4d4b3bbdc3860d5ef9c12edf2c16a4c5d177d3f", func := "loop.example/g00884/laws.FnExactSwapTinctures", spec := "fnExactSwapTinctures", unfollowed := true, recurses := true, apart := false, narrowed := true }
def FnExactSwapTincturesUptoSaid : Prop := fnExactSwapTincturesUptoRow.holds Try.pinned (OpenSpec.upto fnExactSwapTincturesSpec)

/-- 'laws.FnExactIsValidShield', WHERE WHAT IT READS IS OF BULK AT MOST 1048576: true; the input reads as it did. -/
def fnExactIsValidShieldUptoRow : OpenClaim := { program := "ytdinkfmkhdnbpaa", sum := "7e971948c117355c4ac4caf7e4d4b3bbdc3860d5ef9c12edf2c16a4c5d177d3f", func := "loop.example/g00884/laws.FnExactIsValidShield", spec := "fnExactIsValidShield", unfollowed := true, recurses := true, apart := false, narrowed := true }
def FnExactIsValidShieldUptoSaid : Prop := fnExactIsValidShieldUptoRow.holds Try.pinned (OpenSpec.upto fnExactIsValidShieldSpec)

/-- 'laws.FnExactImpale', WHERE WHAT IT READS IS OF BULK AT MOST 1048576: true; the input reads as it did. -/
def fnExactImpaleUptoRow : OpenClaim := { program := "ytdinkfmkhdnbpaa", sum := "7e971948c117355c4ac4caf7e4d4b3bbdc3860d5ef9c12edf2c16a4c5d177d3f", func := "loop.example/g00884/laws.FnExactImpale", spec := "fnExactImpale", apart := false, narrowed := true }
def FnExactImpaleUptoSaid : Prop := fnExactImpaleUptoRow.holds Try.pinned (OpenSpec.upto fnExactImpaleSpec)

/-- 'laws.FnExactQuarter', WHERE WHAT IT READS IS OF BULK AT MOST 1048576: true; the input reads as it did. -/
def fnExactQuarterUptoRow : OpenClaim := { program := "ytdinkfmkhdnbpaa", sum := "7e971948c117355c4ac4caf7e4d4b3bbdc3860d5ef9c12edf2c16a4c5d177d3f", func := "loop.example/g00884/laws.FnExactQuarter", spec := "fnExactQuarter", apart := false, narrowed := true }
def FnExactQuarterUptoSaid : Prop := fnExactQuarterUptoRow.holds Try.pinned (OpenSpec.upto fnExactQuarterSpec)

/-- 'laws.FnExactDifferentParts', WHERE WHAT IT READS IS OF BULK AT MOST 1048576: true; the input reads as it did. -/
def fnExactDifferentPartsUptoRow : OpenClaim := { program := "ytdinkfmkhdnbpaa", sum := "7e971948c117355c4ac4caf7e4d4b3bbdc3860d5ef9c12edf2c16a4c5d177d3f", func := "loop.example/g00884/laws.FnExactDifferentParts", spec := "fnExactDifferentParts", unfollowed := true, recurses := true, apart := false, narrowed := true }
def FnExactDifferentPartsUptoSaid : Prop := fnExactDifferentPartsUptoRow.holds Try.pinned (OpenSpec.upto fnExactDifferentPartsSpec)

/-- 'laws.FnExactReplacePart', WHERE WHAT IT READS IS OF BULK AT MOST 1048576: true; the input reads as it did. -/
def fnExactReplacePartUptoRow : OpenClaim := { program := "ytdinkfmkhdnbpaa", sum := "7e971948c117355c4ac4caf7e4d4b3bbdc3860d5ef9c12edf2c16a4c5d177d3f", func := "loop.example/g00884/laws.FnExactReplacePart", spec := "fnExactReplacePart", unfollowed := true, recurses := true, apart := false, narrowed := true }
def FnExactReplacePartUptoSaid : Prop := fnExactReplacePartUptoRow.holds Try.pinned (OpenSpec.upto fnExactReplacePartSpec)

/-- 'laws.FnExactSimplerShield', WHERE WHAT IT READS IS OF BULK AT MOST 1048576: true; the input reads as it did. -/
def fnExactSimplerShieldUptoRow : OpenClaim := { program := "ytdinkfmkhdnbpaa", sum := "7e971948c117355c4ac4caf7e4d4b3bbdc3860d5ef9c12edf2c16a4c5d177d3f", func := "loop.example/g00884/laws.FnExactSimplerShield", spec := "fnExactSimplerShield", unfollowed := true, recurses := true, apart := false, narrowed := true }
def FnExactSimplerShieldUptoSaid : Prop := fnExactSimplerShieldUptoRow.holds Try.pinned (OpenSpec.upto fnExactSimplerShieldSpec)

end Rows
end Go.Proofs.Ytdinkfmkhdnbpaa
