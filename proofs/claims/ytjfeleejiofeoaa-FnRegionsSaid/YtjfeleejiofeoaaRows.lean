/-
  No cell of these rows narrows 'for every input' (looked for: loops, veiled, ifaces, maps, wideKeys, modest, calm, conditions, laid).
  DERIVED. THE GIVEN ROWS OF THIS SEAT. 9 by the template 'for every input the law returns true; each argument reads behind the call as it read before'; 0 by the template 'total and deterministic' (their statements: YtjfeleejiofeoaaTotals.lean).
  GIVEN WITH THE SEED: the statements are not yours to turn. If you find one false, say at which input.
  Laid BY PROGRAM, IN A SANDBOX (cutbox-rows.mjs): the forced cells as the released guide's own fill.sh prints them over the translation 15111112b39febe3… (all of the seat's roots in one cut). By AI agents, Wed Nov 11 2026. No macro, syntax, notation, axiom, sorry.
-/
import Derived.Test.YtjfeleejiofeoaaChecked
import GoSem.Claim
import GoSem.ClaimJoined
import GoSem.ClaimMapViews
import Derived.JoinedTies
import Derived.KernelRfl
namespace Go.Proofs.Ytjfeleejiofeoaa
/- THE CELL 'sum', in the pinned program and in every row, IS THE sha256 OF THE DUMP (.gsa) THAT YtjfeleejiofeoaaProg.lean LOADS. Nothing in Lean hashes anything: it is a label: what it is worth is what the hold of that sum in a sandbox is worth. -/
noncomputable def Try.pinned : Pinned := { name := "ytjfeleejiofeoaa", sum := "15111112b39febe3ae58fa11c2c8331d35028c6e85d302d5946447b5fb2792b3", checked := Try.checked }
namespace Rows
def none {H : Type} : Left H := { results := [], args := [] }

/-- 'laws.FnExactBoxesOverlap': WHATEVER THE INPUT: true; the input reads as it did. -/
def fnExactBoxesOverlapSpec : ChangeSpec := { name := "fnExactBoxesOverlap", fn := fun _ => fun
  | [d] => { results := [.lit (.bool true)], args := [d] }
  | _ => none }
def fnExactBoxesOverlapRow : OpenClaim := { program := "ytjfeleejiofeoaa", sum := "15111112b39febe3ae58fa11c2c8331d35028c6e85d302d5946447b5fb2792b3", func := "loop.example/g00884/laws.FnExactBoxesOverlap", spec := "fnExactBoxesOverlap", unfollowed := true, recurses := true, plainKeys := false, apart := false }
def FnExactBoxesOverlapSaid : Prop := fnExactBoxesOverlapRow.holds Try.pinned (OpenSpec.ofChange fnExactBoxesOverlapSpec)

/-- ITS FALSE NEIGHBOUR: 'it returns false'. Refute it at one input. -/
def fnExactBoxesOverlapWrong : ChangeSpec := { name := "fnExactBoxesOverlap", fn := fun _ => fun
  | [d] => { results := [.lit (.bool false)], args := [d] }
  | _ => none }
def FnExactBoxesOverlapWrongFalsely : Prop := fnExactBoxesOverlapRow.holds Try.pinned (OpenSpec.ofChange fnExactBoxesOverlapWrong)

/-- 'laws.FnExactBoxFits': WHATEVER THE INPUT: true; the input reads as it did. -/
def fnExactBoxFitsSpec : ChangeSpec := { name := "fnExactBoxFits", fn := fun _ => fun
  | [d1, d2] => { results := [.lit (.bool true)], args := [d1, d2] }
  | _ => none }
def fnExactBoxFitsRow : OpenClaim := { program := "ytjfeleejiofeoaa", sum := "15111112b39febe3ae58fa11c2c8331d35028c6e85d302d5946447b5fb2792b3", func := "loop.example/g00884/laws.FnExactBoxFits", spec := "fnExactBoxFits", unfollowed := true, recurses := true, plainKeys := false, apart := false }
def FnExactBoxFitsSaid : Prop := fnExactBoxFitsRow.holds Try.pinned (OpenSpec.ofChange fnExactBoxFitsSpec)

/-- ITS FALSE NEIGHBOUR: 'it returns false'. Refute it at one input. -/
def fnExactBoxFitsWrong : ChangeSpec := { name := "fnExactBoxFits", fn := fun _ => fun
  | [d1, d2] => { results := [.lit (.bool false)], args := [d1, d2] }
  | _ => none }
def FnExactBoxFitsWrongFalsely : Prop := fnExactBoxFitsRow.holds Try.pinned (OpenSpec.ofChange fnExactBoxFitsWrong)

/-- 'laws.FnExactEdgeLength': WHATEVER THE INPUT: true; the input reads as it did. -/
def fnExactEdgeLengthSpec : ChangeSpec := { name := "fnExactEdgeLength", fn := fun _ => fun
  | [d] => { results := [.lit (.bool true)], args := [d] }
  | _ => none }
def fnExactEdgeLengthRow : OpenClaim := { program := "ytjfeleejiofeoaa", sum := "15111112b39febe3ae58fa11c2c8331d35028c6e85d302d5946447b5fb2792b3", func := "loop.example/g00884/laws.FnExactEdgeLength", spec := "fnExactEdgeLength", unfollowed := true, recurses := true, plainKeys := false, apart := false }
def FnExactEdgeLengthSaid : Prop := fnExactEdgeLengthRow.holds Try.pinned (OpenSpec.ofChange fnExactEdgeLengthSpec)

/-- ITS FALSE NEIGHBOUR: 'it returns false'. Refute it at one input. -/
def fnExactEdgeLengthWrong : ChangeSpec := { name := "fnExactEdgeLength", fn := fun _ => fun
  | [d] => { results := [.lit (.bool false)], args := [d] }
  | _ => none }
def FnExactEdgeLengthWrongFalsely : Prop := fnExactEdgeLengthRow.holds Try.pinned (OpenSpec.ofChange fnExactEdgeLengthWrong)

/-- 'laws.FnExactPiecesOf': WHATEVER THE INPUT: true; the input reads as it did. -/
def fnExactPiecesOfSpec : ChangeSpec := { name := "fnExactPiecesOf", fn := fun _ => fun
  | [d] => { results := [.lit (.bool true)], args := [d] }
  | _ => none }
def fnExactPiecesOfRow : OpenClaim := { program := "ytjfeleejiofeoaa", sum := "15111112b39febe3ae58fa11c2c8331d35028c6e85d302d5946447b5fb2792b3", func := "loop.example/g00884/laws.FnExactPiecesOf", spec := "fnExactPiecesOf", unfollowed := true, recurses := true, plainKeys := false, apart := false }
def FnExactPiecesOfSaid : Prop := fnExactPiecesOfRow.holds Try.pinned (OpenSpec.ofChange fnExactPiecesOfSpec)

/-- ITS FALSE NEIGHBOUR: 'it returns false'. Refute it at one input. -/
def fnExactPiecesOfWrong : ChangeSpec := { name := "fnExactPiecesOf", fn := fun _ => fun
  | [d] => { results := [.lit (.bool false)], args := [d] }
  | _ => none }
def FnExactPiecesOfWrongFalsely : Prop := fnExactPiecesOfRow.holds Try.pinned (OpenSpec.ofChange fnExactPiecesOfWrong)

/-- 'laws.FnExactBoundsOf': WHATEVER THE INPUT: true; the input reads as it did. -/
def fnExactBoundsOfSpec : ChangeSpec := { name := "fnExactBoundsOf", fn := fun _ => fun
  | [d] => { results := [.lit (.bool true)], args := [d] }
  | _ => none }
def fnExactBoundsOfRow : OpenClaim := { program := "ytjfeleejiofeoaa", sum := "15111112b39febe3ae58fa11c2c8331d35028c6e85d302d5946447b5fb2792b3", func := "loop.example/g00884/laws.FnExactBoundsOf", spec := "fnExactBoundsOf", unfollowed := true, recurses := true, plainKeys := false, apart := false }
def FnExactBoundsOfSaid : Prop := fnExactBoundsOfRow.holds Try.pinned (OpenSpec.ofChange fnExactBoundsOfSpec)

/-- ITS FALSE NEIGHBOUR: 'it returns false'. Refute it at one input. -/
def fnExactBoundsOfWrong : ChangeSpec := { name := "fnExactBoundsOf", fn := fun _ => fun
  | [d] => { results := [.lit (.bool false)], args := [d] }
  | _ => none }
def FnExactBoundsOfWrongFalsely : Prop := fnExactBoundsOfRow.holds Try.pinned (OpenSpec.ofChange fnExactBoundsOfWrong)

/-- 'laws.FnExactFillRegion': WHATEVER THE INPUT: true; the input reads as it did. -/
def fnExactFillRegionSpec : ChangeSpec := { name := "fnExactFillRegion", fn := fun _ => fun
  | [d1, d2, d3] => { results := [.lit (.bool true)], args := [d1, d2, d3] }
  | _ => none }
def fnExactFillRegionRow : OpenClaim := { program := "ytjfeleejiofeoaa", sum := "15111112b39febe3ae58fa11c2c8331d35028c6e85d302d5946447b5fb2792b3", func := "loop.example/g00884/laws.FnExactFillRegion", spec := "fnExactFillRegion", unfollowed := true, recurses := true, plainKeys := false, apart := false }
def FnExactFillRegionSaid : Prop := fnExactFillRegionRow.holds Try.pinned (OpenSpec.ofChange fnExactFillRegionSpec)

/-- ITS FALSE NEIGHBOUR: 'it returns false'. Refute it at one input. -/
def fnExactFillRegionWrong : ChangeSpec := { name := "fnExactFillRegion", fn := fun _ => fun
  | [d1, d2, d3] => { results := [.lit (.bool false)], args := [d1, d2, d3] }
  | _ => none }
def FnExactFillRegionWrongFalsely : Prop := fnExactFillRegionRow.holds Try.pinned (OpenSpec.ofChange fnExactFillRegionWrong)

/-- 'laws.FnExactLargestBoxes': WHATEVER THE INPUT: true; the input reads as it did. -/
def fnExactLargestBoxesSpec : ChangeSpec := { name := "fnExactLargestBoxes", fn := fun _ => fun
  | [d1, d2] => { results := [.lit (.bool true)], args := [d1, d2] }
  | _ => none }
def fnExactLargestBoxesRow : OpenClaim := { program := "ytjfeleejiofeoaa", sum := "15111112b39febe3ae58fa11c2c8331d35028c6e85d302d5946447b5fb2792b3", func := "loop.example/g00884/laws.FnExactLargestBoxes", spec := "fnExactLargestBoxes", unfollowed := true, recurses := true, plainKeys := false, apart := false }
def FnExactLargestBoxesSaid : Prop := fnExactLargestBoxesRow.holds Try.pinned (OpenSpec.ofChange fnExactLargestBoxesSpec)

/-- ITS FALSE NEIGHBOUR: 'it returns false'. Refute it at one input. -/
def fnExactLargestBoxesWrong : ChangeSpec := { name := "fnExactLargestBoxes", fn := fun _ => fun
  | [d1, d2] => { results := [.lit (.bool false)], args := [d1, d2] }
  | _ => none }
def FnExactLargestBoxesWrongFalsely : Prop := fnExactLargestBoxesRow.holds Try.pinned (OpenSpec.ofChange fnExactLargestBoxesWrong)

/-- 'laws.FnRegions': WHATEVER THE INPUT: true; the input reads as it did. -/
def fnRegionsSpec : ChangeSpec := { name := "fnRegions", fn := fun _ => fun
  | [d] => { results := [.lit (.bool true)], args := [d] }
  | _ => none }
def fnRegionsRow : OpenClaim := { program := "ytjfeleejiofeoaa", sum := "15111112b39febe3ae58fa11c2c8331d35028c6e85d302d5946447b5fb2792b3", func := "loop.example/g00884/laws.FnRegions", spec := "fnRegions", unfollowed := true, recurses := true, plainKeys := false, apart := false }
def FnRegionsSaid : Prop := fnRegionsRow.holds Try.pinned (OpenSpec.ofChange fnRegionsSpec)

/-- ITS FALSE NEIGHBOUR: 'it returns false'. Refute it at one input. -/
def fnRegionsWrong : ChangeSpec := { name := "fnRegions", fn := fun _ => fun
  | [d] => { results := [.lit (.bool false)], args := [d] }
  | _ => none }
def FnRegionsWrongFalsely : Prop := fnRegionsRow.holds Try.pinned (OpenSpec.ofChange fnRegionsWrong)

/-- 'laws.FnExactPartAt': WHATEVER THE INPUT: true; the input reads as it did. -/
def fnExactPartAtSpec : ChangeSpec := { name := "fnExactPartAt", fn := fun _ => fun
  | [d1, d2, d3] => { results := [.lit (.bool true)], args := [d1, d2, d3] }
  | _ => none }
def fnExactPartAtRow : OpenClaim := { program := "ytjfeleejiofeoaa", sum := "15111112b39febe3ae58fa11c2c8331d35028c6e85d302d5946447b5fb2792b3", func := "loop.example/g00884/laws.FnExactPartAt", spec := "fnExactPartAt", unfollowed := true, recurses := true, plainKeys := false, apart := false }
def FnExactPartAtSaid : Prop := fnExactPartAtRow.holds Try.pinned (OpenSpec.ofChange fnExactPartAtSpec)

/-- ITS FALSE NEIGHBOUR: 'it returns false'. Refute it at one input. -/
def fnExactPartAtWrong : ChangeSpec := { name := "fnExactPartAt", fn := fun _ => fun
  | [d1, d2, d3] => { results := [.lit (.bool false)], args := [d1, d2, d3] }
  | _ => none }
def FnExactPartAtWrongFalsely : Prop := fnExactPartAtRow.holds Try.pinned (OpenSpec.ofChange fnExactPartAtWrong)

/- THE SECOND FORM. 'bulk': how many values and letters a reading holds, each counted each time it is reached (what is shared counts as often as it is met; a slice's spare places count too). A statement '..UptoSaid' is the law's where the arguments, and the package variables that the reading takes, are together of bulk at most 1048576: NARROWER than '..Said'. Prove '..Said' where nothing that the law and all that it calls make is longer than what came in: it says more and counts as full. Else prove '..UptoSaid'. A law counts once. -/
mutual
def uptoBulk {H : Type} : DataW H → Nat
  | .lit (.string bytes) => bytes.length + 1
  | .lit _ => 1
  | .nil => 1
  | .ptr d => uptoBulk d + 1
  | .slice elems spare => uptoBulkAll elems + uptoBulkAll spare + 1
  | .agg parts => uptoBulkAll parts + 1
  | .iface _ d => uptoBulk d + 1
  | .map entries => uptoBulkEntries entries + 1
  | .held _ => 1
def uptoBulkAll {H : Type} : List (DataW H) → Nat
  | [] => 0
  | d :: r => uptoBulk d + uptoBulkAll r
def uptoBulkEntries {H : Type} : List (Lit × DataW H) → Nat
  | [] => 0
  | x :: r => uptoBulkEntry x + uptoBulkEntries r
def uptoBulkEntry {H : Type} : Lit × DataW H → Nat
  | (.string bytes, d) => bytes.length + uptoBulk d + 1
  | (_, d) => uptoBulk d + 1
 end
def uptoSmall : (H : Type) → List (DataW H) → Bool := fun _ ds => decide (uptoBulkAll ds ≤ 1048576)
def OpenSpec.upto (s : _root_.Go.ChangeSpec) : _root_.Go.OpenSpec := { _root_.Go.OpenSpec.ofChange s with cond := some uptoSmall }

/-- 'laws.FnExactBoxesOverlap', WHERE WHAT IT READS IS OF BULK AT MOST 1048576: true; the input reads as it did. -/
def fnExactBoxesOverlapUptoRow : OpenClaim := { program := "ytjfeleejiofeoaa", sum := "15111112b39febe3ae58fa11c2c8331d35028c6e85d302d5946447b5fb2792b3", func := "loop.example/g00884/laws.FnExactBoxesOverlap", spec := "fnExactBoxesOverlap", unfollowed := true, recurses := true, plainKeys := false, apart := false, narrowed := true }
def FnExactBoxesOverlapUptoSaid : Prop := fnExactBoxesOverlapUptoRow.holds Try.pinned (OpenSpec.upto fnExactBoxesOverlapSpec)

/-- 'laws.FnExactBoxFits', WHERE WHAT IT READS IS OF BULK AT MOST 1048576: true; the input reads as it did. -/
def fnExactBoxFitsUptoRow : OpenClaim := { program := "ytjfeleejiofeoaa", sum := "15111112b39febe3ae58fa11c2c8331d35028c6e85d302d5946447b5fb2792b3", func := "loop.example/g00884/laws.FnExactBoxFits", spec := "fnExactBoxFits", unfollowed := true, recurses := true, plainKeys := false, apart := false, narrowed := true }
def FnExactBoxFitsUptoSaid : Prop := fnExactBoxFitsUptoRow.holds Try.pinned (OpenSpec.upto fnExactBoxFitsSpec)

/-- 'laws.FnExactEdgeLength', WHERE WHAT IT READS IS OF BULK AT MOST 1048576: true; the input reads as it did. -/
def fnExactEdgeLengthUptoRow : OpenClaim := { program := "ytjfeleejiofeoaa", sum := "15111112b39febe3ae58fa11c2c8331d35028c6e85d302d5946447b5fb2792b3", func := "loop.example/g00884/laws.FnExactEdgeLength", spec := "fnExactEdgeLength", unfollowed := true, recurses := true, plainKeys := false, apart := false, narrowed := true }
def FnExactEdgeLengthUptoSaid : Prop := fnExactEdgeLengthUptoRow.holds Try.pinned (OpenSpec.upto fnExactEdgeLengthSpec)

/-- 'laws.FnExactPiecesOf', WHERE WHAT IT READS IS OF BULK AT MOST 1048576: true; the input reads as it did. -/
def fnExactPiecesOfUptoRow : OpenClaim := { program := "ytjfeleejiofeoaa", sum := "15111112b39febe3ae58fa11c2c8331d35028c6e85d302d5946447b5fb2792b3", func := "loop.example/g00884/laws.FnExactPiecesOf", spec := "fnExactPiecesOf", unfollowed := true, recurses := true, plainKeys := false, apart := false, narrowed := true }
def FnExactPiecesOfUptoSaid : Prop := fnExactPiecesOfUptoRow.holds Try.pinned (OpenSpec.upto fnExactPiecesOfSpec)

/-- 'laws.FnExactBoundsOf', WHERE WHAT IT READS IS OF BULK AT MOST 1048576: true; the input reads as it did. -/
def fnExactBoundsOfUptoRow : OpenClaim := { program := "ytjfeleejiofeoaa", sum := "15111112b39febe3ae58fa11c2c8331d35028c6e85d302d5946447b5fb2792b3", func := "loop.example/g00884/laws.FnExactBoundsOf", spec := "fnExactBoundsOf", unfollowed := true, recurses := true, plainKeys := false, apart := false, narrowed := true }
def FnExactBoundsOfUptoSaid : Prop := fnExactBoundsOfUptoRow.holds Try.pinned (OpenSpec.upto fnExactBoundsOfSpec)

/-- 'laws.FnExactFillRegion', WHERE WHAT IT READS IS OF BULK AT MOST 1048576: true; the input reads as it did. -/
def fnExactFillRegionUptoRow : OpenClaim := { program := "ytjfeleejiofeoaa", sum := "15111112b39febe3ae58fa11c2c8331d35028c6e85d302d5946447b5fb2792b3", func := "loop.example/g00884/laws.FnExactFillRegion", spec := "fnExactFillRegion", unfollowed := true, recurses := true, plainKeys := false, apart := false, narrowed := true }
def FnExactFillRegionUptoSaid : Prop := fnExactFillRegionUptoRow.holds Try.pinned (OpenSpec.upto fnExactFillRegionSpec)

/-- 'laws.FnExactLargestBoxes', WHERE WHAT IT READS IS OF BULK AT MOST 1048576: true; the input reads as it did. -/
def fnExactLargestBoxesUptoRow : OpenClaim := { program := "ytjfeleejiofeoaa", sum := "15111112b39febe3ae58fa11c2c8331d35028c6e85d302d5946447b5fb2792b3", func := "loop.example/g00884/laws.FnExactLargestBoxes", spec := "fnExactLargestBoxes", unfollowed := true, recurses := true, plainKeys := false, apart := false, narrowed := true }
def FnExactLargestBoxesUptoSaid : Prop := fnExactLargestBoxesUptoRow.holds Try.pinned (OpenSpec.upto fnExactLargestBoxesSpec)

/-- 'laws.FnRegions', WHERE WHAT IT READS IS OF BULK AT MOST 1048576: true; the input reads as it did. -/
def fnRegionsUptoRow : OpenClaim := { program := "ytjfeleejiofeoaa", sum := "15111112b39febe3ae58fa11c2c8331d35028c6e85d302d5946447b5fb2792b3", func := "loop.example/g00884/laws.FnRegions", spec := "fnRegions", unfollowed := true, recurses := true, plainKeys := false, apart := false, narrowed := true }
def FnRegionsUptoSaid : Prop := fnRegionsUptoRow.holds Try.pinned (OpenSpec.upto fnRegionsSpec)

/-- 'laws.FnExactPartAt', WHERE WHAT IT READS IS OF BULK AT MOST 1048576: true; the input reads as it did. -/
def fnExactPartAtUptoRow : OpenClaim := { program := "ytjfeleejiofeoaa", sum := "15111112b39febe3ae58fa11c2c8331d35028c6e85d302d5946447b5fb2792b3", func := "loop.example/g00884/laws.FnExactPartAt", spec := "fnExactPartAt", unfollowed := true, recurses := true, plainKeys := false, apart := false, narrowed := true }
def FnExactPartAtUptoSaid : Prop := fnExactPartAtUptoRow.holds Try.pinned (OpenSpec.upto fnExactPartAtSpec)

end Rows
end Go.Proofs.Ytjfeleejiofeoaa
