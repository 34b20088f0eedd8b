/-
  No cell of these rows narrows 'for every input' (looked for: loops, veiled, ifaces, maps, wideKeys, modest, calm, conditions, laid).
  DERIVED. THE GIVEN ROWS OF THIS SEAT. 12 by the template 'for every input the law returns true; each argument reads behind the call as it read before'; 0 by the template 'total and deterministic' (their statements: YthjafngffkhffaaTotals.lean).
  GIVEN WITH THE SEED: the statements are not yours to turn. If you find one false, say at which input.
  Laid BY PROGRAM, IN A SANDBOX (cutbox-rows.mjs): the forced cells as the released guide's own fill.sh prints them over the translation 4e85b329803ab6db… (all of the seat's roots in one cut). By AI agents, Wed Nov 11 2026. No macro, syntax, notation, axiom, sorry.
-/
import Derived.Test.YthjafngffkhffaaChecked
import GoSem.Claim
import GoSem.ClaimJoined
import GoSem.ClaimMapViews
import Derived.JoinedTies
import Derived.KernelRfl
namespace Go.Proofs.Ythjafngffkhffaa
/- THE CELL 'sum', in the pinned program and in every row, IS THE sha256 OF THE DUMP (.gsa) THAT YthjafngffkhffaaProg.lean LOADS. Nothing in Lean hashes anything: it is a label: what it is worth is what the hold of that sum in a sandbox is worth. -/
noncomputable def Try.pinned : Pinned := { name := "ythjafngffkhffaa", sum := "4e85b329803ab6db8dea44d750d51768d77a611c54c451b208d89a911b8dd955", checked := Try.checked }
namespace Rows
def none {H : Type} : Left H := { results := [], args := [] }

/-- 'laws.FnExactIsValidFamily': WHATEVER THE INPUT: true; the input reads as it did. -/
def fnExactIsValidFamilySpec : ChangeSpec := { name := "fnExactIsValidFamily", fn := fun _ => fun
  | [d] => { results := [.lit (.bool true)], args := [d] }
  | _ => none }
def fnExactIsValidFamilyRow : OpenClaim := { program := "ythjafngffkhffaa", sum := "4e85b329803ab6db8dea44d750d51768d77a611c54c451b208d89a911b8dd955", func := "loop.example/g00884/laws.FnExactIsValidFamily", spec := "fnExactIsValidFamily", unfollowed := true, recurses := true, apart := false }
def FnExactIsValidFamilySaid : Prop := fnExactIsValidFamilyRow.holds Try.pinned (OpenSpec.ofChange fnExactIsValidFamilySpec)

/-- ITS FALSE NEIGHBOUR: 'it returns false'. Refute it at one input. -/
def fnExactIsValidFamilyWrong : ChangeSpec := { name := "fnExactIsValidFamily", fn := fun _ => fun
  | [d] => { results := [.lit (.bool false)], args := [d] }
  | _ => none }
def FnExactIsValidFamilyWrongFalsely : Prop := fnExactIsValidFamilyRow.holds Try.pinned (OpenSpec.ofChange fnExactIsValidFamilyWrong)

/-- 'laws.FnExactChildrenOf': WHATEVER THE INPUT: true; the input reads as it did. -/
def fnExactChildrenOfSpec : ChangeSpec := { name := "fnExactChildrenOf", fn := fun _ => fun
  | [d1, d2] => { results := [.lit (.bool true)], args := [d1, d2] }
  | _ => none }
def fnExactChildrenOfRow : OpenClaim := { program := "ythjafngffkhffaa", sum := "4e85b329803ab6db8dea44d750d51768d77a611c54c451b208d89a911b8dd955", func := "loop.example/g00884/laws.FnExactChildrenOf", spec := "fnExactChildrenOf", unfollowed := true, recurses := true, apart := false }
def FnExactChildrenOfSaid : Prop := fnExactChildrenOfRow.holds Try.pinned (OpenSpec.ofChange fnExactChildrenOfSpec)

/-- ITS FALSE NEIGHBOUR: 'it returns false'. Refute it at one input. -/
def fnExactChildrenOfWrong : ChangeSpec := { name := "fnExactChildrenOf", fn := fun _ => fun
  | [d1, d2] => { results := [.lit (.bool false)], args := [d1, d2] }
  | _ => none }
def FnExactChildrenOfWrongFalsely : Prop := fnExactChildrenOfRow.holds Try.pinned (OpenSpec.ofChange fnExactChildrenOfWrong)

/-- 'laws.FnExactBirthPlace': WHATEVER THE INPUT: true; the input reads as it did. -/
def fnExactBirthPlaceSpec : ChangeSpec := { name := "fnExactBirthPlace", fn := fun _ => fun
  | [d1, d2] => { results := [.lit (.bool true)], args := [d1, d2] }
  | _ => none }
def fnExactBirthPlaceRow : OpenClaim := { program := "ythjafngffkhffaa", sum := "4e85b329803ab6db8dea44d750d51768d77a611c54c451b208d89a911b8dd955", func := "loop.example/g00884/laws.FnExactBirthPlace", spec := "fnExactBirthPlace", unfollowed := true, recurses := true, apart := false }
def FnExactBirthPlaceSaid : Prop := fnExactBirthPlaceRow.holds Try.pinned (OpenSpec.ofChange fnExactBirthPlaceSpec)

/-- ITS FALSE NEIGHBOUR: 'it returns false'. Refute it at one input. -/
def fnExactBirthPlaceWrong : ChangeSpec := { name := "fnExactBirthPlace", fn := fun _ => fun
  | [d1, d2] => { results := [.lit (.bool false)], args := [d1, d2] }
  | _ => none }
def FnExactBirthPlaceWrongFalsely : Prop := fnExactBirthPlaceRow.holds Try.pinned (OpenSpec.ofChange fnExactBirthPlaceWrong)

/-- 'laws.FnExactKinshipOf': WHATEVER THE INPUT: true; the input reads as it did. -/
def fnExactKinshipOfSpec : ChangeSpec := { name := "fnExactKinshipOf", fn := fun _ => fun
  | [d1, d2, d3] => { results := [.lit (.bool true)], args := [d1, d2, d3] }
  | _ => none }
def fnExactKinshipOfRow : OpenClaim := { program := "ythjafngffkhffaa", sum := "4e85b329803ab6db8dea44d750d51768d77a611c54c451b208d89a911b8dd955", func := "loop.example/g00884/laws.FnExactKinshipOf", spec := "fnExactKinshipOf", unfollowed := true, recurses := true, apart := false }
def FnExactKinshipOfSaid : Prop := fnExactKinshipOfRow.holds Try.pinned (OpenSpec.ofChange fnExactKinshipOfSpec)

/-- ITS FALSE NEIGHBOUR: 'it returns false'. Refute it at one input. -/
def fnExactKinshipOfWrong : ChangeSpec := { name := "fnExactKinshipOf", fn := fun _ => fun
  | [d1, d2, d3] => { results := [.lit (.bool false)], args := [d1, d2, d3] }
  | _ => none }
def FnExactKinshipOfWrongFalsely : Prop := fnExactKinshipOfRow.holds Try.pinned (OpenSpec.ofChange fnExactKinshipOfWrong)

/-- 'laws.FnExactGenerationsOf': WHATEVER THE INPUT: true; the input reads as it did. -/
def fnExactGenerationsOfSpec : ChangeSpec := { name := "fnExactGenerationsOf", fn := fun _ => fun
  | [d1, d2] => { results := [.lit (.bool true)], args := [d1, d2] }
  | _ => none }
def fnExactGenerationsOfRow : OpenClaim := { program := "ythjafngffkhffaa", sum := "4e85b329803ab6db8dea44d750d51768d77a611c54c451b208d89a911b8dd955", func := "loop.example/g00884/laws.FnExactGenerationsOf", spec := "fnExactGenerationsOf", unfollowed := true, recurses := true, apart := false }
def FnExactGenerationsOfSaid : Prop := fnExactGenerationsOfRow.holds Try.pinned (OpenSpec.ofChange fnExactGenerationsOfSpec)

/-- ITS FALSE NEIGHBOUR: 'it returns false'. Refute it at one input. -/
def fnExactGenerationsOfWrong : ChangeSpec := { name := "fnExactGenerationsOf", fn := fun _ => fun
  | [d1, d2] => { results := [.lit (.bool false)], args := [d1, d2] }
  | _ => none }
def FnExactGenerationsOfWrongFalsely : Prop := fnExactGenerationsOfRow.holds Try.pinned (OpenSpec.ofChange fnExactGenerationsOfWrong)

/-- 'laws.FnExactHeirsOf': WHATEVER THE INPUT: true; the input reads as it did. -/
def fnExactHeirsOfSpec : ChangeSpec := { name := "fnExactHeirsOf", fn := fun _ => fun
  | [d1, d2, d3] => { results := [.lit (.bool true)], args := [d1, d2, d3] }
  | _ => none }
def fnExactHeirsOfRow : OpenClaim := { program := "ythjafngffkhffaa", sum := "4e85b329803ab6db8dea44d750d51768d77a611c54c451b208d89a911b8dd955", func := "loop.example/g00884/laws.FnExactHeirsOf", spec := "fnExactHeirsOf", unfollowed := true, recurses := true, apart := false }
def FnExactHeirsOfSaid : Prop := fnExactHeirsOfRow.holds Try.pinned (OpenSpec.ofChange fnExactHeirsOfSpec)

/-- ITS FALSE NEIGHBOUR: 'it returns false'. Refute it at one input. -/
def fnExactHeirsOfWrong : ChangeSpec := { name := "fnExactHeirsOf", fn := fun _ => fun
  | [d1, d2, d3] => { results := [.lit (.bool false)], args := [d1, d2, d3] }
  | _ => none }
def FnExactHeirsOfWrongFalsely : Prop := fnExactHeirsOfRow.holds Try.pinned (OpenSpec.ofChange fnExactHeirsOfWrong)

/-- 'laws.FnExactHeadOf': WHATEVER THE INPUT: true; the input reads as it did. -/
def fnExactHeadOfSpec : ChangeSpec := { name := "fnExactHeadOf", fn := fun _ => fun
  | [d1, d2, d3] => { results := [.lit (.bool true)], args := [d1, d2, d3] }
  | _ => none }
def fnExactHeadOfRow : OpenClaim := { program := "ythjafngffkhffaa", sum := "4e85b329803ab6db8dea44d750d51768d77a611c54c451b208d89a911b8dd955", func := "loop.example/g00884/laws.FnExactHeadOf", spec := "fnExactHeadOf", unfollowed := true, recurses := true, apart := false }
def FnExactHeadOfSaid : Prop := fnExactHeadOfRow.holds Try.pinned (OpenSpec.ofChange fnExactHeadOfSpec)

/-- ITS FALSE NEIGHBOUR: 'it returns false'. Refute it at one input. -/
def fnExactHeadOfWrong : ChangeSpec := { name := "fnExactHeadOf", fn := fun _ => fun
  | [d1, d2, d3] => { results := [.lit (.bool false)], args := [d1, d2, d3] }
  | _ => none }
def FnExactHeadOfWrongFalsely : Prop := fnExactHeadOfRow.holds Try.pinned (OpenSpec.ofChange fnExactHeadOfWrong)

/-- 'laws.FnExactAncestorsOf': WHATEVER THE INPUT: true; the input reads as it did. -/
def fnExactAncestorsOfSpec : ChangeSpec := { name := "fnExactAncestorsOf", fn := fun _ => fun
  | [d1, d2] => { results := [.lit (.bool true)], args := [d1, d2] }
  | _ => none }
def fnExactAncestorsOfRow : OpenClaim := { program := "ythjafngffkhffaa", sum := "4e85b329803ab6db8dea44d750d51768d77a611c54c451b208d89a911b8dd955", func := "loop.example/g00884/laws.FnExactAncestorsOf", spec := "fnExactAncestorsOf", unfollowed := true, recurses := true, apart := false }
def FnExactAncestorsOfSaid : Prop := fnExactAncestorsOfRow.holds Try.pinned (OpenSpec.ofChange fnExactAncestorsOfSpec)

/-- ITS FALSE NEIGHBOUR: 'it returns false'. Refute it at one input. -/
def fnExactAncestorsOfWrong : ChangeSpec := { name := "fnExactAncestorsOf", fn := fun _ => fun
  | [d1, d2] => { results := [.lit (.bool false)], args := [d1, d2] }
  | _ => none }
def FnExactAncestorsOfWrongFalsely : Prop := fnExactAncestorsOfRow.holds Try.pinned (OpenSpec.ofChange fnExactAncestorsOfWrong)

/-- 'laws.FnExactAddPerson': WHATEVER THE INPUT: true; the input reads as it did. -/
def fnExactAddPersonSpec : ChangeSpec := { name := "fnExactAddPerson", fn := fun _ => fun
  | [d1, d2] => { results := [.lit (.bool true)], args := [d1, d2] }
  | _ => none }
def fnExactAddPersonRow : OpenClaim := { program := "ythjafngffkhffaa", sum := "4e85b329803ab6db8dea44d750d51768d77a611c54c451b208d89a911b8dd955", func := "loop.example/g00884/laws.FnExactAddPerson", spec := "fnExactAddPerson", unfollowed := true, recurses := true, apart := false }
def FnExactAddPersonSaid : Prop := fnExactAddPersonRow.holds Try.pinned (OpenSpec.ofChange fnExactAddPersonSpec)

/-- ITS FALSE NEIGHBOUR: 'it returns false'. Refute it at one input. -/
def fnExactAddPersonWrong : ChangeSpec := { name := "fnExactAddPerson", fn := fun _ => fun
  | [d1, d2] => { results := [.lit (.bool false)], args := [d1, d2] }
  | _ => none }
def FnExactAddPersonWrongFalsely : Prop := fnExactAddPersonRow.holds Try.pinned (OpenSpec.ofChange fnExactAddPersonWrong)

/-- 'laws.FnKinship': WHATEVER THE INPUT: true; the input reads as it did. -/
def fnKinshipSpec : ChangeSpec := { name := "fnKinship", fn := fun _ => fun
  | [d] => { results := [.lit (.bool true)], args := [d] }
  | _ => none }
def fnKinshipRow : OpenClaim := { program := "ythjafngffkhffaa", sum := "4e85b329803ab6db8dea44d750d51768d77a611c54c451b208d89a911b8dd955", func := "loop.example/g00884/laws.FnKinship", spec := "fnKinship", unfollowed := true, recurses := true, apart := false }
def FnKinshipSaid : Prop := fnKinshipRow.holds Try.pinned (OpenSpec.ofChange fnKinshipSpec)

/-- ITS FALSE NEIGHBOUR: 'it returns false'. Refute it at one input. -/
def fnKinshipWrong : ChangeSpec := { name := "fnKinship", fn := fun _ => fun
  | [d] => { results := [.lit (.bool false)], args := [d] }
  | _ => none }
def FnKinshipWrongFalsely : Prop := fnKinshipRow.holds Try.pinned (OpenSpec.ofChange fnKinshipWrong)

/-- 'laws.FnFamilies': WHATEVER THE INPUT: true; the input reads as it did. -/
def fnFamiliesSpec : ChangeSpec := { name := "fnFamilies", fn := fun _ => fun
  | [d] => { results := [.lit (.bool true)], args := [d] }
  | _ => none }
def fnFamiliesRow : OpenClaim := { program := "ythjafngffkhffaa", sum := "4e85b329803ab6db8dea44d750d51768d77a611c54c451b208d89a911b8dd955", func := "loop.example/g00884/laws.FnFamilies", spec := "fnFamilies", unfollowed := true, recurses := true, apart := false }
def FnFamiliesSaid : Prop := fnFamiliesRow.holds Try.pinned (OpenSpec.ofChange fnFamiliesSpec)

/-- ITS FALSE NEIGHBOUR: 'it returns false'. Refute it at one input. -/
def fnFamiliesWrong : ChangeSpec := { name := "fnFamilies", fn := fun _ => fun
  | [d] => { results := [.lit (.bool false)], args := [d] }
  | _ => none }
def FnFamiliesWrongFalsely : Prop := fnFamiliesRow.holds Try.pinned (OpenSpec.ofChange fnFamiliesWrong)

/-- 'laws.FnExactMarkOf': WHATEVER THE INPUT: true; the input reads as it did. -/
def fnExactMarkOfSpec : ChangeSpec := { name := "fnExactMarkOf", fn := fun _ => fun
  | [d1, d2, d3] => { results := [.lit (.bool true)], args := [d1, d2, d3] }
  | _ => none }
def fnExactMarkOfRow : OpenClaim := { program := "ythjafngffkhffaa", sum := "4e85b329803ab6db8dea44d750d51768d77a611c54c451b208d89a911b8dd955", func := "loop.example/g00884/laws.FnExactMarkOf", spec := "fnExactMarkOf", unfollowed := true, recurses := true, apart := false }
def FnExactMarkOfSaid : Prop := fnExactMarkOfRow.holds Try.pinned (OpenSpec.ofChange fnExactMarkOfSpec)

/-- ITS FALSE NEIGHBOUR: 'it returns false'. Refute it at one input. -/
def fnExactMarkOfWrong : ChangeSpec := { name := "fnExactMarkOf", fn := fun _ => fun
  | [d1, d2, d3] => { results := [.lit (.bool false)], args := [d1, d2, d3] }
  | _ => none }
def FnExactMarkOfWrongFalsely : Prop := fnExactMarkOfRow.holds Try.pinned (OpenSpec.ofChange fnExactMarkOfWrong)

/- THE SECOND FORM. 'bulk': how many values and letters a reading holds, each counted each time it is reached (what is shared counts as often as it is met; a slice's spare places count too). A statement '..UptoSaid' is the law's where the arguments, and the package variables that the reading takes, are together of bulk at most 1048576: NARROWER than '..Said'. Prove '..Said' where nothing that the law and all that it calls make is longer than what came in: it says more and counts as full. Else prove '..UptoSaid'. A law counts once. -/
mutual
def uptoBulk {H : Type} : DataW H → Nat
  | .lit (.string bytes) => bytes.length + 1
  | .lit _ => 1
  | .nil => 1
  | .ptr d => uptoBulk d + 1
  | .slice elems spare => uptoBulkAll elems + uptoBulkAll spare + 1
  | .agg parts => uptoBulkAll parts + 1
  | .iface _ d => uptoBulk d + 1
  | .map entries => uptoBulkEntries entries + 1
  | .held _ => 1
def uptoBulkAll {H : Type} : List (DataW H) → Nat
  | [] => 0
  | d :: r => uptoBulk d + uptoBulkAll r
def uptoBulkEntries {H : Type} : List (Lit × DataW H) → Nat
  | [] => 0
  | x :: r => uptoBulkEntry x + uptoBulkEntries r
def uptoBulkEntry {H : Type} : Lit × DataW H → Nat
  | (.string bytes, d) => bytes.length + uptoBulk d + 1
  | (_, d) => uptoBulk d + 1
 end
def uptoSmall : (H : Type) → List (DataW H) → Bool := fun _ ds => decide (uptoBulkAll ds ≤ 1048576)
def OpenSpec.upto (s : _root_.Go.ChangeSpec) : _root_.Go.OpenSpec := { _root_.Go.OpenSpec.ofChange s with cond := some uptoSmall }

/-- 'laws.FnExactIsValidFamily', WHERE WHAT IT READS IS OF BULK AT MOST 1048576: true; the input reads as it did. -/
def fnExactIsValidFamilyUptoRow : OpenClaim := { program := "ythjafngffkhffaa", sum := "4e85b329803ab6db8dea44d750d51768d77a611c54c451b208d89a911b8dd955", func := "loop.example/g00884/laws.FnExactIsValidFamily", spec := "fnExactIsValidFamily", unfollowed := true, recurses := true, apart := false, narrowed := true }
def FnExactIsValidFamilyUptoSaid : Prop := fnExactIsValidFamilyUptoRow.holds Try.pinned (OpenSpec.upto fnExactIsValidFamilySpec)

/-- 'laws.FnExactChildrenOf', WHERE WHAT IT READS IS OF BULK AT MOST 1048576: true; the input reads as it did. -/
def fnExactChildrenOfUptoRow : OpenClaim := { program := "ythjafngffkhffaa", sum := "4e85b329803ab6db8dea44d750d51768d77a611c54c451b208d89a911b8dd955", func := "loop.example/g00884/laws.FnExactChildrenOf", spec := "fnExactChildrenOf", unfollowed := true, recurses := true, apart := false, narrowed := true }
def FnExactChildrenOfUptoSaid : Prop := fnExactChildrenOfUptoRow.holds Try.pinned (OpenSpec.upto fnExactChildrenOfSpec)

/-- 'laws.FnExactBirthPlace', WHERE WHAT IT READS IS OF BULK AT MOST 1048576: true; the input reads as it did. -/
def fnExactBirthPlaceUptoRow : OpenClaim := { program := "ythjafngffkhffaa", sum := "4e85b329803ab6db8dea44d750d51768d77a611c54c451b208d89a911b8dd955", func := "loop.example/g00884/laws.FnExactBirthPlace", spec := "fnExactBirthPlace", unfollowed := true, recurses := true, apart := false, narrowed := true }
def FnExactBirthPlaceUptoSaid : Prop := fnExactBirthPlaceUptoRow.holds Try.pinned (OpenSpec.upto fnExactBirthPlaceSpec)

/-- 'laws.FnExactKinshipOf', WHERE WHAT IT READS IS OF BULK AT MOST 1048576: true; the input reads as it did. -/
def fnExactKinshipOfUptoRow : OpenClaim := { program := "ythjafngffkhffaa", sum := "4e85b329803ab6db8dea44d750d51768d77a611c54c451b208d89a911b8dd955", func := "loop.example/g00884/laws.FnExactKinshipOf", spec := "fnExactKinshipOf", unfollowed := true, recurses := true, apart := false, narrowed := true }
def FnExactKinshipOfUptoSaid : Prop := fnExactKinshipOfUptoRow.holds Try.pinned (OpenSpec.upto fnExactKinshipOfSpec)

/-- 'laws.FnExactGenerationsOf', WHERE WHAT IT READS IS OF BULK AT MOST 1048576: true; the input reads as it did. -/
def fnExactGenerationsOfUptoRow : OpenClaim := { program := "ythjafngffkhffaa", sum := "4e85b329803ab6db8dea44d750d51768d77a611c54c451b208d89a911b8dd955", func := "loop.example/g00884/laws.FnExactGenerationsOf", spec := "fnExactGenerationsOf", unfollowed := true, recurses := true, apart := false, narrowed := true }
def FnExactGenerationsOfUptoSaid : Prop := fnExactGenerationsOfUptoRow.holds Try.pinned (OpenSpec.upto fnExactGenerationsOfSpec)

/-- 'laws.FnExactHeirsOf', WHERE WHAT IT READS IS OF BULK AT MOST 1048576: true; the input reads as it did. -/
def fnExactHeirsOfUptoRow : OpenClaim := { program := "ythjafngffkhffaa", sum := "4e85b329803ab6db8dea44d750d51768d77a611c54c451b208d89a911b8dd955", func := "loop.example/g00884/laws.FnExactHeirsOf", spec := "fnExactHeirsOf", unfollowed := true, recurses := true, apart := false, narrowed := true }
def FnExactHeirsOfUptoSaid : Prop := fnExactHeirsOfUptoRow.holds Try.pinned (OpenSpec.upto fnExactHeirsOfSpec)

/-- 'laws.FnExactHeadOf', WHERE WHAT IT READS IS OF BULK AT MOST 1048576: true; the input reads as it did. -/
def fnExactHeadOfUptoRow : OpenClaim := { program := "ythjafngffkhffaa", sum := "4e85b329803ab6db8dea44d750d51768d77a611c54c451b208d89a911b8dd955", func := "loop.example/g00884/laws.FnExactHeadOf", spec := "fnExactHeadOf", unfollowed := true, recurses := true, apart := false, narrowed := true }
def FnExactHeadOfUptoSaid : Prop := fnExactHeadOfUptoRow.holds Try.pinned (OpenSpec.upto fnExactHeadOfSpec)

/-- 'laws.FnExactAncestorsOf', WHERE WHAT IT READS IS OF BULK AT MOST 1048576: true; the input reads as it did. -/
def fnExactAncestorsOfUptoRow : OpenClaim := { program := "ythjafngffkhffaa", sum := "4e85b329803ab6db8dea44d750d51768d77a611c54c451b208d89a911b8dd955", func := "loop.example/g00884/laws.FnExactAncestorsOf", spec := "fnExactAncestorsOf", unfollowed := true, recurses := true, apart := false, narrowed := true }
def FnExactAncestorsOfUptoSaid : Prop := fnExactAncestorsOfUptoRow.holds Try.pinned (OpenSpec.upto fnExactAncestorsOfSpec)

/-- 'laws.FnExactAddPerson', WHERE WHAT IT READS IS OF BULK AT MOST 1048576: true; the input reads as it did. -/
def fnExactAddPersonUptoRow : OpenClaim := { program := "ythjafngffkhffaa", sum := "4e85b329803ab6db8dea44d750d51768d77a611c54c451b208d89a911b8dd955", func := "loop.example/g00884/laws.FnExactAddPerson", spec := "fnExactAddPerson", unfollowed := true, recurses := true, apart := false, narrowed := true }
def FnExactAddPersonUptoSaid : Prop := fnExactAddPersonUptoRow.holds Try.pinned (OpenSpec.upto fnExactAddPersonSpec)

/-- 'laws.FnKinship', WHERE WHAT IT READS IS OF BULK AT MOST 1048576: true; the input reads as it did. -/
def fnKinshipUptoRow : OpenClaim := { program := "ythjafngffkhffaa", sum := "4e85b329803ab6db8dea44d750d51768d77a611c54c451b208d89a911b8dd955", func := "loop.example/g00884/laws.FnKinship", spec := "fnKinship", unfollowed := true, recurses := true, apart := false, narrowed := true }
def FnKinshipUptoSaid : Prop := fnKinshipUptoRow.holds Try.pinned (OpenSpec.upto fnKinshipSpec)

/-- 'laws.FnFamilies', WHERE WHAT IT READS IS OF BULK AT MOST 1048576: true; the input reads as it did. -/
def fnFamiliesUptoRow : OpenClaim := { program := "ythjafngffkhffaa", sum := "4e85b329803ab6db8dea44d750d51768d77a611c54c451b208d89a911b8dd955", func := "loop.example/g00884/laws.FnFamilies", spec := "fnFamilies", unfollowed := true, recurses := true, apart := false, narrowed := true }
def FnFamiliesUptoSaid : Prop := fnFamiliesUptoRow.holds Try.pinned (OpenSpec.upto fnFamiliesSpec)

/-- 'laws.FnExactMarkOf', WHERE WHAT IT READS IS OF BULK AT MOST 1048576: true; the input reads as it did. -/
def fnExactMarkOfUptoRow : OpenClaim := { program := "ythjafngffkhffaa", sum := "4e85b329803ab6db8dea44d750d51768d77a611c54c451b208d89a911b8dd955", func := "loop.example/g00884/laws.FnExactMarkOf", spec := "fnExactMarkOf", unfollowed := true, recurses := true, apart := false, narrowed := true }
def FnExactMarkOfUptoSaid : Prop := fnExactMarkOfUptoRow.holds Try.pinned (OpenSpec.upto fnExactMarkOfSpec)

end Rows
end Go.Proofs.Ythjafngffkhffaa
