/-
  No cell of these rows narrows 'for every input' (looked for: loops, veiled, ifaces, maps, wideKeys, modest, calm, conditions, laid).
  DERIVED. THE GIVEN ROWS OF THIS SEAT. 6 by the template 'for every input the law returns true; each argument reads behind the call as it read before'; 0 by the template 'total and deterministic' (their statements: YtbdikeeckjfioaaTotals.lean).
  GIVEN WITH THE SEED: the statements are not yours to turn. If you find one false, say at which input.
  Laid BY PROGRAM, IN A SANDBOX (cutbox-rows.mjs): the forced cells as the released guide's own fill.sh prints them over the translation fd2bab6189ba7866… (all of the seat's roots in one cut). By AI agents, Wed Nov 11 2026. No macro, syntax, notation, axiom, sorry.
-/
import Derived.Test.YtbdikeeckjfioaaChecked
import GoSem.Claim
import GoSem.ClaimJoined
import GoSem.ClaimMapViews
import Derived.JoinedTies
import Derived.KernelRfl
namespace Go.Proofs.Ytbdikeeckjfioaa
/- THE CELL 'sum', in the pinned program and in every row, IS THE sha256 OF THE DUMP (.gsa) THAT YtbdikeeckjfioaaProg.lean LOADS. Nothing in Lean hashes anything: it is a label: what it is worth is what the hold of that sum in a sandbox is worth. -/
noncomputable def Try.pinned : Pinned := { name := "ytbdikeeckjfioaa", sum := "fd2bab6189ba78663269eea48477547ce25929fdf8248eccad2ac50b86afdcb9", checked := Try.checked }
namespace Rows
def none {H : Type} : Left H := { results := [], args := [] }

/-- 'laws.FnExactMarkWord': WHATEVER THE INPUT: true; the input reads as it did. -/
def fnExactMarkWordSpec : ChangeSpec := { name := "fnExactMarkWord", fn := fun _ => fun
  | [d] => { results := [.lit (.bool true)], args := [d] }
  | _ => none }
def fnExactMarkWordRow : OpenClaim := { program := "ytbdikeeckjfioaa", sum := "fd2bab6189ba78663269eea48477547ce25929fdf8248eccad2ac50b86afdcb9", func := "loop.example/g00884/laws.FnExactMarkWord", spec := "fnExactMarkWord", apart := false }
def FnExactMarkWordSaid : Prop := fnExactMarkWordRow.holds Try.pinned (OpenSpec.ofChange fnExactMarkWordSpec)

/-- ITS FALSE NEIGHBOUR: 'it returns false'. Refute it at one input. -/
def fnExactMarkWordWrong : ChangeSpec := { name := "fnExactMarkWord", fn := fun _ => fun
  | [d] => { results := [.lit (.bool false)], args := [d] }
  | _ => none }
def FnExactMarkWordWrongFalsely : Prop := fnExactMarkWordRow.holds Try.pinned (OpenSpec.ofChange fnExactMarkWordWrong)

/-- 'laws.FnExactFieldText': WHATEVER THE INPUT: true; the input reads as it did. -/
def fnExactFieldTextSpec : ChangeSpec := { name := "fnExactFieldText", fn := fun _ => fun
  | [d] => { results := [.lit (.bool true)], args := [d] }
  | _ => none }
def fnExactFieldTextRow : OpenClaim := { program := "ytbdikeeckjfioaa", sum := "fd2bab6189ba78663269eea48477547ce25929fdf8248eccad2ac50b86afdcb9", func := "loop.example/g00884/laws.FnExactFieldText", spec := "fnExactFieldText", apart := false }
def FnExactFieldTextSaid : Prop := fnExactFieldTextRow.holds Try.pinned (OpenSpec.ofChange fnExactFieldTextSpec)

/-- ITS FALSE NEIGHBOUR: 'it returns false'. Refute it at one input. -/
def fnExactFieldTextWrong : ChangeSpec := { name := "fnExactFieldText", fn := fun _ => fun
  | [d] => { results := [.lit (.bool false)], args := [d] }
  | _ => none }
def FnExactFieldTextWrongFalsely : Prop := fnExactFieldTextRow.holds Try.pinned (OpenSpec.ofChange fnExactFieldTextWrong)

/-- 'laws.FnExactGroupText': WHATEVER THE INPUT: true; the input reads as it did. -/
def fnExactGroupTextSpec : ChangeSpec := { name := "fnExactGroupText", fn := fun _ => fun
  | [d] => { results := [.lit (.bool true)], args := [d] }
  | _ => none }
def fnExactGroupTextRow : OpenClaim := { program := "ytbdikeeckjfioaa", sum := "fd2bab6189ba78663269eea48477547ce25929fdf8248eccad2ac50b86afdcb9", func := "loop.example/g00884/laws.FnExactGroupText", spec := "fnExactGroupText", apart := false }
def FnExactGroupTextSaid : Prop := fnExactGroupTextRow.holds Try.pinned (OpenSpec.ofChange fnExactGroupTextSpec)

/-- ITS FALSE NEIGHBOUR: 'it returns false'. Refute it at one input. -/
def fnExactGroupTextWrong : ChangeSpec := { name := "fnExactGroupText", fn := fun _ => fun
  | [d] => { results := [.lit (.bool false)], args := [d] }
  | _ => none }
def FnExactGroupTextWrongFalsely : Prop := fnExactGroupTextRow.holds Try.pinned (OpenSpec.ofChange fnExactGroupTextWrong)

/-- 'laws.FnExactBoxesOverlap': WHATEVER THE INPUT: true; the input reads as it did. -/
def fnExactBoxesOverlapSpec : ChangeSpec := { name := "fnExactBoxesOverlap", fn := fun _ => fun
  | [d] => { results := [.lit (.bool true)], args := [d] }
  | _ => none }
def fnExactBoxesOverlapRow : OpenClaim := { program := "ytbdikeeckjfioaa", sum := "fd2bab6189ba78663269eea48477547ce25929fdf8248eccad2ac50b86afdcb9", func := "loop.example/g00884/laws.FnExactBoxesOverlap", spec := "fnExactBoxesOverlap", unfollowed := true, recurses := true, apart := false }
def FnExactBoxesOverlapSaid : Prop := fnExactBoxesOverlapRow.holds Try.pinned (OpenSpec.ofChange fnExactBoxesOverlapSpec)

/-- ITS FALSE NEIGHBOUR: 'it returns false'. Refute it at one input. -/
def fnExactBoxesOverlapWrong : ChangeSpec := { name := "fnExactBoxesOverlap", fn := fun _ => fun
  | [d] => { results := [.lit (.bool false)], args := [d] }
  | _ => none }
def FnExactBoxesOverlapWrongFalsely : Prop := fnExactBoxesOverlapRow.holds Try.pinned (OpenSpec.ofChange fnExactBoxesOverlapWrong)

/-- 'laws.FnExactIsValidFamily': WHATEVER THE INPUT: true; the input reads as it did. -/
def fnExactIsValidFamilySpec : ChangeSpec := { name := "fnExactIsValidFamily", fn := fun _ => fun
  | [d] => { results := [.lit (.bool true)], args := [d] }
  | _ => none }
def fnExactIsValidFamilyRow : OpenClaim := { program := "ytbdikeeckjfioaa", sum := "fd2bab6189ba78663269eea48477547ce25929fdf8248eccad2ac50b86afdcb9", func := "loop.example/g00884/laws.FnExactIsValidFamily", spec := "fnExactIsValidFamily", unfollowed := true, recurses := true, apart := false }
def FnExactIsValidFamilySaid : Prop := fnExactIsValidFamilyRow.holds Try.pinned (OpenSpec.ofChange fnExactIsValidFamilySpec)

/-- ITS FALSE NEIGHBOUR: 'it returns false'. Refute it at one input. -/
def fnExactIsValidFamilyWrong : ChangeSpec := { name := "fnExactIsValidFamily", fn := fun _ => fun
  | [d] => { results := [.lit (.bool false)], args := [d] }
  | _ => none }
def FnExactIsValidFamilyWrongFalsely : Prop := fnExactIsValidFamilyRow.holds Try.pinned (OpenSpec.ofChange fnExactIsValidFamilyWrong)

/-- 'laws.FnExactMarksText': WHATEVER THE INPUT: true; the input reads as it did. -/
def fnExactMarksTextSpec : ChangeSpec := { name := "fnExactMarksText", fn := fun _ => fun
  | [d] => { results := [.lit (.bool true)], args := [d] }
  | _ => none }
def fnExactMarksTextRow : OpenClaim := { program := "ytbdikeeckjfioaa", sum := "fd2bab6189ba78663269eea48477547ce25929fdf8248eccad2ac50b86afdcb9", func := "loop.example/g00884/laws.FnExactMarksText", spec := "fnExactMarksText", inPlace := ["internal/abi.NoEscape", "internal/bytealg.MakeNoZero"], apart := false }
def FnExactMarksTextSaid : Prop := fnExactMarksTextRow.holds Try.pinned (OpenSpec.ofChange fnExactMarksTextSpec)

/-- ITS FALSE NEIGHBOUR: 'it returns false'. Refute it at one input. -/
def fnExactMarksTextWrong : ChangeSpec := { name := "fnExactMarksText", fn := fun _ => fun
  | [d] => { results := [.lit (.bool false)], args := [d] }
  | _ => none }
def FnExactMarksTextWrongFalsely : Prop := fnExactMarksTextRow.holds Try.pinned (OpenSpec.ofChange fnExactMarksTextWrong)

/- THE SECOND FORM. 'bulk': how many values and letters a reading holds, each counted each time it is reached (what is shared counts as often as it is met; a slice's spare places count too). A statement '..UptoSaid' is the law's where the arguments, and the package variables that the reading takes, are together of bulk at most 1048576: NARROWER than '..Said'. Prove '..Said' where nothing that the law and all that it calls make is longer than what came in: it says more and counts as full. Else prove '..UptoSaid'. A law counts once. -/
mutual
def uptoBulk {H : Type} : DataW H → Nat
  | .lit (.string bytes) => bytes.length + 1
  | .lit _ => 1
  | .nil => 1
  | .ptr d => uptoBulk d + 1
  | .slice elems spare => uptoBulkAll elems + uptoBulkAll spare + 1
  | .agg parts => uptoBulkAll parts + 1
  | .iface _ d => uptoBulk d + 1
  | .map entries => uptoBulkEntries entries + 1
  | .held _ => 1
def uptoBulkAll {H : Type} : List (DataW H) → Nat
  | [] => 0
  | d :: r => uptoBulk d + uptoBulkAll r
def uptoBulkEntries {H : Type} : List (Lit × DataW H) → Nat
  | [] => 0
  | x :: r => uptoBulkEntry x + uptoBulkEntries r
def uptoBulkEntry {H : Type} : Lit × DataW H → Nat
  | (.string bytes, d) => bytes.length + uptoBulk d + 1
  | (_, d) => uptoBulk d + 1
 end
def uptoSmall : (H : Type) → List (DataW H) → Bool := fun _ ds => decide (uptoBulkAll ds ≤ 1048576)
def OpenSpec.upto (s : _root_.Go.ChangeSpec) : _root_.Go.OpenSpec := { _root_.Go.OpenSpec.ofChange s with cond := some uptoSmall }

/-- 'laws.FnExactMarkWord', WHERE WHAT IT READS IS OF BULK AT MOST 1048576: true; the input reads as it did. -/
def fnExactMarkWordUptoRow : OpenClaim := { program := "ytbdikeeckjfioaa", sum := "fd2bab6189ba78663269eea48477547ce25929fdf8248eccad2ac50b86afdcb9", func := "loop.example/g00884/laws.FnExactMarkWord", spec := "fnExactMarkWord", apart := false, narrowed := true }
def FnExactMarkWordUptoSaid : Prop := fnExactMarkWordUptoRow.holds Try.pinned (OpenSpec.upto fnExactMarkWordSpec)

/-- 'laws.FnExactFieldText', WHERE WHAT IT READS IS OF BULK AT MOST 1048576: true; the input reads as it did. -/
def fnExactFieldTextUptoRow : OpenClaim := { program := "ytbdikeeckjfioaa", sum := "fd2bab6189ba78663269eea48477547ce25929fdf8248eccad2ac50b86afdcb9", func := "loop.example/g00884/laws.FnExactFieldText", spec := "fnExactFieldText", apart := false, narrowed := true }
def FnExactFieldTextUptoSaid : Prop := fnExactFieldTextUptoRow.holds Try.pinned (OpenSpec.upto fnExactFieldTextSpec)

/-- 'laws.FnExactGroupText', WHERE WHAT IT READS IS OF BULK AT MOST 1048576: true; the input reads as it did. -/
def fnExactGroupTextUptoRow : OpenClaim := { program := "ytbdikeeckjfioaa", sum := "fd2bab6189ba78663269eea48477547ce25929fdf8248eccad2ac50b86afdcb9", func := "loop.example/g00884/laws.FnExactGroupText", spec := "fnExactGroupText", apart := false, narrowed := true }
def FnExactGroupTextUptoSaid : Prop := fnExactGroupTextUptoRow.holds Try.pinned (OpenSpec.upto fnExactGroupTextSpec)

/-- 'laws.FnExactBoxesOverlap', WHERE WHAT IT READS IS OF BULK AT MOST 1048576: true; the input reads as it did. -/
def fnExactBoxesOverlapUptoRow : OpenClaim := { program := "ytbdikeeckjfioaa", sum := "fd2bab6189ba78663269eea48477547ce25929fdf8248eccad2ac50b86afdcb9", func := "loop.example/g00884/laws.FnExactBoxesOverlap", spec := "fnExactBoxesOverlap", unfollowed := true, recurses := true, apart := false, narrowed := true }
def FnExactBoxesOverlapUptoSaid : Prop := fnExactBoxesOverlapUptoRow.holds Try.pinned (OpenSpec.upto fnExactBoxesOverlapSpec)

/-- 'laws.FnExactIsValidFamily', WHERE WHAT IT READS IS OF BULK AT MOST 1048576: true; the input reads as it did. -/
def fnExactIsValidFamilyUptoRow : OpenClaim := { program := "ytbdikeeckjfioaa", sum := "fd2bab6189ba78663269eea48477547ce25929fdf8248eccad2ac50b86afdcb9", func := "loop.example/g00884/laws.FnExactIsValidFamily", spec := "fnExactIsValidFamily", unfollowed := true, recurses := true, apart := false, narrowed := true }
def FnExactIsValidFamilyUptoSaid : Prop := fnExactIsValidFamilyUptoRow.holds Try.pinned (OpenSpec.upto fnExactIsValidFamilySpec)

/-- 'laws.FnExactMarksText', WHERE WHAT IT READS IS OF BULK AT MOST 1048576: true; the input reads as it did. -/
def fnExactMarksTextUptoRow : OpenClaim := { program := "ytbdikeeckjfioaa", sum := "fd2bab6189ba78663269eea48477547ce25929fdf8248eccad2ac50b86afdcb9", func := "loop.example/g00884/laws.FnExactMarksText", spec := "fnExactMarksText", inPlace := ["internal/abi.NoEscape", "internal/bytealg.MakeNoZero"], apart := false, narrowed := true }
def FnExactMarksTextUptoSaid : Prop := fnExactMarksTextUptoRow.holds Try.pinned (OpenSpec.upto fnExactMarksTextSpec)

end Rows
end Go.Proofs.Ytbdikeeckjfioaa
