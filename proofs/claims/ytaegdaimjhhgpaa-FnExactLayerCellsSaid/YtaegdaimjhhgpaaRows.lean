/-
  No cell of these rows narrows 'for every input' (looked for: loops, veiled, ifaces, maps, wideKeys, modest, calm, conditions, laid).
  DERIVED. THE GIVEN ROWS OF THIS SEAT. 12 by the template 'for every input the law returns true; each argument reads behind the call as it read before'; 0 by the template 'total and deterministic' (their statements: YtaegdaimjhhgpaaTotals.lean).
  GIVEN WITH THE SEED: the statements are not yours to turn. If you find one false, say at which input.
  Laid BY PROGRAM, IN A SANDBOX (cutbox-rows.mjs): the forced cells as the released guide's own fill.sh prints them over the translation 2872552a53ce523a… (all of the seat's roots in one cut). By AI agents, Wed Nov 11 2026. No macro, syntax, notation, axiom, sorry.
-/
import Derived.Test.YtaegdaimjhhgpaaChecked
import GoSem.Claim
import GoSem.ClaimJoined
import GoSem.ClaimMapViews
import Derived.JoinedTies
import Derived.KernelRfl
namespace Go.Proofs.Ytaegdaimjhhgpaa
/- THE CELL 'sum', in the pinned program and in every row, IS THE sha256 OF THE DUMP (.gsa) THAT YtaegdaimjhhgpaaProg.lean LOADS. Nothing in Lean hashes anything: it is a label: what it is worth is what the hold of that sum in a sandbox is worth. -/
noncomputable def Try.pinned : Pinned := { name := "ytaegdaimjhhgpaa", sum := "2872552a53ce523aeb1524f8bb6b3543b42a2006e61d561061b64becc132cbbb", checked := Try.checked }
namespace Rows
def none {H : Type} : Left H := { results := [], args := [] }

/-- 'laws.FnExactFieldPicture': WHATEVER THE INPUT: true; the input reads as it did. -/
def fnExactFieldPictureSpec : ChangeSpec := { name := "fnExactFieldPicture", fn := fun _ => fun
  | [d] => { results := [.lit (.bool true)], args := [d] }
  | _ => none }
def fnExactFieldPictureRow : OpenClaim := { program := "ytaegdaimjhhgpaa", sum := "2872552a53ce523aeb1524f8bb6b3543b42a2006e61d561061b64becc132cbbb", func := "loop.example/g00884/laws.FnExactFieldPicture", spec := "fnExactFieldPicture", unfollowed := true, recurses := true, apart := false }
def FnExactFieldPictureSaid : Prop := fnExactFieldPictureRow.holds Try.pinned (OpenSpec.ofChange fnExactFieldPictureSpec)

/-- ITS FALSE NEIGHBOUR: 'it returns false'. Refute it at one input. -/
def fnExactFieldPictureWrong : ChangeSpec := { name := "fnExactFieldPicture", fn := fun _ => fun
  | [d] => { results := [.lit (.bool false)], args := [d] }
  | _ => none }
def FnExactFieldPictureWrongFalsely : Prop := fnExactFieldPictureRow.holds Try.pinned (OpenSpec.ofChange fnExactFieldPictureWrong)

/-- 'laws.FnExactCounterCells': WHATEVER THE INPUT: true; the input reads as it did. -/
def fnExactCounterCellsSpec : ChangeSpec := { name := "fnExactCounterCells", fn := fun _ => fun
  | [d1, d2] => { results := [.lit (.bool true)], args := [d1, d2] }
  | _ => none }
def fnExactCounterCellsRow : OpenClaim := { program := "ytaegdaimjhhgpaa", sum := "2872552a53ce523aeb1524f8bb6b3543b42a2006e61d561061b64becc132cbbb", func := "loop.example/g00884/laws.FnExactCounterCells", spec := "fnExactCounterCells", unfollowed := true, recurses := true, apart := false }
def FnExactCounterCellsSaid : Prop := fnExactCounterCellsRow.holds Try.pinned (OpenSpec.ofChange fnExactCounterCellsSpec)

/-- ITS FALSE NEIGHBOUR: 'it returns false'. Refute it at one input. -/
def fnExactCounterCellsWrong : ChangeSpec := { name := "fnExactCounterCells", fn := fun _ => fun
  | [d1, d2] => { results := [.lit (.bool false)], args := [d1, d2] }
  | _ => none }
def FnExactCounterCellsWrongFalsely : Prop := fnExactCounterCellsRow.holds Try.pinned (OpenSpec.ofChange fnExactCounterCellsWrong)

/-- 'laws.FnExactCounteredRegion': WHATEVER THE INPUT: true; the input reads as it did. -/
def fnExactCounteredRegionSpec : ChangeSpec := { name := "fnExactCounteredRegion", fn := fun _ => fun
  | [d1, d2] => { results := [.lit (.bool true)], args := [d1, d2] }
  | _ => none }
def fnExactCounteredRegionRow : OpenClaim := { program := "ytaegdaimjhhgpaa", sum := "2872552a53ce523aeb1524f8bb6b3543b42a2006e61d561061b64becc132cbbb", func := "loop.example/g00884/laws.FnExactCounteredRegion", spec := "fnExactCounteredRegion", unfollowed := true, recurses := true, apart := false }
def FnExactCounteredRegionSaid : Prop := fnExactCounteredRegionRow.holds Try.pinned (OpenSpec.ofChange fnExactCounteredRegionSpec)

/-- ITS FALSE NEIGHBOUR: 'it returns false'. Refute it at one input. -/
def fnExactCounteredRegionWrong : ChangeSpec := { name := "fnExactCounteredRegion", fn := fun _ => fun
  | [d1, d2] => { results := [.lit (.bool false)], args := [d1, d2] }
  | _ => none }
def FnExactCounteredRegionWrongFalsely : Prop := fnExactCounteredRegionRow.holds Try.pinned (OpenSpec.ofChange fnExactCounteredRegionWrong)

/-- 'laws.FnExactCounterPicture': WHATEVER THE INPUT: true; the input reads as it did. -/
def fnExactCounterPictureSpec : ChangeSpec := { name := "fnExactCounterPicture", fn := fun _ => fun
  | [d1, d2] => { results := [.lit (.bool true)], args := [d1, d2] }
  | _ => none }
def fnExactCounterPictureRow : OpenClaim := { program := "ytaegdaimjhhgpaa", sum := "2872552a53ce523aeb1524f8bb6b3543b42a2006e61d561061b64becc132cbbb", func := "loop.example/g00884/laws.FnExactCounterPicture", spec := "fnExactCounterPicture", unfollowed := true, recurses := true, apart := false }
def FnExactCounterPictureSaid : Prop := fnExactCounterPictureRow.holds Try.pinned (OpenSpec.ofChange fnExactCounterPictureSpec)

/-- ITS FALSE NEIGHBOUR: 'it returns false'. Refute it at one input. -/
def fnExactCounterPictureWrong : ChangeSpec := { name := "fnExactCounterPicture", fn := fun _ => fun
  | [d1, d2] => { results := [.lit (.bool false)], args := [d1, d2] }
  | _ => none }
def FnExactCounterPictureWrongFalsely : Prop := fnExactCounterPictureRow.holds Try.pinned (OpenSpec.ofChange fnExactCounterPictureWrong)

/-- 'laws.FnExactCounterTwice': WHATEVER THE INPUT: true; the input reads as it did. -/
def fnExactCounterTwiceSpec : ChangeSpec := { name := "fnExactCounterTwice", fn := fun _ => fun
  | [d1, d2, d3] => { results := [.lit (.bool true)], args := [d1, d2, d3] }
  | _ => none }
def fnExactCounterTwiceRow : OpenClaim := { program := "ytaegdaimjhhgpaa", sum := "2872552a53ce523aeb1524f8bb6b3543b42a2006e61d561061b64becc132cbbb", func := "loop.example/g00884/laws.FnExactCounterTwice", spec := "fnExactCounterTwice", unfollowed := true, recurses := true, apart := false }
def FnExactCounterTwiceSaid : Prop := fnExactCounterTwiceRow.holds Try.pinned (OpenSpec.ofChange fnExactCounterTwiceSpec)

/-- ITS FALSE NEIGHBOUR: 'it returns false'. Refute it at one input. -/
def fnExactCounterTwiceWrong : ChangeSpec := { name := "fnExactCounterTwice", fn := fun _ => fun
  | [d1, d2, d3] => { results := [.lit (.bool false)], args := [d1, d2, d3] }
  | _ => none }
def FnExactCounterTwiceWrongFalsely : Prop := fnExactCounterTwiceRow.holds Try.pinned (OpenSpec.ofChange fnExactCounterTwiceWrong)

/-- 'laws.FnExactPlaceCharges': WHATEVER THE INPUT: true; the input reads as it did. -/
def fnExactPlaceChargesSpec : ChangeSpec := { name := "fnExactPlaceCharges", fn := fun _ => fun
  | [d] => { results := [.lit (.bool true)], args := [d] }
  | _ => none }
def fnExactPlaceChargesRow : OpenClaim := { program := "ytaegdaimjhhgpaa", sum := "2872552a53ce523aeb1524f8bb6b3543b42a2006e61d561061b64becc132cbbb", func := "loop.example/g00884/laws.FnExactPlaceCharges", spec := "fnExactPlaceCharges", unfollowed := true, recurses := true, apart := false }
def FnExactPlaceChargesSaid : Prop := fnExactPlaceChargesRow.holds Try.pinned (OpenSpec.ofChange fnExactPlaceChargesSpec)

/-- ITS FALSE NEIGHBOUR: 'it returns false'. Refute it at one input. -/
def fnExactPlaceChargesWrong : ChangeSpec := { name := "fnExactPlaceCharges", fn := fun _ => fun
  | [d] => { results := [.lit (.bool false)], args := [d] }
  | _ => none }
def FnExactPlaceChargesWrongFalsely : Prop := fnExactPlaceChargesRow.holds Try.pinned (OpenSpec.ofChange fnExactPlaceChargesWrong)

/-- 'laws.FnExactCounterOrdinary': WHATEVER THE INPUT: true; the input reads as it did. -/
def fnExactCounterOrdinarySpec : ChangeSpec := { name := "fnExactCounterOrdinary", fn := fun _ => fun
  | [d1, d2, d3] => { results := [.lit (.bool true)], args := [d1, d2, d3] }
  | _ => none }
def fnExactCounterOrdinaryRow : OpenClaim := { program := "ytaegdaimjhhgpaa", sum := "2872552a53ce523aeb1524f8bb6b3543b42a2006e61d561061b64becc132cbbb", func := "loop.example/g00884/laws.FnExactCounterOrdinary", spec := "fnExactCounterOrdinary", unfollowed := true, recurses := true, apart := false }
def FnExactCounterOrdinarySaid : Prop := fnExactCounterOrdinaryRow.holds Try.pinned (OpenSpec.ofChange fnExactCounterOrdinarySpec)

/-- ITS FALSE NEIGHBOUR: 'it returns false'. Refute it at one input. -/
def fnExactCounterOrdinaryWrong : ChangeSpec := { name := "fnExactCounterOrdinary", fn := fun _ => fun
  | [d1, d2, d3] => { results := [.lit (.bool false)], args := [d1, d2, d3] }
  | _ => none }
def FnExactCounterOrdinaryWrongFalsely : Prop := fnExactCounterOrdinaryRow.holds Try.pinned (OpenSpec.ofChange fnExactCounterOrdinaryWrong)

/-- 'laws.FnExactLayerCells': WHATEVER THE INPUT: true; the input reads as it did. -/
def fnExactLayerCellsSpec : ChangeSpec := { name := "fnExactLayerCells", fn := fun _ => fun
  | [d] => { results := [.lit (.bool true)], args := [d] }
  | _ => none }
def fnExactLayerCellsRow : OpenClaim := { program := "ytaegdaimjhhgpaa", sum := "2872552a53ce523aeb1524f8bb6b3543b42a2006e61d561061b64becc132cbbb", func := "loop.example/g00884/laws.FnExactLayerCells", spec := "fnExactLayerCells", unfollowed := true, recurses := true, apart := false }
def FnExactLayerCellsSaid : Prop := fnExactLayerCellsRow.holds Try.pinned (OpenSpec.ofChange fnExactLayerCellsSpec)

/-- ITS FALSE NEIGHBOUR: 'it returns false'. Refute it at one input. -/
def fnExactLayerCellsWrong : ChangeSpec := { name := "fnExactLayerCells", fn := fun _ => fun
  | [d] => { results := [.lit (.bool false)], args := [d] }
  | _ => none }
def FnExactLayerCellsWrongFalsely : Prop := fnExactLayerCellsRow.holds Try.pinned (OpenSpec.ofChange fnExactLayerCellsWrong)

/-- 'laws.FnExactTinctureAt': WHATEVER THE INPUT: true; the input reads as it did. -/
def fnExactTinctureAtSpec : ChangeSpec := { name := "fnExactTinctureAt", fn := fun _ => fun
  | [d1, d2, d3] => { results := [.lit (.bool true)], args := [d1, d2, d3] }
  | _ => none }
def fnExactTinctureAtRow : OpenClaim := { program := "ytaegdaimjhhgpaa", sum := "2872552a53ce523aeb1524f8bb6b3543b42a2006e61d561061b64becc132cbbb", func := "loop.example/g00884/laws.FnExactTinctureAt", spec := "fnExactTinctureAt", unfollowed := true, recurses := true, apart := false }
def FnExactTinctureAtSaid : Prop := fnExactTinctureAtRow.holds Try.pinned (OpenSpec.ofChange fnExactTinctureAtSpec)

/-- ITS FALSE NEIGHBOUR: 'it returns false'. Refute it at one input. -/
def fnExactTinctureAtWrong : ChangeSpec := { name := "fnExactTinctureAt", fn := fun _ => fun
  | [d1, d2, d3] => { results := [.lit (.bool false)], args := [d1, d2, d3] }
  | _ => none }
def FnExactTinctureAtWrongFalsely : Prop := fnExactTinctureAtRow.holds Try.pinned (OpenSpec.ofChange fnExactTinctureAtWrong)

/-- 'laws.FnExactPaintArms': WHATEVER THE INPUT: true; the input reads as it did. -/
def fnExactPaintArmsSpec : ChangeSpec := { name := "fnExactPaintArms", fn := fun _ => fun
  | [d] => { results := [.lit (.bool true)], args := [d] }
  | _ => none }
def fnExactPaintArmsRow : OpenClaim := { program := "ytaegdaimjhhgpaa", sum := "2872552a53ce523aeb1524f8bb6b3543b42a2006e61d561061b64becc132cbbb", func := "loop.example/g00884/laws.FnExactPaintArms", spec := "fnExactPaintArms", unfollowed := true, recurses := true, apart := false }
def FnExactPaintArmsSaid : Prop := fnExactPaintArmsRow.holds Try.pinned (OpenSpec.ofChange fnExactPaintArmsSpec)

/-- ITS FALSE NEIGHBOUR: 'it returns false'. Refute it at one input. -/
def fnExactPaintArmsWrong : ChangeSpec := { name := "fnExactPaintArms", fn := fun _ => fun
  | [d] => { results := [.lit (.bool false)], args := [d] }
  | _ => none }
def FnExactPaintArmsWrongFalsely : Prop := fnExactPaintArmsRow.holds Try.pinned (OpenSpec.ofChange fnExactPaintArmsWrong)

/-- 'laws.FnExactTinctureCells': WHATEVER THE INPUT: true; the input reads as it did. -/
def fnExactTinctureCellsSpec : ChangeSpec := { name := "fnExactTinctureCells", fn := fun _ => fun
  | [d] => { results := [.lit (.bool true)], args := [d] }
  | _ => none }
def fnExactTinctureCellsRow : OpenClaim := { program := "ytaegdaimjhhgpaa", sum := "2872552a53ce523aeb1524f8bb6b3543b42a2006e61d561061b64becc132cbbb", func := "loop.example/g00884/laws.FnExactTinctureCells", spec := "fnExactTinctureCells", unfollowed := true, recurses := true, apart := false }
def FnExactTinctureCellsSaid : Prop := fnExactTinctureCellsRow.holds Try.pinned (OpenSpec.ofChange fnExactTinctureCellsSpec)

/-- ITS FALSE NEIGHBOUR: 'it returns false'. Refute it at one input. -/
def fnExactTinctureCellsWrong : ChangeSpec := { name := "fnExactTinctureCells", fn := fun _ => fun
  | [d] => { results := [.lit (.bool false)], args := [d] }
  | _ => none }
def FnExactTinctureCellsWrongFalsely : Prop := fnExactTinctureCellsRow.holds Try.pinned (OpenSpec.ofChange fnExactTinctureCellsWrong)

/-- 'laws.FnExactDrawingDifference': WHATEVER THE INPUT: true; the input reads as it did. -/
def fnExactDrawingDifferenceSpec : ChangeSpec := { name := "fnExactDrawingDifference", fn := fun _ => fun
  | [d1, d2] => { results := [.lit (.bool true)], args := [d1, d2] }
  | _ => none }
def fnExactDrawingDifferenceRow : OpenClaim := { program := "ytaegdaimjhhgpaa", sum := "2872552a53ce523aeb1524f8bb6b3543b42a2006e61d561061b64becc132cbbb", func := "loop.example/g00884/laws.FnExactDrawingDifference", spec := "fnExactDrawingDifference", unfollowed := true, recurses := true, apart := false }
def FnExactDrawingDifferenceSaid : Prop := fnExactDrawingDifferenceRow.holds Try.pinned (OpenSpec.ofChange fnExactDrawingDifferenceSpec)

/-- ITS FALSE NEIGHBOUR: 'it returns false'. Refute it at one input. -/
def fnExactDrawingDifferenceWrong : ChangeSpec := { name := "fnExactDrawingDifference", fn := fun _ => fun
  | [d1, d2] => { results := [.lit (.bool false)], args := [d1, d2] }
  | _ => none }
def FnExactDrawingDifferenceWrongFalsely : Prop := fnExactDrawingDifferenceRow.holds Try.pinned (OpenSpec.ofChange fnExactDrawingDifferenceWrong)

/- THE SECOND FORM. 'bulk': how many values and letters a reading holds, each counted each time it is reached (what is shared counts as often as it is met; a slice's spare places count too). A statement '..UptoSaid' is the law's where the arguments, and the package variables that the reading takes, are together of bulk at most 1048576: NARROWER than '..Said'. Prove '..Said' where nothing that the law and all that it calls make is longer than what came in: it says more and counts as full. Else prove '..UptoSaid'. A law counts once. -/
mutual
def uptoBulk {H : Type} : DataW H → Nat
  | .lit (.string bytes) => bytes.length + 1
  | .lit _ => 1
  | .nil => 1
  | .ptr d => uptoBulk d + 1
  | .slice elems spare => uptoBulkAll elems + uptoBulkAll spare + 1
  | .agg parts => uptoBulkAll parts + 1
  | .iface _ d => uptoBulk d + 1
  | .map entries => uptoBulkEntries entries + 1
  | .held _ => 1
def uptoBulkAll {H : Type} : List (DataW H) → Nat
  | [] => 0
  | d :: r => uptoBulk d + uptoBulkAll r
def uptoBulkEntries {H : Type} : List (Lit × DataW H) → Nat
  | [] => 0
  | x :: r => uptoBulkEntry x + uptoBulkEntries r
def uptoBulkEntry {H : Type} : Lit × DataW H → Nat
  | (.string bytes, d) => bytes.length + uptoBulk d + 1
  | (_, d) => uptoBulk d + 1
 end
def uptoSmall : (H : Type) → List (DataW H) → Bool := fun _ ds => decide (uptoBulkAll ds ≤ 1048576)
def OpenSpec.upto (s : _root_.Go.ChangeSpec) : _root_.Go.OpenSpec := { _root_.Go.OpenSpec.ofChange s with cond := some uptoSmall }

/-- 'laws.FnExactFieldPicture', WHERE WHAT IT READS IS OF BULK AT MOST 1048576: true; the input reads as it did. -/
def fnExactFieldPictureUptoRow : OpenClaim := { program := "ytaegdaimjhhgpaa", sum := "2872552a53ce523aeb1524f8bb6b3543b42a2006e61d561061b64becc132cbbb", func := "loop.example/g00884/laws.FnExactFieldPicture", spec := "fnExactFieldPicture", unfollowed := true, recurses := true, apart := false, narrowed := true }
def FnExactFieldPictureUptoSaid : Prop := fnExactFieldPictureUptoRow.holds Try.pinned (OpenSpec.upto fnExactFieldPictureSpec)

/-- 'laws.FnExactCounterCells', WHERE WHAT IT READS IS OF BULK AT MOST 1048576: true; the input reads as it did. -/
def fnExactCounterCellsUptoRow : OpenClaim := { program := "ytaegdaimjhhgpaa", sum := "2872552a53ce523aeb1524f8bb6b3543b42a2006e61d561061b64becc132cbbb", func := "loop.example/g00884/laws.FnExactCounterCells", spec := "fnExactCounterCells", unfollowed := true, recurses := true, apart := false, narrowed := true }
def FnExactCounterCellsUptoSaid : Prop := fnExactCounterCellsUptoRow.holds Try.pinned (OpenSpec.upto fnExactCounterCellsSpec)

/-- 'laws.FnExactCounteredRegion', WHERE WHAT IT READS IS OF BULK AT MOST 1048576: true; the input reads as it did. -/
def fnExactCounteredRegionUptoRow : OpenClaim := { program := "ytaegdaimjhhgpaa", sum := "2872552a53ce523aeb1524f8bb6b3543b42a2006e61d561061b64becc132cbbb", func := "loop.example/g00884/laws.FnExactCounteredRegion", spec := "fnExactCounteredRegion", unfollowed := true, recurses := true, apart := false, narrowed := true }
def FnExactCounteredRegionUptoSaid : Prop := fnExactCounteredRegionUptoRow.holds Try.pinned (OpenSpec.upto fnExactCounteredRegionSpec)

/-- 'laws.FnExactCounterPicture', WHERE WHAT IT READS IS OF BULK AT MOST 1048576: true; the input reads as it did. -/
def fnExactCounterPictureUptoRow : OpenClaim := { program := "ytaegdaimjhhgpaa", sum := "2872552a53ce523aeb1524f8bb6b3543b42a2006e61d561061b64becc132cbbb", func := "loop.example/g00884/laws.FnExactCounterPicture", spec := "fnExactCounterPicture", unfollowed := true, recurses := true, apart := false, narrowed := true }
def FnExactCounterPictureUptoSaid : Prop := fnExactCounterPictureUptoRow.holds Try.pinned (OpenSpec.upto fnExactCounterPictureSpec)

/-- 'laws.FnExactCounterTwice', WHERE WHAT IT READS IS OF BULK AT MOST 1048576: true; the input reads as it did. -/
def fnExactCounterTwiceUptoRow : OpenClaim := { program := "ytaegdaimjhhgpaa", sum := "2872552a53ce523aeb1524f8bb6b3543b42a2006e61d561061b64becc132cbbb", func := "loop.example/g00884/laws.FnExactCounterTwice", spec := "fnExactCounterTwice", unfollowed := true, recurses := true, apart := false, narrowed := true }
def FnExactCounterTwiceUptoSaid : Prop := fnExactCounterTwiceUptoRow.holds Try.pinned (OpenSpec.upto fnExactCounterTwiceSpec)

/-- 'laws.FnExactPlaceCharges', WHERE WHAT IT READS IS OF BULK AT MOST 1048576: true; the input reads as it did. -/
def fnExactPlaceChargesUptoRow : OpenClaim := { program := "ytaegdaimjhhgpaa", sum := "2872552a53ce523aeb1524f8bb6b3543b42a2006e61d561061b64becc132cbbb", func := "loop.example/g00884/laws.FnExactPlaceCharges", spec := "fnExactPlaceCharges", unfollowed := true, recurses := true, apart := false, narrowed := true }
def FnExactPlaceChargesUptoSaid : Prop := fnExactPlaceChargesUptoRow.holds Try.pinned (OpenSpec.upto fnExactPlaceChargesSpec)

/-- 'laws.FnExactCounterOrdinary', WHERE WHAT IT READS IS OF BULK AT MOST 1048576: true; the input reads as it did. -/
def fnExactCounterOrdinaryUptoRow : OpenClaim := { program := "ytaegdaimjhhgpaa", sum := "2872552a53ce523aeb1524f8bb6b3543b42a2006e61d561061b64becc132cbbb", func := "loop.example/g00884/laws.FnExactCounterOrdinary", spec := "fnExactCounterOrdinary", unfollowed := true, recurses := true, apart := false, narrowed := true }
def FnExactCounterOrdinaryUptoSaid : Prop := fnExactCounterOrdinaryUptoRow.holds Try.pinned (OpenSpec.upto fnExactCounterOrdinarySpec)

/-- 'laws.FnExactLayerCells', WHERE WHAT IT READS IS OF BULK AT MOST 1048576: true; the input reads as it did. -/
def fnExactLayerCellsUptoRow : OpenClaim := { program := "ytaegdaimjhhgpaa", sum := "2872552a53ce523aeb1524f8bb6b3543b42a2006e61d561061b64becc132cbbb", func := "loop.example/g00884/laws.FnExactLayerCells", spec := "fnExactLayerCells", unfollowed := true, recurses := true, apart := false, narrowed := true }
def FnExactLayerCellsUptoSaid : Prop := fnExactLayerCellsUptoRow.holds Try.pinned (OpenSpec.upto fnExactLayerCellsSpec)

/-- 'laws.FnExactTinctureAt', WHERE WHAT IT READS IS OF BULK AT MOST 1048576: true; the input reads as it did. -/
def fnExactTinctureAtUptoRow : OpenClaim := { program := "ytaegdaimjhhgpaa", sum := "2872552a53ce523aeb1524f8bb6b3543b42a2006e61d561061b64becc132cbbb", func := "loop.example/g00884/laws.FnExactTinctureAt", spec := "fnExactTinctureAt", unfollowed := true, recurses := true, apart := false, narrowed := true }
def FnExactTinctureAtUptoSaid : Prop := fnExactTinctureAtUptoRow.holds Try.pinned (OpenSpec.upto fnExactTinctureAtSpec)

/-- 'laws.FnExactPaintArms', WHERE WHAT IT READS IS OF BULK AT MOST 1048576: true; the input reads as it did. -/
def fnExactPaintArmsUptoRow : OpenClaim := { program := "ytaegdaimjhhgpaa", sum := "2872552a53ce523aeb1524f8bb6b3543b42a2006e61d561061b64becc132cbbb", func := "loop.example/g00884/laws.FnExactPaintArms", spec := "fnExactPaintArms", unfollowed := true, recurses := true, apart := false, narrowed := true }
def FnExactPaintArmsUptoSaid : Prop := fnExactPaintArmsUptoRow.holds Try.pinned (OpenSpec.upto fnExactPaintArmsSpec)

/-- 'laws.FnExactTinctureCells', WHERE WHAT IT READS IS OF BULK AT MOST 1048576: true; the input reads as it did. -/
def fnExactTinctureCellsUptoRow : OpenClaim := { program := "ytaegdaimjhhgpaa", sum := "2872552a53ce523aeb1524f8bb6b3543b42a2006e61d561061b64becc132cbbb", func := "loop.example/g00884/laws.FnExactTinctureCells", spec := "fnExactTinctureCells", unfollowed := true, recurses := true, apart := false, narrowed := true }
def FnExactTinctureCellsUptoSaid : Prop := fnExactTinctureCellsUptoRow.holds Try.pinned (OpenSpec.upto fnExactTinctureCellsSpec)

/-- 'laws.FnExactDrawingDifference', WHERE WHAT IT READS IS OF BULK AT MOST 1048576: true; the input reads as it did. -/
def fnExactDrawingDifferenceUptoRow : OpenClaim := { program := "ytaegdaimjhhgpaa", sum := "2872552a53ce523aeb1524f8bb6b3543b42a2006e61d561061b64becc132cbbb", func := "loop.example/g00884/laws.FnExactDrawingDifference", spec := "fnExactDrawingDifference", unfollowed := true, recurses := true, apart := false, narrowed := true }
def FnExactDrawingDifferenceUptoSaid : Prop := fnExactDrawingDifferenceUptoRow.holds Try.pinned (OpenSpec.upto fnExactDrawingDifferenceSpec)

end Rows
end Go.Proofs.Ytaegdaimjhhgpaa
