/-
  No cell of these rows narrows 'for every input' (looked for: loops, veiled, ifaces, maps, wideKeys, modest, calm, conditions, laid).
  DERIVED. THE GIVEN ROWS OF THIS SEAT. 8 by the template 'for every input the law returns true; each argument reads behind the call as it read before'; 0 by the template 'total and deterministic' (their statements: YteimddagjikcaaaTotals.lean).
  GIVEN WITH THE SEED: the statements are not yours to turn. If you find one false, say at which input.
  Laid BY PROGRAM, IN A SANDBOX (cutbox-rows.mjs): the forced cells as the released guide's own fill.sh prints them over the translation 9ea9f2f777dcb426… (all of the seat's roots in one cut). By AI agents, Wed Nov 11 2026. No macro, syntax, notation, axiom, sorry.
-/
import Derived.Test.YteimddagjikcaaaChecked
import GoSem.Claim
import GoSem.ClaimJoined
import GoSem.ClaimMapViews
import Derived.JoinedTies
import Derived.KernelRfl
namespace Go.Proofs.Yteimddagjikcaaa
/- THE CELL 'sum', in the pinned program and in every row, IS THE sha256 OF THE DUMP (.gsa) THAT YteimddagjikcaaaProg.lean LOADS. Nothing in Lean hashes anything: it is a label: what it is worth is what the hold of that sum in a sandbox is worth. -/
noncomputable def Try.pinned : Pinned := { name := "yteimddagjikcaaa", sum := "9ea9f2f777dcb426a3ae3f4dc9128681a9ceef82fb869a5552da8e0b90639729", checked := Try.checked }
namespace Rows
def none {H : Type} : Left H := { results := [], args := [] }

/-- 'laws.FnExactFieldText': WHATEVER THE INPUT: true; the input reads as it did. -/
def fnExactFieldTextSpec : ChangeSpec := { name := "fnExactFieldText", fn := fun _ => fun
  | [d] => { results := [.lit (.bool true)], args := [d] }
  | _ => none }
def fnExactFieldTextRow : OpenClaim := { program := "yteimddagjikcaaa", sum := "9ea9f2f777dcb426a3ae3f4dc9128681a9ceef82fb869a5552da8e0b90639729", func := "loop.example/g00884/laws.FnExactFieldText", spec := "fnExactFieldText", apart := false }
def FnExactFieldTextSaid : Prop := fnExactFieldTextRow.holds Try.pinned (OpenSpec.ofChange fnExactFieldTextSpec)

/-- ITS FALSE NEIGHBOUR: 'it returns false'. Refute it at one input. -/
def fnExactFieldTextWrong : ChangeSpec := { name := "fnExactFieldText", fn := fun _ => fun
  | [d] => { results := [.lit (.bool false)], args := [d] }
  | _ => none }
def FnExactFieldTextWrongFalsely : Prop := fnExactFieldTextRow.holds Try.pinned (OpenSpec.ofChange fnExactFieldTextWrong)

/-- 'laws.FnExactGroupText': WHATEVER THE INPUT: true; the input reads as it did. -/
def fnExactGroupTextSpec : ChangeSpec := { name := "fnExactGroupText", fn := fun _ => fun
  | [d] => { results := [.lit (.bool true)], args := [d] }
  | _ => none }
def fnExactGroupTextRow : OpenClaim := { program := "yteimddagjikcaaa", sum := "9ea9f2f777dcb426a3ae3f4dc9128681a9ceef82fb869a5552da8e0b90639729", func := "loop.example/g00884/laws.FnExactGroupText", spec := "fnExactGroupText", apart := false }
def FnExactGroupTextSaid : Prop := fnExactGroupTextRow.holds Try.pinned (OpenSpec.ofChange fnExactGroupTextSpec)

/-- ITS FALSE NEIGHBOUR: 'it returns false'. Refute it at one input. -/
def fnExactGroupTextWrong : ChangeSpec := { name := "fnExactGroupText", fn := fun _ => fun
  | [d] => { results := [.lit (.bool false)], args := [d] }
  | _ => none }
def FnExactGroupTextWrongFalsely : Prop := fnExactGroupTextRow.holds Try.pinned (OpenSpec.ofChange fnExactGroupTextWrong)

/-- 'laws.FnExactParseField': WHATEVER THE INPUT: true; the input reads as it did. -/
def fnExactParseFieldSpec : ChangeSpec := { name := "fnExactParseField", fn := fun _ => fun
  | [d] => { results := [.lit (.bool true)], args := [d] }
  | _ => none }
def fnExactParseFieldRow : OpenClaim := { program := "yteimddagjikcaaa", sum := "9ea9f2f777dcb426a3ae3f4dc9128681a9ceef82fb869a5552da8e0b90639729", func := "loop.example/g00884/laws.FnExactParseField", spec := "fnExactParseField", inPlace := ["internal/bytealg.IndexByteString", "internal/bytealg.IndexString"], named := ["internal/bytealg.MaxLen"], apart := false }
def FnExactParseFieldSaid : Prop := fnExactParseFieldRow.holds Try.pinned (OpenSpec.ofChange fnExactParseFieldSpec)

/-- ITS FALSE NEIGHBOUR: 'it returns false'. Refute it at one input. -/
def fnExactParseFieldWrong : ChangeSpec := { name := "fnExactParseField", fn := fun _ => fun
  | [d] => { results := [.lit (.bool false)], args := [d] }
  | _ => none }
def FnExactParseFieldWrongFalsely : Prop := fnExactParseFieldRow.holds Try.pinned (OpenSpec.ofChange fnExactParseFieldWrong)

/-- 'laws.FnExactArmsBefore': WHATEVER THE INPUT: true; the input reads as it did. -/
def fnExactArmsBeforeSpec : ChangeSpec := { name := "fnExactArmsBefore", fn := fun _ => fun
  | [d1, d2] => { results := [.lit (.bool true)], args := [d1, d2] }
  | _ => none }
def fnExactArmsBeforeRow : OpenClaim := { program := "yteimddagjikcaaa", sum := "9ea9f2f777dcb426a3ae3f4dc9128681a9ceef82fb869a5552da8e0b90639729", func := "loop.example/g00884/laws.FnExactArmsBefore", spec := "fnExactArmsBefore", apart := false }
def FnExactArmsBeforeSaid : Prop := fnExactArmsBeforeRow.holds Try.pinned (OpenSpec.ofChange fnExactArmsBeforeSpec)

/-- ITS FALSE NEIGHBOUR: 'it returns false'. Refute it at one input. -/
def fnExactArmsBeforeWrong : ChangeSpec := { name := "fnExactArmsBefore", fn := fun _ => fun
  | [d1, d2] => { results := [.lit (.bool false)], args := [d1, d2] }
  | _ => none }
def FnExactArmsBeforeWrongFalsely : Prop := fnExactArmsBeforeRow.holds Try.pinned (OpenSpec.ofChange fnExactArmsBeforeWrong)

/-- 'laws.FnExactArmsText': WHATEVER THE INPUT: true; the input reads as it did. -/
def fnExactArmsTextSpec : ChangeSpec := { name := "fnExactArmsText", fn := fun _ => fun
  | [d] => { results := [.lit (.bool true)], args := [d] }
  | _ => none }
def fnExactArmsTextRow : OpenClaim := { program := "yteimddagjikcaaa", sum := "9ea9f2f777dcb426a3ae3f4dc9128681a9ceef82fb869a5552da8e0b90639729", func := "loop.example/g00884/laws.FnExactArmsText", spec := "fnExactArmsText", apart := false }
def FnExactArmsTextSaid : Prop := fnExactArmsTextRow.holds Try.pinned (OpenSpec.ofChange fnExactArmsTextSpec)

/-- ITS FALSE NEIGHBOUR: 'it returns false'. Refute it at one input. -/
def fnExactArmsTextWrong : ChangeSpec := { name := "fnExactArmsText", fn := fun _ => fun
  | [d] => { results := [.lit (.bool false)], args := [d] }
  | _ => none }
def FnExactArmsTextWrongFalsely : Prop := fnExactArmsTextRow.holds Try.pinned (OpenSpec.ofChange fnExactArmsTextWrong)

/-- 'laws.FnExactLayerTexts': WHATEVER THE INPUT: true; the input reads as it did. -/
def fnExactLayerTextsSpec : ChangeSpec := { name := "fnExactLayerTexts", fn := fun _ => fun
  | [d] => { results := [.lit (.bool true)], args := [d] }
  | _ => none }
def fnExactLayerTextsRow : OpenClaim := { program := "yteimddagjikcaaa", sum := "9ea9f2f777dcb426a3ae3f4dc9128681a9ceef82fb869a5552da8e0b90639729", func := "loop.example/g00884/laws.FnExactLayerTexts", spec := "fnExactLayerTexts", unfollowed := true, recurses := true, apart := false }
def FnExactLayerTextsSaid : Prop := fnExactLayerTextsRow.holds Try.pinned (OpenSpec.ofChange fnExactLayerTextsSpec)

/-- ITS FALSE NEIGHBOUR: 'it returns false'. Refute it at one input. -/
def fnExactLayerTextsWrong : ChangeSpec := { name := "fnExactLayerTexts", fn := fun _ => fun
  | [d] => { results := [.lit (.bool false)], args := [d] }
  | _ => none }
def FnExactLayerTextsWrongFalsely : Prop := fnExactLayerTextsRow.holds Try.pinned (OpenSpec.ofChange fnExactLayerTextsWrong)

/-- 'laws.FnExactWordCount': WHATEVER THE INPUT: true; the input reads as it did. -/
def fnExactWordCountSpec : ChangeSpec := { name := "fnExactWordCount", fn := fun _ => fun
  | [d] => { results := [.lit (.bool true)], args := [d] }
  | _ => none }
def fnExactWordCountRow : OpenClaim := { program := "yteimddagjikcaaa", sum := "9ea9f2f777dcb426a3ae3f4dc9128681a9ceef82fb869a5552da8e0b90639729", func := "loop.example/g00884/laws.FnExactWordCount", spec := "fnExactWordCount", inPlace := ["internal/bytealg.CountString", "internal/bytealg.IndexByteString", "internal/bytealg.IndexString"], named := ["internal/bytealg.MaxLen"], apart := false }
def FnExactWordCountSaid : Prop := fnExactWordCountRow.holds Try.pinned (OpenSpec.ofChange fnExactWordCountSpec)

/-- ITS FALSE NEIGHBOUR: 'it returns false'. Refute it at one input. -/
def fnExactWordCountWrong : ChangeSpec := { name := "fnExactWordCount", fn := fun _ => fun
  | [d] => { results := [.lit (.bool false)], args := [d] }
  | _ => none }
def FnExactWordCountWrongFalsely : Prop := fnExactWordCountRow.holds Try.pinned (OpenSpec.ofChange fnExactWordCountWrong)

/-- 'laws.FnExactSketchText': WHATEVER THE INPUT: true; the input reads as it did. -/
def fnExactSketchTextSpec : ChangeSpec := { name := "fnExactSketchText", fn := fun _ => fun
  | [d] => { results := [.lit (.bool true)], args := [d] }
  | _ => none }
def fnExactSketchTextRow : OpenClaim := { program := "yteimddagjikcaaa", sum := "9ea9f2f777dcb426a3ae3f4dc9128681a9ceef82fb869a5552da8e0b90639729", func := "loop.example/g00884/laws.FnExactSketchText", spec := "fnExactSketchText", unfollowed := true, recurses := true, apart := false }
def FnExactSketchTextSaid : Prop := fnExactSketchTextRow.holds Try.pinned (OpenSpec.ofChange fnExactSketchTextSpec)

/-- ITS FALSE NEIGHBOUR: 'it returns false'. Refute it at one input. -/
def fnExactSketchTextWrong : ChangeSpec := { name := "fnExactSketchText", fn := fun _ => fun
  | [d] => { results := [.lit (.bool false)], args := [d] }
  | _ => none }
def FnExactSketchTextWrongFalsely : Prop := fnExactSketchTextRow.holds Try.pinned (OpenSpec.ofChange fnExactSketchTextWrong)

/- THE SECOND FORM. 'bulk': how many values and letters a reading holds, each counted each time it is reached (what is shared counts as often as it is met; a slice's spare places count too). A statement '..UptoSaid' is the law's where the arguments, and the package variables that the reading takes, are together of bulk at most 1048576: NARROWER than '..Said'. Prove '..Said' where nothing that the law and all that it calls make is longer than what came in: it says more and counts as full. Else prove '..UptoSaid'. A law counts once. -/
mutual
def uptoBulk {H : Type} : DataW H → Nat
  | .lit (.string bytes) => bytes.length + 1
  | .lit _ => 1
  | .nil => 1
  | .ptr d => uptoBulk d + 1
  | .slice elems spare => uptoBulkAll elems + uptoBulkAll spare + 1
  | .agg parts => uptoBulkAll parts + 1
  | .iface _ d => uptoBulk d + 1
  | .map entries => uptoBulkEntries entries + 1
  | .held _ => 1
def uptoBulkAll {H : Type} : List (DataW H) → Nat
  | [] => 0
  | d :: r => uptoBulk d + uptoBulkAll r
def uptoBulkEntries {H : Type} : List (Lit × DataW H) → Nat
  | [] => 0
  | x :: r => uptoBulkEntry x + uptoBulkEntries r
def uptoBulkEntry {H : Type} : Lit × DataW H → Nat
  | (.string bytes, d) => bytes.length + uptoBulk d + 1
  | (_, d) => uptoBulk d + 1
 end
def uptoSmall : (H : Type) → List (DataW H) → Bool := fun _ ds => decide (uptoBulkAll ds ≤ 1048576)
def OpenSpec.upto (s : _root_.Go.ChangeSpec) : _root_.Go.OpenSpec := { _root_.Go.OpenSpec.ofChange s with cond := some uptoSmall }

/-- 'laws.FnExactFieldText', WHERE WHAT IT READS IS OF BULK AT MOST 1048576: true; the input reads as it did. -/
def fnExactFieldTextUptoRow : OpenClaim := { program := "yteimddagjikcaaa", sum := "9ea9f2f777dcb426a3ae3f4dc9128681a9ceef82fb869a5552da8e0b90639729", func := "loop.example/g00884/laws.FnExactFieldText", spec := "fnExactFieldText", apart := false, narrowed := true }
def FnExactFieldTextUptoSaid : Prop := fnExactFieldTextUptoRow.holds Try.pinned (OpenSpec.upto fnExactFieldTextSpec)

/-- 'laws.FnExactGroupText', WHERE WHAT IT READS IS OF BULK AT MOST 1048576: true; the input reads as it did. -/
def fnExactGroupTextUptoRow : OpenClaim := { program := "yteimddagjikcaaa", sum := "9ea9f2f777dcb426a3ae3f4dc9128681a9ceef82fb869a5552da8e0b90639729", func := "loop.example/g00884/laws.FnExactGroupText", spec := "fnExactGroupText", apart := false, narrowed := true }
def FnExactGroupTextUptoSaid : Prop := fnExactGroupTextUptoRow.holds Try.pinned (OpenSpec.upto fnExactGroupTextSpec)

/-- 'laws.FnExactParseField', WHERE WHAT IT READS IS OF BULK AT MOST 1048576: true; the input reads as it did. -/
def fnExactParseFieldUptoRow : OpenClaim := { program := "yteimddagjikcaaa", sum := "9ea9f2f777dcb426a3ae3f4dc9128681a9ceef82fb869a5552da8e0b90639729", func := "loop.example/g00884/laws.FnExactParseField", spec := "fnExactParseField", inPlace := ["internal/bytealg.IndexByteString", "internal/bytealg.IndexString"], named := ["internal/bytealg.MaxLen"], apart := false, narrowed := true }
def FnExactParseFieldUptoSaid : Prop := fnExactParseFieldUptoRow.holds Try.pinned (OpenSpec.upto fnExactParseFieldSpec)

/-- 'laws.FnExactArmsBefore', WHERE WHAT IT READS IS OF BULK AT MOST 1048576: true; the input reads as it did. -/
def fnExactArmsBeforeUptoRow : OpenClaim := { program := "yteimddagjikcaaa", sum := "9ea9f2f777dcb426a3ae3f4dc9128681a9ceef82fb869a5552da8e0b90639729", func := "loop.example/g00884/laws.FnExactArmsBefore", spec := "fnExactArmsBefore", apart := false, narrowed := true }
def FnExactArmsBeforeUptoSaid : Prop := fnExactArmsBeforeUptoRow.holds Try.pinned (OpenSpec.upto fnExactArmsBeforeSpec)

/-- 'laws.FnExactArmsText', WHERE WHAT IT READS IS OF BULK AT MOST 1048576: true; the input reads as it did. -/
def fnExactArmsTextUptoRow : OpenClaim := { program := "yteimddagjikcaaa", sum := "9ea9f2f777dcb426a3ae3f4dc9128681a9ceef82fb869a5552da8e0b90639729", func := "loop.example/g00884/laws.FnExactArmsText", spec := "fnExactArmsText", apart := false, narrowed := true }
def FnExactArmsTextUptoSaid : Prop := fnExactArmsTextUptoRow.holds Try.pinned (OpenSpec.upto fnExactArmsTextSpec)

/-- 'laws.FnExactLayerTexts', WHERE WHAT IT READS IS OF BULK AT MOST 1048576: true; the input reads as it did. -/
def fnExactLayerTextsUptoRow : OpenClaim := { program := "yteimddagjikcaaa", sum := "9ea9f2f777dcb426a3ae3f4dc9128681a9ceef82fb869a5552da8e0b90639729", func := "loop.example/g00884/laws.FnExactLayerTexts", spec := "fnExactLayerTexts", unfollowed := true, recurses := true, apart := false, narrowed := true }
def FnExactLayerTextsUptoSaid : Prop := fnExactLayerTextsUptoRow.holds Try.pinned (OpenSpec.upto fnExactLayerTextsSpec)

/-- 'laws.FnExactWordCount', WHERE WHAT IT READS IS OF BULK AT MOST 1048576: true; the input reads as it did. -/
def fnExactWordCountUptoRow : OpenClaim := { program := "yteimddagjikcaaa", sum := "9ea9f2f777dcb426a3ae3f4dc9128681a9ceef82fb869a5552da8e0b90639729", func := "loop.example/g00884/laws.FnExactWordCount", spec := "fnExactWordCount", inPlace := ["internal/bytealg.CountString", "internal/bytealg.IndexByteString", "internal/bytealg.IndexString"], named := ["internal/bytealg.MaxLen"], apart := false, narrowed := true }
def FnExactWordCountUptoSaid : Prop := fnExactWordCountUptoRow.holds Try.pinned (OpenSpec.upto fnExactWordCountSpec)

/-- 'laws.FnExactSketchText', WHERE WHAT IT READS IS OF BULK AT MOST 1048576: true; the input reads as it did. -/
def fnExactSketchTextUptoRow : OpenClaim := { program := "yteimddagjikcaaa", sum := "9ea9f2f777dcb426a3ae3f4dc9128681a9ceef82fb869a5552da8e0b90639729", func := "loop.example/g00884/laws.FnExactSketchText", spec := "fnExactSketchText", unfollowed := true, recurses := true, apart := false, narrowed := true }
def FnExactSketchTextUptoSaid : Prop := fnExactSketchTextUptoRow.holds Try.pinned (OpenSpec.upto fnExactSketchTextSpec)

end Rows
end Go.Proofs.Yteimddagjikcaaa
