/- Texts as lists of bytes. -/
import Derived.Test.YteimddagjikcaaaRecs
import Derived.WalkKit
import Derived.WalkSpells
namespace Go.Proofs.Yteimddagjikcaaa
open Go.RowKit
set_option linter.unusedVariables false
set_option linter.unusedSimpArgs false

theorem ba_list (a : ByteArray) : (⟨a.data.toList.toArray⟩ : ByteArray) = a := by
  cases a
  simp

end Go.Proofs.Yteimddagjikcaaa
