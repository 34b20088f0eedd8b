/- Texts as lists of bytes. -/
import Derived.Test.YteimddagjikcaaaRecs
import Derived.WalkKit
import Derived.WalkSpells
namespace Go.Proofs.Yteimddagjikcaaa
open Go.RowKit
set_option linter.unusedVariables false
set_option linter.unusedSimpArgs false

theorem ba_list (a : ByteArray) : (⟨a.data.toList.toArray⟩ : ByteArray) = a := by
  cases a
  simp

theorem ba_app (a b : ByteArray) : (a ++ b).data.toList = a.data.toList ++ b.data.toList := by
  simp [ByteArray.data_append]

end Go.Proofs.Yteimddagjikcaaa
