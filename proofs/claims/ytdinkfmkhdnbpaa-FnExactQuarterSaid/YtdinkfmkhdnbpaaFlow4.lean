/- Code, seen through the view. -/
import Derived.Test.YtdinkfmkhdnbpaaFlow3
import Derived.WalkKit
import Derived.WalkSpells
namespace Go.Proofs.Ytdinkfmkhdnbpaa
open Go.RowKit
set_option linter.unusedVariables false
set_option linter.unusedSimpArgs false

/-- Code, seen through the view: from whatever frame that fits σ it comes to an exit and a frame that fits a view that Q lets. -/
def AW (P : Program) (c : Code) (Q : Exit → St → Prop) (σ : St) : Prop :=
  ∀ w0 ν a w, Sim P w0 σ ν a w → c.wp P (fun e a' w' => ∃ σ' ν', Q e σ' ∧ Sim P w0 σ' ν' a' w') a w

end Go.Proofs.Ytdinkfmkhdnbpaa
