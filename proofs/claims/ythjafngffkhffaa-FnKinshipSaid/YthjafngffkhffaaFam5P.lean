/- In which orders the reference's insertion may be drawn. -/
import Derived.Test.YthjafngffkhffaaFacts
import Derived.WalkKit
import Derived.WalkSpells
import Derived.KernelRfl
namespace Go.Proofs.Ythjafngffkhffaa
open Go.RowKit
set_option linter.unusedVariables false
set_option linter.unusedSimpArgs false

set_option maxRecDepth 100000 in
theorem pl_Fam5P_61_8 (l : List Oper) (h : l = opsOf Try.f61 8) : planB l (.pure 0 (.pure 1 (.pure 2 (.pure 3 (.pure 4 (.pure 5 (.pure 6 (.pure 7 (.pure 8 (.pure 9 (.pure 10 (.pure 11 PT.fin)))))))))))) [] = true := by
  subst h
  kernel_rfl

set_option maxRecDepth 100000 in
theorem pl_Fam5P_61_10U (l : List Oper) (h : l = opsOf Try.f61 10) : planUB l (.still 1 (.still 2 (.still 3 (.still 9 (.still 10 (.still 11 (.calc 5 (.two true 0 (.two false 4 (.one true 6 (.one true 7 (.one false 8 (.one false 12 (.still 13 PU.fin))))) true 6 (.two false 4 (.one true 7 (.one false 8 (.one false 12 (.still 13 PU.fin)))) true 7 (.one false 4 (.one false 8 (.one false 12 (.still 13 PU.fin)))))) true 6 (.two true 0 (.two false 4 (.one true 7 (.one false 8 (.one false 12 (.still 13 PU.fin)))) true 7 (.one false 4 (.one false 8 (.one false 12 (.still 13 PU.fin))))) true 7 (.one true 0 (.one false 4 (.one false 8 (.one false 12 (.still 13 PU.fin)))))))))))))) [4, 8, 12] = true := by
  subst h
  kernel_rfl

set_option maxRecDepth 100000 in
theorem pl_Fam5P_61_11U (l : List Oper) (h : l = opsOf Try.f61 11) : planUB l (.still 1 (.still 2 (.still 3 (.still 9 (.still 10 (.still 11 (.calc 5 (.two true 0 (.two false 4 (.one true 6 (.one true 7 (.one false 8 (.one false 12 (.still 13 PU.fin))))) true 6 (.two false 4 (.one true 7 (.one false 8 (.one false 12 (.still 13 PU.fin)))) true 7 (.one false 4 (.one false 8 (.one false 12 (.still 13 PU.fin)))))) true 6 (.two true 0 (.two false 4 (.one true 7 (.one false 8 (.one false 12 (.still 13 PU.fin)))) true 7 (.one false 4 (.one false 8 (.one false 12 (.still 13 PU.fin))))) true 7 (.one true 0 (.one false 4 (.one false 8 (.one false 12 (.still 13 PU.fin)))))))))))))) [4, 8, 12] = true := by
  subst h
  kernel_rfl



end Go.Proofs.Ythjafngffkhffaa
