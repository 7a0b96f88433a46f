/- Runs of the law EndSide. -/
import Derived.Test.YtkibmjcooffglaaGreatEndSideTab
namespace Go.Proofs.YtkibmjcooffglaaGreat.endSideRun
open Go.Vm Go.RowKit
set_option linter.unusedVariables false
set_option linter.unusedSimpArgs false
set_option maxRecDepth 1000000
theorem rt0 : run 0 0  = true := by kernel_rfl
theorem rt1 : run 1 0  = true := by kernel_rfl
theorem rt2 : run 2 0  = true := by kernel_rfl
theorem rt3 : run 3 0  = true := by kernel_rfl
theorem rt4 : run 4 0  = true := by kernel_rfl
theorem rt5 : run 5 0  = true := by kernel_rfl
theorem rt6 : run 6 0  = true := by kernel_rfl
theorem rt7 : run 7 0  = true := by kernel_rfl
theorem rt8 : run 8 0  = true := by kernel_rfl
end Go.Proofs.YtkibmjcooffglaaGreat.endSideRun
