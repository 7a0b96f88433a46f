/- Runs of the law EndWaits. -/
import Derived.Test.YtkibmjcooffglaaGreatEndWaitsTab
namespace Go.Proofs.YtkibmjcooffglaaGreat.endWaitsRun
open Go.Vm Go.RowKit
set_option linter.unusedVariables false
set_option linter.unusedSimpArgs false
set_option maxRecDepth 1000000
theorem rt0 : run 0 0  = true := by kernel_rfl
theorem rt1 : run 1 0  = true := by kernel_rfl
theorem rt2 : run 2 0  = true := by kernel_rfl
theorem rt3 : run 3 0  = true := by kernel_rfl
end Go.Proofs.YtkibmjcooffglaaGreat.endWaitsRun
