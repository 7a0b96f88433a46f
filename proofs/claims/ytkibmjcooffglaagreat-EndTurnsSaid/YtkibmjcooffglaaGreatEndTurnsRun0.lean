/- Runs of the law EndTurns. -/
import Derived.Test.YtkibmjcooffglaaGreatEndTurnsTab
namespace Go.Proofs.YtkibmjcooffglaaGreat.endTurnsRun
open Go.Vm Go.RowKit
set_option linter.unusedVariables false
set_option linter.unusedSimpArgs false
set_option maxRecDepth 1000000
theorem rttrue : run true 0  = true := by kernel_rfl
theorem rtfalse : run false 0  = true := by kernel_rfl
end Go.Proofs.YtkibmjcooffglaaGreat.endTurnsRun
