/- Runs of the law EventErrors. -/
import Derived.Test.YtmbimlnanfholabEventErrorsTab
namespace Go.Proofs.Ytmbimlnanfholab.eventErrorsRun
open Go.Vm Go.RowKit
set_option linter.unusedVariables false
set_option linter.unusedSimpArgs false
set_option maxRecDepth 1000000
theorem rt : run 0  = true := by kernel_rfl
end Go.Proofs.Ytmbimlnanfholab.eventErrorsRun
