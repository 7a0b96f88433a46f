/- The runs of the law EventErrors, together. -/
import Derived.Test.YtmbimlnanfholabEventErrorsRun0
namespace Go.Proofs.Ytmbimlnanfholab.eventErrorsRun
open Go.Vm Go.RowKit
set_option linter.unusedVariables false
set_option linter.unusedSimpArgs false
set_option maxRecDepth 1000000
theorem runs : run 0 = true :=
  rt
end Go.Proofs.Ytmbimlnanfholab.eventErrorsRun
