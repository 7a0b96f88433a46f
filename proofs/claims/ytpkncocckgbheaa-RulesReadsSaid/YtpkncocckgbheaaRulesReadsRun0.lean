/- Runs of the law RulesReads. -/
import Derived.Test.YtpkncocckgbheaaRulesReadsTab
namespace Go.Proofs.Ytpkncocckgbheaa.rulesReadsRun
open Go.Vm Go.RowKit
set_option linter.unusedVariables false
set_option linter.unusedSimpArgs false
set_option maxRecDepth 1000000
theorem rt0 : run 0 0  = true := by kernel_rfl
end Go.Proofs.Ytpkncocckgbheaa.rulesReadsRun
