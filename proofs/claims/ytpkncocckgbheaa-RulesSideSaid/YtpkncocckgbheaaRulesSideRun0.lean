/- Runs of the law RulesSide. -/
import Derived.Test.YtpkncocckgbheaaRulesSideTab
namespace Go.Proofs.Ytpkncocckgbheaa.rulesSideRun
open Go.Vm Go.RowKit
set_option linter.unusedVariables false
set_option linter.unusedSimpArgs false
set_option maxRecDepth 1000000
theorem rt : run 0  = true := by kernel_rfl
end Go.Proofs.Ytpkncocckgbheaa.rulesSideRun
