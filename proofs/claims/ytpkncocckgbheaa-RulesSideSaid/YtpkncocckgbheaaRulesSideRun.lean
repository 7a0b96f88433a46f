/- The runs of the law RulesSide, together. -/
import Derived.Test.YtpkncocckgbheaaRulesSideRun0
namespace Go.Proofs.Ytpkncocckgbheaa.rulesSideRun
open Go.Vm Go.RowKit
set_option linter.unusedVariables false
set_option linter.unusedSimpArgs false
set_option maxRecDepth 1000000
theorem runs : run 0 = true :=
  rt
end Go.Proofs.Ytpkncocckgbheaa.rulesSideRun
