/- Runs of the law RulesEach. -/
import Derived.Test.YtpkncocckgbheaaRulesEachTab
namespace Go.Proofs.Ytpkncocckgbheaa.rulesEachRun
open Go.Vm Go.RowKit
set_option linter.unusedVariables false
set_option linter.unusedSimpArgs false
set_option maxRecDepth 1000000
theorem rt5 : run 5 0  = true := by kernel_rfl
end Go.Proofs.Ytpkncocckgbheaa.rulesEachRun
