/- Runs of the law RulesLimits. -/
import Derived.Test.YtpkncocckgbheaaRulesLimitsTab
namespace Go.Proofs.Ytpkncocckgbheaa.rulesLimitsRun
open Go.Vm Go.RowKit
set_option linter.unusedVariables false
set_option linter.unusedSimpArgs false
set_option maxRecDepth 1000000
theorem rt0_3 : run 0 3 0  = true := by kernel_rfl
theorem rt1_1 : run 1 1 0  = true := by kernel_rfl
theorem rt1_5 : run 1 5 0  = true := by kernel_rfl
theorem rt2_3 : run 2 3 0  = true := by kernel_rfl
theorem rt3_1 : run 3 1 0  = true := by kernel_rfl
theorem rt3_5 : run 3 5 0  = true := by kernel_rfl
end Go.Proofs.Ytpkncocckgbheaa.rulesLimitsRun
