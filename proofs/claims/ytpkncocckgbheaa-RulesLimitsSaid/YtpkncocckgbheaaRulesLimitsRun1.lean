/- Runs of the law RulesLimits. -/
import Derived.Test.YtpkncocckgbheaaRulesLimitsTab
namespace Go.Proofs.Ytpkncocckgbheaa.rulesLimitsRun
open Go.Vm Go.RowKit
set_option linter.unusedVariables false
set_option linter.unusedSimpArgs false
set_option maxRecDepth 1000000
theorem rt0_1 : run 0 1 0  = true := by kernel_rfl
theorem rt0_5 : run 0 5 0  = true := by kernel_rfl
theorem rt1_3 : run 1 3 0  = true := by kernel_rfl
theorem rt2_1 : run 2 1 0  = true := by kernel_rfl
theorem rt2_5 : run 2 5 0  = true := by kernel_rfl
theorem rt3_3 : run 3 3 0  = true := by kernel_rfl
end Go.Proofs.Ytpkncocckgbheaa.rulesLimitsRun
