/- Runs of the law RulesLimits. -/
import Derived.Test.YtpkncocckgbheaaRulesLimitsTab
namespace Go.Proofs.Ytpkncocckgbheaa.rulesLimitsRun
open Go.Vm Go.RowKit
set_option linter.unusedVariables false
set_option linter.unusedSimpArgs false
set_option maxRecDepth 1000000
theorem rt0_2 : run 0 2 0  = true := by kernel_rfl
theorem rt1_0 : run 1 0 0  = true := by kernel_rfl
theorem rt1_4 : run 1 4 0  = true := by kernel_rfl
theorem rt2_2 : run 2 2 0  = true := by kernel_rfl
theorem rt3_0 : run 3 0 0  = true := by kernel_rfl
theorem rt3_4 : run 3 4 0  = true := by kernel_rfl
end Go.Proofs.Ytpkncocckgbheaa.rulesLimitsRun
