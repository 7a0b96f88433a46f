/- Runs of the law RulesLimits. -/
import Derived.Test.YtpkncocckgbheaaRulesLimitsTab
namespace Go.Proofs.Ytpkncocckgbheaa.rulesLimitsRun
open Go.Vm Go.RowKit
set_option linter.unusedVariables false
set_option linter.unusedSimpArgs false
set_option maxRecDepth 1000000
theorem rt0_0 : run 0 0 0  = true := by kernel_rfl
theorem rt0_4 : run 0 4 0  = true := by kernel_rfl
theorem rt1_2 : run 1 2 0  = true := by kernel_rfl
theorem rt2_0 : run 2 0 0  = true := by kernel_rfl
theorem rt2_4 : run 2 4 0  = true := by kernel_rfl
theorem rt3_2 : run 3 2 0  = true := by kernel_rfl
end Go.Proofs.Ytpkncocckgbheaa.rulesLimitsRun
