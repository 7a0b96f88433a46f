/- Runs of the law ReplayForms. -/
import Derived.Test.YtopakhkjaepgeaaGreatReplayFormsTab
namespace Go.Proofs.YtopakhkjaepgeaaGreat.replayFormsRun
open Go.Vm Go.RowKit
set_option linter.unusedVariables false
set_option linter.unusedSimpArgs false
set_option maxRecDepth 1000000
theorem rt2 : run 2 0  = true := by kernel_rfl
theorem rt5 : run 5 0  = true := by kernel_rfl
theorem rt8 : run 8 0  = true := by kernel_rfl
end Go.Proofs.YtopakhkjaepgeaaGreat.replayFormsRun
