/- Runs of the law ReplayForms. -/
import Derived.Test.YtopakhkjaepgeaaGreatReplayFormsTab
namespace Go.Proofs.YtopakhkjaepgeaaGreat.replayFormsRun
open Go.Vm Go.RowKit
set_option linter.unusedVariables false
set_option linter.unusedSimpArgs false
set_option maxRecDepth 1000000
theorem rt1 : run 1 0  = true := by kernel_rfl
theorem rt4 : run 4 0  = true := by kernel_rfl
theorem rt7 : run 7 0  = true := by kernel_rfl
end Go.Proofs.YtopakhkjaepgeaaGreat.replayFormsRun
