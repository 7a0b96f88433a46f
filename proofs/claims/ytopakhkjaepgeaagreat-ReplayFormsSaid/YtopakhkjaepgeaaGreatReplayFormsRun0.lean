/- Runs of the law ReplayForms. -/
import Derived.Test.YtopakhkjaepgeaaGreatReplayFormsTab
namespace Go.Proofs.YtopakhkjaepgeaaGreat.replayFormsRun
open Go.Vm Go.RowKit
set_option linter.unusedVariables false
set_option linter.unusedSimpArgs false
set_option maxRecDepth 1000000
theorem rt0 : run 0 0  = true := by kernel_rfl
theorem rt3 : run 3 0  = true := by kernel_rfl
theorem rt6 : run 6 0  = true := by kernel_rfl
end Go.Proofs.YtopakhkjaepgeaaGreat.replayFormsRun
