/- The runs of the law ReplayForms, together. -/
import Derived.Test.YtopakhkjaepgeaaGreatReplayFormsRun0
import Derived.Test.YtopakhkjaepgeaaGreatReplayFormsRun1
import Derived.Test.YtopakhkjaepgeaaGreatReplayFormsRun2
namespace Go.Proofs.YtopakhkjaepgeaaGreat.replayFormsRun
open Go.Vm Go.RowKit
set_option linter.unusedVariables false
set_option linter.unusedSimpArgs false
set_option maxRecDepth 1000000
theorem runs (k0 : Nat) (h0 : k0 < 9) : run k0 0 = true :=
  (match k0, h0 with
  | 0, _ => rt0
  | 1, _ => rt1
  | 2, _ => rt2
  | 3, _ => rt3
  | 4, _ => rt4
  | 5, _ => rt5
  | 6, _ => rt6
  | 7, _ => rt7
  | 8, _ => rt8
  | n + 9, h => absurd h (by omega))
end Go.Proofs.YtopakhkjaepgeaaGreat.replayFormsRun
