/- Runs of the law EndJoins. -/
import Derived.Test.YtkibmjcooffglaaGreatEndJoinsTab
namespace Go.Proofs.YtkibmjcooffglaaGreat.endJoinsRun
open Go.Vm Go.RowKit
set_option linter.unusedVariables false
set_option linter.unusedSimpArgs false
set_option maxRecDepth 1000000
theorem rt0_0 : run 0 0 0  = true := by kernel_rfl
theorem rt0_1 : run 0 1 0  = true := by kernel_rfl
theorem rt0_2 : run 0 2 0  = true := by kernel_rfl
theorem rt0_3 : run 0 3 0  = true := by kernel_rfl
theorem rt1_0 : run 1 0 0  = true := by kernel_rfl
theorem rt1_1 : run 1 1 0  = true := by kernel_rfl
theorem rt1_2 : run 1 2 0  = true := by kernel_rfl
theorem rt1_3 : run 1 3 0  = true := by kernel_rfl
theorem rt2_0 : run 2 0 0  = true := by kernel_rfl
theorem rt2_1 : run 2 1 0  = true := by kernel_rfl
theorem rt2_2 : run 2 2 0  = true := by kernel_rfl
theorem rt2_3 : run 2 3 0  = true := by kernel_rfl
theorem rt3_0 : run 3 0 0  = true := by kernel_rfl
theorem rt3_1 : run 3 1 0  = true := by kernel_rfl
theorem rt3_2 : run 3 2 0  = true := by kernel_rfl
theorem rt3_3 : run 3 3 0  = true := by kernel_rfl
theorem rt4_0 : run 4 0 0  = true := by kernel_rfl
theorem rt4_1 : run 4 1 0  = true := by kernel_rfl
theorem rt4_2 : run 4 2 0  = true := by kernel_rfl
theorem rt4_3 : run 4 3 0  = true := by kernel_rfl
theorem rt5_0 : run 5 0 0  = true := by kernel_rfl
theorem rt5_1 : run 5 1 0  = true := by kernel_rfl
theorem rt5_2 : run 5 2 0  = true := by kernel_rfl
theorem rt5_3 : run 5 3 0  = true := by kernel_rfl
theorem rt6_0 : run 6 0 0  = true := by kernel_rfl
theorem rt6_1 : run 6 1 0  = true := by kernel_rfl
theorem rt6_2 : run 6 2 0  = true := by kernel_rfl
theorem rt6_3 : run 6 3 0  = true := by kernel_rfl
theorem rt7_0 : run 7 0 0  = true := by kernel_rfl
theorem rt7_1 : run 7 1 0  = true := by kernel_rfl
theorem rt7_2 : run 7 2 0  = true := by kernel_rfl
theorem rt7_3 : run 7 3 0  = true := by kernel_rfl
theorem rt8_0 : run 8 0 0  = true := by kernel_rfl
theorem rt8_1 : run 8 1 0  = true := by kernel_rfl
theorem rt8_2 : run 8 2 0  = true := by kernel_rfl
theorem rt8_3 : run 8 3 0  = true := by kernel_rfl
end Go.Proofs.YtkibmjcooffglaaGreat.endJoinsRun
