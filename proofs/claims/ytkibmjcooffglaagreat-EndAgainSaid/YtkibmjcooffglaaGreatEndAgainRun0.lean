/- Runs of the law EndAgain. -/
import Derived.Test.YtkibmjcooffglaaGreatEndAgainTab
namespace Go.Proofs.YtkibmjcooffglaaGreat.endAgainRun
open Go.Vm Go.RowKit
set_option linter.unusedVariables false
set_option linter.unusedSimpArgs false
set_option maxRecDepth 1000000
theorem rt0_true : run 0 true 0  = true := by kernel_rfl
theorem rt0_false : run 0 false 0  = true := by kernel_rfl
theorem rt1_true : run 1 true 0  = true := by kernel_rfl
theorem rt1_false : run 1 false 0  = true := by kernel_rfl
theorem rt2_true : run 2 true 0  = true := by kernel_rfl
theorem rt2_false : run 2 false 0  = true := by kernel_rfl
theorem rt3_true : run 3 true 0  = true := by kernel_rfl
theorem rt3_false : run 3 false 0  = true := by kernel_rfl
theorem rt4_true : run 4 true 0  = true := by kernel_rfl
theorem rt4_false : run 4 false 0  = true := by kernel_rfl
theorem rt5_true : run 5 true 0  = true := by kernel_rfl
theorem rt5_false : run 5 false 0  = true := by kernel_rfl
theorem rt6_true : run 6 true 0  = true := by kernel_rfl
theorem rt6_false : run 6 false 0  = true := by kernel_rfl
theorem rt7_true : run 7 true 0  = true := by kernel_rfl
theorem rt7_false : run 7 false 0  = true := by kernel_rfl
theorem rt8_true : run 8 true 0  = true := by kernel_rfl
theorem rt8_false : run 8 false 0  = true := by kernel_rfl
theorem rt9_true : run 9 true 0  = true := by kernel_rfl
theorem rt9_false : run 9 false 0  = true := by kernel_rfl
theorem rt10_true : run 10 true 0  = true := by kernel_rfl
theorem rt10_false : run 10 false 0  = true := by kernel_rfl
theorem rt11_true : run 11 true 0  = true := by kernel_rfl
theorem rt11_false : run 11 false 0  = true := by kernel_rfl
theorem rt12_true : run 12 true 0  = true := by kernel_rfl
theorem rt12_false : run 12 false 0  = true := by kernel_rfl
theorem rt13_true : run 13 true 0  = true := by kernel_rfl
theorem rt13_false : run 13 false 0  = true := by kernel_rfl
theorem rt14_true : run 14 true 0  = true := by kernel_rfl
theorem rt14_false : run 14 false 0  = true := by kernel_rfl
theorem rt15_true : run 15 true 0  = true := by kernel_rfl
theorem rt15_false : run 15 false 0  = true := by kernel_rfl
theorem rt16_true : run 16 true 0  = true := by kernel_rfl
theorem rt16_false : run 16 false 0  = true := by kernel_rfl
theorem rt17_true : run 17 true 0  = true := by kernel_rfl
theorem rt17_false : run 17 false 0  = true := by kernel_rfl
theorem rt18_true : run 18 true 0  = true := by kernel_rfl
theorem rt18_false : run 18 false 0  = true := by kernel_rfl
theorem rt19_true : run 19 true 0  = true := by kernel_rfl
theorem rt19_false : run 19 false 0  = true := by kernel_rfl
end Go.Proofs.YtkibmjcooffglaaGreat.endAgainRun
