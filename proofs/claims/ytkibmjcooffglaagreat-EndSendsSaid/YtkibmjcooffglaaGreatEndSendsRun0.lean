/- Runs of the law EndSends. -/
import Derived.Test.YtkibmjcooffglaaGreatEndSendsTab
namespace Go.Proofs.YtkibmjcooffglaaGreat.endSendsRun
open Go.Vm Go.RowKit
set_option linter.unusedVariables false
set_option linter.unusedSimpArgs false
set_option maxRecDepth 1000000
theorem rt0 : run 0 0  = true := by kernel_rfl
theorem rt1 : run 1 0  = true := by kernel_rfl
theorem rt2 : run 2 0  = true := by kernel_rfl
theorem rt3 : run 3 0  = true := by kernel_rfl
theorem rt4 : run 4 0  = true := by kernel_rfl
theorem rt5 : run 5 0  = true := by kernel_rfl
theorem rt6 : run 6 0  = true := by kernel_rfl
theorem rt7 : run 7 0  = true := by kernel_rfl
theorem rt8 : run 8 0  = true := by kernel_rfl
theorem rt9 : run 9 0  = true := by kernel_rfl
theorem rt10 : run 10 0  = true := by kernel_rfl
theorem rt11 : run 11 0  = true := by kernel_rfl
theorem rt12 : run 12 0  = true := by kernel_rfl
theorem rt13 : run 13 0  = true := by kernel_rfl
theorem rt14 : run 14 0  = true := by kernel_rfl
theorem rt15 : run 15 0  = true := by kernel_rfl
theorem rt16 : run 16 0  = true := by kernel_rfl
theorem rt17 : run 17 0  = true := by kernel_rfl
theorem rt18 : run 18 0  = true := by kernel_rfl
theorem rt19 : run 19 0  = true := by kernel_rfl
end Go.Proofs.YtkibmjcooffglaaGreat.endSendsRun
