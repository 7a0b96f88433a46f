/- Runs of the law EndOwn. -/
import Derived.Test.YtkibmjcooffglaaGreatEndOwnTab
namespace Go.Proofs.YtkibmjcooffglaaGreat.endOwnRun
open Go.Vm Go.RowKit
set_option linter.unusedVariables false
set_option linter.unusedSimpArgs false
set_option maxRecDepth 1000000
theorem rtnil : run 0 .nils st0 = true := by kernel_rfl
theorem rtemp : run 0 .emp st0 = true := by kernel_rfl
theorem rtlen1 : run 1 (.sl 0 0 1 1 false 1) (stA 1 100) = true := by kernel_rfl
theorem rtlen2 : run 2 (.sl 0 0 2 2 false 1) (stA 2 100) = true := by kernel_rfl
theorem rtlen3 : run 3 (.sl 0 0 3 3 false 1) (stA 3 100) = true := by kernel_rfl
theorem rtlen4 : run 4 (.sl 0 0 4 4 false 1) (stA 4 100) = true := by kernel_rfl
theorem rtlen5 : run 5 (.sl 0 0 5 5 false 1) (stA 5 100) = true := by kernel_rfl
theorem rtlen6 : run 6 (.sl 0 0 6 6 false 1) (stA 6 100) = true := by kernel_rfl
theorem rtlen7 : run 7 (.sl 0 0 7 7 false 1) (stA 7 100) = true := by kernel_rfl
theorem rtlen8 : run 8 (.sl 0 0 8 8 false 1) (stA 8 100) = true := by kernel_rfl
theorem rtarg : run 9 (markV 0 9 (.s [(90, 1)] 0) 1) (stA 9 100) = true := by kernel_rfl
end Go.Proofs.YtkibmjcooffglaaGreat.endOwnRun
