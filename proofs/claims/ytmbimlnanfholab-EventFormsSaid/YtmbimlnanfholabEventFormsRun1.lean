/- Runs of the law EventForms. -/
import Derived.Test.YtmbimlnanfholabEventFormsTab
namespace Go.Proofs.Ytmbimlnanfholab.eventFormsRun
open Go.Vm Go.RowKit
set_option linter.unusedVariables false
set_option linter.unusedSimpArgs false
set_option maxRecDepth 1000000
theorem rtemp : run 0 .emp st0 = true := by kernel_rfl
theorem rtlen2 : run 2 (.sl 0 0 2 2 false 1) (stA 2 100) = true := by kernel_rfl
theorem rtlen4 : run 4 (.sl 0 0 4 4 false 1) (stA 4 100) = true := by kernel_rfl
theorem rtlen6 : run 6 (.sl 0 0 6 6 false 1) (stA 6 100) = true := by kernel_rfl
theorem rtlen8 : run 8 (.sl 0 0 8 8 false 1) (stA 8 100) = true := by kernel_rfl
theorem rtlen10 : run 10 (.sl 0 0 10 10 false 1) (stA 10 100) = true := by kernel_rfl
theorem rtlen12 : run 12 (.sl 0 0 12 12 false 1) (stA 12 100) = true := by kernel_rfl
theorem rtlen14 : run 14 (.sl 0 0 14 14 false 1) (stA 14 100) = true := by kernel_rfl
theorem rtlen16 : run 16 (.sl 0 0 16 16 false 1) (stA 16 100) = true := by kernel_rfl
theorem rtlen18 : run 18 (.sl 0 0 18 18 false 1) (stA 18 100) = true := by kernel_rfl
theorem rtlen20 : run 20 (.sl 0 0 20 20 false 1) (stA 20 100) = true := by kernel_rfl
theorem rtlen22 : run 22 (.sl 0 0 22 22 false 1) (stA 22 100) = true := by kernel_rfl
theorem rtlen24 : run 24 (.sl 0 0 24 24 false 1) (stA 24 100) = true := by kernel_rfl
theorem rtlen26 : run 26 (.sl 0 0 26 26 false 1) (stA 26 100) = true := by kernel_rfl
theorem rtlen28 : run 28 (.sl 0 0 28 28 false 1) (stA 28 100) = true := by kernel_rfl
theorem rtlen30 : run 30 (.sl 0 0 30 30 false 1) (stA 30 100) = true := by kernel_rfl
theorem rtlen32 : run 32 (.sl 0 0 32 32 false 1) (stA 32 100) = true := by kernel_rfl
theorem rtlen34 : run 34 (.sl 0 0 34 34 false 1) (stA 34 100) = true := by kernel_rfl
theorem rtlen36 : run 36 (.sl 0 0 36 36 false 1) (stA 36 100) = true := by kernel_rfl
theorem rtlen38 : run 38 (.sl 0 0 38 38 false 1) (stA 38 100) = true := by kernel_rfl
theorem rtarg : run 40 (markV 0 40 (.s [(90, 1)] 0) 1) (stA 40 100) = true := by kernel_rfl
end Go.Proofs.Ytmbimlnanfholab.eventFormsRun
