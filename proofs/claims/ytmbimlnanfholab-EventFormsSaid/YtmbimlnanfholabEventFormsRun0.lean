/- Runs of the law EventForms. -/
import Derived.Test.YtmbimlnanfholabEventFormsTab
namespace Go.Proofs.Ytmbimlnanfholab.eventFormsRun
open Go.Vm Go.RowKit
set_option linter.unusedVariables false
set_option linter.unusedSimpArgs false
set_option maxRecDepth 1000000
theorem rtnil : run 0 .nils st0 = true := by kernel_rfl
theorem rtlen1 : run 1 (.sl 0 0 1 1 false 1) (stA 1 100) = true := by kernel_rfl
theorem rtlen3 : run 3 (.sl 0 0 3 3 false 1) (stA 3 100) = true := by kernel_rfl
theorem rtlen5 : run 5 (.sl 0 0 5 5 false 1) (stA 5 100) = true := by kernel_rfl
theorem rtlen7 : run 7 (.sl 0 0 7 7 false 1) (stA 7 100) = true := by kernel_rfl
theorem rtlen9 : run 9 (.sl 0 0 9 9 false 1) (stA 9 100) = true := by kernel_rfl
theorem rtlen11 : run 11 (.sl 0 0 11 11 false 1) (stA 11 100) = true := by kernel_rfl
theorem rtlen13 : run 13 (.sl 0 0 13 13 false 1) (stA 13 100) = true := by kernel_rfl
theorem rtlen15 : run 15 (.sl 0 0 15 15 false 1) (stA 15 100) = true := by kernel_rfl
theorem rtlen17 : run 17 (.sl 0 0 17 17 false 1) (stA 17 100) = true := by kernel_rfl
theorem rtlen19 : run 19 (.sl 0 0 19 19 false 1) (stA 19 100) = true := by kernel_rfl
theorem rtlen21 : run 21 (.sl 0 0 21 21 false 1) (stA 21 100) = true := by kernel_rfl
theorem rtlen23 : run 23 (.sl 0 0 23 23 false 1) (stA 23 100) = true := by kernel_rfl
theorem rtlen25 : run 25 (.sl 0 0 25 25 false 1) (stA 25 100) = true := by kernel_rfl
theorem rtlen27 : run 27 (.sl 0 0 27 27 false 1) (stA 27 100) = true := by kernel_rfl
theorem rtlen29 : run 29 (.sl 0 0 29 29 false 1) (stA 29 100) = true := by kernel_rfl
theorem rtlen31 : run 31 (.sl 0 0 31 31 false 1) (stA 31 100) = true := by kernel_rfl
theorem rtlen33 : run 33 (.sl 0 0 33 33 false 1) (stA 33 100) = true := by kernel_rfl
theorem rtlen35 : run 35 (.sl 0 0 35 35 false 1) (stA 35 100) = true := by kernel_rfl
theorem rtlen37 : run 37 (.sl 0 0 37 37 false 1) (stA 37 100) = true := by kernel_rfl
theorem rtlen39 : run 39 (.sl 0 0 39 39 false 1) (stA 39 100) = true := by kernel_rfl
end Go.Proofs.Ytmbimlnanfholab.eventFormsRun
