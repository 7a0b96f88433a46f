/- Runs of the law SpanForms. -/
import Derived.Test.YtmbimlnanfholabSpanFormsTab
namespace Go.Proofs.Ytmbimlnanfholab.spanFormsRun
open Go.Vm Go.RowKit
set_option linter.unusedVariables false
set_option linter.unusedSimpArgs false
set_option maxRecDepth 1000000
theorem rtnil : run 0 .nils st0 = true := by kernel_rfl
theorem rtemp : run 0 .emp st0 = true := by kernel_rfl
theorem rtlen1 : run 1 (.sl 0 0 1 1 false 1) (stA 1 100) = true := by kernel_rfl
theorem rtlen2 : run 2 (.sl 0 0 2 2 false 1) (stA 2 100) = true := by kernel_rfl
theorem rtlen3 : run 3 (.sl 0 0 3 3 false 1) (stA 3 100) = true := by kernel_rfl
theorem rtlen4 : run 4 (.sl 0 0 4 4 false 1) (stA 4 100) = true := by kernel_rfl
theorem rtlen5 : run 5 (.sl 0 0 5 5 false 1) (stA 5 100) = true := by kernel_rfl
theorem rtlen6 : run 6 (.sl 0 0 6 6 false 1) (stA 6 100) = true := by kernel_rfl
theorem rtlen7 : run 7 (.sl 0 0 7 7 false 1) (stA 7 100) = true := by kernel_rfl
theorem rtlen8 : run 8 (.sl 0 0 8 8 false 1) (stA 8 100) = true := by kernel_rfl
theorem rtlen9 : run 9 (.sl 0 0 9 9 false 1) (stA 9 100) = true := by kernel_rfl
theorem rtlen10 : run 10 (.sl 0 0 10 10 false 1) (stA 10 100) = true := by kernel_rfl
theorem rtlen11 : run 11 (.sl 0 0 11 11 false 1) (stA 11 100) = true := by kernel_rfl
theorem rtlen12 : run 12 (.sl 0 0 12 12 false 1) (stA 12 100) = true := by kernel_rfl
theorem rtlen13 : run 13 (.sl 0 0 13 13 false 1) (stA 13 100) = true := by kernel_rfl
theorem rtlen14 : run 14 (.sl 0 0 14 14 false 1) (stA 14 100) = true := by kernel_rfl
theorem rtlen15 : run 15 (.sl 0 0 15 15 false 1) (stA 15 100) = true := by kernel_rfl
theorem rtlen16 : run 16 (.sl 0 0 16 16 false 1) (stA 16 100) = true := by kernel_rfl
theorem rtlen17 : run 17 (.sl 0 0 17 17 false 1) (stA 17 100) = true := by kernel_rfl
theorem rtlen18 : run 18 (.sl 0 0 18 18 false 1) (stA 18 100) = true := by kernel_rfl
theorem rtlen19 : run 19 (.sl 0 0 19 19 false 1) (stA 19 100) = true := by kernel_rfl
theorem rtlen20 : run 20 (.sl 0 0 20 20 false 1) (stA 20 100) = true := by kernel_rfl
theorem rtlen21 : run 21 (.sl 0 0 21 21 false 1) (stA 21 100) = true := by kernel_rfl
theorem rtlen22 : run 22 (.sl 0 0 22 22 false 1) (stA 22 100) = true := by kernel_rfl
theorem rtlen23 : run 23 (.sl 0 0 23 23 false 1) (stA 23 100) = true := by kernel_rfl
theorem rtlen24 : run 24 (.sl 0 0 24 24 false 1) (stA 24 100) = true := by kernel_rfl
theorem rtlen25 : run 25 (.sl 0 0 25 25 false 1) (stA 25 100) = true := by kernel_rfl
theorem rtlen26 : run 26 (.sl 0 0 26 26 false 1) (stA 26 100) = true := by kernel_rfl
theorem rtlen27 : run 27 (.sl 0 0 27 27 false 1) (stA 27 100) = true := by kernel_rfl
theorem rtlen28 : run 28 (.sl 0 0 28 28 false 1) (stA 28 100) = true := by kernel_rfl
theorem rtlen29 : run 29 (.sl 0 0 29 29 false 1) (stA 29 100) = true := by kernel_rfl
theorem rtlen30 : run 30 (.sl 0 0 30 30 false 1) (stA 30 100) = true := by kernel_rfl
theorem rtlen31 : run 31 (.sl 0 0 31 31 false 1) (stA 31 100) = true := by kernel_rfl
theorem rtlen32 : run 32 (.sl 0 0 32 32 false 1) (stA 32 100) = true := by kernel_rfl
theorem rtlen33 : run 33 (.sl 0 0 33 33 false 1) (stA 33 100) = true := by kernel_rfl
theorem rtlen34 : run 34 (.sl 0 0 34 34 false 1) (stA 34 100) = true := by kernel_rfl
theorem rtlen35 : run 35 (.sl 0 0 35 35 false 1) (stA 35 100) = true := by kernel_rfl
theorem rtlen36 : run 36 (.sl 0 0 36 36 false 1) (stA 36 100) = true := by kernel_rfl
theorem rtlen37 : run 37 (.sl 0 0 37 37 false 1) (stA 37 100) = true := by kernel_rfl
theorem rtlen38 : run 38 (.sl 0 0 38 38 false 1) (stA 38 100) = true := by kernel_rfl
theorem rtlen39 : run 39 (.sl 0 0 39 39 false 1) (stA 39 100) = true := by kernel_rfl
theorem rtlen40 : run 40 (.sl 0 0 40 40 false 1) (stA 40 100) = true := by kernel_rfl
theorem rtlen41 : run 41 (.sl 0 0 41 41 false 1) (stA 41 100) = true := by kernel_rfl
theorem rtlen42 : run 42 (.sl 0 0 42 42 false 1) (stA 42 100) = true := by kernel_rfl
theorem rtlen43 : run 43 (.sl 0 0 43 43 false 1) (stA 43 100) = true := by kernel_rfl
theorem rtlen44 : run 44 (.sl 0 0 44 44 false 1) (stA 44 100) = true := by kernel_rfl
theorem rtlen45 : run 45 (.sl 0 0 45 45 false 1) (stA 45 100) = true := by kernel_rfl
theorem rtlen46 : run 46 (.sl 0 0 46 46 false 1) (stA 46 100) = true := by kernel_rfl
theorem rtlen47 : run 47 (.sl 0 0 47 47 false 1) (stA 47 100) = true := by kernel_rfl
theorem rtlen48 : run 48 (.sl 0 0 48 48 false 1) (stA 48 100) = true := by kernel_rfl
theorem rtlen49 : run 49 (.sl 0 0 49 49 false 1) (stA 49 100) = true := by kernel_rfl
theorem rtarg : run 50 (markV 0 50 (.s [(90, 1)] 0) 1) (stA 50 100) = true := by kernel_rfl
end Go.Proofs.Ytmbimlnanfholab.spanFormsRun
