/- Rounds of the law PlanWaits. -/
import Derived.Test.YtekhpohcjfjhfaaPlanWaitsHook
namespace Go.Proofs.Ytekhpohcjfjhfaa.planWaitsRun
open Go.Vm Go.RowKit
set_option linter.unusedVariables false
set_option linter.unusedSimpArgs false
set_option maxRecDepth 1000000
theorem x1_1 : ext1 1 = true := by kernel_rfl
theorem x2_1 : ext2 1 = true := by kernel_rfl
theorem rC_2 : rndC 2 = true := by kernel_rfl
theorem x1_3 : ext1 3 = true := by kernel_rfl
theorem x2_3 : ext2 3 = true := by kernel_rfl
theorem rC_4 : rndC 4 = true := by kernel_rfl
theorem x1_5 : ext1 5 = true := by kernel_rfl
theorem x2_5 : ext2 5 = true := by kernel_rfl
theorem rC_6 : rndC 6 = true := by kernel_rfl
theorem x1_7 : ext1 7 = true := by kernel_rfl
theorem x2_7 : ext2 7 = true := by kernel_rfl
theorem rC_8 : rndC 8 = true := by kernel_rfl
theorem x1_9 : ext1 9 = true := by kernel_rfl
theorem x2_9 : ext2 9 = true := by kernel_rfl
theorem rC_10 : rndC 10 = true := by kernel_rfl
theorem x1_11 : ext1 11 = true := by kernel_rfl
theorem x2_11 : ext2 11 = true := by kernel_rfl
theorem rC_12 : rndC 12 = true := by kernel_rfl
theorem x1_13 : ext1 13 = true := by kernel_rfl
theorem x2_13 : ext2 13 = true := by kernel_rfl
theorem rC_14 : rndC 14 = true := by kernel_rfl
theorem x1_15 : ext1 15 = true := by kernel_rfl
theorem x2_15 : ext2 15 = true := by kernel_rfl
theorem rC_16 : rndC 16 = true := by kernel_rfl
theorem x1_17 : ext1 17 = true := by kernel_rfl
theorem x2_17 : ext2 17 = true := by kernel_rfl
theorem rC_18 : rndC 18 = true := by kernel_rfl
theorem x1_19 : ext1 19 = true := by kernel_rfl
theorem x2_19 : ext2 19 = true := by kernel_rfl
theorem rC_20 : rndC 20 = true := by kernel_rfl
theorem x1_21 : ext1 21 = true := by kernel_rfl
theorem x2_21 : ext2 21 = true := by kernel_rfl
theorem rC_22 : rndC 22 = true := by kernel_rfl
theorem x1_23 : ext1 23 = true := by kernel_rfl
theorem x2_23 : ext2 23 = true := by kernel_rfl
theorem rC_24 : rndC 24 = true := by kernel_rfl
theorem x1_25 : ext1 25 = true := by kernel_rfl
theorem x2_25 : ext2 25 = true := by kernel_rfl
theorem rC_26 : rndC 26 = true := by kernel_rfl
theorem x1_27 : ext1 27 = true := by kernel_rfl
theorem x2_27 : ext2 27 = true := by kernel_rfl
theorem rC_28 : rndC 28 = true := by kernel_rfl
theorem x1_29 : ext1 29 = true := by kernel_rfl
theorem x2_29 : ext2 29 = true := by kernel_rfl
theorem rC_30 : rndC 30 = true := by kernel_rfl
theorem x1_31 : ext1 31 = true := by kernel_rfl
theorem x2_31 : ext2 31 = true := by kernel_rfl
theorem rC_32 : rndC 32 = true := by kernel_rfl
theorem x1_33 : ext1 33 = true := by kernel_rfl
theorem x2_33 : ext2 33 = true := by kernel_rfl
theorem rC_34 : rndC 34 = true := by kernel_rfl
theorem x1_35 : ext1 35 = true := by kernel_rfl
theorem x2_35 : ext2 35 = true := by kernel_rfl
theorem rC_36 : rndC 36 = true := by kernel_rfl
theorem x1_37 : ext1 37 = true := by kernel_rfl
theorem x2_37 : ext2 37 = true := by kernel_rfl
theorem rC_38 : rndC 38 = true := by kernel_rfl
theorem x1_39 : ext1 39 = true := by kernel_rfl
theorem x2_39 : ext2 39 = true := by kernel_rfl
theorem rC_40 : rndC 40 = true := by kernel_rfl
theorem x1_41 : ext1 41 = true := by kernel_rfl
theorem x2_41 : ext2 41 = true := by kernel_rfl
theorem rC_42 : rndC 42 = true := by kernel_rfl
theorem x1_43 : ext1 43 = true := by kernel_rfl
theorem x2_43 : ext2 43 = true := by kernel_rfl
theorem rC_44 : rndC 44 = true := by kernel_rfl
theorem x1_45 : ext1 45 = true := by kernel_rfl
theorem x2_45 : ext2 45 = true := by kernel_rfl
theorem rC_46 : rndC 46 = true := by kernel_rfl
theorem x1_47 : ext1 47 = true := by kernel_rfl
theorem x2_47 : ext2 47 = true := by kernel_rfl
theorem rC_48 : rndC 48 = true := by kernel_rfl
theorem x1_49 : ext1 49 = true := by kernel_rfl
theorem x2_49 : ext2 49 = true := by kernel_rfl
theorem rC_50 : rndC 50 = true := by kernel_rfl
theorem x1_51 : ext1 51 = true := by kernel_rfl
theorem x2_51 : ext2 51 = true := by kernel_rfl
theorem bl2 : beg 3 (.sl 0 0 2 2 false 1) (stA 2 100) = true := by kernel_rfl
theorem bl6 : beg 7 (.sl 0 0 6 6 false 1) (stA 6 100) = true := by kernel_rfl
theorem bl10 : beg 11 (.sl 0 0 10 10 false 1) (stA 10 100) = true := by kernel_rfl
theorem bl14 : beg 15 (.sl 0 0 14 14 false 1) (stA 14 100) = true := by kernel_rfl
theorem bl18 : beg 19 (.sl 0 0 18 18 false 1) (stA 18 100) = true := by kernel_rfl
theorem bl22 : beg 23 (.sl 0 0 22 22 false 1) (stA 22 100) = true := by kernel_rfl
theorem bl26 : beg 27 (.sl 0 0 26 26 false 1) (stA 26 100) = true := by kernel_rfl
theorem bl30 : beg 31 (.sl 0 0 30 30 false 1) (stA 30 100) = true := by kernel_rfl
theorem bl34 : beg 35 (.sl 0 0 34 34 false 1) (stA 34 100) = true := by kernel_rfl
theorem bl38 : beg 39 (.sl 0 0 38 38 false 1) (stA 38 100) = true := by kernel_rfl
theorem bl42 : beg 43 (.sl 0 0 42 42 false 1) (stA 42 100) = true := by kernel_rfl
theorem bl46 : beg 47 (.sl 0 0 46 46 false 1) (stA 46 100) = true := by kernel_rfl
theorem ba : beg 51 (markV 0 50 (sg 90) 1) (stA 50 100) = true := by kernel_rfl
end Go.Proofs.Ytekhpohcjfjhfaa.planWaitsRun
