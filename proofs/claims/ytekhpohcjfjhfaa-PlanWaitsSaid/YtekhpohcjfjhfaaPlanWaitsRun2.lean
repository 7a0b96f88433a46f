/- Rounds of the law PlanWaits. -/
import Derived.Test.YtekhpohcjfjhfaaPlanWaitsHook
namespace Go.Proofs.Ytekhpohcjfjhfaa.planWaitsRun
open Go.Vm Go.RowKit
set_option linter.unusedVariables false
set_option linter.unusedSimpArgs false
set_option maxRecDepth 1000000
theorem rC_1 : rndC 1 = true := by kernel_rfl
theorem x1_2 : ext1 2 = true := by kernel_rfl
theorem x2_2 : ext2 2 = true := by kernel_rfl
theorem rC_3 : rndC 3 = true := by kernel_rfl
theorem x1_4 : ext1 4 = true := by kernel_rfl
theorem x2_4 : ext2 4 = true := by kernel_rfl
theorem rC_5 : rndC 5 = true := by kernel_rfl
theorem x1_6 : ext1 6 = true := by kernel_rfl
theorem x2_6 : ext2 6 = true := by kernel_rfl
theorem rC_7 : rndC 7 = true := by kernel_rfl
theorem x1_8 : ext1 8 = true := by kernel_rfl
theorem x2_8 : ext2 8 = true := by kernel_rfl
theorem rC_9 : rndC 9 = true := by kernel_rfl
theorem x1_10 : ext1 10 = true := by kernel_rfl
theorem x2_10 : ext2 10 = true := by kernel_rfl
theorem rC_11 : rndC 11 = true := by kernel_rfl
theorem x1_12 : ext1 12 = true := by kernel_rfl
theorem x2_12 : ext2 12 = true := by kernel_rfl
theorem rC_13 : rndC 13 = true := by kernel_rfl
theorem x1_14 : ext1 14 = true := by kernel_rfl
theorem x2_14 : ext2 14 = true := by kernel_rfl
theorem rC_15 : rndC 15 = true := by kernel_rfl
theorem x1_16 : ext1 16 = true := by kernel_rfl
theorem x2_16 : ext2 16 = true := by kernel_rfl
theorem rC_17 : rndC 17 = true := by kernel_rfl
theorem x1_18 : ext1 18 = true := by kernel_rfl
theorem x2_18 : ext2 18 = true := by kernel_rfl
theorem rC_19 : rndC 19 = true := by kernel_rfl
theorem x1_20 : ext1 20 = true := by kernel_rfl
theorem x2_20 : ext2 20 = true := by kernel_rfl
theorem rC_21 : rndC 21 = true := by kernel_rfl
theorem x1_22 : ext1 22 = true := by kernel_rfl
theorem x2_22 : ext2 22 = true := by kernel_rfl
theorem rC_23 : rndC 23 = true := by kernel_rfl
theorem x1_24 : ext1 24 = true := by kernel_rfl
theorem x2_24 : ext2 24 = true := by kernel_rfl
theorem rC_25 : rndC 25 = true := by kernel_rfl
theorem x1_26 : ext1 26 = true := by kernel_rfl
theorem x2_26 : ext2 26 = true := by kernel_rfl
theorem rC_27 : rndC 27 = true := by kernel_rfl
theorem x1_28 : ext1 28 = true := by kernel_rfl
theorem x2_28 : ext2 28 = true := by kernel_rfl
theorem rC_29 : rndC 29 = true := by kernel_rfl
theorem x1_30 : ext1 30 = true := by kernel_rfl
theorem x2_30 : ext2 30 = true := by kernel_rfl
theorem rC_31 : rndC 31 = true := by kernel_rfl
theorem x1_32 : ext1 32 = true := by kernel_rfl
theorem x2_32 : ext2 32 = true := by kernel_rfl
theorem rC_33 : rndC 33 = true := by kernel_rfl
theorem x1_34 : ext1 34 = true := by kernel_rfl
theorem x2_34 : ext2 34 = true := by kernel_rfl
theorem rC_35 : rndC 35 = true := by kernel_rfl
theorem x1_36 : ext1 36 = true := by kernel_rfl
theorem x2_36 : ext2 36 = true := by kernel_rfl
theorem rC_37 : rndC 37 = true := by kernel_rfl
theorem x1_38 : ext1 38 = true := by kernel_rfl
theorem x2_38 : ext2 38 = true := by kernel_rfl
theorem rC_39 : rndC 39 = true := by kernel_rfl
theorem x1_40 : ext1 40 = true := by kernel_rfl
theorem x2_40 : ext2 40 = true := by kernel_rfl
theorem rC_41 : rndC 41 = true := by kernel_rfl
theorem x1_42 : ext1 42 = true := by kernel_rfl
theorem x2_42 : ext2 42 = true := by kernel_rfl
theorem rC_43 : rndC 43 = true := by kernel_rfl
theorem x1_44 : ext1 44 = true := by kernel_rfl
theorem x2_44 : ext2 44 = true := by kernel_rfl
theorem rC_45 : rndC 45 = true := by kernel_rfl
theorem x1_46 : ext1 46 = true := by kernel_rfl
theorem x2_46 : ext2 46 = true := by kernel_rfl
theorem rC_47 : rndC 47 = true := by kernel_rfl
theorem x1_48 : ext1 48 = true := by kernel_rfl
theorem x2_48 : ext2 48 = true := by kernel_rfl
theorem rC_49 : rndC 49 = true := by kernel_rfl
theorem x1_50 : ext1 50 = true := by kernel_rfl
theorem x2_50 : ext2 50 = true := by kernel_rfl
theorem rC_51 : rndC 51 = true := by kernel_rfl
theorem be : beg 1 .emp st0 = true := by kernel_rfl
theorem bl4 : beg 5 (.sl 0 0 4 4 false 1) (stA 4 100) = true := by kernel_rfl
theorem bl8 : beg 9 (.sl 0 0 8 8 false 1) (stA 8 100) = true := by kernel_rfl
theorem bl12 : beg 13 (.sl 0 0 12 12 false 1) (stA 12 100) = true := by kernel_rfl
theorem bl16 : beg 17 (.sl 0 0 16 16 false 1) (stA 16 100) = true := by kernel_rfl
theorem bl20 : beg 21 (.sl 0 0 20 20 false 1) (stA 20 100) = true := by kernel_rfl
theorem bl24 : beg 25 (.sl 0 0 24 24 false 1) (stA 24 100) = true := by kernel_rfl
theorem bl28 : beg 29 (.sl 0 0 28 28 false 1) (stA 28 100) = true := by kernel_rfl
theorem bl32 : beg 33 (.sl 0 0 32 32 false 1) (stA 32 100) = true := by kernel_rfl
theorem bl36 : beg 37 (.sl 0 0 36 36 false 1) (stA 36 100) = true := by kernel_rfl
theorem bl40 : beg 41 (.sl 0 0 40 40 false 1) (stA 40 100) = true := by kernel_rfl
theorem bl44 : beg 45 (.sl 0 0 44 44 false 1) (stA 44 100) = true := by kernel_rfl
theorem bl48 : beg 49 (.sl 0 0 48 48 false 1) (stA 48 100) = true := by kernel_rfl
end Go.Proofs.Ytekhpohcjfjhfaa.planWaitsRun
