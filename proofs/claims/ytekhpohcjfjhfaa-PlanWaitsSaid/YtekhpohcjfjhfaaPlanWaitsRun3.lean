/- Rounds of the law PlanWaits. -/
import Derived.Test.YtekhpohcjfjhfaaPlanWaitsHook
namespace Go.Proofs.Ytekhpohcjfjhfaa.planWaitsRun
open Go.Vm Go.RowKit
set_option linter.unusedVariables false
set_option linter.unusedSimpArgs false
set_option maxRecDepth 1000000
theorem rD_1 : rndD 1 = true := by kernel_rfl
theorem rB_2 : rndB 2 = true := by kernel_rfl
theorem r1_3 : rnd1 3 = true := by kernel_rfl
theorem rD_3 : rndD 3 = true := by kernel_rfl
theorem rB_4 : rndB 4 = true := by kernel_rfl
theorem r1_5 : rnd1 5 = true := by kernel_rfl
theorem rD_5 : rndD 5 = true := by kernel_rfl
theorem rB_6 : rndB 6 = true := by kernel_rfl
theorem r1_7 : rnd1 7 = true := by kernel_rfl
theorem rD_7 : rndD 7 = true := by kernel_rfl
theorem rB_8 : rndB 8 = true := by kernel_rfl
theorem r1_9 : rnd1 9 = true := by kernel_rfl
theorem rD_9 : rndD 9 = true := by kernel_rfl
theorem rB_10 : rndB 10 = true := by kernel_rfl
theorem r1_11 : rnd1 11 = true := by kernel_rfl
theorem rD_11 : rndD 11 = true := by kernel_rfl
theorem rB_12 : rndB 12 = true := by kernel_rfl
theorem r1_13 : rnd1 13 = true := by kernel_rfl
theorem rD_13 : rndD 13 = true := by kernel_rfl
theorem rB_14 : rndB 14 = true := by kernel_rfl
theorem r1_15 : rnd1 15 = true := by kernel_rfl
theorem rD_15 : rndD 15 = true := by kernel_rfl
theorem rB_16 : rndB 16 = true := by kernel_rfl
theorem r1_17 : rnd1 17 = true := by kernel_rfl
theorem rD_17 : rndD 17 = true := by kernel_rfl
theorem rB_18 : rndB 18 = true := by kernel_rfl
theorem r1_19 : rnd1 19 = true := by kernel_rfl
theorem rD_19 : rndD 19 = true := by kernel_rfl
theorem rB_20 : rndB 20 = true := by kernel_rfl
theorem r1_21 : rnd1 21 = true := by kernel_rfl
theorem rD_21 : rndD 21 = true := by kernel_rfl
theorem rB_22 : rndB 22 = true := by kernel_rfl
theorem r1_23 : rnd1 23 = true := by kernel_rfl
theorem rD_23 : rndD 23 = true := by kernel_rfl
theorem rB_24 : rndB 24 = true := by kernel_rfl
theorem r1_25 : rnd1 25 = true := by kernel_rfl
theorem rD_25 : rndD 25 = true := by kernel_rfl
theorem rB_26 : rndB 26 = true := by kernel_rfl
theorem r1_27 : rnd1 27 = true := by kernel_rfl
theorem rD_27 : rndD 27 = true := by kernel_rfl
theorem rB_28 : rndB 28 = true := by kernel_rfl
theorem r1_29 : rnd1 29 = true := by kernel_rfl
theorem rD_29 : rndD 29 = true := by kernel_rfl
theorem rB_30 : rndB 30 = true := by kernel_rfl
theorem r1_31 : rnd1 31 = true := by kernel_rfl
theorem rD_31 : rndD 31 = true := by kernel_rfl
theorem rB_32 : rndB 32 = true := by kernel_rfl
theorem r1_33 : rnd1 33 = true := by kernel_rfl
theorem rD_33 : rndD 33 = true := by kernel_rfl
theorem rB_34 : rndB 34 = true := by kernel_rfl
theorem r1_35 : rnd1 35 = true := by kernel_rfl
theorem rD_35 : rndD 35 = true := by kernel_rfl
theorem rB_36 : rndB 36 = true := by kernel_rfl
theorem r1_37 : rnd1 37 = true := by kernel_rfl
theorem rD_37 : rndD 37 = true := by kernel_rfl
theorem rB_38 : rndB 38 = true := by kernel_rfl
theorem r1_39 : rnd1 39 = true := by kernel_rfl
theorem rD_39 : rndD 39 = true := by kernel_rfl
theorem rB_40 : rndB 40 = true := by kernel_rfl
theorem r1_41 : rnd1 41 = true := by kernel_rfl
theorem rD_41 : rndD 41 = true := by kernel_rfl
theorem rB_42 : rndB 42 = true := by kernel_rfl
theorem r1_43 : rnd1 43 = true := by kernel_rfl
theorem rD_43 : rndD 43 = true := by kernel_rfl
theorem rB_44 : rndB 44 = true := by kernel_rfl
theorem r1_45 : rnd1 45 = true := by kernel_rfl
theorem rD_45 : rndD 45 = true := by kernel_rfl
theorem rB_46 : rndB 46 = true := by kernel_rfl
theorem r1_47 : rnd1 47 = true := by kernel_rfl
theorem rD_47 : rndD 47 = true := by kernel_rfl
theorem rB_48 : rndB 48 = true := by kernel_rfl
theorem r1_49 : rnd1 49 = true := by kernel_rfl
theorem rD_49 : rndD 49 = true := by kernel_rfl
theorem rB_50 : rndB 50 = true := by kernel_rfl
theorem r1_51 : rnd1 51 = true := by kernel_rfl
theorem rD_51 : rndD 51 = true := by kernel_rfl
theorem bl1 : beg 2 (.sl 0 0 1 1 false 1) (stA 1 100) = true := by kernel_rfl
theorem bl5 : beg 6 (.sl 0 0 5 5 false 1) (stA 5 100) = true := by kernel_rfl
theorem bl9 : beg 10 (.sl 0 0 9 9 false 1) (stA 9 100) = true := by kernel_rfl
theorem bl13 : beg 14 (.sl 0 0 13 13 false 1) (stA 13 100) = true := by kernel_rfl
theorem bl17 : beg 18 (.sl 0 0 17 17 false 1) (stA 17 100) = true := by kernel_rfl
theorem bl21 : beg 22 (.sl 0 0 21 21 false 1) (stA 21 100) = true := by kernel_rfl
theorem bl25 : beg 26 (.sl 0 0 25 25 false 1) (stA 25 100) = true := by kernel_rfl
theorem bl29 : beg 30 (.sl 0 0 29 29 false 1) (stA 29 100) = true := by kernel_rfl
theorem bl33 : beg 34 (.sl 0 0 33 33 false 1) (stA 33 100) = true := by kernel_rfl
theorem bl37 : beg 38 (.sl 0 0 37 37 false 1) (stA 37 100) = true := by kernel_rfl
theorem bl41 : beg 42 (.sl 0 0 41 41 false 1) (stA 41 100) = true := by kernel_rfl
theorem bl45 : beg 46 (.sl 0 0 45 45 false 1) (stA 45 100) = true := by kernel_rfl
theorem bl49 : beg 50 (.sl 0 0 49 49 false 1) (stA 49 100) = true := by kernel_rfl
end Go.Proofs.Ytekhpohcjfjhfaa.planWaitsRun
