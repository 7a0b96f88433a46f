/- Rounds of the law PlanWaits. -/
import Derived.Test.YtekhpohcjfjhfaaPlanWaitsHook
namespace Go.Proofs.Ytekhpohcjfjhfaa.planWaitsRun
open Go.Vm Go.RowKit
set_option linter.unusedVariables false
set_option linter.unusedSimpArgs false
set_option maxRecDepth 1000000
theorem rB_1 : rndB 1 = true := by kernel_rfl
theorem r1_2 : rnd1 2 = true := by kernel_rfl
theorem rD_2 : rndD 2 = true := by kernel_rfl
theorem rB_3 : rndB 3 = true := by kernel_rfl
theorem r1_4 : rnd1 4 = true := by kernel_rfl
theorem rD_4 : rndD 4 = true := by kernel_rfl
theorem rB_5 : rndB 5 = true := by kernel_rfl
theorem r1_6 : rnd1 6 = true := by kernel_rfl
theorem rD_6 : rndD 6 = true := by kernel_rfl
theorem rB_7 : rndB 7 = true := by kernel_rfl
theorem r1_8 : rnd1 8 = true := by kernel_rfl
theorem rD_8 : rndD 8 = true := by kernel_rfl
theorem rB_9 : rndB 9 = true := by kernel_rfl
theorem r1_10 : rnd1 10 = true := by kernel_rfl
theorem rD_10 : rndD 10 = true := by kernel_rfl
theorem rB_11 : rndB 11 = true := by kernel_rfl
theorem r1_12 : rnd1 12 = true := by kernel_rfl
theorem rD_12 : rndD 12 = true := by kernel_rfl
theorem rB_13 : rndB 13 = true := by kernel_rfl
theorem r1_14 : rnd1 14 = true := by kernel_rfl
theorem rD_14 : rndD 14 = true := by kernel_rfl
theorem rB_15 : rndB 15 = true := by kernel_rfl
theorem r1_16 : rnd1 16 = true := by kernel_rfl
theorem rD_16 : rndD 16 = true := by kernel_rfl
theorem rB_17 : rndB 17 = true := by kernel_rfl
theorem r1_18 : rnd1 18 = true := by kernel_rfl
theorem rD_18 : rndD 18 = true := by kernel_rfl
theorem rB_19 : rndB 19 = true := by kernel_rfl
theorem r1_20 : rnd1 20 = true := by kernel_rfl
theorem rD_20 : rndD 20 = true := by kernel_rfl
theorem rB_21 : rndB 21 = true := by kernel_rfl
theorem r1_22 : rnd1 22 = true := by kernel_rfl
theorem rD_22 : rndD 22 = true := by kernel_rfl
theorem rB_23 : rndB 23 = true := by kernel_rfl
theorem r1_24 : rnd1 24 = true := by kernel_rfl
theorem rD_24 : rndD 24 = true := by kernel_rfl
theorem rB_25 : rndB 25 = true := by kernel_rfl
theorem r1_26 : rnd1 26 = true := by kernel_rfl
theorem rD_26 : rndD 26 = true := by kernel_rfl
theorem rB_27 : rndB 27 = true := by kernel_rfl
theorem r1_28 : rnd1 28 = true := by kernel_rfl
theorem rD_28 : rndD 28 = true := by kernel_rfl
theorem rB_29 : rndB 29 = true := by kernel_rfl
theorem r1_30 : rnd1 30 = true := by kernel_rfl
theorem rD_30 : rndD 30 = true := by kernel_rfl
theorem rB_31 : rndB 31 = true := by kernel_rfl
theorem r1_32 : rnd1 32 = true := by kernel_rfl
theorem rD_32 : rndD 32 = true := by kernel_rfl
theorem rB_33 : rndB 33 = true := by kernel_rfl
theorem r1_34 : rnd1 34 = true := by kernel_rfl
theorem rD_34 : rndD 34 = true := by kernel_rfl
theorem rB_35 : rndB 35 = true := by kernel_rfl
theorem r1_36 : rnd1 36 = true := by kernel_rfl
theorem rD_36 : rndD 36 = true := by kernel_rfl
theorem rB_37 : rndB 37 = true := by kernel_rfl
theorem r1_38 : rnd1 38 = true := by kernel_rfl
theorem rD_38 : rndD 38 = true := by kernel_rfl
theorem rB_39 : rndB 39 = true := by kernel_rfl
theorem r1_40 : rnd1 40 = true := by kernel_rfl
theorem rD_40 : rndD 40 = true := by kernel_rfl
theorem rB_41 : rndB 41 = true := by kernel_rfl
theorem r1_42 : rnd1 42 = true := by kernel_rfl
theorem rD_42 : rndD 42 = true := by kernel_rfl
theorem rB_43 : rndB 43 = true := by kernel_rfl
theorem r1_44 : rnd1 44 = true := by kernel_rfl
theorem rD_44 : rndD 44 = true := by kernel_rfl
theorem rB_45 : rndB 45 = true := by kernel_rfl
theorem r1_46 : rnd1 46 = true := by kernel_rfl
theorem rD_46 : rndD 46 = true := by kernel_rfl
theorem rB_47 : rndB 47 = true := by kernel_rfl
theorem r1_48 : rnd1 48 = true := by kernel_rfl
theorem rD_48 : rndD 48 = true := by kernel_rfl
theorem rB_49 : rndB 49 = true := by kernel_rfl
theorem r1_50 : rnd1 50 = true := by kernel_rfl
theorem rD_50 : rndD 50 = true := by kernel_rfl
theorem rB_51 : rndB 51 = true := by kernel_rfl
theorem bn : beg 1 .nils st0 = true := by kernel_rfl
theorem bl3 : beg 4 (.sl 0 0 3 3 false 1) (stA 3 100) = true := by kernel_rfl
theorem bl7 : beg 8 (.sl 0 0 7 7 false 1) (stA 7 100) = true := by kernel_rfl
theorem bl11 : beg 12 (.sl 0 0 11 11 false 1) (stA 11 100) = true := by kernel_rfl
theorem bl15 : beg 16 (.sl 0 0 15 15 false 1) (stA 15 100) = true := by kernel_rfl
theorem bl19 : beg 20 (.sl 0 0 19 19 false 1) (stA 19 100) = true := by kernel_rfl
theorem bl23 : beg 24 (.sl 0 0 23 23 false 1) (stA 23 100) = true := by kernel_rfl
theorem bl27 : beg 28 (.sl 0 0 27 27 false 1) (stA 27 100) = true := by kernel_rfl
theorem bl31 : beg 32 (.sl 0 0 31 31 false 1) (stA 31 100) = true := by kernel_rfl
theorem bl35 : beg 36 (.sl 0 0 35 35 false 1) (stA 35 100) = true := by kernel_rfl
theorem bl39 : beg 40 (.sl 0 0 39 39 false 1) (stA 39 100) = true := by kernel_rfl
theorem bl43 : beg 44 (.sl 0 0 43 43 false 1) (stA 43 100) = true := by kernel_rfl
theorem bl47 : beg 48 (.sl 0 0 47 47 false 1) (stA 47 100) = true := by kernel_rfl
end Go.Proofs.Ytekhpohcjfjhfaa.planWaitsRun
