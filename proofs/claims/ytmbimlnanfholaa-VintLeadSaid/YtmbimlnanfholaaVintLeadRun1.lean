/- Runs of the law VintLead. -/
import Derived.Test.YtmbimlnanfholaaVintLeadHook
namespace Go.Proofs.Ytmbimlnanfholaa.vintLeadRun
open Go.Vm Go.RowKit
set_option linter.unusedVariables false
set_option linter.unusedSimpArgs false
set_option maxRecDepth 1000000
theorem rtnil_1_0_0 : runl 0 1 0 (0) (63) .nils st0 = true := by kernel_rfl
theorem rtnil_3_0_0 : runl 0 3 0 (0) (63) .nils st0 = true := by kernel_rfl
theorem rtemp_1_0_0 : runl 0 1 0 (0) (63) .emp st0 = true := by kernel_rfl
theorem rtemp_3_0_0 : runl 0 3 0 (0) (63) .emp st0 = true := by kernel_rfl
theorem rtlen1_1_0_1 : runl 1 1 0 (1) (63) (.sl 0 0 1 1 false 1) (stA 1 100) = true := by kernel_rfl
theorem rtlen1_1_1_0 : runl 1 1 1 (0) (63) (.sl 0 0 1 1 false 1) (stA 1 100) = true := by kernel_rfl
theorem rtlen1_3_0_0 : runl 1 3 0 (0) (63) (.sl 0 0 1 1 false 1) (stA 1 100) = true := by kernel_rfl
theorem rtlen2_1_0_1 : runl 2 1 0 (1) (63) (.sl 0 0 2 2 false 1) (stA 2 100) = true := by kernel_rfl
theorem rtlen2_1_1_0 : runl 2 1 1 (0) (63) (.sl 0 0 2 2 false 1) (stA 2 100) = true := by kernel_rfl
theorem rtlen2_3_0_0 : runl 2 3 0 (0) (63) (.sl 0 0 2 2 false 1) (stA 2 100) = true := by kernel_rfl
theorem rtlen3_1_0_1 : runl 3 1 0 (1) (63) (.sl 0 0 3 3 false 1) (stA 3 100) = true := by kernel_rfl
theorem rtlen3_1_1_0 : runl 3 1 1 (0) (63) (.sl 0 0 3 3 false 1) (stA 3 100) = true := by kernel_rfl
theorem rtlen3_2_1_1 : runl 3 2 1 (1) (255) (.sl 0 0 3 3 false 1) (stA 3 100) = true := by kernel_rfl
theorem rtlen3_2_2_1 : runl 3 2 2 (1) (63) (.sl 0 0 3 3 false 1) (stA 3 100) = true := by kernel_rfl
theorem rtlen3_2_3_0 : runl 3 2 3 (0) (63) (.sl 0 0 3 3 false 1) (stA 3 100) = true := by kernel_rfl
theorem rtlen4_0_0_0 : runl 4 0 0 (0) (63) (.sl 0 0 4 4 false 1) (stA 4 100) = true := by kernel_rfl
theorem rtlen4_1_1_64 : runl 4 1 1 (64) (255) (.sl 0 0 4 4 false 1) (stA 4 100) = true := by kernel_rfl
theorem rtlen4_2_0_1 : runl 4 2 0 (1) (63) (.sl 0 0 4 4 false 1) (stA 4 100) = true := by kernel_rfl
theorem rtlen4_2_2_64 : runl 4 2 2 (64) (255) (.sl 0 0 4 4 false 1) (stA 4 100) = true := by kernel_rfl
theorem rtlen4_2_3_64 : runl 4 2 3 (64) (255) (.sl 0 0 4 4 false 1) (stA 4 100) = true := by kernel_rfl
theorem rtlen4_3_0_0 : runl 4 3 0 (0) (63) (.sl 0 0 4 4 false 1) (stA 4 100) = true := by kernel_rfl
theorem rtlen5_1_0_1 : runl 5 1 0 (1) (63) (.sl 0 0 5 5 false 1) (stA 5 100) = true := by kernel_rfl
theorem rtlen5_1_1_0 : runl 5 1 1 (0) (63) (.sl 0 0 5 5 false 1) (stA 5 100) = true := by kernel_rfl
theorem rtlen5_2_1_1 : runl 5 2 1 (1) (255) (.sl 0 0 5 5 false 1) (stA 5 100) = true := by kernel_rfl
theorem rtlen5_2_2_1 : runl 5 2 2 (1) (63) (.sl 0 0 5 5 false 1) (stA 5 100) = true := by kernel_rfl
theorem rtlen5_2_3_0 : runl 5 2 3 (0) (63) (.sl 0 0 5 5 false 1) (stA 5 100) = true := by kernel_rfl
theorem rtlen6_0_0_0 : runl 6 0 0 (0) (63) (.sl 0 0 6 6 false 1) (stA 6 100) = true := by kernel_rfl
theorem rtlen6_1_1_64 : runl 6 1 1 (64) (255) (.sl 0 0 6 6 false 1) (stA 6 100) = true := by kernel_rfl
theorem rtlen6_2_0_1 : runl 6 2 0 (1) (63) (.sl 0 0 6 6 false 1) (stA 6 100) = true := by kernel_rfl
theorem rtlen6_2_2_64 : runl 6 2 2 (64) (255) (.sl 0 0 6 6 false 1) (stA 6 100) = true := by kernel_rfl
theorem rtlen6_2_3_64 : runl 6 2 3 (64) (255) (.sl 0 0 6 6 false 1) (stA 6 100) = true := by kernel_rfl
theorem rtlen6_3_0_0 : runl 6 3 0 (0) (63) (.sl 0 0 6 6 false 1) (stA 6 100) = true := by kernel_rfl
theorem rtlen7_1_0_1 : runl 7 1 0 (1) (63) (.sl 0 0 7 7 false 1) (stA 7 100) = true := by kernel_rfl
theorem rtlen7_1_1_0 : runl 7 1 1 (0) (63) (.sl 0 0 7 7 false 1) (stA 7 100) = true := by kernel_rfl
theorem rtlen7_2_1_1 : runl 7 2 1 (1) (255) (.sl 0 0 7 7 false 1) (stA 7 100) = true := by kernel_rfl
theorem rtlen7_2_2_1 : runl 7 2 2 (1) (63) (.sl 0 0 7 7 false 1) (stA 7 100) = true := by kernel_rfl
theorem rtlen7_2_3_0 : runl 7 2 3 (0) (63) (.sl 0 0 7 7 false 1) (stA 7 100) = true := by kernel_rfl
theorem rtlen7_3_1_1 : runl 7 3 1 (1) (255) (.sl 0 0 7 7 false 1) (stA 7 100) = true := by kernel_rfl
theorem rtlen7_3_3_1 : runl 7 3 3 (1) (255) (.sl 0 0 7 7 false 1) (stA 7 100) = true := by kernel_rfl
theorem rtlen7_3_4_1 : runl 7 3 4 (1) (63) (.sl 0 0 7 7 false 1) (stA 7 100) = true := by kernel_rfl
theorem rtlen7_3_6_64 : runl 7 3 6 (64) (255) (.sl 0 0 7 7 false 1) (stA 7 100) = true := by kernel_rfl
theorem rtlen7_3_7_64 : runl 7 3 7 (64) (255) (.sl 0 0 7 7 false 1) (stA 7 100) = true := by kernel_rfl
theorem rtlen8_0_0_0 : runl 8 0 0 (0) (63) (.sl 0 0 8 8 false 1) (stA 8 100) = true := by kernel_rfl
theorem rtlen8_1_1_64 : runl 8 1 1 (64) (255) (.sl 0 0 8 8 false 1) (stA 8 100) = true := by kernel_rfl
theorem rtlen8_2_0_1 : runl 8 2 0 (1) (63) (.sl 0 0 8 8 false 1) (stA 8 100) = true := by kernel_rfl
theorem rtlen8_2_2_64 : runl 8 2 2 (64) (255) (.sl 0 0 8 8 false 1) (stA 8 100) = true := by kernel_rfl
theorem rtlen8_2_3_64 : runl 8 2 3 (64) (255) (.sl 0 0 8 8 false 1) (stA 8 100) = true := by kernel_rfl
theorem rtlen8_3_0_1 : runl 8 3 0 (1) (63) (.sl 0 0 8 8 false 1) (stA 8 100) = true := by kernel_rfl
theorem rtlen8_3_2_1 : runl 8 3 2 (1) (255) (.sl 0 0 8 8 false 1) (stA 8 100) = true := by kernel_rfl
theorem rtlen8_3_4_64 : runl 8 3 4 (64) (255) (.sl 0 0 8 8 false 1) (stA 8 100) = true := by kernel_rfl
theorem rtlen8_3_5_1 : runl 8 3 5 (1) (255) (.sl 0 0 8 8 false 1) (stA 8 100) = true := by kernel_rfl
theorem rtlen8_3_6_1 : runl 8 3 6 (1) (63) (.sl 0 0 8 8 false 1) (stA 8 100) = true := by kernel_rfl
theorem rtlen8_3_7_0 : runl 8 3 7 (0) (63) (.sl 0 0 8 8 false 1) (stA 8 100) = true := by kernel_rfl
theorem rtlen9_1_0_1 : runl 9 1 0 (1) (63) (.sl 0 0 9 9 false 1) (stA 9 100) = true := by kernel_rfl
theorem rtlen9_1_1_0 : runl 9 1 1 (0) (63) (.sl 0 0 9 9 false 1) (stA 9 100) = true := by kernel_rfl
theorem rtlen9_2_1_1 : runl 9 2 1 (1) (255) (.sl 0 0 9 9 false 1) (stA 9 100) = true := by kernel_rfl
theorem rtlen9_2_2_1 : runl 9 2 2 (1) (63) (.sl 0 0 9 9 false 1) (stA 9 100) = true := by kernel_rfl
theorem rtlen9_2_3_0 : runl 9 2 3 (0) (63) (.sl 0 0 9 9 false 1) (stA 9 100) = true := by kernel_rfl
theorem rtlen9_3_1_1 : runl 9 3 1 (1) (255) (.sl 0 0 9 9 false 1) (stA 9 100) = true := by kernel_rfl
theorem rtlen9_3_3_1 : runl 9 3 3 (1) (255) (.sl 0 0 9 9 false 1) (stA 9 100) = true := by kernel_rfl
theorem rtlen9_3_4_1 : runl 9 3 4 (1) (63) (.sl 0 0 9 9 false 1) (stA 9 100) = true := by kernel_rfl
theorem rtlen9_3_6_64 : runl 9 3 6 (64) (255) (.sl 0 0 9 9 false 1) (stA 9 100) = true := by kernel_rfl
theorem rtlen9_3_7_64 : runl 9 3 7 (64) (255) (.sl 0 0 9 9 false 1) (stA 9 100) = true := by kernel_rfl
theorem rtlen10_0_0_0 : runl 10 0 0 (0) (63) (.sl 0 0 10 10 false 1) (stA 10 100) = true := by kernel_rfl
theorem rtlen10_1_1_64 : runl 10 1 1 (64) (255) (.sl 0 0 10 10 false 1) (stA 10 100) = true := by kernel_rfl
theorem rtlen10_2_0_1 : runl 10 2 0 (1) (63) (.sl 0 0 10 10 false 1) (stA 10 100) = true := by kernel_rfl
theorem rtlen10_2_2_64 : runl 10 2 2 (64) (255) (.sl 0 0 10 10 false 1) (stA 10 100) = true := by kernel_rfl
theorem rtlen10_2_3_64 : runl 10 2 3 (64) (255) (.sl 0 0 10 10 false 1) (stA 10 100) = true := by kernel_rfl
theorem rtlen10_3_0_1 : runl 10 3 0 (1) (63) (.sl 0 0 10 10 false 1) (stA 10 100) = true := by kernel_rfl
theorem rtlen10_3_2_1 : runl 10 3 2 (1) (255) (.sl 0 0 10 10 false 1) (stA 10 100) = true := by kernel_rfl
theorem rtlen10_3_4_64 : runl 10 3 4 (64) (255) (.sl 0 0 10 10 false 1) (stA 10 100) = true := by kernel_rfl
theorem rtlen10_3_5_1 : runl 10 3 5 (1) (255) (.sl 0 0 10 10 false 1) (stA 10 100) = true := by kernel_rfl
theorem rtlen10_3_6_1 : runl 10 3 6 (1) (63) (.sl 0 0 10 10 false 1) (stA 10 100) = true := by kernel_rfl
theorem rtlen10_3_7_0 : runl 10 3 7 (0) (63) (.sl 0 0 10 10 false 1) (stA 10 100) = true := by kernel_rfl
theorem rtlen11_1_0_1 : runl 11 1 0 (1) (63) (.sl 0 0 11 11 false 1) (stA 11 100) = true := by kernel_rfl
theorem rtlen11_1_1_0 : runl 11 1 1 (0) (63) (.sl 0 0 11 11 false 1) (stA 11 100) = true := by kernel_rfl
theorem rtlen11_2_1_1 : runl 11 2 1 (1) (255) (.sl 0 0 11 11 false 1) (stA 11 100) = true := by kernel_rfl
theorem rtlen11_2_2_1 : runl 11 2 2 (1) (63) (.sl 0 0 11 11 false 1) (stA 11 100) = true := by kernel_rfl
theorem rtlen11_2_3_0 : runl 11 2 3 (0) (63) (.sl 0 0 11 11 false 1) (stA 11 100) = true := by kernel_rfl
theorem rtlen11_3_1_1 : runl 11 3 1 (1) (255) (.sl 0 0 11 11 false 1) (stA 11 100) = true := by kernel_rfl
theorem rtlen11_3_3_1 : runl 11 3 3 (1) (255) (.sl 0 0 11 11 false 1) (stA 11 100) = true := by kernel_rfl
theorem rtlen11_3_4_1 : runl 11 3 4 (1) (63) (.sl 0 0 11 11 false 1) (stA 11 100) = true := by kernel_rfl
theorem rtlen11_3_6_64 : runl 11 3 6 (64) (255) (.sl 0 0 11 11 false 1) (stA 11 100) = true := by kernel_rfl
theorem rtlen11_3_7_64 : runl 11 3 7 (64) (255) (.sl 0 0 11 11 false 1) (stA 11 100) = true := by kernel_rfl
theorem rtarg_0_0_0 : runl 12 0 0 (0) (63) (markV 0 12 (.s [(90, 1)] 0) 1) (stA 12 100) = true := by kernel_rfl
theorem rtarg_1_1_64 : runl 12 1 1 (64) (255) (markV 0 12 (.s [(90, 1)] 0) 1) (stA 12 100) = true := by kernel_rfl
theorem rtarg_2_0_1 : runl 12 2 0 (1) (63) (markV 0 12 (.s [(90, 1)] 0) 1) (stA 12 100) = true := by kernel_rfl
theorem rtarg_2_2_64 : runl 12 2 2 (64) (255) (markV 0 12 (.s [(90, 1)] 0) 1) (stA 12 100) = true := by kernel_rfl
theorem rtarg_2_3_64 : runl 12 2 3 (64) (255) (markV 0 12 (.s [(90, 1)] 0) 1) (stA 12 100) = true := by kernel_rfl
theorem rtarg_3_0_1 : runl 12 3 0 (1) (63) (markV 0 12 (.s [(90, 1)] 0) 1) (stA 12 100) = true := by kernel_rfl
theorem rtarg_3_2_1 : runl 12 3 2 (1) (255) (markV 0 12 (.s [(90, 1)] 0) 1) (stA 12 100) = true := by kernel_rfl
theorem rtarg_3_4_64 : runl 12 3 4 (64) (255) (markV 0 12 (.s [(90, 1)] 0) 1) (stA 12 100) = true := by kernel_rfl
theorem rtarg_3_5_1 : runl 12 3 5 (1) (255) (markV 0 12 (.s [(90, 1)] 0) 1) (stA 12 100) = true := by kernel_rfl
theorem rtarg_3_6_1 : runl 12 3 6 (1) (63) (markV 0 12 (.s [(90, 1)] 0) 1) (stA 12 100) = true := by kernel_rfl
theorem rtarg_3_7_0 : runl 12 3 7 (0) (63) (markV 0 12 (.s [(90, 1)] 0) 1) (stA 12 100) = true := by kernel_rfl
end Go.Proofs.Ytmbimlnanfholaa.vintLeadRun
