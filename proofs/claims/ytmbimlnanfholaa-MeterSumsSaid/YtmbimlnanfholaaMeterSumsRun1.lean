/- Runs of the law MeterSums. -/
import Derived.Test.YtmbimlnanfholaaMeterSumsHook
namespace Go.Proofs.Ytmbimlnanfholaa.meterSumsRun
open Go.Vm Go.RowKit
set_option linter.unusedVariables false
set_option linter.unusedSimpArgs false
set_option maxRecDepth 1000000
theorem rtnil_1 : runm 1 false .nils st0 = true := by kernel_rfl
theorem rtnil_3 : runm 3 false .nils st0 = true := by kernel_rfl
theorem rtnil_5 : runm 5 false .nils st0 = true := by kernel_rfl
theorem rtnil_7 : runm 7 false .nils st0 = true := by kernel_rfl
theorem rtemp_1 : runm 1 false .emp st0 = true := by kernel_rfl
theorem rtemp_3 : runm 3 false .emp st0 = true := by kernel_rfl
theorem rtemp_5 : runm 5 false .emp st0 = true := by kernel_rfl
theorem rtemp_7 : runm 7 false .emp st0 = true := by kernel_rfl
theorem rtlen1_1 : runm 1 false (.sl 0 0 1 1 false 1) (stAI 1 100) = true := by kernel_rfl
theorem rtlen1_3 : runm 3 false (.sl 0 0 1 1 false 1) (stAI 1 100) = true := by kernel_rfl
theorem rtlen1_5 : runm 5 false (.sl 0 0 1 1 false 1) (stAI 1 100) = true := by kernel_rfl
theorem rtlen1_7 : runm 7 false (.sl 0 0 1 1 false 1) (stAI 1 100) = true := by kernel_rfl
theorem rtlen2_1 : runm 1 false (.sl 0 0 2 2 false 1) (stAI 2 100) = true := by kernel_rfl
theorem rtlen2_3 : runm 3 false (.sl 0 0 2 2 false 1) (stAI 2 100) = true := by kernel_rfl
theorem rtlen2_5 : runm 5 false (.sl 0 0 2 2 false 1) (stAI 2 100) = true := by kernel_rfl
theorem rtlen2_7 : runm 7 false (.sl 0 0 2 2 false 1) (stAI 2 100) = true := by kernel_rfl
theorem rtlen3_1 : runm 1 false (.sl 0 0 3 3 false 1) (stAI 3 100) = true := by kernel_rfl
theorem rtlen3_3 : runm 3 false (.sl 0 0 3 3 false 1) (stAI 3 100) = true := by kernel_rfl
theorem rtlen3_5 : runm 5 false (.sl 0 0 3 3 false 1) (stAI 3 100) = true := by kernel_rfl
theorem rtlen3_7 : runm 7 false (.sl 0 0 3 3 false 1) (stAI 3 100) = true := by kernel_rfl
theorem rtlen4_1 : runm 1 false (.sl 0 0 4 4 false 1) (stAI 4 100) = true := by kernel_rfl
theorem rtlen4_3 : runm 3 false (.sl 0 0 4 4 false 1) (stAI 4 100) = true := by kernel_rfl
theorem rtlen4_5 : runm 5 false (.sl 0 0 4 4 false 1) (stAI 4 100) = true := by kernel_rfl
theorem rtlen4_7 : runm 7 false (.sl 0 0 4 4 false 1) (stAI 4 100) = true := by kernel_rfl
theorem rtlen5_1 : runm 1 false (.sl 0 0 5 5 false 1) (stAI 5 100) = true := by kernel_rfl
theorem rtlen5_3 : runm 3 false (.sl 0 0 5 5 false 1) (stAI 5 100) = true := by kernel_rfl
theorem rtlen5_5 : runm 5 false (.sl 0 0 5 5 false 1) (stAI 5 100) = true := by kernel_rfl
theorem rtlen5_7 : runm 7 false (.sl 0 0 5 5 false 1) (stAI 5 100) = true := by kernel_rfl
theorem rtlen6_1 : runm 1 false (.sl 0 0 6 6 false 1) (stAI 6 100) = true := by kernel_rfl
theorem rtlen6_3 : runm 3 false (.sl 0 0 6 6 false 1) (stAI 6 100) = true := by kernel_rfl
theorem rtlen6_5 : runm 5 false (.sl 0 0 6 6 false 1) (stAI 6 100) = true := by kernel_rfl
theorem rtlen6_7 : runm 7 false (.sl 0 0 6 6 false 1) (stAI 6 100) = true := by kernel_rfl
theorem rtlen7_1 : runm 1 false (.sl 0 0 7 7 false 1) (stAI 7 100) = true := by kernel_rfl
theorem rtlen7_3 : runm 3 false (.sl 0 0 7 7 false 1) (stAI 7 100) = true := by kernel_rfl
theorem rtlen7_5 : runm 5 false (.sl 0 0 7 7 false 1) (stAI 7 100) = true := by kernel_rfl
theorem rtlen7_7 : runm 7 false (.sl 0 0 7 7 false 1) (stAI 7 100) = true := by kernel_rfl
theorem rtlen8_1 : runm 1 false (.sl 0 0 8 8 false 1) (stAI 8 100) = true := by kernel_rfl
theorem rtlen8_3 : runm 3 false (.sl 0 0 8 8 false 1) (stAI 8 100) = true := by kernel_rfl
theorem rtlen8_5 : runm 5 false (.sl 0 0 8 8 false 1) (stAI 8 100) = true := by kernel_rfl
theorem rtlen8_7 : runm 7 false (.sl 0 0 8 8 false 1) (stAI 8 100) = true := by kernel_rfl
theorem rtlen9_1 : runm 1 false (.sl 0 0 9 9 false 1) (stAI 9 100) = true := by kernel_rfl
theorem rtlen9_3 : runm 3 false (.sl 0 0 9 9 false 1) (stAI 9 100) = true := by kernel_rfl
theorem rtlen9_5 : runm 5 false (.sl 0 0 9 9 false 1) (stAI 9 100) = true := by kernel_rfl
theorem rtlen9_7 : runm 7 false (.sl 0 0 9 9 false 1) (stAI 9 100) = true := by kernel_rfl
theorem rtlen10_1 : runm 1 false (.sl 0 0 10 10 false 1) (stAI 10 100) = true := by kernel_rfl
theorem rtlen10_3 : runm 3 false (.sl 0 0 10 10 false 1) (stAI 10 100) = true := by kernel_rfl
theorem rtlen10_5 : runm 5 false (.sl 0 0 10 10 false 1) (stAI 10 100) = true := by kernel_rfl
theorem rtlen10_7 : runm 7 false (.sl 0 0 10 10 false 1) (stAI 10 100) = true := by kernel_rfl
theorem rtlen11_1 : runm 1 false (.sl 0 0 11 11 false 1) (stAI 11 100) = true := by kernel_rfl
theorem rtlen11_3 : runm 3 false (.sl 0 0 11 11 false 1) (stAI 11 100) = true := by kernel_rfl
theorem rtlen11_5 : runm 5 false (.sl 0 0 11 11 false 1) (stAI 11 100) = true := by kernel_rfl
theorem rtlen11_7 : runm 7 false (.sl 0 0 11 11 false 1) (stAI 11 100) = true := by kernel_rfl
theorem rtlen12_1 : runm 1 false (.sl 0 0 12 12 false 1) (stAI 12 100) = true := by kernel_rfl
theorem rtlen12_3 : runm 3 false (.sl 0 0 12 12 false 1) (stAI 12 100) = true := by kernel_rfl
theorem rtlen12_5 : runm 5 false (.sl 0 0 12 12 false 1) (stAI 12 100) = true := by kernel_rfl
theorem rtlen12_7 : runm 7 false (.sl 0 0 12 12 false 1) (stAI 12 100) = true := by kernel_rfl
theorem rtlen13_1 : runm 1 false (.sl 0 0 13 13 false 1) (stAI 13 100) = true := by kernel_rfl
theorem rtlen13_3 : runm 3 false (.sl 0 0 13 13 false 1) (stAI 13 100) = true := by kernel_rfl
theorem rtlen13_5 : runm 5 false (.sl 0 0 13 13 false 1) (stAI 13 100) = true := by kernel_rfl
theorem rtlen13_7 : runm 7 false (.sl 0 0 13 13 false 1) (stAI 13 100) = true := by kernel_rfl
theorem rtlen14_1 : runm 1 false (.sl 0 0 14 14 false 1) (stAI 14 100) = true := by kernel_rfl
theorem rtlen14_3 : runm 3 false (.sl 0 0 14 14 false 1) (stAI 14 100) = true := by kernel_rfl
theorem rtlen14_5 : runm 5 false (.sl 0 0 14 14 false 1) (stAI 14 100) = true := by kernel_rfl
theorem rtlen14_7 : runm 7 false (.sl 0 0 14 14 false 1) (stAI 14 100) = true := by kernel_rfl
theorem rtlen15_1 : runm 1 false (.sl 0 0 15 15 false 1) (stAI 15 100) = true := by kernel_rfl
theorem rtlen15_3 : runm 3 false (.sl 0 0 15 15 false 1) (stAI 15 100) = true := by kernel_rfl
theorem rtlen15_5 : runm 5 false (.sl 0 0 15 15 false 1) (stAI 15 100) = true := by kernel_rfl
theorem rtlen15_7 : runm 7 false (.sl 0 0 15 15 false 1) (stAI 15 100) = true := by kernel_rfl
theorem rtlen16_1 : runm 1 false (.sl 0 0 16 16 false 1) (stAI 16 100) = true := by kernel_rfl
theorem rtlen16_3 : runm 3 false (.sl 0 0 16 16 false 1) (stAI 16 100) = true := by kernel_rfl
theorem rtlen16_5 : runm 5 false (.sl 0 0 16 16 false 1) (stAI 16 100) = true := by kernel_rfl
theorem rtlen16_7 : runm 7 false (.sl 0 0 16 16 false 1) (stAI 16 100) = true := by kernel_rfl
theorem rtlen17_1 : runm 1 false (.sl 0 0 17 17 false 1) (stAI 17 100) = true := by kernel_rfl
theorem rtlen17_3 : runm 3 false (.sl 0 0 17 17 false 1) (stAI 17 100) = true := by kernel_rfl
theorem rtlen17_5 : runm 5 false (.sl 0 0 17 17 false 1) (stAI 17 100) = true := by kernel_rfl
theorem rtlen17_7 : runm 7 false (.sl 0 0 17 17 false 1) (stAI 17 100) = true := by kernel_rfl
theorem rtlen18_1 : runm 1 false (.sl 0 0 18 18 false 1) (stAI 18 100) = true := by kernel_rfl
theorem rtlen18_3 : runm 3 false (.sl 0 0 18 18 false 1) (stAI 18 100) = true := by kernel_rfl
theorem rtlen18_5 : runm 5 false (.sl 0 0 18 18 false 1) (stAI 18 100) = true := by kernel_rfl
theorem rtlen18_7 : runm 7 false (.sl 0 0 18 18 false 1) (stAI 18 100) = true := by kernel_rfl
theorem rtlen19_1 : runm 1 false (.sl 0 0 19 19 false 1) (stAI 19 100) = true := by kernel_rfl
theorem rtlen19_3 : runm 3 false (.sl 0 0 19 19 false 1) (stAI 19 100) = true := by kernel_rfl
theorem rtlen19_5 : runm 5 false (.sl 0 0 19 19 false 1) (stAI 19 100) = true := by kernel_rfl
theorem rtlen19_7 : runm 7 false (.sl 0 0 19 19 false 1) (stAI 19 100) = true := by kernel_rfl
theorem rtlen20_1 : runm 1 false (.sl 0 0 20 20 false 1) (stAI 20 100) = true := by kernel_rfl
theorem rtlen20_3 : runm 3 false (.sl 0 0 20 20 false 1) (stAI 20 100) = true := by kernel_rfl
theorem rtlen20_5 : runm 5 false (.sl 0 0 20 20 false 1) (stAI 20 100) = true := by kernel_rfl
theorem rtlen20_7 : runm 7 false (.sl 0 0 20 20 false 1) (stAI 20 100) = true := by kernel_rfl
theorem rtarg_1 : runm 1 true (markV 0 20 (.s [(90, 1)] 0) 1) (stAI 20 100) = true := by kernel_rfl
theorem rtarg_3 : runm 3 true (markV 0 20 (.s [(90, 1)] 0) 1) (stAI 20 100) = true := by kernel_rfl
theorem rtarg_5 : runm 5 true (markV 0 20 (.s [(90, 1)] 0) 1) (stAI 20 100) = true := by kernel_rfl
theorem rtarg_7 : runm 7 true (markV 0 20 (.s [(90, 1)] 0) 1) (stAI 20 100) = true := by kernel_rfl
end Go.Proofs.Ytmbimlnanfholaa.meterSumsRun
