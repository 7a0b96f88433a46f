/- Runs of the law MeterSums. -/
import Derived.Test.YtmbimlnanfholaaMeterSumsHook
namespace Go.Proofs.Ytmbimlnanfholaa.meterSumsRun
open Go.Vm Go.RowKit
set_option linter.unusedVariables false
set_option linter.unusedSimpArgs false
set_option maxRecDepth 1000000
theorem rtnil_0 : runm 0 false .nils st0 = true := by kernel_rfl
theorem rtnil_2 : runm 2 false .nils st0 = true := by kernel_rfl
theorem rtnil_4 : runm 4 false .nils st0 = true := by kernel_rfl
theorem rtnil_6 : runm 6 false .nils st0 = true := by kernel_rfl
theorem rtemp_0 : runm 0 false .emp st0 = true := by kernel_rfl
theorem rtemp_2 : runm 2 false .emp st0 = true := by kernel_rfl
theorem rtemp_4 : runm 4 false .emp st0 = true := by kernel_rfl
theorem rtemp_6 : runm 6 false .emp st0 = true := by kernel_rfl
theorem rtlen1_0 : runm 0 false (.sl 0 0 1 1 false 1) (stAI 1 100) = true := by kernel_rfl
theorem rtlen1_2 : runm 2 false (.sl 0 0 1 1 false 1) (stAI 1 100) = true := by kernel_rfl
theorem rtlen1_4 : runm 4 false (.sl 0 0 1 1 false 1) (stAI 1 100) = true := by kernel_rfl
theorem rtlen1_6 : runm 6 false (.sl 0 0 1 1 false 1) (stAI 1 100) = true := by kernel_rfl
theorem rtlen2_0 : runm 0 false (.sl 0 0 2 2 false 1) (stAI 2 100) = true := by kernel_rfl
theorem rtlen2_2 : runm 2 false (.sl 0 0 2 2 false 1) (stAI 2 100) = true := by kernel_rfl
theorem rtlen2_4 : runm 4 false (.sl 0 0 2 2 false 1) (stAI 2 100) = true := by kernel_rfl
theorem rtlen2_6 : runm 6 false (.sl 0 0 2 2 false 1) (stAI 2 100) = true := by kernel_rfl
theorem rtlen3_0 : runm 0 false (.sl 0 0 3 3 false 1) (stAI 3 100) = true := by kernel_rfl
theorem rtlen3_2 : runm 2 false (.sl 0 0 3 3 false 1) (stAI 3 100) = true := by kernel_rfl
theorem rtlen3_4 : runm 4 false (.sl 0 0 3 3 false 1) (stAI 3 100) = true := by kernel_rfl
theorem rtlen3_6 : runm 6 false (.sl 0 0 3 3 false 1) (stAI 3 100) = true := by kernel_rfl
theorem rtlen4_0 : runm 0 false (.sl 0 0 4 4 false 1) (stAI 4 100) = true := by kernel_rfl
theorem rtlen4_2 : runm 2 false (.sl 0 0 4 4 false 1) (stAI 4 100) = true := by kernel_rfl
theorem rtlen4_4 : runm 4 false (.sl 0 0 4 4 false 1) (stAI 4 100) = true := by kernel_rfl
theorem rtlen4_6 : runm 6 false (.sl 0 0 4 4 false 1) (stAI 4 100) = true := by kernel_rfl
theorem rtlen5_0 : runm 0 false (.sl 0 0 5 5 false 1) (stAI 5 100) = true := by kernel_rfl
theorem rtlen5_2 : runm 2 false (.sl 0 0 5 5 false 1) (stAI 5 100) = true := by kernel_rfl
theorem rtlen5_4 : runm 4 false (.sl 0 0 5 5 false 1) (stAI 5 100) = true := by kernel_rfl
theorem rtlen5_6 : runm 6 false (.sl 0 0 5 5 false 1) (stAI 5 100) = true := by kernel_rfl
theorem rtlen6_0 : runm 0 false (.sl 0 0 6 6 false 1) (stAI 6 100) = true := by kernel_rfl
theorem rtlen6_2 : runm 2 false (.sl 0 0 6 6 false 1) (stAI 6 100) = true := by kernel_rfl
theorem rtlen6_4 : runm 4 false (.sl 0 0 6 6 false 1) (stAI 6 100) = true := by kernel_rfl
theorem rtlen6_6 : runm 6 false (.sl 0 0 6 6 false 1) (stAI 6 100) = true := by kernel_rfl
theorem rtlen7_0 : runm 0 false (.sl 0 0 7 7 false 1) (stAI 7 100) = true := by kernel_rfl
theorem rtlen7_2 : runm 2 false (.sl 0 0 7 7 false 1) (stAI 7 100) = true := by kernel_rfl
theorem rtlen7_4 : runm 4 false (.sl 0 0 7 7 false 1) (stAI 7 100) = true := by kernel_rfl
theorem rtlen7_6 : runm 6 false (.sl 0 0 7 7 false 1) (stAI 7 100) = true := by kernel_rfl
theorem rtlen8_0 : runm 0 false (.sl 0 0 8 8 false 1) (stAI 8 100) = true := by kernel_rfl
theorem rtlen8_2 : runm 2 false (.sl 0 0 8 8 false 1) (stAI 8 100) = true := by kernel_rfl
theorem rtlen8_4 : runm 4 false (.sl 0 0 8 8 false 1) (stAI 8 100) = true := by kernel_rfl
theorem rtlen8_6 : runm 6 false (.sl 0 0 8 8 false 1) (stAI 8 100) = true := by kernel_rfl
theorem rtlen9_0 : runm 0 false (.sl 0 0 9 9 false 1) (stAI 9 100) = true := by kernel_rfl
theorem rtlen9_2 : runm 2 false (.sl 0 0 9 9 false 1) (stAI 9 100) = true := by kernel_rfl
theorem rtlen9_4 : runm 4 false (.sl 0 0 9 9 false 1) (stAI 9 100) = true := by kernel_rfl
theorem rtlen9_6 : runm 6 false (.sl 0 0 9 9 false 1) (stAI 9 100) = true := by kernel_rfl
theorem rtlen10_0 : runm 0 false (.sl 0 0 10 10 false 1) (stAI 10 100) = true := by kernel_rfl
theorem rtlen10_2 : runm 2 false (.sl 0 0 10 10 false 1) (stAI 10 100) = true := by kernel_rfl
theorem rtlen10_4 : runm 4 false (.sl 0 0 10 10 false 1) (stAI 10 100) = true := by kernel_rfl
theorem rtlen10_6 : runm 6 false (.sl 0 0 10 10 false 1) (stAI 10 100) = true := by kernel_rfl
theorem rtlen11_0 : runm 0 false (.sl 0 0 11 11 false 1) (stAI 11 100) = true := by kernel_rfl
theorem rtlen11_2 : runm 2 false (.sl 0 0 11 11 false 1) (stAI 11 100) = true := by kernel_rfl
theorem rtlen11_4 : runm 4 false (.sl 0 0 11 11 false 1) (stAI 11 100) = true := by kernel_rfl
theorem rtlen11_6 : runm 6 false (.sl 0 0 11 11 false 1) (stAI 11 100) = true := by kernel_rfl
theorem rtlen12_0 : runm 0 false (.sl 0 0 12 12 false 1) (stAI 12 100) = true := by kernel_rfl
theorem rtlen12_2 : runm 2 false (.sl 0 0 12 12 false 1) (stAI 12 100) = true := by kernel_rfl
theorem rtlen12_4 : runm 4 false (.sl 0 0 12 12 false 1) (stAI 12 100) = true := by kernel_rfl
theorem rtlen12_6 : runm 6 false (.sl 0 0 12 12 false 1) (stAI 12 100) = true := by kernel_rfl
theorem rtlen13_0 : runm 0 false (.sl 0 0 13 13 false 1) (stAI 13 100) = true := by kernel_rfl
theorem rtlen13_2 : runm 2 false (.sl 0 0 13 13 false 1) (stAI 13 100) = true := by kernel_rfl
theorem rtlen13_4 : runm 4 false (.sl 0 0 13 13 false 1) (stAI 13 100) = true := by kernel_rfl
theorem rtlen13_6 : runm 6 false (.sl 0 0 13 13 false 1) (stAI 13 100) = true := by kernel_rfl
theorem rtlen14_0 : runm 0 false (.sl 0 0 14 14 false 1) (stAI 14 100) = true := by kernel_rfl
theorem rtlen14_2 : runm 2 false (.sl 0 0 14 14 false 1) (stAI 14 100) = true := by kernel_rfl
theorem rtlen14_4 : runm 4 false (.sl 0 0 14 14 false 1) (stAI 14 100) = true := by kernel_rfl
theorem rtlen14_6 : runm 6 false (.sl 0 0 14 14 false 1) (stAI 14 100) = true := by kernel_rfl
theorem rtlen15_0 : runm 0 false (.sl 0 0 15 15 false 1) (stAI 15 100) = true := by kernel_rfl
theorem rtlen15_2 : runm 2 false (.sl 0 0 15 15 false 1) (stAI 15 100) = true := by kernel_rfl
theorem rtlen15_4 : runm 4 false (.sl 0 0 15 15 false 1) (stAI 15 100) = true := by kernel_rfl
theorem rtlen15_6 : runm 6 false (.sl 0 0 15 15 false 1) (stAI 15 100) = true := by kernel_rfl
theorem rtlen16_0 : runm 0 false (.sl 0 0 16 16 false 1) (stAI 16 100) = true := by kernel_rfl
theorem rtlen16_2 : runm 2 false (.sl 0 0 16 16 false 1) (stAI 16 100) = true := by kernel_rfl
theorem rtlen16_4 : runm 4 false (.sl 0 0 16 16 false 1) (stAI 16 100) = true := by kernel_rfl
theorem rtlen16_6 : runm 6 false (.sl 0 0 16 16 false 1) (stAI 16 100) = true := by kernel_rfl
theorem rtlen17_0 : runm 0 false (.sl 0 0 17 17 false 1) (stAI 17 100) = true := by kernel_rfl
theorem rtlen17_2 : runm 2 false (.sl 0 0 17 17 false 1) (stAI 17 100) = true := by kernel_rfl
theorem rtlen17_4 : runm 4 false (.sl 0 0 17 17 false 1) (stAI 17 100) = true := by kernel_rfl
theorem rtlen17_6 : runm 6 false (.sl 0 0 17 17 false 1) (stAI 17 100) = true := by kernel_rfl
theorem rtlen18_0 : runm 0 false (.sl 0 0 18 18 false 1) (stAI 18 100) = true := by kernel_rfl
theorem rtlen18_2 : runm 2 false (.sl 0 0 18 18 false 1) (stAI 18 100) = true := by kernel_rfl
theorem rtlen18_4 : runm 4 false (.sl 0 0 18 18 false 1) (stAI 18 100) = true := by kernel_rfl
theorem rtlen18_6 : runm 6 false (.sl 0 0 18 18 false 1) (stAI 18 100) = true := by kernel_rfl
theorem rtlen19_0 : runm 0 false (.sl 0 0 19 19 false 1) (stAI 19 100) = true := by kernel_rfl
theorem rtlen19_2 : runm 2 false (.sl 0 0 19 19 false 1) (stAI 19 100) = true := by kernel_rfl
theorem rtlen19_4 : runm 4 false (.sl 0 0 19 19 false 1) (stAI 19 100) = true := by kernel_rfl
theorem rtlen19_6 : runm 6 false (.sl 0 0 19 19 false 1) (stAI 19 100) = true := by kernel_rfl
theorem rtlen20_0 : runm 0 false (.sl 0 0 20 20 false 1) (stAI 20 100) = true := by kernel_rfl
theorem rtlen20_2 : runm 2 false (.sl 0 0 20 20 false 1) (stAI 20 100) = true := by kernel_rfl
theorem rtlen20_4 : runm 4 false (.sl 0 0 20 20 false 1) (stAI 20 100) = true := by kernel_rfl
theorem rtlen20_6 : runm 6 false (.sl 0 0 20 20 false 1) (stAI 20 100) = true := by kernel_rfl
theorem rtarg_0 : runm 0 true (markV 0 20 (.s [(90, 1)] 0) 1) (stAI 20 100) = true := by kernel_rfl
theorem rtarg_2 : runm 2 true (markV 0 20 (.s [(90, 1)] 0) 1) (stAI 20 100) = true := by kernel_rfl
theorem rtarg_4 : runm 4 true (markV 0 20 (.s [(90, 1)] 0) 1) (stAI 20 100) = true := by kernel_rfl
theorem rtarg_6 : runm 6 true (markV 0 20 (.s [(90, 1)] 0) 1) (stAI 20 100) = true := by kernel_rfl
end Go.Proofs.Ytmbimlnanfholaa.meterSumsRun
