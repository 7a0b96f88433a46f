/- Rounds of the law MeterCounts. -/
import Derived.Test.YtmbimlnanfholaaMeterCountsHook
namespace Go.Proofs.Ytmbimlnanfholaa.meterCountsRun
open Go.Vm Go.RowKit
set_option linter.unusedVariables false
set_option linter.unusedSimpArgs false
set_option maxRecDepth 1000000
theorem r0_2 : rnds 0 2 = true := by kernel_rfl
theorem r0_6 : rnds 0 6 = true := by kernel_rfl
theorem r0_10 : rnds 0 10 = true := by kernel_rfl
theorem r1_3 : rnds 1 3 = true := by kernel_rfl
theorem r1_7 : rnds 1 7 = true := by kernel_rfl
theorem r2_0 : rnds 2 0 = true := by kernel_rfl
theorem r2_4 : rnds 2 4 = true := by kernel_rfl
theorem r2_8 : rnds 2 8 = true := by kernel_rfl
theorem r3_1 : rnds 3 1 = true := by kernel_rfl
theorem r3_5 : rnds 3 5 = true := by kernel_rfl
theorem r3_9 : rnds 3 9 = true := by kernel_rfl
theorem r4_2 : rnds 4 2 = true := by kernel_rfl
theorem r4_6 : rnds 4 6 = true := by kernel_rfl
theorem r4_10 : rnds 4 10 = true := by kernel_rfl
theorem r5_3 : rnds 5 3 = true := by kernel_rfl
theorem r5_7 : rnds 5 7 = true := by kernel_rfl
theorem r6_0 : rnds 6 0 = true := by kernel_rfl
theorem r6_4 : rnds 6 4 = true := by kernel_rfl
theorem r6_8 : rnds 6 8 = true := by kernel_rfl
theorem r7_1 : rnds 7 1 = true := by kernel_rfl
theorem r7_5 : rnds 7 5 = true := by kernel_rfl
theorem r7_9 : rnds 7 9 = true := by kernel_rfl
theorem r8_2 : rnds 8 2 = true := by kernel_rfl
theorem r8_6 : rnds 8 6 = true := by kernel_rfl
theorem r8_10 : rnds 8 10 = true := by kernel_rfl
theorem r9_3 : rnds 9 3 = true := by kernel_rfl
theorem r9_7 : rnds 9 7 = true := by kernel_rfl
theorem r10_0 : rnds 10 0 = true := by kernel_rfl
theorem r10_4 : rnds 10 4 = true := by kernel_rfl
theorem r10_8 : rnds 10 8 = true := by kernel_rfl
theorem r11_1 : rnds 11 1 = true := by kernel_rfl
theorem r11_5 : rnds 11 5 = true := by kernel_rfl
theorem r11_9 : rnds 11 9 = true := by kernel_rfl
theorem r12_2 : rnds 12 2 = true := by kernel_rfl
theorem r12_6 : rnds 12 6 = true := by kernel_rfl
theorem r12_10 : rnds 12 10 = true := by kernel_rfl
theorem r13_3 : rnds 13 3 = true := by kernel_rfl
theorem r13_7 : rnds 13 7 = true := by kernel_rfl
theorem r14_0 : rnds 14 0 = true := by kernel_rfl
theorem r14_4 : rnds 14 4 = true := by kernel_rfl
theorem r14_8 : rnds 14 8 = true := by kernel_rfl
theorem r15_1 : rnds 15 1 = true := by kernel_rfl
theorem r15_5 : rnds 15 5 = true := by kernel_rfl
theorem r15_9 : rnds 15 9 = true := by kernel_rfl
theorem r16_2 : rnds 16 2 = true := by kernel_rfl
theorem r16_6 : rnds 16 6 = true := by kernel_rfl
theorem r16_10 : rnds 16 10 = true := by kernel_rfl
theorem r17_3 : rnds 17 3 = true := by kernel_rfl
theorem r17_7 : rnds 17 7 = true := by kernel_rfl
theorem r18_0 : rnds 18 0 = true := by kernel_rfl
theorem r18_4 : rnds 18 4 = true := by kernel_rfl
theorem r18_8 : rnds 18 8 = true := by kernel_rfl
theorem r19_1 : rnds 19 1 = true := by kernel_rfl
theorem r19_5 : rnds 19 5 = true := by kernel_rfl
theorem r19_9 : rnds 19 9 = true := by kernel_rfl
theorem r20_2 : rnds 20 2 = true := by kernel_rfl
theorem r20_6 : rnds 20 6 = true := by kernel_rfl
theorem r20_10 : rnds 20 10 = true := by kernel_rfl
theorem r21_3 : rnds 21 3 = true := by kernel_rfl
theorem r21_7 : rnds 21 7 = true := by kernel_rfl
theorem r22_0 : rnds 22 0 = true := by kernel_rfl
theorem r22_4 : rnds 22 4 = true := by kernel_rfl
theorem r22_8 : rnds 22 8 = true := by kernel_rfl
theorem r23_1 : rnds 23 1 = true := by kernel_rfl
theorem r23_5 : rnds 23 5 = true := by kernel_rfl
theorem r23_9 : rnds 23 9 = true := by kernel_rfl
theorem xa3 : exA 3 = true := by kernel_rfl
theorem xa7 : exA 7 = true := by kernel_rfl
theorem xa11 : exA 11 = true := by kernel_rfl
theorem xa15 : exA 15 = true := by kernel_rfl
theorem xa19 : exA 19 = true := by kernel_rfl
theorem xa23 : exA 23 = true := by kernel_rfl
theorem xb3 : exB 3 = true := by kernel_rfl
theorem xb7 : exB 7 = true := by kernel_rfl
theorem xb11 : exB 11 = true := by kernel_rfl
theorem xb15 : exB 15 = true := by kernel_rfl
theorem xb19 : exB 19 = true := by kernel_rfl
theorem xb23 : exB 23 = true := by kernel_rfl
theorem sm0 : sml .nils .nils st0 = true := by kernel_rfl
theorem sm4 : sml .emp .emp st0 = true := by kernel_rfl
end Go.Proofs.Ytmbimlnanfholaa.meterCountsRun
