/- Rounds of the law MeterCounts. -/
import Derived.Test.YtmbimlnanfholaaMeterCountsHook
namespace Go.Proofs.Ytmbimlnanfholaa.meterCountsRun
open Go.Vm Go.RowKit
set_option linter.unusedVariables false
set_option linter.unusedSimpArgs false
set_option maxRecDepth 1000000
theorem r0_3 : rnds 0 3 = true := by kernel_rfl
theorem r0_7 : rnds 0 7 = true := by kernel_rfl
theorem r1_0 : rnds 1 0 = true := by kernel_rfl
theorem r1_4 : rnds 1 4 = true := by kernel_rfl
theorem r1_8 : rnds 1 8 = true := by kernel_rfl
theorem r2_1 : rnds 2 1 = true := by kernel_rfl
theorem r2_5 : rnds 2 5 = true := by kernel_rfl
theorem r2_9 : rnds 2 9 = true := by kernel_rfl
theorem r3_2 : rnds 3 2 = true := by kernel_rfl
theorem r3_6 : rnds 3 6 = true := by kernel_rfl
theorem r3_10 : rnds 3 10 = true := by kernel_rfl
theorem r4_3 : rnds 4 3 = true := by kernel_rfl
theorem r4_7 : rnds 4 7 = true := by kernel_rfl
theorem r5_0 : rnds 5 0 = true := by kernel_rfl
theorem r5_4 : rnds 5 4 = true := by kernel_rfl
theorem r5_8 : rnds 5 8 = true := by kernel_rfl
theorem r6_1 : rnds 6 1 = true := by kernel_rfl
theorem r6_5 : rnds 6 5 = true := by kernel_rfl
theorem r6_9 : rnds 6 9 = true := by kernel_rfl
theorem r7_2 : rnds 7 2 = true := by kernel_rfl
theorem r7_6 : rnds 7 6 = true := by kernel_rfl
theorem r7_10 : rnds 7 10 = true := by kernel_rfl
theorem r8_3 : rnds 8 3 = true := by kernel_rfl
theorem r8_7 : rnds 8 7 = true := by kernel_rfl
theorem r9_0 : rnds 9 0 = true := by kernel_rfl
theorem r9_4 : rnds 9 4 = true := by kernel_rfl
theorem r9_8 : rnds 9 8 = true := by kernel_rfl
theorem r10_1 : rnds 10 1 = true := by kernel_rfl
theorem r10_5 : rnds 10 5 = true := by kernel_rfl
theorem r10_9 : rnds 10 9 = true := by kernel_rfl
theorem r11_2 : rnds 11 2 = true := by kernel_rfl
theorem r11_6 : rnds 11 6 = true := by kernel_rfl
theorem r11_10 : rnds 11 10 = true := by kernel_rfl
theorem r12_3 : rnds 12 3 = true := by kernel_rfl
theorem r12_7 : rnds 12 7 = true := by kernel_rfl
theorem r13_0 : rnds 13 0 = true := by kernel_rfl
theorem r13_4 : rnds 13 4 = true := by kernel_rfl
theorem r13_8 : rnds 13 8 = true := by kernel_rfl
theorem r14_1 : rnds 14 1 = true := by kernel_rfl
theorem r14_5 : rnds 14 5 = true := by kernel_rfl
theorem r14_9 : rnds 14 9 = true := by kernel_rfl
theorem r15_2 : rnds 15 2 = true := by kernel_rfl
theorem r15_6 : rnds 15 6 = true := by kernel_rfl
theorem r15_10 : rnds 15 10 = true := by kernel_rfl
theorem r16_3 : rnds 16 3 = true := by kernel_rfl
theorem r16_7 : rnds 16 7 = true := by kernel_rfl
theorem r17_0 : rnds 17 0 = true := by kernel_rfl
theorem r17_4 : rnds 17 4 = true := by kernel_rfl
theorem r17_8 : rnds 17 8 = true := by kernel_rfl
theorem r18_1 : rnds 18 1 = true := by kernel_rfl
theorem r18_5 : rnds 18 5 = true := by kernel_rfl
theorem r18_9 : rnds 18 9 = true := by kernel_rfl
theorem r19_2 : rnds 19 2 = true := by kernel_rfl
theorem r19_6 : rnds 19 6 = true := by kernel_rfl
theorem r19_10 : rnds 19 10 = true := by kernel_rfl
theorem r20_3 : rnds 20 3 = true := by kernel_rfl
theorem r20_7 : rnds 20 7 = true := by kernel_rfl
theorem r21_0 : rnds 21 0 = true := by kernel_rfl
theorem r21_4 : rnds 21 4 = true := by kernel_rfl
theorem r21_8 : rnds 21 8 = true := by kernel_rfl
theorem r22_1 : rnds 22 1 = true := by kernel_rfl
theorem r22_5 : rnds 22 5 = true := by kernel_rfl
theorem r22_9 : rnds 22 9 = true := by kernel_rfl
theorem r23_2 : rnds 23 2 = true := by kernel_rfl
theorem r23_6 : rnds 23 6 = true := by kernel_rfl
theorem r23_10 : rnds 23 10 = true := by kernel_rfl
theorem xa4 : exA 4 = true := by kernel_rfl
theorem xa8 : exA 8 = true := by kernel_rfl
theorem xa12 : exA 12 = true := by kernel_rfl
theorem xa16 : exA 16 = true := by kernel_rfl
theorem xa20 : exA 20 = true := by kernel_rfl
theorem xa24 : exA 24 = true := by kernel_rfl
theorem xb4 : exB 4 = true := by kernel_rfl
theorem xb8 : exB 8 = true := by kernel_rfl
theorem xb12 : exB 12 = true := by kernel_rfl
theorem xb16 : exB 16 = true := by kernel_rfl
theorem xb20 : exB 20 = true := by kernel_rfl
theorem xb24 : exB 24 = true := by kernel_rfl
theorem sm1 : sml .nils .emp st0 = true := by kernel_rfl
theorem sm5 : sml .emp (markV 0 0 (.s [(91, 1)] 0) 1) (stAI 0 100) = true := by kernel_rfl
end Go.Proofs.Ytmbimlnanfholaa.meterCountsRun
