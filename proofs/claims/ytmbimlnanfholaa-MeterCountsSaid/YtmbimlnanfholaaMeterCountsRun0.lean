/- Rounds of the law MeterCounts. -/
import Derived.Test.YtmbimlnanfholaaMeterCountsHook
namespace Go.Proofs.Ytmbimlnanfholaa.meterCountsRun
open Go.Vm Go.RowKit
set_option linter.unusedVariables false
set_option linter.unusedSimpArgs false
set_option maxRecDepth 1000000
theorem r0_0 : rnds 0 0 = true := by kernel_rfl
theorem r0_4 : rnds 0 4 = true := by kernel_rfl
theorem r0_8 : rnds 0 8 = true := by kernel_rfl
theorem r1_1 : rnds 1 1 = true := by kernel_rfl
theorem r1_5 : rnds 1 5 = true := by kernel_rfl
theorem r1_9 : rnds 1 9 = true := by kernel_rfl
theorem r2_2 : rnds 2 2 = true := by kernel_rfl
theorem r2_6 : rnds 2 6 = true := by kernel_rfl
theorem r2_10 : rnds 2 10 = true := by kernel_rfl
theorem r3_3 : rnds 3 3 = true := by kernel_rfl
theorem r3_7 : rnds 3 7 = true := by kernel_rfl
theorem r4_0 : rnds 4 0 = true := by kernel_rfl
theorem r4_4 : rnds 4 4 = true := by kernel_rfl
theorem r4_8 : rnds 4 8 = true := by kernel_rfl
theorem r5_1 : rnds 5 1 = true := by kernel_rfl
theorem r5_5 : rnds 5 5 = true := by kernel_rfl
theorem r5_9 : rnds 5 9 = true := by kernel_rfl
theorem r6_2 : rnds 6 2 = true := by kernel_rfl
theorem r6_6 : rnds 6 6 = true := by kernel_rfl
theorem r6_10 : rnds 6 10 = true := by kernel_rfl
theorem r7_3 : rnds 7 3 = true := by kernel_rfl
theorem r7_7 : rnds 7 7 = true := by kernel_rfl
theorem r8_0 : rnds 8 0 = true := by kernel_rfl
theorem r8_4 : rnds 8 4 = true := by kernel_rfl
theorem r8_8 : rnds 8 8 = true := by kernel_rfl
theorem r9_1 : rnds 9 1 = true := by kernel_rfl
theorem r9_5 : rnds 9 5 = true := by kernel_rfl
theorem r9_9 : rnds 9 9 = true := by kernel_rfl
theorem r10_2 : rnds 10 2 = true := by kernel_rfl
theorem r10_6 : rnds 10 6 = true := by kernel_rfl
theorem r10_10 : rnds 10 10 = true := by kernel_rfl
theorem r11_3 : rnds 11 3 = true := by kernel_rfl
theorem r11_7 : rnds 11 7 = true := by kernel_rfl
theorem r12_0 : rnds 12 0 = true := by kernel_rfl
theorem r12_4 : rnds 12 4 = true := by kernel_rfl
theorem r12_8 : rnds 12 8 = true := by kernel_rfl
theorem r13_1 : rnds 13 1 = true := by kernel_rfl
theorem r13_5 : rnds 13 5 = true := by kernel_rfl
theorem r13_9 : rnds 13 9 = true := by kernel_rfl
theorem r14_2 : rnds 14 2 = true := by kernel_rfl
theorem r14_6 : rnds 14 6 = true := by kernel_rfl
theorem r14_10 : rnds 14 10 = true := by kernel_rfl
theorem r15_3 : rnds 15 3 = true := by kernel_rfl
theorem r15_7 : rnds 15 7 = true := by kernel_rfl
theorem r16_0 : rnds 16 0 = true := by kernel_rfl
theorem r16_4 : rnds 16 4 = true := by kernel_rfl
theorem r16_8 : rnds 16 8 = true := by kernel_rfl
theorem r17_1 : rnds 17 1 = true := by kernel_rfl
theorem r17_5 : rnds 17 5 = true := by kernel_rfl
theorem r17_9 : rnds 17 9 = true := by kernel_rfl
theorem r18_2 : rnds 18 2 = true := by kernel_rfl
theorem r18_6 : rnds 18 6 = true := by kernel_rfl
theorem r18_10 : rnds 18 10 = true := by kernel_rfl
theorem r19_3 : rnds 19 3 = true := by kernel_rfl
theorem r19_7 : rnds 19 7 = true := by kernel_rfl
theorem r20_0 : rnds 20 0 = true := by kernel_rfl
theorem r20_4 : rnds 20 4 = true := by kernel_rfl
theorem r20_8 : rnds 20 8 = true := by kernel_rfl
theorem r21_1 : rnds 21 1 = true := by kernel_rfl
theorem r21_5 : rnds 21 5 = true := by kernel_rfl
theorem r21_9 : rnds 21 9 = true := by kernel_rfl
theorem r22_2 : rnds 22 2 = true := by kernel_rfl
theorem r22_6 : rnds 22 6 = true := by kernel_rfl
theorem r22_10 : rnds 22 10 = true := by kernel_rfl
theorem r23_3 : rnds 23 3 = true := by kernel_rfl
theorem r23_7 : rnds 23 7 = true := by kernel_rfl
theorem xa1 : exA 1 = true := by kernel_rfl
theorem xa5 : exA 5 = true := by kernel_rfl
theorem xa9 : exA 9 = true := by kernel_rfl
theorem xa13 : exA 13 = true := by kernel_rfl
theorem xa17 : exA 17 = true := by kernel_rfl
theorem xa21 : exA 21 = true := by kernel_rfl
theorem xb1 : exB 1 = true := by kernel_rfl
theorem xb5 : exB 5 = true := by kernel_rfl
theorem xb9 : exB 9 = true := by kernel_rfl
theorem xb13 : exB 13 = true := by kernel_rfl
theorem xb17 : exB 17 = true := by kernel_rfl
theorem xb21 : exB 21 = true := by kernel_rfl
theorem xc : exC = true := by kernel_rfl
theorem sm2 : sml .nils (markV 0 0 (.s [(91, 1)] 0) 1) (stAI 0 100) = true := by kernel_rfl
theorem sm6 : sml (markV 0 0 (.s [(90, 1)] 0) 1) .nils (stAI 0 100) = true := by kernel_rfl
end Go.Proofs.Ytmbimlnanfholaa.meterCountsRun
