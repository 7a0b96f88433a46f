/- Rounds of the law MeterCounts. -/
import Derived.Test.YtmbimlnanfholaaMeterCountsHook
namespace Go.Proofs.Ytmbimlnanfholaa.meterCountsRun
open Go.Vm Go.RowKit
set_option linter.unusedVariables false
set_option linter.unusedSimpArgs false
set_option maxRecDepth 1000000
theorem r0_1 : rnds 0 1 = true := by kernel_rfl
theorem r0_5 : rnds 0 5 = true := by kernel_rfl
theorem r0_9 : rnds 0 9 = true := by kernel_rfl
theorem r1_2 : rnds 1 2 = true := by kernel_rfl
theorem r1_6 : rnds 1 6 = true := by kernel_rfl
theorem r1_10 : rnds 1 10 = true := by kernel_rfl
theorem r2_3 : rnds 2 3 = true := by kernel_rfl
theorem r2_7 : rnds 2 7 = true := by kernel_rfl
theorem r3_0 : rnds 3 0 = true := by kernel_rfl
theorem r3_4 : rnds 3 4 = true := by kernel_rfl
theorem r3_8 : rnds 3 8 = true := by kernel_rfl
theorem r4_1 : rnds 4 1 = true := by kernel_rfl
theorem r4_5 : rnds 4 5 = true := by kernel_rfl
theorem r4_9 : rnds 4 9 = true := by kernel_rfl
theorem r5_2 : rnds 5 2 = true := by kernel_rfl
theorem r5_6 : rnds 5 6 = true := by kernel_rfl
theorem r5_10 : rnds 5 10 = true := by kernel_rfl
theorem r6_3 : rnds 6 3 = true := by kernel_rfl
theorem r6_7 : rnds 6 7 = true := by kernel_rfl
theorem r7_0 : rnds 7 0 = true := by kernel_rfl
theorem r7_4 : rnds 7 4 = true := by kernel_rfl
theorem r7_8 : rnds 7 8 = true := by kernel_rfl
theorem r8_1 : rnds 8 1 = true := by kernel_rfl
theorem r8_5 : rnds 8 5 = true := by kernel_rfl
theorem r8_9 : rnds 8 9 = true := by kernel_rfl
theorem r9_2 : rnds 9 2 = true := by kernel_rfl
theorem r9_6 : rnds 9 6 = true := by kernel_rfl
theorem r9_10 : rnds 9 10 = true := by kernel_rfl
theorem r10_3 : rnds 10 3 = true := by kernel_rfl
theorem r10_7 : rnds 10 7 = true := by kernel_rfl
theorem r11_0 : rnds 11 0 = true := by kernel_rfl
theorem r11_4 : rnds 11 4 = true := by kernel_rfl
theorem r11_8 : rnds 11 8 = true := by kernel_rfl
theorem r12_1 : rnds 12 1 = true := by kernel_rfl
theorem r12_5 : rnds 12 5 = true := by kernel_rfl
theorem r12_9 : rnds 12 9 = true := by kernel_rfl
theorem r13_2 : rnds 13 2 = true := by kernel_rfl
theorem r13_6 : rnds 13 6 = true := by kernel_rfl
theorem r13_10 : rnds 13 10 = true := by kernel_rfl
theorem r14_3 : rnds 14 3 = true := by kernel_rfl
theorem r14_7 : rnds 14 7 = true := by kernel_rfl
theorem r15_0 : rnds 15 0 = true := by kernel_rfl
theorem r15_4 : rnds 15 4 = true := by kernel_rfl
theorem r15_8 : rnds 15 8 = true := by kernel_rfl
theorem r16_1 : rnds 16 1 = true := by kernel_rfl
theorem r16_5 : rnds 16 5 = true := by kernel_rfl
theorem r16_9 : rnds 16 9 = true := by kernel_rfl
theorem r17_2 : rnds 17 2 = true := by kernel_rfl
theorem r17_6 : rnds 17 6 = true := by kernel_rfl
theorem r17_10 : rnds 17 10 = true := by kernel_rfl
theorem r18_3 : rnds 18 3 = true := by kernel_rfl
theorem r18_7 : rnds 18 7 = true := by kernel_rfl
theorem r19_0 : rnds 19 0 = true := by kernel_rfl
theorem r19_4 : rnds 19 4 = true := by kernel_rfl
theorem r19_8 : rnds 19 8 = true := by kernel_rfl
theorem r20_1 : rnds 20 1 = true := by kernel_rfl
theorem r20_5 : rnds 20 5 = true := by kernel_rfl
theorem r20_9 : rnds 20 9 = true := by kernel_rfl
theorem r21_2 : rnds 21 2 = true := by kernel_rfl
theorem r21_6 : rnds 21 6 = true := by kernel_rfl
theorem r21_10 : rnds 21 10 = true := by kernel_rfl
theorem r22_3 : rnds 22 3 = true := by kernel_rfl
theorem r22_7 : rnds 22 7 = true := by kernel_rfl
theorem r23_0 : rnds 23 0 = true := by kernel_rfl
theorem r23_4 : rnds 23 4 = true := by kernel_rfl
theorem r23_8 : rnds 23 8 = true := by kernel_rfl
theorem xa2 : exA 2 = true := by kernel_rfl
theorem xa6 : exA 6 = true := by kernel_rfl
theorem xa10 : exA 10 = true := by kernel_rfl
theorem xa14 : exA 14 = true := by kernel_rfl
theorem xa18 : exA 18 = true := by kernel_rfl
theorem xa22 : exA 22 = true := by kernel_rfl
theorem xb2 : exB 2 = true := by kernel_rfl
theorem xb6 : exB 6 = true := by kernel_rfl
theorem xb10 : exB 10 = true := by kernel_rfl
theorem xb14 : exB 14 = true := by kernel_rfl
theorem xb18 : exB 18 = true := by kernel_rfl
theorem xb22 : exB 22 = true := by kernel_rfl
theorem bg : beg = true := by kernel_rfl
theorem sm3 : sml .emp .nils st0 = true := by kernel_rfl
theorem sm7 : sml (markV 0 0 (.s [(90, 1)] 0) 1) .emp (stAI 0 100) = true := by kernel_rfl
end Go.Proofs.Ytmbimlnanfholaa.meterCountsRun
