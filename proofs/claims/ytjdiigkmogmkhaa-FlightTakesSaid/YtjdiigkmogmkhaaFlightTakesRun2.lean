/- Rounds of the law FlightTakes. -/
import Derived.Test.YtjdiigkmogmkhaaFlightTakesHook
namespace Go.Proofs.Ytjdiigkmogmkhaa.flightTakesRun
open Go.Vm Go.RowKit
set_option linter.unusedVariables false
set_option linter.unusedSimpArgs false
set_option maxRecDepth 1000000
theorem r0_2_1_true : rnd 0 2 1 true = true := by kernel_rfl
theorem r0_4_0_false : rnd 0 4 0 false = true := by kernel_rfl
theorem r0_5_0_true : rnd 0 5 0 true = true := by kernel_rfl
theorem r0_5_4_true : rnd 0 5 4 true = true := by kernel_rfl
theorem r0_6_3_true : rnd 0 6 3 true = true := by kernel_rfl
theorem r0_7_1_false : rnd 0 7 1 false = true := by kernel_rfl
theorem r0_7_5_false : rnd 0 7 5 false = true := by kernel_rfl
theorem r0_8_2_false : rnd 0 8 2 false = true := by kernel_rfl
theorem r0_8_6_false : rnd 0 8 6 false = true := by kernel_rfl
theorem r1_2_1_false : rnd 1 2 1 false = true := by kernel_rfl
theorem r1_4_0_true : rnd 1 4 0 true = true := by kernel_rfl
theorem r1_5_0_false : rnd 1 5 0 false = true := by kernel_rfl
theorem r1_5_4_false : rnd 1 5 4 false = true := by kernel_rfl
theorem r1_6_3_false : rnd 1 6 3 false = true := by kernel_rfl
theorem r1_7_1_true : rnd 1 7 1 true = true := by kernel_rfl
theorem r1_7_5_true : rnd 1 7 5 true = true := by kernel_rfl
theorem r1_8_2_true : rnd 1 8 2 true = true := by kernel_rfl
theorem r1_8_6_true : rnd 1 8 6 true = true := by kernel_rfl
theorem r2_2_1_true : rnd 2 2 1 true = true := by kernel_rfl
theorem r2_4_0_false : rnd 2 4 0 false = true := by kernel_rfl
theorem r2_5_0_true : rnd 2 5 0 true = true := by kernel_rfl
theorem r2_5_4_true : rnd 2 5 4 true = true := by kernel_rfl
theorem r2_6_3_true : rnd 2 6 3 true = true := by kernel_rfl
theorem r2_7_1_false : rnd 2 7 1 false = true := by kernel_rfl
theorem r2_7_5_false : rnd 2 7 5 false = true := by kernel_rfl
theorem r2_8_2_false : rnd 2 8 2 false = true := by kernel_rfl
theorem r2_8_6_false : rnd 2 8 6 false = true := by kernel_rfl
theorem r3_2_1_false : rnd 3 2 1 false = true := by kernel_rfl
theorem r3_4_0_true : rnd 3 4 0 true = true := by kernel_rfl
theorem r3_5_0_false : rnd 3 5 0 false = true := by kernel_rfl
theorem r3_5_4_false : rnd 3 5 4 false = true := by kernel_rfl
theorem r3_6_3_false : rnd 3 6 3 false = true := by kernel_rfl
theorem r3_7_1_true : rnd 3 7 1 true = true := by kernel_rfl
theorem r3_7_5_true : rnd 3 7 5 true = true := by kernel_rfl
theorem r3_8_2_true : rnd 3 8 2 true = true := by kernel_rfl
theorem r3_8_6_true : rnd 3 8 6 true = true := by kernel_rfl
theorem r4_2_1_true : rnd 4 2 1 true = true := by kernel_rfl
theorem r4_4_0_false : rnd 4 4 0 false = true := by kernel_rfl
theorem r4_5_0_true : rnd 4 5 0 true = true := by kernel_rfl
theorem r4_5_4_true : rnd 4 5 4 true = true := by kernel_rfl
theorem r4_6_3_true : rnd 4 6 3 true = true := by kernel_rfl
theorem r4_7_1_false : rnd 4 7 1 false = true := by kernel_rfl
theorem r4_7_5_false : rnd 4 7 5 false = true := by kernel_rfl
theorem r4_8_2_false : rnd 4 8 2 false = true := by kernel_rfl
theorem r4_8_6_false : rnd 4 8 6 false = true := by kernel_rfl
theorem r5_2_1_false : rnd 5 2 1 false = true := by kernel_rfl
theorem r5_4_0_true : rnd 5 4 0 true = true := by kernel_rfl
theorem r5_5_0_false : rnd 5 5 0 false = true := by kernel_rfl
theorem r5_5_4_false : rnd 5 5 4 false = true := by kernel_rfl
theorem r5_6_3_false : rnd 5 6 3 false = true := by kernel_rfl
theorem r5_7_1_true : rnd 5 7 1 true = true := by kernel_rfl
theorem r5_7_5_true : rnd 5 7 5 true = true := by kernel_rfl
theorem r5_8_2_true : rnd 5 8 2 true = true := by kernel_rfl
theorem r5_8_6_true : rnd 5 8 6 true = true := by kernel_rfl
theorem r6_2_1_true : rnd 6 2 1 true = true := by kernel_rfl
theorem r6_4_0_false : rnd 6 4 0 false = true := by kernel_rfl
theorem r6_5_0_true : rnd 6 5 0 true = true := by kernel_rfl
theorem r6_5_4_true : rnd 6 5 4 true = true := by kernel_rfl
theorem r6_6_3_true : rnd 6 6 3 true = true := by kernel_rfl
theorem r6_7_1_false : rnd 6 7 1 false = true := by kernel_rfl
theorem r6_7_5_false : rnd 6 7 5 false = true := by kernel_rfl
theorem r6_8_2_false : rnd 6 8 2 false = true := by kernel_rfl
theorem r6_8_6_false : rnd 6 8 6 false = true := by kernel_rfl
theorem r7_2_1_false : rnd 7 2 1 false = true := by kernel_rfl
theorem r7_4_0_true : rnd 7 4 0 true = true := by kernel_rfl
theorem r7_5_0_false : rnd 7 5 0 false = true := by kernel_rfl
theorem r7_5_4_false : rnd 7 5 4 false = true := by kernel_rfl
theorem r7_6_3_false : rnd 7 6 3 false = true := by kernel_rfl
theorem r7_7_1_true : rnd 7 7 1 true = true := by kernel_rfl
theorem r7_7_5_true : rnd 7 7 5 true = true := by kernel_rfl
theorem r7_8_2_true : rnd 7 8 2 true = true := by kernel_rfl
theorem r7_8_6_true : rnd 7 8 6 true = true := by kernel_rfl
theorem r8_2_1_true : rnd 8 2 1 true = true := by kernel_rfl
theorem r8_4_0_false : rnd 8 4 0 false = true := by kernel_rfl
theorem r8_5_0_true : rnd 8 5 0 true = true := by kernel_rfl
theorem r8_5_4_true : rnd 8 5 4 true = true := by kernel_rfl
theorem r8_6_3_true : rnd 8 6 3 true = true := by kernel_rfl
theorem r8_7_1_false : rnd 8 7 1 false = true := by kernel_rfl
theorem r8_7_5_false : rnd 8 7 5 false = true := by kernel_rfl
theorem r8_8_2_false : rnd 8 8 2 false = true := by kernel_rfl
theorem r8_8_6_false : rnd 8 8 6 false = true := by kernel_rfl
theorem r9_2_1_false : rnd 9 2 1 false = true := by kernel_rfl
theorem r9_4_0_true : rnd 9 4 0 true = true := by kernel_rfl
theorem r9_5_0_false : rnd 9 5 0 false = true := by kernel_rfl
theorem r9_5_4_false : rnd 9 5 4 false = true := by kernel_rfl
theorem r9_6_3_false : rnd 9 6 3 false = true := by kernel_rfl
theorem r9_7_1_true : rnd 9 7 1 true = true := by kernel_rfl
theorem r9_7_5_true : rnd 9 7 5 true = true := by kernel_rfl
theorem r9_8_2_true : rnd 9 8 2 true = true := by kernel_rfl
theorem r9_8_6_true : rnd 9 8 6 true = true := by kernel_rfl
theorem r10_2_1_false : rnd 10 2 1 false = true := by kernel_rfl
theorem r10_4_0_true : rnd 10 4 0 true = true := by kernel_rfl
theorem r10_5_0_false : rnd 10 5 0 false = true := by kernel_rfl
theorem r10_5_4_false : rnd 10 5 4 false = true := by kernel_rfl
theorem r10_6_3_false : rnd 10 6 3 false = true := by kernel_rfl
theorem r10_7_1_true : rnd 10 7 1 true = true := by kernel_rfl
theorem r10_7_5_true : rnd 10 7 5 true = true := by kernel_rfl
theorem r10_8_2_true : rnd 10 8 2 true = true := by kernel_rfl
theorem r10_8_6_true : rnd 10 8 6 true = true := by kernel_rfl
theorem r11_2_1_true : rnd 11 2 1 true = true := by kernel_rfl
theorem r11_4_0_false : rnd 11 4 0 false = true := by kernel_rfl
theorem r11_5_0_true : rnd 11 5 0 true = true := by kernel_rfl
theorem r11_5_4_true : rnd 11 5 4 true = true := by kernel_rfl
theorem r11_6_3_true : rnd 11 6 3 true = true := by kernel_rfl
theorem r11_7_1_false : rnd 11 7 1 false = true := by kernel_rfl
theorem r11_7_5_false : rnd 11 7 5 false = true := by kernel_rfl
theorem r11_8_2_false : rnd 11 8 2 false = true := by kernel_rfl
theorem r11_8_6_false : rnd 11 8 6 false = true := by kernel_rfl
theorem r12_2_1_false : rnd 12 2 1 false = true := by kernel_rfl
theorem r12_4_0_true : rnd 12 4 0 true = true := by kernel_rfl
theorem r12_5_0_false : rnd 12 5 0 false = true := by kernel_rfl
theorem r12_5_4_false : rnd 12 5 4 false = true := by kernel_rfl
theorem r12_6_3_false : rnd 12 6 3 false = true := by kernel_rfl
theorem r12_7_1_true : rnd 12 7 1 true = true := by kernel_rfl
theorem r12_7_5_true : rnd 12 7 5 true = true := by kernel_rfl
theorem r12_8_2_true : rnd 12 8 2 true = true := by kernel_rfl
theorem r12_8_6_true : rnd 12 8 6 true = true := by kernel_rfl
theorem r13_2_1_true : rnd 13 2 1 true = true := by kernel_rfl
theorem r13_4_0_false : rnd 13 4 0 false = true := by kernel_rfl
theorem r13_5_0_true : rnd 13 5 0 true = true := by kernel_rfl
theorem r13_5_4_true : rnd 13 5 4 true = true := by kernel_rfl
theorem r13_6_3_true : rnd 13 6 3 true = true := by kernel_rfl
theorem r13_7_1_false : rnd 13 7 1 false = true := by kernel_rfl
theorem r13_7_5_false : rnd 13 7 5 false = true := by kernel_rfl
theorem r13_8_2_false : rnd 13 8 2 false = true := by kernel_rfl
theorem r13_8_6_false : rnd 13 8 6 false = true := by kernel_rfl
theorem r14_2_1_false : rnd 14 2 1 false = true := by kernel_rfl
theorem r14_4_0_true : rnd 14 4 0 true = true := by kernel_rfl
theorem r14_5_0_false : rnd 14 5 0 false = true := by kernel_rfl
theorem r14_5_4_false : rnd 14 5 4 false = true := by kernel_rfl
theorem r14_6_3_false : rnd 14 6 3 false = true := by kernel_rfl
theorem r14_7_1_true : rnd 14 7 1 true = true := by kernel_rfl
theorem r14_7_5_true : rnd 14 7 5 true = true := by kernel_rfl
theorem r14_8_2_true : rnd 14 8 2 true = true := by kernel_rfl
theorem r14_8_6_true : rnd 14 8 6 true = true := by kernel_rfl
theorem r15_2_1_true : rnd 15 2 1 true = true := by kernel_rfl
theorem r15_4_0_false : rnd 15 4 0 false = true := by kernel_rfl
theorem r15_5_0_true : rnd 15 5 0 true = true := by kernel_rfl
theorem r15_5_4_true : rnd 15 5 4 true = true := by kernel_rfl
theorem r15_6_3_true : rnd 15 6 3 true = true := by kernel_rfl
theorem r15_7_1_false : rnd 15 7 1 false = true := by kernel_rfl
theorem r15_7_5_false : rnd 15 7 5 false = true := by kernel_rfl
theorem r15_8_2_false : rnd 15 8 2 false = true := by kernel_rfl
theorem r15_8_6_false : rnd 15 8 6 false = true := by kernel_rfl
theorem xz4 : exZ 4 = true := by kernel_rfl
theorem xz13 : exZ 13 = true := by kernel_rfl
theorem xc5 : exC 5 = true := by kernel_rfl
theorem sn2 : sml 2 .nils = true := by kernel_rfl
theorem sn6 : sml 6 .nils = true := by kernel_rfl
theorem xa1_5 : exA 1 5 = true := by kernel_rfl
theorem xa2_4 : exA 2 4 = true := by kernel_rfl
theorem xa3_3 : exA 3 3 = true := by kernel_rfl
theorem xa4_2 : exA 4 2 = true := by kernel_rfl
theorem xa5_1 : exA 5 1 = true := by kernel_rfl
theorem xa6_0 : exA 6 0 = true := by kernel_rfl
theorem xa6_8 : exA 6 8 = true := by kernel_rfl
theorem xa7_7 : exA 7 7 = true := by kernel_rfl
theorem xa8_6 : exA 8 6 = true := by kernel_rfl
theorem xa9_5 : exA 9 5 = true := by kernel_rfl
theorem xa10_5 : exA 10 5 = true := by kernel_rfl
theorem xa11_4 : exA 11 4 = true := by kernel_rfl
theorem xa12_3 : exA 12 3 = true := by kernel_rfl
theorem xa13_2 : exA 13 2 = true := by kernel_rfl
theorem xa14_1 : exA 14 1 = true := by kernel_rfl
theorem xa15_0 : exA 15 0 = true := by kernel_rfl
theorem xa15_8 : exA 15 8 = true := by kernel_rfl
theorem xa16_7 : exA 16 7 = true := by kernel_rfl
theorem se7 : sml 7 .emp = true := by kernel_rfl
theorem r0_3_0_false : rnd 0 3 0 false = true := by kernel_rfl
theorem r0_4_1_false : rnd 0 4 1 false = true := by kernel_rfl
theorem r0_5_1_true : rnd 0 5 1 true = true := by kernel_rfl
theorem r0_6_0_true : rnd 0 6 0 true = true := by kernel_rfl
theorem r0_6_4_true : rnd 0 6 4 true = true := by kernel_rfl
theorem r0_7_2_false : rnd 0 7 2 false = true := by kernel_rfl
theorem r0_7_6_false : rnd 0 7 6 false = true := by kernel_rfl
theorem r0_8_3_false : rnd 0 8 3 false = true := by kernel_rfl
theorem r0_8_7_false : rnd 0 8 7 false = true := by kernel_rfl
theorem r1_3_0_true : rnd 1 3 0 true = true := by kernel_rfl
theorem r1_4_1_true : rnd 1 4 1 true = true := by kernel_rfl
theorem r1_5_1_false : rnd 1 5 1 false = true := by kernel_rfl
theorem r1_6_0_false : rnd 1 6 0 false = true := by kernel_rfl
theorem r1_6_4_false : rnd 1 6 4 false = true := by kernel_rfl
theorem r1_7_2_true : rnd 1 7 2 true = true := by kernel_rfl
theorem r1_7_6_true : rnd 1 7 6 true = true := by kernel_rfl
theorem r1_8_3_true : rnd 1 8 3 true = true := by kernel_rfl
theorem r1_8_7_true : rnd 1 8 7 true = true := by kernel_rfl
theorem r2_3_0_false : rnd 2 3 0 false = true := by kernel_rfl
theorem r2_4_1_false : rnd 2 4 1 false = true := by kernel_rfl
theorem r2_5_1_true : rnd 2 5 1 true = true := by kernel_rfl
theorem r2_6_0_true : rnd 2 6 0 true = true := by kernel_rfl
theorem r2_6_4_true : rnd 2 6 4 true = true := by kernel_rfl
theorem r2_7_2_false : rnd 2 7 2 false = true := by kernel_rfl
theorem r2_7_6_false : rnd 2 7 6 false = true := by kernel_rfl
theorem r2_8_3_false : rnd 2 8 3 false = true := by kernel_rfl
theorem r2_8_7_false : rnd 2 8 7 false = true := by kernel_rfl
theorem r3_3_0_true : rnd 3 3 0 true = true := by kernel_rfl
theorem r3_4_1_true : rnd 3 4 1 true = true := by kernel_rfl
theorem r3_5_1_false : rnd 3 5 1 false = true := by kernel_rfl
theorem r3_6_0_false : rnd 3 6 0 false = true := by kernel_rfl
theorem r3_6_4_false : rnd 3 6 4 false = true := by kernel_rfl
theorem r3_7_2_true : rnd 3 7 2 true = true := by kernel_rfl
theorem r3_7_6_true : rnd 3 7 6 true = true := by kernel_rfl
theorem r3_8_3_true : rnd 3 8 3 true = true := by kernel_rfl
theorem r3_8_7_true : rnd 3 8 7 true = true := by kernel_rfl
theorem r4_3_0_false : rnd 4 3 0 false = true := by kernel_rfl
theorem r4_4_1_false : rnd 4 4 1 false = true := by kernel_rfl
theorem r4_5_1_true : rnd 4 5 1 true = true := by kernel_rfl
theorem r4_6_0_true : rnd 4 6 0 true = true := by kernel_rfl
theorem r4_6_4_true : rnd 4 6 4 true = true := by kernel_rfl
theorem r4_7_2_false : rnd 4 7 2 false = true := by kernel_rfl
theorem r4_7_6_false : rnd 4 7 6 false = true := by kernel_rfl
theorem r4_8_3_false : rnd 4 8 3 false = true := by kernel_rfl
theorem r4_8_7_false : rnd 4 8 7 false = true := by kernel_rfl
theorem r5_3_0_true : rnd 5 3 0 true = true := by kernel_rfl
theorem r5_4_1_true : rnd 5 4 1 true = true := by kernel_rfl
theorem r5_5_1_false : rnd 5 5 1 false = true := by kernel_rfl
theorem r5_6_0_false : rnd 5 6 0 false = true := by kernel_rfl
theorem r5_6_4_false : rnd 5 6 4 false = true := by kernel_rfl
theorem r5_7_2_true : rnd 5 7 2 true = true := by kernel_rfl
theorem r5_7_6_true : rnd 5 7 6 true = true := by kernel_rfl
theorem r5_8_3_true : rnd 5 8 3 true = true := by kernel_rfl
theorem r5_8_7_true : rnd 5 8 7 true = true := by kernel_rfl
theorem r6_3_0_false : rnd 6 3 0 false = true := by kernel_rfl
theorem r6_4_1_false : rnd 6 4 1 false = true := by kernel_rfl
theorem r6_5_1_true : rnd 6 5 1 true = true := by kernel_rfl
theorem r6_6_0_true : rnd 6 6 0 true = true := by kernel_rfl
theorem r6_6_4_true : rnd 6 6 4 true = true := by kernel_rfl
theorem r6_7_2_false : rnd 6 7 2 false = true := by kernel_rfl
theorem r6_7_6_false : rnd 6 7 6 false = true := by kernel_rfl
theorem r6_8_3_false : rnd 6 8 3 false = true := by kernel_rfl
theorem r6_8_7_false : rnd 6 8 7 false = true := by kernel_rfl
theorem r7_3_0_true : rnd 7 3 0 true = true := by kernel_rfl
theorem r7_4_1_true : rnd 7 4 1 true = true := by kernel_rfl
theorem r7_5_1_false : rnd 7 5 1 false = true := by kernel_rfl
theorem r7_6_0_false : rnd 7 6 0 false = true := by kernel_rfl
theorem r7_6_4_false : rnd 7 6 4 false = true := by kernel_rfl
theorem r7_7_2_true : rnd 7 7 2 true = true := by kernel_rfl
theorem r7_7_6_true : rnd 7 7 6 true = true := by kernel_rfl
theorem r7_8_3_true : rnd 7 8 3 true = true := by kernel_rfl
theorem r7_8_7_true : rnd 7 8 7 true = true := by kernel_rfl
theorem r8_3_0_false : rnd 8 3 0 false = true := by kernel_rfl
theorem r8_4_1_false : rnd 8 4 1 false = true := by kernel_rfl
theorem r8_5_1_true : rnd 8 5 1 true = true := by kernel_rfl
theorem r8_6_0_true : rnd 8 6 0 true = true := by kernel_rfl
theorem r8_6_4_true : rnd 8 6 4 true = true := by kernel_rfl
theorem r8_7_2_false : rnd 8 7 2 false = true := by kernel_rfl
theorem r8_7_6_false : rnd 8 7 6 false = true := by kernel_rfl
theorem r8_8_3_false : rnd 8 8 3 false = true := by kernel_rfl
theorem r8_8_7_false : rnd 8 8 7 false = true := by kernel_rfl
theorem r9_3_0_true : rnd 9 3 0 true = true := by kernel_rfl
theorem r9_4_1_true : rnd 9 4 1 true = true := by kernel_rfl
theorem r9_5_1_false : rnd 9 5 1 false = true := by kernel_rfl
theorem r9_6_0_false : rnd 9 6 0 false = true := by kernel_rfl
theorem r9_6_4_false : rnd 9 6 4 false = true := by kernel_rfl
theorem r9_7_2_true : rnd 9 7 2 true = true := by kernel_rfl
theorem r9_7_6_true : rnd 9 7 6 true = true := by kernel_rfl
theorem r9_8_3_true : rnd 9 8 3 true = true := by kernel_rfl
theorem r9_8_7_true : rnd 9 8 7 true = true := by kernel_rfl
theorem r10_3_0_true : rnd 10 3 0 true = true := by kernel_rfl
theorem r10_4_1_true : rnd 10 4 1 true = true := by kernel_rfl
theorem r10_5_1_false : rnd 10 5 1 false = true := by kernel_rfl
theorem r10_6_0_false : rnd 10 6 0 false = true := by kernel_rfl
theorem r10_6_4_false : rnd 10 6 4 false = true := by kernel_rfl
theorem r10_7_2_true : rnd 10 7 2 true = true := by kernel_rfl
theorem r10_7_6_true : rnd 10 7 6 true = true := by kernel_rfl
theorem r10_8_3_true : rnd 10 8 3 true = true := by kernel_rfl
theorem r10_8_7_true : rnd 10 8 7 true = true := by kernel_rfl
theorem r11_3_0_false : rnd 11 3 0 false = true := by kernel_rfl
theorem r11_4_1_false : rnd 11 4 1 false = true := by kernel_rfl
theorem r11_5_1_true : rnd 11 5 1 true = true := by kernel_rfl
theorem r11_6_0_true : rnd 11 6 0 true = true := by kernel_rfl
theorem r11_6_4_true : rnd 11 6 4 true = true := by kernel_rfl
theorem r11_7_2_false : rnd 11 7 2 false = true := by kernel_rfl
theorem r11_7_6_false : rnd 11 7 6 false = true := by kernel_rfl
theorem r11_8_3_false : rnd 11 8 3 false = true := by kernel_rfl
theorem r11_8_7_false : rnd 11 8 7 false = true := by kernel_rfl
theorem r12_3_0_true : rnd 12 3 0 true = true := by kernel_rfl
theorem r12_4_1_true : rnd 12 4 1 true = true := by kernel_rfl
theorem r12_5_1_false : rnd 12 5 1 false = true := by kernel_rfl
theorem r12_6_0_false : rnd 12 6 0 false = true := by kernel_rfl
theorem r12_6_4_false : rnd 12 6 4 false = true := by kernel_rfl
theorem r12_7_2_true : rnd 12 7 2 true = true := by kernel_rfl
theorem r12_7_6_true : rnd 12 7 6 true = true := by kernel_rfl
theorem r12_8_3_true : rnd 12 8 3 true = true := by kernel_rfl
theorem r12_8_7_true : rnd 12 8 7 true = true := by kernel_rfl
theorem r13_3_0_false : rnd 13 3 0 false = true := by kernel_rfl
theorem r13_4_1_false : rnd 13 4 1 false = true := by kernel_rfl
theorem r13_5_1_true : rnd 13 5 1 true = true := by kernel_rfl
theorem r13_6_0_true : rnd 13 6 0 true = true := by kernel_rfl
theorem r13_6_4_true : rnd 13 6 4 true = true := by kernel_rfl
theorem r13_7_2_false : rnd 13 7 2 false = true := by kernel_rfl
theorem r13_7_6_false : rnd 13 7 6 false = true := by kernel_rfl
theorem r13_8_3_false : rnd 13 8 3 false = true := by kernel_rfl
theorem r13_8_7_false : rnd 13 8 7 false = true := by kernel_rfl
theorem r14_3_0_true : rnd 14 3 0 true = true := by kernel_rfl
theorem r14_4_1_true : rnd 14 4 1 true = true := by kernel_rfl
theorem r14_5_1_false : rnd 14 5 1 false = true := by kernel_rfl
theorem r14_6_0_false : rnd 14 6 0 false = true := by kernel_rfl
theorem r14_6_4_false : rnd 14 6 4 false = true := by kernel_rfl
theorem r14_7_2_true : rnd 14 7 2 true = true := by kernel_rfl
theorem r14_7_6_true : rnd 14 7 6 true = true := by kernel_rfl
theorem r14_8_3_true : rnd 14 8 3 true = true := by kernel_rfl
theorem r14_8_7_true : rnd 14 8 7 true = true := by kernel_rfl
theorem r15_3_0_false : rnd 15 3 0 false = true := by kernel_rfl
theorem r15_4_1_false : rnd 15 4 1 false = true := by kernel_rfl
theorem r15_5_1_true : rnd 15 5 1 true = true := by kernel_rfl
theorem r15_6_0_true : rnd 15 6 0 true = true := by kernel_rfl
theorem r15_6_4_true : rnd 15 6 4 true = true := by kernel_rfl
theorem r15_7_2_false : rnd 15 7 2 false = true := by kernel_rfl
theorem r15_7_6_false : rnd 15 7 6 false = true := by kernel_rfl
theorem r15_8_3_false : rnd 15 8 3 false = true := by kernel_rfl
theorem r15_8_7_false : rnd 15 8 7 false = true := by kernel_rfl
theorem xz7 : exZ 7 = true := by kernel_rfl
theorem xz14 : exZ 14 = true := by kernel_rfl
theorem xc6 : exC 6 = true := by kernel_rfl
theorem bg2 : beg 2 = true := by kernel_rfl
theorem bg6 : beg 6 = true := by kernel_rfl
theorem xa1_4 : exA 1 4 = true := by kernel_rfl
theorem xa2_3 : exA 2 3 = true := by kernel_rfl
theorem xa3_2 : exA 3 2 = true := by kernel_rfl
theorem xa4_1 : exA 4 1 = true := by kernel_rfl
theorem xa5_0 : exA 5 0 = true := by kernel_rfl
theorem xa5_8 : exA 5 8 = true := by kernel_rfl
theorem xa6_7 : exA 6 7 = true := by kernel_rfl
theorem xa7_6 : exA 7 6 = true := by kernel_rfl
theorem xa8_5 : exA 8 5 = true := by kernel_rfl
theorem xa9_4 : exA 9 4 = true := by kernel_rfl
theorem xa10_2 : exA 10 2 = true := by kernel_rfl
theorem xa11_1 : exA 11 1 = true := by kernel_rfl
theorem xa12_0 : exA 12 0 = true := by kernel_rfl
theorem xa12_8 : exA 12 8 = true := by kernel_rfl
theorem xa13_7 : exA 13 7 = true := by kernel_rfl
theorem xa14_6 : exA 14 6 = true := by kernel_rfl
theorem xa15_5 : exA 15 5 = true := by kernel_rfl
theorem xa16_4 : exA 16 4 = true := by kernel_rfl
theorem se2 : sml 2 .emp = true := by kernel_rfl
end Go.Proofs.Ytjdiigkmogmkhaa.flightTakesRun
