/- Rounds of the law FlightTakes. -/
import Derived.Test.YtjdiigkmogmkhaaFlightTakesHook
namespace Go.Proofs.Ytjdiigkmogmkhaa.flightTakesRun
open Go.Vm Go.RowKit
set_option linter.unusedVariables false
set_option linter.unusedSimpArgs false
set_option maxRecDepth 1000000
theorem r0_1_0_true : rnd 0 1 0 true = true := by kernel_rfl
theorem r0_3_1_false : rnd 0 3 1 false = true := by kernel_rfl
theorem r0_4_2_false : rnd 0 4 2 false = true := by kernel_rfl
theorem r0_5_2_true : rnd 0 5 2 true = true := by kernel_rfl
theorem r0_6_1_true : rnd 0 6 1 true = true := by kernel_rfl
theorem r0_6_5_true : rnd 0 6 5 true = true := by kernel_rfl
theorem r0_7_3_false : rnd 0 7 3 false = true := by kernel_rfl
theorem r0_8_0_false : rnd 0 8 0 false = true := by kernel_rfl
theorem r0_8_4_false : rnd 0 8 4 false = true := by kernel_rfl
theorem r1_1_0_false : rnd 1 1 0 false = true := by kernel_rfl
theorem r1_3_1_true : rnd 1 3 1 true = true := by kernel_rfl
theorem r1_4_2_true : rnd 1 4 2 true = true := by kernel_rfl
theorem r1_5_2_false : rnd 1 5 2 false = true := by kernel_rfl
theorem r1_6_1_false : rnd 1 6 1 false = true := by kernel_rfl
theorem r1_6_5_false : rnd 1 6 5 false = true := by kernel_rfl
theorem r1_7_3_true : rnd 1 7 3 true = true := by kernel_rfl
theorem r1_8_0_true : rnd 1 8 0 true = true := by kernel_rfl
theorem r1_8_4_true : rnd 1 8 4 true = true := by kernel_rfl
theorem r2_1_0_true : rnd 2 1 0 true = true := by kernel_rfl
theorem r2_3_1_false : rnd 2 3 1 false = true := by kernel_rfl
theorem r2_4_2_false : rnd 2 4 2 false = true := by kernel_rfl
theorem r2_5_2_true : rnd 2 5 2 true = true := by kernel_rfl
theorem r2_6_1_true : rnd 2 6 1 true = true := by kernel_rfl
theorem r2_6_5_true : rnd 2 6 5 true = true := by kernel_rfl
theorem r2_7_3_false : rnd 2 7 3 false = true := by kernel_rfl
theorem r2_8_0_false : rnd 2 8 0 false = true := by kernel_rfl
theorem r2_8_4_false : rnd 2 8 4 false = true := by kernel_rfl
theorem r3_1_0_false : rnd 3 1 0 false = true := by kernel_rfl
theorem r3_3_1_true : rnd 3 3 1 true = true := by kernel_rfl
theorem r3_4_2_true : rnd 3 4 2 true = true := by kernel_rfl
theorem r3_5_2_false : rnd 3 5 2 false = true := by kernel_rfl
theorem r3_6_1_false : rnd 3 6 1 false = true := by kernel_rfl
theorem r3_6_5_false : rnd 3 6 5 false = true := by kernel_rfl
theorem r3_7_3_true : rnd 3 7 3 true = true := by kernel_rfl
theorem r3_8_0_true : rnd 3 8 0 true = true := by kernel_rfl
theorem r3_8_4_true : rnd 3 8 4 true = true := by kernel_rfl
theorem r4_1_0_true : rnd 4 1 0 true = true := by kernel_rfl
theorem r4_3_1_false : rnd 4 3 1 false = true := by kernel_rfl
theorem r4_4_2_false : rnd 4 4 2 false = true := by kernel_rfl
theorem r4_5_2_true : rnd 4 5 2 true = true := by kernel_rfl
theorem r4_6_1_true : rnd 4 6 1 true = true := by kernel_rfl
theorem r4_6_5_true : rnd 4 6 5 true = true := by kernel_rfl
theorem r4_7_3_false : rnd 4 7 3 false = true := by kernel_rfl
theorem r4_8_0_false : rnd 4 8 0 false = true := by kernel_rfl
theorem r4_8_4_false : rnd 4 8 4 false = true := by kernel_rfl
theorem r5_1_0_false : rnd 5 1 0 false = true := by kernel_rfl
theorem r5_3_1_true : rnd 5 3 1 true = true := by kernel_rfl
theorem r5_4_2_true : rnd 5 4 2 true = true := by kernel_rfl
theorem r5_5_2_false : rnd 5 5 2 false = true := by kernel_rfl
theorem r5_6_1_false : rnd 5 6 1 false = true := by kernel_rfl
theorem r5_6_5_false : rnd 5 6 5 false = true := by kernel_rfl
theorem r5_7_3_true : rnd 5 7 3 true = true := by kernel_rfl
theorem r5_8_0_true : rnd 5 8 0 true = true := by kernel_rfl
theorem r5_8_4_true : rnd 5 8 4 true = true := by kernel_rfl
theorem r6_1_0_true : rnd 6 1 0 true = true := by kernel_rfl
theorem r6_3_1_false : rnd 6 3 1 false = true := by kernel_rfl
theorem r6_4_2_false : rnd 6 4 2 false = true := by kernel_rfl
theorem r6_5_2_true : rnd 6 5 2 true = true := by kernel_rfl
theorem r6_6_1_true : rnd 6 6 1 true = true := by kernel_rfl
theorem r6_6_5_true : rnd 6 6 5 true = true := by kernel_rfl
theorem r6_7_3_false : rnd 6 7 3 false = true := by kernel_rfl
theorem r6_8_0_false : rnd 6 8 0 false = true := by kernel_rfl
theorem r6_8_4_false : rnd 6 8 4 false = true := by kernel_rfl
theorem r7_1_0_false : rnd 7 1 0 false = true := by kernel_rfl
theorem r7_3_1_true : rnd 7 3 1 true = true := by kernel_rfl
theorem r7_4_2_true : rnd 7 4 2 true = true := by kernel_rfl
theorem r7_5_2_false : rnd 7 5 2 false = true := by kernel_rfl
theorem r7_6_1_false : rnd 7 6 1 false = true := by kernel_rfl
theorem r7_6_5_false : rnd 7 6 5 false = true := by kernel_rfl
theorem r7_7_3_true : rnd 7 7 3 true = true := by kernel_rfl
theorem r7_8_0_true : rnd 7 8 0 true = true := by kernel_rfl
theorem r7_8_4_true : rnd 7 8 4 true = true := by kernel_rfl
theorem r8_1_0_true : rnd 8 1 0 true = true := by kernel_rfl
theorem r8_3_1_false : rnd 8 3 1 false = true := by kernel_rfl
theorem r8_4_2_false : rnd 8 4 2 false = true := by kernel_rfl
theorem r8_5_2_true : rnd 8 5 2 true = true := by kernel_rfl
theorem r8_6_1_true : rnd 8 6 1 true = true := by kernel_rfl
theorem r8_6_5_true : rnd 8 6 5 true = true := by kernel_rfl
theorem r8_7_3_false : rnd 8 7 3 false = true := by kernel_rfl
theorem r8_8_0_false : rnd 8 8 0 false = true := by kernel_rfl
theorem r8_8_4_false : rnd 8 8 4 false = true := by kernel_rfl
theorem r9_1_0_false : rnd 9 1 0 false = true := by kernel_rfl
theorem r9_3_1_true : rnd 9 3 1 true = true := by kernel_rfl
theorem r9_4_2_true : rnd 9 4 2 true = true := by kernel_rfl
theorem r9_5_2_false : rnd 9 5 2 false = true := by kernel_rfl
theorem r9_6_1_false : rnd 9 6 1 false = true := by kernel_rfl
theorem r9_6_5_false : rnd 9 6 5 false = true := by kernel_rfl
theorem r9_7_3_true : rnd 9 7 3 true = true := by kernel_rfl
theorem r9_8_0_true : rnd 9 8 0 true = true := by kernel_rfl
theorem r9_8_4_true : rnd 9 8 4 true = true := by kernel_rfl
theorem r10_1_0_false : rnd 10 1 0 false = true := by kernel_rfl
theorem r10_3_1_true : rnd 10 3 1 true = true := by kernel_rfl
theorem r10_4_2_true : rnd 10 4 2 true = true := by kernel_rfl
theorem r10_5_2_false : rnd 10 5 2 false = true := by kernel_rfl
theorem r10_6_1_false : rnd 10 6 1 false = true := by kernel_rfl
theorem r10_6_5_false : rnd 10 6 5 false = true := by kernel_rfl
theorem r10_7_3_true : rnd 10 7 3 true = true := by kernel_rfl
theorem r10_8_0_true : rnd 10 8 0 true = true := by kernel_rfl
theorem r10_8_4_true : rnd 10 8 4 true = true := by kernel_rfl
theorem r11_1_0_true : rnd 11 1 0 true = true := by kernel_rfl
theorem r11_3_1_false : rnd 11 3 1 false = true := by kernel_rfl
theorem r11_4_2_false : rnd 11 4 2 false = true := by kernel_rfl
theorem r11_5_2_true : rnd 11 5 2 true = true := by kernel_rfl
theorem r11_6_1_true : rnd 11 6 1 true = true := by kernel_rfl
theorem r11_6_5_true : rnd 11 6 5 true = true := by kernel_rfl
theorem r11_7_3_false : rnd 11 7 3 false = true := by kernel_rfl
theorem r11_8_0_false : rnd 11 8 0 false = true := by kernel_rfl
theorem r11_8_4_false : rnd 11 8 4 false = true := by kernel_rfl
theorem r12_1_0_false : rnd 12 1 0 false = true := by kernel_rfl
theorem r12_3_1_true : rnd 12 3 1 true = true := by kernel_rfl
theorem r12_4_2_true : rnd 12 4 2 true = true := by kernel_rfl
theorem r12_5_2_false : rnd 12 5 2 false = true := by kernel_rfl
theorem r12_6_1_false : rnd 12 6 1 false = true := by kernel_rfl
theorem r12_6_5_false : rnd 12 6 5 false = true := by kernel_rfl
theorem r12_7_3_true : rnd 12 7 3 true = true := by kernel_rfl
theorem r12_8_0_true : rnd 12 8 0 true = true := by kernel_rfl
theorem r12_8_4_true : rnd 12 8 4 true = true := by kernel_rfl
theorem r13_1_0_true : rnd 13 1 0 true = true := by kernel_rfl
theorem r13_3_1_false : rnd 13 3 1 false = true := by kernel_rfl
theorem r13_4_2_false : rnd 13 4 2 false = true := by kernel_rfl
theorem r13_5_2_true : rnd 13 5 2 true = true := by kernel_rfl
theorem r13_6_1_true : rnd 13 6 1 true = true := by kernel_rfl
theorem r13_6_5_true : rnd 13 6 5 true = true := by kernel_rfl
theorem r13_7_3_false : rnd 13 7 3 false = true := by kernel_rfl
theorem r13_8_0_false : rnd 13 8 0 false = true := by kernel_rfl
theorem r13_8_4_false : rnd 13 8 4 false = true := by kernel_rfl
theorem r14_1_0_false : rnd 14 1 0 false = true := by kernel_rfl
theorem r14_3_1_true : rnd 14 3 1 true = true := by kernel_rfl
theorem r14_4_2_true : rnd 14 4 2 true = true := by kernel_rfl
theorem r14_5_2_false : rnd 14 5 2 false = true := by kernel_rfl
theorem r14_6_1_false : rnd 14 6 1 false = true := by kernel_rfl
theorem r14_6_5_false : rnd 14 6 5 false = true := by kernel_rfl
theorem r14_7_3_true : rnd 14 7 3 true = true := by kernel_rfl
theorem r14_8_0_true : rnd 14 8 0 true = true := by kernel_rfl
theorem r14_8_4_true : rnd 14 8 4 true = true := by kernel_rfl
theorem r15_1_0_true : rnd 15 1 0 true = true := by kernel_rfl
theorem r15_3_1_false : rnd 15 3 1 false = true := by kernel_rfl
theorem r15_4_2_false : rnd 15 4 2 false = true := by kernel_rfl
theorem r15_5_2_true : rnd 15 5 2 true = true := by kernel_rfl
theorem r15_6_1_true : rnd 15 6 1 true = true := by kernel_rfl
theorem r15_6_5_true : rnd 15 6 5 true = true := by kernel_rfl
theorem r15_7_3_false : rnd 15 7 3 false = true := by kernel_rfl
theorem r15_8_0_false : rnd 15 8 0 false = true := by kernel_rfl
theorem r15_8_4_false : rnd 15 8 4 false = true := by kernel_rfl
theorem xz0 : exZ 0 = true := by kernel_rfl
theorem xz8 : exZ 8 = true := by kernel_rfl
theorem xc1 : exC 1 = true := by kernel_rfl
theorem sn0 : sml 0 .nils = true := by kernel_rfl
theorem sn4 : sml 4 .nils = true := by kernel_rfl
theorem xa1_1 : exA 1 1 = true := by kernel_rfl
theorem xa2_0 : exA 2 0 = true := by kernel_rfl
theorem xa2_8 : exA 2 8 = true := by kernel_rfl
theorem xa3_7 : exA 3 7 = true := by kernel_rfl
theorem xa4_6 : exA 4 6 = true := by kernel_rfl
theorem xa5_5 : exA 5 5 = true := by kernel_rfl
theorem xa6_4 : exA 6 4 = true := by kernel_rfl
theorem xa7_3 : exA 7 3 = true := by kernel_rfl
theorem xa8_2 : exA 8 2 = true := by kernel_rfl
theorem xa9_1 : exA 9 1 = true := by kernel_rfl
theorem xa10_1 : exA 10 1 = true := by kernel_rfl
theorem xa11_0 : exA 11 0 = true := by kernel_rfl
theorem xa11_8 : exA 11 8 = true := by kernel_rfl
theorem xa12_7 : exA 12 7 = true := by kernel_rfl
theorem xa13_6 : exA 13 6 = true := by kernel_rfl
theorem xa14_5 : exA 14 5 = true := by kernel_rfl
theorem xa15_4 : exA 15 4 = true := by kernel_rfl
theorem xa16_3 : exA 16 3 = true := by kernel_rfl
theorem se3 : sml 3 .emp = true := by kernel_rfl
theorem r0_2_0_true : rnd 0 2 0 true = true := by kernel_rfl
theorem r0_3_2_false : rnd 0 3 2 false = true := by kernel_rfl
theorem r0_4_3_false : rnd 0 4 3 false = true := by kernel_rfl
theorem r0_5_3_true : rnd 0 5 3 true = true := by kernel_rfl
theorem r0_6_2_true : rnd 0 6 2 true = true := by kernel_rfl
theorem r0_7_0_false : rnd 0 7 0 false = true := by kernel_rfl
theorem r0_7_4_false : rnd 0 7 4 false = true := by kernel_rfl
theorem r0_8_1_false : rnd 0 8 1 false = true := by kernel_rfl
theorem r0_8_5_false : rnd 0 8 5 false = true := by kernel_rfl
theorem r1_2_0_false : rnd 1 2 0 false = true := by kernel_rfl
theorem r1_3_2_true : rnd 1 3 2 true = true := by kernel_rfl
theorem r1_4_3_true : rnd 1 4 3 true = true := by kernel_rfl
theorem r1_5_3_false : rnd 1 5 3 false = true := by kernel_rfl
theorem r1_6_2_false : rnd 1 6 2 false = true := by kernel_rfl
theorem r1_7_0_true : rnd 1 7 0 true = true := by kernel_rfl
theorem r1_7_4_true : rnd 1 7 4 true = true := by kernel_rfl
theorem r1_8_1_true : rnd 1 8 1 true = true := by kernel_rfl
theorem r1_8_5_true : rnd 1 8 5 true = true := by kernel_rfl
theorem r2_2_0_true : rnd 2 2 0 true = true := by kernel_rfl
theorem r2_3_2_false : rnd 2 3 2 false = true := by kernel_rfl
theorem r2_4_3_false : rnd 2 4 3 false = true := by kernel_rfl
theorem r2_5_3_true : rnd 2 5 3 true = true := by kernel_rfl
theorem r2_6_2_true : rnd 2 6 2 true = true := by kernel_rfl
theorem r2_7_0_false : rnd 2 7 0 false = true := by kernel_rfl
theorem r2_7_4_false : rnd 2 7 4 false = true := by kernel_rfl
theorem r2_8_1_false : rnd 2 8 1 false = true := by kernel_rfl
theorem r2_8_5_false : rnd 2 8 5 false = true := by kernel_rfl
theorem r3_2_0_false : rnd 3 2 0 false = true := by kernel_rfl
theorem r3_3_2_true : rnd 3 3 2 true = true := by kernel_rfl
theorem r3_4_3_true : rnd 3 4 3 true = true := by kernel_rfl
theorem r3_5_3_false : rnd 3 5 3 false = true := by kernel_rfl
theorem r3_6_2_false : rnd 3 6 2 false = true := by kernel_rfl
theorem r3_7_0_true : rnd 3 7 0 true = true := by kernel_rfl
theorem r3_7_4_true : rnd 3 7 4 true = true := by kernel_rfl
theorem r3_8_1_true : rnd 3 8 1 true = true := by kernel_rfl
theorem r3_8_5_true : rnd 3 8 5 true = true := by kernel_rfl
theorem r4_2_0_true : rnd 4 2 0 true = true := by kernel_rfl
theorem r4_3_2_false : rnd 4 3 2 false = true := by kernel_rfl
theorem r4_4_3_false : rnd 4 4 3 false = true := by kernel_rfl
theorem r4_5_3_true : rnd 4 5 3 true = true := by kernel_rfl
theorem r4_6_2_true : rnd 4 6 2 true = true := by kernel_rfl
theorem r4_7_0_false : rnd 4 7 0 false = true := by kernel_rfl
theorem r4_7_4_false : rnd 4 7 4 false = true := by kernel_rfl
theorem r4_8_1_false : rnd 4 8 1 false = true := by kernel_rfl
theorem r4_8_5_false : rnd 4 8 5 false = true := by kernel_rfl
theorem r5_2_0_false : rnd 5 2 0 false = true := by kernel_rfl
theorem r5_3_2_true : rnd 5 3 2 true = true := by kernel_rfl
theorem r5_4_3_true : rnd 5 4 3 true = true := by kernel_rfl
theorem r5_5_3_false : rnd 5 5 3 false = true := by kernel_rfl
theorem r5_6_2_false : rnd 5 6 2 false = true := by kernel_rfl
theorem r5_7_0_true : rnd 5 7 0 true = true := by kernel_rfl
theorem r5_7_4_true : rnd 5 7 4 true = true := by kernel_rfl
theorem r5_8_1_true : rnd 5 8 1 true = true := by kernel_rfl
theorem r5_8_5_true : rnd 5 8 5 true = true := by kernel_rfl
theorem r6_2_0_true : rnd 6 2 0 true = true := by kernel_rfl
theorem r6_3_2_false : rnd 6 3 2 false = true := by kernel_rfl
theorem r6_4_3_false : rnd 6 4 3 false = true := by kernel_rfl
theorem r6_5_3_true : rnd 6 5 3 true = true := by kernel_rfl
theorem r6_6_2_true : rnd 6 6 2 true = true := by kernel_rfl
theorem r6_7_0_false : rnd 6 7 0 false = true := by kernel_rfl
theorem r6_7_4_false : rnd 6 7 4 false = true := by kernel_rfl
theorem r6_8_1_false : rnd 6 8 1 false = true := by kernel_rfl
theorem r6_8_5_false : rnd 6 8 5 false = true := by kernel_rfl
theorem r7_2_0_false : rnd 7 2 0 false = true := by kernel_rfl
theorem r7_3_2_true : rnd 7 3 2 true = true := by kernel_rfl
theorem r7_4_3_true : rnd 7 4 3 true = true := by kernel_rfl
theorem r7_5_3_false : rnd 7 5 3 false = true := by kernel_rfl
theorem r7_6_2_false : rnd 7 6 2 false = true := by kernel_rfl
theorem r7_7_0_true : rnd 7 7 0 true = true := by kernel_rfl
theorem r7_7_4_true : rnd 7 7 4 true = true := by kernel_rfl
theorem r7_8_1_true : rnd 7 8 1 true = true := by kernel_rfl
theorem r7_8_5_true : rnd 7 8 5 true = true := by kernel_rfl
theorem r8_2_0_true : rnd 8 2 0 true = true := by kernel_rfl
theorem r8_3_2_false : rnd 8 3 2 false = true := by kernel_rfl
theorem r8_4_3_false : rnd 8 4 3 false = true := by kernel_rfl
theorem r8_5_3_true : rnd 8 5 3 true = true := by kernel_rfl
theorem r8_6_2_true : rnd 8 6 2 true = true := by kernel_rfl
theorem r8_7_0_false : rnd 8 7 0 false = true := by kernel_rfl
theorem r8_7_4_false : rnd 8 7 4 false = true := by kernel_rfl
theorem r8_8_1_false : rnd 8 8 1 false = true := by kernel_rfl
theorem r8_8_5_false : rnd 8 8 5 false = true := by kernel_rfl
theorem r9_2_0_false : rnd 9 2 0 false = true := by kernel_rfl
theorem r9_3_2_true : rnd 9 3 2 true = true := by kernel_rfl
theorem r9_4_3_true : rnd 9 4 3 true = true := by kernel_rfl
theorem r9_5_3_false : rnd 9 5 3 false = true := by kernel_rfl
theorem r9_6_2_false : rnd 9 6 2 false = true := by kernel_rfl
theorem r9_7_0_true : rnd 9 7 0 true = true := by kernel_rfl
theorem r9_7_4_true : rnd 9 7 4 true = true := by kernel_rfl
theorem r9_8_1_true : rnd 9 8 1 true = true := by kernel_rfl
theorem r9_8_5_true : rnd 9 8 5 true = true := by kernel_rfl
theorem r10_2_0_false : rnd 10 2 0 false = true := by kernel_rfl
theorem r10_3_2_true : rnd 10 3 2 true = true := by kernel_rfl
theorem r10_4_3_true : rnd 10 4 3 true = true := by kernel_rfl
theorem r10_5_3_false : rnd 10 5 3 false = true := by kernel_rfl
theorem r10_6_2_false : rnd 10 6 2 false = true := by kernel_rfl
theorem r10_7_0_true : rnd 10 7 0 true = true := by kernel_rfl
theorem r10_7_4_true : rnd 10 7 4 true = true := by kernel_rfl
theorem r10_8_1_true : rnd 10 8 1 true = true := by kernel_rfl
theorem r10_8_5_true : rnd 10 8 5 true = true := by kernel_rfl
theorem r11_2_0_true : rnd 11 2 0 true = true := by kernel_rfl
theorem r11_3_2_false : rnd 11 3 2 false = true := by kernel_rfl
theorem r11_4_3_false : rnd 11 4 3 false = true := by kernel_rfl
theorem r11_5_3_true : rnd 11 5 3 true = true := by kernel_rfl
theorem r11_6_2_true : rnd 11 6 2 true = true := by kernel_rfl
theorem r11_7_0_false : rnd 11 7 0 false = true := by kernel_rfl
theorem r11_7_4_false : rnd 11 7 4 false = true := by kernel_rfl
theorem r11_8_1_false : rnd 11 8 1 false = true := by kernel_rfl
theorem r11_8_5_false : rnd 11 8 5 false = true := by kernel_rfl
theorem r12_2_0_false : rnd 12 2 0 false = true := by kernel_rfl
theorem r12_3_2_true : rnd 12 3 2 true = true := by kernel_rfl
theorem r12_4_3_true : rnd 12 4 3 true = true := by kernel_rfl
theorem r12_5_3_false : rnd 12 5 3 false = true := by kernel_rfl
theorem r12_6_2_false : rnd 12 6 2 false = true := by kernel_rfl
theorem r12_7_0_true : rnd 12 7 0 true = true := by kernel_rfl
theorem r12_7_4_true : rnd 12 7 4 true = true := by kernel_rfl
theorem r12_8_1_true : rnd 12 8 1 true = true := by kernel_rfl
theorem r12_8_5_true : rnd 12 8 5 true = true := by kernel_rfl
theorem r13_2_0_true : rnd 13 2 0 true = true := by kernel_rfl
theorem r13_3_2_false : rnd 13 3 2 false = true := by kernel_rfl
theorem r13_4_3_false : rnd 13 4 3 false = true := by kernel_rfl
theorem r13_5_3_true : rnd 13 5 3 true = true := by kernel_rfl
theorem r13_6_2_true : rnd 13 6 2 true = true := by kernel_rfl
theorem r13_7_0_false : rnd 13 7 0 false = true := by kernel_rfl
theorem r13_7_4_false : rnd 13 7 4 false = true := by kernel_rfl
theorem r13_8_1_false : rnd 13 8 1 false = true := by kernel_rfl
theorem r13_8_5_false : rnd 13 8 5 false = true := by kernel_rfl
theorem r14_2_0_false : rnd 14 2 0 false = true := by kernel_rfl
theorem r14_3_2_true : rnd 14 3 2 true = true := by kernel_rfl
theorem r14_4_3_true : rnd 14 4 3 true = true := by kernel_rfl
theorem r14_5_3_false : rnd 14 5 3 false = true := by kernel_rfl
theorem r14_6_2_false : rnd 14 6 2 false = true := by kernel_rfl
theorem r14_7_0_true : rnd 14 7 0 true = true := by kernel_rfl
theorem r14_7_4_true : rnd 14 7 4 true = true := by kernel_rfl
theorem r14_8_1_true : rnd 14 8 1 true = true := by kernel_rfl
theorem r14_8_5_true : rnd 14 8 5 true = true := by kernel_rfl
theorem r15_2_0_true : rnd 15 2 0 true = true := by kernel_rfl
theorem r15_3_2_false : rnd 15 3 2 false = true := by kernel_rfl
theorem r15_4_3_false : rnd 15 4 3 false = true := by kernel_rfl
theorem r15_5_3_true : rnd 15 5 3 true = true := by kernel_rfl
theorem r15_6_2_true : rnd 15 6 2 true = true := by kernel_rfl
theorem r15_7_0_false : rnd 15 7 0 false = true := by kernel_rfl
theorem r15_7_4_false : rnd 15 7 4 false = true := by kernel_rfl
theorem r15_8_1_false : rnd 15 8 1 false = true := by kernel_rfl
theorem r15_8_5_false : rnd 15 8 5 false = true := by kernel_rfl
theorem xz3 : exZ 3 = true := by kernel_rfl
theorem xz10 : exZ 10 = true := by kernel_rfl
theorem xc2 : exC 2 = true := by kernel_rfl
theorem bg0 : beg 0 = true := by kernel_rfl
theorem bg4 : beg 4 = true := by kernel_rfl
theorem xa1_0 : exA 1 0 = true := by kernel_rfl
theorem xa1_8 : exA 1 8 = true := by kernel_rfl
theorem xa2_7 : exA 2 7 = true := by kernel_rfl
theorem xa3_6 : exA 3 6 = true := by kernel_rfl
theorem xa4_5 : exA 4 5 = true := by kernel_rfl
theorem xa5_4 : exA 5 4 = true := by kernel_rfl
theorem xa6_3 : exA 6 3 = true := by kernel_rfl
theorem xa7_2 : exA 7 2 = true := by kernel_rfl
theorem xa8_1 : exA 8 1 = true := by kernel_rfl
theorem xa9_0 : exA 9 0 = true := by kernel_rfl
theorem xa9_8 : exA 9 8 = true := by kernel_rfl
theorem xa10_6 : exA 10 6 = true := by kernel_rfl
theorem xa11_5 : exA 11 5 = true := by kernel_rfl
theorem xa12_4 : exA 12 4 = true := by kernel_rfl
theorem xa13_3 : exA 13 3 = true := by kernel_rfl
theorem xa14_2 : exA 14 2 = true := by kernel_rfl
theorem xa15_1 : exA 15 1 = true := by kernel_rfl
theorem xa16_0 : exA 16 0 = true := by kernel_rfl
theorem xa16_8 : exA 16 8 = true := by kernel_rfl
theorem se6 : sml 6 .emp = true := by kernel_rfl
end Go.Proofs.Ytjdiigkmogmkhaa.flightTakesRun
