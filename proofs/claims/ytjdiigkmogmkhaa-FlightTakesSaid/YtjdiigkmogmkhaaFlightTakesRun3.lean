/- Rounds of the law FlightTakes. -/
import Derived.Test.YtjdiigkmogmkhaaFlightTakesHook
namespace Go.Proofs.Ytjdiigkmogmkhaa.flightTakesRun
open Go.Vm Go.RowKit
set_option linter.unusedVariables false
set_option linter.unusedSimpArgs false
set_option maxRecDepth 1000000
theorem r0_3_0_true : rnd 0 3 0 true = true := by kernel_rfl
theorem r0_4_1_true : rnd 0 4 1 true = true := by kernel_rfl
theorem r0_5_1_false : rnd 0 5 1 false = true := by kernel_rfl
theorem r0_6_0_false : rnd 0 6 0 false = true := by kernel_rfl
theorem r0_6_4_false : rnd 0 6 4 false = true := by kernel_rfl
theorem r0_7_2_true : rnd 0 7 2 true = true := by kernel_rfl
theorem r0_7_6_true : rnd 0 7 6 true = true := by kernel_rfl
theorem r0_8_3_true : rnd 0 8 3 true = true := by kernel_rfl
theorem r0_8_7_true : rnd 0 8 7 true = true := by kernel_rfl
theorem r1_3_0_false : rnd 1 3 0 false = true := by kernel_rfl
theorem r1_4_1_false : rnd 1 4 1 false = true := by kernel_rfl
theorem r1_5_1_true : rnd 1 5 1 true = true := by kernel_rfl
theorem r1_6_0_true : rnd 1 6 0 true = true := by kernel_rfl
theorem r1_6_4_true : rnd 1 6 4 true = true := by kernel_rfl
theorem r1_7_2_false : rnd 1 7 2 false = true := by kernel_rfl
theorem r1_7_6_false : rnd 1 7 6 false = true := by kernel_rfl
theorem r1_8_3_false : rnd 1 8 3 false = true := by kernel_rfl
theorem r1_8_7_false : rnd 1 8 7 false = true := by kernel_rfl
theorem r2_3_0_true : rnd 2 3 0 true = true := by kernel_rfl
theorem r2_4_1_true : rnd 2 4 1 true = true := by kernel_rfl
theorem r2_5_1_false : rnd 2 5 1 false = true := by kernel_rfl
theorem r2_6_0_false : rnd 2 6 0 false = true := by kernel_rfl
theorem r2_6_4_false : rnd 2 6 4 false = true := by kernel_rfl
theorem r2_7_2_true : rnd 2 7 2 true = true := by kernel_rfl
theorem r2_7_6_true : rnd 2 7 6 true = true := by kernel_rfl
theorem r2_8_3_true : rnd 2 8 3 true = true := by kernel_rfl
theorem r2_8_7_true : rnd 2 8 7 true = true := by kernel_rfl
theorem r3_3_0_false : rnd 3 3 0 false = true := by kernel_rfl
theorem r3_4_1_false : rnd 3 4 1 false = true := by kernel_rfl
theorem r3_5_1_true : rnd 3 5 1 true = true := by kernel_rfl
theorem r3_6_0_true : rnd 3 6 0 true = true := by kernel_rfl
theorem r3_6_4_true : rnd 3 6 4 true = true := by kernel_rfl
theorem r3_7_2_false : rnd 3 7 2 false = true := by kernel_rfl
theorem r3_7_6_false : rnd 3 7 6 false = true := by kernel_rfl
theorem r3_8_3_false : rnd 3 8 3 false = true := by kernel_rfl
theorem r3_8_7_false : rnd 3 8 7 false = true := by kernel_rfl
theorem r4_3_0_true : rnd 4 3 0 true = true := by kernel_rfl
theorem r4_4_1_true : rnd 4 4 1 true = true := by kernel_rfl
theorem r4_5_1_false : rnd 4 5 1 false = true := by kernel_rfl
theorem r4_6_0_false : rnd 4 6 0 false = true := by kernel_rfl
theorem r4_6_4_false : rnd 4 6 4 false = true := by kernel_rfl
theorem r4_7_2_true : rnd 4 7 2 true = true := by kernel_rfl
theorem r4_7_6_true : rnd 4 7 6 true = true := by kernel_rfl
theorem r4_8_3_true : rnd 4 8 3 true = true := by kernel_rfl
theorem r4_8_7_true : rnd 4 8 7 true = true := by kernel_rfl
theorem r5_3_0_false : rnd 5 3 0 false = true := by kernel_rfl
theorem r5_4_1_false : rnd 5 4 1 false = true := by kernel_rfl
theorem r5_5_1_true : rnd 5 5 1 true = true := by kernel_rfl
theorem r5_6_0_true : rnd 5 6 0 true = true := by kernel_rfl
theorem r5_6_4_true : rnd 5 6 4 true = true := by kernel_rfl
theorem r5_7_2_false : rnd 5 7 2 false = true := by kernel_rfl
theorem r5_7_6_false : rnd 5 7 6 false = true := by kernel_rfl
theorem r5_8_3_false : rnd 5 8 3 false = true := by kernel_rfl
theorem r5_8_7_false : rnd 5 8 7 false = true := by kernel_rfl
theorem r6_3_0_true : rnd 6 3 0 true = true := by kernel_rfl
theorem r6_4_1_true : rnd 6 4 1 true = true := by kernel_rfl
theorem r6_5_1_false : rnd 6 5 1 false = true := by kernel_rfl
theorem r6_6_0_false : rnd 6 6 0 false = true := by kernel_rfl
theorem r6_6_4_false : rnd 6 6 4 false = true := by kernel_rfl
theorem r6_7_2_true : rnd 6 7 2 true = true := by kernel_rfl
theorem r6_7_6_true : rnd 6 7 6 true = true := by kernel_rfl
theorem r6_8_3_true : rnd 6 8 3 true = true := by kernel_rfl
theorem r6_8_7_true : rnd 6 8 7 true = true := by kernel_rfl
theorem r7_3_0_false : rnd 7 3 0 false = true := by kernel_rfl
theorem r7_4_1_false : rnd 7 4 1 false = true := by kernel_rfl
theorem r7_5_1_true : rnd 7 5 1 true = true := by kernel_rfl
theorem r7_6_0_true : rnd 7 6 0 true = true := by kernel_rfl
theorem r7_6_4_true : rnd 7 6 4 true = true := by kernel_rfl
theorem r7_7_2_false : rnd 7 7 2 false = true := by kernel_rfl
theorem r7_7_6_false : rnd 7 7 6 false = true := by kernel_rfl
theorem r7_8_3_false : rnd 7 8 3 false = true := by kernel_rfl
theorem r7_8_7_false : rnd 7 8 7 false = true := by kernel_rfl
theorem r8_3_0_true : rnd 8 3 0 true = true := by kernel_rfl
theorem r8_4_1_true : rnd 8 4 1 true = true := by kernel_rfl
theorem r8_5_1_false : rnd 8 5 1 false = true := by kernel_rfl
theorem r8_6_0_false : rnd 8 6 0 false = true := by kernel_rfl
theorem r8_6_4_false : rnd 8 6 4 false = true := by kernel_rfl
theorem r8_7_2_true : rnd 8 7 2 true = true := by kernel_rfl
theorem r8_7_6_true : rnd 8 7 6 true = true := by kernel_rfl
theorem r8_8_3_true : rnd 8 8 3 true = true := by kernel_rfl
theorem r8_8_7_true : rnd 8 8 7 true = true := by kernel_rfl
theorem r9_3_0_false : rnd 9 3 0 false = true := by kernel_rfl
theorem r9_4_1_false : rnd 9 4 1 false = true := by kernel_rfl
theorem r9_5_1_true : rnd 9 5 1 true = true := by kernel_rfl
theorem r9_6_0_true : rnd 9 6 0 true = true := by kernel_rfl
theorem r9_6_4_true : rnd 9 6 4 true = true := by kernel_rfl
theorem r9_7_2_false : rnd 9 7 2 false = true := by kernel_rfl
theorem r9_7_6_false : rnd 9 7 6 false = true := by kernel_rfl
theorem r9_8_3_false : rnd 9 8 3 false = true := by kernel_rfl
theorem r9_8_7_false : rnd 9 8 7 false = true := by kernel_rfl
theorem r10_3_0_false : rnd 10 3 0 false = true := by kernel_rfl
theorem r10_4_1_false : rnd 10 4 1 false = true := by kernel_rfl
theorem r10_5_1_true : rnd 10 5 1 true = true := by kernel_rfl
theorem r10_6_0_true : rnd 10 6 0 true = true := by kernel_rfl
theorem r10_6_4_true : rnd 10 6 4 true = true := by kernel_rfl
theorem r10_7_2_false : rnd 10 7 2 false = true := by kernel_rfl
theorem r10_7_6_false : rnd 10 7 6 false = true := by kernel_rfl
theorem r10_8_3_false : rnd 10 8 3 false = true := by kernel_rfl
theorem r10_8_7_false : rnd 10 8 7 false = true := by kernel_rfl
theorem r11_3_0_true : rnd 11 3 0 true = true := by kernel_rfl
theorem r11_4_1_true : rnd 11 4 1 true = true := by kernel_rfl
theorem r11_5_1_false : rnd 11 5 1 false = true := by kernel_rfl
theorem r11_6_0_false : rnd 11 6 0 false = true := by kernel_rfl
theorem r11_6_4_false : rnd 11 6 4 false = true := by kernel_rfl
theorem r11_7_2_true : rnd 11 7 2 true = true := by kernel_rfl
theorem r11_7_6_true : rnd 11 7 6 true = true := by kernel_rfl
theorem r11_8_3_true : rnd 11 8 3 true = true := by kernel_rfl
theorem r11_8_7_true : rnd 11 8 7 true = true := by kernel_rfl
theorem r12_3_0_false : rnd 12 3 0 false = true := by kernel_rfl
theorem r12_4_1_false : rnd 12 4 1 false = true := by kernel_rfl
theorem r12_5_1_true : rnd 12 5 1 true = true := by kernel_rfl
theorem r12_6_0_true : rnd 12 6 0 true = true := by kernel_rfl
theorem r12_6_4_true : rnd 12 6 4 true = true := by kernel_rfl
theorem r12_7_2_false : rnd 12 7 2 false = true := by kernel_rfl
theorem r12_7_6_false : rnd 12 7 6 false = true := by kernel_rfl
theorem r12_8_3_false : rnd 12 8 3 false = true := by kernel_rfl
theorem r12_8_7_false : rnd 12 8 7 false = true := by kernel_rfl
theorem r13_3_0_true : rnd 13 3 0 true = true := by kernel_rfl
theorem r13_4_1_true : rnd 13 4 1 true = true := by kernel_rfl
theorem r13_5_1_false : rnd 13 5 1 false = true := by kernel_rfl
theorem r13_6_0_false : rnd 13 6 0 false = true := by kernel_rfl
theorem r13_6_4_false : rnd 13 6 4 false = true := by kernel_rfl
theorem r13_7_2_true : rnd 13 7 2 true = true := by kernel_rfl
theorem r13_7_6_true : rnd 13 7 6 true = true := by kernel_rfl
theorem r13_8_3_true : rnd 13 8 3 true = true := by kernel_rfl
theorem r13_8_7_true : rnd 13 8 7 true = true := by kernel_rfl
theorem r14_3_0_false : rnd 14 3 0 false = true := by kernel_rfl
theorem r14_4_1_false : rnd 14 4 1 false = true := by kernel_rfl
theorem r14_5_1_true : rnd 14 5 1 true = true := by kernel_rfl
theorem r14_6_0_true : rnd 14 6 0 true = true := by kernel_rfl
theorem r14_6_4_true : rnd 14 6 4 true = true := by kernel_rfl
theorem r14_7_2_false : rnd 14 7 2 false = true := by kernel_rfl
theorem r14_7_6_false : rnd 14 7 6 false = true := by kernel_rfl
theorem r14_8_3_false : rnd 14 8 3 false = true := by kernel_rfl
theorem r14_8_7_false : rnd 14 8 7 false = true := by kernel_rfl
theorem r15_3_0_true : rnd 15 3 0 true = true := by kernel_rfl
theorem r15_4_1_true : rnd 15 4 1 true = true := by kernel_rfl
theorem r15_5_1_false : rnd 15 5 1 false = true := by kernel_rfl
theorem r15_6_0_false : rnd 15 6 0 false = true := by kernel_rfl
theorem r15_6_4_false : rnd 15 6 4 false = true := by kernel_rfl
theorem r15_7_2_true : rnd 15 7 2 true = true := by kernel_rfl
theorem r15_7_6_true : rnd 15 7 6 true = true := by kernel_rfl
theorem r15_8_3_true : rnd 15 8 3 true = true := by kernel_rfl
theorem r15_8_7_true : rnd 15 8 7 true = true := by kernel_rfl
theorem xz6 : exZ 6 = true := by kernel_rfl
theorem xz15 : exZ 15 = true := by kernel_rfl
theorem xc7 : exC 7 = true := by kernel_rfl
theorem bg3 : beg 3 = true := by kernel_rfl
theorem bg7 : beg 7 = true := by kernel_rfl
theorem xa1_7 : exA 1 7 = true := by kernel_rfl
theorem xa2_6 : exA 2 6 = true := by kernel_rfl
theorem xa3_5 : exA 3 5 = true := by kernel_rfl
theorem xa4_4 : exA 4 4 = true := by kernel_rfl
theorem xa5_3 : exA 5 3 = true := by kernel_rfl
theorem xa6_2 : exA 6 2 = true := by kernel_rfl
theorem xa7_1 : exA 7 1 = true := by kernel_rfl
theorem xa8_0 : exA 8 0 = true := by kernel_rfl
theorem xa8_8 : exA 8 8 = true := by kernel_rfl
theorem xa9_7 : exA 9 7 = true := by kernel_rfl
theorem xa10_7 : exA 10 7 = true := by kernel_rfl
theorem xa11_6 : exA 11 6 = true := by kernel_rfl
theorem xa12_5 : exA 12 5 = true := by kernel_rfl
theorem xa13_4 : exA 13 4 = true := by kernel_rfl
theorem xa14_3 : exA 14 3 = true := by kernel_rfl
theorem xa15_2 : exA 15 2 = true := by kernel_rfl
theorem xa16_1 : exA 16 1 = true := by kernel_rfl
theorem se1 : sml 1 .emp = true := by kernel_rfl
theorem r0_1_0_false : rnd 0 1 0 false = true := by kernel_rfl
theorem r0_3_1_true : rnd 0 3 1 true = true := by kernel_rfl
theorem r0_4_2_true : rnd 0 4 2 true = true := by kernel_rfl
theorem r0_5_2_false : rnd 0 5 2 false = true := by kernel_rfl
theorem r0_6_1_false : rnd 0 6 1 false = true := by kernel_rfl
theorem r0_6_5_false : rnd 0 6 5 false = true := by kernel_rfl
theorem r0_7_3_true : rnd 0 7 3 true = true := by kernel_rfl
theorem r0_8_0_true : rnd 0 8 0 true = true := by kernel_rfl
theorem r0_8_4_true : rnd 0 8 4 true = true := by kernel_rfl
theorem r1_1_0_true : rnd 1 1 0 true = true := by kernel_rfl
theorem r1_3_1_false : rnd 1 3 1 false = true := by kernel_rfl
theorem r1_4_2_false : rnd 1 4 2 false = true := by kernel_rfl
theorem r1_5_2_true : rnd 1 5 2 true = true := by kernel_rfl
theorem r1_6_1_true : rnd 1 6 1 true = true := by kernel_rfl
theorem r1_6_5_true : rnd 1 6 5 true = true := by kernel_rfl
theorem r1_7_3_false : rnd 1 7 3 false = true := by kernel_rfl
theorem r1_8_0_false : rnd 1 8 0 false = true := by kernel_rfl
theorem r1_8_4_false : rnd 1 8 4 false = true := by kernel_rfl
theorem r2_1_0_false : rnd 2 1 0 false = true := by kernel_rfl
theorem r2_3_1_true : rnd 2 3 1 true = true := by kernel_rfl
theorem r2_4_2_true : rnd 2 4 2 true = true := by kernel_rfl
theorem r2_5_2_false : rnd 2 5 2 false = true := by kernel_rfl
theorem r2_6_1_false : rnd 2 6 1 false = true := by kernel_rfl
theorem r2_6_5_false : rnd 2 6 5 false = true := by kernel_rfl
theorem r2_7_3_true : rnd 2 7 3 true = true := by kernel_rfl
theorem r2_8_0_true : rnd 2 8 0 true = true := by kernel_rfl
theorem r2_8_4_true : rnd 2 8 4 true = true := by kernel_rfl
theorem r3_1_0_true : rnd 3 1 0 true = true := by kernel_rfl
theorem r3_3_1_false : rnd 3 3 1 false = true := by kernel_rfl
theorem r3_4_2_false : rnd 3 4 2 false = true := by kernel_rfl
theorem r3_5_2_true : rnd 3 5 2 true = true := by kernel_rfl
theorem r3_6_1_true : rnd 3 6 1 true = true := by kernel_rfl
theorem r3_6_5_true : rnd 3 6 5 true = true := by kernel_rfl
theorem r3_7_3_false : rnd 3 7 3 false = true := by kernel_rfl
theorem r3_8_0_false : rnd 3 8 0 false = true := by kernel_rfl
theorem r3_8_4_false : rnd 3 8 4 false = true := by kernel_rfl
theorem r4_1_0_false : rnd 4 1 0 false = true := by kernel_rfl
theorem r4_3_1_true : rnd 4 3 1 true = true := by kernel_rfl
theorem r4_4_2_true : rnd 4 4 2 true = true := by kernel_rfl
theorem r4_5_2_false : rnd 4 5 2 false = true := by kernel_rfl
theorem r4_6_1_false : rnd 4 6 1 false = true := by kernel_rfl
theorem r4_6_5_false : rnd 4 6 5 false = true := by kernel_rfl
theorem r4_7_3_true : rnd 4 7 3 true = true := by kernel_rfl
theorem r4_8_0_true : rnd 4 8 0 true = true := by kernel_rfl
theorem r4_8_4_true : rnd 4 8 4 true = true := by kernel_rfl
theorem r5_1_0_true : rnd 5 1 0 true = true := by kernel_rfl
theorem r5_3_1_false : rnd 5 3 1 false = true := by kernel_rfl
theorem r5_4_2_false : rnd 5 4 2 false = true := by kernel_rfl
theorem r5_5_2_true : rnd 5 5 2 true = true := by kernel_rfl
theorem r5_6_1_true : rnd 5 6 1 true = true := by kernel_rfl
theorem r5_6_5_true : rnd 5 6 5 true = true := by kernel_rfl
theorem r5_7_3_false : rnd 5 7 3 false = true := by kernel_rfl
theorem r5_8_0_false : rnd 5 8 0 false = true := by kernel_rfl
theorem r5_8_4_false : rnd 5 8 4 false = true := by kernel_rfl
theorem r6_1_0_false : rnd 6 1 0 false = true := by kernel_rfl
theorem r6_3_1_true : rnd 6 3 1 true = true := by kernel_rfl
theorem r6_4_2_true : rnd 6 4 2 true = true := by kernel_rfl
theorem r6_5_2_false : rnd 6 5 2 false = true := by kernel_rfl
theorem r6_6_1_false : rnd 6 6 1 false = true := by kernel_rfl
theorem r6_6_5_false : rnd 6 6 5 false = true := by kernel_rfl
theorem r6_7_3_true : rnd 6 7 3 true = true := by kernel_rfl
theorem r6_8_0_true : rnd 6 8 0 true = true := by kernel_rfl
theorem r6_8_4_true : rnd 6 8 4 true = true := by kernel_rfl
theorem r7_1_0_true : rnd 7 1 0 true = true := by kernel_rfl
theorem r7_3_1_false : rnd 7 3 1 false = true := by kernel_rfl
theorem r7_4_2_false : rnd 7 4 2 false = true := by kernel_rfl
theorem r7_5_2_true : rnd 7 5 2 true = true := by kernel_rfl
theorem r7_6_1_true : rnd 7 6 1 true = true := by kernel_rfl
theorem r7_6_5_true : rnd 7 6 5 true = true := by kernel_rfl
theorem r7_7_3_false : rnd 7 7 3 false = true := by kernel_rfl
theorem r7_8_0_false : rnd 7 8 0 false = true := by kernel_rfl
theorem r7_8_4_false : rnd 7 8 4 false = true := by kernel_rfl
theorem r8_1_0_false : rnd 8 1 0 false = true := by kernel_rfl
theorem r8_3_1_true : rnd 8 3 1 true = true := by kernel_rfl
theorem r8_4_2_true : rnd 8 4 2 true = true := by kernel_rfl
theorem r8_5_2_false : rnd 8 5 2 false = true := by kernel_rfl
theorem r8_6_1_false : rnd 8 6 1 false = true := by kernel_rfl
theorem r8_6_5_false : rnd 8 6 5 false = true := by kernel_rfl
theorem r8_7_3_true : rnd 8 7 3 true = true := by kernel_rfl
theorem r8_8_0_true : rnd 8 8 0 true = true := by kernel_rfl
theorem r8_8_4_true : rnd 8 8 4 true = true := by kernel_rfl
theorem r9_1_0_true : rnd 9 1 0 true = true := by kernel_rfl
theorem r9_3_1_false : rnd 9 3 1 false = true := by kernel_rfl
theorem r9_4_2_false : rnd 9 4 2 false = true := by kernel_rfl
theorem r9_5_2_true : rnd 9 5 2 true = true := by kernel_rfl
theorem r9_6_1_true : rnd 9 6 1 true = true := by kernel_rfl
theorem r9_6_5_true : rnd 9 6 5 true = true := by kernel_rfl
theorem r9_7_3_false : rnd 9 7 3 false = true := by kernel_rfl
theorem r9_8_0_false : rnd 9 8 0 false = true := by kernel_rfl
theorem r9_8_4_false : rnd 9 8 4 false = true := by kernel_rfl
theorem r10_1_0_true : rnd 10 1 0 true = true := by kernel_rfl
theorem r10_3_1_false : rnd 10 3 1 false = true := by kernel_rfl
theorem r10_4_2_false : rnd 10 4 2 false = true := by kernel_rfl
theorem r10_5_2_true : rnd 10 5 2 true = true := by kernel_rfl
theorem r10_6_1_true : rnd 10 6 1 true = true := by kernel_rfl
theorem r10_6_5_true : rnd 10 6 5 true = true := by kernel_rfl
theorem r10_7_3_false : rnd 10 7 3 false = true := by kernel_rfl
theorem r10_8_0_false : rnd 10 8 0 false = true := by kernel_rfl
theorem r10_8_4_false : rnd 10 8 4 false = true := by kernel_rfl
theorem r11_1_0_false : rnd 11 1 0 false = true := by kernel_rfl
theorem r11_3_1_true : rnd 11 3 1 true = true := by kernel_rfl
theorem r11_4_2_true : rnd 11 4 2 true = true := by kernel_rfl
theorem r11_5_2_false : rnd 11 5 2 false = true := by kernel_rfl
theorem r11_6_1_false : rnd 11 6 1 false = true := by kernel_rfl
theorem r11_6_5_false : rnd 11 6 5 false = true := by kernel_rfl
theorem r11_7_3_true : rnd 11 7 3 true = true := by kernel_rfl
theorem r11_8_0_true : rnd 11 8 0 true = true := by kernel_rfl
theorem r11_8_4_true : rnd 11 8 4 true = true := by kernel_rfl
theorem r12_1_0_true : rnd 12 1 0 true = true := by kernel_rfl
theorem r12_3_1_false : rnd 12 3 1 false = true := by kernel_rfl
theorem r12_4_2_false : rnd 12 4 2 false = true := by kernel_rfl
theorem r12_5_2_true : rnd 12 5 2 true = true := by kernel_rfl
theorem r12_6_1_true : rnd 12 6 1 true = true := by kernel_rfl
theorem r12_6_5_true : rnd 12 6 5 true = true := by kernel_rfl
theorem r12_7_3_false : rnd 12 7 3 false = true := by kernel_rfl
theorem r12_8_0_false : rnd 12 8 0 false = true := by kernel_rfl
theorem r12_8_4_false : rnd 12 8 4 false = true := by kernel_rfl
theorem r13_1_0_false : rnd 13 1 0 false = true := by kernel_rfl
theorem r13_3_1_true : rnd 13 3 1 true = true := by kernel_rfl
theorem r13_4_2_true : rnd 13 4 2 true = true := by kernel_rfl
theorem r13_5_2_false : rnd 13 5 2 false = true := by kernel_rfl
theorem r13_6_1_false : rnd 13 6 1 false = true := by kernel_rfl
theorem r13_6_5_false : rnd 13 6 5 false = true := by kernel_rfl
theorem r13_7_3_true : rnd 13 7 3 true = true := by kernel_rfl
theorem r13_8_0_true : rnd 13 8 0 true = true := by kernel_rfl
theorem r13_8_4_true : rnd 13 8 4 true = true := by kernel_rfl
theorem r14_1_0_true : rnd 14 1 0 true = true := by kernel_rfl
theorem r14_3_1_false : rnd 14 3 1 false = true := by kernel_rfl
theorem r14_4_2_false : rnd 14 4 2 false = true := by kernel_rfl
theorem r14_5_2_true : rnd 14 5 2 true = true := by kernel_rfl
theorem r14_6_1_true : rnd 14 6 1 true = true := by kernel_rfl
theorem r14_6_5_true : rnd 14 6 5 true = true := by kernel_rfl
theorem r14_7_3_false : rnd 14 7 3 false = true := by kernel_rfl
theorem r14_8_0_false : rnd 14 8 0 false = true := by kernel_rfl
theorem r14_8_4_false : rnd 14 8 4 false = true := by kernel_rfl
theorem r15_1_0_false : rnd 15 1 0 false = true := by kernel_rfl
theorem r15_3_1_true : rnd 15 3 1 true = true := by kernel_rfl
theorem r15_4_2_true : rnd 15 4 2 true = true := by kernel_rfl
theorem r15_5_2_false : rnd 15 5 2 false = true := by kernel_rfl
theorem r15_6_1_false : rnd 15 6 1 false = true := by kernel_rfl
theorem r15_6_5_false : rnd 15 6 5 false = true := by kernel_rfl
theorem r15_7_3_true : rnd 15 7 3 true = true := by kernel_rfl
theorem r15_8_0_true : rnd 15 8 0 true = true := by kernel_rfl
theorem r15_8_4_true : rnd 15 8 4 true = true := by kernel_rfl
theorem xz1 : exZ 1 = true := by kernel_rfl
theorem xz9 : exZ 9 = true := by kernel_rfl
theorem xc0 : exC 0 = true := by kernel_rfl
theorem xc8 : exC 8 = true := by kernel_rfl
theorem sn3 : sml 3 .nils = true := by kernel_rfl
theorem sn7 : sml 7 .nils = true := by kernel_rfl
theorem xa1_6 : exA 1 6 = true := by kernel_rfl
theorem xa2_5 : exA 2 5 = true := by kernel_rfl
theorem xa3_4 : exA 3 4 = true := by kernel_rfl
theorem xa4_3 : exA 4 3 = true := by kernel_rfl
theorem xa5_2 : exA 5 2 = true := by kernel_rfl
theorem xa6_1 : exA 6 1 = true := by kernel_rfl
theorem xa7_0 : exA 7 0 = true := by kernel_rfl
theorem xa7_8 : exA 7 8 = true := by kernel_rfl
theorem xa8_7 : exA 8 7 = true := by kernel_rfl
theorem xa9_6 : exA 9 6 = true := by kernel_rfl
theorem xa10_4 : exA 10 4 = true := by kernel_rfl
theorem xa11_3 : exA 11 3 = true := by kernel_rfl
theorem xa12_2 : exA 12 2 = true := by kernel_rfl
theorem xa13_1 : exA 13 1 = true := by kernel_rfl
theorem xa14_0 : exA 14 0 = true := by kernel_rfl
theorem xa14_8 : exA 14 8 = true := by kernel_rfl
theorem xa15_7 : exA 15 7 = true := by kernel_rfl
theorem xa16_6 : exA 16 6 = true := by kernel_rfl
theorem se4 : sml 4 .emp = true := by kernel_rfl
end Go.Proofs.Ytjdiigkmogmkhaa.flightTakesRun
