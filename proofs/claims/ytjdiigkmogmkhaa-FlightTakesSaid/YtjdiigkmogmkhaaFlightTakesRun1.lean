/- Rounds of the law FlightTakes. -/
import Derived.Test.YtjdiigkmogmkhaaFlightTakesHook
namespace Go.Proofs.Ytjdiigkmogmkhaa.flightTakesRun
open Go.Vm Go.RowKit
set_option linter.unusedVariables false
set_option linter.unusedSimpArgs false
set_option maxRecDepth 1000000
theorem r0_2_0_false : rnd 0 2 0 false = true := by kernel_rfl
theorem r0_3_2_true : rnd 0 3 2 true = true := by kernel_rfl
theorem r0_4_3_true : rnd 0 4 3 true = true := by kernel_rfl
theorem r0_5_3_false : rnd 0 5 3 false = true := by kernel_rfl
theorem r0_6_2_false : rnd 0 6 2 false = true := by kernel_rfl
theorem r0_7_0_true : rnd 0 7 0 true = true := by kernel_rfl
theorem r0_7_4_true : rnd 0 7 4 true = true := by kernel_rfl
theorem r0_8_1_true : rnd 0 8 1 true = true := by kernel_rfl
theorem r0_8_5_true : rnd 0 8 5 true = true := by kernel_rfl
theorem r1_2_0_true : rnd 1 2 0 true = true := by kernel_rfl
theorem r1_3_2_false : rnd 1 3 2 false = true := by kernel_rfl
theorem r1_4_3_false : rnd 1 4 3 false = true := by kernel_rfl
theorem r1_5_3_true : rnd 1 5 3 true = true := by kernel_rfl
theorem r1_6_2_true : rnd 1 6 2 true = true := by kernel_rfl
theorem r1_7_0_false : rnd 1 7 0 false = true := by kernel_rfl
theorem r1_7_4_false : rnd 1 7 4 false = true := by kernel_rfl
theorem r1_8_1_false : rnd 1 8 1 false = true := by kernel_rfl
theorem r1_8_5_false : rnd 1 8 5 false = true := by kernel_rfl
theorem r2_2_0_false : rnd 2 2 0 false = true := by kernel_rfl
theorem r2_3_2_true : rnd 2 3 2 true = true := by kernel_rfl
theorem r2_4_3_true : rnd 2 4 3 true = true := by kernel_rfl
theorem r2_5_3_false : rnd 2 5 3 false = true := by kernel_rfl
theorem r2_6_2_false : rnd 2 6 2 false = true := by kernel_rfl
theorem r2_7_0_true : rnd 2 7 0 true = true := by kernel_rfl
theorem r2_7_4_true : rnd 2 7 4 true = true := by kernel_rfl
theorem r2_8_1_true : rnd 2 8 1 true = true := by kernel_rfl
theorem r2_8_5_true : rnd 2 8 5 true = true := by kernel_rfl
theorem r3_2_0_true : rnd 3 2 0 true = true := by kernel_rfl
theorem r3_3_2_false : rnd 3 3 2 false = true := by kernel_rfl
theorem r3_4_3_false : rnd 3 4 3 false = true := by kernel_rfl
theorem r3_5_3_true : rnd 3 5 3 true = true := by kernel_rfl
theorem r3_6_2_true : rnd 3 6 2 true = true := by kernel_rfl
theorem r3_7_0_false : rnd 3 7 0 false = true := by kernel_rfl
theorem r3_7_4_false : rnd 3 7 4 false = true := by kernel_rfl
theorem r3_8_1_false : rnd 3 8 1 false = true := by kernel_rfl
theorem r3_8_5_false : rnd 3 8 5 false = true := by kernel_rfl
theorem r4_2_0_false : rnd 4 2 0 false = true := by kernel_rfl
theorem r4_3_2_true : rnd 4 3 2 true = true := by kernel_rfl
theorem r4_4_3_true : rnd 4 4 3 true = true := by kernel_rfl
theorem r4_5_3_false : rnd 4 5 3 false = true := by kernel_rfl
theorem r4_6_2_false : rnd 4 6 2 false = true := by kernel_rfl
theorem r4_7_0_true : rnd 4 7 0 true = true := by kernel_rfl
theorem r4_7_4_true : rnd 4 7 4 true = true := by kernel_rfl
theorem r4_8_1_true : rnd 4 8 1 true = true := by kernel_rfl
theorem r4_8_5_true : rnd 4 8 5 true = true := by kernel_rfl
theorem r5_2_0_true : rnd 5 2 0 true = true := by kernel_rfl
theorem r5_3_2_false : rnd 5 3 2 false = true := by kernel_rfl
theorem r5_4_3_false : rnd 5 4 3 false = true := by kernel_rfl
theorem r5_5_3_true : rnd 5 5 3 true = true := by kernel_rfl
theorem r5_6_2_true : rnd 5 6 2 true = true := by kernel_rfl
theorem r5_7_0_false : rnd 5 7 0 false = true := by kernel_rfl
theorem r5_7_4_false : rnd 5 7 4 false = true := by kernel_rfl
theorem r5_8_1_false : rnd 5 8 1 false = true := by kernel_rfl
theorem r5_8_5_false : rnd 5 8 5 false = true := by kernel_rfl
theorem r6_2_0_false : rnd 6 2 0 false = true := by kernel_rfl
theorem r6_3_2_true : rnd 6 3 2 true = true := by kernel_rfl
theorem r6_4_3_true : rnd 6 4 3 true = true := by kernel_rfl
theorem r6_5_3_false : rnd 6 5 3 false = true := by kernel_rfl
theorem r6_6_2_false : rnd 6 6 2 false = true := by kernel_rfl
theorem r6_7_0_true : rnd 6 7 0 true = true := by kernel_rfl
theorem r6_7_4_true : rnd 6 7 4 true = true := by kernel_rfl
theorem r6_8_1_true : rnd 6 8 1 true = true := by kernel_rfl
theorem r6_8_5_true : rnd 6 8 5 true = true := by kernel_rfl
theorem r7_2_0_true : rnd 7 2 0 true = true := by kernel_rfl
theorem r7_3_2_false : rnd 7 3 2 false = true := by kernel_rfl
theorem r7_4_3_false : rnd 7 4 3 false = true := by kernel_rfl
theorem r7_5_3_true : rnd 7 5 3 true = true := by kernel_rfl
theorem r7_6_2_true : rnd 7 6 2 true = true := by kernel_rfl
theorem r7_7_0_false : rnd 7 7 0 false = true := by kernel_rfl
theorem r7_7_4_false : rnd 7 7 4 false = true := by kernel_rfl
theorem r7_8_1_false : rnd 7 8 1 false = true := by kernel_rfl
theorem r7_8_5_false : rnd 7 8 5 false = true := by kernel_rfl
theorem r8_2_0_false : rnd 8 2 0 false = true := by kernel_rfl
theorem r8_3_2_true : rnd 8 3 2 true = true := by kernel_rfl
theorem r8_4_3_true : rnd 8 4 3 true = true := by kernel_rfl
theorem r8_5_3_false : rnd 8 5 3 false = true := by kernel_rfl
theorem r8_6_2_false : rnd 8 6 2 false = true := by kernel_rfl
theorem r8_7_0_true : rnd 8 7 0 true = true := by kernel_rfl
theorem r8_7_4_true : rnd 8 7 4 true = true := by kernel_rfl
theorem r8_8_1_true : rnd 8 8 1 true = true := by kernel_rfl
theorem r8_8_5_true : rnd 8 8 5 true = true := by kernel_rfl
theorem r9_2_0_true : rnd 9 2 0 true = true := by kernel_rfl
theorem r9_3_2_false : rnd 9 3 2 false = true := by kernel_rfl
theorem r9_4_3_false : rnd 9 4 3 false = true := by kernel_rfl
theorem r9_5_3_true : rnd 9 5 3 true = true := by kernel_rfl
theorem r9_6_2_true : rnd 9 6 2 true = true := by kernel_rfl
theorem r9_7_0_false : rnd 9 7 0 false = true := by kernel_rfl
theorem r9_7_4_false : rnd 9 7 4 false = true := by kernel_rfl
theorem r9_8_1_false : rnd 9 8 1 false = true := by kernel_rfl
theorem r9_8_5_false : rnd 9 8 5 false = true := by kernel_rfl
theorem r10_2_0_true : rnd 10 2 0 true = true := by kernel_rfl
theorem r10_3_2_false : rnd 10 3 2 false = true := by kernel_rfl
theorem r10_4_3_false : rnd 10 4 3 false = true := by kernel_rfl
theorem r10_5_3_true : rnd 10 5 3 true = true := by kernel_rfl
theorem r10_6_2_true : rnd 10 6 2 true = true := by kernel_rfl
theorem r10_7_0_false : rnd 10 7 0 false = true := by kernel_rfl
theorem r10_7_4_false : rnd 10 7 4 false = true := by kernel_rfl
theorem r10_8_1_false : rnd 10 8 1 false = true := by kernel_rfl
theorem r10_8_5_false : rnd 10 8 5 false = true := by kernel_rfl
theorem r11_2_0_false : rnd 11 2 0 false = true := by kernel_rfl
theorem r11_3_2_true : rnd 11 3 2 true = true := by kernel_rfl
theorem r11_4_3_true : rnd 11 4 3 true = true := by kernel_rfl
theorem r11_5_3_false : rnd 11 5 3 false = true := by kernel_rfl
theorem r11_6_2_false : rnd 11 6 2 false = true := by kernel_rfl
theorem r11_7_0_true : rnd 11 7 0 true = true := by kernel_rfl
theorem r11_7_4_true : rnd 11 7 4 true = true := by kernel_rfl
theorem r11_8_1_true : rnd 11 8 1 true = true := by kernel_rfl
theorem r11_8_5_true : rnd 11 8 5 true = true := by kernel_rfl
theorem r12_2_0_true : rnd 12 2 0 true = true := by kernel_rfl
theorem r12_3_2_false : rnd 12 3 2 false = true := by kernel_rfl
theorem r12_4_3_false : rnd 12 4 3 false = true := by kernel_rfl
theorem r12_5_3_true : rnd 12 5 3 true = true := by kernel_rfl
theorem r12_6_2_true : rnd 12 6 2 true = true := by kernel_rfl
theorem r12_7_0_false : rnd 12 7 0 false = true := by kernel_rfl
theorem r12_7_4_false : rnd 12 7 4 false = true := by kernel_rfl
theorem r12_8_1_false : rnd 12 8 1 false = true := by kernel_rfl
theorem r12_8_5_false : rnd 12 8 5 false = true := by kernel_rfl
theorem r13_2_0_false : rnd 13 2 0 false = true := by kernel_rfl
theorem r13_3_2_true : rnd 13 3 2 true = true := by kernel_rfl
theorem r13_4_3_true : rnd 13 4 3 true = true := by kernel_rfl
theorem r13_5_3_false : rnd 13 5 3 false = true := by kernel_rfl
theorem r13_6_2_false : rnd 13 6 2 false = true := by kernel_rfl
theorem r13_7_0_true : rnd 13 7 0 true = true := by kernel_rfl
theorem r13_7_4_true : rnd 13 7 4 true = true := by kernel_rfl
theorem r13_8_1_true : rnd 13 8 1 true = true := by kernel_rfl
theorem r13_8_5_true : rnd 13 8 5 true = true := by kernel_rfl
theorem r14_2_0_true : rnd 14 2 0 true = true := by kernel_rfl
theorem r14_3_2_false : rnd 14 3 2 false = true := by kernel_rfl
theorem r14_4_3_false : rnd 14 4 3 false = true := by kernel_rfl
theorem r14_5_3_true : rnd 14 5 3 true = true := by kernel_rfl
theorem r14_6_2_true : rnd 14 6 2 true = true := by kernel_rfl
theorem r14_7_0_false : rnd 14 7 0 false = true := by kernel_rfl
theorem r14_7_4_false : rnd 14 7 4 false = true := by kernel_rfl
theorem r14_8_1_false : rnd 14 8 1 false = true := by kernel_rfl
theorem r14_8_5_false : rnd 14 8 5 false = true := by kernel_rfl
theorem r15_2_0_false : rnd 15 2 0 false = true := by kernel_rfl
theorem r15_3_2_true : rnd 15 3 2 true = true := by kernel_rfl
theorem r15_4_3_true : rnd 15 4 3 true = true := by kernel_rfl
theorem r15_5_3_false : rnd 15 5 3 false = true := by kernel_rfl
theorem r15_6_2_false : rnd 15 6 2 false = true := by kernel_rfl
theorem r15_7_0_true : rnd 15 7 0 true = true := by kernel_rfl
theorem r15_7_4_true : rnd 15 7 4 true = true := by kernel_rfl
theorem r15_8_1_true : rnd 15 8 1 true = true := by kernel_rfl
theorem r15_8_5_true : rnd 15 8 5 true = true := by kernel_rfl
theorem xz2 : exZ 2 = true := by kernel_rfl
theorem xz11 : exZ 11 = true := by kernel_rfl
theorem xc3 : exC 3 = true := by kernel_rfl
theorem bg1 : beg 1 = true := by kernel_rfl
theorem bg5 : beg 5 = true := by kernel_rfl
theorem xa1_3 : exA 1 3 = true := by kernel_rfl
theorem xa2_2 : exA 2 2 = true := by kernel_rfl
theorem xa3_1 : exA 3 1 = true := by kernel_rfl
theorem xa4_0 : exA 4 0 = true := by kernel_rfl
theorem xa4_8 : exA 4 8 = true := by kernel_rfl
theorem xa5_7 : exA 5 7 = true := by kernel_rfl
theorem xa6_6 : exA 6 6 = true := by kernel_rfl
theorem xa7_5 : exA 7 5 = true := by kernel_rfl
theorem xa8_4 : exA 8 4 = true := by kernel_rfl
theorem xa9_3 : exA 9 3 = true := by kernel_rfl
theorem xa10_3 : exA 10 3 = true := by kernel_rfl
theorem xa11_2 : exA 11 2 = true := by kernel_rfl
theorem xa12_1 : exA 12 1 = true := by kernel_rfl
theorem xa13_0 : exA 13 0 = true := by kernel_rfl
theorem xa13_8 : exA 13 8 = true := by kernel_rfl
theorem xa14_7 : exA 14 7 = true := by kernel_rfl
theorem xa15_6 : exA 15 6 = true := by kernel_rfl
theorem xa16_5 : exA 16 5 = true := by kernel_rfl
theorem se5 : sml 5 .emp = true := by kernel_rfl
theorem r0_2_1_false : rnd 0 2 1 false = true := by kernel_rfl
theorem r0_4_0_true : rnd 0 4 0 true = true := by kernel_rfl
theorem r0_5_0_false : rnd 0 5 0 false = true := by kernel_rfl
theorem r0_5_4_false : rnd 0 5 4 false = true := by kernel_rfl
theorem r0_6_3_false : rnd 0 6 3 false = true := by kernel_rfl
theorem r0_7_1_true : rnd 0 7 1 true = true := by kernel_rfl
theorem r0_7_5_true : rnd 0 7 5 true = true := by kernel_rfl
theorem r0_8_2_true : rnd 0 8 2 true = true := by kernel_rfl
theorem r0_8_6_true : rnd 0 8 6 true = true := by kernel_rfl
theorem r1_2_1_true : rnd 1 2 1 true = true := by kernel_rfl
theorem r1_4_0_false : rnd 1 4 0 false = true := by kernel_rfl
theorem r1_5_0_true : rnd 1 5 0 true = true := by kernel_rfl
theorem r1_5_4_true : rnd 1 5 4 true = true := by kernel_rfl
theorem r1_6_3_true : rnd 1 6 3 true = true := by kernel_rfl
theorem r1_7_1_false : rnd 1 7 1 false = true := by kernel_rfl
theorem r1_7_5_false : rnd 1 7 5 false = true := by kernel_rfl
theorem r1_8_2_false : rnd 1 8 2 false = true := by kernel_rfl
theorem r1_8_6_false : rnd 1 8 6 false = true := by kernel_rfl
theorem r2_2_1_false : rnd 2 2 1 false = true := by kernel_rfl
theorem r2_4_0_true : rnd 2 4 0 true = true := by kernel_rfl
theorem r2_5_0_false : rnd 2 5 0 false = true := by kernel_rfl
theorem r2_5_4_false : rnd 2 5 4 false = true := by kernel_rfl
theorem r2_6_3_false : rnd 2 6 3 false = true := by kernel_rfl
theorem r2_7_1_true : rnd 2 7 1 true = true := by kernel_rfl
theorem r2_7_5_true : rnd 2 7 5 true = true := by kernel_rfl
theorem r2_8_2_true : rnd 2 8 2 true = true := by kernel_rfl
theorem r2_8_6_true : rnd 2 8 6 true = true := by kernel_rfl
theorem r3_2_1_true : rnd 3 2 1 true = true := by kernel_rfl
theorem r3_4_0_false : rnd 3 4 0 false = true := by kernel_rfl
theorem r3_5_0_true : rnd 3 5 0 true = true := by kernel_rfl
theorem r3_5_4_true : rnd 3 5 4 true = true := by kernel_rfl
theorem r3_6_3_true : rnd 3 6 3 true = true := by kernel_rfl
theorem r3_7_1_false : rnd 3 7 1 false = true := by kernel_rfl
theorem r3_7_5_false : rnd 3 7 5 false = true := by kernel_rfl
theorem r3_8_2_false : rnd 3 8 2 false = true := by kernel_rfl
theorem r3_8_6_false : rnd 3 8 6 false = true := by kernel_rfl
theorem r4_2_1_false : rnd 4 2 1 false = true := by kernel_rfl
theorem r4_4_0_true : rnd 4 4 0 true = true := by kernel_rfl
theorem r4_5_0_false : rnd 4 5 0 false = true := by kernel_rfl
theorem r4_5_4_false : rnd 4 5 4 false = true := by kernel_rfl
theorem r4_6_3_false : rnd 4 6 3 false = true := by kernel_rfl
theorem r4_7_1_true : rnd 4 7 1 true = true := by kernel_rfl
theorem r4_7_5_true : rnd 4 7 5 true = true := by kernel_rfl
theorem r4_8_2_true : rnd 4 8 2 true = true := by kernel_rfl
theorem r4_8_6_true : rnd 4 8 6 true = true := by kernel_rfl
theorem r5_2_1_true : rnd 5 2 1 true = true := by kernel_rfl
theorem r5_4_0_false : rnd 5 4 0 false = true := by kernel_rfl
theorem r5_5_0_true : rnd 5 5 0 true = true := by kernel_rfl
theorem r5_5_4_true : rnd 5 5 4 true = true := by kernel_rfl
theorem r5_6_3_true : rnd 5 6 3 true = true := by kernel_rfl
theorem r5_7_1_false : rnd 5 7 1 false = true := by kernel_rfl
theorem r5_7_5_false : rnd 5 7 5 false = true := by kernel_rfl
theorem r5_8_2_false : rnd 5 8 2 false = true := by kernel_rfl
theorem r5_8_6_false : rnd 5 8 6 false = true := by kernel_rfl
theorem r6_2_1_false : rnd 6 2 1 false = true := by kernel_rfl
theorem r6_4_0_true : rnd 6 4 0 true = true := by kernel_rfl
theorem r6_5_0_false : rnd 6 5 0 false = true := by kernel_rfl
theorem r6_5_4_false : rnd 6 5 4 false = true := by kernel_rfl
theorem r6_6_3_false : rnd 6 6 3 false = true := by kernel_rfl
theorem r6_7_1_true : rnd 6 7 1 true = true := by kernel_rfl
theorem r6_7_5_true : rnd 6 7 5 true = true := by kernel_rfl
theorem r6_8_2_true : rnd 6 8 2 true = true := by kernel_rfl
theorem r6_8_6_true : rnd 6 8 6 true = true := by kernel_rfl
theorem r7_2_1_true : rnd 7 2 1 true = true := by kernel_rfl
theorem r7_4_0_false : rnd 7 4 0 false = true := by kernel_rfl
theorem r7_5_0_true : rnd 7 5 0 true = true := by kernel_rfl
theorem r7_5_4_true : rnd 7 5 4 true = true := by kernel_rfl
theorem r7_6_3_true : rnd 7 6 3 true = true := by kernel_rfl
theorem r7_7_1_false : rnd 7 7 1 false = true := by kernel_rfl
theorem r7_7_5_false : rnd 7 7 5 false = true := by kernel_rfl
theorem r7_8_2_false : rnd 7 8 2 false = true := by kernel_rfl
theorem r7_8_6_false : rnd 7 8 6 false = true := by kernel_rfl
theorem r8_2_1_false : rnd 8 2 1 false = true := by kernel_rfl
theorem r8_4_0_true : rnd 8 4 0 true = true := by kernel_rfl
theorem r8_5_0_false : rnd 8 5 0 false = true := by kernel_rfl
theorem r8_5_4_false : rnd 8 5 4 false = true := by kernel_rfl
theorem r8_6_3_false : rnd 8 6 3 false = true := by kernel_rfl
theorem r8_7_1_true : rnd 8 7 1 true = true := by kernel_rfl
theorem r8_7_5_true : rnd 8 7 5 true = true := by kernel_rfl
theorem r8_8_2_true : rnd 8 8 2 true = true := by kernel_rfl
theorem r8_8_6_true : rnd 8 8 6 true = true := by kernel_rfl
theorem r9_2_1_true : rnd 9 2 1 true = true := by kernel_rfl
theorem r9_4_0_false : rnd 9 4 0 false = true := by kernel_rfl
theorem r9_5_0_true : rnd 9 5 0 true = true := by kernel_rfl
theorem r9_5_4_true : rnd 9 5 4 true = true := by kernel_rfl
theorem r9_6_3_true : rnd 9 6 3 true = true := by kernel_rfl
theorem r9_7_1_false : rnd 9 7 1 false = true := by kernel_rfl
theorem r9_7_5_false : rnd 9 7 5 false = true := by kernel_rfl
theorem r9_8_2_false : rnd 9 8 2 false = true := by kernel_rfl
theorem r9_8_6_false : rnd 9 8 6 false = true := by kernel_rfl
theorem r10_2_1_true : rnd 10 2 1 true = true := by kernel_rfl
theorem r10_4_0_false : rnd 10 4 0 false = true := by kernel_rfl
theorem r10_5_0_true : rnd 10 5 0 true = true := by kernel_rfl
theorem r10_5_4_true : rnd 10 5 4 true = true := by kernel_rfl
theorem r10_6_3_true : rnd 10 6 3 true = true := by kernel_rfl
theorem r10_7_1_false : rnd 10 7 1 false = true := by kernel_rfl
theorem r10_7_5_false : rnd 10 7 5 false = true := by kernel_rfl
theorem r10_8_2_false : rnd 10 8 2 false = true := by kernel_rfl
theorem r10_8_6_false : rnd 10 8 6 false = true := by kernel_rfl
theorem r11_2_1_false : rnd 11 2 1 false = true := by kernel_rfl
theorem r11_4_0_true : rnd 11 4 0 true = true := by kernel_rfl
theorem r11_5_0_false : rnd 11 5 0 false = true := by kernel_rfl
theorem r11_5_4_false : rnd 11 5 4 false = true := by kernel_rfl
theorem r11_6_3_false : rnd 11 6 3 false = true := by kernel_rfl
theorem r11_7_1_true : rnd 11 7 1 true = true := by kernel_rfl
theorem r11_7_5_true : rnd 11 7 5 true = true := by kernel_rfl
theorem r11_8_2_true : rnd 11 8 2 true = true := by kernel_rfl
theorem r11_8_6_true : rnd 11 8 6 true = true := by kernel_rfl
theorem r12_2_1_true : rnd 12 2 1 true = true := by kernel_rfl
theorem r12_4_0_false : rnd 12 4 0 false = true := by kernel_rfl
theorem r12_5_0_true : rnd 12 5 0 true = true := by kernel_rfl
theorem r12_5_4_true : rnd 12 5 4 true = true := by kernel_rfl
theorem r12_6_3_true : rnd 12 6 3 true = true := by kernel_rfl
theorem r12_7_1_false : rnd 12 7 1 false = true := by kernel_rfl
theorem r12_7_5_false : rnd 12 7 5 false = true := by kernel_rfl
theorem r12_8_2_false : rnd 12 8 2 false = true := by kernel_rfl
theorem r12_8_6_false : rnd 12 8 6 false = true := by kernel_rfl
theorem r13_2_1_false : rnd 13 2 1 false = true := by kernel_rfl
theorem r13_4_0_true : rnd 13 4 0 true = true := by kernel_rfl
theorem r13_5_0_false : rnd 13 5 0 false = true := by kernel_rfl
theorem r13_5_4_false : rnd 13 5 4 false = true := by kernel_rfl
theorem r13_6_3_false : rnd 13 6 3 false = true := by kernel_rfl
theorem r13_7_1_true : rnd 13 7 1 true = true := by kernel_rfl
theorem r13_7_5_true : rnd 13 7 5 true = true := by kernel_rfl
theorem r13_8_2_true : rnd 13 8 2 true = true := by kernel_rfl
theorem r13_8_6_true : rnd 13 8 6 true = true := by kernel_rfl
theorem r14_2_1_true : rnd 14 2 1 true = true := by kernel_rfl
theorem r14_4_0_false : rnd 14 4 0 false = true := by kernel_rfl
theorem r14_5_0_true : rnd 14 5 0 true = true := by kernel_rfl
theorem r14_5_4_true : rnd 14 5 4 true = true := by kernel_rfl
theorem r14_6_3_true : rnd 14 6 3 true = true := by kernel_rfl
theorem r14_7_1_false : rnd 14 7 1 false = true := by kernel_rfl
theorem r14_7_5_false : rnd 14 7 5 false = true := by kernel_rfl
theorem r14_8_2_false : rnd 14 8 2 false = true := by kernel_rfl
theorem r14_8_6_false : rnd 14 8 6 false = true := by kernel_rfl
theorem r15_2_1_false : rnd 15 2 1 false = true := by kernel_rfl
theorem r15_4_0_true : rnd 15 4 0 true = true := by kernel_rfl
theorem r15_5_0_false : rnd 15 5 0 false = true := by kernel_rfl
theorem r15_5_4_false : rnd 15 5 4 false = true := by kernel_rfl
theorem r15_6_3_false : rnd 15 6 3 false = true := by kernel_rfl
theorem r15_7_1_true : rnd 15 7 1 true = true := by kernel_rfl
theorem r15_7_5_true : rnd 15 7 5 true = true := by kernel_rfl
theorem r15_8_2_true : rnd 15 8 2 true = true := by kernel_rfl
theorem r15_8_6_true : rnd 15 8 6 true = true := by kernel_rfl
theorem xz5 : exZ 5 = true := by kernel_rfl
theorem xz12 : exZ 12 = true := by kernel_rfl
theorem xc4 : exC 4 = true := by kernel_rfl
theorem sn1 : sml 1 .nils = true := by kernel_rfl
theorem sn5 : sml 5 .nils = true := by kernel_rfl
theorem xa1_2 : exA 1 2 = true := by kernel_rfl
theorem xa2_1 : exA 2 1 = true := by kernel_rfl
theorem xa3_0 : exA 3 0 = true := by kernel_rfl
theorem xa3_8 : exA 3 8 = true := by kernel_rfl
theorem xa4_7 : exA 4 7 = true := by kernel_rfl
theorem xa5_6 : exA 5 6 = true := by kernel_rfl
theorem xa6_5 : exA 6 5 = true := by kernel_rfl
theorem xa7_4 : exA 7 4 = true := by kernel_rfl
theorem xa8_3 : exA 8 3 = true := by kernel_rfl
theorem xa9_2 : exA 9 2 = true := by kernel_rfl
theorem xa10_0 : exA 10 0 = true := by kernel_rfl
theorem xa10_8 : exA 10 8 = true := by kernel_rfl
theorem xa11_7 : exA 11 7 = true := by kernel_rfl
theorem xa12_6 : exA 12 6 = true := by kernel_rfl
theorem xa13_5 : exA 13 5 = true := by kernel_rfl
theorem xa14_4 : exA 14 4 = true := by kernel_rfl
theorem xa15_3 : exA 15 3 = true := by kernel_rfl
theorem xa16_2 : exA 16 2 = true := by kernel_rfl
theorem se0 : sml 0 .emp = true := by kernel_rfl
end Go.Proofs.Ytjdiigkmogmkhaa.flightTakesRun
