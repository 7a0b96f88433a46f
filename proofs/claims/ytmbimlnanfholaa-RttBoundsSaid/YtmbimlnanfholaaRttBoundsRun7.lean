/- Runs of the law RttBounds. -/
import Derived.Test.YtmbimlnanfholaaRttBoundsHook
namespace Go.Proofs.Ytmbimlnanfholaa.rttBoundsRun
open Go.Vm Go.RowKit
set_option linter.unusedVariables false
set_option linter.unusedSimpArgs false
set_option maxRecDepth 1000000
theorem tl5_0_0 : rl 5 0 1 1 = true := by kernel_rfl
theorem tl13_0_0 : rl 13 0 1 1 = true := by kernel_rfl
theorem tn_0_1 : rn 0 1 1 = true := by kernel_rfl
theorem tl6_0_1 : rl 6 0 2 2 = true := by kernel_rfl
theorem tl14_0_1 : rl 14 0 2 2 = true := by kernel_rfl
theorem te_0_2 : re 0 2 3 = true := by kernel_rfl
theorem tl7_0_2 : rl 7 0 3 4 = true := by kernel_rfl
theorem tl15_0_2 : rl 15 0 3 4 = true := by kernel_rfl
theorem ta_0_3 : ra 0 5 8 = true := by kernel_rfl
theorem tl8_0_3 : rl 8 0 5 8 = true := by kernel_rfl
theorem tl16_0_3 : rl 16 0 5 8 = true := by kernel_rfl
theorem tl1_0_4 : rl 1 0 9 16 = true := by kernel_rfl
theorem tl9_0_4 : rl 9 0 9 16 = true := by kernel_rfl
theorem tl17_0_4 : rl 17 0 9 16 = true := by kernel_rfl
theorem tl2_0_5 : rl 2 0 17 32 = true := by kernel_rfl
theorem tl10_0_5 : rl 10 0 17 32 = true := by kernel_rfl
theorem tl18_0_5 : rl 18 0 17 32 = true := by kernel_rfl
theorem tl3_0_6 : rl 3 0 33 64 = true := by kernel_rfl
theorem tl11_0_6 : rl 11 0 33 64 = true := by kernel_rfl
theorem tl19_0_6 : rl 19 0 33 64 = true := by kernel_rfl
theorem tl4_1_0 : rl 4 1 1 1 = true := by kernel_rfl
theorem tl12_1_0 : rl 12 1 1 1 = true := by kernel_rfl
theorem tl20_1_0 : rl 20 1 1 1 = true := by kernel_rfl
theorem tl5_1_1 : rl 5 1 2 2 = true := by kernel_rfl
theorem tl13_1_1 : rl 13 1 2 2 = true := by kernel_rfl
theorem tn_1_2 : rn 1 2 3 = true := by kernel_rfl
theorem tl6_1_2 : rl 6 1 3 4 = true := by kernel_rfl
theorem tl14_1_2 : rl 14 1 3 4 = true := by kernel_rfl
theorem te_1_3 : re 1 4 7 = true := by kernel_rfl
theorem tl7_1_3 : rl 7 1 5 8 = true := by kernel_rfl
theorem tl15_1_3 : rl 15 1 5 8 = true := by kernel_rfl
theorem ta_1_4 : ra 1 9 16 = true := by kernel_rfl
theorem tl8_1_4 : rl 8 1 9 16 = true := by kernel_rfl
theorem tl16_1_4 : rl 16 1 9 16 = true := by kernel_rfl
theorem tl1_1_5 : rl 1 1 17 32 = true := by kernel_rfl
theorem tl9_1_5 : rl 9 1 17 32 = true := by kernel_rfl
theorem tl17_1_5 : rl 17 1 17 32 = true := by kernel_rfl
theorem tl2_1_6 : rl 2 1 33 64 = true := by kernel_rfl
theorem tl10_1_6 : rl 10 1 33 64 = true := by kernel_rfl
theorem tl18_1_6 : rl 18 1 33 64 = true := by kernel_rfl
theorem tl3_2_0 : rl 3 2 1 1 = true := by kernel_rfl
theorem tl11_2_0 : rl 11 2 1 1 = true := by kernel_rfl
theorem tl19_2_0 : rl 19 2 1 1 = true := by kernel_rfl
theorem tl4_2_1 : rl 4 2 2 2 = true := by kernel_rfl
theorem tl12_2_1 : rl 12 2 2 2 = true := by kernel_rfl
theorem tl20_2_1 : rl 20 2 2 2 = true := by kernel_rfl
theorem tl5_2_2 : rl 5 2 3 4 = true := by kernel_rfl
theorem tl13_2_2 : rl 13 2 3 4 = true := by kernel_rfl
theorem tn_2_3 : rn 2 4 7 = true := by kernel_rfl
theorem tl6_2_3 : rl 6 2 5 8 = true := by kernel_rfl
theorem tl14_2_3 : rl 14 2 5 8 = true := by kernel_rfl
theorem te_2_4 : re 2 8 15 = true := by kernel_rfl
theorem tl7_2_4 : rl 7 2 9 16 = true := by kernel_rfl
theorem tl15_2_4 : rl 15 2 9 16 = true := by kernel_rfl
theorem ta_2_5 : ra 2 17 32 = true := by kernel_rfl
theorem tl8_2_5 : rl 8 2 17 32 = true := by kernel_rfl
theorem tl16_2_5 : rl 16 2 17 32 = true := by kernel_rfl
theorem tl1_2_6 : rl 1 2 33 64 = true := by kernel_rfl
theorem tl9_2_6 : rl 9 2 33 64 = true := by kernel_rfl
theorem tl17_2_6 : rl 17 2 33 64 = true := by kernel_rfl
theorem tl2_3_0 : rl 2 3 1 1 = true := by kernel_rfl
theorem tl10_3_0 : rl 10 3 1 1 = true := by kernel_rfl
theorem tl18_3_0 : rl 18 3 1 1 = true := by kernel_rfl
theorem tl3_3_1 : rl 3 3 2 2 = true := by kernel_rfl
theorem tl11_3_1 : rl 11 3 2 2 = true := by kernel_rfl
theorem tl19_3_1 : rl 19 3 2 2 = true := by kernel_rfl
theorem tl4_3_2 : rl 4 3 3 4 = true := by kernel_rfl
theorem tl12_3_2 : rl 12 3 3 4 = true := by kernel_rfl
theorem tl20_3_2 : rl 20 3 3 4 = true := by kernel_rfl
theorem tl5_3_3 : rl 5 3 5 8 = true := by kernel_rfl
theorem tl13_3_3 : rl 13 3 5 8 = true := by kernel_rfl
theorem tn_3_4 : rn 3 8 15 = true := by kernel_rfl
theorem tl6_3_4 : rl 6 3 9 16 = true := by kernel_rfl
theorem tl14_3_4 : rl 14 3 9 16 = true := by kernel_rfl
theorem te_3_5 : re 3 16 31 = true := by kernel_rfl
theorem tl7_3_5 : rl 7 3 17 32 = true := by kernel_rfl
theorem tl15_3_5 : rl 15 3 17 32 = true := by kernel_rfl
theorem ta_3_6 : ra 3 33 64 = true := by kernel_rfl
theorem tl8_3_6 : rl 8 3 33 64 = true := by kernel_rfl
theorem tl16_3_6 : rl 16 3 33 64 = true := by kernel_rfl
theorem tl1_4_0 : rl 1 4 1 1 = true := by kernel_rfl
theorem tl9_4_0 : rl 9 4 1 1 = true := by kernel_rfl
theorem tl17_4_0 : rl 17 4 1 1 = true := by kernel_rfl
theorem tl2_4_1 : rl 2 4 2 2 = true := by kernel_rfl
theorem tl10_4_1 : rl 10 4 2 2 = true := by kernel_rfl
theorem tl18_4_1 : rl 18 4 2 2 = true := by kernel_rfl
theorem tl3_4_2 : rl 3 4 3 4 = true := by kernel_rfl
theorem tl11_4_2 : rl 11 4 3 4 = true := by kernel_rfl
theorem tl19_4_2 : rl 19 4 3 4 = true := by kernel_rfl
theorem tl4_4_3 : rl 4 4 5 8 = true := by kernel_rfl
theorem tl12_4_3 : rl 12 4 5 8 = true := by kernel_rfl
theorem tl20_4_3 : rl 20 4 5 8 = true := by kernel_rfl
theorem tl5_4_4 : rl 5 4 9 16 = true := by kernel_rfl
theorem tl13_4_4 : rl 13 4 9 16 = true := by kernel_rfl
theorem tn_4_5 : rn 4 16 31 = true := by kernel_rfl
theorem tl6_4_5 : rl 6 4 17 32 = true := by kernel_rfl
theorem tl14_4_5 : rl 14 4 17 32 = true := by kernel_rfl
theorem te_4_6 : re 4 32 63 = true := by kernel_rfl
theorem tl7_4_6 : rl 7 4 33 64 = true := by kernel_rfl
theorem tl15_4_6 : rl 15 4 33 64 = true := by kernel_rfl
theorem ta_5_0 : ra 5 1 1 = true := by kernel_rfl
theorem tl8_5_0 : rl 8 5 1 1 = true := by kernel_rfl
theorem tl16_5_0 : rl 16 5 1 1 = true := by kernel_rfl
theorem tl1_5_1 : rl 1 5 2 2 = true := by kernel_rfl
theorem tl9_5_1 : rl 9 5 2 2 = true := by kernel_rfl
theorem tl17_5_1 : rl 17 5 2 2 = true := by kernel_rfl
theorem tl2_5_2 : rl 2 5 3 4 = true := by kernel_rfl
theorem tl10_5_2 : rl 10 5 3 4 = true := by kernel_rfl
theorem tl18_5_2 : rl 18 5 3 4 = true := by kernel_rfl
theorem tl3_5_3 : rl 3 5 5 8 = true := by kernel_rfl
theorem tl11_5_3 : rl 11 5 5 8 = true := by kernel_rfl
theorem tl19_5_3 : rl 19 5 5 8 = true := by kernel_rfl
theorem tl4_5_4 : rl 4 5 9 16 = true := by kernel_rfl
theorem tl12_5_4 : rl 12 5 9 16 = true := by kernel_rfl
theorem tl20_5_4 : rl 20 5 9 16 = true := by kernel_rfl
theorem tl5_5_5 : rl 5 5 17 32 = true := by kernel_rfl
theorem tl13_5_5 : rl 13 5 17 32 = true := by kernel_rfl
theorem tn_5_6 : rn 5 32 63 = true := by kernel_rfl
theorem tl6_5_6 : rl 6 5 33 64 = true := by kernel_rfl
theorem tl14_5_6 : rl 14 5 33 64 = true := by kernel_rfl
theorem te_6_0 : re 6 0 0 = true := by kernel_rfl
theorem tl7_6_0 : rl 7 6 1 1 = true := by kernel_rfl
theorem tl15_6_0 : rl 15 6 1 1 = true := by kernel_rfl
theorem ta_6_1 : ra 6 2 2 = true := by kernel_rfl
theorem tl8_6_1 : rl 8 6 2 2 = true := by kernel_rfl
theorem tl16_6_1 : rl 16 6 2 2 = true := by kernel_rfl
theorem tl1_6_2 : rl 1 6 3 4 = true := by kernel_rfl
theorem tl9_6_2 : rl 9 6 3 4 = true := by kernel_rfl
theorem tl17_6_2 : rl 17 6 3 4 = true := by kernel_rfl
theorem tl2_6_3 : rl 2 6 5 8 = true := by kernel_rfl
theorem tl10_6_3 : rl 10 6 5 8 = true := by kernel_rfl
theorem tl18_6_3 : rl 18 6 5 8 = true := by kernel_rfl
theorem tl3_6_4 : rl 3 6 9 16 = true := by kernel_rfl
theorem tl11_6_4 : rl 11 6 9 16 = true := by kernel_rfl
theorem tl19_6_4 : rl 19 6 9 16 = true := by kernel_rfl
theorem tl4_6_5 : rl 4 6 17 32 = true := by kernel_rfl
theorem tl12_6_5 : rl 12 6 17 32 = true := by kernel_rfl
theorem tl20_6_5 : rl 20 6 17 32 = true := by kernel_rfl
theorem tl5_6_6 : rl 5 6 33 64 = true := by kernel_rfl
theorem tl13_6_6 : rl 13 6 33 64 = true := by kernel_rfl
theorem tn_7_0 : rn 7 0 0 = true := by kernel_rfl
theorem tl6_7_0 : rl 6 7 1 1 = true := by kernel_rfl
theorem tl14_7_0 : rl 14 7 1 1 = true := by kernel_rfl
theorem te_7_1 : re 7 1 1 = true := by kernel_rfl
theorem tl7_7_1 : rl 7 7 2 2 = true := by kernel_rfl
theorem tl15_7_1 : rl 15 7 2 2 = true := by kernel_rfl
theorem ta_7_2 : ra 7 3 4 = true := by kernel_rfl
theorem tl8_7_2 : rl 8 7 3 4 = true := by kernel_rfl
theorem tl16_7_2 : rl 16 7 3 4 = true := by kernel_rfl
theorem tl1_7_3 : rl 1 7 5 8 = true := by kernel_rfl
theorem tl9_7_3 : rl 9 7 5 8 = true := by kernel_rfl
theorem tl17_7_3 : rl 17 7 5 8 = true := by kernel_rfl
theorem tl2_7_4 : rl 2 7 9 16 = true := by kernel_rfl
theorem tl10_7_4 : rl 10 7 9 16 = true := by kernel_rfl
theorem tl18_7_4 : rl 18 7 9 16 = true := by kernel_rfl
theorem tl3_7_5 : rl 3 7 17 32 = true := by kernel_rfl
theorem tl11_7_5 : rl 11 7 17 32 = true := by kernel_rfl
theorem tl19_7_5 : rl 19 7 17 32 = true := by kernel_rfl
theorem tl4_7_6 : rl 4 7 33 64 = true := by kernel_rfl
theorem tl12_7_6 : rl 12 7 33 64 = true := by kernel_rfl
theorem tl20_7_6 : rl 20 7 33 64 = true := by kernel_rfl
theorem tl5_8_0 : rl 5 8 1 1 = true := by kernel_rfl
theorem tl13_8_0 : rl 13 8 1 1 = true := by kernel_rfl
theorem tn_8_1 : rn 8 1 1 = true := by kernel_rfl
theorem tl6_8_1 : rl 6 8 2 2 = true := by kernel_rfl
theorem tl14_8_1 : rl 14 8 2 2 = true := by kernel_rfl
theorem te_8_2 : re 8 2 3 = true := by kernel_rfl
theorem tl7_8_2 : rl 7 8 3 4 = true := by kernel_rfl
theorem tl15_8_2 : rl 15 8 3 4 = true := by kernel_rfl
theorem ta_8_3 : ra 8 5 8 = true := by kernel_rfl
theorem tl8_8_3 : rl 8 8 5 8 = true := by kernel_rfl
theorem tl16_8_3 : rl 16 8 5 8 = true := by kernel_rfl
theorem tl1_8_4 : rl 1 8 9 16 = true := by kernel_rfl
theorem tl9_8_4 : rl 9 8 9 16 = true := by kernel_rfl
theorem tl17_8_4 : rl 17 8 9 16 = true := by kernel_rfl
theorem tl2_8_5 : rl 2 8 17 32 = true := by kernel_rfl
theorem tl10_8_5 : rl 10 8 17 32 = true := by kernel_rfl
theorem tl18_8_5 : rl 18 8 17 32 = true := by kernel_rfl
theorem tl3_8_6 : rl 3 8 33 64 = true := by kernel_rfl
theorem tl11_8_6 : rl 11 8 33 64 = true := by kernel_rfl
theorem tl19_8_6 : rl 19 8 33 64 = true := by kernel_rfl
end Go.Proofs.Ytmbimlnanfholaa.rttBoundsRun
