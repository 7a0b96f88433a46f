/- Runs of the law RttBounds. -/
import Derived.Test.YtmbimlnanfholaaRttBoundsHook
namespace Go.Proofs.Ytmbimlnanfholaa.rttBoundsRun
open Go.Vm Go.RowKit
set_option linter.unusedVariables false
set_option linter.unusedSimpArgs false
set_option maxRecDepth 1000000
theorem tl1_0_0 : rl 1 0 1 1 = true := by kernel_rfl
theorem tl9_0_0 : rl 9 0 1 1 = true := by kernel_rfl
theorem tl17_0_0 : rl 17 0 1 1 = true := by kernel_rfl
theorem tl2_0_1 : rl 2 0 2 2 = true := by kernel_rfl
theorem tl10_0_1 : rl 10 0 2 2 = true := by kernel_rfl
theorem tl18_0_1 : rl 18 0 2 2 = true := by kernel_rfl
theorem tl3_0_2 : rl 3 0 3 4 = true := by kernel_rfl
theorem tl11_0_2 : rl 11 0 3 4 = true := by kernel_rfl
theorem tl19_0_2 : rl 19 0 3 4 = true := by kernel_rfl
theorem tl4_0_3 : rl 4 0 5 8 = true := by kernel_rfl
theorem tl12_0_3 : rl 12 0 5 8 = true := by kernel_rfl
theorem tl20_0_3 : rl 20 0 5 8 = true := by kernel_rfl
theorem tl5_0_4 : rl 5 0 9 16 = true := by kernel_rfl
theorem tl13_0_4 : rl 13 0 9 16 = true := by kernel_rfl
theorem tn_0_5 : rn 0 16 31 = true := by kernel_rfl
theorem tl6_0_5 : rl 6 0 17 32 = true := by kernel_rfl
theorem tl14_0_5 : rl 14 0 17 32 = true := by kernel_rfl
theorem te_0_6 : re 0 32 63 = true := by kernel_rfl
theorem tl7_0_6 : rl 7 0 33 64 = true := by kernel_rfl
theorem tl15_0_6 : rl 15 0 33 64 = true := by kernel_rfl
theorem ta_1_0 : ra 1 1 1 = true := by kernel_rfl
theorem tl8_1_0 : rl 8 1 1 1 = true := by kernel_rfl
theorem tl16_1_0 : rl 16 1 1 1 = true := by kernel_rfl
theorem tl1_1_1 : rl 1 1 2 2 = true := by kernel_rfl
theorem tl9_1_1 : rl 9 1 2 2 = true := by kernel_rfl
theorem tl17_1_1 : rl 17 1 2 2 = true := by kernel_rfl
theorem tl2_1_2 : rl 2 1 3 4 = true := by kernel_rfl
theorem tl10_1_2 : rl 10 1 3 4 = true := by kernel_rfl
theorem tl18_1_2 : rl 18 1 3 4 = true := by kernel_rfl
theorem tl3_1_3 : rl 3 1 5 8 = true := by kernel_rfl
theorem tl11_1_3 : rl 11 1 5 8 = true := by kernel_rfl
theorem tl19_1_3 : rl 19 1 5 8 = true := by kernel_rfl
theorem tl4_1_4 : rl 4 1 9 16 = true := by kernel_rfl
theorem tl12_1_4 : rl 12 1 9 16 = true := by kernel_rfl
theorem tl20_1_4 : rl 20 1 9 16 = true := by kernel_rfl
theorem tl5_1_5 : rl 5 1 17 32 = true := by kernel_rfl
theorem tl13_1_5 : rl 13 1 17 32 = true := by kernel_rfl
theorem tn_1_6 : rn 1 32 63 = true := by kernel_rfl
theorem tl6_1_6 : rl 6 1 33 64 = true := by kernel_rfl
theorem tl14_1_6 : rl 14 1 33 64 = true := by kernel_rfl
theorem te_2_0 : re 2 0 0 = true := by kernel_rfl
theorem tl7_2_0 : rl 7 2 1 1 = true := by kernel_rfl
theorem tl15_2_0 : rl 15 2 1 1 = true := by kernel_rfl
theorem ta_2_1 : ra 2 2 2 = true := by kernel_rfl
theorem tl8_2_1 : rl 8 2 2 2 = true := by kernel_rfl
theorem tl16_2_1 : rl 16 2 2 2 = true := by kernel_rfl
theorem tl1_2_2 : rl 1 2 3 4 = true := by kernel_rfl
theorem tl9_2_2 : rl 9 2 3 4 = true := by kernel_rfl
theorem tl17_2_2 : rl 17 2 3 4 = true := by kernel_rfl
theorem tl2_2_3 : rl 2 2 5 8 = true := by kernel_rfl
theorem tl10_2_3 : rl 10 2 5 8 = true := by kernel_rfl
theorem tl18_2_3 : rl 18 2 5 8 = true := by kernel_rfl
theorem tl3_2_4 : rl 3 2 9 16 = true := by kernel_rfl
theorem tl11_2_4 : rl 11 2 9 16 = true := by kernel_rfl
theorem tl19_2_4 : rl 19 2 9 16 = true := by kernel_rfl
theorem tl4_2_5 : rl 4 2 17 32 = true := by kernel_rfl
theorem tl12_2_5 : rl 12 2 17 32 = true := by kernel_rfl
theorem tl20_2_5 : rl 20 2 17 32 = true := by kernel_rfl
theorem tl5_2_6 : rl 5 2 33 64 = true := by kernel_rfl
theorem tl13_2_6 : rl 13 2 33 64 = true := by kernel_rfl
theorem tn_3_0 : rn 3 0 0 = true := by kernel_rfl
theorem tl6_3_0 : rl 6 3 1 1 = true := by kernel_rfl
theorem tl14_3_0 : rl 14 3 1 1 = true := by kernel_rfl
theorem te_3_1 : re 3 1 1 = true := by kernel_rfl
theorem tl7_3_1 : rl 7 3 2 2 = true := by kernel_rfl
theorem tl15_3_1 : rl 15 3 2 2 = true := by kernel_rfl
theorem ta_3_2 : ra 3 3 4 = true := by kernel_rfl
theorem tl8_3_2 : rl 8 3 3 4 = true := by kernel_rfl
theorem tl16_3_2 : rl 16 3 3 4 = true := by kernel_rfl
theorem tl1_3_3 : rl 1 3 5 8 = true := by kernel_rfl
theorem tl9_3_3 : rl 9 3 5 8 = true := by kernel_rfl
theorem tl17_3_3 : rl 17 3 5 8 = true := by kernel_rfl
theorem tl2_3_4 : rl 2 3 9 16 = true := by kernel_rfl
theorem tl10_3_4 : rl 10 3 9 16 = true := by kernel_rfl
theorem tl18_3_4 : rl 18 3 9 16 = true := by kernel_rfl
theorem tl3_3_5 : rl 3 3 17 32 = true := by kernel_rfl
theorem tl11_3_5 : rl 11 3 17 32 = true := by kernel_rfl
theorem tl19_3_5 : rl 19 3 17 32 = true := by kernel_rfl
theorem tl4_3_6 : rl 4 3 33 64 = true := by kernel_rfl
theorem tl12_3_6 : rl 12 3 33 64 = true := by kernel_rfl
theorem tl20_3_6 : rl 20 3 33 64 = true := by kernel_rfl
theorem tl5_4_0 : rl 5 4 1 1 = true := by kernel_rfl
theorem tl13_4_0 : rl 13 4 1 1 = true := by kernel_rfl
theorem tn_4_1 : rn 4 1 1 = true := by kernel_rfl
theorem tl6_4_1 : rl 6 4 2 2 = true := by kernel_rfl
theorem tl14_4_1 : rl 14 4 2 2 = true := by kernel_rfl
theorem te_4_2 : re 4 2 3 = true := by kernel_rfl
theorem tl7_4_2 : rl 7 4 3 4 = true := by kernel_rfl
theorem tl15_4_2 : rl 15 4 3 4 = true := by kernel_rfl
theorem ta_4_3 : ra 4 5 8 = true := by kernel_rfl
theorem tl8_4_3 : rl 8 4 5 8 = true := by kernel_rfl
theorem tl16_4_3 : rl 16 4 5 8 = true := by kernel_rfl
theorem tl1_4_4 : rl 1 4 9 16 = true := by kernel_rfl
theorem tl9_4_4 : rl 9 4 9 16 = true := by kernel_rfl
theorem tl17_4_4 : rl 17 4 9 16 = true := by kernel_rfl
theorem tl2_4_5 : rl 2 4 17 32 = true := by kernel_rfl
theorem tl10_4_5 : rl 10 4 17 32 = true := by kernel_rfl
theorem tl18_4_5 : rl 18 4 17 32 = true := by kernel_rfl
theorem tl3_4_6 : rl 3 4 33 64 = true := by kernel_rfl
theorem tl11_4_6 : rl 11 4 33 64 = true := by kernel_rfl
theorem tl19_4_6 : rl 19 4 33 64 = true := by kernel_rfl
theorem tl4_5_0 : rl 4 5 1 1 = true := by kernel_rfl
theorem tl12_5_0 : rl 12 5 1 1 = true := by kernel_rfl
theorem tl20_5_0 : rl 20 5 1 1 = true := by kernel_rfl
theorem tl5_5_1 : rl 5 5 2 2 = true := by kernel_rfl
theorem tl13_5_1 : rl 13 5 2 2 = true := by kernel_rfl
theorem tn_5_2 : rn 5 2 3 = true := by kernel_rfl
theorem tl6_5_2 : rl 6 5 3 4 = true := by kernel_rfl
theorem tl14_5_2 : rl 14 5 3 4 = true := by kernel_rfl
theorem te_5_3 : re 5 4 7 = true := by kernel_rfl
theorem tl7_5_3 : rl 7 5 5 8 = true := by kernel_rfl
theorem tl15_5_3 : rl 15 5 5 8 = true := by kernel_rfl
theorem ta_5_4 : ra 5 9 16 = true := by kernel_rfl
theorem tl8_5_4 : rl 8 5 9 16 = true := by kernel_rfl
theorem tl16_5_4 : rl 16 5 9 16 = true := by kernel_rfl
theorem tl1_5_5 : rl 1 5 17 32 = true := by kernel_rfl
theorem tl9_5_5 : rl 9 5 17 32 = true := by kernel_rfl
theorem tl17_5_5 : rl 17 5 17 32 = true := by kernel_rfl
theorem tl2_5_6 : rl 2 5 33 64 = true := by kernel_rfl
theorem tl10_5_6 : rl 10 5 33 64 = true := by kernel_rfl
theorem tl18_5_6 : rl 18 5 33 64 = true := by kernel_rfl
theorem tl3_6_0 : rl 3 6 1 1 = true := by kernel_rfl
theorem tl11_6_0 : rl 11 6 1 1 = true := by kernel_rfl
theorem tl19_6_0 : rl 19 6 1 1 = true := by kernel_rfl
theorem tl4_6_1 : rl 4 6 2 2 = true := by kernel_rfl
theorem tl12_6_1 : rl 12 6 2 2 = true := by kernel_rfl
theorem tl20_6_1 : rl 20 6 2 2 = true := by kernel_rfl
theorem tl5_6_2 : rl 5 6 3 4 = true := by kernel_rfl
theorem tl13_6_2 : rl 13 6 3 4 = true := by kernel_rfl
theorem tn_6_3 : rn 6 4 7 = true := by kernel_rfl
theorem tl6_6_3 : rl 6 6 5 8 = true := by kernel_rfl
theorem tl14_6_3 : rl 14 6 5 8 = true := by kernel_rfl
theorem te_6_4 : re 6 8 15 = true := by kernel_rfl
theorem tl7_6_4 : rl 7 6 9 16 = true := by kernel_rfl
theorem tl15_6_4 : rl 15 6 9 16 = true := by kernel_rfl
theorem ta_6_5 : ra 6 17 32 = true := by kernel_rfl
theorem tl8_6_5 : rl 8 6 17 32 = true := by kernel_rfl
theorem tl16_6_5 : rl 16 6 17 32 = true := by kernel_rfl
theorem tl1_6_6 : rl 1 6 33 64 = true := by kernel_rfl
theorem tl9_6_6 : rl 9 6 33 64 = true := by kernel_rfl
theorem tl17_6_6 : rl 17 6 33 64 = true := by kernel_rfl
theorem tl2_7_0 : rl 2 7 1 1 = true := by kernel_rfl
theorem tl10_7_0 : rl 10 7 1 1 = true := by kernel_rfl
theorem tl18_7_0 : rl 18 7 1 1 = true := by kernel_rfl
theorem tl3_7_1 : rl 3 7 2 2 = true := by kernel_rfl
theorem tl11_7_1 : rl 11 7 2 2 = true := by kernel_rfl
theorem tl19_7_1 : rl 19 7 2 2 = true := by kernel_rfl
theorem tl4_7_2 : rl 4 7 3 4 = true := by kernel_rfl
theorem tl12_7_2 : rl 12 7 3 4 = true := by kernel_rfl
theorem tl20_7_2 : rl 20 7 3 4 = true := by kernel_rfl
theorem tl5_7_3 : rl 5 7 5 8 = true := by kernel_rfl
theorem tl13_7_3 : rl 13 7 5 8 = true := by kernel_rfl
theorem tn_7_4 : rn 7 8 15 = true := by kernel_rfl
theorem tl6_7_4 : rl 6 7 9 16 = true := by kernel_rfl
theorem tl14_7_4 : rl 14 7 9 16 = true := by kernel_rfl
theorem te_7_5 : re 7 16 31 = true := by kernel_rfl
theorem tl7_7_5 : rl 7 7 17 32 = true := by kernel_rfl
theorem tl15_7_5 : rl 15 7 17 32 = true := by kernel_rfl
theorem ta_7_6 : ra 7 33 64 = true := by kernel_rfl
theorem tl8_7_6 : rl 8 7 33 64 = true := by kernel_rfl
theorem tl16_7_6 : rl 16 7 33 64 = true := by kernel_rfl
theorem tl1_8_0 : rl 1 8 1 1 = true := by kernel_rfl
theorem tl9_8_0 : rl 9 8 1 1 = true := by kernel_rfl
theorem tl17_8_0 : rl 17 8 1 1 = true := by kernel_rfl
theorem tl2_8_1 : rl 2 8 2 2 = true := by kernel_rfl
theorem tl10_8_1 : rl 10 8 2 2 = true := by kernel_rfl
theorem tl18_8_1 : rl 18 8 2 2 = true := by kernel_rfl
theorem tl3_8_2 : rl 3 8 3 4 = true := by kernel_rfl
theorem tl11_8_2 : rl 11 8 3 4 = true := by kernel_rfl
theorem tl19_8_2 : rl 19 8 3 4 = true := by kernel_rfl
theorem tl4_8_3 : rl 4 8 5 8 = true := by kernel_rfl
theorem tl12_8_3 : rl 12 8 5 8 = true := by kernel_rfl
theorem tl20_8_3 : rl 20 8 5 8 = true := by kernel_rfl
theorem tl5_8_4 : rl 5 8 9 16 = true := by kernel_rfl
theorem tl13_8_4 : rl 13 8 9 16 = true := by kernel_rfl
theorem tn_8_5 : rn 8 16 31 = true := by kernel_rfl
theorem tl6_8_5 : rl 6 8 17 32 = true := by kernel_rfl
theorem tl14_8_5 : rl 14 8 17 32 = true := by kernel_rfl
theorem te_8_6 : re 8 32 63 = true := by kernel_rfl
theorem tl7_8_6 : rl 7 8 33 64 = true := by kernel_rfl
theorem tl15_8_6 : rl 15 8 33 64 = true := by kernel_rfl
end Go.Proofs.Ytmbimlnanfholaa.rttBoundsRun
