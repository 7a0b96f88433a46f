/- The runs of the law MeterSums, together. -/
import Derived.Test.YtmbimlnanfholaaMeterSumsRun0
import Derived.Test.YtmbimlnanfholaaMeterSumsRun1
namespace Go.Proofs.Ytmbimlnanfholaa.meterSumsRun
open Go.Vm Go.RowKit
set_option linter.unusedVariables false
set_option linter.unusedSimpArgs false
set_option maxRecDepth 1000000
theorem rsnil (k : Nat) (h : k < 8) : runm k false .nils st0 = true := match k, h with
  | 0, _ => rtnil_0
  | 1, _ => rtnil_1
  | 2, _ => rtnil_2
  | 3, _ => rtnil_3
  | 4, _ => rtnil_4
  | 5, _ => rtnil_5
  | 6, _ => rtnil_6
  | 7, _ => rtnil_7
  | n + 8, h => absurd h (by omega)
theorem rsemp (k : Nat) (h : k < 8) : runm k false .emp st0 = true := match k, h with
  | 0, _ => rtemp_0
  | 1, _ => rtemp_1
  | 2, _ => rtemp_2
  | 3, _ => rtemp_3
  | 4, _ => rtemp_4
  | 5, _ => rtemp_5
  | 6, _ => rtemp_6
  | 7, _ => rtemp_7
  | n + 8, h => absurd h (by omega)
theorem rslen1 (k : Nat) (h : k < 8) : runm k false (.sl 0 0 1 1 false 1) (stAI 1 100) = true := match k, h with
  | 0, _ => rtlen1_0
  | 1, _ => rtlen1_1
  | 2, _ => rtlen1_2
  | 3, _ => rtlen1_3
  | 4, _ => rtlen1_4
  | 5, _ => rtlen1_5
  | 6, _ => rtlen1_6
  | 7, _ => rtlen1_7
  | n + 8, h => absurd h (by omega)
theorem rslen2 (k : Nat) (h : k < 8) : runm k false (.sl 0 0 2 2 false 1) (stAI 2 100) = true := match k, h with
  | 0, _ => rtlen2_0
  | 1, _ => rtlen2_1
  | 2, _ => rtlen2_2
  | 3, _ => rtlen2_3
  | 4, _ => rtlen2_4
  | 5, _ => rtlen2_5
  | 6, _ => rtlen2_6
  | 7, _ => rtlen2_7
  | n + 8, h => absurd h (by omega)
theorem rslen3 (k : Nat) (h : k < 8) : runm k false (.sl 0 0 3 3 false 1) (stAI 3 100) = true := match k, h with
  | 0, _ => rtlen3_0
  | 1, _ => rtlen3_1
  | 2, _ => rtlen3_2
  | 3, _ => rtlen3_3
  | 4, _ => rtlen3_4
  | 5, _ => rtlen3_5
  | 6, _ => rtlen3_6
  | 7, _ => rtlen3_7
  | n + 8, h => absurd h (by omega)
theorem rslen4 (k : Nat) (h : k < 8) : runm k false (.sl 0 0 4 4 false 1) (stAI 4 100) = true := match k, h with
  | 0, _ => rtlen4_0
  | 1, _ => rtlen4_1
  | 2, _ => rtlen4_2
  | 3, _ => rtlen4_3
  | 4, _ => rtlen4_4
  | 5, _ => rtlen4_5
  | 6, _ => rtlen4_6
  | 7, _ => rtlen4_7
  | n + 8, h => absurd h (by omega)
theorem rslen5 (k : Nat) (h : k < 8) : runm k false (.sl 0 0 5 5 false 1) (stAI 5 100) = true := match k, h with
  | 0, _ => rtlen5_0
  | 1, _ => rtlen5_1
  | 2, _ => rtlen5_2
  | 3, _ => rtlen5_3
  | 4, _ => rtlen5_4
  | 5, _ => rtlen5_5
  | 6, _ => rtlen5_6
  | 7, _ => rtlen5_7
  | n + 8, h => absurd h (by omega)
theorem rslen6 (k : Nat) (h : k < 8) : runm k false (.sl 0 0 6 6 false 1) (stAI 6 100) = true := match k, h with
  | 0, _ => rtlen6_0
  | 1, _ => rtlen6_1
  | 2, _ => rtlen6_2
  | 3, _ => rtlen6_3
  | 4, _ => rtlen6_4
  | 5, _ => rtlen6_5
  | 6, _ => rtlen6_6
  | 7, _ => rtlen6_7
  | n + 8, h => absurd h (by omega)
theorem rslen7 (k : Nat) (h : k < 8) : runm k false (.sl 0 0 7 7 false 1) (stAI 7 100) = true := match k, h with
  | 0, _ => rtlen7_0
  | 1, _ => rtlen7_1
  | 2, _ => rtlen7_2
  | 3, _ => rtlen7_3
  | 4, _ => rtlen7_4
  | 5, _ => rtlen7_5
  | 6, _ => rtlen7_6
  | 7, _ => rtlen7_7
  | n + 8, h => absurd h (by omega)
theorem rslen8 (k : Nat) (h : k < 8) : runm k false (.sl 0 0 8 8 false 1) (stAI 8 100) = true := match k, h with
  | 0, _ => rtlen8_0
  | 1, _ => rtlen8_1
  | 2, _ => rtlen8_2
  | 3, _ => rtlen8_3
  | 4, _ => rtlen8_4
  | 5, _ => rtlen8_5
  | 6, _ => rtlen8_6
  | 7, _ => rtlen8_7
  | n + 8, h => absurd h (by omega)
theorem rslen9 (k : Nat) (h : k < 8) : runm k false (.sl 0 0 9 9 false 1) (stAI 9 100) = true := match k, h with
  | 0, _ => rtlen9_0
  | 1, _ => rtlen9_1
  | 2, _ => rtlen9_2
  | 3, _ => rtlen9_3
  | 4, _ => rtlen9_4
  | 5, _ => rtlen9_5
  | 6, _ => rtlen9_6
  | 7, _ => rtlen9_7
  | n + 8, h => absurd h (by omega)
theorem rslen10 (k : Nat) (h : k < 8) : runm k false (.sl 0 0 10 10 false 1) (stAI 10 100) = true := match k, h with
  | 0, _ => rtlen10_0
  | 1, _ => rtlen10_1
  | 2, _ => rtlen10_2
  | 3, _ => rtlen10_3
  | 4, _ => rtlen10_4
  | 5, _ => rtlen10_5
  | 6, _ => rtlen10_6
  | 7, _ => rtlen10_7
  | n + 8, h => absurd h (by omega)
theorem rslen11 (k : Nat) (h : k < 8) : runm k false (.sl 0 0 11 11 false 1) (stAI 11 100) = true := match k, h with
  | 0, _ => rtlen11_0
  | 1, _ => rtlen11_1
  | 2, _ => rtlen11_2
  | 3, _ => rtlen11_3
  | 4, _ => rtlen11_4
  | 5, _ => rtlen11_5
  | 6, _ => rtlen11_6
  | 7, _ => rtlen11_7
  | n + 8, h => absurd h (by omega)
theorem rslen12 (k : Nat) (h : k < 8) : runm k false (.sl 0 0 12 12 false 1) (stAI 12 100) = true := match k, h with
  | 0, _ => rtlen12_0
  | 1, _ => rtlen12_1
  | 2, _ => rtlen12_2
  | 3, _ => rtlen12_3
  | 4, _ => rtlen12_4
  | 5, _ => rtlen12_5
  | 6, _ => rtlen12_6
  | 7, _ => rtlen12_7
  | n + 8, h => absurd h (by omega)
theorem rslen13 (k : Nat) (h : k < 8) : runm k false (.sl 0 0 13 13 false 1) (stAI 13 100) = true := match k, h with
  | 0, _ => rtlen13_0
  | 1, _ => rtlen13_1
  | 2, _ => rtlen13_2
  | 3, _ => rtlen13_3
  | 4, _ => rtlen13_4
  | 5, _ => rtlen13_5
  | 6, _ => rtlen13_6
  | 7, _ => rtlen13_7
  | n + 8, h => absurd h (by omega)
theorem rslen14 (k : Nat) (h : k < 8) : runm k false (.sl 0 0 14 14 false 1) (stAI 14 100) = true := match k, h with
  | 0, _ => rtlen14_0
  | 1, _ => rtlen14_1
  | 2, _ => rtlen14_2
  | 3, _ => rtlen14_3
  | 4, _ => rtlen14_4
  | 5, _ => rtlen14_5
  | 6, _ => rtlen14_6
  | 7, _ => rtlen14_7
  | n + 8, h => absurd h (by omega)
theorem rslen15 (k : Nat) (h : k < 8) : runm k false (.sl 0 0 15 15 false 1) (stAI 15 100) = true := match k, h with
  | 0, _ => rtlen15_0
  | 1, _ => rtlen15_1
  | 2, _ => rtlen15_2
  | 3, _ => rtlen15_3
  | 4, _ => rtlen15_4
  | 5, _ => rtlen15_5
  | 6, _ => rtlen15_6
  | 7, _ => rtlen15_7
  | n + 8, h => absurd h (by omega)
theorem rslen16 (k : Nat) (h : k < 8) : runm k false (.sl 0 0 16 16 false 1) (stAI 16 100) = true := match k, h with
  | 0, _ => rtlen16_0
  | 1, _ => rtlen16_1
  | 2, _ => rtlen16_2
  | 3, _ => rtlen16_3
  | 4, _ => rtlen16_4
  | 5, _ => rtlen16_5
  | 6, _ => rtlen16_6
  | 7, _ => rtlen16_7
  | n + 8, h => absurd h (by omega)
theorem rslen17 (k : Nat) (h : k < 8) : runm k false (.sl 0 0 17 17 false 1) (stAI 17 100) = true := match k, h with
  | 0, _ => rtlen17_0
  | 1, _ => rtlen17_1
  | 2, _ => rtlen17_2
  | 3, _ => rtlen17_3
  | 4, _ => rtlen17_4
  | 5, _ => rtlen17_5
  | 6, _ => rtlen17_6
  | 7, _ => rtlen17_7
  | n + 8, h => absurd h (by omega)
theorem rslen18 (k : Nat) (h : k < 8) : runm k false (.sl 0 0 18 18 false 1) (stAI 18 100) = true := match k, h with
  | 0, _ => rtlen18_0
  | 1, _ => rtlen18_1
  | 2, _ => rtlen18_2
  | 3, _ => rtlen18_3
  | 4, _ => rtlen18_4
  | 5, _ => rtlen18_5
  | 6, _ => rtlen18_6
  | 7, _ => rtlen18_7
  | n + 8, h => absurd h (by omega)
theorem rslen19 (k : Nat) (h : k < 8) : runm k false (.sl 0 0 19 19 false 1) (stAI 19 100) = true := match k, h with
  | 0, _ => rtlen19_0
  | 1, _ => rtlen19_1
  | 2, _ => rtlen19_2
  | 3, _ => rtlen19_3
  | 4, _ => rtlen19_4
  | 5, _ => rtlen19_5
  | 6, _ => rtlen19_6
  | 7, _ => rtlen19_7
  | n + 8, h => absurd h (by omega)
theorem rslen20 (k : Nat) (h : k < 8) : runm k false (.sl 0 0 20 20 false 1) (stAI 20 100) = true := match k, h with
  | 0, _ => rtlen20_0
  | 1, _ => rtlen20_1
  | 2, _ => rtlen20_2
  | 3, _ => rtlen20_3
  | 4, _ => rtlen20_4
  | 5, _ => rtlen20_5
  | 6, _ => rtlen20_6
  | 7, _ => rtlen20_7
  | n + 8, h => absurd h (by omega)
theorem rsarg (k : Nat) (h : k < 8) : runm k true (markV 0 20 (.s [(90, 1)] 0) 1) (stAI 20 100) = true := match k, h with
  | 0, _ => rtarg_0
  | 1, _ => rtarg_1
  | 2, _ => rtarg_2
  | 3, _ => rtarg_3
  | 4, _ => rtarg_4
  | 5, _ => rtarg_5
  | 6, _ => rtarg_6
  | 7, _ => rtarg_7
  | n + 8, h => absurd h (by omega)
theorem rslen (k : Nat) (h : k < 8) : ∀ L, 0 < L → L < 21 → runm k false (.sl 0 0 L L false 1) (stAI L 100) = true
  | 0, h, _ => absurd h (by omega)
  | 1, _, _ => rslen1 k h
  | 2, _, _ => rslen2 k h
  | 3, _, _ => rslen3 k h
  | 4, _, _ => rslen4 k h
  | 5, _, _ => rslen5 k h
  | 6, _, _ => rslen6 k h
  | 7, _, _ => rslen7 k h
  | 8, _, _ => rslen8 k h
  | 9, _, _ => rslen9 k h
  | 10, _, _ => rslen10 k h
  | 11, _, _ => rslen11 k h
  | 12, _, _ => rslen12 k h
  | 13, _, _ => rslen13 k h
  | 14, _, _ => rslen14 k h
  | 15, _, _ => rslen15 k h
  | 16, _, _ => rslen16 k h
  | 17, _, _ => rslen17 k h
  | 18, _, _ => rslen18 k h
  | 19, _, _ => rslen19 k h
  | 20, _, _ => rslen20 k h
  | n + 21, _, h => absurd h (by omega)
end Go.Proofs.Ytmbimlnanfholaa.meterSumsRun
