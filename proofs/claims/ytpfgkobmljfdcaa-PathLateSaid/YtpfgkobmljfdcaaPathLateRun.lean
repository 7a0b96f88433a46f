/- The runs of the law PathLate, one for each number that its input is brought to. -/
import Derived.Test.YtpfgkobmljfdcaaPathLateTab
namespace Go.Proofs.Ytpfgkobmljfdcaa.pathLateRun
open Go.Vm Go.RowKit
set_option linter.unusedVariables false
set_option linter.unusedSimpArgs false
set_option maxRecDepth 1000000
noncomputable def bd : Nat → Int × Int := fun _ => (-9223372036854775808, 9223372036854775807)
noncomputable def run (k0 : Nat) (k1 : Nat) : Bool := yes (callF bd (tab (.hook (hookW [(0, 8, Int.ofNat k0), (1, 20, Int.ofNat k1)]))).get 5000 60 4 [.int .i64 (.s 0 0), .int .i64 (.s 1 0)] st0)
theorem run0_0 : run 0 0 = true := by kernel_rfl
theorem run0_1 : run 0 1 = true := by kernel_rfl
theorem run0_2 : run 0 2 = true := by kernel_rfl
theorem run0_3 : run 0 3 = true := by kernel_rfl
theorem run0_4 : run 0 4 = true := by kernel_rfl
theorem run0_5 : run 0 5 = true := by kernel_rfl
theorem run0_6 : run 0 6 = true := by kernel_rfl
theorem run0_7 : run 0 7 = true := by kernel_rfl
theorem run0_8 : run 0 8 = true := by kernel_rfl
theorem run0_9 : run 0 9 = true := by kernel_rfl
theorem run0_10 : run 0 10 = true := by kernel_rfl
theorem run0_11 : run 0 11 = true := by kernel_rfl
theorem run0_12 : run 0 12 = true := by kernel_rfl
theorem run0_13 : run 0 13 = true := by kernel_rfl
theorem run0_14 : run 0 14 = true := by kernel_rfl
theorem run0_15 : run 0 15 = true := by kernel_rfl
theorem run0_16 : run 0 16 = true := by kernel_rfl
theorem run0_17 : run 0 17 = true := by kernel_rfl
theorem run0_18 : run 0 18 = true := by kernel_rfl
theorem run0_19 : run 0 19 = true := by kernel_rfl
theorem run1_0 : run 1 0 = true := by kernel_rfl
theorem run1_1 : run 1 1 = true := by kernel_rfl
theorem run1_2 : run 1 2 = true := by kernel_rfl
theorem run1_3 : run 1 3 = true := by kernel_rfl
theorem run1_4 : run 1 4 = true := by kernel_rfl
theorem run1_5 : run 1 5 = true := by kernel_rfl
theorem run1_6 : run 1 6 = true := by kernel_rfl
theorem run1_7 : run 1 7 = true := by kernel_rfl
theorem run1_8 : run 1 8 = true := by kernel_rfl
theorem run1_9 : run 1 9 = true := by kernel_rfl
theorem run1_10 : run 1 10 = true := by kernel_rfl
theorem run1_11 : run 1 11 = true := by kernel_rfl
theorem run1_12 : run 1 12 = true := by kernel_rfl
theorem run1_13 : run 1 13 = true := by kernel_rfl
theorem run1_14 : run 1 14 = true := by kernel_rfl
theorem run1_15 : run 1 15 = true := by kernel_rfl
theorem run1_16 : run 1 16 = true := by kernel_rfl
theorem run1_17 : run 1 17 = true := by kernel_rfl
theorem run1_18 : run 1 18 = true := by kernel_rfl
theorem run1_19 : run 1 19 = true := by kernel_rfl
theorem run2_0 : run 2 0 = true := by kernel_rfl
theorem run2_1 : run 2 1 = true := by kernel_rfl
theorem run2_2 : run 2 2 = true := by kernel_rfl
theorem run2_3 : run 2 3 = true := by kernel_rfl
theorem run2_4 : run 2 4 = true := by kernel_rfl
theorem run2_5 : run 2 5 = true := by kernel_rfl
theorem run2_6 : run 2 6 = true := by kernel_rfl
theorem run2_7 : run 2 7 = true := by kernel_rfl
theorem run2_8 : run 2 8 = true := by kernel_rfl
theorem run2_9 : run 2 9 = true := by kernel_rfl
theorem run2_10 : run 2 10 = true := by kernel_rfl
theorem run2_11 : run 2 11 = true := by kernel_rfl
theorem run2_12 : run 2 12 = true := by kernel_rfl
theorem run2_13 : run 2 13 = true := by kernel_rfl
theorem run2_14 : run 2 14 = true := by kernel_rfl
theorem run2_15 : run 2 15 = true := by kernel_rfl
theorem run2_16 : run 2 16 = true := by kernel_rfl
theorem run2_17 : run 2 17 = true := by kernel_rfl
theorem run2_18 : run 2 18 = true := by kernel_rfl
theorem run2_19 : run 2 19 = true := by kernel_rfl
theorem run3_0 : run 3 0 = true := by kernel_rfl
theorem run3_1 : run 3 1 = true := by kernel_rfl
theorem run3_2 : run 3 2 = true := by kernel_rfl
theorem run3_3 : run 3 3 = true := by kernel_rfl
theorem run3_4 : run 3 4 = true := by kernel_rfl
theorem run3_5 : run 3 5 = true := by kernel_rfl
theorem run3_6 : run 3 6 = true := by kernel_rfl
theorem run3_7 : run 3 7 = true := by kernel_rfl
theorem run3_8 : run 3 8 = true := by kernel_rfl
theorem run3_9 : run 3 9 = true := by kernel_rfl
theorem run3_10 : run 3 10 = true := by kernel_rfl
theorem run3_11 : run 3 11 = true := by kernel_rfl
theorem run3_12 : run 3 12 = true := by kernel_rfl
theorem run3_13 : run 3 13 = true := by kernel_rfl
theorem run3_14 : run 3 14 = true := by kernel_rfl
theorem run3_15 : run 3 15 = true := by kernel_rfl
theorem run3_16 : run 3 16 = true := by kernel_rfl
theorem run3_17 : run 3 17 = true := by kernel_rfl
theorem run3_18 : run 3 18 = true := by kernel_rfl
theorem run3_19 : run 3 19 = true := by kernel_rfl
theorem run4_0 : run 4 0 = true := by kernel_rfl
theorem run4_1 : run 4 1 = true := by kernel_rfl
theorem run4_2 : run 4 2 = true := by kernel_rfl
theorem run4_3 : run 4 3 = true := by kernel_rfl
theorem run4_4 : run 4 4 = true := by kernel_rfl
theorem run4_5 : run 4 5 = true := by kernel_rfl
theorem run4_6 : run 4 6 = true := by kernel_rfl
theorem run4_7 : run 4 7 = true := by kernel_rfl
theorem run4_8 : run 4 8 = true := by kernel_rfl
theorem run4_9 : run 4 9 = true := by kernel_rfl
theorem run4_10 : run 4 10 = true := by kernel_rfl
theorem run4_11 : run 4 11 = true := by kernel_rfl
theorem run4_12 : run 4 12 = true := by kernel_rfl
theorem run4_13 : run 4 13 = true := by kernel_rfl
theorem run4_14 : run 4 14 = true := by kernel_rfl
theorem run4_15 : run 4 15 = true := by kernel_rfl
theorem run4_16 : run 4 16 = true := by kernel_rfl
theorem run4_17 : run 4 17 = true := by kernel_rfl
theorem run4_18 : run 4 18 = true := by kernel_rfl
theorem run4_19 : run 4 19 = true := by kernel_rfl
theorem run5_0 : run 5 0 = true := by kernel_rfl
theorem run5_1 : run 5 1 = true := by kernel_rfl
theorem run5_2 : run 5 2 = true := by kernel_rfl
theorem run5_3 : run 5 3 = true := by kernel_rfl
theorem run5_4 : run 5 4 = true := by kernel_rfl
theorem run5_5 : run 5 5 = true := by kernel_rfl
theorem run5_6 : run 5 6 = true := by kernel_rfl
theorem run5_7 : run 5 7 = true := by kernel_rfl
theorem run5_8 : run 5 8 = true := by kernel_rfl
theorem run5_9 : run 5 9 = true := by kernel_rfl
theorem run5_10 : run 5 10 = true := by kernel_rfl
theorem run5_11 : run 5 11 = true := by kernel_rfl
theorem run5_12 : run 5 12 = true := by kernel_rfl
theorem run5_13 : run 5 13 = true := by kernel_rfl
theorem run5_14 : run 5 14 = true := by kernel_rfl
theorem run5_15 : run 5 15 = true := by kernel_rfl
theorem run5_16 : run 5 16 = true := by kernel_rfl
theorem run5_17 : run 5 17 = true := by kernel_rfl
theorem run5_18 : run 5 18 = true := by kernel_rfl
theorem run5_19 : run 5 19 = true := by kernel_rfl
theorem run6_0 : run 6 0 = true := by kernel_rfl
theorem run6_1 : run 6 1 = true := by kernel_rfl
theorem run6_2 : run 6 2 = true := by kernel_rfl
theorem run6_3 : run 6 3 = true := by kernel_rfl
theorem run6_4 : run 6 4 = true := by kernel_rfl
theorem run6_5 : run 6 5 = true := by kernel_rfl
theorem run6_6 : run 6 6 = true := by kernel_rfl
theorem run6_7 : run 6 7 = true := by kernel_rfl
theorem run6_8 : run 6 8 = true := by kernel_rfl
theorem run6_9 : run 6 9 = true := by kernel_rfl
theorem run6_10 : run 6 10 = true := by kernel_rfl
theorem run6_11 : run 6 11 = true := by kernel_rfl
theorem run6_12 : run 6 12 = true := by kernel_rfl
theorem run6_13 : run 6 13 = true := by kernel_rfl
theorem run6_14 : run 6 14 = true := by kernel_rfl
theorem run6_15 : run 6 15 = true := by kernel_rfl
theorem run6_16 : run 6 16 = true := by kernel_rfl
theorem run6_17 : run 6 17 = true := by kernel_rfl
theorem run6_18 : run 6 18 = true := by kernel_rfl
theorem run6_19 : run 6 19 = true := by kernel_rfl
theorem run7_0 : run 7 0 = true := by kernel_rfl
theorem run7_1 : run 7 1 = true := by kernel_rfl
theorem run7_2 : run 7 2 = true := by kernel_rfl
theorem run7_3 : run 7 3 = true := by kernel_rfl
theorem run7_4 : run 7 4 = true := by kernel_rfl
theorem run7_5 : run 7 5 = true := by kernel_rfl
theorem run7_6 : run 7 6 = true := by kernel_rfl
theorem run7_7 : run 7 7 = true := by kernel_rfl
theorem run7_8 : run 7 8 = true := by kernel_rfl
theorem run7_9 : run 7 9 = true := by kernel_rfl
theorem run7_10 : run 7 10 = true := by kernel_rfl
theorem run7_11 : run 7 11 = true := by kernel_rfl
theorem run7_12 : run 7 12 = true := by kernel_rfl
theorem run7_13 : run 7 13 = true := by kernel_rfl
theorem run7_14 : run 7 14 = true := by kernel_rfl
theorem run7_15 : run 7 15 = true := by kernel_rfl
theorem run7_16 : run 7 16 = true := by kernel_rfl
theorem run7_17 : run 7 17 = true := by kernel_rfl
theorem run7_18 : run 7 18 = true := by kernel_rfl
theorem run7_19 : run 7 19 = true := by kernel_rfl
theorem runs (k0 : Nat) (k1 : Nat) (h0 : k0 < 8) (h1 : k1 < 20) : run k0 k1 = true :=
  (match k0, h0 with
  | 0, _ => (match k1, h1 with
    | 0, _ => run0_0
    | 1, _ => run0_1
    | 2, _ => run0_2
    | 3, _ => run0_3
    | 4, _ => run0_4
    | 5, _ => run0_5
    | 6, _ => run0_6
    | 7, _ => run0_7
    | 8, _ => run0_8
    | 9, _ => run0_9
    | 10, _ => run0_10
    | 11, _ => run0_11
    | 12, _ => run0_12
    | 13, _ => run0_13
    | 14, _ => run0_14
    | 15, _ => run0_15
    | 16, _ => run0_16
    | 17, _ => run0_17
    | 18, _ => run0_18
    | 19, _ => run0_19
    | n + 20, h => absurd h (by omega))
  | 1, _ => (match k1, h1 with
    | 0, _ => run1_0
    | 1, _ => run1_1
    | 2, _ => run1_2
    | 3, _ => run1_3
    | 4, _ => run1_4
    | 5, _ => run1_5
    | 6, _ => run1_6
    | 7, _ => run1_7
    | 8, _ => run1_8
    | 9, _ => run1_9
    | 10, _ => run1_10
    | 11, _ => run1_11
    | 12, _ => run1_12
    | 13, _ => run1_13
    | 14, _ => run1_14
    | 15, _ => run1_15
    | 16, _ => run1_16
    | 17, _ => run1_17
    | 18, _ => run1_18
    | 19, _ => run1_19
    | n + 20, h => absurd h (by omega))
  | 2, _ => (match k1, h1 with
    | 0, _ => run2_0
    | 1, _ => run2_1
    | 2, _ => run2_2
    | 3, _ => run2_3
    | 4, _ => run2_4
    | 5, _ => run2_5
    | 6, _ => run2_6
    | 7, _ => run2_7
    | 8, _ => run2_8
    | 9, _ => run2_9
    | 10, _ => run2_10
    | 11, _ => run2_11
    | 12, _ => run2_12
    | 13, _ => run2_13
    | 14, _ => run2_14
    | 15, _ => run2_15
    | 16, _ => run2_16
    | 17, _ => run2_17
    | 18, _ => run2_18
    | 19, _ => run2_19
    | n + 20, h => absurd h (by omega))
  | 3, _ => (match k1, h1 with
    | 0, _ => run3_0
    | 1, _ => run3_1
    | 2, _ => run3_2
    | 3, _ => run3_3
    | 4, _ => run3_4
    | 5, _ => run3_5
    | 6, _ => run3_6
    | 7, _ => run3_7
    | 8, _ => run3_8
    | 9, _ => run3_9
    | 10, _ => run3_10
    | 11, _ => run3_11
    | 12, _ => run3_12
    | 13, _ => run3_13
    | 14, _ => run3_14
    | 15, _ => run3_15
    | 16, _ => run3_16
    | 17, _ => run3_17
    | 18, _ => run3_18
    | 19, _ => run3_19
    | n + 20, h => absurd h (by omega))
  | 4, _ => (match k1, h1 with
    | 0, _ => run4_0
    | 1, _ => run4_1
    | 2, _ => run4_2
    | 3, _ => run4_3
    | 4, _ => run4_4
    | 5, _ => run4_5
    | 6, _ => run4_6
    | 7, _ => run4_7
    | 8, _ => run4_8
    | 9, _ => run4_9
    | 10, _ => run4_10
    | 11, _ => run4_11
    | 12, _ => run4_12
    | 13, _ => run4_13
    | 14, _ => run4_14
    | 15, _ => run4_15
    | 16, _ => run4_16
    | 17, _ => run4_17
    | 18, _ => run4_18
    | 19, _ => run4_19
    | n + 20, h => absurd h (by omega))
  | 5, _ => (match k1, h1 with
    | 0, _ => run5_0
    | 1, _ => run5_1
    | 2, _ => run5_2
    | 3, _ => run5_3
    | 4, _ => run5_4
    | 5, _ => run5_5
    | 6, _ => run5_6
    | 7, _ => run5_7
    | 8, _ => run5_8
    | 9, _ => run5_9
    | 10, _ => run5_10
    | 11, _ => run5_11
    | 12, _ => run5_12
    | 13, _ => run5_13
    | 14, _ => run5_14
    | 15, _ => run5_15
    | 16, _ => run5_16
    | 17, _ => run5_17
    | 18, _ => run5_18
    | 19, _ => run5_19
    | n + 20, h => absurd h (by omega))
  | 6, _ => (match k1, h1 with
    | 0, _ => run6_0
    | 1, _ => run6_1
    | 2, _ => run6_2
    | 3, _ => run6_3
    | 4, _ => run6_4
    | 5, _ => run6_5
    | 6, _ => run6_6
    | 7, _ => run6_7
    | 8, _ => run6_8
    | 9, _ => run6_9
    | 10, _ => run6_10
    | 11, _ => run6_11
    | 12, _ => run6_12
    | 13, _ => run6_13
    | 14, _ => run6_14
    | 15, _ => run6_15
    | 16, _ => run6_16
    | 17, _ => run6_17
    | 18, _ => run6_18
    | 19, _ => run6_19
    | n + 20, h => absurd h (by omega))
  | 7, _ => (match k1, h1 with
    | 0, _ => run7_0
    | 1, _ => run7_1
    | 2, _ => run7_2
    | 3, _ => run7_3
    | 4, _ => run7_4
    | 5, _ => run7_5
    | 6, _ => run7_6
    | 7, _ => run7_7
    | 8, _ => run7_8
    | 9, _ => run7_9
    | 10, _ => run7_10
    | 11, _ => run7_11
    | 12, _ => run7_12
    | 13, _ => run7_13
    | 14, _ => run7_14
    | 15, _ => run7_15
    | 16, _ => run7_16
    | 17, _ => run7_17
    | 18, _ => run7_18
    | 19, _ => run7_19
    | n + 20, h => absurd h (by omega))
  | n + 8, h => absurd h (by omega))
end Go.Proofs.Ytpfgkobmljfdcaa.pathLateRun
