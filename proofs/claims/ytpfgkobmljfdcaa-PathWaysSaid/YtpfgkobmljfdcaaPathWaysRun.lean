/- The runs of the law PathWays, one for each number that its input is brought to. -/
import Derived.Test.YtpfgkobmljfdcaaPathWaysTab
namespace Go.Proofs.Ytpfgkobmljfdcaa.pathWaysRun
open Go.Vm Go.RowKit
set_option linter.unusedVariables false
set_option linter.unusedSimpArgs false
set_option maxRecDepth 1000000
noncomputable def bd : Nat → Int × Int := fun _ => (-9223372036854775808, 9223372036854775807)
noncomputable def run (k0 : Nat) (k1 : Nat) : Bool := yes (callF bd (tab (.hook (hookW [(0, 2, Int.ofNat k0), (1, 10, Int.ofNat k1)]))).get 5000 60 3 [.int .i64 (.s 0 0), .int .i64 (.s 1 0)] st0)
theorem run0_0 : run 0 0 = true := by kernel_rfl
theorem run0_1 : run 0 1 = true := by kernel_rfl
theorem run0_2 : run 0 2 = true := by kernel_rfl
theorem run0_3 : run 0 3 = true := by kernel_rfl
theorem run0_4 : run 0 4 = true := by kernel_rfl
theorem run0_5 : run 0 5 = true := by kernel_rfl
theorem run0_6 : run 0 6 = true := by kernel_rfl
theorem run0_7 : run 0 7 = true := by kernel_rfl
theorem run0_8 : run 0 8 = true := by kernel_rfl
theorem run0_9 : run 0 9 = true := by kernel_rfl
theorem run1_0 : run 1 0 = true := by kernel_rfl
theorem run1_1 : run 1 1 = true := by kernel_rfl
theorem run1_2 : run 1 2 = true := by kernel_rfl
theorem run1_3 : run 1 3 = true := by kernel_rfl
theorem run1_4 : run 1 4 = true := by kernel_rfl
theorem run1_5 : run 1 5 = true := by kernel_rfl
theorem run1_6 : run 1 6 = true := by kernel_rfl
theorem run1_7 : run 1 7 = true := by kernel_rfl
theorem run1_8 : run 1 8 = true := by kernel_rfl
theorem run1_9 : run 1 9 = true := by kernel_rfl
theorem runs (k0 : Nat) (k1 : Nat) (h0 : k0 < 2) (h1 : k1 < 10) : run k0 k1 = true :=
  (match k0, h0 with
  | 0, _ => (match k1, h1 with
    | 0, _ => run0_0
    | 1, _ => run0_1
    | 2, _ => run0_2
    | 3, _ => run0_3
    | 4, _ => run0_4
    | 5, _ => run0_5
    | 6, _ => run0_6
    | 7, _ => run0_7
    | 8, _ => run0_8
    | 9, _ => run0_9
    | n + 10, h => absurd h (by omega))
  | 1, _ => (match k1, h1 with
    | 0, _ => run1_0
    | 1, _ => run1_1
    | 2, _ => run1_2
    | 3, _ => run1_3
    | 4, _ => run1_4
    | 5, _ => run1_5
    | 6, _ => run1_6
    | 7, _ => run1_7
    | 8, _ => run1_8
    | 9, _ => run1_9
    | n + 10, h => absurd h (by omega))
  | n + 2, h => absurd h (by omega))
end Go.Proofs.Ytpfgkobmljfdcaa.pathWaysRun
