/- The runs of the law PathState, one for each number that its input is brought to. -/
import Derived.Test.YtpfgkobmljfdcaaPathStateTab
namespace Go.Proofs.Ytpfgkobmljfdcaa.pathStateRun
open Go.Vm Go.RowKit
set_option linter.unusedVariables false
set_option linter.unusedSimpArgs false
set_option maxRecDepth 1000000
noncomputable def bd : Nat → Int × Int := fun _ => (-9223372036854775808, 9223372036854775807)
noncomputable def run (k0 : Nat) : Bool := yes (callF bd (tab (.hook (hookW [(0, 50, Int.ofNat k0)]))).get 5000 60 5 [.int .i64 (.s 0 0), .int .i64 (.s 1 0)] st0)
theorem run0 : run 0 = true := by kernel_rfl
theorem run1 : run 1 = true := by kernel_rfl
theorem run2 : run 2 = true := by kernel_rfl
theorem run3 : run 3 = true := by kernel_rfl
theorem run4 : run 4 = true := by kernel_rfl
theorem run5 : run 5 = true := by kernel_rfl
theorem run6 : run 6 = true := by kernel_rfl
theorem run7 : run 7 = true := by kernel_rfl
theorem run8 : run 8 = true := by kernel_rfl
theorem run9 : run 9 = true := by kernel_rfl
theorem run10 : run 10 = true := by kernel_rfl
theorem run11 : run 11 = true := by kernel_rfl
theorem run12 : run 12 = true := by kernel_rfl
theorem run13 : run 13 = true := by kernel_rfl
theorem run14 : run 14 = true := by kernel_rfl
theorem run15 : run 15 = true := by kernel_rfl
theorem run16 : run 16 = true := by kernel_rfl
theorem run17 : run 17 = true := by kernel_rfl
theorem run18 : run 18 = true := by kernel_rfl
theorem run19 : run 19 = true := by kernel_rfl
theorem run20 : run 20 = true := by kernel_rfl
theorem run21 : run 21 = true := by kernel_rfl
theorem run22 : run 22 = true := by kernel_rfl
theorem run23 : run 23 = true := by kernel_rfl
theorem run24 : run 24 = true := by kernel_rfl
theorem run25 : run 25 = true := by kernel_rfl
theorem run26 : run 26 = true := by kernel_rfl
theorem run27 : run 27 = true := by kernel_rfl
theorem run28 : run 28 = true := by kernel_rfl
theorem run29 : run 29 = true := by kernel_rfl
theorem run30 : run 30 = true := by kernel_rfl
theorem run31 : run 31 = true := by kernel_rfl
theorem run32 : run 32 = true := by kernel_rfl
theorem run33 : run 33 = true := by kernel_rfl
theorem run34 : run 34 = true := by kernel_rfl
theorem run35 : run 35 = true := by kernel_rfl
theorem run36 : run 36 = true := by kernel_rfl
theorem run37 : run 37 = true := by kernel_rfl
theorem run38 : run 38 = true := by kernel_rfl
theorem run39 : run 39 = true := by kernel_rfl
theorem run40 : run 40 = true := by kernel_rfl
theorem run41 : run 41 = true := by kernel_rfl
theorem run42 : run 42 = true := by kernel_rfl
theorem run43 : run 43 = true := by kernel_rfl
theorem run44 : run 44 = true := by kernel_rfl
theorem run45 : run 45 = true := by kernel_rfl
theorem run46 : run 46 = true := by kernel_rfl
theorem run47 : run 47 = true := by kernel_rfl
theorem run48 : run 48 = true := by kernel_rfl
theorem run49 : run 49 = true := by kernel_rfl
theorem runs (k0 : Nat) (h0 : k0 < 50) : run k0 = true :=
  (match k0, h0 with
  | 0, _ => run0
  | 1, _ => run1
  | 2, _ => run2
  | 3, _ => run3
  | 4, _ => run4
  | 5, _ => run5
  | 6, _ => run6
  | 7, _ => run7
  | 8, _ => run8
  | 9, _ => run9
  | 10, _ => run10
  | 11, _ => run11
  | 12, _ => run12
  | 13, _ => run13
  | 14, _ => run14
  | 15, _ => run15
  | 16, _ => run16
  | 17, _ => run17
  | 18, _ => run18
  | 19, _ => run19
  | 20, _ => run20
  | 21, _ => run21
  | 22, _ => run22
  | 23, _ => run23
  | 24, _ => run24
  | 25, _ => run25
  | 26, _ => run26
  | 27, _ => run27
  | 28, _ => run28
  | 29, _ => run29
  | 30, _ => run30
  | 31, _ => run31
  | 32, _ => run32
  | 33, _ => run33
  | 34, _ => run34
  | 35, _ => run35
  | 36, _ => run36
  | 37, _ => run37
  | 38, _ => run38
  | 39, _ => run39
  | 40, _ => run40
  | 41, _ => run41
  | 42, _ => run42
  | 43, _ => run43
  | 44, _ => run44
  | 45, _ => run45
  | 46, _ => run46
  | 47, _ => run47
  | 48, _ => run48
  | 49, _ => run49
  | n + 50, h => absurd h (by omega))
end Go.Proofs.Ytpfgkobmljfdcaa.pathStateRun
