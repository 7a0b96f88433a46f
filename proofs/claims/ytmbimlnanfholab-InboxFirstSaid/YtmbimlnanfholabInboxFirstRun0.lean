/- Runs of the law InboxFirst. -/
import Derived.Test.YtmbimlnanfholabInboxFirstHook
namespace Go.Proofs.Ytmbimlnanfholab.inboxFirstRun
open Go.Vm Go.RowKit
set_option linter.unusedVariables false
set_option linter.unusedSimpArgs false
set_option maxRecDepth 1000000
theorem rt0c : runw 0 (.s [(6, 1)] 0) (.s [(6, 1)] 5) 0 29 = true := by kernel_rfl
theorem rt2c : runw 2 (.s [(6, 1)] 0) (.s [(6, 1)] 5) 0 29 = true := by kernel_rfl
theorem rt3c : runw 3 (.s [(6, 1)] 0) (.s [(6, 1)] 5) 1 29 = true := by kernel_rfl
theorem rt4b : runw 4 (.c 1) (.c 6) 1 1 = true := by kernel_rfl
theorem rt5a : runw 5 (.c 1) (.c 6) 1 1 = true := by kernel_rfl
theorem rt5c : runw 5 (.s [(6, 1)] 0) (.s [(6, 1)] 5) 3 29 = true := by kernel_rfl
theorem rt6b : runw 6 (.c 3) (.c 8) 3 3 = true := by kernel_rfl
theorem rt7a : runw 7 (.c 3) (.c 8) 3 3 = true := by kernel_rfl
theorem rt7c : runw 7 (.s [(6, 1)] 0) (.s [(6, 1)] 5) 5 29 = true := by kernel_rfl
theorem rt8b : runw 8 (.c 5) (.c 10) 5 5 = true := by kernel_rfl
theorem rt9a : runw 9 (.c 5) (.c 10) 5 5 = true := by kernel_rfl
theorem rt9c : runw 9 (.s [(6, 1)] 0) (.s [(6, 1)] 5) 7 29 = true := by kernel_rfl
theorem rt10b : runw 10 (.c 7) (.c 12) 7 7 = true := by kernel_rfl
theorem rt11a : runw 11 (.c 7) (.c 12) 7 7 = true := by kernel_rfl
theorem rt11c : runw 11 (.s [(6, 1)] 0) (.s [(6, 1)] 5) 9 29 = true := by kernel_rfl
theorem rt12b : runw 12 (.c 9) (.c 14) 9 9 = true := by kernel_rfl
theorem rt13a : runw 13 (.c 9) (.c 14) 9 9 = true := by kernel_rfl
theorem rt13c : runw 13 (.s [(6, 1)] 0) (.s [(6, 1)] 5) 11 29 = true := by kernel_rfl
theorem rt14b : runw 14 (.c 11) (.c 16) 11 11 = true := by kernel_rfl
theorem rt15a : runw 15 (.c 11) (.c 16) 11 11 = true := by kernel_rfl
theorem rt15c : runw 15 (.s [(6, 1)] 0) (.s [(6, 1)] 5) 13 29 = true := by kernel_rfl
theorem rt16b : runw 16 (.c 13) (.c 18) 13 13 = true := by kernel_rfl
theorem rt17a : runw 17 (.c 13) (.c 18) 13 13 = true := by kernel_rfl
theorem rt17c : runw 17 (.s [(6, 1)] 0) (.s [(6, 1)] 5) 15 29 = true := by kernel_rfl
theorem rt18b : runw 18 (.c 15) (.c 20) 15 15 = true := by kernel_rfl
theorem rt19a : runw 19 (.c 15) (.c 20) 15 15 = true := by kernel_rfl
theorem rt19c : runw 19 (.s [(6, 1)] 0) (.s [(6, 1)] 5) 17 29 = true := by kernel_rfl
theorem rt20b : runw 20 (.c 17) (.c 22) 17 17 = true := by kernel_rfl
theorem rt21a : runw 21 (.c 17) (.c 22) 17 17 = true := by kernel_rfl
theorem rt21c : runw 21 (.s [(6, 1)] 0) (.s [(6, 1)] 5) 19 29 = true := by kernel_rfl
theorem rt22b : runw 22 (.c 19) (.c 24) 19 19 = true := by kernel_rfl
theorem rt23a : runw 23 (.c 19) (.c 24) 19 19 = true := by kernel_rfl
theorem rt23c : runw 23 (.s [(6, 1)] 0) (.s [(6, 1)] 5) 21 29 = true := by kernel_rfl
theorem rt24b : runw 24 (.c 21) (.c 26) 21 21 = true := by kernel_rfl
theorem rt25a : runw 25 (.c 21) (.c 26) 21 21 = true := by kernel_rfl
theorem rt25c : runw 25 (.s [(6, 1)] 0) (.s [(6, 1)] 5) 23 29 = true := by kernel_rfl
theorem rt26b : runw 26 (.c 23) (.c 28) 23 23 = true := by kernel_rfl
theorem rt27a : runw 27 (.c 23) (.c 28) 23 23 = true := by kernel_rfl
theorem rt27c : runw 27 (.s [(6, 1)] 0) (.s [(6, 1)] 5) 25 29 = true := by kernel_rfl
theorem rt28b : runw 28 (.c 25) (.c 30) 25 25 = true := by kernel_rfl
theorem rt29a : runw 29 (.c 25) (.c 30) 25 25 = true := by kernel_rfl
theorem rt29c : runw 29 (.s [(6, 1)] 0) (.s [(6, 1)] 5) 27 29 = true := by kernel_rfl
theorem rt30b : runw 30 (.c 27) (.c 32) 27 27 = true := by kernel_rfl
theorem rt31a : runw 31 (.c 27) (.c 32) 27 27 = true := by kernel_rfl
theorem rt31c : runw 31 (.s [(6, 1)] 0) (.s [(6, 1)] 5) 29 29 = true := by kernel_rfl
theorem rt32b : runw 32 (.c 29) (.c 34) 29 29 = true := by kernel_rfl
end Go.Proofs.Ytmbimlnanfholab.inboxFirstRun
