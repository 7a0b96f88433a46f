/- Runs of the law InboxFirst. -/
import Derived.Test.YtmbimlnanfholabInboxFirstHook
namespace Go.Proofs.Ytmbimlnanfholab.inboxFirstRun
open Go.Vm Go.RowKit
set_option linter.unusedVariables false
set_option linter.unusedSimpArgs false
set_option maxRecDepth 1000000
theorem rt1c : runw 1 (.s [(6, 1)] 0) (.s [(6, 1)] 5) 0 29 = true := by kernel_rfl
theorem rt3b : runw 3 (.c 0) (.c 5) 0 0 = true := by kernel_rfl
theorem rt4a : runw 4 (.c 0) (.c 5) 0 0 = true := by kernel_rfl
theorem rt4c : runw 4 (.s [(6, 1)] 0) (.s [(6, 1)] 5) 2 29 = true := by kernel_rfl
theorem rt5b : runw 5 (.c 2) (.c 7) 2 2 = true := by kernel_rfl
theorem rt6a : runw 6 (.c 2) (.c 7) 2 2 = true := by kernel_rfl
theorem rt6c : runw 6 (.s [(6, 1)] 0) (.s [(6, 1)] 5) 4 29 = true := by kernel_rfl
theorem rt7b : runw 7 (.c 4) (.c 9) 4 4 = true := by kernel_rfl
theorem rt8a : runw 8 (.c 4) (.c 9) 4 4 = true := by kernel_rfl
theorem rt8c : runw 8 (.s [(6, 1)] 0) (.s [(6, 1)] 5) 6 29 = true := by kernel_rfl
theorem rt9b : runw 9 (.c 6) (.c 11) 6 6 = true := by kernel_rfl
theorem rt10a : runw 10 (.c 6) (.c 11) 6 6 = true := by kernel_rfl
theorem rt10c : runw 10 (.s [(6, 1)] 0) (.s [(6, 1)] 5) 8 29 = true := by kernel_rfl
theorem rt11b : runw 11 (.c 8) (.c 13) 8 8 = true := by kernel_rfl
theorem rt12a : runw 12 (.c 8) (.c 13) 8 8 = true := by kernel_rfl
theorem rt12c : runw 12 (.s [(6, 1)] 0) (.s [(6, 1)] 5) 10 29 = true := by kernel_rfl
theorem rt13b : runw 13 (.c 10) (.c 15) 10 10 = true := by kernel_rfl
theorem rt14a : runw 14 (.c 10) (.c 15) 10 10 = true := by kernel_rfl
theorem rt14c : runw 14 (.s [(6, 1)] 0) (.s [(6, 1)] 5) 12 29 = true := by kernel_rfl
theorem rt15b : runw 15 (.c 12) (.c 17) 12 12 = true := by kernel_rfl
theorem rt16a : runw 16 (.c 12) (.c 17) 12 12 = true := by kernel_rfl
theorem rt16c : runw 16 (.s [(6, 1)] 0) (.s [(6, 1)] 5) 14 29 = true := by kernel_rfl
theorem rt17b : runw 17 (.c 14) (.c 19) 14 14 = true := by kernel_rfl
theorem rt18a : runw 18 (.c 14) (.c 19) 14 14 = true := by kernel_rfl
theorem rt18c : runw 18 (.s [(6, 1)] 0) (.s [(6, 1)] 5) 16 29 = true := by kernel_rfl
theorem rt19b : runw 19 (.c 16) (.c 21) 16 16 = true := by kernel_rfl
theorem rt20a : runw 20 (.c 16) (.c 21) 16 16 = true := by kernel_rfl
theorem rt20c : runw 20 (.s [(6, 1)] 0) (.s [(6, 1)] 5) 18 29 = true := by kernel_rfl
theorem rt21b : runw 21 (.c 18) (.c 23) 18 18 = true := by kernel_rfl
theorem rt22a : runw 22 (.c 18) (.c 23) 18 18 = true := by kernel_rfl
theorem rt22c : runw 22 (.s [(6, 1)] 0) (.s [(6, 1)] 5) 20 29 = true := by kernel_rfl
theorem rt23b : runw 23 (.c 20) (.c 25) 20 20 = true := by kernel_rfl
theorem rt24a : runw 24 (.c 20) (.c 25) 20 20 = true := by kernel_rfl
theorem rt24c : runw 24 (.s [(6, 1)] 0) (.s [(6, 1)] 5) 22 29 = true := by kernel_rfl
theorem rt25b : runw 25 (.c 22) (.c 27) 22 22 = true := by kernel_rfl
theorem rt26a : runw 26 (.c 22) (.c 27) 22 22 = true := by kernel_rfl
theorem rt26c : runw 26 (.s [(6, 1)] 0) (.s [(6, 1)] 5) 24 29 = true := by kernel_rfl
theorem rt27b : runw 27 (.c 24) (.c 29) 24 24 = true := by kernel_rfl
theorem rt28a : runw 28 (.c 24) (.c 29) 24 24 = true := by kernel_rfl
theorem rt28c : runw 28 (.s [(6, 1)] 0) (.s [(6, 1)] 5) 26 29 = true := by kernel_rfl
theorem rt29b : runw 29 (.c 26) (.c 31) 26 26 = true := by kernel_rfl
theorem rt30a : runw 30 (.c 26) (.c 31) 26 26 = true := by kernel_rfl
theorem rt30c : runw 30 (.s [(6, 1)] 0) (.s [(6, 1)] 5) 28 29 = true := by kernel_rfl
theorem rt31b : runw 31 (.c 28) (.c 33) 28 28 = true := by kernel_rfl
theorem rt32a : runw 32 (.c 28) (.c 33) 28 28 = true := by kernel_rfl
theorem rt33a : runw 33 (.c 29) (.c 34) 29 29 = true := by kernel_rfl
end Go.Proofs.Ytmbimlnanfholab.inboxFirstRun
