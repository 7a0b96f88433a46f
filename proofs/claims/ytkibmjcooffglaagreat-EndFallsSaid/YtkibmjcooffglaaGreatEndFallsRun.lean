/- The runs of the law EndFalls, together. -/
import Derived.Test.YtkibmjcooffglaaGreatEndFallsRun0
namespace Go.Proofs.YtkibmjcooffglaaGreat.endFallsRun
open Go.Vm Go.RowKit
set_option linter.unusedVariables false
set_option linter.unusedSimpArgs false
set_option maxRecDepth 1000000
theorem runs (k0 : Nat) (h0 : k0 < 11) : run k0 0 = true :=
  (match k0, h0 with
  | 0, _ => rt0
  | 1, _ => rt1
  | 2, _ => rt2
  | 3, _ => rt3
  | 4, _ => rt4
  | 5, _ => rt5
  | 6, _ => rt6
  | 7, _ => rt7
  | 8, _ => rt8
  | 9, _ => rt9
  | 10, _ => rt10
  | n + 11, h => absurd h (by omega))
end Go.Proofs.YtkibmjcooffglaaGreat.endFallsRun
