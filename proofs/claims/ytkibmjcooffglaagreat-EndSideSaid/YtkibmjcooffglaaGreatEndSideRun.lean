/- The runs of the law EndSide, together. -/
import Derived.Test.YtkibmjcooffglaaGreatEndSideRun0
namespace Go.Proofs.YtkibmjcooffglaaGreat.endSideRun
open Go.Vm Go.RowKit
set_option linter.unusedVariables false
set_option linter.unusedSimpArgs false
set_option maxRecDepth 1000000
theorem runs (k1 : Nat) (h1 : k1 < 9) : run k1 0 = true :=
  (match k1, h1 with
  | 0, _ => rt0
  | 1, _ => rt1
  | 2, _ => rt2
  | 3, _ => rt3
  | 4, _ => rt4
  | 5, _ => rt5
  | 6, _ => rt6
  | 7, _ => rt7
  | 8, _ => rt8
  | n + 9, h => absurd h (by omega))
end Go.Proofs.YtkibmjcooffglaaGreat.endSideRun
