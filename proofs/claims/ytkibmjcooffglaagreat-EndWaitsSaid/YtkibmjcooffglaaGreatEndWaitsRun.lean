/- The runs of the law EndWaits, together. -/
import Derived.Test.YtkibmjcooffglaaGreatEndWaitsRun0
namespace Go.Proofs.YtkibmjcooffglaaGreat.endWaitsRun
open Go.Vm Go.RowKit
set_option linter.unusedVariables false
set_option linter.unusedSimpArgs false
set_option maxRecDepth 1000000
theorem runs (k0 : Nat) (h0 : k0 < 4) : run k0 0 = true :=
  (match k0, h0 with
  | 0, _ => rt0
  | 1, _ => rt1
  | 2, _ => rt2
  | 3, _ => rt3
  | n + 4, h => absurd h (by omega))
end Go.Proofs.YtkibmjcooffglaaGreat.endWaitsRun
