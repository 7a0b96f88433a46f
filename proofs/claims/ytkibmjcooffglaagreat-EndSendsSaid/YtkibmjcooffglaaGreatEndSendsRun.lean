/- The runs of the law EndSends, together. -/
import Derived.Test.YtkibmjcooffglaaGreatEndSendsRun0
namespace Go.Proofs.YtkibmjcooffglaaGreat.endSendsRun
open Go.Vm Go.RowKit
set_option linter.unusedVariables false
set_option linter.unusedSimpArgs false
set_option maxRecDepth 1000000
theorem runs (k0 : Nat) (h0 : k0 < 20) : run k0 0 = true :=
  (match k0, h0 with
  | 0, _ => rt0
  | 1, _ => rt1
  | 2, _ => rt2
  | 3, _ => rt3
  | 4, _ => rt4
  | 5, _ => rt5
  | 6, _ => rt6
  | 7, _ => rt7
  | 8, _ => rt8
  | 9, _ => rt9
  | 10, _ => rt10
  | 11, _ => rt11
  | 12, _ => rt12
  | 13, _ => rt13
  | 14, _ => rt14
  | 15, _ => rt15
  | 16, _ => rt16
  | 17, _ => rt17
  | 18, _ => rt18
  | 19, _ => rt19
  | n + 20, h => absurd h (by omega))
end Go.Proofs.YtkibmjcooffglaaGreat.endSendsRun
