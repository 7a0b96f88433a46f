/- The runs of the law EndTurns, together. -/
import Derived.Test.YtkibmjcooffglaaGreatEndTurnsRun0
namespace Go.Proofs.YtkibmjcooffglaaGreat.endTurnsRun
open Go.Vm Go.RowKit
set_option linter.unusedVariables false
set_option linter.unusedSimpArgs false
set_option maxRecDepth 1000000
theorem runs (b0 : Bool) : run b0 0 = true :=
  (match b0 with
  | true => rttrue
  | false => rtfalse)
end Go.Proofs.YtkibmjcooffglaaGreat.endTurnsRun
