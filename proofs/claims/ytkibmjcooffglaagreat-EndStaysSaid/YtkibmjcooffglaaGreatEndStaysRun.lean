/- The runs of the law EndStays, together. -/
import Derived.Test.YtkibmjcooffglaaGreatEndStaysRun0
namespace Go.Proofs.YtkibmjcooffglaaGreat.endStaysRun
open Go.Vm Go.RowKit
set_option linter.unusedVariables false
set_option linter.unusedSimpArgs false
set_option maxRecDepth 1000000
theorem runs : run 0 = true :=
  rt
end Go.Proofs.YtkibmjcooffglaaGreat.endStaysRun
