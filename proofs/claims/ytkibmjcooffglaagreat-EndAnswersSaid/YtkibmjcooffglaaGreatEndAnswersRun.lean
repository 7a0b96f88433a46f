/- The runs of the law EndAnswers, together. -/
import Derived.Test.YtkibmjcooffglaaGreatEndAnswersRun0
namespace Go.Proofs.YtkibmjcooffglaaGreat.endAnswersRun
open Go.Vm Go.RowKit
set_option linter.unusedVariables false
set_option linter.unusedSimpArgs false
set_option maxRecDepth 1000000
theorem runs : run 0 = true :=
  rt
end Go.Proofs.YtkibmjcooffglaaGreat.endAnswersRun
