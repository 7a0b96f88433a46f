/- The runs of the law RulesReads, together. -/
import Derived.Test.YtpkncocckgbheaaRulesReadsRun0
import Derived.Test.YtpkncocckgbheaaRulesReadsRun1
import Derived.Test.YtpkncocckgbheaaRulesReadsRun2
namespace Go.Proofs.Ytpkncocckgbheaa.rulesReadsRun
open Go.Vm Go.RowKit
set_option linter.unusedVariables false
set_option linter.unusedSimpArgs false
set_option maxRecDepth 1000000
theorem runs (k0 : Nat) (h0 : k0 < 3) : run k0 0 = true :=
  (match k0, h0 with
  | 0, _ => rt0
  | 1, _ => rt1
  | 2, _ => rt2
  | n + 3, h => absurd h (by omega))
end Go.Proofs.Ytpkncocckgbheaa.rulesReadsRun
