/- The runs of the law RulesEach, together. -/
import Derived.Test.YtpkncocckgbheaaRulesEachRun0
import Derived.Test.YtpkncocckgbheaaRulesEachRun1
import Derived.Test.YtpkncocckgbheaaRulesEachRun2
import Derived.Test.YtpkncocckgbheaaRulesEachRun3
import Derived.Test.YtpkncocckgbheaaRulesEachRun4
import Derived.Test.YtpkncocckgbheaaRulesEachRun5
import Derived.Test.YtpkncocckgbheaaRulesEachRun6
import Derived.Test.YtpkncocckgbheaaRulesEachRun7
import Derived.Test.YtpkncocckgbheaaRulesEachRun8
namespace Go.Proofs.Ytpkncocckgbheaa.rulesEachRun
open Go.Vm Go.RowKit
set_option linter.unusedVariables false
set_option linter.unusedSimpArgs false
set_option maxRecDepth 1000000
theorem runs (k0 : Nat) (h0 : k0 < 9) : run k0 0 = true :=
  (match k0, h0 with
  | 0, _ => rt0
  | 1, _ => rt1
  | 2, _ => rt2
  | 3, _ => rt3
  | 4, _ => rt4
  | 5, _ => rt5
  | 6, _ => rt6
  | 7, _ => rt7
  | 8, _ => rt8
  | n + 9, h => absurd h (by omega))
end Go.Proofs.Ytpkncocckgbheaa.rulesEachRun
