/- The runs of the law RulesLimits, together. -/
import Derived.Test.YtpkncocckgbheaaRulesLimitsRun0
import Derived.Test.YtpkncocckgbheaaRulesLimitsRun1
import Derived.Test.YtpkncocckgbheaaRulesLimitsRun2
import Derived.Test.YtpkncocckgbheaaRulesLimitsRun3
namespace Go.Proofs.Ytpkncocckgbheaa.rulesLimitsRun
open Go.Vm Go.RowKit
set_option linter.unusedVariables false
set_option linter.unusedSimpArgs false
set_option maxRecDepth 1000000
theorem runs (k0 : Nat) (k1 : Nat) (h0 : k0 < 4) (h1 : k1 < 6) : run k0 k1 0 = true :=
  (match k0, h0 with
  | 0, _ => (match k1, h1 with
    | 0, _ => rt0_0
    | 1, _ => rt0_1
    | 2, _ => rt0_2
    | 3, _ => rt0_3
    | 4, _ => rt0_4
    | 5, _ => rt0_5
    | n + 6, h => absurd h (by omega))
  | 1, _ => (match k1, h1 with
    | 0, _ => rt1_0
    | 1, _ => rt1_1
    | 2, _ => rt1_2
    | 3, _ => rt1_3
    | 4, _ => rt1_4
    | 5, _ => rt1_5
    | n + 6, h => absurd h (by omega))
  | 2, _ => (match k1, h1 with
    | 0, _ => rt2_0
    | 1, _ => rt2_1
    | 2, _ => rt2_2
    | 3, _ => rt2_3
    | 4, _ => rt2_4
    | 5, _ => rt2_5
    | n + 6, h => absurd h (by omega))
  | 3, _ => (match k1, h1 with
    | 0, _ => rt3_0
    | 1, _ => rt3_1
    | 2, _ => rt3_2
    | 3, _ => rt3_3
    | 4, _ => rt3_4
    | 5, _ => rt3_5
    | n + 6, h => absurd h (by omega))
  | n + 4, h => absurd h (by omega))
end Go.Proofs.Ytpkncocckgbheaa.rulesLimitsRun
