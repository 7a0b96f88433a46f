/- The runs of the law EndJoins, together. -/
import Derived.Test.YtkibmjcooffglaaGreatEndJoinsRun0
namespace Go.Proofs.YtkibmjcooffglaaGreat.endJoinsRun
open Go.Vm Go.RowKit
set_option linter.unusedVariables false
set_option linter.unusedSimpArgs false
set_option maxRecDepth 1000000
theorem runs (k0 : Nat) (k1 : Nat) (h0 : k0 < 9) (h1 : k1 < 4) : run k0 k1 0 = true :=
  (match k0, h0 with
  | 0, _ => (match k1, h1 with
    | 0, _ => rt0_0
    | 1, _ => rt0_1
    | 2, _ => rt0_2
    | 3, _ => rt0_3
    | n + 4, h => absurd h (by omega))
  | 1, _ => (match k1, h1 with
    | 0, _ => rt1_0
    | 1, _ => rt1_1
    | 2, _ => rt1_2
    | 3, _ => rt1_3
    | n + 4, h => absurd h (by omega))
  | 2, _ => (match k1, h1 with
    | 0, _ => rt2_0
    | 1, _ => rt2_1
    | 2, _ => rt2_2
    | 3, _ => rt2_3
    | n + 4, h => absurd h (by omega))
  | 3, _ => (match k1, h1 with
    | 0, _ => rt3_0
    | 1, _ => rt3_1
    | 2, _ => rt3_2
    | 3, _ => rt3_3
    | n + 4, h => absurd h (by omega))
  | 4, _ => (match k1, h1 with
    | 0, _ => rt4_0
    | 1, _ => rt4_1
    | 2, _ => rt4_2
    | 3, _ => rt4_3
    | n + 4, h => absurd h (by omega))
  | 5, _ => (match k1, h1 with
    | 0, _ => rt5_0
    | 1, _ => rt5_1
    | 2, _ => rt5_2
    | 3, _ => rt5_3
    | n + 4, h => absurd h (by omega))
  | 6, _ => (match k1, h1 with
    | 0, _ => rt6_0
    | 1, _ => rt6_1
    | 2, _ => rt6_2
    | 3, _ => rt6_3
    | n + 4, h => absurd h (by omega))
  | 7, _ => (match k1, h1 with
    | 0, _ => rt7_0
    | 1, _ => rt7_1
    | 2, _ => rt7_2
    | 3, _ => rt7_3
    | n + 4, h => absurd h (by omega))
  | 8, _ => (match k1, h1 with
    | 0, _ => rt8_0
    | 1, _ => rt8_1
    | 2, _ => rt8_2
    | 3, _ => rt8_3
    | n + 4, h => absurd h (by omega))
  | n + 9, h => absurd h (by omega))
end Go.Proofs.YtkibmjcooffglaaGreat.endJoinsRun
