/- The runs of the law EndAgain, together. -/
import Derived.Test.YtkibmjcooffglaaGreatEndAgainRun0
namespace Go.Proofs.YtkibmjcooffglaaGreat.endAgainRun
open Go.Vm Go.RowKit
set_option linter.unusedVariables false
set_option linter.unusedSimpArgs false
set_option maxRecDepth 1000000
theorem runs (k0 : Nat) (b1 : Bool) (h0 : k0 < 20) : run k0 b1 0 = true :=
  (match k0, h0 with
  | 0, _ => (match b1 with
    | true => rt0_true
    | false => rt0_false)
  | 1, _ => (match b1 with
    | true => rt1_true
    | false => rt1_false)
  | 2, _ => (match b1 with
    | true => rt2_true
    | false => rt2_false)
  | 3, _ => (match b1 with
    | true => rt3_true
    | false => rt3_false)
  | 4, _ => (match b1 with
    | true => rt4_true
    | false => rt4_false)
  | 5, _ => (match b1 with
    | true => rt5_true
    | false => rt5_false)
  | 6, _ => (match b1 with
    | true => rt6_true
    | false => rt6_false)
  | 7, _ => (match b1 with
    | true => rt7_true
    | false => rt7_false)
  | 8, _ => (match b1 with
    | true => rt8_true
    | false => rt8_false)
  | 9, _ => (match b1 with
    | true => rt9_true
    | false => rt9_false)
  | 10, _ => (match b1 with
    | true => rt10_true
    | false => rt10_false)
  | 11, _ => (match b1 with
    | true => rt11_true
    | false => rt11_false)
  | 12, _ => (match b1 with
    | true => rt12_true
    | false => rt12_false)
  | 13, _ => (match b1 with
    | true => rt13_true
    | false => rt13_false)
  | 14, _ => (match b1 with
    | true => rt14_true
    | false => rt14_false)
  | 15, _ => (match b1 with
    | true => rt15_true
    | false => rt15_false)
  | 16, _ => (match b1 with
    | true => rt16_true
    | false => rt16_false)
  | 17, _ => (match b1 with
    | true => rt17_true
    | false => rt17_false)
  | 18, _ => (match b1 with
    | true => rt18_true
    | false => rt18_false)
  | 19, _ => (match b1 with
    | true => rt19_true
    | false => rt19_false)
  | n + 20, h => absurd h (by omega))
end Go.Proofs.YtkibmjcooffglaaGreat.endAgainRun
