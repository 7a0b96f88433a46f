/- The runs of the law EndOwn, together. -/
import Derived.Test.YtkibmjcooffglaaGreatEndOwnRun0
namespace Go.Proofs.YtkibmjcooffglaaGreat.endOwnRun
open Go.Vm Go.RowKit
set_option linter.unusedVariables false
set_option linter.unusedSimpArgs false
set_option maxRecDepth 1000000
theorem runsnil : run 0 .nils st0 = true :=
  rtnil
theorem runsemp : run 0 .emp st0 = true :=
  rtemp
theorem runsarg : run 9 (markV 0 9 (.s [(90, 1)] 0) 1) (stA 9 100) = true :=
  rtarg
theorem runslen : ∀ L, 0 < L → L < 9 → run L (.sl 0 0 L L false 1) (stA L 100) = true
  | 0, h, _ => absurd h (by omega)
  | 1, _, _ => rtlen1
  | 2, _, _ => rtlen2
  | 3, _, _ => rtlen3
  | 4, _, _ => rtlen4
  | 5, _, _ => rtlen5
  | 6, _, _ => rtlen6
  | 7, _, _ => rtlen7
  | 8, _, _ => rtlen8
  | n + 9, _, h => absurd h (by omega)
end Go.Proofs.YtkibmjcooffglaaGreat.endOwnRun
