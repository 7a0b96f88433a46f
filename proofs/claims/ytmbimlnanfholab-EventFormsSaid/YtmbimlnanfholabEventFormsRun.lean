/- The runs of the law EventForms, together. -/
import Derived.Test.YtmbimlnanfholabEventFormsRun0
import Derived.Test.YtmbimlnanfholabEventFormsRun1
namespace Go.Proofs.Ytmbimlnanfholab.eventFormsRun
open Go.Vm Go.RowKit
set_option linter.unusedVariables false
set_option linter.unusedSimpArgs false
set_option maxRecDepth 1000000
theorem runsnil : run 0 .nils st0 = true :=
  rtnil
theorem runsemp : run 0 .emp st0 = true :=
  rtemp
theorem runsarg : run 40 (markV 0 40 (.s [(90, 1)] 0) 1) (stA 40 100) = true :=
  rtarg
theorem runslen : ∀ L, 0 < L → L < 40 → run L (.sl 0 0 L L false 1) (stA L 100) = true
  | 0, h, _ => absurd h (by omega)
  | 1, _, _ => rtlen1
  | 2, _, _ => rtlen2
  | 3, _, _ => rtlen3
  | 4, _, _ => rtlen4
  | 5, _, _ => rtlen5
  | 6, _, _ => rtlen6
  | 7, _, _ => rtlen7
  | 8, _, _ => rtlen8
  | 9, _, _ => rtlen9
  | 10, _, _ => rtlen10
  | 11, _, _ => rtlen11
  | 12, _, _ => rtlen12
  | 13, _, _ => rtlen13
  | 14, _, _ => rtlen14
  | 15, _, _ => rtlen15
  | 16, _, _ => rtlen16
  | 17, _, _ => rtlen17
  | 18, _, _ => rtlen18
  | 19, _, _ => rtlen19
  | 20, _, _ => rtlen20
  | 21, _, _ => rtlen21
  | 22, _, _ => rtlen22
  | 23, _, _ => rtlen23
  | 24, _, _ => rtlen24
  | 25, _, _ => rtlen25
  | 26, _, _ => rtlen26
  | 27, _, _ => rtlen27
  | 28, _, _ => rtlen28
  | 29, _, _ => rtlen29
  | 30, _, _ => rtlen30
  | 31, _, _ => rtlen31
  | 32, _, _ => rtlen32
  | 33, _, _ => rtlen33
  | 34, _, _ => rtlen34
  | 35, _, _ => rtlen35
  | 36, _, _ => rtlen36
  | 37, _, _ => rtlen37
  | 38, _, _ => rtlen38
  | 39, _, _ => rtlen39
  | n + 40, _, h => absurd h (by omega)
end Go.Proofs.Ytmbimlnanfholab.eventFormsRun
