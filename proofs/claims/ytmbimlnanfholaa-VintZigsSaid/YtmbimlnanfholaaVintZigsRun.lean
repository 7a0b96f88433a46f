/- The runs of the law VintZigs. -/
import Derived.Test.YtmbimlnanfholaaVintZigsHook
namespace Go.Proofs.Ytmbimlnanfholaa.vintZigsRun
open Go.Vm Go.RowKit
set_option linter.unusedVariables false
set_option linter.unusedSimpArgs false
set_option maxRecDepth 1000000
theorem zn : runZ 0 2305843009213693951 = some (.s [(10, -2)] 4611686018427387903) := by kernel_rfl
theorem zp : runZ 2305843009213693952 4611686018427387903 = some (.s [(10, 2)] (-4611686018427387904)) := by kernel_rfl
theorem rnee : runz (.s [(10, 1)] 0) (.s [(10, 1)] (-2305843009213693952)) (.s [(10, -2)] (4611686018427387903)) 0 2305843009213693951 = true := by kernel_rfl
theorem rnll : runz (.s [(10, 1), (11, 1)] 1) (.s [(10, 1), (11, 1)] (-2305843009213693951)) (.s [(10, -2), (12, 1)] (4611686018427387904)) 0 2305843009213693951 = true := by kernel_rfl
theorem rnlg : runz (.s [(10, 1), (11, 1)] 1) (.s [(10, 1), (11, 1)] (-2305843009213693951)) (.s [(10, -2), (12, -1)] (4611686018427387902)) 0 2305843009213693951 = true := by kernel_rfl
theorem rngl : runz (.s [(10, 1), (11, -1)] (-1)) (.s [(10, 1), (11, -1)] (-2305843009213693953)) (.s [(10, -2), (12, 1)] (4611686018427387904)) 0 2305843009213693951 = true := by kernel_rfl
theorem rngg : runz (.s [(10, 1), (11, -1)] (-1)) (.s [(10, 1), (11, -1)] (-2305843009213693953)) (.s [(10, -2), (12, -1)] (4611686018427387902)) 0 2305843009213693951 = true := by kernel_rfl
theorem rpee : runz (.s [(10, 1)] 0) (.s [(10, 1)] (-2305843009213693952)) (.s [(10, 2)] (-4611686018427387904)) 2305843009213693952 4611686018427387903 = true := by kernel_rfl
theorem rpll : runz (.s [(10, 1), (11, 1)] 1) (.s [(10, 1), (11, 1)] (-2305843009213693951)) (.s [(10, 2), (12, 1)] (-4611686018427387903)) 2305843009213693952 4611686018427387903 = true := by kernel_rfl
theorem rplg : runz (.s [(10, 1), (11, 1)] 1) (.s [(10, 1), (11, 1)] (-2305843009213693951)) (.s [(10, 2), (12, -1)] (-4611686018427387905)) 2305843009213693952 4611686018427387903 = true := by kernel_rfl
theorem rpgl : runz (.s [(10, 1), (11, -1)] (-1)) (.s [(10, 1), (11, -1)] (-2305843009213693953)) (.s [(10, 2), (12, 1)] (-4611686018427387903)) 2305843009213693952 4611686018427387903 = true := by kernel_rfl
theorem rpgg : runz (.s [(10, 1), (11, -1)] (-1)) (.s [(10, 1), (11, -1)] (-2305843009213693953)) (.s [(10, 2), (12, -1)] (-4611686018427387905)) 2305843009213693952 4611686018427387903 = true := by kernel_rfl
end Go.Proofs.Ytmbimlnanfholaa.vintZigsRun
