/- Runs of the law OutboxBounds. -/
import Derived.Test.YtmbimlnanfholabOutboxBoundsTab
namespace Go.Proofs.Ytmbimlnanfholab.outboxBoundsRun
open Go.Vm Go.RowKit
set_option linter.unusedVariables false
set_option linter.unusedSimpArgs false
set_option maxRecDepth 1000000
theorem rt0 : run 0 0  = true := by kernel_rfl
theorem rt6 : run 6 0  = true := by kernel_rfl
theorem rt12 : run 12 0  = true := by kernel_rfl
theorem rt18 : run 18 0  = true := by kernel_rfl
theorem rt24 : run 24 0  = true := by kernel_rfl
theorem rt30 : run 30 0  = true := by kernel_rfl
theorem rt36 : run 36 0  = true := by kernel_rfl
theorem rt42 : run 42 0  = true := by kernel_rfl
theorem rt48 : run 48 0  = true := by kernel_rfl
theorem rt54 : run 54 0  = true := by kernel_rfl
theorem rt60 : run 60 0  = true := by kernel_rfl
theorem rt66 : run 66 0  = true := by kernel_rfl
theorem rt72 : run 72 0  = true := by kernel_rfl
theorem rt78 : run 78 0  = true := by kernel_rfl
theorem rt84 : run 84 0  = true := by kernel_rfl
theorem rt90 : run 90 0  = true := by kernel_rfl
theorem rt96 : run 96 0  = true := by kernel_rfl
theorem rt102 : run 102 0  = true := by kernel_rfl
theorem rt108 : run 108 0  = true := by kernel_rfl
theorem rt114 : run 114 0  = true := by kernel_rfl
theorem rt120 : run 120 0  = true := by kernel_rfl
theorem rt126 : run 126 0  = true := by kernel_rfl
theorem rt132 : run 132 0  = true := by kernel_rfl
theorem rt138 : run 138 0  = true := by kernel_rfl
theorem rt144 : run 144 0  = true := by kernel_rfl
theorem rt150 : run 150 0  = true := by kernel_rfl
theorem rt156 : run 156 0  = true := by kernel_rfl
theorem rt162 : run 162 0  = true := by kernel_rfl
theorem rt168 : run 168 0  = true := by kernel_rfl
theorem rt174 : run 174 0  = true := by kernel_rfl
theorem rt180 : run 180 0  = true := by kernel_rfl
theorem rt186 : run 186 0  = true := by kernel_rfl
theorem rt192 : run 192 0  = true := by kernel_rfl
theorem rt198 : run 198 0  = true := by kernel_rfl
theorem rt204 : run 204 0  = true := by kernel_rfl
theorem rt210 : run 210 0  = true := by kernel_rfl
theorem rt216 : run 216 0  = true := by kernel_rfl
theorem rt222 : run 222 0  = true := by kernel_rfl
theorem rt228 : run 228 0  = true := by kernel_rfl
theorem rt234 : run 234 0  = true := by kernel_rfl
theorem rt240 : run 240 0  = true := by kernel_rfl
theorem rt246 : run 246 0  = true := by kernel_rfl
theorem rt252 : run 252 0  = true := by kernel_rfl
theorem rt258 : run 258 0  = true := by kernel_rfl
theorem rt264 : run 264 0  = true := by kernel_rfl
theorem rt270 : run 270 0  = true := by kernel_rfl
theorem rt276 : run 276 0  = true := by kernel_rfl
theorem rt282 : run 282 0  = true := by kernel_rfl
theorem rt288 : run 288 0  = true := by kernel_rfl
theorem rt294 : run 294 0  = true := by kernel_rfl
end Go.Proofs.Ytmbimlnanfholab.outboxBoundsRun
