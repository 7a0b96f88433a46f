/- Runs of the law OutboxBounds. -/
import Derived.Test.YtmbimlnanfholabOutboxBoundsTab
namespace Go.Proofs.Ytmbimlnanfholab.outboxBoundsRun
open Go.Vm Go.RowKit
set_option linter.unusedVariables false
set_option linter.unusedSimpArgs false
set_option maxRecDepth 1000000
theorem rt4 : run 4 0  = true := by kernel_rfl
theorem rt10 : run 10 0  = true := by kernel_rfl
theorem rt16 : run 16 0  = true := by kernel_rfl
theorem rt22 : run 22 0  = true := by kernel_rfl
theorem rt28 : run 28 0  = true := by kernel_rfl
theorem rt34 : run 34 0  = true := by kernel_rfl
theorem rt40 : run 40 0  = true := by kernel_rfl
theorem rt46 : run 46 0  = true := by kernel_rfl
theorem rt52 : run 52 0  = true := by kernel_rfl
theorem rt58 : run 58 0  = true := by kernel_rfl
theorem rt64 : run 64 0  = true := by kernel_rfl
theorem rt70 : run 70 0  = true := by kernel_rfl
theorem rt76 : run 76 0  = true := by kernel_rfl
theorem rt82 : run 82 0  = true := by kernel_rfl
theorem rt88 : run 88 0  = true := by kernel_rfl
theorem rt94 : run 94 0  = true := by kernel_rfl
theorem rt100 : run 100 0  = true := by kernel_rfl
theorem rt106 : run 106 0  = true := by kernel_rfl
theorem rt112 : run 112 0  = true := by kernel_rfl
theorem rt118 : run 118 0  = true := by kernel_rfl
theorem rt124 : run 124 0  = true := by kernel_rfl
theorem rt130 : run 130 0  = true := by kernel_rfl
theorem rt136 : run 136 0  = true := by kernel_rfl
theorem rt142 : run 142 0  = true := by kernel_rfl
theorem rt148 : run 148 0  = true := by kernel_rfl
theorem rt154 : run 154 0  = true := by kernel_rfl
theorem rt160 : run 160 0  = true := by kernel_rfl
theorem rt166 : run 166 0  = true := by kernel_rfl
theorem rt172 : run 172 0  = true := by kernel_rfl
theorem rt178 : run 178 0  = true := by kernel_rfl
theorem rt184 : run 184 0  = true := by kernel_rfl
theorem rt190 : run 190 0  = true := by kernel_rfl
theorem rt196 : run 196 0  = true := by kernel_rfl
theorem rt202 : run 202 0  = true := by kernel_rfl
theorem rt208 : run 208 0  = true := by kernel_rfl
theorem rt214 : run 214 0  = true := by kernel_rfl
theorem rt220 : run 220 0  = true := by kernel_rfl
theorem rt226 : run 226 0  = true := by kernel_rfl
theorem rt232 : run 232 0  = true := by kernel_rfl
theorem rt238 : run 238 0  = true := by kernel_rfl
theorem rt244 : run 244 0  = true := by kernel_rfl
theorem rt250 : run 250 0  = true := by kernel_rfl
theorem rt256 : run 256 0  = true := by kernel_rfl
theorem rt262 : run 262 0  = true := by kernel_rfl
theorem rt268 : run 268 0  = true := by kernel_rfl
theorem rt274 : run 274 0  = true := by kernel_rfl
theorem rt280 : run 280 0  = true := by kernel_rfl
theorem rt286 : run 286 0  = true := by kernel_rfl
theorem rt292 : run 292 0  = true := by kernel_rfl
theorem rt298 : run 298 0  = true := by kernel_rfl
end Go.Proofs.Ytmbimlnanfholab.outboxBoundsRun
