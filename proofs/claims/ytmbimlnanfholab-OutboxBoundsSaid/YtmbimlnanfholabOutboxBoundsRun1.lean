/- Runs of the law OutboxBounds. -/
import Derived.Test.YtmbimlnanfholabOutboxBoundsTab
namespace Go.Proofs.Ytmbimlnanfholab.outboxBoundsRun
open Go.Vm Go.RowKit
set_option linter.unusedVariables false
set_option linter.unusedSimpArgs false
set_option maxRecDepth 1000000
theorem rt1 : run 1 0  = true := by kernel_rfl
theorem rt7 : run 7 0  = true := by kernel_rfl
theorem rt13 : run 13 0  = true := by kernel_rfl
theorem rt19 : run 19 0  = true := by kernel_rfl
theorem rt25 : run 25 0  = true := by kernel_rfl
theorem rt31 : run 31 0  = true := by kernel_rfl
theorem rt37 : run 37 0  = true := by kernel_rfl
theorem rt43 : run 43 0  = true := by kernel_rfl
theorem rt49 : run 49 0  = true := by kernel_rfl
theorem rt55 : run 55 0  = true := by kernel_rfl
theorem rt61 : run 61 0  = true := by kernel_rfl
theorem rt67 : run 67 0  = true := by kernel_rfl
theorem rt73 : run 73 0  = true := by kernel_rfl
theorem rt79 : run 79 0  = true := by kernel_rfl
theorem rt85 : run 85 0  = true := by kernel_rfl
theorem rt91 : run 91 0  = true := by kernel_rfl
theorem rt97 : run 97 0  = true := by kernel_rfl
theorem rt103 : run 103 0  = true := by kernel_rfl
theorem rt109 : run 109 0  = true := by kernel_rfl
theorem rt115 : run 115 0  = true := by kernel_rfl
theorem rt121 : run 121 0  = true := by kernel_rfl
theorem rt127 : run 127 0  = true := by kernel_rfl
theorem rt133 : run 133 0  = true := by kernel_rfl
theorem rt139 : run 139 0  = true := by kernel_rfl
theorem rt145 : run 145 0  = true := by kernel_rfl
theorem rt151 : run 151 0  = true := by kernel_rfl
theorem rt157 : run 157 0  = true := by kernel_rfl
theorem rt163 : run 163 0  = true := by kernel_rfl
theorem rt169 : run 169 0  = true := by kernel_rfl
theorem rt175 : run 175 0  = true := by kernel_rfl
theorem rt181 : run 181 0  = true := by kernel_rfl
theorem rt187 : run 187 0  = true := by kernel_rfl
theorem rt193 : run 193 0  = true := by kernel_rfl
theorem rt199 : run 199 0  = true := by kernel_rfl
theorem rt205 : run 205 0  = true := by kernel_rfl
theorem rt211 : run 211 0  = true := by kernel_rfl
theorem rt217 : run 217 0  = true := by kernel_rfl
theorem rt223 : run 223 0  = true := by kernel_rfl
theorem rt229 : run 229 0  = true := by kernel_rfl
theorem rt235 : run 235 0  = true := by kernel_rfl
theorem rt241 : run 241 0  = true := by kernel_rfl
theorem rt247 : run 247 0  = true := by kernel_rfl
theorem rt253 : run 253 0  = true := by kernel_rfl
theorem rt259 : run 259 0  = true := by kernel_rfl
theorem rt265 : run 265 0  = true := by kernel_rfl
theorem rt271 : run 271 0  = true := by kernel_rfl
theorem rt277 : run 277 0  = true := by kernel_rfl
theorem rt283 : run 283 0  = true := by kernel_rfl
theorem rt289 : run 289 0  = true := by kernel_rfl
theorem rt295 : run 295 0  = true := by kernel_rfl
end Go.Proofs.Ytmbimlnanfholab.outboxBoundsRun
