/- Runs of the law OutboxBounds. -/
import Derived.Test.YtmbimlnanfholabOutboxBoundsTab
namespace Go.Proofs.Ytmbimlnanfholab.outboxBoundsRun
open Go.Vm Go.RowKit
set_option linter.unusedVariables false
set_option linter.unusedSimpArgs false
set_option maxRecDepth 1000000
theorem rt2 : run 2 0  = true := by kernel_rfl
theorem rt8 : run 8 0  = true := by kernel_rfl
theorem rt14 : run 14 0  = true := by kernel_rfl
theorem rt20 : run 20 0  = true := by kernel_rfl
theorem rt26 : run 26 0  = true := by kernel_rfl
theorem rt32 : run 32 0  = true := by kernel_rfl
theorem rt38 : run 38 0  = true := by kernel_rfl
theorem rt44 : run 44 0  = true := by kernel_rfl
theorem rt50 : run 50 0  = true := by kernel_rfl
theorem rt56 : run 56 0  = true := by kernel_rfl
theorem rt62 : run 62 0  = true := by kernel_rfl
theorem rt68 : run 68 0  = true := by kernel_rfl
theorem rt74 : run 74 0  = true := by kernel_rfl
theorem rt80 : run 80 0  = true := by kernel_rfl
theorem rt86 : run 86 0  = true := by kernel_rfl
theorem rt92 : run 92 0  = true := by kernel_rfl
theorem rt98 : run 98 0  = true := by kernel_rfl
theorem rt104 : run 104 0  = true := by kernel_rfl
theorem rt110 : run 110 0  = true := by kernel_rfl
theorem rt116 : run 116 0  = true := by kernel_rfl
theorem rt122 : run 122 0  = true := by kernel_rfl
theorem rt128 : run 128 0  = true := by kernel_rfl
theorem rt134 : run 134 0  = true := by kernel_rfl
theorem rt140 : run 140 0  = true := by kernel_rfl
theorem rt146 : run 146 0  = true := by kernel_rfl
theorem rt152 : run 152 0  = true := by kernel_rfl
theorem rt158 : run 158 0  = true := by kernel_rfl
theorem rt164 : run 164 0  = true := by kernel_rfl
theorem rt170 : run 170 0  = true := by kernel_rfl
theorem rt176 : run 176 0  = true := by kernel_rfl
theorem rt182 : run 182 0  = true := by kernel_rfl
theorem rt188 : run 188 0  = true := by kernel_rfl
theorem rt194 : run 194 0  = true := by kernel_rfl
theorem rt200 : run 200 0  = true := by kernel_rfl
theorem rt206 : run 206 0  = true := by kernel_rfl
theorem rt212 : run 212 0  = true := by kernel_rfl
theorem rt218 : run 218 0  = true := by kernel_rfl
theorem rt224 : run 224 0  = true := by kernel_rfl
theorem rt230 : run 230 0  = true := by kernel_rfl
theorem rt236 : run 236 0  = true := by kernel_rfl
theorem rt242 : run 242 0  = true := by kernel_rfl
theorem rt248 : run 248 0  = true := by kernel_rfl
theorem rt254 : run 254 0  = true := by kernel_rfl
theorem rt260 : run 260 0  = true := by kernel_rfl
theorem rt266 : run 266 0  = true := by kernel_rfl
theorem rt272 : run 272 0  = true := by kernel_rfl
theorem rt278 : run 278 0  = true := by kernel_rfl
theorem rt284 : run 284 0  = true := by kernel_rfl
theorem rt290 : run 290 0  = true := by kernel_rfl
theorem rt296 : run 296 0  = true := by kernel_rfl
end Go.Proofs.Ytmbimlnanfholab.outboxBoundsRun
