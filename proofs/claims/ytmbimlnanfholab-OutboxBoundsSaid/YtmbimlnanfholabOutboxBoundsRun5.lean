/- Runs of the law OutboxBounds. -/
import Derived.Test.YtmbimlnanfholabOutboxBoundsTab
namespace Go.Proofs.Ytmbimlnanfholab.outboxBoundsRun
open Go.Vm Go.RowKit
set_option linter.unusedVariables false
set_option linter.unusedSimpArgs false
set_option maxRecDepth 1000000
theorem rt5 : run 5 0  = true := by kernel_rfl
theorem rt11 : run 11 0  = true := by kernel_rfl
theorem rt17 : run 17 0  = true := by kernel_rfl
theorem rt23 : run 23 0  = true := by kernel_rfl
theorem rt29 : run 29 0  = true := by kernel_rfl
theorem rt35 : run 35 0  = true := by kernel_rfl
theorem rt41 : run 41 0  = true := by kernel_rfl
theorem rt47 : run 47 0  = true := by kernel_rfl
theorem rt53 : run 53 0  = true := by kernel_rfl
theorem rt59 : run 59 0  = true := by kernel_rfl
theorem rt65 : run 65 0  = true := by kernel_rfl
theorem rt71 : run 71 0  = true := by kernel_rfl
theorem rt77 : run 77 0  = true := by kernel_rfl
theorem rt83 : run 83 0  = true := by kernel_rfl
theorem rt89 : run 89 0  = true := by kernel_rfl
theorem rt95 : run 95 0  = true := by kernel_rfl
theorem rt101 : run 101 0  = true := by kernel_rfl
theorem rt107 : run 107 0  = true := by kernel_rfl
theorem rt113 : run 113 0  = true := by kernel_rfl
theorem rt119 : run 119 0  = true := by kernel_rfl
theorem rt125 : run 125 0  = true := by kernel_rfl
theorem rt131 : run 131 0  = true := by kernel_rfl
theorem rt137 : run 137 0  = true := by kernel_rfl
theorem rt143 : run 143 0  = true := by kernel_rfl
theorem rt149 : run 149 0  = true := by kernel_rfl
theorem rt155 : run 155 0  = true := by kernel_rfl
theorem rt161 : run 161 0  = true := by kernel_rfl
theorem rt167 : run 167 0  = true := by kernel_rfl
theorem rt173 : run 173 0  = true := by kernel_rfl
theorem rt179 : run 179 0  = true := by kernel_rfl
theorem rt185 : run 185 0  = true := by kernel_rfl
theorem rt191 : run 191 0  = true := by kernel_rfl
theorem rt197 : run 197 0  = true := by kernel_rfl
theorem rt203 : run 203 0  = true := by kernel_rfl
theorem rt209 : run 209 0  = true := by kernel_rfl
theorem rt215 : run 215 0  = true := by kernel_rfl
theorem rt221 : run 221 0  = true := by kernel_rfl
theorem rt227 : run 227 0  = true := by kernel_rfl
theorem rt233 : run 233 0  = true := by kernel_rfl
theorem rt239 : run 239 0  = true := by kernel_rfl
theorem rt245 : run 245 0  = true := by kernel_rfl
theorem rt251 : run 251 0  = true := by kernel_rfl
theorem rt257 : run 257 0  = true := by kernel_rfl
theorem rt263 : run 263 0  = true := by kernel_rfl
theorem rt269 : run 269 0  = true := by kernel_rfl
theorem rt275 : run 275 0  = true := by kernel_rfl
theorem rt281 : run 281 0  = true := by kernel_rfl
theorem rt287 : run 287 0  = true := by kernel_rfl
theorem rt293 : run 293 0  = true := by kernel_rfl
theorem rt299 : run 299 0  = true := by kernel_rfl
end Go.Proofs.Ytmbimlnanfholab.outboxBoundsRun
