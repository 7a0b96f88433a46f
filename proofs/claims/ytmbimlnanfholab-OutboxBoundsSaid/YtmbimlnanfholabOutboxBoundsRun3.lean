/- Runs of the law OutboxBounds. -/
import Derived.Test.YtmbimlnanfholabOutboxBoundsTab
namespace Go.Proofs.Ytmbimlnanfholab.outboxBoundsRun
open Go.Vm Go.RowKit
set_option linter.unusedVariables false
set_option linter.unusedSimpArgs false
set_option maxRecDepth 1000000
theorem rt3 : run 3 0  = true := by kernel_rfl
theorem rt9 : run 9 0  = true := by kernel_rfl
theorem rt15 : run 15 0  = true := by kernel_rfl
theorem rt21 : run 21 0  = true := by kernel_rfl
theorem rt27 : run 27 0  = true := by kernel_rfl
theorem rt33 : run 33 0  = true := by kernel_rfl
theorem rt39 : run 39 0  = true := by kernel_rfl
theorem rt45 : run 45 0  = true := by kernel_rfl
theorem rt51 : run 51 0  = true := by kernel_rfl
theorem rt57 : run 57 0  = true := by kernel_rfl
theorem rt63 : run 63 0  = true := by kernel_rfl
theorem rt69 : run 69 0  = true := by kernel_rfl
theorem rt75 : run 75 0  = true := by kernel_rfl
theorem rt81 : run 81 0  = true := by kernel_rfl
theorem rt87 : run 87 0  = true := by kernel_rfl
theorem rt93 : run 93 0  = true := by kernel_rfl
theorem rt99 : run 99 0  = true := by kernel_rfl
theorem rt105 : run 105 0  = true := by kernel_rfl
theorem rt111 : run 111 0  = true := by kernel_rfl
theorem rt117 : run 117 0  = true := by kernel_rfl
theorem rt123 : run 123 0  = true := by kernel_rfl
theorem rt129 : run 129 0  = true := by kernel_rfl
theorem rt135 : run 135 0  = true := by kernel_rfl
theorem rt141 : run 141 0  = true := by kernel_rfl
theorem rt147 : run 147 0  = true := by kernel_rfl
theorem rt153 : run 153 0  = true := by kernel_rfl
theorem rt159 : run 159 0  = true := by kernel_rfl
theorem rt165 : run 165 0  = true := by kernel_rfl
theorem rt171 : run 171 0  = true := by kernel_rfl
theorem rt177 : run 177 0  = true := by kernel_rfl
theorem rt183 : run 183 0  = true := by kernel_rfl
theorem rt189 : run 189 0  = true := by kernel_rfl
theorem rt195 : run 195 0  = true := by kernel_rfl
theorem rt201 : run 201 0  = true := by kernel_rfl
theorem rt207 : run 207 0  = true := by kernel_rfl
theorem rt213 : run 213 0  = true := by kernel_rfl
theorem rt219 : run 219 0  = true := by kernel_rfl
theorem rt225 : run 225 0  = true := by kernel_rfl
theorem rt231 : run 231 0  = true := by kernel_rfl
theorem rt237 : run 237 0  = true := by kernel_rfl
theorem rt243 : run 243 0  = true := by kernel_rfl
theorem rt249 : run 249 0  = true := by kernel_rfl
theorem rt255 : run 255 0  = true := by kernel_rfl
theorem rt261 : run 261 0  = true := by kernel_rfl
theorem rt267 : run 267 0  = true := by kernel_rfl
theorem rt273 : run 273 0  = true := by kernel_rfl
theorem rt279 : run 279 0  = true := by kernel_rfl
theorem rt285 : run 285 0  = true := by kernel_rfl
theorem rt291 : run 291 0  = true := by kernel_rfl
theorem rt297 : run 297 0  = true := by kernel_rfl
end Go.Proofs.Ytmbimlnanfholab.outboxBoundsRun
