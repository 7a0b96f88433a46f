/- Runs of the law EndChecks. -/
import Derived.Test.YtkibmjcooffglaaEndChecksHook
namespace Go.Proofs.Ytkibmjcooffglaa.endChecksRun
open Go.Vm Go.RowKit
set_option linter.unusedVariables false
set_option linter.unusedSimpArgs false
set_option maxRecDepth 1000000
theorem rt0loo_2 : rune (.s [(10, 1)] 0) (.s [(8, 1)] 0) 0 (-9223372036854775808) (0) 0 5 (.s [(20, -5), (22, -1)] 0) 0 = true := by kernel_rfl
theorem rt0loo_5 : rune (.s [(10, 1)] 0) (.s [(8, 1)] 0) 0 (-9223372036854775808) (0) 0 5 (.s [(20, 5)] 4) 1 = true := by kernel_rfl
theorem rt0loo_8 : rune (.s [(10, 1)] 0) (.s [(8, 1)] 0) 0 (-9223372036854775808) (0) 0 5 (.c 9223372036854775807) 1 = true := by kernel_rfl
theorem rt0loo_11 : rune (.s [(10, 1)] 0) (.s [(8, 1)] 0) 0 (-9223372036854775808) (0) 0 5 (.c (-9223372036854775807)) 1 = true := by kernel_rfl
theorem rt0v1oa_1 : rune (.s [(10, 1)] 0) (.c 1) 0 (1) (1) 0 0 (.s [(20, 5), (21, 1)] 0) 1 = true := by kernel_rfl
theorem rt0v1oa_4 : rune (.s [(10, 1)] 0) (.c 1) 0 (1) (1) 0 0 (.s [(20, 5)] 4) 0 = true := by kernel_rfl
theorem rt0v1oa_7 : rune (.s [(10, 1)] 0) (.c 1) 0 (1) (1) 0 0 (.c 9223372036854775806) 0 = true := by kernel_rfl
theorem rt0v1oa_10 : rune (.s [(10, 1)] 0) (.c 1) 0 (1) (1) 0 0 (.c (-9223372036854775806)) 0 = true := by kernel_rfl
theorem rt0v1ob_0 : rune (.s [(10, 1)] 0) (.c 1) 0 (1) (1) 1 5 (.s [(20, 5), (21, 1)] 0) 0 = true := by kernel_rfl
theorem rt0v1ob_3 : rune (.s [(10, 1)] 0) (.c 1) 0 (1) (1) 1 5 (.s [(20, -5), (22, -1)] 0) 1 = true := by kernel_rfl
theorem rt0v1ob_6 : rune (.s [(10, 1)] 0) (.c 1) 0 (1) (1) 1 5 (.c 9223372036854775805) 1 = true := by kernel_rfl
theorem rt0v1ob_9 : rune (.s [(10, 1)] 0) (.c 1) 0 (1) (1) 1 5 (.c (-9223372036854775805)) 1 = true := by kernel_rfl
theorem rt0v1ob_12 : rune (.s [(10, 1)] 0) (.c 1) 0 (1) (1) 1 5 (.c (-9223372036854775808)) 0 = true := by kernel_rfl
theorem rt0v2oa_2 : rune (.s [(10, 1)] 0) (.c 2) 0 (2) (2) 0 0 (.s [(20, -5), (22, -1)] 0) 0 = true := by kernel_rfl
theorem rt0v2oa_5 : rune (.s [(10, 1)] 0) (.c 2) 0 (2) (2) 0 0 (.s [(20, 5)] 4) 1 = true := by kernel_rfl
theorem rt0v2oa_8 : rune (.s [(10, 1)] 0) (.c 2) 0 (2) (2) 0 0 (.c 9223372036854775807) 1 = true := by kernel_rfl
theorem rt0v2oa_11 : rune (.s [(10, 1)] 0) (.c 2) 0 (2) (2) 0 0 (.c (-9223372036854775807)) 1 = true := by kernel_rfl
theorem rt0v2ob_1 : rune (.s [(10, 1)] 0) (.c 2) 0 (2) (2) 1 5 (.s [(20, 5), (21, 1)] 0) 1 = true := by kernel_rfl
theorem rt0v2ob_4 : rune (.s [(10, 1)] 0) (.c 2) 0 (2) (2) 1 5 (.s [(20, 5)] 4) 0 = true := by kernel_rfl
theorem rt0v2ob_7 : rune (.s [(10, 1)] 0) (.c 2) 0 (2) (2) 1 5 (.c 9223372036854775806) 0 = true := by kernel_rfl
theorem rt0v2ob_10 : rune (.s [(10, 1)] 0) (.c 2) 0 (2) (2) 1 5 (.c (-9223372036854775806)) 0 = true := by kernel_rfl
theorem rt0v3oa_0 : rune (.s [(10, 1)] 0) (.c 3) 0 (3) (3) 0 0 (.s [(20, 5), (21, 1)] 0) 0 = true := by kernel_rfl
theorem rt0v3oa_3 : rune (.s [(10, 1)] 0) (.c 3) 0 (3) (3) 0 0 (.s [(20, -5), (22, -1)] 0) 1 = true := by kernel_rfl
theorem rt0v3oa_6 : rune (.s [(10, 1)] 0) (.c 3) 0 (3) (3) 0 0 (.c 9223372036854775805) 1 = true := by kernel_rfl
theorem rt0v3oa_9 : rune (.s [(10, 1)] 0) (.c 3) 0 (3) (3) 0 0 (.c (-9223372036854775805)) 1 = true := by kernel_rfl
theorem rt0v3oa_12 : rune (.s [(10, 1)] 0) (.c 3) 0 (3) (3) 0 0 (.c (-9223372036854775808)) 0 = true := by kernel_rfl
theorem rt0v3ob_2 : rune (.s [(10, 1)] 0) (.c 3) 0 (3) (3) 1 5 (.s [(20, -5), (22, -1)] 0) 0 = true := by kernel_rfl
theorem rt0v3ob_5 : rune (.s [(10, 1)] 0) (.c 3) 0 (3) (3) 1 5 (.s [(20, 5)] 4) 1 = true := by kernel_rfl
theorem rt0v3ob_8 : rune (.s [(10, 1)] 0) (.c 3) 0 (3) (3) 1 5 (.c 9223372036854775807) 1 = true := by kernel_rfl
theorem rt0v3ob_11 : rune (.s [(10, 1)] 0) (.c 3) 0 (3) (3) 1 5 (.c (-9223372036854775807)) 1 = true := by kernel_rfl
theorem rt0hoo_1 : rune (.s [(10, 1)] 0) (.s [(8, 1)] 0) 0 (4) (9223372036854775807) 0 5 (.s [(20, 5), (21, 1)] 0) 1 = true := by kernel_rfl
theorem rt0hoo_4 : rune (.s [(10, 1)] 0) (.s [(8, 1)] 0) 0 (4) (9223372036854775807) 0 5 (.s [(20, 5)] 4) 0 = true := by kernel_rfl
theorem rt0hoo_7 : rune (.s [(10, 1)] 0) (.s [(8, 1)] 0) 0 (4) (9223372036854775807) 0 5 (.c 9223372036854775806) 0 = true := by kernel_rfl
theorem rt0hoo_10 : rune (.s [(10, 1)] 0) (.s [(8, 1)] 0) 0 (4) (9223372036854775807) 0 5 (.c (-9223372036854775806)) 0 = true := by kernel_rfl
theorem rt1loo_0 : rune (.s [(10, 1)] 0) (.s [(8, 1)] 0) 1 (-9223372036854775808) (0) 0 5 (.s [(20, 5), (21, 1)] 0) 0 = true := by kernel_rfl
theorem rt1loo_3 : rune (.s [(10, 1)] 0) (.s [(8, 1)] 0) 1 (-9223372036854775808) (0) 0 5 (.s [(20, -5), (22, -1)] 0) 1 = true := by kernel_rfl
theorem rt1loo_6 : rune (.s [(10, 1)] 0) (.s [(8, 1)] 0) 1 (-9223372036854775808) (0) 0 5 (.c 9223372036854775805) 1 = true := by kernel_rfl
theorem rt1loo_9 : rune (.s [(10, 1)] 0) (.s [(8, 1)] 0) 1 (-9223372036854775808) (0) 0 5 (.c (-9223372036854775805)) 1 = true := by kernel_rfl
theorem rt1loo_12 : rune (.s [(10, 1)] 0) (.s [(8, 1)] 0) 1 (-9223372036854775808) (0) 0 5 (.c (-9223372036854775808)) 0 = true := by kernel_rfl
theorem rt1v1p0a_2 : rune (.c 0) (.s [(8, 1)] 0) 1 (1) (400) 0 0 (.s [(20, -5), (22, -1)] 0) 0 = true := by kernel_rfl
theorem rt1v1p0a_5 : rune (.c 0) (.s [(8, 1)] 0) 1 (1) (400) 0 0 (.s [(20, 5)] 4) 1 = true := by kernel_rfl
theorem rt1v1p0a_8 : rune (.c 0) (.s [(8, 1)] 0) 1 (1) (400) 0 0 (.c 9223372036854775807) 1 = true := by kernel_rfl
theorem rt1v1p0a_11 : rune (.c 0) (.s [(8, 1)] 0) 1 (1) (400) 0 0 (.c (-9223372036854775807)) 1 = true := by kernel_rfl
theorem rt1v1p0b_1 : rune (.c 0) (.s [(8, 1)] 0) 1 (1) (400) 1 5 (.s [(20, 5), (21, 1)] 0) 1 = true := by kernel_rfl
theorem rt1v1p0b_4 : rune (.c 0) (.s [(8, 1)] 0) 1 (1) (400) 1 5 (.s [(20, 5)] 4) 0 = true := by kernel_rfl
theorem rt1v1p0b_7 : rune (.c 0) (.s [(8, 1)] 0) 1 (1) (400) 1 5 (.c 9223372036854775806) 0 = true := by kernel_rfl
theorem rt1v1p0b_10 : rune (.c 0) (.s [(8, 1)] 0) 1 (1) (400) 1 5 (.c (-9223372036854775806)) 0 = true := by kernel_rfl
theorem rt1v1p1a_0 : rune (.c 1) (.s [(8, 1)] 0) 1 (1) (400) 0 0 (.s [(20, 5), (21, 1)] 0) 0 = true := by kernel_rfl
theorem rt1v1p1a_3 : rune (.c 1) (.s [(8, 1)] 0) 1 (1) (400) 0 0 (.s [(20, -5), (22, -1)] 0) 1 = true := by kernel_rfl
theorem rt1v1p1a_6 : rune (.c 1) (.s [(8, 1)] 0) 1 (1) (400) 0 0 (.c 9223372036854775805) 1 = true := by kernel_rfl
theorem rt1v1p1a_9 : rune (.c 1) (.s [(8, 1)] 0) 1 (1) (400) 0 0 (.c (-9223372036854775805)) 1 = true := by kernel_rfl
theorem rt1v1p1a_12 : rune (.c 1) (.s [(8, 1)] 0) 1 (1) (400) 0 0 (.c (-9223372036854775808)) 0 = true := by kernel_rfl
theorem rt1v1p1b_2 : rune (.c 1) (.s [(8, 1)] 0) 1 (1) (400) 1 5 (.s [(20, -5), (22, -1)] 0) 0 = true := by kernel_rfl
theorem rt1v1p1b_5 : rune (.c 1) (.s [(8, 1)] 0) 1 (1) (400) 1 5 (.s [(20, 5)] 4) 1 = true := by kernel_rfl
theorem rt1v1p1b_8 : rune (.c 1) (.s [(8, 1)] 0) 1 (1) (400) 1 5 (.c 9223372036854775807) 1 = true := by kernel_rfl
theorem rt1v1p1b_11 : rune (.c 1) (.s [(8, 1)] 0) 1 (1) (400) 1 5 (.c (-9223372036854775807)) 1 = true := by kernel_rfl
theorem rt1v1p2a_1 : rune (.c 2) (.s [(8, 1)] 0) 1 (1) (400) 0 0 (.s [(20, 5), (21, 1)] 0) 1 = true := by kernel_rfl
theorem rt1v1p2a_4 : rune (.c 2) (.s [(8, 1)] 0) 1 (1) (400) 0 0 (.s [(20, 5)] 4) 0 = true := by kernel_rfl
theorem rt1v1p2a_7 : rune (.c 2) (.s [(8, 1)] 0) 1 (1) (400) 0 0 (.c 9223372036854775806) 0 = true := by kernel_rfl
theorem rt1v1p2a_10 : rune (.c 2) (.s [(8, 1)] 0) 1 (1) (400) 0 0 (.c (-9223372036854775806)) 0 = true := by kernel_rfl
theorem rt1v1p2b_0 : rune (.c 2) (.s [(8, 1)] 0) 1 (1) (400) 1 5 (.s [(20, 5), (21, 1)] 0) 0 = true := by kernel_rfl
theorem rt1v1p2b_3 : rune (.c 2) (.s [(8, 1)] 0) 1 (1) (400) 1 5 (.s [(20, -5), (22, -1)] 0) 1 = true := by kernel_rfl
theorem rt1v1p2b_6 : rune (.c 2) (.s [(8, 1)] 0) 1 (1) (400) 1 5 (.c 9223372036854775805) 1 = true := by kernel_rfl
theorem rt1v1p2b_9 : rune (.c 2) (.s [(8, 1)] 0) 1 (1) (400) 1 5 (.c (-9223372036854775805)) 1 = true := by kernel_rfl
theorem rt1v1p2b_12 : rune (.c 2) (.s [(8, 1)] 0) 1 (1) (400) 1 5 (.c (-9223372036854775808)) 0 = true := by kernel_rfl
theorem rt1hoo_2 : rune (.s [(10, 1)] 0) (.s [(8, 1)] 0) 1 (401) (9223372036854775807) 0 5 (.s [(20, -5), (22, -1)] 0) 0 = true := by kernel_rfl
theorem rt1hoo_5 : rune (.s [(10, 1)] 0) (.s [(8, 1)] 0) 1 (401) (9223372036854775807) 0 5 (.s [(20, 5)] 4) 1 = true := by kernel_rfl
theorem rt1hoo_8 : rune (.s [(10, 1)] 0) (.s [(8, 1)] 0) 1 (401) (9223372036854775807) 0 5 (.c 9223372036854775807) 1 = true := by kernel_rfl
theorem rt1hoo_11 : rune (.s [(10, 1)] 0) (.s [(8, 1)] 0) 1 (401) (9223372036854775807) 0 5 (.c (-9223372036854775807)) 1 = true := by kernel_rfl
theorem rt2loo_1 : rune (.s [(10, 1)] 0) (.s [(8, 1)] 0) 2 (-9223372036854775808) (0) 0 5 (.s [(20, 5), (21, 1)] 0) 1 = true := by kernel_rfl
theorem rt2loo_4 : rune (.s [(10, 1)] 0) (.s [(8, 1)] 0) 2 (-9223372036854775808) (0) 0 5 (.s [(20, 5)] 4) 0 = true := by kernel_rfl
theorem rt2loo_7 : rune (.s [(10, 1)] 0) (.s [(8, 1)] 0) 2 (-9223372036854775808) (0) 0 5 (.c 9223372036854775806) 0 = true := by kernel_rfl
theorem rt2loo_10 : rune (.s [(10, 1)] 0) (.s [(8, 1)] 0) 2 (-9223372036854775808) (0) 0 5 (.c (-9223372036854775806)) 0 = true := by kernel_rfl
theorem rt2v1p0a_0 : rune (.c 0) (.s [(8, 1)] 0) 2 (1) (400) 0 0 (.s [(20, 5), (21, 1)] 0) 0 = true := by kernel_rfl
theorem rt2v1p0a_3 : rune (.c 0) (.s [(8, 1)] 0) 2 (1) (400) 0 0 (.s [(20, -5), (22, -1)] 0) 1 = true := by kernel_rfl
theorem rt2v1p0a_6 : rune (.c 0) (.s [(8, 1)] 0) 2 (1) (400) 0 0 (.c 9223372036854775805) 1 = true := by kernel_rfl
theorem rt2v1p0a_9 : rune (.c 0) (.s [(8, 1)] 0) 2 (1) (400) 0 0 (.c (-9223372036854775805)) 1 = true := by kernel_rfl
theorem rt2v1p0a_12 : rune (.c 0) (.s [(8, 1)] 0) 2 (1) (400) 0 0 (.c (-9223372036854775808)) 0 = true := by kernel_rfl
theorem rt2v1p0b_2 : rune (.c 0) (.s [(8, 1)] 0) 2 (1) (400) 1 5 (.s [(20, -5), (22, -1)] 0) 0 = true := by kernel_rfl
theorem rt2v1p0b_5 : rune (.c 0) (.s [(8, 1)] 0) 2 (1) (400) 1 5 (.s [(20, 5)] 4) 1 = true := by kernel_rfl
theorem rt2v1p0b_8 : rune (.c 0) (.s [(8, 1)] 0) 2 (1) (400) 1 5 (.c 9223372036854775807) 1 = true := by kernel_rfl
theorem rt2v1p0b_11 : rune (.c 0) (.s [(8, 1)] 0) 2 (1) (400) 1 5 (.c (-9223372036854775807)) 1 = true := by kernel_rfl
theorem rt2v1p1a_1 : rune (.c 1) (.s [(8, 1)] 0) 2 (1) (400) 0 0 (.s [(20, 5), (21, 1)] 0) 1 = true := by kernel_rfl
theorem rt2v1p1a_4 : rune (.c 1) (.s [(8, 1)] 0) 2 (1) (400) 0 0 (.s [(20, 5)] 4) 0 = true := by kernel_rfl
theorem rt2v1p1a_7 : rune (.c 1) (.s [(8, 1)] 0) 2 (1) (400) 0 0 (.c 9223372036854775806) 0 = true := by kernel_rfl
theorem rt2v1p1a_10 : rune (.c 1) (.s [(8, 1)] 0) 2 (1) (400) 0 0 (.c (-9223372036854775806)) 0 = true := by kernel_rfl
theorem rt2v1p1b_0 : rune (.c 1) (.s [(8, 1)] 0) 2 (1) (400) 1 5 (.s [(20, 5), (21, 1)] 0) 0 = true := by kernel_rfl
theorem rt2v1p1b_3 : rune (.c 1) (.s [(8, 1)] 0) 2 (1) (400) 1 5 (.s [(20, -5), (22, -1)] 0) 1 = true := by kernel_rfl
theorem rt2v1p1b_6 : rune (.c 1) (.s [(8, 1)] 0) 2 (1) (400) 1 5 (.c 9223372036854775805) 1 = true := by kernel_rfl
theorem rt2v1p1b_9 : rune (.c 1) (.s [(8, 1)] 0) 2 (1) (400) 1 5 (.c (-9223372036854775805)) 1 = true := by kernel_rfl
theorem rt2v1p1b_12 : rune (.c 1) (.s [(8, 1)] 0) 2 (1) (400) 1 5 (.c (-9223372036854775808)) 0 = true := by kernel_rfl
theorem rt2v1p2a_2 : rune (.c 2) (.s [(8, 1)] 0) 2 (1) (400) 0 0 (.s [(20, -5), (22, -1)] 0) 0 = true := by kernel_rfl
theorem rt2v1p2a_5 : rune (.c 2) (.s [(8, 1)] 0) 2 (1) (400) 0 0 (.s [(20, 5)] 4) 1 = true := by kernel_rfl
theorem rt2v1p2a_8 : rune (.c 2) (.s [(8, 1)] 0) 2 (1) (400) 0 0 (.c 9223372036854775807) 1 = true := by kernel_rfl
theorem rt2v1p2a_11 : rune (.c 2) (.s [(8, 1)] 0) 2 (1) (400) 0 0 (.c (-9223372036854775807)) 1 = true := by kernel_rfl
theorem rt2v1p2b_1 : rune (.c 2) (.s [(8, 1)] 0) 2 (1) (400) 1 5 (.s [(20, 5), (21, 1)] 0) 1 = true := by kernel_rfl
theorem rt2v1p2b_4 : rune (.c 2) (.s [(8, 1)] 0) 2 (1) (400) 1 5 (.s [(20, 5)] 4) 0 = true := by kernel_rfl
theorem rt2v1p2b_7 : rune (.c 2) (.s [(8, 1)] 0) 2 (1) (400) 1 5 (.c 9223372036854775806) 0 = true := by kernel_rfl
theorem rt2v1p2b_10 : rune (.c 2) (.s [(8, 1)] 0) 2 (1) (400) 1 5 (.c (-9223372036854775806)) 0 = true := by kernel_rfl
theorem rt2hoo_0 : rune (.s [(10, 1)] 0) (.s [(8, 1)] 0) 2 (401) (9223372036854775807) 0 5 (.s [(20, 5), (21, 1)] 0) 0 = true := by kernel_rfl
theorem rt2hoo_3 : rune (.s [(10, 1)] 0) (.s [(8, 1)] 0) 2 (401) (9223372036854775807) 0 5 (.s [(20, -5), (22, -1)] 0) 1 = true := by kernel_rfl
theorem rt2hoo_6 : rune (.s [(10, 1)] 0) (.s [(8, 1)] 0) 2 (401) (9223372036854775807) 0 5 (.c 9223372036854775805) 1 = true := by kernel_rfl
theorem rt2hoo_9 : rune (.s [(10, 1)] 0) (.s [(8, 1)] 0) 2 (401) (9223372036854775807) 0 5 (.c (-9223372036854775805)) 1 = true := by kernel_rfl
theorem rt2hoo_12 : rune (.s [(10, 1)] 0) (.s [(8, 1)] 0) 2 (401) (9223372036854775807) 0 5 (.c (-9223372036854775808)) 0 = true := by kernel_rfl
theorem rt3loo_2 : rune (.s [(10, 1)] 0) (.s [(8, 1)] 0) 3 (-9223372036854775808) (0) 0 5 (.s [(20, -5), (22, -1)] 0) 0 = true := by kernel_rfl
theorem rt3loo_5 : rune (.s [(10, 1)] 0) (.s [(8, 1)] 0) 3 (-9223372036854775808) (0) 0 5 (.s [(20, 5)] 4) 1 = true := by kernel_rfl
theorem rt3loo_8 : rune (.s [(10, 1)] 0) (.s [(8, 1)] 0) 3 (-9223372036854775808) (0) 0 5 (.c 9223372036854775807) 1 = true := by kernel_rfl
theorem rt3loo_11 : rune (.s [(10, 1)] 0) (.s [(8, 1)] 0) 3 (-9223372036854775808) (0) 0 5 (.c (-9223372036854775807)) 1 = true := by kernel_rfl
theorem rt3v1p0a_1 : rune (.c 0) (.s [(8, 1)] 0) 3 (1) (64) 0 0 (.s [(20, 5), (21, 1)] 0) 1 = true := by kernel_rfl
theorem rt3v1p0a_4 : rune (.c 0) (.s [(8, 1)] 0) 3 (1) (64) 0 0 (.s [(20, 5)] 4) 0 = true := by kernel_rfl
theorem rt3v1p0a_7 : rune (.c 0) (.s [(8, 1)] 0) 3 (1) (64) 0 0 (.c 9223372036854775806) 0 = true := by kernel_rfl
theorem rt3v1p0a_10 : rune (.c 0) (.s [(8, 1)] 0) 3 (1) (64) 0 0 (.c (-9223372036854775806)) 0 = true := by kernel_rfl
theorem rt3v1p0b_0 : rune (.c 0) (.s [(8, 1)] 0) 3 (1) (64) 1 5 (.s [(20, 5), (21, 1)] 0) 0 = true := by kernel_rfl
theorem rt3v1p0b_3 : rune (.c 0) (.s [(8, 1)] 0) 3 (1) (64) 1 5 (.s [(20, -5), (22, -1)] 0) 1 = true := by kernel_rfl
theorem rt3v1p0b_6 : rune (.c 0) (.s [(8, 1)] 0) 3 (1) (64) 1 5 (.c 9223372036854775805) 1 = true := by kernel_rfl
theorem rt3v1p0b_9 : rune (.c 0) (.s [(8, 1)] 0) 3 (1) (64) 1 5 (.c (-9223372036854775805)) 1 = true := by kernel_rfl
theorem rt3v1p0b_12 : rune (.c 0) (.s [(8, 1)] 0) 3 (1) (64) 1 5 (.c (-9223372036854775808)) 0 = true := by kernel_rfl
theorem rt3v1p1a_2 : rune (.c 1) (.s [(8, 1)] 0) 3 (1) (64) 0 0 (.s [(20, -5), (22, -1)] 0) 0 = true := by kernel_rfl
theorem rt3v1p1a_5 : rune (.c 1) (.s [(8, 1)] 0) 3 (1) (64) 0 0 (.s [(20, 5)] 4) 1 = true := by kernel_rfl
theorem rt3v1p1a_8 : rune (.c 1) (.s [(8, 1)] 0) 3 (1) (64) 0 0 (.c 9223372036854775807) 1 = true := by kernel_rfl
theorem rt3v1p1a_11 : rune (.c 1) (.s [(8, 1)] 0) 3 (1) (64) 0 0 (.c (-9223372036854775807)) 1 = true := by kernel_rfl
theorem rt3v1p1b_1 : rune (.c 1) (.s [(8, 1)] 0) 3 (1) (64) 1 5 (.s [(20, 5), (21, 1)] 0) 1 = true := by kernel_rfl
theorem rt3v1p1b_4 : rune (.c 1) (.s [(8, 1)] 0) 3 (1) (64) 1 5 (.s [(20, 5)] 4) 0 = true := by kernel_rfl
theorem rt3v1p1b_7 : rune (.c 1) (.s [(8, 1)] 0) 3 (1) (64) 1 5 (.c 9223372036854775806) 0 = true := by kernel_rfl
theorem rt3v1p1b_10 : rune (.c 1) (.s [(8, 1)] 0) 3 (1) (64) 1 5 (.c (-9223372036854775806)) 0 = true := by kernel_rfl
theorem rt3v1p2a_0 : rune (.c 2) (.s [(8, 1)] 0) 3 (1) (64) 0 0 (.s [(20, 5), (21, 1)] 0) 0 = true := by kernel_rfl
theorem rt3v1p2a_3 : rune (.c 2) (.s [(8, 1)] 0) 3 (1) (64) 0 0 (.s [(20, -5), (22, -1)] 0) 1 = true := by kernel_rfl
theorem rt3v1p2a_6 : rune (.c 2) (.s [(8, 1)] 0) 3 (1) (64) 0 0 (.c 9223372036854775805) 1 = true := by kernel_rfl
theorem rt3v1p2a_9 : rune (.c 2) (.s [(8, 1)] 0) 3 (1) (64) 0 0 (.c (-9223372036854775805)) 1 = true := by kernel_rfl
theorem rt3v1p2a_12 : rune (.c 2) (.s [(8, 1)] 0) 3 (1) (64) 0 0 (.c (-9223372036854775808)) 0 = true := by kernel_rfl
theorem rt3v1p2b_2 : rune (.c 2) (.s [(8, 1)] 0) 3 (1) (64) 1 5 (.s [(20, -5), (22, -1)] 0) 0 = true := by kernel_rfl
theorem rt3v1p2b_5 : rune (.c 2) (.s [(8, 1)] 0) 3 (1) (64) 1 5 (.s [(20, 5)] 4) 1 = true := by kernel_rfl
theorem rt3v1p2b_8 : rune (.c 2) (.s [(8, 1)] 0) 3 (1) (64) 1 5 (.c 9223372036854775807) 1 = true := by kernel_rfl
theorem rt3v1p2b_11 : rune (.c 2) (.s [(8, 1)] 0) 3 (1) (64) 1 5 (.c (-9223372036854775807)) 1 = true := by kernel_rfl
theorem rt3hoo_1 : rune (.s [(10, 1)] 0) (.s [(8, 1)] 0) 3 (65) (9223372036854775807) 0 5 (.s [(20, 5), (21, 1)] 0) 1 = true := by kernel_rfl
theorem rt3hoo_4 : rune (.s [(10, 1)] 0) (.s [(8, 1)] 0) 3 (65) (9223372036854775807) 0 5 (.s [(20, 5)] 4) 0 = true := by kernel_rfl
theorem rt3hoo_7 : rune (.s [(10, 1)] 0) (.s [(8, 1)] 0) 3 (65) (9223372036854775807) 0 5 (.c 9223372036854775806) 0 = true := by kernel_rfl
theorem rt3hoo_10 : rune (.s [(10, 1)] 0) (.s [(8, 1)] 0) 3 (65) (9223372036854775807) 0 5 (.c (-9223372036854775806)) 0 = true := by kernel_rfl
theorem rt4loo_0 : rune (.s [(10, 1)] 0) (.s [(8, 1)] 0) 4 (-9223372036854775808) (0) 0 5 (.s [(20, 5), (21, 1)] 0) 0 = true := by kernel_rfl
theorem rt4loo_3 : rune (.s [(10, 1)] 0) (.s [(8, 1)] 0) 4 (-9223372036854775808) (0) 0 5 (.s [(20, -5), (22, -1)] 0) 1 = true := by kernel_rfl
theorem rt4loo_6 : rune (.s [(10, 1)] 0) (.s [(8, 1)] 0) 4 (-9223372036854775808) (0) 0 5 (.c 9223372036854775805) 1 = true := by kernel_rfl
theorem rt4loo_9 : rune (.s [(10, 1)] 0) (.s [(8, 1)] 0) 4 (-9223372036854775808) (0) 0 5 (.c (-9223372036854775805)) 1 = true := by kernel_rfl
theorem rt4loo_12 : rune (.s [(10, 1)] 0) (.s [(8, 1)] 0) 4 (-9223372036854775808) (0) 0 5 (.c (-9223372036854775808)) 0 = true := by kernel_rfl
theorem rt4v1p0o_2 : rune (.c 0) (.s [(8, 1)] 0) 4 (1) (1) 0 5 (.s [(20, -5), (22, -1)] 0) 0 = true := by kernel_rfl
theorem rt4v1p0o_5 : rune (.c 0) (.s [(8, 1)] 0) 4 (1) (1) 0 5 (.s [(20, 5)] 4) 1 = true := by kernel_rfl
theorem rt4v1p0o_8 : rune (.c 0) (.s [(8, 1)] 0) 4 (1) (1) 0 5 (.c 9223372036854775807) 1 = true := by kernel_rfl
theorem rt4v1p0o_11 : rune (.c 0) (.s [(8, 1)] 0) 4 (1) (1) 0 5 (.c (-9223372036854775807)) 1 = true := by kernel_rfl
theorem rt4v1p1o_1 : rune (.c 1) (.s [(8, 1)] 0) 4 (1) (1) 0 5 (.s [(20, 5), (21, 1)] 0) 1 = true := by kernel_rfl
theorem rt4v1p1o_4 : rune (.c 1) (.s [(8, 1)] 0) 4 (1) (1) 0 5 (.s [(20, 5)] 4) 0 = true := by kernel_rfl
theorem rt4v1p1o_7 : rune (.c 1) (.s [(8, 1)] 0) 4 (1) (1) 0 5 (.c 9223372036854775806) 0 = true := by kernel_rfl
theorem rt4v1p1o_10 : rune (.c 1) (.s [(8, 1)] 0) 4 (1) (1) 0 5 (.c (-9223372036854775806)) 0 = true := by kernel_rfl
theorem rt4v1p2o_0 : rune (.c 2) (.s [(8, 1)] 0) 4 (1) (1) 0 5 (.s [(20, 5), (21, 1)] 0) 0 = true := by kernel_rfl
theorem rt4v1p2o_3 : rune (.c 2) (.s [(8, 1)] 0) 4 (1) (1) 0 5 (.s [(20, -5), (22, -1)] 0) 1 = true := by kernel_rfl
theorem rt4v1p2o_6 : rune (.c 2) (.s [(8, 1)] 0) 4 (1) (1) 0 5 (.c 9223372036854775805) 1 = true := by kernel_rfl
theorem rt4v1p2o_9 : rune (.c 2) (.s [(8, 1)] 0) 4 (1) (1) 0 5 (.c (-9223372036854775805)) 1 = true := by kernel_rfl
theorem rt4v1p2o_12 : rune (.c 2) (.s [(8, 1)] 0) 4 (1) (1) 0 5 (.c (-9223372036854775808)) 0 = true := by kernel_rfl
theorem rt4v2p0o_2 : rune (.c 0) (.s [(8, 1)] 0) 4 (2) (16) 0 5 (.s [(20, -5), (22, -1)] 0) 0 = true := by kernel_rfl
theorem rt4v2p0o_5 : rune (.c 0) (.s [(8, 1)] 0) 4 (2) (16) 0 5 (.s [(20, 5)] 4) 1 = true := by kernel_rfl
theorem rt4v2p0o_8 : rune (.c 0) (.s [(8, 1)] 0) 4 (2) (16) 0 5 (.c 9223372036854775807) 1 = true := by kernel_rfl
theorem rt4v2p0o_11 : rune (.c 0) (.s [(8, 1)] 0) 4 (2) (16) 0 5 (.c (-9223372036854775807)) 1 = true := by kernel_rfl
theorem rt4v2p1o_1 : rune (.c 1) (.s [(8, 1)] 0) 4 (2) (16) 0 5 (.s [(20, 5), (21, 1)] 0) 1 = true := by kernel_rfl
theorem rt4v2p1o_4 : rune (.c 1) (.s [(8, 1)] 0) 4 (2) (16) 0 5 (.s [(20, 5)] 4) 0 = true := by kernel_rfl
theorem rt4v2p1o_7 : rune (.c 1) (.s [(8, 1)] 0) 4 (2) (16) 0 5 (.c 9223372036854775806) 0 = true := by kernel_rfl
theorem rt4v2p1o_10 : rune (.c 1) (.s [(8, 1)] 0) 4 (2) (16) 0 5 (.c (-9223372036854775806)) 0 = true := by kernel_rfl
theorem rt4v2p2o_0 : rune (.c 2) (.s [(8, 1)] 0) 4 (2) (16) 0 5 (.s [(20, 5), (21, 1)] 0) 0 = true := by kernel_rfl
theorem rt4v2p2o_3 : rune (.c 2) (.s [(8, 1)] 0) 4 (2) (16) 0 5 (.s [(20, -5), (22, -1)] 0) 1 = true := by kernel_rfl
theorem rt4v2p2o_6 : rune (.c 2) (.s [(8, 1)] 0) 4 (2) (16) 0 5 (.c 9223372036854775805) 1 = true := by kernel_rfl
theorem rt4v2p2o_9 : rune (.c 2) (.s [(8, 1)] 0) 4 (2) (16) 0 5 (.c (-9223372036854775805)) 1 = true := by kernel_rfl
theorem rt4v2p2o_12 : rune (.c 2) (.s [(8, 1)] 0) 4 (2) (16) 0 5 (.c (-9223372036854775808)) 0 = true := by kernel_rfl
theorem rt4hoo_2 : rune (.s [(10, 1)] 0) (.s [(8, 1)] 0) 4 (17) (9223372036854775807) 0 5 (.s [(20, -5), (22, -1)] 0) 0 = true := by kernel_rfl
theorem rt4hoo_5 : rune (.s [(10, 1)] 0) (.s [(8, 1)] 0) 4 (17) (9223372036854775807) 0 5 (.s [(20, 5)] 4) 1 = true := by kernel_rfl
theorem rt4hoo_8 : rune (.s [(10, 1)] 0) (.s [(8, 1)] 0) 4 (17) (9223372036854775807) 0 5 (.c 9223372036854775807) 1 = true := by kernel_rfl
theorem rt4hoo_11 : rune (.s [(10, 1)] 0) (.s [(8, 1)] 0) 4 (17) (9223372036854775807) 0 5 (.c (-9223372036854775807)) 1 = true := by kernel_rfl
theorem rt5loo_1 : rune (.s [(10, 1)] 0) (.s [(8, 1)] 0) 5 (-9223372036854775808) (0) 0 5 (.s [(20, 5), (21, 1)] 0) 1 = true := by kernel_rfl
theorem rt5loo_4 : rune (.s [(10, 1)] 0) (.s [(8, 1)] 0) 5 (-9223372036854775808) (0) 0 5 (.s [(20, 5)] 4) 0 = true := by kernel_rfl
theorem rt5loo_7 : rune (.s [(10, 1)] 0) (.s [(8, 1)] 0) 5 (-9223372036854775808) (0) 0 5 (.c 9223372036854775806) 0 = true := by kernel_rfl
theorem rt5loo_10 : rune (.s [(10, 1)] 0) (.s [(8, 1)] 0) 5 (-9223372036854775808) (0) 0 5 (.c (-9223372036854775806)) 0 = true := by kernel_rfl
theorem rt5v1p0a_0 : rune (.c 0) (.s [(8, 1)] 0) 5 (1) (64) 0 0 (.s [(20, 5), (21, 1)] 0) 0 = true := by kernel_rfl
theorem rt5v1p0a_3 : rune (.c 0) (.s [(8, 1)] 0) 5 (1) (64) 0 0 (.s [(20, -5), (22, -1)] 0) 1 = true := by kernel_rfl
theorem rt5v1p0a_6 : rune (.c 0) (.s [(8, 1)] 0) 5 (1) (64) 0 0 (.c 9223372036854775805) 1 = true := by kernel_rfl
theorem rt5v1p0a_9 : rune (.c 0) (.s [(8, 1)] 0) 5 (1) (64) 0 0 (.c (-9223372036854775805)) 1 = true := by kernel_rfl
theorem rt5v1p0a_12 : rune (.c 0) (.s [(8, 1)] 0) 5 (1) (64) 0 0 (.c (-9223372036854775808)) 0 = true := by kernel_rfl
theorem rt5v1p0b_2 : rune (.c 0) (.s [(8, 1)] 0) 5 (1) (64) 1 5 (.s [(20, -5), (22, -1)] 0) 0 = true := by kernel_rfl
theorem rt5v1p0b_5 : rune (.c 0) (.s [(8, 1)] 0) 5 (1) (64) 1 5 (.s [(20, 5)] 4) 1 = true := by kernel_rfl
theorem rt5v1p0b_8 : rune (.c 0) (.s [(8, 1)] 0) 5 (1) (64) 1 5 (.c 9223372036854775807) 1 = true := by kernel_rfl
theorem rt5v1p0b_11 : rune (.c 0) (.s [(8, 1)] 0) 5 (1) (64) 1 5 (.c (-9223372036854775807)) 1 = true := by kernel_rfl
theorem rt5v1p1a_1 : rune (.c 1) (.s [(8, 1)] 0) 5 (1) (64) 0 0 (.s [(20, 5), (21, 1)] 0) 1 = true := by kernel_rfl
theorem rt5v1p1a_4 : rune (.c 1) (.s [(8, 1)] 0) 5 (1) (64) 0 0 (.s [(20, 5)] 4) 0 = true := by kernel_rfl
theorem rt5v1p1a_7 : rune (.c 1) (.s [(8, 1)] 0) 5 (1) (64) 0 0 (.c 9223372036854775806) 0 = true := by kernel_rfl
theorem rt5v1p1a_10 : rune (.c 1) (.s [(8, 1)] 0) 5 (1) (64) 0 0 (.c (-9223372036854775806)) 0 = true := by kernel_rfl
theorem rt5v1p1b_0 : rune (.c 1) (.s [(8, 1)] 0) 5 (1) (64) 1 5 (.s [(20, 5), (21, 1)] 0) 0 = true := by kernel_rfl
theorem rt5v1p1b_3 : rune (.c 1) (.s [(8, 1)] 0) 5 (1) (64) 1 5 (.s [(20, -5), (22, -1)] 0) 1 = true := by kernel_rfl
theorem rt5v1p1b_6 : rune (.c 1) (.s [(8, 1)] 0) 5 (1) (64) 1 5 (.c 9223372036854775805) 1 = true := by kernel_rfl
theorem rt5v1p1b_9 : rune (.c 1) (.s [(8, 1)] 0) 5 (1) (64) 1 5 (.c (-9223372036854775805)) 1 = true := by kernel_rfl
theorem rt5v1p1b_12 : rune (.c 1) (.s [(8, 1)] 0) 5 (1) (64) 1 5 (.c (-9223372036854775808)) 0 = true := by kernel_rfl
theorem rt5v1p2a_2 : rune (.c 2) (.s [(8, 1)] 0) 5 (1) (64) 0 0 (.s [(20, -5), (22, -1)] 0) 0 = true := by kernel_rfl
theorem rt5v1p2a_5 : rune (.c 2) (.s [(8, 1)] 0) 5 (1) (64) 0 0 (.s [(20, 5)] 4) 1 = true := by kernel_rfl
theorem rt5v1p2a_8 : rune (.c 2) (.s [(8, 1)] 0) 5 (1) (64) 0 0 (.c 9223372036854775807) 1 = true := by kernel_rfl
theorem rt5v1p2a_11 : rune (.c 2) (.s [(8, 1)] 0) 5 (1) (64) 0 0 (.c (-9223372036854775807)) 1 = true := by kernel_rfl
theorem rt5v1p2b_1 : rune (.c 2) (.s [(8, 1)] 0) 5 (1) (64) 1 5 (.s [(20, 5), (21, 1)] 0) 1 = true := by kernel_rfl
theorem rt5v1p2b_4 : rune (.c 2) (.s [(8, 1)] 0) 5 (1) (64) 1 5 (.s [(20, 5)] 4) 0 = true := by kernel_rfl
theorem rt5v1p2b_7 : rune (.c 2) (.s [(8, 1)] 0) 5 (1) (64) 1 5 (.c 9223372036854775806) 0 = true := by kernel_rfl
theorem rt5v1p2b_10 : rune (.c 2) (.s [(8, 1)] 0) 5 (1) (64) 1 5 (.c (-9223372036854775806)) 0 = true := by kernel_rfl
theorem rt5hoo_0 : rune (.s [(10, 1)] 0) (.s [(8, 1)] 0) 5 (65) (9223372036854775807) 0 5 (.s [(20, 5), (21, 1)] 0) 0 = true := by kernel_rfl
theorem rt5hoo_3 : rune (.s [(10, 1)] 0) (.s [(8, 1)] 0) 5 (65) (9223372036854775807) 0 5 (.s [(20, -5), (22, -1)] 0) 1 = true := by kernel_rfl
theorem rt5hoo_6 : rune (.s [(10, 1)] 0) (.s [(8, 1)] 0) 5 (65) (9223372036854775807) 0 5 (.c 9223372036854775805) 1 = true := by kernel_rfl
theorem rt5hoo_9 : rune (.s [(10, 1)] 0) (.s [(8, 1)] 0) 5 (65) (9223372036854775807) 0 5 (.c (-9223372036854775805)) 1 = true := by kernel_rfl
theorem rt5hoo_12 : rune (.s [(10, 1)] 0) (.s [(8, 1)] 0) 5 (65) (9223372036854775807) 0 5 (.c (-9223372036854775808)) 0 = true := by kernel_rfl
theorem rt6loo_2 : rune (.s [(10, 1)] 0) (.s [(8, 1)] 0) 6 (-9223372036854775808) (0) 0 5 (.s [(20, -5), (22, -1)] 0) 0 = true := by kernel_rfl
theorem rt6loo_5 : rune (.s [(10, 1)] 0) (.s [(8, 1)] 0) 6 (-9223372036854775808) (0) 0 5 (.s [(20, 5)] 4) 1 = true := by kernel_rfl
theorem rt6loo_8 : rune (.s [(10, 1)] 0) (.s [(8, 1)] 0) 6 (-9223372036854775808) (0) 0 5 (.c 9223372036854775807) 1 = true := by kernel_rfl
theorem rt6loo_11 : rune (.s [(10, 1)] 0) (.s [(8, 1)] 0) 6 (-9223372036854775808) (0) 0 5 (.c (-9223372036854775807)) 1 = true := by kernel_rfl
theorem rt6v1p0a_1 : rune (.c 0) (.s [(8, 1)] 0) 6 (1) (3) 0 0 (.s [(20, 5), (21, 1)] 0) 1 = true := by kernel_rfl
theorem rt6v1p0a_4 : rune (.c 0) (.s [(8, 1)] 0) 6 (1) (3) 0 0 (.s [(20, 5)] 4) 0 = true := by kernel_rfl
theorem rt6v1p0a_7 : rune (.c 0) (.s [(8, 1)] 0) 6 (1) (3) 0 0 (.c 9223372036854775806) 0 = true := by kernel_rfl
theorem rt6v1p0a_10 : rune (.c 0) (.s [(8, 1)] 0) 6 (1) (3) 0 0 (.c (-9223372036854775806)) 0 = true := by kernel_rfl
theorem rt6v1p0b_0 : rune (.c 0) (.s [(8, 1)] 0) 6 (1) (3) 1 5 (.s [(20, 5), (21, 1)] 0) 0 = true := by kernel_rfl
theorem rt6v1p0b_3 : rune (.c 0) (.s [(8, 1)] 0) 6 (1) (3) 1 5 (.s [(20, -5), (22, -1)] 0) 1 = true := by kernel_rfl
theorem rt6v1p0b_6 : rune (.c 0) (.s [(8, 1)] 0) 6 (1) (3) 1 5 (.c 9223372036854775805) 1 = true := by kernel_rfl
theorem rt6v1p0b_9 : rune (.c 0) (.s [(8, 1)] 0) 6 (1) (3) 1 5 (.c (-9223372036854775805)) 1 = true := by kernel_rfl
theorem rt6v1p0b_12 : rune (.c 0) (.s [(8, 1)] 0) 6 (1) (3) 1 5 (.c (-9223372036854775808)) 0 = true := by kernel_rfl
theorem rt6v1p1a_2 : rune (.c 1) (.s [(8, 1)] 0) 6 (1) (3) 0 0 (.s [(20, -5), (22, -1)] 0) 0 = true := by kernel_rfl
theorem rt6v1p1a_5 : rune (.c 1) (.s [(8, 1)] 0) 6 (1) (3) 0 0 (.s [(20, 5)] 4) 1 = true := by kernel_rfl
theorem rt6v1p1a_8 : rune (.c 1) (.s [(8, 1)] 0) 6 (1) (3) 0 0 (.c 9223372036854775807) 1 = true := by kernel_rfl
theorem rt6v1p1a_11 : rune (.c 1) (.s [(8, 1)] 0) 6 (1) (3) 0 0 (.c (-9223372036854775807)) 1 = true := by kernel_rfl
theorem rt6v1p1b_1 : rune (.c 1) (.s [(8, 1)] 0) 6 (1) (3) 1 5 (.s [(20, 5), (21, 1)] 0) 1 = true := by kernel_rfl
theorem rt6v1p1b_4 : rune (.c 1) (.s [(8, 1)] 0) 6 (1) (3) 1 5 (.s [(20, 5)] 4) 0 = true := by kernel_rfl
theorem rt6v1p1b_7 : rune (.c 1) (.s [(8, 1)] 0) 6 (1) (3) 1 5 (.c 9223372036854775806) 0 = true := by kernel_rfl
theorem rt6v1p1b_10 : rune (.c 1) (.s [(8, 1)] 0) 6 (1) (3) 1 5 (.c (-9223372036854775806)) 0 = true := by kernel_rfl
theorem rt6v1p2a_0 : rune (.c 2) (.s [(8, 1)] 0) 6 (1) (3) 0 0 (.s [(20, 5), (21, 1)] 0) 0 = true := by kernel_rfl
theorem rt6v1p2a_3 : rune (.c 2) (.s [(8, 1)] 0) 6 (1) (3) 0 0 (.s [(20, -5), (22, -1)] 0) 1 = true := by kernel_rfl
theorem rt6v1p2a_6 : rune (.c 2) (.s [(8, 1)] 0) 6 (1) (3) 0 0 (.c 9223372036854775805) 1 = true := by kernel_rfl
theorem rt6v1p2a_9 : rune (.c 2) (.s [(8, 1)] 0) 6 (1) (3) 0 0 (.c (-9223372036854775805)) 1 = true := by kernel_rfl
theorem rt6v1p2a_12 : rune (.c 2) (.s [(8, 1)] 0) 6 (1) (3) 0 0 (.c (-9223372036854775808)) 0 = true := by kernel_rfl
theorem rt6v1p2b_2 : rune (.c 2) (.s [(8, 1)] 0) 6 (1) (3) 1 5 (.s [(20, -5), (22, -1)] 0) 0 = true := by kernel_rfl
theorem rt6v1p2b_5 : rune (.c 2) (.s [(8, 1)] 0) 6 (1) (3) 1 5 (.s [(20, 5)] 4) 1 = true := by kernel_rfl
theorem rt6v1p2b_8 : rune (.c 2) (.s [(8, 1)] 0) 6 (1) (3) 1 5 (.c 9223372036854775807) 1 = true := by kernel_rfl
theorem rt6v1p2b_11 : rune (.c 2) (.s [(8, 1)] 0) 6 (1) (3) 1 5 (.c (-9223372036854775807)) 1 = true := by kernel_rfl
theorem rt6hoo_1 : rune (.s [(10, 1)] 0) (.s [(8, 1)] 0) 6 (4) (9223372036854775807) 0 5 (.s [(20, 5), (21, 1)] 0) 1 = true := by kernel_rfl
theorem rt6hoo_4 : rune (.s [(10, 1)] 0) (.s [(8, 1)] 0) 6 (4) (9223372036854775807) 0 5 (.s [(20, 5)] 4) 0 = true := by kernel_rfl
theorem rt6hoo_7 : rune (.s [(10, 1)] 0) (.s [(8, 1)] 0) 6 (4) (9223372036854775807) 0 5 (.c 9223372036854775806) 0 = true := by kernel_rfl
theorem rt6hoo_10 : rune (.s [(10, 1)] 0) (.s [(8, 1)] 0) 6 (4) (9223372036854775807) 0 5 (.c (-9223372036854775806)) 0 = true := by kernel_rfl
theorem rt7xp0a_0 : rune (.c 0) (.s [(8, 1)] 0) 7 (-9223372036854775808) (9223372036854775807) 0 0 (.s [(20, 5), (21, 1)] 0) 0 = true := by kernel_rfl
theorem rt7xp0a_3 : rune (.c 0) (.s [(8, 1)] 0) 7 (-9223372036854775808) (9223372036854775807) 0 0 (.s [(20, -5), (22, -1)] 0) 1 = true := by kernel_rfl
theorem rt7xp0a_6 : rune (.c 0) (.s [(8, 1)] 0) 7 (-9223372036854775808) (9223372036854775807) 0 0 (.c 9223372036854775805) 1 = true := by kernel_rfl
theorem rt7xp0a_9 : rune (.c 0) (.s [(8, 1)] 0) 7 (-9223372036854775808) (9223372036854775807) 0 0 (.c (-9223372036854775805)) 1 = true := by kernel_rfl
theorem rt7xp0a_12 : rune (.c 0) (.s [(8, 1)] 0) 7 (-9223372036854775808) (9223372036854775807) 0 0 (.c (-9223372036854775808)) 0 = true := by kernel_rfl
theorem rt7xp0b_2 : rune (.c 0) (.s [(8, 1)] 0) 7 (-9223372036854775808) (9223372036854775807) 1 5 (.s [(20, -5), (22, -1)] 0) 0 = true := by kernel_rfl
theorem rt7xp0b_5 : rune (.c 0) (.s [(8, 1)] 0) 7 (-9223372036854775808) (9223372036854775807) 1 5 (.s [(20, 5)] 4) 1 = true := by kernel_rfl
theorem rt7xp0b_8 : rune (.c 0) (.s [(8, 1)] 0) 7 (-9223372036854775808) (9223372036854775807) 1 5 (.c 9223372036854775807) 1 = true := by kernel_rfl
theorem rt7xp0b_11 : rune (.c 0) (.s [(8, 1)] 0) 7 (-9223372036854775808) (9223372036854775807) 1 5 (.c (-9223372036854775807)) 1 = true := by kernel_rfl
theorem rt7xp1a_1 : rune (.c 1) (.s [(8, 1)] 0) 7 (-9223372036854775808) (9223372036854775807) 0 0 (.s [(20, 5), (21, 1)] 0) 1 = true := by kernel_rfl
theorem rt7xp1a_4 : rune (.c 1) (.s [(8, 1)] 0) 7 (-9223372036854775808) (9223372036854775807) 0 0 (.s [(20, 5)] 4) 0 = true := by kernel_rfl
theorem rt7xp1a_7 : rune (.c 1) (.s [(8, 1)] 0) 7 (-9223372036854775808) (9223372036854775807) 0 0 (.c 9223372036854775806) 0 = true := by kernel_rfl
theorem rt7xp1a_10 : rune (.c 1) (.s [(8, 1)] 0) 7 (-9223372036854775808) (9223372036854775807) 0 0 (.c (-9223372036854775806)) 0 = true := by kernel_rfl
theorem rt7xp1b_0 : rune (.c 1) (.s [(8, 1)] 0) 7 (-9223372036854775808) (9223372036854775807) 1 5 (.s [(20, 5), (21, 1)] 0) 0 = true := by kernel_rfl
theorem rt7xp1b_3 : rune (.c 1) (.s [(8, 1)] 0) 7 (-9223372036854775808) (9223372036854775807) 1 5 (.s [(20, -5), (22, -1)] 0) 1 = true := by kernel_rfl
theorem rt7xp1b_6 : rune (.c 1) (.s [(8, 1)] 0) 7 (-9223372036854775808) (9223372036854775807) 1 5 (.c 9223372036854775805) 1 = true := by kernel_rfl
theorem rt7xp1b_9 : rune (.c 1) (.s [(8, 1)] 0) 7 (-9223372036854775808) (9223372036854775807) 1 5 (.c (-9223372036854775805)) 1 = true := by kernel_rfl
theorem rt7xp1b_12 : rune (.c 1) (.s [(8, 1)] 0) 7 (-9223372036854775808) (9223372036854775807) 1 5 (.c (-9223372036854775808)) 0 = true := by kernel_rfl
theorem rt7xp2a_2 : rune (.c 2) (.s [(8, 1)] 0) 7 (-9223372036854775808) (9223372036854775807) 0 0 (.s [(20, -5), (22, -1)] 0) 0 = true := by kernel_rfl
theorem rt7xp2a_5 : rune (.c 2) (.s [(8, 1)] 0) 7 (-9223372036854775808) (9223372036854775807) 0 0 (.s [(20, 5)] 4) 1 = true := by kernel_rfl
theorem rt7xp2a_8 : rune (.c 2) (.s [(8, 1)] 0) 7 (-9223372036854775808) (9223372036854775807) 0 0 (.c 9223372036854775807) 1 = true := by kernel_rfl
theorem rt7xp2a_11 : rune (.c 2) (.s [(8, 1)] 0) 7 (-9223372036854775808) (9223372036854775807) 0 0 (.c (-9223372036854775807)) 1 = true := by kernel_rfl
theorem rt7xp2b_1 : rune (.c 2) (.s [(8, 1)] 0) 7 (-9223372036854775808) (9223372036854775807) 1 5 (.s [(20, 5), (21, 1)] 0) 1 = true := by kernel_rfl
theorem rt7xp2b_4 : rune (.c 2) (.s [(8, 1)] 0) 7 (-9223372036854775808) (9223372036854775807) 1 5 (.s [(20, 5)] 4) 0 = true := by kernel_rfl
theorem rt7xp2b_7 : rune (.c 2) (.s [(8, 1)] 0) 7 (-9223372036854775808) (9223372036854775807) 1 5 (.c 9223372036854775806) 0 = true := by kernel_rfl
theorem rt7xp2b_10 : rune (.c 2) (.s [(8, 1)] 0) 7 (-9223372036854775808) (9223372036854775807) 1 5 (.c (-9223372036854775806)) 0 = true := by kernel_rfl
theorem rt8xp0a_0 : rune (.c 0) (.s [(8, 1)] 0) 8 (-9223372036854775808) (9223372036854775807) 0 0 (.s [(20, 5), (21, 1)] 0) 0 = true := by kernel_rfl
theorem rt8xp0a_3 : rune (.c 0) (.s [(8, 1)] 0) 8 (-9223372036854775808) (9223372036854775807) 0 0 (.s [(20, -5), (22, -1)] 0) 1 = true := by kernel_rfl
theorem rt8xp0a_6 : rune (.c 0) (.s [(8, 1)] 0) 8 (-9223372036854775808) (9223372036854775807) 0 0 (.c 9223372036854775805) 1 = true := by kernel_rfl
theorem rt8xp0a_9 : rune (.c 0) (.s [(8, 1)] 0) 8 (-9223372036854775808) (9223372036854775807) 0 0 (.c (-9223372036854775805)) 1 = true := by kernel_rfl
theorem rt8xp0a_12 : rune (.c 0) (.s [(8, 1)] 0) 8 (-9223372036854775808) (9223372036854775807) 0 0 (.c (-9223372036854775808)) 0 = true := by kernel_rfl
theorem rt8xp0b_2 : rune (.c 0) (.s [(8, 1)] 0) 8 (-9223372036854775808) (9223372036854775807) 1 5 (.s [(20, -5), (22, -1)] 0) 0 = true := by kernel_rfl
theorem rt8xp0b_5 : rune (.c 0) (.s [(8, 1)] 0) 8 (-9223372036854775808) (9223372036854775807) 1 5 (.s [(20, 5)] 4) 1 = true := by kernel_rfl
theorem rt8xp0b_8 : rune (.c 0) (.s [(8, 1)] 0) 8 (-9223372036854775808) (9223372036854775807) 1 5 (.c 9223372036854775807) 1 = true := by kernel_rfl
theorem rt8xp0b_11 : rune (.c 0) (.s [(8, 1)] 0) 8 (-9223372036854775808) (9223372036854775807) 1 5 (.c (-9223372036854775807)) 1 = true := by kernel_rfl
theorem rt8xp1a_1 : rune (.c 1) (.s [(8, 1)] 0) 8 (-9223372036854775808) (9223372036854775807) 0 0 (.s [(20, 5), (21, 1)] 0) 1 = true := by kernel_rfl
theorem rt8xp1a_4 : rune (.c 1) (.s [(8, 1)] 0) 8 (-9223372036854775808) (9223372036854775807) 0 0 (.s [(20, 5)] 4) 0 = true := by kernel_rfl
theorem rt8xp1a_7 : rune (.c 1) (.s [(8, 1)] 0) 8 (-9223372036854775808) (9223372036854775807) 0 0 (.c 9223372036854775806) 0 = true := by kernel_rfl
theorem rt8xp1a_10 : rune (.c 1) (.s [(8, 1)] 0) 8 (-9223372036854775808) (9223372036854775807) 0 0 (.c (-9223372036854775806)) 0 = true := by kernel_rfl
theorem rt8xp1b_0 : rune (.c 1) (.s [(8, 1)] 0) 8 (-9223372036854775808) (9223372036854775807) 1 5 (.s [(20, 5), (21, 1)] 0) 0 = true := by kernel_rfl
theorem rt8xp1b_3 : rune (.c 1) (.s [(8, 1)] 0) 8 (-9223372036854775808) (9223372036854775807) 1 5 (.s [(20, -5), (22, -1)] 0) 1 = true := by kernel_rfl
theorem rt8xp1b_6 : rune (.c 1) (.s [(8, 1)] 0) 8 (-9223372036854775808) (9223372036854775807) 1 5 (.c 9223372036854775805) 1 = true := by kernel_rfl
theorem rt8xp1b_9 : rune (.c 1) (.s [(8, 1)] 0) 8 (-9223372036854775808) (9223372036854775807) 1 5 (.c (-9223372036854775805)) 1 = true := by kernel_rfl
theorem rt8xp1b_12 : rune (.c 1) (.s [(8, 1)] 0) 8 (-9223372036854775808) (9223372036854775807) 1 5 (.c (-9223372036854775808)) 0 = true := by kernel_rfl
theorem rt8xp2a_2 : rune (.c 2) (.s [(8, 1)] 0) 8 (-9223372036854775808) (9223372036854775807) 0 0 (.s [(20, -5), (22, -1)] 0) 0 = true := by kernel_rfl
theorem rt8xp2a_5 : rune (.c 2) (.s [(8, 1)] 0) 8 (-9223372036854775808) (9223372036854775807) 0 0 (.s [(20, 5)] 4) 1 = true := by kernel_rfl
theorem rt8xp2a_8 : rune (.c 2) (.s [(8, 1)] 0) 8 (-9223372036854775808) (9223372036854775807) 0 0 (.c 9223372036854775807) 1 = true := by kernel_rfl
theorem rt8xp2a_11 : rune (.c 2) (.s [(8, 1)] 0) 8 (-9223372036854775808) (9223372036854775807) 0 0 (.c (-9223372036854775807)) 1 = true := by kernel_rfl
theorem rt8xp2b_1 : rune (.c 2) (.s [(8, 1)] 0) 8 (-9223372036854775808) (9223372036854775807) 1 5 (.s [(20, 5), (21, 1)] 0) 1 = true := by kernel_rfl
theorem rt8xp2b_4 : rune (.c 2) (.s [(8, 1)] 0) 8 (-9223372036854775808) (9223372036854775807) 1 5 (.s [(20, 5)] 4) 0 = true := by kernel_rfl
theorem rt8xp2b_7 : rune (.c 2) (.s [(8, 1)] 0) 8 (-9223372036854775808) (9223372036854775807) 1 5 (.c 9223372036854775806) 0 = true := by kernel_rfl
theorem rt8xp2b_10 : rune (.c 2) (.s [(8, 1)] 0) 8 (-9223372036854775808) (9223372036854775807) 1 5 (.c (-9223372036854775806)) 0 = true := by kernel_rfl
end Go.Proofs.Ytkibmjcooffglaa.endChecksRun
