/- The runs of the law EndChecks, together. -/
import Derived.Test.YtkibmjcooffglaaEndChecksRun0
import Derived.Test.YtkibmjcooffglaaEndChecksRun1
import Derived.Test.YtkibmjcooffglaaEndChecksRun2
namespace Go.Proofs.Ytkibmjcooffglaa.endChecksRun
open Go.Vm Go.RowKit
set_option linter.unusedVariables false
set_option linter.unusedSimpArgs false
set_option maxRecDepth 1000000
/-- how a side is written, and what is left of it by 2 -/
def Side (SA : AI) (b : Nat) : Prop := (SA = .s [(20, 5), (21, 1)] 0 ∧ b = 0) ∨ (SA = .s [(20, 5), (21, 1)] 0 ∧ b = 1) ∨ (SA = .s [(20, -5), (22, -1)] 0 ∧ b = 0) ∨ (SA = .s [(20, -5), (22, -1)] 0 ∧ b = 1) ∨ (SA = .s [(20, 5)] 4 ∧ b = 0) ∨ (SA = .s [(20, 5)] 4 ∧ b = 1) ∨ (SA = .c 9223372036854775805 ∧ b = 1) ∨ (SA = .c 9223372036854775806 ∧ b = 0) ∨ (SA = .c 9223372036854775807 ∧ b = 1) ∨ (SA = .c (-9223372036854775805) ∧ b = 1) ∨ (SA = .c (-9223372036854775806) ∧ b = 0) ∨ (SA = .c (-9223372036854775807) ∧ b = 1) ∨ (SA = .c (-9223372036854775808) ∧ b = 0)
theorem rs0loo (SA : AI) (b : Nat) (h : Side SA b) : rune (.s [(10, 1)] 0) (.s [(8, 1)] 0) 0 (-9223372036854775808) (0) 0 5 SA b = true := by
  rcases h with ⟨rfl, rfl⟩ | ⟨rfl, rfl⟩ | ⟨rfl, rfl⟩ | ⟨rfl, rfl⟩ | ⟨rfl, rfl⟩ | ⟨rfl, rfl⟩ | ⟨rfl, rfl⟩ | ⟨rfl, rfl⟩ | ⟨rfl, rfl⟩ | ⟨rfl, rfl⟩ | ⟨rfl, rfl⟩ | ⟨rfl, rfl⟩ | ⟨rfl, rfl⟩
  · exact rt0loo_0
  · exact rt0loo_1
  · exact rt0loo_2
  · exact rt0loo_3
  · exact rt0loo_4
  · exact rt0loo_5
  · exact rt0loo_6
  · exact rt0loo_7
  · exact rt0loo_8
  · exact rt0loo_9
  · exact rt0loo_10
  · exact rt0loo_11
  · exact rt0loo_12
theorem rs0v1oa (SA : AI) (b : Nat) (h : Side SA b) : rune (.s [(10, 1)] 0) (.c 1) 0 (1) (1) 0 0 SA b = true := by
  rcases h with ⟨rfl, rfl⟩ | ⟨rfl, rfl⟩ | ⟨rfl, rfl⟩ | ⟨rfl, rfl⟩ | ⟨rfl, rfl⟩ | ⟨rfl, rfl⟩ | ⟨rfl, rfl⟩ | ⟨rfl, rfl⟩ | ⟨rfl, rfl⟩ | ⟨rfl, rfl⟩ | ⟨rfl, rfl⟩ | ⟨rfl, rfl⟩ | ⟨rfl, rfl⟩
  · exact rt0v1oa_0
  · exact rt0v1oa_1
  · exact rt0v1oa_2
  · exact rt0v1oa_3
  · exact rt0v1oa_4
  · exact rt0v1oa_5
  · exact rt0v1oa_6
  · exact rt0v1oa_7
  · exact rt0v1oa_8
  · exact rt0v1oa_9
  · exact rt0v1oa_10
  · exact rt0v1oa_11
  · exact rt0v1oa_12
theorem rs0v1ob (SA : AI) (b : Nat) (h : Side SA b) : rune (.s [(10, 1)] 0) (.c 1) 0 (1) (1) 1 5 SA b = true := by
  rcases h with ⟨rfl, rfl⟩ | ⟨rfl, rfl⟩ | ⟨rfl, rfl⟩ | ⟨rfl, rfl⟩ | ⟨rfl, rfl⟩ | ⟨rfl, rfl⟩ | ⟨rfl, rfl⟩ | ⟨rfl, rfl⟩ | ⟨rfl, rfl⟩ | ⟨rfl, rfl⟩ | ⟨rfl, rfl⟩ | ⟨rfl, rfl⟩ | ⟨rfl, rfl⟩
  · exact rt0v1ob_0
  · exact rt0v1ob_1
  · exact rt0v1ob_2
  · exact rt0v1ob_3
  · exact rt0v1ob_4
  · exact rt0v1ob_5
  · exact rt0v1ob_6
  · exact rt0v1ob_7
  · exact rt0v1ob_8
  · exact rt0v1ob_9
  · exact rt0v1ob_10
  · exact rt0v1ob_11
  · exact rt0v1ob_12
theorem rs0v2oa (SA : AI) (b : Nat) (h : Side SA b) : rune (.s [(10, 1)] 0) (.c 2) 0 (2) (2) 0 0 SA b = true := by
  rcases h with ⟨rfl, rfl⟩ | ⟨rfl, rfl⟩ | ⟨rfl, rfl⟩ | ⟨rfl, rfl⟩ | ⟨rfl, rfl⟩ | ⟨rfl, rfl⟩ | ⟨rfl, rfl⟩ | ⟨rfl, rfl⟩ | ⟨rfl, rfl⟩ | ⟨rfl, rfl⟩ | ⟨rfl, rfl⟩ | ⟨rfl, rfl⟩ | ⟨rfl, rfl⟩
  · exact rt0v2oa_0
  · exact rt0v2oa_1
  · exact rt0v2oa_2
  · exact rt0v2oa_3
  · exact rt0v2oa_4
  · exact rt0v2oa_5
  · exact rt0v2oa_6
  · exact rt0v2oa_7
  · exact rt0v2oa_8
  · exact rt0v2oa_9
  · exact rt0v2oa_10
  · exact rt0v2oa_11
  · exact rt0v2oa_12
theorem rs0v2ob (SA : AI) (b : Nat) (h : Side SA b) : rune (.s [(10, 1)] 0) (.c 2) 0 (2) (2) 1 5 SA b = true := by
  rcases h with ⟨rfl, rfl⟩ | ⟨rfl, rfl⟩ | ⟨rfl, rfl⟩ | ⟨rfl, rfl⟩ | ⟨rfl, rfl⟩ | ⟨rfl, rfl⟩ | ⟨rfl, rfl⟩ | ⟨rfl, rfl⟩ | ⟨rfl, rfl⟩ | ⟨rfl, rfl⟩ | ⟨rfl, rfl⟩ | ⟨rfl, rfl⟩ | ⟨rfl, rfl⟩
  · exact rt0v2ob_0
  · exact rt0v2ob_1
  · exact rt0v2ob_2
  · exact rt0v2ob_3
  · exact rt0v2ob_4
  · exact rt0v2ob_5
  · exact rt0v2ob_6
  · exact rt0v2ob_7
  · exact rt0v2ob_8
  · exact rt0v2ob_9
  · exact rt0v2ob_10
  · exact rt0v2ob_11
  · exact rt0v2ob_12
theorem rs0v3oa (SA : AI) (b : Nat) (h : Side SA b) : rune (.s [(10, 1)] 0) (.c 3) 0 (3) (3) 0 0 SA b = true := by
  rcases h with ⟨rfl, rfl⟩ | ⟨rfl, rfl⟩ | ⟨rfl, rfl⟩ | ⟨rfl, rfl⟩ | ⟨rfl, rfl⟩ | ⟨rfl, rfl⟩ | ⟨rfl, rfl⟩ | ⟨rfl, rfl⟩ | ⟨rfl, rfl⟩ | ⟨rfl, rfl⟩ | ⟨rfl, rfl⟩ | ⟨rfl, rfl⟩ | ⟨rfl, rfl⟩
  · exact rt0v3oa_0
  · exact rt0v3oa_1
  · exact rt0v3oa_2
  · exact rt0v3oa_3
  · exact rt0v3oa_4
  · exact rt0v3oa_5
  · exact rt0v3oa_6
  · exact rt0v3oa_7
  · exact rt0v3oa_8
  · exact rt0v3oa_9
  · exact rt0v3oa_10
  · exact rt0v3oa_11
  · exact rt0v3oa_12
theorem rs0v3ob (SA : AI) (b : Nat) (h : Side SA b) : rune (.s [(10, 1)] 0) (.c 3) 0 (3) (3) 1 5 SA b = true := by
  rcases h with ⟨rfl, rfl⟩ | ⟨rfl, rfl⟩ | ⟨rfl, rfl⟩ | ⟨rfl, rfl⟩ | ⟨rfl, rfl⟩ | ⟨rfl, rfl⟩ | ⟨rfl, rfl⟩ | ⟨rfl, rfl⟩ | ⟨rfl, rfl⟩ | ⟨rfl, rfl⟩ | ⟨rfl, rfl⟩ | ⟨rfl, rfl⟩ | ⟨rfl, rfl⟩
  · exact rt0v3ob_0
  · exact rt0v3ob_1
  · exact rt0v3ob_2
  · exact rt0v3ob_3
  · exact rt0v3ob_4
  · exact rt0v3ob_5
  · exact rt0v3ob_6
  · exact rt0v3ob_7
  · exact rt0v3ob_8
  · exact rt0v3ob_9
  · exact rt0v3ob_10
  · exact rt0v3ob_11
  · exact rt0v3ob_12
theorem rs0hoo (SA : AI) (b : Nat) (h : Side SA b) : rune (.s [(10, 1)] 0) (.s [(8, 1)] 0) 0 (4) (9223372036854775807) 0 5 SA b = true := by
  rcases h with ⟨rfl, rfl⟩ | ⟨rfl, rfl⟩ | ⟨rfl, rfl⟩ | ⟨rfl, rfl⟩ | ⟨rfl, rfl⟩ | ⟨rfl, rfl⟩ | ⟨rfl, rfl⟩ | ⟨rfl, rfl⟩ | ⟨rfl, rfl⟩ | ⟨rfl, rfl⟩ | ⟨rfl, rfl⟩ | ⟨rfl, rfl⟩ | ⟨rfl, rfl⟩
  · exact rt0hoo_0
  · exact rt0hoo_1
  · exact rt0hoo_2
  · exact rt0hoo_3
  · exact rt0hoo_4
  · exact rt0hoo_5
  · exact rt0hoo_6
  · exact rt0hoo_7
  · exact rt0hoo_8
  · exact rt0hoo_9
  · exact rt0hoo_10
  · exact rt0hoo_11
  · exact rt0hoo_12
theorem rs1loo (SA : AI) (b : Nat) (h : Side SA b) : rune (.s [(10, 1)] 0) (.s [(8, 1)] 0) 1 (-9223372036854775808) (0) 0 5 SA b = true := by
  rcases h with ⟨rfl, rfl⟩ | ⟨rfl, rfl⟩ | ⟨rfl, rfl⟩ | ⟨rfl, rfl⟩ | ⟨rfl, rfl⟩ | ⟨rfl, rfl⟩ | ⟨rfl, rfl⟩ | ⟨rfl, rfl⟩ | ⟨rfl, rfl⟩ | ⟨rfl, rfl⟩ | ⟨rfl, rfl⟩ | ⟨rfl, rfl⟩ | ⟨rfl, rfl⟩
  · exact rt1loo_0
  · exact rt1loo_1
  · exact rt1loo_2
  · exact rt1loo_3
  · exact rt1loo_4
  · exact rt1loo_5
  · exact rt1loo_6
  · exact rt1loo_7
  · exact rt1loo_8
  · exact rt1loo_9
  · exact rt1loo_10
  · exact rt1loo_11
  · exact rt1loo_12
theorem rs1v1p0a (SA : AI) (b : Nat) (h : Side SA b) : rune (.c 0) (.s [(8, 1)] 0) 1 (1) (400) 0 0 SA b = true := by
  rcases h with ⟨rfl, rfl⟩ | ⟨rfl, rfl⟩ | ⟨rfl, rfl⟩ | ⟨rfl, rfl⟩ | ⟨rfl, rfl⟩ | ⟨rfl, rfl⟩ | ⟨rfl, rfl⟩ | ⟨rfl, rfl⟩ | ⟨rfl, rfl⟩ | ⟨rfl, rfl⟩ | ⟨rfl, rfl⟩ | ⟨rfl, rfl⟩ | ⟨rfl, rfl⟩
  · exact rt1v1p0a_0
  · exact rt1v1p0a_1
  · exact rt1v1p0a_2
  · exact rt1v1p0a_3
  · exact rt1v1p0a_4
  · exact rt1v1p0a_5
  · exact rt1v1p0a_6
  · exact rt1v1p0a_7
  · exact rt1v1p0a_8
  · exact rt1v1p0a_9
  · exact rt1v1p0a_10
  · exact rt1v1p0a_11
  · exact rt1v1p0a_12
theorem rs1v1p0b (SA : AI) (b : Nat) (h : Side SA b) : rune (.c 0) (.s [(8, 1)] 0) 1 (1) (400) 1 5 SA b = true := by
  rcases h with ⟨rfl, rfl⟩ | ⟨rfl, rfl⟩ | ⟨rfl, rfl⟩ | ⟨rfl, rfl⟩ | ⟨rfl, rfl⟩ | ⟨rfl, rfl⟩ | ⟨rfl, rfl⟩ | ⟨rfl, rfl⟩ | ⟨rfl, rfl⟩ | ⟨rfl, rfl⟩ | ⟨rfl, rfl⟩ | ⟨rfl, rfl⟩ | ⟨rfl, rfl⟩
  · exact rt1v1p0b_0
  · exact rt1v1p0b_1
  · exact rt1v1p0b_2
  · exact rt1v1p0b_3
  · exact rt1v1p0b_4
  · exact rt1v1p0b_5
  · exact rt1v1p0b_6
  · exact rt1v1p0b_7
  · exact rt1v1p0b_8
  · exact rt1v1p0b_9
  · exact rt1v1p0b_10
  · exact rt1v1p0b_11
  · exact rt1v1p0b_12
theorem rs1v1p1a (SA : AI) (b : Nat) (h : Side SA b) : rune (.c 1) (.s [(8, 1)] 0) 1 (1) (400) 0 0 SA b = true := by
  rcases h with ⟨rfl, rfl⟩ | ⟨rfl, rfl⟩ | ⟨rfl, rfl⟩ | ⟨rfl, rfl⟩ | ⟨rfl, rfl⟩ | ⟨rfl, rfl⟩ | ⟨rfl, rfl⟩ | ⟨rfl, rfl⟩ | ⟨rfl, rfl⟩ | ⟨rfl, rfl⟩ | ⟨rfl, rfl⟩ | ⟨rfl, rfl⟩ | ⟨rfl, rfl⟩
  · exact rt1v1p1a_0
  · exact rt1v1p1a_1
  · exact rt1v1p1a_2
  · exact rt1v1p1a_3
  · exact rt1v1p1a_4
  · exact rt1v1p1a_5
  · exact rt1v1p1a_6
  · exact rt1v1p1a_7
  · exact rt1v1p1a_8
  · exact rt1v1p1a_9
  · exact rt1v1p1a_10
  · exact rt1v1p1a_11
  · exact rt1v1p1a_12
theorem rs1v1p1b (SA : AI) (b : Nat) (h : Side SA b) : rune (.c 1) (.s [(8, 1)] 0) 1 (1) (400) 1 5 SA b = true := by
  rcases h with ⟨rfl, rfl⟩ | ⟨rfl, rfl⟩ | ⟨rfl, rfl⟩ | ⟨rfl, rfl⟩ | ⟨rfl, rfl⟩ | ⟨rfl, rfl⟩ | ⟨rfl, rfl⟩ | ⟨rfl, rfl⟩ | ⟨rfl, rfl⟩ | ⟨rfl, rfl⟩ | ⟨rfl, rfl⟩ | ⟨rfl, rfl⟩ | ⟨rfl, rfl⟩
  · exact rt1v1p1b_0
  · exact rt1v1p1b_1
  · exact rt1v1p1b_2
  · exact rt1v1p1b_3
  · exact rt1v1p1b_4
  · exact rt1v1p1b_5
  · exact rt1v1p1b_6
  · exact rt1v1p1b_7
  · exact rt1v1p1b_8
  · exact rt1v1p1b_9
  · exact rt1v1p1b_10
  · exact rt1v1p1b_11
  · exact rt1v1p1b_12
theorem rs1v1p2a (SA : AI) (b : Nat) (h : Side SA b) : rune (.c 2) (.s [(8, 1)] 0) 1 (1) (400) 0 0 SA b = true := by
  rcases h with ⟨rfl, rfl⟩ | ⟨rfl, rfl⟩ | ⟨rfl, rfl⟩ | ⟨rfl, rfl⟩ | ⟨rfl, rfl⟩ | ⟨rfl, rfl⟩ | ⟨rfl, rfl⟩ | ⟨rfl, rfl⟩ | ⟨rfl, rfl⟩ | ⟨rfl, rfl⟩ | ⟨rfl, rfl⟩ | ⟨rfl, rfl⟩ | ⟨rfl, rfl⟩
  · exact rt1v1p2a_0
  · exact rt1v1p2a_1
  · exact rt1v1p2a_2
  · exact rt1v1p2a_3
  · exact rt1v1p2a_4
  · exact rt1v1p2a_5
  · exact rt1v1p2a_6
  · exact rt1v1p2a_7
  · exact rt1v1p2a_8
  · exact rt1v1p2a_9
  · exact rt1v1p2a_10
  · exact rt1v1p2a_11
  · exact rt1v1p2a_12
theorem rs1v1p2b (SA : AI) (b : Nat) (h : Side SA b) : rune (.c 2) (.s [(8, 1)] 0) 1 (1) (400) 1 5 SA b = true := by
  rcases h with ⟨rfl, rfl⟩ | ⟨rfl, rfl⟩ | ⟨rfl, rfl⟩ | ⟨rfl, rfl⟩ | ⟨rfl, rfl⟩ | ⟨rfl, rfl⟩ | ⟨rfl, rfl⟩ | ⟨rfl, rfl⟩ | ⟨rfl, rfl⟩ | ⟨rfl, rfl⟩ | ⟨rfl, rfl⟩ | ⟨rfl, rfl⟩ | ⟨rfl, rfl⟩
  · exact rt1v1p2b_0
  · exact rt1v1p2b_1
  · exact rt1v1p2b_2
  · exact rt1v1p2b_3
  · exact rt1v1p2b_4
  · exact rt1v1p2b_5
  · exact rt1v1p2b_6
  · exact rt1v1p2b_7
  · exact rt1v1p2b_8
  · exact rt1v1p2b_9
  · exact rt1v1p2b_10
  · exact rt1v1p2b_11
  · exact rt1v1p2b_12
theorem rs1hoo (SA : AI) (b : Nat) (h : Side SA b) : rune (.s [(10, 1)] 0) (.s [(8, 1)] 0) 1 (401) (9223372036854775807) 0 5 SA b = true := by
  rcases h with ⟨rfl, rfl⟩ | ⟨rfl, rfl⟩ | ⟨rfl, rfl⟩ | ⟨rfl, rfl⟩ | ⟨rfl, rfl⟩ | ⟨rfl, rfl⟩ | ⟨rfl, rfl⟩ | ⟨rfl, rfl⟩ | ⟨rfl, rfl⟩ | ⟨rfl, rfl⟩ | ⟨rfl, rfl⟩ | ⟨rfl, rfl⟩ | ⟨rfl, rfl⟩
  · exact rt1hoo_0
  · exact rt1hoo_1
  · exact rt1hoo_2
  · exact rt1hoo_3
  · exact rt1hoo_4
  · exact rt1hoo_5
  · exact rt1hoo_6
  · exact rt1hoo_7
  · exact rt1hoo_8
  · exact rt1hoo_9
  · exact rt1hoo_10
  · exact rt1hoo_11
  · exact rt1hoo_12
theorem rs2loo (SA : AI) (b : Nat) (h : Side SA b) : rune (.s [(10, 1)] 0) (.s [(8, 1)] 0) 2 (-9223372036854775808) (0) 0 5 SA b = true := by
  rcases h with ⟨rfl, rfl⟩ | ⟨rfl, rfl⟩ | ⟨rfl, rfl⟩ | ⟨rfl, rfl⟩ | ⟨rfl, rfl⟩ | ⟨rfl, rfl⟩ | ⟨rfl, rfl⟩ | ⟨rfl, rfl⟩ | ⟨rfl, rfl⟩ | ⟨rfl, rfl⟩ | ⟨rfl, rfl⟩ | ⟨rfl, rfl⟩ | ⟨rfl, rfl⟩
  · exact rt2loo_0
  · exact rt2loo_1
  · exact rt2loo_2
  · exact rt2loo_3
  · exact rt2loo_4
  · exact rt2loo_5
  · exact rt2loo_6
  · exact rt2loo_7
  · exact rt2loo_8
  · exact rt2loo_9
  · exact rt2loo_10
  · exact rt2loo_11
  · exact rt2loo_12
theorem rs2v1p0a (SA : AI) (b : Nat) (h : Side SA b) : rune (.c 0) (.s [(8, 1)] 0) 2 (1) (400) 0 0 SA b = true := by
  rcases h with ⟨rfl, rfl⟩ | ⟨rfl, rfl⟩ | ⟨rfl, rfl⟩ | ⟨rfl, rfl⟩ | ⟨rfl, rfl⟩ | ⟨rfl, rfl⟩ | ⟨rfl, rfl⟩ | ⟨rfl, rfl⟩ | ⟨rfl, rfl⟩ | ⟨rfl, rfl⟩ | ⟨rfl, rfl⟩ | ⟨rfl, rfl⟩ | ⟨rfl, rfl⟩
  · exact rt2v1p0a_0
  · exact rt2v1p0a_1
  · exact rt2v1p0a_2
  · exact rt2v1p0a_3
  · exact rt2v1p0a_4
  · exact rt2v1p0a_5
  · exact rt2v1p0a_6
  · exact rt2v1p0a_7
  · exact rt2v1p0a_8
  · exact rt2v1p0a_9
  · exact rt2v1p0a_10
  · exact rt2v1p0a_11
  · exact rt2v1p0a_12
theorem rs2v1p0b (SA : AI) (b : Nat) (h : Side SA b) : rune (.c 0) (.s [(8, 1)] 0) 2 (1) (400) 1 5 SA b = true := by
  rcases h with ⟨rfl, rfl⟩ | ⟨rfl, rfl⟩ | ⟨rfl, rfl⟩ | ⟨rfl, rfl⟩ | ⟨rfl, rfl⟩ | ⟨rfl, rfl⟩ | ⟨rfl, rfl⟩ | ⟨rfl, rfl⟩ | ⟨rfl, rfl⟩ | ⟨rfl, rfl⟩ | ⟨rfl, rfl⟩ | ⟨rfl, rfl⟩ | ⟨rfl, rfl⟩
  · exact rt2v1p0b_0
  · exact rt2v1p0b_1
  · exact rt2v1p0b_2
  · exact rt2v1p0b_3
  · exact rt2v1p0b_4
  · exact rt2v1p0b_5
  · exact rt2v1p0b_6
  · exact rt2v1p0b_7
  · exact rt2v1p0b_8
  · exact rt2v1p0b_9
  · exact rt2v1p0b_10
  · exact rt2v1p0b_11
  · exact rt2v1p0b_12
theorem rs2v1p1a (SA : AI) (b : Nat) (h : Side SA b) : rune (.c 1) (.s [(8, 1)] 0) 2 (1) (400) 0 0 SA b = true := by
  rcases h with ⟨rfl, rfl⟩ | ⟨rfl, rfl⟩ | ⟨rfl, rfl⟩ | ⟨rfl, rfl⟩ | ⟨rfl, rfl⟩ | ⟨rfl, rfl⟩ | ⟨rfl, rfl⟩ | ⟨rfl, rfl⟩ | ⟨rfl, rfl⟩ | ⟨rfl, rfl⟩ | ⟨rfl, rfl⟩ | ⟨rfl, rfl⟩ | ⟨rfl, rfl⟩
  · exact rt2v1p1a_0
  · exact rt2v1p1a_1
  · exact rt2v1p1a_2
  · exact rt2v1p1a_3
  · exact rt2v1p1a_4
  · exact rt2v1p1a_5
  · exact rt2v1p1a_6
  · exact rt2v1p1a_7
  · exact rt2v1p1a_8
  · exact rt2v1p1a_9
  · exact rt2v1p1a_10
  · exact rt2v1p1a_11
  · exact rt2v1p1a_12
theorem rs2v1p1b (SA : AI) (b : Nat) (h : Side SA b) : rune (.c 1) (.s [(8, 1)] 0) 2 (1) (400) 1 5 SA b = true := by
  rcases h with ⟨rfl, rfl⟩ | ⟨rfl, rfl⟩ | ⟨rfl, rfl⟩ | ⟨rfl, rfl⟩ | ⟨rfl, rfl⟩ | ⟨rfl, rfl⟩ | ⟨rfl, rfl⟩ | ⟨rfl, rfl⟩ | ⟨rfl, rfl⟩ | ⟨rfl, rfl⟩ | ⟨rfl, rfl⟩ | ⟨rfl, rfl⟩ | ⟨rfl, rfl⟩
  · exact rt2v1p1b_0
  · exact rt2v1p1b_1
  · exact rt2v1p1b_2
  · exact rt2v1p1b_3
  · exact rt2v1p1b_4
  · exact rt2v1p1b_5
  · exact rt2v1p1b_6
  · exact rt2v1p1b_7
  · exact rt2v1p1b_8
  · exact rt2v1p1b_9
  · exact rt2v1p1b_10
  · exact rt2v1p1b_11
  · exact rt2v1p1b_12
theorem rs2v1p2a (SA : AI) (b : Nat) (h : Side SA b) : rune (.c 2) (.s [(8, 1)] 0) 2 (1) (400) 0 0 SA b = true := by
  rcases h with ⟨rfl, rfl⟩ | ⟨rfl, rfl⟩ | ⟨rfl, rfl⟩ | ⟨rfl, rfl⟩ | ⟨rfl, rfl⟩ | ⟨rfl, rfl⟩ | ⟨rfl, rfl⟩ | ⟨rfl, rfl⟩ | ⟨rfl, rfl⟩ | ⟨rfl, rfl⟩ | ⟨rfl, rfl⟩ | ⟨rfl, rfl⟩ | ⟨rfl, rfl⟩
  · exact rt2v1p2a_0
  · exact rt2v1p2a_1
  · exact rt2v1p2a_2
  · exact rt2v1p2a_3
  · exact rt2v1p2a_4
  · exact rt2v1p2a_5
  · exact rt2v1p2a_6
  · exact rt2v1p2a_7
  · exact rt2v1p2a_8
  · exact rt2v1p2a_9
  · exact rt2v1p2a_10
  · exact rt2v1p2a_11
  · exact rt2v1p2a_12
theorem rs2v1p2b (SA : AI) (b : Nat) (h : Side SA b) : rune (.c 2) (.s [(8, 1)] 0) 2 (1) (400) 1 5 SA b = true := by
  rcases h with ⟨rfl, rfl⟩ | ⟨rfl, rfl⟩ | ⟨rfl, rfl⟩ | ⟨rfl, rfl⟩ | ⟨rfl, rfl⟩ | ⟨rfl, rfl⟩ | ⟨rfl, rfl⟩ | ⟨rfl, rfl⟩ | ⟨rfl, rfl⟩ | ⟨rfl, rfl⟩ | ⟨rfl, rfl⟩ | ⟨rfl, rfl⟩ | ⟨rfl, rfl⟩
  · exact rt2v1p2b_0
  · exact rt2v1p2b_1
  · exact rt2v1p2b_2
  · exact rt2v1p2b_3
  · exact rt2v1p2b_4
  · exact rt2v1p2b_5
  · exact rt2v1p2b_6
  · exact rt2v1p2b_7
  · exact rt2v1p2b_8
  · exact rt2v1p2b_9
  · exact rt2v1p2b_10
  · exact rt2v1p2b_11
  · exact rt2v1p2b_12
theorem rs2hoo (SA : AI) (b : Nat) (h : Side SA b) : rune (.s [(10, 1)] 0) (.s [(8, 1)] 0) 2 (401) (9223372036854775807) 0 5 SA b = true := by
  rcases h with ⟨rfl, rfl⟩ | ⟨rfl, rfl⟩ | ⟨rfl, rfl⟩ | ⟨rfl, rfl⟩ | ⟨rfl, rfl⟩ | ⟨rfl, rfl⟩ | ⟨rfl, rfl⟩ | ⟨rfl, rfl⟩ | ⟨rfl, rfl⟩ | ⟨rfl, rfl⟩ | ⟨rfl, rfl⟩ | ⟨rfl, rfl⟩ | ⟨rfl, rfl⟩
  · exact rt2hoo_0
  · exact rt2hoo_1
  · exact rt2hoo_2
  · exact rt2hoo_3
  · exact rt2hoo_4
  · exact rt2hoo_5
  · exact rt2hoo_6
  · exact rt2hoo_7
  · exact rt2hoo_8
  · exact rt2hoo_9
  · exact rt2hoo_10
  · exact rt2hoo_11
  · exact rt2hoo_12
theorem rs3loo (SA : AI) (b : Nat) (h : Side SA b) : rune (.s [(10, 1)] 0) (.s [(8, 1)] 0) 3 (-9223372036854775808) (0) 0 5 SA b = true := by
  rcases h with ⟨rfl, rfl⟩ | ⟨rfl, rfl⟩ | ⟨rfl, rfl⟩ | ⟨rfl, rfl⟩ | ⟨rfl, rfl⟩ | ⟨rfl, rfl⟩ | ⟨rfl, rfl⟩ | ⟨rfl, rfl⟩ | ⟨rfl, rfl⟩ | ⟨rfl, rfl⟩ | ⟨rfl, rfl⟩ | ⟨rfl, rfl⟩ | ⟨rfl, rfl⟩
  · exact rt3loo_0
  · exact rt3loo_1
  · exact rt3loo_2
  · exact rt3loo_3
  · exact rt3loo_4
  · exact rt3loo_5
  · exact rt3loo_6
  · exact rt3loo_7
  · exact rt3loo_8
  · exact rt3loo_9
  · exact rt3loo_10
  · exact rt3loo_11
  · exact rt3loo_12
theorem rs3v1p0a (SA : AI) (b : Nat) (h : Side SA b) : rune (.c 0) (.s [(8, 1)] 0) 3 (1) (64) 0 0 SA b = true := by
  rcases h with ⟨rfl, rfl⟩ | ⟨rfl, rfl⟩ | ⟨rfl, rfl⟩ | ⟨rfl, rfl⟩ | ⟨rfl, rfl⟩ | ⟨rfl, rfl⟩ | ⟨rfl, rfl⟩ | ⟨rfl, rfl⟩ | ⟨rfl, rfl⟩ | ⟨rfl, rfl⟩ | ⟨rfl, rfl⟩ | ⟨rfl, rfl⟩ | ⟨rfl, rfl⟩
  · exact rt3v1p0a_0
  · exact rt3v1p0a_1
  · exact rt3v1p0a_2
  · exact rt3v1p0a_3
  · exact rt3v1p0a_4
  · exact rt3v1p0a_5
  · exact rt3v1p0a_6
  · exact rt3v1p0a_7
  · exact rt3v1p0a_8
  · exact rt3v1p0a_9
  · exact rt3v1p0a_10
  · exact rt3v1p0a_11
  · exact rt3v1p0a_12
theorem rs3v1p0b (SA : AI) (b : Nat) (h : Side SA b) : rune (.c 0) (.s [(8, 1)] 0) 3 (1) (64) 1 5 SA b = true := by
  rcases h with ⟨rfl, rfl⟩ | ⟨rfl, rfl⟩ | ⟨rfl, rfl⟩ | ⟨rfl, rfl⟩ | ⟨rfl, rfl⟩ | ⟨rfl, rfl⟩ | ⟨rfl, rfl⟩ | ⟨rfl, rfl⟩ | ⟨rfl, rfl⟩ | ⟨rfl, rfl⟩ | ⟨rfl, rfl⟩ | ⟨rfl, rfl⟩ | ⟨rfl, rfl⟩
  · exact rt3v1p0b_0
  · exact rt3v1p0b_1
  · exact rt3v1p0b_2
  · exact rt3v1p0b_3
  · exact rt3v1p0b_4
  · exact rt3v1p0b_5
  · exact rt3v1p0b_6
  · exact rt3v1p0b_7
  · exact rt3v1p0b_8
  · exact rt3v1p0b_9
  · exact rt3v1p0b_10
  · exact rt3v1p0b_11
  · exact rt3v1p0b_12
theorem rs3v1p1a (SA : AI) (b : Nat) (h : Side SA b) : rune (.c 1) (.s [(8, 1)] 0) 3 (1) (64) 0 0 SA b = true := by
  rcases h with ⟨rfl, rfl⟩ | ⟨rfl, rfl⟩ | ⟨rfl, rfl⟩ | ⟨rfl, rfl⟩ | ⟨rfl, rfl⟩ | ⟨rfl, rfl⟩ | ⟨rfl, rfl⟩ | ⟨rfl, rfl⟩ | ⟨rfl, rfl⟩ | ⟨rfl, rfl⟩ | ⟨rfl, rfl⟩ | ⟨rfl, rfl⟩ | ⟨rfl, rfl⟩
  · exact rt3v1p1a_0
  · exact rt3v1p1a_1
  · exact rt3v1p1a_2
  · exact rt3v1p1a_3
  · exact rt3v1p1a_4
  · exact rt3v1p1a_5
  · exact rt3v1p1a_6
  · exact rt3v1p1a_7
  · exact rt3v1p1a_8
  · exact rt3v1p1a_9
  · exact rt3v1p1a_10
  · exact rt3v1p1a_11
  · exact rt3v1p1a_12
theorem rs3v1p1b (SA : AI) (b : Nat) (h : Side SA b) : rune (.c 1) (.s [(8, 1)] 0) 3 (1) (64) 1 5 SA b = true := by
  rcases h with ⟨rfl, rfl⟩ | ⟨rfl, rfl⟩ | ⟨rfl, rfl⟩ | ⟨rfl, rfl⟩ | ⟨rfl, rfl⟩ | ⟨rfl, rfl⟩ | ⟨rfl, rfl⟩ | ⟨rfl, rfl⟩ | ⟨rfl, rfl⟩ | ⟨rfl, rfl⟩ | ⟨rfl, rfl⟩ | ⟨rfl, rfl⟩ | ⟨rfl, rfl⟩
  · exact rt3v1p1b_0
  · exact rt3v1p1b_1
  · exact rt3v1p1b_2
  · exact rt3v1p1b_3
  · exact rt3v1p1b_4
  · exact rt3v1p1b_5
  · exact rt3v1p1b_6
  · exact rt3v1p1b_7
  · exact rt3v1p1b_8
  · exact rt3v1p1b_9
  · exact rt3v1p1b_10
  · exact rt3v1p1b_11
  · exact rt3v1p1b_12
theorem rs3v1p2a (SA : AI) (b : Nat) (h : Side SA b) : rune (.c 2) (.s [(8, 1)] 0) 3 (1) (64) 0 0 SA b = true := by
  rcases h with ⟨rfl, rfl⟩ | ⟨rfl, rfl⟩ | ⟨rfl, rfl⟩ | ⟨rfl, rfl⟩ | ⟨rfl, rfl⟩ | ⟨rfl, rfl⟩ | ⟨rfl, rfl⟩ | ⟨rfl, rfl⟩ | ⟨rfl, rfl⟩ | ⟨rfl, rfl⟩ | ⟨rfl, rfl⟩ | ⟨rfl, rfl⟩ | ⟨rfl, rfl⟩
  · exact rt3v1p2a_0
  · exact rt3v1p2a_1
  · exact rt3v1p2a_2
  · exact rt3v1p2a_3
  · exact rt3v1p2a_4
  · exact rt3v1p2a_5
  · exact rt3v1p2a_6
  · exact rt3v1p2a_7
  · exact rt3v1p2a_8
  · exact rt3v1p2a_9
  · exact rt3v1p2a_10
  · exact rt3v1p2a_11
  · exact rt3v1p2a_12
theorem rs3v1p2b (SA : AI) (b : Nat) (h : Side SA b) : rune (.c 2) (.s [(8, 1)] 0) 3 (1) (64) 1 5 SA b = true := by
  rcases h with ⟨rfl, rfl⟩ | ⟨rfl, rfl⟩ | ⟨rfl, rfl⟩ | ⟨rfl, rfl⟩ | ⟨rfl, rfl⟩ | ⟨rfl, rfl⟩ | ⟨rfl, rfl⟩ | ⟨rfl, rfl⟩ | ⟨rfl, rfl⟩ | ⟨rfl, rfl⟩ | ⟨rfl, rfl⟩ | ⟨rfl, rfl⟩ | ⟨rfl, rfl⟩
  · exact rt3v1p2b_0
  · exact rt3v1p2b_1
  · exact rt3v1p2b_2
  · exact rt3v1p2b_3
  · exact rt3v1p2b_4
  · exact rt3v1p2b_5
  · exact rt3v1p2b_6
  · exact rt3v1p2b_7
  · exact rt3v1p2b_8
  · exact rt3v1p2b_9
  · exact rt3v1p2b_10
  · exact rt3v1p2b_11
  · exact rt3v1p2b_12
theorem rs3hoo (SA : AI) (b : Nat) (h : Side SA b) : rune (.s [(10, 1)] 0) (.s [(8, 1)] 0) 3 (65) (9223372036854775807) 0 5 SA b = true := by
  rcases h with ⟨rfl, rfl⟩ | ⟨rfl, rfl⟩ | ⟨rfl, rfl⟩ | ⟨rfl, rfl⟩ | ⟨rfl, rfl⟩ | ⟨rfl, rfl⟩ | ⟨rfl, rfl⟩ | ⟨rfl, rfl⟩ | ⟨rfl, rfl⟩ | ⟨rfl, rfl⟩ | ⟨rfl, rfl⟩ | ⟨rfl, rfl⟩ | ⟨rfl, rfl⟩
  · exact rt3hoo_0
  · exact rt3hoo_1
  · exact rt3hoo_2
  · exact rt3hoo_3
  · exact rt3hoo_4
  · exact rt3hoo_5
  · exact rt3hoo_6
  · exact rt3hoo_7
  · exact rt3hoo_8
  · exact rt3hoo_9
  · exact rt3hoo_10
  · exact rt3hoo_11
  · exact rt3hoo_12
theorem rs4loo (SA : AI) (b : Nat) (h : Side SA b) : rune (.s [(10, 1)] 0) (.s [(8, 1)] 0) 4 (-9223372036854775808) (0) 0 5 SA b = true := by
  rcases h with ⟨rfl, rfl⟩ | ⟨rfl, rfl⟩ | ⟨rfl, rfl⟩ | ⟨rfl, rfl⟩ | ⟨rfl, rfl⟩ | ⟨rfl, rfl⟩ | ⟨rfl, rfl⟩ | ⟨rfl, rfl⟩ | ⟨rfl, rfl⟩ | ⟨rfl, rfl⟩ | ⟨rfl, rfl⟩ | ⟨rfl, rfl⟩ | ⟨rfl, rfl⟩
  · exact rt4loo_0
  · exact rt4loo_1
  · exact rt4loo_2
  · exact rt4loo_3
  · exact rt4loo_4
  · exact rt4loo_5
  · exact rt4loo_6
  · exact rt4loo_7
  · exact rt4loo_8
  · exact rt4loo_9
  · exact rt4loo_10
  · exact rt4loo_11
  · exact rt4loo_12
theorem rs4v1p0o (SA : AI) (b : Nat) (h : Side SA b) : rune (.c 0) (.s [(8, 1)] 0) 4 (1) (1) 0 5 SA b = true := by
  rcases h with ⟨rfl, rfl⟩ | ⟨rfl, rfl⟩ | ⟨rfl, rfl⟩ | ⟨rfl, rfl⟩ | ⟨rfl, rfl⟩ | ⟨rfl, rfl⟩ | ⟨rfl, rfl⟩ | ⟨rfl, rfl⟩ | ⟨rfl, rfl⟩ | ⟨rfl, rfl⟩ | ⟨rfl, rfl⟩ | ⟨rfl, rfl⟩ | ⟨rfl, rfl⟩
  · exact rt4v1p0o_0
  · exact rt4v1p0o_1
  · exact rt4v1p0o_2
  · exact rt4v1p0o_3
  · exact rt4v1p0o_4
  · exact rt4v1p0o_5
  · exact rt4v1p0o_6
  · exact rt4v1p0o_7
  · exact rt4v1p0o_8
  · exact rt4v1p0o_9
  · exact rt4v1p0o_10
  · exact rt4v1p0o_11
  · exact rt4v1p0o_12
theorem rs4v1p1o (SA : AI) (b : Nat) (h : Side SA b) : rune (.c 1) (.s [(8, 1)] 0) 4 (1) (1) 0 5 SA b = true := by
  rcases h with ⟨rfl, rfl⟩ | ⟨rfl, rfl⟩ | ⟨rfl, rfl⟩ | ⟨rfl, rfl⟩ | ⟨rfl, rfl⟩ | ⟨rfl, rfl⟩ | ⟨rfl, rfl⟩ | ⟨rfl, rfl⟩ | ⟨rfl, rfl⟩ | ⟨rfl, rfl⟩ | ⟨rfl, rfl⟩ | ⟨rfl, rfl⟩ | ⟨rfl, rfl⟩
  · exact rt4v1p1o_0
  · exact rt4v1p1o_1
  · exact rt4v1p1o_2
  · exact rt4v1p1o_3
  · exact rt4v1p1o_4
  · exact rt4v1p1o_5
  · exact rt4v1p1o_6
  · exact rt4v1p1o_7
  · exact rt4v1p1o_8
  · exact rt4v1p1o_9
  · exact rt4v1p1o_10
  · exact rt4v1p1o_11
  · exact rt4v1p1o_12
theorem rs4v1p2o (SA : AI) (b : Nat) (h : Side SA b) : rune (.c 2) (.s [(8, 1)] 0) 4 (1) (1) 0 5 SA b = true := by
  rcases h with ⟨rfl, rfl⟩ | ⟨rfl, rfl⟩ | ⟨rfl, rfl⟩ | ⟨rfl, rfl⟩ | ⟨rfl, rfl⟩ | ⟨rfl, rfl⟩ | ⟨rfl, rfl⟩ | ⟨rfl, rfl⟩ | ⟨rfl, rfl⟩ | ⟨rfl, rfl⟩ | ⟨rfl, rfl⟩ | ⟨rfl, rfl⟩ | ⟨rfl, rfl⟩
  · exact rt4v1p2o_0
  · exact rt4v1p2o_1
  · exact rt4v1p2o_2
  · exact rt4v1p2o_3
  · exact rt4v1p2o_4
  · exact rt4v1p2o_5
  · exact rt4v1p2o_6
  · exact rt4v1p2o_7
  · exact rt4v1p2o_8
  · exact rt4v1p2o_9
  · exact rt4v1p2o_10
  · exact rt4v1p2o_11
  · exact rt4v1p2o_12
theorem rs4v2p0o (SA : AI) (b : Nat) (h : Side SA b) : rune (.c 0) (.s [(8, 1)] 0) 4 (2) (16) 0 5 SA b = true := by
  rcases h with ⟨rfl, rfl⟩ | ⟨rfl, rfl⟩ | ⟨rfl, rfl⟩ | ⟨rfl, rfl⟩ | ⟨rfl, rfl⟩ | ⟨rfl, rfl⟩ | ⟨rfl, rfl⟩ | ⟨rfl, rfl⟩ | ⟨rfl, rfl⟩ | ⟨rfl, rfl⟩ | ⟨rfl, rfl⟩ | ⟨rfl, rfl⟩ | ⟨rfl, rfl⟩
  · exact rt4v2p0o_0
  · exact rt4v2p0o_1
  · exact rt4v2p0o_2
  · exact rt4v2p0o_3
  · exact rt4v2p0o_4
  · exact rt4v2p0o_5
  · exact rt4v2p0o_6
  · exact rt4v2p0o_7
  · exact rt4v2p0o_8
  · exact rt4v2p0o_9
  · exact rt4v2p0o_10
  · exact rt4v2p0o_11
  · exact rt4v2p0o_12
theorem rs4v2p1o (SA : AI) (b : Nat) (h : Side SA b) : rune (.c 1) (.s [(8, 1)] 0) 4 (2) (16) 0 5 SA b = true := by
  rcases h with ⟨rfl, rfl⟩ | ⟨rfl, rfl⟩ | ⟨rfl, rfl⟩ | ⟨rfl, rfl⟩ | ⟨rfl, rfl⟩ | ⟨rfl, rfl⟩ | ⟨rfl, rfl⟩ | ⟨rfl, rfl⟩ | ⟨rfl, rfl⟩ | ⟨rfl, rfl⟩ | ⟨rfl, rfl⟩ | ⟨rfl, rfl⟩ | ⟨rfl, rfl⟩
  · exact rt4v2p1o_0
  · exact rt4v2p1o_1
  · exact rt4v2p1o_2
  · exact rt4v2p1o_3
  · exact rt4v2p1o_4
  · exact rt4v2p1o_5
  · exact rt4v2p1o_6
  · exact rt4v2p1o_7
  · exact rt4v2p1o_8
  · exact rt4v2p1o_9
  · exact rt4v2p1o_10
  · exact rt4v2p1o_11
  · exact rt4v2p1o_12
theorem rs4v2p2o (SA : AI) (b : Nat) (h : Side SA b) : rune (.c 2) (.s [(8, 1)] 0) 4 (2) (16) 0 5 SA b = true := by
  rcases h with ⟨rfl, rfl⟩ | ⟨rfl, rfl⟩ | ⟨rfl, rfl⟩ | ⟨rfl, rfl⟩ | ⟨rfl, rfl⟩ | ⟨rfl, rfl⟩ | ⟨rfl, rfl⟩ | ⟨rfl, rfl⟩ | ⟨rfl, rfl⟩ | ⟨rfl, rfl⟩ | ⟨rfl, rfl⟩ | ⟨rfl, rfl⟩ | ⟨rfl, rfl⟩
  · exact rt4v2p2o_0
  · exact rt4v2p2o_1
  · exact rt4v2p2o_2
  · exact rt4v2p2o_3
  · exact rt4v2p2o_4
  · exact rt4v2p2o_5
  · exact rt4v2p2o_6
  · exact rt4v2p2o_7
  · exact rt4v2p2o_8
  · exact rt4v2p2o_9
  · exact rt4v2p2o_10
  · exact rt4v2p2o_11
  · exact rt4v2p2o_12
theorem rs4hoo (SA : AI) (b : Nat) (h : Side SA b) : rune (.s [(10, 1)] 0) (.s [(8, 1)] 0) 4 (17) (9223372036854775807) 0 5 SA b = true := by
  rcases h with ⟨rfl, rfl⟩ | ⟨rfl, rfl⟩ | ⟨rfl, rfl⟩ | ⟨rfl, rfl⟩ | ⟨rfl, rfl⟩ | ⟨rfl, rfl⟩ | ⟨rfl, rfl⟩ | ⟨rfl, rfl⟩ | ⟨rfl, rfl⟩ | ⟨rfl, rfl⟩ | ⟨rfl, rfl⟩ | ⟨rfl, rfl⟩ | ⟨rfl, rfl⟩
  · exact rt4hoo_0
  · exact rt4hoo_1
  · exact rt4hoo_2
  · exact rt4hoo_3
  · exact rt4hoo_4
  · exact rt4hoo_5
  · exact rt4hoo_6
  · exact rt4hoo_7
  · exact rt4hoo_8
  · exact rt4hoo_9
  · exact rt4hoo_10
  · exact rt4hoo_11
  · exact rt4hoo_12
theorem rs5loo (SA : AI) (b : Nat) (h : Side SA b) : rune (.s [(10, 1)] 0) (.s [(8, 1)] 0) 5 (-9223372036854775808) (0) 0 5 SA b = true := by
  rcases h with ⟨rfl, rfl⟩ | ⟨rfl, rfl⟩ | ⟨rfl, rfl⟩ | ⟨rfl, rfl⟩ | ⟨rfl, rfl⟩ | ⟨rfl, rfl⟩ | ⟨rfl, rfl⟩ | ⟨rfl, rfl⟩ | ⟨rfl, rfl⟩ | ⟨rfl, rfl⟩ | ⟨rfl, rfl⟩ | ⟨rfl, rfl⟩ | ⟨rfl, rfl⟩
  · exact rt5loo_0
  · exact rt5loo_1
  · exact rt5loo_2
  · exact rt5loo_3
  · exact rt5loo_4
  · exact rt5loo_5
  · exact rt5loo_6
  · exact rt5loo_7
  · exact rt5loo_8
  · exact rt5loo_9
  · exact rt5loo_10
  · exact rt5loo_11
  · exact rt5loo_12
theorem rs5v1p0a (SA : AI) (b : Nat) (h : Side SA b) : rune (.c 0) (.s [(8, 1)] 0) 5 (1) (64) 0 0 SA b = true := by
  rcases h with ⟨rfl, rfl⟩ | ⟨rfl, rfl⟩ | ⟨rfl, rfl⟩ | ⟨rfl, rfl⟩ | ⟨rfl, rfl⟩ | ⟨rfl, rfl⟩ | ⟨rfl, rfl⟩ | ⟨rfl, rfl⟩ | ⟨rfl, rfl⟩ | ⟨rfl, rfl⟩ | ⟨rfl, rfl⟩ | ⟨rfl, rfl⟩ | ⟨rfl, rfl⟩
  · exact rt5v1p0a_0
  · exact rt5v1p0a_1
  · exact rt5v1p0a_2
  · exact rt5v1p0a_3
  · exact rt5v1p0a_4
  · exact rt5v1p0a_5
  · exact rt5v1p0a_6
  · exact rt5v1p0a_7
  · exact rt5v1p0a_8
  · exact rt5v1p0a_9
  · exact rt5v1p0a_10
  · exact rt5v1p0a_11
  · exact rt5v1p0a_12
theorem rs5v1p0b (SA : AI) (b : Nat) (h : Side SA b) : rune (.c 0) (.s [(8, 1)] 0) 5 (1) (64) 1 5 SA b = true := by
  rcases h with ⟨rfl, rfl⟩ | ⟨rfl, rfl⟩ | ⟨rfl, rfl⟩ | ⟨rfl, rfl⟩ | ⟨rfl, rfl⟩ | ⟨rfl, rfl⟩ | ⟨rfl, rfl⟩ | ⟨rfl, rfl⟩ | ⟨rfl, rfl⟩ | ⟨rfl, rfl⟩ | ⟨rfl, rfl⟩ | ⟨rfl, rfl⟩ | ⟨rfl, rfl⟩
  · exact rt5v1p0b_0
  · exact rt5v1p0b_1
  · exact rt5v1p0b_2
  · exact rt5v1p0b_3
  · exact rt5v1p0b_4
  · exact rt5v1p0b_5
  · exact rt5v1p0b_6
  · exact rt5v1p0b_7
  · exact rt5v1p0b_8
  · exact rt5v1p0b_9
  · exact rt5v1p0b_10
  · exact rt5v1p0b_11
  · exact rt5v1p0b_12
theorem rs5v1p1a (SA : AI) (b : Nat) (h : Side SA b) : rune (.c 1) (.s [(8, 1)] 0) 5 (1) (64) 0 0 SA b = true := by
  rcases h with ⟨rfl, rfl⟩ | ⟨rfl, rfl⟩ | ⟨rfl, rfl⟩ | ⟨rfl, rfl⟩ | ⟨rfl, rfl⟩ | ⟨rfl, rfl⟩ | ⟨rfl, rfl⟩ | ⟨rfl, rfl⟩ | ⟨rfl, rfl⟩ | ⟨rfl, rfl⟩ | ⟨rfl, rfl⟩ | ⟨rfl, rfl⟩ | ⟨rfl, rfl⟩
  · exact rt5v1p1a_0
  · exact rt5v1p1a_1
  · exact rt5v1p1a_2
  · exact rt5v1p1a_3
  · exact rt5v1p1a_4
  · exact rt5v1p1a_5
  · exact rt5v1p1a_6
  · exact rt5v1p1a_7
  · exact rt5v1p1a_8
  · exact rt5v1p1a_9
  · exact rt5v1p1a_10
  · exact rt5v1p1a_11
  · exact rt5v1p1a_12
theorem rs5v1p1b (SA : AI) (b : Nat) (h : Side SA b) : rune (.c 1) (.s [(8, 1)] 0) 5 (1) (64) 1 5 SA b = true := by
  rcases h with ⟨rfl, rfl⟩ | ⟨rfl, rfl⟩ | ⟨rfl, rfl⟩ | ⟨rfl, rfl⟩ | ⟨rfl, rfl⟩ | ⟨rfl, rfl⟩ | ⟨rfl, rfl⟩ | ⟨rfl, rfl⟩ | ⟨rfl, rfl⟩ | ⟨rfl, rfl⟩ | ⟨rfl, rfl⟩ | ⟨rfl, rfl⟩ | ⟨rfl, rfl⟩
  · exact rt5v1p1b_0
  · exact rt5v1p1b_1
  · exact rt5v1p1b_2
  · exact rt5v1p1b_3
  · exact rt5v1p1b_4
  · exact rt5v1p1b_5
  · exact rt5v1p1b_6
  · exact rt5v1p1b_7
  · exact rt5v1p1b_8
  · exact rt5v1p1b_9
  · exact rt5v1p1b_10
  · exact rt5v1p1b_11
  · exact rt5v1p1b_12
theorem rs5v1p2a (SA : AI) (b : Nat) (h : Side SA b) : rune (.c 2) (.s [(8, 1)] 0) 5 (1) (64) 0 0 SA b = true := by
  rcases h with ⟨rfl, rfl⟩ | ⟨rfl, rfl⟩ | ⟨rfl, rfl⟩ | ⟨rfl, rfl⟩ | ⟨rfl, rfl⟩ | ⟨rfl, rfl⟩ | ⟨rfl, rfl⟩ | ⟨rfl, rfl⟩ | ⟨rfl, rfl⟩ | ⟨rfl, rfl⟩ | ⟨rfl, rfl⟩ | ⟨rfl, rfl⟩ | ⟨rfl, rfl⟩
  · exact rt5v1p2a_0
  · exact rt5v1p2a_1
  · exact rt5v1p2a_2
  · exact rt5v1p2a_3
  · exact rt5v1p2a_4
  · exact rt5v1p2a_5
  · exact rt5v1p2a_6
  · exact rt5v1p2a_7
  · exact rt5v1p2a_8
  · exact rt5v1p2a_9
  · exact rt5v1p2a_10
  · exact rt5v1p2a_11
  · exact rt5v1p2a_12
theorem rs5v1p2b (SA : AI) (b : Nat) (h : Side SA b) : rune (.c 2) (.s [(8, 1)] 0) 5 (1) (64) 1 5 SA b = true := by
  rcases h with ⟨rfl, rfl⟩ | ⟨rfl, rfl⟩ | ⟨rfl, rfl⟩ | ⟨rfl, rfl⟩ | ⟨rfl, rfl⟩ | ⟨rfl, rfl⟩ | ⟨rfl, rfl⟩ | ⟨rfl, rfl⟩ | ⟨rfl, rfl⟩ | ⟨rfl, rfl⟩ | ⟨rfl, rfl⟩ | ⟨rfl, rfl⟩ | ⟨rfl, rfl⟩
  · exact rt5v1p2b_0
  · exact rt5v1p2b_1
  · exact rt5v1p2b_2
  · exact rt5v1p2b_3
  · exact rt5v1p2b_4
  · exact rt5v1p2b_5
  · exact rt5v1p2b_6
  · exact rt5v1p2b_7
  · exact rt5v1p2b_8
  · exact rt5v1p2b_9
  · exact rt5v1p2b_10
  · exact rt5v1p2b_11
  · exact rt5v1p2b_12
theorem rs5hoo (SA : AI) (b : Nat) (h : Side SA b) : rune (.s [(10, 1)] 0) (.s [(8, 1)] 0) 5 (65) (9223372036854775807) 0 5 SA b = true := by
  rcases h with ⟨rfl, rfl⟩ | ⟨rfl, rfl⟩ | ⟨rfl, rfl⟩ | ⟨rfl, rfl⟩ | ⟨rfl, rfl⟩ | ⟨rfl, rfl⟩ | ⟨rfl, rfl⟩ | ⟨rfl, rfl⟩ | ⟨rfl, rfl⟩ | ⟨rfl, rfl⟩ | ⟨rfl, rfl⟩ | ⟨rfl, rfl⟩ | ⟨rfl, rfl⟩
  · exact rt5hoo_0
  · exact rt5hoo_1
  · exact rt5hoo_2
  · exact rt5hoo_3
  · exact rt5hoo_4
  · exact rt5hoo_5
  · exact rt5hoo_6
  · exact rt5hoo_7
  · exact rt5hoo_8
  · exact rt5hoo_9
  · exact rt5hoo_10
  · exact rt5hoo_11
  · exact rt5hoo_12
theorem rs6loo (SA : AI) (b : Nat) (h : Side SA b) : rune (.s [(10, 1)] 0) (.s [(8, 1)] 0) 6 (-9223372036854775808) (0) 0 5 SA b = true := by
  rcases h with ⟨rfl, rfl⟩ | ⟨rfl, rfl⟩ | ⟨rfl, rfl⟩ | ⟨rfl, rfl⟩ | ⟨rfl, rfl⟩ | ⟨rfl, rfl⟩ | ⟨rfl, rfl⟩ | ⟨rfl, rfl⟩ | ⟨rfl, rfl⟩ | ⟨rfl, rfl⟩ | ⟨rfl, rfl⟩ | ⟨rfl, rfl⟩ | ⟨rfl, rfl⟩
  · exact rt6loo_0
  · exact rt6loo_1
  · exact rt6loo_2
  · exact rt6loo_3
  · exact rt6loo_4
  · exact rt6loo_5
  · exact rt6loo_6
  · exact rt6loo_7
  · exact rt6loo_8
  · exact rt6loo_9
  · exact rt6loo_10
  · exact rt6loo_11
  · exact rt6loo_12
theorem rs6v1p0a (SA : AI) (b : Nat) (h : Side SA b) : rune (.c 0) (.s [(8, 1)] 0) 6 (1) (3) 0 0 SA b = true := by
  rcases h with ⟨rfl, rfl⟩ | ⟨rfl, rfl⟩ | ⟨rfl, rfl⟩ | ⟨rfl, rfl⟩ | ⟨rfl, rfl⟩ | ⟨rfl, rfl⟩ | ⟨rfl, rfl⟩ | ⟨rfl, rfl⟩ | ⟨rfl, rfl⟩ | ⟨rfl, rfl⟩ | ⟨rfl, rfl⟩ | ⟨rfl, rfl⟩ | ⟨rfl, rfl⟩
  · exact rt6v1p0a_0
  · exact rt6v1p0a_1
  · exact rt6v1p0a_2
  · exact rt6v1p0a_3
  · exact rt6v1p0a_4
  · exact rt6v1p0a_5
  · exact rt6v1p0a_6
  · exact rt6v1p0a_7
  · exact rt6v1p0a_8
  · exact rt6v1p0a_9
  · exact rt6v1p0a_10
  · exact rt6v1p0a_11
  · exact rt6v1p0a_12
theorem rs6v1p0b (SA : AI) (b : Nat) (h : Side SA b) : rune (.c 0) (.s [(8, 1)] 0) 6 (1) (3) 1 5 SA b = true := by
  rcases h with ⟨rfl, rfl⟩ | ⟨rfl, rfl⟩ | ⟨rfl, rfl⟩ | ⟨rfl, rfl⟩ | ⟨rfl, rfl⟩ | ⟨rfl, rfl⟩ | ⟨rfl, rfl⟩ | ⟨rfl, rfl⟩ | ⟨rfl, rfl⟩ | ⟨rfl, rfl⟩ | ⟨rfl, rfl⟩ | ⟨rfl, rfl⟩ | ⟨rfl, rfl⟩
  · exact rt6v1p0b_0
  · exact rt6v1p0b_1
  · exact rt6v1p0b_2
  · exact rt6v1p0b_3
  · exact rt6v1p0b_4
  · exact rt6v1p0b_5
  · exact rt6v1p0b_6
  · exact rt6v1p0b_7
  · exact rt6v1p0b_8
  · exact rt6v1p0b_9
  · exact rt6v1p0b_10
  · exact rt6v1p0b_11
  · exact rt6v1p0b_12
theorem rs6v1p1a (SA : AI) (b : Nat) (h : Side SA b) : rune (.c 1) (.s [(8, 1)] 0) 6 (1) (3) 0 0 SA b = true := by
  rcases h with ⟨rfl, rfl⟩ | ⟨rfl, rfl⟩ | ⟨rfl, rfl⟩ | ⟨rfl, rfl⟩ | ⟨rfl, rfl⟩ | ⟨rfl, rfl⟩ | ⟨rfl, rfl⟩ | ⟨rfl, rfl⟩ | ⟨rfl, rfl⟩ | ⟨rfl, rfl⟩ | ⟨rfl, rfl⟩ | ⟨rfl, rfl⟩ | ⟨rfl, rfl⟩
  · exact rt6v1p1a_0
  · exact rt6v1p1a_1
  · exact rt6v1p1a_2
  · exact rt6v1p1a_3
  · exact rt6v1p1a_4
  · exact rt6v1p1a_5
  · exact rt6v1p1a_6
  · exact rt6v1p1a_7
  · exact rt6v1p1a_8
  · exact rt6v1p1a_9
  · exact rt6v1p1a_10
  · exact rt6v1p1a_11
  · exact rt6v1p1a_12
theorem rs6v1p1b (SA : AI) (b : Nat) (h : Side SA b) : rune (.c 1) (.s [(8, 1)] 0) 6 (1) (3) 1 5 SA b = true := by
  rcases h with ⟨rfl, rfl⟩ | ⟨rfl, rfl⟩ | ⟨rfl, rfl⟩ | ⟨rfl, rfl⟩ | ⟨rfl, rfl⟩ | ⟨rfl, rfl⟩ | ⟨rfl, rfl⟩ | ⟨rfl, rfl⟩ | ⟨rfl, rfl⟩ | ⟨rfl, rfl⟩ | ⟨rfl, rfl⟩ | ⟨rfl, rfl⟩ | ⟨rfl, rfl⟩
  · exact rt6v1p1b_0
  · exact rt6v1p1b_1
  · exact rt6v1p1b_2
  · exact rt6v1p1b_3
  · exact rt6v1p1b_4
  · exact rt6v1p1b_5
  · exact rt6v1p1b_6
  · exact rt6v1p1b_7
  · exact rt6v1p1b_8
  · exact rt6v1p1b_9
  · exact rt6v1p1b_10
  · exact rt6v1p1b_11
  · exact rt6v1p1b_12
theorem rs6v1p2a (SA : AI) (b : Nat) (h : Side SA b) : rune (.c 2) (.s [(8, 1)] 0) 6 (1) (3) 0 0 SA b = true := by
  rcases h with ⟨rfl, rfl⟩ | ⟨rfl, rfl⟩ | ⟨rfl, rfl⟩ | ⟨rfl, rfl⟩ | ⟨rfl, rfl⟩ | ⟨rfl, rfl⟩ | ⟨rfl, rfl⟩ | ⟨rfl, rfl⟩ | ⟨rfl, rfl⟩ | ⟨rfl, rfl⟩ | ⟨rfl, rfl⟩ | ⟨rfl, rfl⟩ | ⟨rfl, rfl⟩
  · exact rt6v1p2a_0
  · exact rt6v1p2a_1
  · exact rt6v1p2a_2
  · exact rt6v1p2a_3
  · exact rt6v1p2a_4
  · exact rt6v1p2a_5
  · exact rt6v1p2a_6
  · exact rt6v1p2a_7
  · exact rt6v1p2a_8
  · exact rt6v1p2a_9
  · exact rt6v1p2a_10
  · exact rt6v1p2a_11
  · exact rt6v1p2a_12
theorem rs6v1p2b (SA : AI) (b : Nat) (h : Side SA b) : rune (.c 2) (.s [(8, 1)] 0) 6 (1) (3) 1 5 SA b = true := by
  rcases h with ⟨rfl, rfl⟩ | ⟨rfl, rfl⟩ | ⟨rfl, rfl⟩ | ⟨rfl, rfl⟩ | ⟨rfl, rfl⟩ | ⟨rfl, rfl⟩ | ⟨rfl, rfl⟩ | ⟨rfl, rfl⟩ | ⟨rfl, rfl⟩ | ⟨rfl, rfl⟩ | ⟨rfl, rfl⟩ | ⟨rfl, rfl⟩ | ⟨rfl, rfl⟩
  · exact rt6v1p2b_0
  · exact rt6v1p2b_1
  · exact rt6v1p2b_2
  · exact rt6v1p2b_3
  · exact rt6v1p2b_4
  · exact rt6v1p2b_5
  · exact rt6v1p2b_6
  · exact rt6v1p2b_7
  · exact rt6v1p2b_8
  · exact rt6v1p2b_9
  · exact rt6v1p2b_10
  · exact rt6v1p2b_11
  · exact rt6v1p2b_12
theorem rs6hoo (SA : AI) (b : Nat) (h : Side SA b) : rune (.s [(10, 1)] 0) (.s [(8, 1)] 0) 6 (4) (9223372036854775807) 0 5 SA b = true := by
  rcases h with ⟨rfl, rfl⟩ | ⟨rfl, rfl⟩ | ⟨rfl, rfl⟩ | ⟨rfl, rfl⟩ | ⟨rfl, rfl⟩ | ⟨rfl, rfl⟩ | ⟨rfl, rfl⟩ | ⟨rfl, rfl⟩ | ⟨rfl, rfl⟩ | ⟨rfl, rfl⟩ | ⟨rfl, rfl⟩ | ⟨rfl, rfl⟩ | ⟨rfl, rfl⟩
  · exact rt6hoo_0
  · exact rt6hoo_1
  · exact rt6hoo_2
  · exact rt6hoo_3
  · exact rt6hoo_4
  · exact rt6hoo_5
  · exact rt6hoo_6
  · exact rt6hoo_7
  · exact rt6hoo_8
  · exact rt6hoo_9
  · exact rt6hoo_10
  · exact rt6hoo_11
  · exact rt6hoo_12
theorem rs7xp0a (SA : AI) (b : Nat) (h : Side SA b) : rune (.c 0) (.s [(8, 1)] 0) 7 (-9223372036854775808) (9223372036854775807) 0 0 SA b = true := by
  rcases h with ⟨rfl, rfl⟩ | ⟨rfl, rfl⟩ | ⟨rfl, rfl⟩ | ⟨rfl, rfl⟩ | ⟨rfl, rfl⟩ | ⟨rfl, rfl⟩ | ⟨rfl, rfl⟩ | ⟨rfl, rfl⟩ | ⟨rfl, rfl⟩ | ⟨rfl, rfl⟩ | ⟨rfl, rfl⟩ | ⟨rfl, rfl⟩ | ⟨rfl, rfl⟩
  · exact rt7xp0a_0
  · exact rt7xp0a_1
  · exact rt7xp0a_2
  · exact rt7xp0a_3
  · exact rt7xp0a_4
  · exact rt7xp0a_5
  · exact rt7xp0a_6
  · exact rt7xp0a_7
  · exact rt7xp0a_8
  · exact rt7xp0a_9
  · exact rt7xp0a_10
  · exact rt7xp0a_11
  · exact rt7xp0a_12
theorem rs7xp0b (SA : AI) (b : Nat) (h : Side SA b) : rune (.c 0) (.s [(8, 1)] 0) 7 (-9223372036854775808) (9223372036854775807) 1 5 SA b = true := by
  rcases h with ⟨rfl, rfl⟩ | ⟨rfl, rfl⟩ | ⟨rfl, rfl⟩ | ⟨rfl, rfl⟩ | ⟨rfl, rfl⟩ | ⟨rfl, rfl⟩ | ⟨rfl, rfl⟩ | ⟨rfl, rfl⟩ | ⟨rfl, rfl⟩ | ⟨rfl, rfl⟩ | ⟨rfl, rfl⟩ | ⟨rfl, rfl⟩ | ⟨rfl, rfl⟩
  · exact rt7xp0b_0
  · exact rt7xp0b_1
  · exact rt7xp0b_2
  · exact rt7xp0b_3
  · exact rt7xp0b_4
  · exact rt7xp0b_5
  · exact rt7xp0b_6
  · exact rt7xp0b_7
  · exact rt7xp0b_8
  · exact rt7xp0b_9
  · exact rt7xp0b_10
  · exact rt7xp0b_11
  · exact rt7xp0b_12
theorem rs7xp1a (SA : AI) (b : Nat) (h : Side SA b) : rune (.c 1) (.s [(8, 1)] 0) 7 (-9223372036854775808) (9223372036854775807) 0 0 SA b = true := by
  rcases h with ⟨rfl, rfl⟩ | ⟨rfl, rfl⟩ | ⟨rfl, rfl⟩ | ⟨rfl, rfl⟩ | ⟨rfl, rfl⟩ | ⟨rfl, rfl⟩ | ⟨rfl, rfl⟩ | ⟨rfl, rfl⟩ | ⟨rfl, rfl⟩ | ⟨rfl, rfl⟩ | ⟨rfl, rfl⟩ | ⟨rfl, rfl⟩ | ⟨rfl, rfl⟩
  · exact rt7xp1a_0
  · exact rt7xp1a_1
  · exact rt7xp1a_2
  · exact rt7xp1a_3
  · exact rt7xp1a_4
  · exact rt7xp1a_5
  · exact rt7xp1a_6
  · exact rt7xp1a_7
  · exact rt7xp1a_8
  · exact rt7xp1a_9
  · exact rt7xp1a_10
  · exact rt7xp1a_11
  · exact rt7xp1a_12
theorem rs7xp1b (SA : AI) (b : Nat) (h : Side SA b) : rune (.c 1) (.s [(8, 1)] 0) 7 (-9223372036854775808) (9223372036854775807) 1 5 SA b = true := by
  rcases h with ⟨rfl, rfl⟩ | ⟨rfl, rfl⟩ | ⟨rfl, rfl⟩ | ⟨rfl, rfl⟩ | ⟨rfl, rfl⟩ | ⟨rfl, rfl⟩ | ⟨rfl, rfl⟩ | ⟨rfl, rfl⟩ | ⟨rfl, rfl⟩ | ⟨rfl, rfl⟩ | ⟨rfl, rfl⟩ | ⟨rfl, rfl⟩ | ⟨rfl, rfl⟩
  · exact rt7xp1b_0
  · exact rt7xp1b_1
  · exact rt7xp1b_2
  · exact rt7xp1b_3
  · exact rt7xp1b_4
  · exact rt7xp1b_5
  · exact rt7xp1b_6
  · exact rt7xp1b_7
  · exact rt7xp1b_8
  · exact rt7xp1b_9
  · exact rt7xp1b_10
  · exact rt7xp1b_11
  · exact rt7xp1b_12
theorem rs7xp2a (SA : AI) (b : Nat) (h : Side SA b) : rune (.c 2) (.s [(8, 1)] 0) 7 (-9223372036854775808) (9223372036854775807) 0 0 SA b = true := by
  rcases h with ⟨rfl, rfl⟩ | ⟨rfl, rfl⟩ | ⟨rfl, rfl⟩ | ⟨rfl, rfl⟩ | ⟨rfl, rfl⟩ | ⟨rfl, rfl⟩ | ⟨rfl, rfl⟩ | ⟨rfl, rfl⟩ | ⟨rfl, rfl⟩ | ⟨rfl, rfl⟩ | ⟨rfl, rfl⟩ | ⟨rfl, rfl⟩ | ⟨rfl, rfl⟩
  · exact rt7xp2a_0
  · exact rt7xp2a_1
  · exact rt7xp2a_2
  · exact rt7xp2a_3
  · exact rt7xp2a_4
  · exact rt7xp2a_5
  · exact rt7xp2a_6
  · exact rt7xp2a_7
  · exact rt7xp2a_8
  · exact rt7xp2a_9
  · exact rt7xp2a_10
  · exact rt7xp2a_11
  · exact rt7xp2a_12
theorem rs7xp2b (SA : AI) (b : Nat) (h : Side SA b) : rune (.c 2) (.s [(8, 1)] 0) 7 (-9223372036854775808) (9223372036854775807) 1 5 SA b = true := by
  rcases h with ⟨rfl, rfl⟩ | ⟨rfl, rfl⟩ | ⟨rfl, rfl⟩ | ⟨rfl, rfl⟩ | ⟨rfl, rfl⟩ | ⟨rfl, rfl⟩ | ⟨rfl, rfl⟩ | ⟨rfl, rfl⟩ | ⟨rfl, rfl⟩ | ⟨rfl, rfl⟩ | ⟨rfl, rfl⟩ | ⟨rfl, rfl⟩ | ⟨rfl, rfl⟩
  · exact rt7xp2b_0
  · exact rt7xp2b_1
  · exact rt7xp2b_2
  · exact rt7xp2b_3
  · exact rt7xp2b_4
  · exact rt7xp2b_5
  · exact rt7xp2b_6
  · exact rt7xp2b_7
  · exact rt7xp2b_8
  · exact rt7xp2b_9
  · exact rt7xp2b_10
  · exact rt7xp2b_11
  · exact rt7xp2b_12
theorem rs8xp0a (SA : AI) (b : Nat) (h : Side SA b) : rune (.c 0) (.s [(8, 1)] 0) 8 (-9223372036854775808) (9223372036854775807) 0 0 SA b = true := by
  rcases h with ⟨rfl, rfl⟩ | ⟨rfl, rfl⟩ | ⟨rfl, rfl⟩ | ⟨rfl, rfl⟩ | ⟨rfl, rfl⟩ | ⟨rfl, rfl⟩ | ⟨rfl, rfl⟩ | ⟨rfl, rfl⟩ | ⟨rfl, rfl⟩ | ⟨rfl, rfl⟩ | ⟨rfl, rfl⟩ | ⟨rfl, rfl⟩ | ⟨rfl, rfl⟩
  · exact rt8xp0a_0
  · exact rt8xp0a_1
  · exact rt8xp0a_2
  · exact rt8xp0a_3
  · exact rt8xp0a_4
  · exact rt8xp0a_5
  · exact rt8xp0a_6
  · exact rt8xp0a_7
  · exact rt8xp0a_8
  · exact rt8xp0a_9
  · exact rt8xp0a_10
  · exact rt8xp0a_11
  · exact rt8xp0a_12
theorem rs8xp0b (SA : AI) (b : Nat) (h : Side SA b) : rune (.c 0) (.s [(8, 1)] 0) 8 (-9223372036854775808) (9223372036854775807) 1 5 SA b = true := by
  rcases h with ⟨rfl, rfl⟩ | ⟨rfl, rfl⟩ | ⟨rfl, rfl⟩ | ⟨rfl, rfl⟩ | ⟨rfl, rfl⟩ | ⟨rfl, rfl⟩ | ⟨rfl, rfl⟩ | ⟨rfl, rfl⟩ | ⟨rfl, rfl⟩ | ⟨rfl, rfl⟩ | ⟨rfl, rfl⟩ | ⟨rfl, rfl⟩ | ⟨rfl, rfl⟩
  · exact rt8xp0b_0
  · exact rt8xp0b_1
  · exact rt8xp0b_2
  · exact rt8xp0b_3
  · exact rt8xp0b_4
  · exact rt8xp0b_5
  · exact rt8xp0b_6
  · exact rt8xp0b_7
  · exact rt8xp0b_8
  · exact rt8xp0b_9
  · exact rt8xp0b_10
  · exact rt8xp0b_11
  · exact rt8xp0b_12
theorem rs8xp1a (SA : AI) (b : Nat) (h : Side SA b) : rune (.c 1) (.s [(8, 1)] 0) 8 (-9223372036854775808) (9223372036854775807) 0 0 SA b = true := by
  rcases h with ⟨rfl, rfl⟩ | ⟨rfl, rfl⟩ | ⟨rfl, rfl⟩ | ⟨rfl, rfl⟩ | ⟨rfl, rfl⟩ | ⟨rfl, rfl⟩ | ⟨rfl, rfl⟩ | ⟨rfl, rfl⟩ | ⟨rfl, rfl⟩ | ⟨rfl, rfl⟩ | ⟨rfl, rfl⟩ | ⟨rfl, rfl⟩ | ⟨rfl, rfl⟩
  · exact rt8xp1a_0
  · exact rt8xp1a_1
  · exact rt8xp1a_2
  · exact rt8xp1a_3
  · exact rt8xp1a_4
  · exact rt8xp1a_5
  · exact rt8xp1a_6
  · exact rt8xp1a_7
  · exact rt8xp1a_8
  · exact rt8xp1a_9
  · exact rt8xp1a_10
  · exact rt8xp1a_11
  · exact rt8xp1a_12
theorem rs8xp1b (SA : AI) (b : Nat) (h : Side SA b) : rune (.c 1) (.s [(8, 1)] 0) 8 (-9223372036854775808) (9223372036854775807) 1 5 SA b = true := by
  rcases h with ⟨rfl, rfl⟩ | ⟨rfl, rfl⟩ | ⟨rfl, rfl⟩ | ⟨rfl, rfl⟩ | ⟨rfl, rfl⟩ | ⟨rfl, rfl⟩ | ⟨rfl, rfl⟩ | ⟨rfl, rfl⟩ | ⟨rfl, rfl⟩ | ⟨rfl, rfl⟩ | ⟨rfl, rfl⟩ | ⟨rfl, rfl⟩ | ⟨rfl, rfl⟩
  · exact rt8xp1b_0
  · exact rt8xp1b_1
  · exact rt8xp1b_2
  · exact rt8xp1b_3
  · exact rt8xp1b_4
  · exact rt8xp1b_5
  · exact rt8xp1b_6
  · exact rt8xp1b_7
  · exact rt8xp1b_8
  · exact rt8xp1b_9
  · exact rt8xp1b_10
  · exact rt8xp1b_11
  · exact rt8xp1b_12
theorem rs8xp2a (SA : AI) (b : Nat) (h : Side SA b) : rune (.c 2) (.s [(8, 1)] 0) 8 (-9223372036854775808) (9223372036854775807) 0 0 SA b = true := by
  rcases h with ⟨rfl, rfl⟩ | ⟨rfl, rfl⟩ | ⟨rfl, rfl⟩ | ⟨rfl, rfl⟩ | ⟨rfl, rfl⟩ | ⟨rfl, rfl⟩ | ⟨rfl, rfl⟩ | ⟨rfl, rfl⟩ | ⟨rfl, rfl⟩ | ⟨rfl, rfl⟩ | ⟨rfl, rfl⟩ | ⟨rfl, rfl⟩ | ⟨rfl, rfl⟩
  · exact rt8xp2a_0
  · exact rt8xp2a_1
  · exact rt8xp2a_2
  · exact rt8xp2a_3
  · exact rt8xp2a_4
  · exact rt8xp2a_5
  · exact rt8xp2a_6
  · exact rt8xp2a_7
  · exact rt8xp2a_8
  · exact rt8xp2a_9
  · exact rt8xp2a_10
  · exact rt8xp2a_11
  · exact rt8xp2a_12
theorem rs8xp2b (SA : AI) (b : Nat) (h : Side SA b) : rune (.c 2) (.s [(8, 1)] 0) 8 (-9223372036854775808) (9223372036854775807) 1 5 SA b = true := by
  rcases h with ⟨rfl, rfl⟩ | ⟨rfl, rfl⟩ | ⟨rfl, rfl⟩ | ⟨rfl, rfl⟩ | ⟨rfl, rfl⟩ | ⟨rfl, rfl⟩ | ⟨rfl, rfl⟩ | ⟨rfl, rfl⟩ | ⟨rfl, rfl⟩ | ⟨rfl, rfl⟩ | ⟨rfl, rfl⟩ | ⟨rfl, rfl⟩ | ⟨rfl, rfl⟩
  · exact rt8xp2b_0
  · exact rt8xp2b_1
  · exact rt8xp2b_2
  · exact rt8xp2b_3
  · exact rt8xp2b_4
  · exact rt8xp2b_5
  · exact rt8xp2b_6
  · exact rt8xp2b_7
  · exact rt8xp2b_8
  · exact rt8xp2b_9
  · exact rt8xp2b_10
  · exact rt8xp2b_11
  · exact rt8xp2b_12
end Go.Proofs.Ytkibmjcooffglaa.endChecksRun
