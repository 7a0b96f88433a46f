/- The runs of the law RttBounds, together. -/
import Derived.Test.YtmbimlnanfholaaRttBoundsRun0
import Derived.Test.YtmbimlnanfholaaRttBoundsRun1
import Derived.Test.YtmbimlnanfholaaRttBoundsRun2
import Derived.Test.YtmbimlnanfholaaRttBoundsRun3
import Derived.Test.YtmbimlnanfholaaRttBoundsRun4
import Derived.Test.YtmbimlnanfholaaRttBoundsRun5
import Derived.Test.YtmbimlnanfholaaRttBoundsRun6
import Derived.Test.YtmbimlnanfholaaRttBoundsRun7
namespace Go.Proofs.Ytmbimlnanfholaa.rttBoundsRun
open Go.Vm Go.RowKit
set_option linter.unusedVariables false
set_option linter.unusedSimpArgs false
set_option maxRecDepth 1000000
/-- seven ranges of what is waited for -/
def Iv (lo hi : Int) : Prop := (lo = 1 ∧ hi = 1) ∨ (lo = 2 ∧ hi = 2) ∨ (lo = 3 ∧ hi = 4) ∨ (lo = 5 ∧ hi = 8) ∨ (lo = 9 ∧ hi = 16) ∨ (lo = 17 ∧ hi = 32) ∨ (lo = 33 ∧ hi = 64)
theorem iv (x : Int) (h1 : 1 ≤ x) (h2 : x ≤ 64) : ∃ lo hi, Iv lo hi ∧ lo ≤ x ∧ x ≤ hi := by
  by_cases h0 : x ≤ 1
  · exact ⟨1, 1, .inl ⟨rfl, rfl⟩, by omega, by omega⟩
  by_cases h1 : x ≤ 2
  · exact ⟨2, 2, .inr (.inl ⟨rfl, rfl⟩), by omega, by omega⟩
  by_cases h2 : x ≤ 4
  · exact ⟨3, 4, .inr (.inr (.inl ⟨rfl, rfl⟩)), by omega, by omega⟩
  by_cases h3 : x ≤ 8
  · exact ⟨5, 8, .inr (.inr (.inr (.inl ⟨rfl, rfl⟩))), by omega, by omega⟩
  by_cases h4 : x ≤ 16
  · exact ⟨9, 16, .inr (.inr (.inr (.inr (.inl ⟨rfl, rfl⟩)))), by omega, by omega⟩
  by_cases h5 : x ≤ 32
  · exact ⟨17, 32, .inr (.inr (.inr (.inr (.inr (.inl ⟨rfl, rfl⟩))))), by omega, by omega⟩
  exact ⟨33, 64, .inr (.inr (.inr (.inr (.inr (.inr (⟨rfl, rfl⟩)))))), by omega, by omega⟩
theorem sn (k : Nat) (hk : k < 9) (lo hi : Int) (h : Iv lo hi) : rn k (lo - 1) (hi - 1) = true := by
  rcases (show k = 0 ∨ k = 1 ∨ k = 2 ∨ k = 3 ∨ k = 4 ∨ k = 5 ∨ k = 6 ∨ k = 7 ∨ k = 8 by omega) with rfl | rfl | rfl | rfl | rfl | rfl | rfl | rfl | rfl
  · rcases h with ⟨rfl, rfl⟩ | ⟨rfl, rfl⟩ | ⟨rfl, rfl⟩ | ⟨rfl, rfl⟩ | ⟨rfl, rfl⟩ | ⟨rfl, rfl⟩ | ⟨rfl, rfl⟩
    · exact tn_0_0
    · exact tn_0_1
    · exact tn_0_2
    · exact tn_0_3
    · exact tn_0_4
    · exact tn_0_5
    · exact tn_0_6
  · rcases h with ⟨rfl, rfl⟩ | ⟨rfl, rfl⟩ | ⟨rfl, rfl⟩ | ⟨rfl, rfl⟩ | ⟨rfl, rfl⟩ | ⟨rfl, rfl⟩ | ⟨rfl, rfl⟩
    · exact tn_1_0
    · exact tn_1_1
    · exact tn_1_2
    · exact tn_1_3
    · exact tn_1_4
    · exact tn_1_5
    · exact tn_1_6
  · rcases h with ⟨rfl, rfl⟩ | ⟨rfl, rfl⟩ | ⟨rfl, rfl⟩ | ⟨rfl, rfl⟩ | ⟨rfl, rfl⟩ | ⟨rfl, rfl⟩ | ⟨rfl, rfl⟩
    · exact tn_2_0
    · exact tn_2_1
    · exact tn_2_2
    · exact tn_2_3
    · exact tn_2_4
    · exact tn_2_5
    · exact tn_2_6
  · rcases h with ⟨rfl, rfl⟩ | ⟨rfl, rfl⟩ | ⟨rfl, rfl⟩ | ⟨rfl, rfl⟩ | ⟨rfl, rfl⟩ | ⟨rfl, rfl⟩ | ⟨rfl, rfl⟩
    · exact tn_3_0
    · exact tn_3_1
    · exact tn_3_2
    · exact tn_3_3
    · exact tn_3_4
    · exact tn_3_5
    · exact tn_3_6
  · rcases h with ⟨rfl, rfl⟩ | ⟨rfl, rfl⟩ | ⟨rfl, rfl⟩ | ⟨rfl, rfl⟩ | ⟨rfl, rfl⟩ | ⟨rfl, rfl⟩ | ⟨rfl, rfl⟩
    · exact tn_4_0
    · exact tn_4_1
    · exact tn_4_2
    · exact tn_4_3
    · exact tn_4_4
    · exact tn_4_5
    · exact tn_4_6
  · rcases h with ⟨rfl, rfl⟩ | ⟨rfl, rfl⟩ | ⟨rfl, rfl⟩ | ⟨rfl, rfl⟩ | ⟨rfl, rfl⟩ | ⟨rfl, rfl⟩ | ⟨rfl, rfl⟩
    · exact tn_5_0
    · exact tn_5_1
    · exact tn_5_2
    · exact tn_5_3
    · exact tn_5_4
    · exact tn_5_5
    · exact tn_5_6
  · rcases h with ⟨rfl, rfl⟩ | ⟨rfl, rfl⟩ | ⟨rfl, rfl⟩ | ⟨rfl, rfl⟩ | ⟨rfl, rfl⟩ | ⟨rfl, rfl⟩ | ⟨rfl, rfl⟩
    · exact tn_6_0
    · exact tn_6_1
    · exact tn_6_2
    · exact tn_6_3
    · exact tn_6_4
    · exact tn_6_5
    · exact tn_6_6
  · rcases h with ⟨rfl, rfl⟩ | ⟨rfl, rfl⟩ | ⟨rfl, rfl⟩ | ⟨rfl, rfl⟩ | ⟨rfl, rfl⟩ | ⟨rfl, rfl⟩ | ⟨rfl, rfl⟩
    · exact tn_7_0
    · exact tn_7_1
    · exact tn_7_2
    · exact tn_7_3
    · exact tn_7_4
    · exact tn_7_5
    · exact tn_7_6
  · rcases h with ⟨rfl, rfl⟩ | ⟨rfl, rfl⟩ | ⟨rfl, rfl⟩ | ⟨rfl, rfl⟩ | ⟨rfl, rfl⟩ | ⟨rfl, rfl⟩ | ⟨rfl, rfl⟩
    · exact tn_8_0
    · exact tn_8_1
    · exact tn_8_2
    · exact tn_8_3
    · exact tn_8_4
    · exact tn_8_5
    · exact tn_8_6
theorem se (k : Nat) (hk : k < 9) (lo hi : Int) (h : Iv lo hi) : re k (lo - 1) (hi - 1) = true := by
  rcases (show k = 0 ∨ k = 1 ∨ k = 2 ∨ k = 3 ∨ k = 4 ∨ k = 5 ∨ k = 6 ∨ k = 7 ∨ k = 8 by omega) with rfl | rfl | rfl | rfl | rfl | rfl | rfl | rfl | rfl
  · rcases h with ⟨rfl, rfl⟩ | ⟨rfl, rfl⟩ | ⟨rfl, rfl⟩ | ⟨rfl, rfl⟩ | ⟨rfl, rfl⟩ | ⟨rfl, rfl⟩ | ⟨rfl, rfl⟩
    · exact te_0_0
    · exact te_0_1
    · exact te_0_2
    · exact te_0_3
    · exact te_0_4
    · exact te_0_5
    · exact te_0_6
  · rcases h with ⟨rfl, rfl⟩ | ⟨rfl, rfl⟩ | ⟨rfl, rfl⟩ | ⟨rfl, rfl⟩ | ⟨rfl, rfl⟩ | ⟨rfl, rfl⟩ | ⟨rfl, rfl⟩
    · exact te_1_0
    · exact te_1_1
    · exact te_1_2
    · exact te_1_3
    · exact te_1_4
    · exact te_1_5
    · exact te_1_6
  · rcases h with ⟨rfl, rfl⟩ | ⟨rfl, rfl⟩ | ⟨rfl, rfl⟩ | ⟨rfl, rfl⟩ | ⟨rfl, rfl⟩ | ⟨rfl, rfl⟩ | ⟨rfl, rfl⟩
    · exact te_2_0
    · exact te_2_1
    · exact te_2_2
    · exact te_2_3
    · exact te_2_4
    · exact te_2_5
    · exact te_2_6
  · rcases h with ⟨rfl, rfl⟩ | ⟨rfl, rfl⟩ | ⟨rfl, rfl⟩ | ⟨rfl, rfl⟩ | ⟨rfl, rfl⟩ | ⟨rfl, rfl⟩ | ⟨rfl, rfl⟩
    · exact te_3_0
    · exact te_3_1
    · exact te_3_2
    · exact te_3_3
    · exact te_3_4
    · exact te_3_5
    · exact te_3_6
  · rcases h with ⟨rfl, rfl⟩ | ⟨rfl, rfl⟩ | ⟨rfl, rfl⟩ | ⟨rfl, rfl⟩ | ⟨rfl, rfl⟩ | ⟨rfl, rfl⟩ | ⟨rfl, rfl⟩
    · exact te_4_0
    · exact te_4_1
    · exact te_4_2
    · exact te_4_3
    · exact te_4_4
    · exact te_4_5
    · exact te_4_6
  · rcases h with ⟨rfl, rfl⟩ | ⟨rfl, rfl⟩ | ⟨rfl, rfl⟩ | ⟨rfl, rfl⟩ | ⟨rfl, rfl⟩ | ⟨rfl, rfl⟩ | ⟨rfl, rfl⟩
    · exact te_5_0
    · exact te_5_1
    · exact te_5_2
    · exact te_5_3
    · exact te_5_4
    · exact te_5_5
    · exact te_5_6
  · rcases h with ⟨rfl, rfl⟩ | ⟨rfl, rfl⟩ | ⟨rfl, rfl⟩ | ⟨rfl, rfl⟩ | ⟨rfl, rfl⟩ | ⟨rfl, rfl⟩ | ⟨rfl, rfl⟩
    · exact te_6_0
    · exact te_6_1
    · exact te_6_2
    · exact te_6_3
    · exact te_6_4
    · exact te_6_5
    · exact te_6_6
  · rcases h with ⟨rfl, rfl⟩ | ⟨rfl, rfl⟩ | ⟨rfl, rfl⟩ | ⟨rfl, rfl⟩ | ⟨rfl, rfl⟩ | ⟨rfl, rfl⟩ | ⟨rfl, rfl⟩
    · exact te_7_0
    · exact te_7_1
    · exact te_7_2
    · exact te_7_3
    · exact te_7_4
    · exact te_7_5
    · exact te_7_6
  · rcases h with ⟨rfl, rfl⟩ | ⟨rfl, rfl⟩ | ⟨rfl, rfl⟩ | ⟨rfl, rfl⟩ | ⟨rfl, rfl⟩ | ⟨rfl, rfl⟩ | ⟨rfl, rfl⟩
    · exact te_8_0
    · exact te_8_1
    · exact te_8_2
    · exact te_8_3
    · exact te_8_4
    · exact te_8_5
    · exact te_8_6
theorem sa (k : Nat) (hk : k < 9) (lo hi : Int) (h : Iv lo hi) : ra k (lo) (hi) = true := by
  rcases (show k = 0 ∨ k = 1 ∨ k = 2 ∨ k = 3 ∨ k = 4 ∨ k = 5 ∨ k = 6 ∨ k = 7 ∨ k = 8 by omega) with rfl | rfl | rfl | rfl | rfl | rfl | rfl | rfl | rfl
  · rcases h with ⟨rfl, rfl⟩ | ⟨rfl, rfl⟩ | ⟨rfl, rfl⟩ | ⟨rfl, rfl⟩ | ⟨rfl, rfl⟩ | ⟨rfl, rfl⟩ | ⟨rfl, rfl⟩
    · exact ta_0_0
    · exact ta_0_1
    · exact ta_0_2
    · exact ta_0_3
    · exact ta_0_4
    · exact ta_0_5
    · exact ta_0_6
  · rcases h with ⟨rfl, rfl⟩ | ⟨rfl, rfl⟩ | ⟨rfl, rfl⟩ | ⟨rfl, rfl⟩ | ⟨rfl, rfl⟩ | ⟨rfl, rfl⟩ | ⟨rfl, rfl⟩
    · exact ta_1_0
    · exact ta_1_1
    · exact ta_1_2
    · exact ta_1_3
    · exact ta_1_4
    · exact ta_1_5
    · exact ta_1_6
  · rcases h with ⟨rfl, rfl⟩ | ⟨rfl, rfl⟩ | ⟨rfl, rfl⟩ | ⟨rfl, rfl⟩ | ⟨rfl, rfl⟩ | ⟨rfl, rfl⟩ | ⟨rfl, rfl⟩
    · exact ta_2_0
    · exact ta_2_1
    · exact ta_2_2
    · exact ta_2_3
    · exact ta_2_4
    · exact ta_2_5
    · exact ta_2_6
  · rcases h with ⟨rfl, rfl⟩ | ⟨rfl, rfl⟩ | ⟨rfl, rfl⟩ | ⟨rfl, rfl⟩ | ⟨rfl, rfl⟩ | ⟨rfl, rfl⟩ | ⟨rfl, rfl⟩
    · exact ta_3_0
    · exact ta_3_1
    · exact ta_3_2
    · exact ta_3_3
    · exact ta_3_4
    · exact ta_3_5
    · exact ta_3_6
  · rcases h with ⟨rfl, rfl⟩ | ⟨rfl, rfl⟩ | ⟨rfl, rfl⟩ | ⟨rfl, rfl⟩ | ⟨rfl, rfl⟩ | ⟨rfl, rfl⟩ | ⟨rfl, rfl⟩
    · exact ta_4_0
    · exact ta_4_1
    · exact ta_4_2
    · exact ta_4_3
    · exact ta_4_4
    · exact ta_4_5
    · exact ta_4_6
  · rcases h with ⟨rfl, rfl⟩ | ⟨rfl, rfl⟩ | ⟨rfl, rfl⟩ | ⟨rfl, rfl⟩ | ⟨rfl, rfl⟩ | ⟨rfl, rfl⟩ | ⟨rfl, rfl⟩
    · exact ta_5_0
    · exact ta_5_1
    · exact ta_5_2
    · exact ta_5_3
    · exact ta_5_4
    · exact ta_5_5
    · exact ta_5_6
  · rcases h with ⟨rfl, rfl⟩ | ⟨rfl, rfl⟩ | ⟨rfl, rfl⟩ | ⟨rfl, rfl⟩ | ⟨rfl, rfl⟩ | ⟨rfl, rfl⟩ | ⟨rfl, rfl⟩
    · exact ta_6_0
    · exact ta_6_1
    · exact ta_6_2
    · exact ta_6_3
    · exact ta_6_4
    · exact ta_6_5
    · exact ta_6_6
  · rcases h with ⟨rfl, rfl⟩ | ⟨rfl, rfl⟩ | ⟨rfl, rfl⟩ | ⟨rfl, rfl⟩ | ⟨rfl, rfl⟩ | ⟨rfl, rfl⟩ | ⟨rfl, rfl⟩
    · exact ta_7_0
    · exact ta_7_1
    · exact ta_7_2
    · exact ta_7_3
    · exact ta_7_4
    · exact ta_7_5
    · exact ta_7_6
  · rcases h with ⟨rfl, rfl⟩ | ⟨rfl, rfl⟩ | ⟨rfl, rfl⟩ | ⟨rfl, rfl⟩ | ⟨rfl, rfl⟩ | ⟨rfl, rfl⟩ | ⟨rfl, rfl⟩
    · exact ta_8_0
    · exact ta_8_1
    · exact ta_8_2
    · exact ta_8_3
    · exact ta_8_4
    · exact ta_8_5
    · exact ta_8_6
theorem sl1 (k : Nat) (hk : k < 9) (lo hi : Int) (h : Iv lo hi) : rl 1 k (lo) (hi) = true := by
  rcases (show k = 0 ∨ k = 1 ∨ k = 2 ∨ k = 3 ∨ k = 4 ∨ k = 5 ∨ k = 6 ∨ k = 7 ∨ k = 8 by omega) with rfl | rfl | rfl | rfl | rfl | rfl | rfl | rfl | rfl
  · rcases h with ⟨rfl, rfl⟩ | ⟨rfl, rfl⟩ | ⟨rfl, rfl⟩ | ⟨rfl, rfl⟩ | ⟨rfl, rfl⟩ | ⟨rfl, rfl⟩ | ⟨rfl, rfl⟩
    · exact tl1_0_0
    · exact tl1_0_1
    · exact tl1_0_2
    · exact tl1_0_3
    · exact tl1_0_4
    · exact tl1_0_5
    · exact tl1_0_6
  · rcases h with ⟨rfl, rfl⟩ | ⟨rfl, rfl⟩ | ⟨rfl, rfl⟩ | ⟨rfl, rfl⟩ | ⟨rfl, rfl⟩ | ⟨rfl, rfl⟩ | ⟨rfl, rfl⟩
    · exact tl1_1_0
    · exact tl1_1_1
    · exact tl1_1_2
    · exact tl1_1_3
    · exact tl1_1_4
    · exact tl1_1_5
    · exact tl1_1_6
  · rcases h with ⟨rfl, rfl⟩ | ⟨rfl, rfl⟩ | ⟨rfl, rfl⟩ | ⟨rfl, rfl⟩ | ⟨rfl, rfl⟩ | ⟨rfl, rfl⟩ | ⟨rfl, rfl⟩
    · exact tl1_2_0
    · exact tl1_2_1
    · exact tl1_2_2
    · exact tl1_2_3
    · exact tl1_2_4
    · exact tl1_2_5
    · exact tl1_2_6
  · rcases h with ⟨rfl, rfl⟩ | ⟨rfl, rfl⟩ | ⟨rfl, rfl⟩ | ⟨rfl, rfl⟩ | ⟨rfl, rfl⟩ | ⟨rfl, rfl⟩ | ⟨rfl, rfl⟩
    · exact tl1_3_0
    · exact tl1_3_1
    · exact tl1_3_2
    · exact tl1_3_3
    · exact tl1_3_4
    · exact tl1_3_5
    · exact tl1_3_6
  · rcases h with ⟨rfl, rfl⟩ | ⟨rfl, rfl⟩ | ⟨rfl, rfl⟩ | ⟨rfl, rfl⟩ | ⟨rfl, rfl⟩ | ⟨rfl, rfl⟩ | ⟨rfl, rfl⟩
    · exact tl1_4_0
    · exact tl1_4_1
    · exact tl1_4_2
    · exact tl1_4_3
    · exact tl1_4_4
    · exact tl1_4_5
    · exact tl1_4_6
  · rcases h with ⟨rfl, rfl⟩ | ⟨rfl, rfl⟩ | ⟨rfl, rfl⟩ | ⟨rfl, rfl⟩ | ⟨rfl, rfl⟩ | ⟨rfl, rfl⟩ | ⟨rfl, rfl⟩
    · exact tl1_5_0
    · exact tl1_5_1
    · exact tl1_5_2
    · exact tl1_5_3
    · exact tl1_5_4
    · exact tl1_5_5
    · exact tl1_5_6
  · rcases h with ⟨rfl, rfl⟩ | ⟨rfl, rfl⟩ | ⟨rfl, rfl⟩ | ⟨rfl, rfl⟩ | ⟨rfl, rfl⟩ | ⟨rfl, rfl⟩ | ⟨rfl, rfl⟩
    · exact tl1_6_0
    · exact tl1_6_1
    · exact tl1_6_2
    · exact tl1_6_3
    · exact tl1_6_4
    · exact tl1_6_5
    · exact tl1_6_6
  · rcases h with ⟨rfl, rfl⟩ | ⟨rfl, rfl⟩ | ⟨rfl, rfl⟩ | ⟨rfl, rfl⟩ | ⟨rfl, rfl⟩ | ⟨rfl, rfl⟩ | ⟨rfl, rfl⟩
    · exact tl1_7_0
    · exact tl1_7_1
    · exact tl1_7_2
    · exact tl1_7_3
    · exact tl1_7_4
    · exact tl1_7_5
    · exact tl1_7_6
  · rcases h with ⟨rfl, rfl⟩ | ⟨rfl, rfl⟩ | ⟨rfl, rfl⟩ | ⟨rfl, rfl⟩ | ⟨rfl, rfl⟩ | ⟨rfl, rfl⟩ | ⟨rfl, rfl⟩
    · exact tl1_8_0
    · exact tl1_8_1
    · exact tl1_8_2
    · exact tl1_8_3
    · exact tl1_8_4
    · exact tl1_8_5
    · exact tl1_8_6
theorem sl2 (k : Nat) (hk : k < 9) (lo hi : Int) (h : Iv lo hi) : rl 2 k (lo) (hi) = true := by
  rcases (show k = 0 ∨ k = 1 ∨ k = 2 ∨ k = 3 ∨ k = 4 ∨ k = 5 ∨ k = 6 ∨ k = 7 ∨ k = 8 by omega) with rfl | rfl | rfl | rfl | rfl | rfl | rfl | rfl | rfl
  · rcases h with ⟨rfl, rfl⟩ | ⟨rfl, rfl⟩ | ⟨rfl, rfl⟩ | ⟨rfl, rfl⟩ | ⟨rfl, rfl⟩ | ⟨rfl, rfl⟩ | ⟨rfl, rfl⟩
    · exact tl2_0_0
    · exact tl2_0_1
    · exact tl2_0_2
    · exact tl2_0_3
    · exact tl2_0_4
    · exact tl2_0_5
    · exact tl2_0_6
  · rcases h with ⟨rfl, rfl⟩ | ⟨rfl, rfl⟩ | ⟨rfl, rfl⟩ | ⟨rfl, rfl⟩ | ⟨rfl, rfl⟩ | ⟨rfl, rfl⟩ | ⟨rfl, rfl⟩
    · exact tl2_1_0
    · exact tl2_1_1
    · exact tl2_1_2
    · exact tl2_1_3
    · exact tl2_1_4
    · exact tl2_1_5
    · exact tl2_1_6
  · rcases h with ⟨rfl, rfl⟩ | ⟨rfl, rfl⟩ | ⟨rfl, rfl⟩ | ⟨rfl, rfl⟩ | ⟨rfl, rfl⟩ | ⟨rfl, rfl⟩ | ⟨rfl, rfl⟩
    · exact tl2_2_0
    · exact tl2_2_1
    · exact tl2_2_2
    · exact tl2_2_3
    · exact tl2_2_4
    · exact tl2_2_5
    · exact tl2_2_6
  · rcases h with ⟨rfl, rfl⟩ | ⟨rfl, rfl⟩ | ⟨rfl, rfl⟩ | ⟨rfl, rfl⟩ | ⟨rfl, rfl⟩ | ⟨rfl, rfl⟩ | ⟨rfl, rfl⟩
    · exact tl2_3_0
    · exact tl2_3_1
    · exact tl2_3_2
    · exact tl2_3_3
    · exact tl2_3_4
    · exact tl2_3_5
    · exact tl2_3_6
  · rcases h with ⟨rfl, rfl⟩ | ⟨rfl, rfl⟩ | ⟨rfl, rfl⟩ | ⟨rfl, rfl⟩ | ⟨rfl, rfl⟩ | ⟨rfl, rfl⟩ | ⟨rfl, rfl⟩
    · exact tl2_4_0
    · exact tl2_4_1
    · exact tl2_4_2
    · exact tl2_4_3
    · exact tl2_4_4
    · exact tl2_4_5
    · exact tl2_4_6
  · rcases h with ⟨rfl, rfl⟩ | ⟨rfl, rfl⟩ | ⟨rfl, rfl⟩ | ⟨rfl, rfl⟩ | ⟨rfl, rfl⟩ | ⟨rfl, rfl⟩ | ⟨rfl, rfl⟩
    · exact tl2_5_0
    · exact tl2_5_1
    · exact tl2_5_2
    · exact tl2_5_3
    · exact tl2_5_4
    · exact tl2_5_5
    · exact tl2_5_6
  · rcases h with ⟨rfl, rfl⟩ | ⟨rfl, rfl⟩ | ⟨rfl, rfl⟩ | ⟨rfl, rfl⟩ | ⟨rfl, rfl⟩ | ⟨rfl, rfl⟩ | ⟨rfl, rfl⟩
    · exact tl2_6_0
    · exact tl2_6_1
    · exact tl2_6_2
    · exact tl2_6_3
    · exact tl2_6_4
    · exact tl2_6_5
    · exact tl2_6_6
  · rcases h with ⟨rfl, rfl⟩ | ⟨rfl, rfl⟩ | ⟨rfl, rfl⟩ | ⟨rfl, rfl⟩ | ⟨rfl, rfl⟩ | ⟨rfl, rfl⟩ | ⟨rfl, rfl⟩
    · exact tl2_7_0
    · exact tl2_7_1
    · exact tl2_7_2
    · exact tl2_7_3
    · exact tl2_7_4
    · exact tl2_7_5
    · exact tl2_7_6
  · rcases h with ⟨rfl, rfl⟩ | ⟨rfl, rfl⟩ | ⟨rfl, rfl⟩ | ⟨rfl, rfl⟩ | ⟨rfl, rfl⟩ | ⟨rfl, rfl⟩ | ⟨rfl, rfl⟩
    · exact tl2_8_0
    · exact tl2_8_1
    · exact tl2_8_2
    · exact tl2_8_3
    · exact tl2_8_4
    · exact tl2_8_5
    · exact tl2_8_6
theorem sl3 (k : Nat) (hk : k < 9) (lo hi : Int) (h : Iv lo hi) : rl 3 k (lo) (hi) = true := by
  rcases (show k = 0 ∨ k = 1 ∨ k = 2 ∨ k = 3 ∨ k = 4 ∨ k = 5 ∨ k = 6 ∨ k = 7 ∨ k = 8 by omega) with rfl | rfl | rfl | rfl | rfl | rfl | rfl | rfl | rfl
  · rcases h with ⟨rfl, rfl⟩ | ⟨rfl, rfl⟩ | ⟨rfl, rfl⟩ | ⟨rfl, rfl⟩ | ⟨rfl, rfl⟩ | ⟨rfl, rfl⟩ | ⟨rfl, rfl⟩
    · exact tl3_0_0
    · exact tl3_0_1
    · exact tl3_0_2
    · exact tl3_0_3
    · exact tl3_0_4
    · exact tl3_0_5
    · exact tl3_0_6
  · rcases h with ⟨rfl, rfl⟩ | ⟨rfl, rfl⟩ | ⟨rfl, rfl⟩ | ⟨rfl, rfl⟩ | ⟨rfl, rfl⟩ | ⟨rfl, rfl⟩ | ⟨rfl, rfl⟩
    · exact tl3_1_0
    · exact tl3_1_1
    · exact tl3_1_2
    · exact tl3_1_3
    · exact tl3_1_4
    · exact tl3_1_5
    · exact tl3_1_6
  · rcases h with ⟨rfl, rfl⟩ | ⟨rfl, rfl⟩ | ⟨rfl, rfl⟩ | ⟨rfl, rfl⟩ | ⟨rfl, rfl⟩ | ⟨rfl, rfl⟩ | ⟨rfl, rfl⟩
    · exact tl3_2_0
    · exact tl3_2_1
    · exact tl3_2_2
    · exact tl3_2_3
    · exact tl3_2_4
    · exact tl3_2_5
    · exact tl3_2_6
  · rcases h with ⟨rfl, rfl⟩ | ⟨rfl, rfl⟩ | ⟨rfl, rfl⟩ | ⟨rfl, rfl⟩ | ⟨rfl, rfl⟩ | ⟨rfl, rfl⟩ | ⟨rfl, rfl⟩
    · exact tl3_3_0
    · exact tl3_3_1
    · exact tl3_3_2
    · exact tl3_3_3
    · exact tl3_3_4
    · exact tl3_3_5
    · exact tl3_3_6
  · rcases h with ⟨rfl, rfl⟩ | ⟨rfl, rfl⟩ | ⟨rfl, rfl⟩ | ⟨rfl, rfl⟩ | ⟨rfl, rfl⟩ | ⟨rfl, rfl⟩ | ⟨rfl, rfl⟩
    · exact tl3_4_0
    · exact tl3_4_1
    · exact tl3_4_2
    · exact tl3_4_3
    · exact tl3_4_4
    · exact tl3_4_5
    · exact tl3_4_6
  · rcases h with ⟨rfl, rfl⟩ | ⟨rfl, rfl⟩ | ⟨rfl, rfl⟩ | ⟨rfl, rfl⟩ | ⟨rfl, rfl⟩ | ⟨rfl, rfl⟩ | ⟨rfl, rfl⟩
    · exact tl3_5_0
    · exact tl3_5_1
    · exact tl3_5_2
    · exact tl3_5_3
    · exact tl3_5_4
    · exact tl3_5_5
    · exact tl3_5_6
  · rcases h with ⟨rfl, rfl⟩ | ⟨rfl, rfl⟩ | ⟨rfl, rfl⟩ | ⟨rfl, rfl⟩ | ⟨rfl, rfl⟩ | ⟨rfl, rfl⟩ | ⟨rfl, rfl⟩
    · exact tl3_6_0
    · exact tl3_6_1
    · exact tl3_6_2
    · exact tl3_6_3
    · exact tl3_6_4
    · exact tl3_6_5
    · exact tl3_6_6
  · rcases h with ⟨rfl, rfl⟩ | ⟨rfl, rfl⟩ | ⟨rfl, rfl⟩ | ⟨rfl, rfl⟩ | ⟨rfl, rfl⟩ | ⟨rfl, rfl⟩ | ⟨rfl, rfl⟩
    · exact tl3_7_0
    · exact tl3_7_1
    · exact tl3_7_2
    · exact tl3_7_3
    · exact tl3_7_4
    · exact tl3_7_5
    · exact tl3_7_6
  · rcases h with ⟨rfl, rfl⟩ | ⟨rfl, rfl⟩ | ⟨rfl, rfl⟩ | ⟨rfl, rfl⟩ | ⟨rfl, rfl⟩ | ⟨rfl, rfl⟩ | ⟨rfl, rfl⟩
    · exact tl3_8_0
    · exact tl3_8_1
    · exact tl3_8_2
    · exact tl3_8_3
    · exact tl3_8_4
    · exact tl3_8_5
    · exact tl3_8_6
theorem sl4 (k : Nat) (hk : k < 9) (lo hi : Int) (h : Iv lo hi) : rl 4 k (lo) (hi) = true := by
  rcases (show k = 0 ∨ k = 1 ∨ k = 2 ∨ k = 3 ∨ k = 4 ∨ k = 5 ∨ k = 6 ∨ k = 7 ∨ k = 8 by omega) with rfl | rfl | rfl | rfl | rfl | rfl | rfl | rfl | rfl
  · rcases h with ⟨rfl, rfl⟩ | ⟨rfl, rfl⟩ | ⟨rfl, rfl⟩ | ⟨rfl, rfl⟩ | ⟨rfl, rfl⟩ | ⟨rfl, rfl⟩ | ⟨rfl, rfl⟩
    · exact tl4_0_0
    · exact tl4_0_1
    · exact tl4_0_2
    · exact tl4_0_3
    · exact tl4_0_4
    · exact tl4_0_5
    · exact tl4_0_6
  · rcases h with ⟨rfl, rfl⟩ | ⟨rfl, rfl⟩ | ⟨rfl, rfl⟩ | ⟨rfl, rfl⟩ | ⟨rfl, rfl⟩ | ⟨rfl, rfl⟩ | ⟨rfl, rfl⟩
    · exact tl4_1_0
    · exact tl4_1_1
    · exact tl4_1_2
    · exact tl4_1_3
    · exact tl4_1_4
    · exact tl4_1_5
    · exact tl4_1_6
  · rcases h with ⟨rfl, rfl⟩ | ⟨rfl, rfl⟩ | ⟨rfl, rfl⟩ | ⟨rfl, rfl⟩ | ⟨rfl, rfl⟩ | ⟨rfl, rfl⟩ | ⟨rfl, rfl⟩
    · exact tl4_2_0
    · exact tl4_2_1
    · exact tl4_2_2
    · exact tl4_2_3
    · exact tl4_2_4
    · exact tl4_2_5
    · exact tl4_2_6
  · rcases h with ⟨rfl, rfl⟩ | ⟨rfl, rfl⟩ | ⟨rfl, rfl⟩ | ⟨rfl, rfl⟩ | ⟨rfl, rfl⟩ | ⟨rfl, rfl⟩ | ⟨rfl, rfl⟩
    · exact tl4_3_0
    · exact tl4_3_1
    · exact tl4_3_2
    · exact tl4_3_3
    · exact tl4_3_4
    · exact tl4_3_5
    · exact tl4_3_6
  · rcases h with ⟨rfl, rfl⟩ | ⟨rfl, rfl⟩ | ⟨rfl, rfl⟩ | ⟨rfl, rfl⟩ | ⟨rfl, rfl⟩ | ⟨rfl, rfl⟩ | ⟨rfl, rfl⟩
    · exact tl4_4_0
    · exact tl4_4_1
    · exact tl4_4_2
    · exact tl4_4_3
    · exact tl4_4_4
    · exact tl4_4_5
    · exact tl4_4_6
  · rcases h with ⟨rfl, rfl⟩ | ⟨rfl, rfl⟩ | ⟨rfl, rfl⟩ | ⟨rfl, rfl⟩ | ⟨rfl, rfl⟩ | ⟨rfl, rfl⟩ | ⟨rfl, rfl⟩
    · exact tl4_5_0
    · exact tl4_5_1
    · exact tl4_5_2
    · exact tl4_5_3
    · exact tl4_5_4
    · exact tl4_5_5
    · exact tl4_5_6
  · rcases h with ⟨rfl, rfl⟩ | ⟨rfl, rfl⟩ | ⟨rfl, rfl⟩ | ⟨rfl, rfl⟩ | ⟨rfl, rfl⟩ | ⟨rfl, rfl⟩ | ⟨rfl, rfl⟩
    · exact tl4_6_0
    · exact tl4_6_1
    · exact tl4_6_2
    · exact tl4_6_3
    · exact tl4_6_4
    · exact tl4_6_5
    · exact tl4_6_6
  · rcases h with ⟨rfl, rfl⟩ | ⟨rfl, rfl⟩ | ⟨rfl, rfl⟩ | ⟨rfl, rfl⟩ | ⟨rfl, rfl⟩ | ⟨rfl, rfl⟩ | ⟨rfl, rfl⟩
    · exact tl4_7_0
    · exact tl4_7_1
    · exact tl4_7_2
    · exact tl4_7_3
    · exact tl4_7_4
    · exact tl4_7_5
    · exact tl4_7_6
  · rcases h with ⟨rfl, rfl⟩ | ⟨rfl, rfl⟩ | ⟨rfl, rfl⟩ | ⟨rfl, rfl⟩ | ⟨rfl, rfl⟩ | ⟨rfl, rfl⟩ | ⟨rfl, rfl⟩
    · exact tl4_8_0
    · exact tl4_8_1
    · exact tl4_8_2
    · exact tl4_8_3
    · exact tl4_8_4
    · exact tl4_8_5
    · exact tl4_8_6
theorem sl5 (k : Nat) (hk : k < 9) (lo hi : Int) (h : Iv lo hi) : rl 5 k (lo) (hi) = true := by
  rcases (show k = 0 ∨ k = 1 ∨ k = 2 ∨ k = 3 ∨ k = 4 ∨ k = 5 ∨ k = 6 ∨ k = 7 ∨ k = 8 by omega) with rfl | rfl | rfl | rfl | rfl | rfl | rfl | rfl | rfl
  · rcases h with ⟨rfl, rfl⟩ | ⟨rfl, rfl⟩ | ⟨rfl, rfl⟩ | ⟨rfl, rfl⟩ | ⟨rfl, rfl⟩ | ⟨rfl, rfl⟩ | ⟨rfl, rfl⟩
    · exact tl5_0_0
    · exact tl5_0_1
    · exact tl5_0_2
    · exact tl5_0_3
    · exact tl5_0_4
    · exact tl5_0_5
    · exact tl5_0_6
  · rcases h with ⟨rfl, rfl⟩ | ⟨rfl, rfl⟩ | ⟨rfl, rfl⟩ | ⟨rfl, rfl⟩ | ⟨rfl, rfl⟩ | ⟨rfl, rfl⟩ | ⟨rfl, rfl⟩
    · exact tl5_1_0
    · exact tl5_1_1
    · exact tl5_1_2
    · exact tl5_1_3
    · exact tl5_1_4
    · exact tl5_1_5
    · exact tl5_1_6
  · rcases h with ⟨rfl, rfl⟩ | ⟨rfl, rfl⟩ | ⟨rfl, rfl⟩ | ⟨rfl, rfl⟩ | ⟨rfl, rfl⟩ | ⟨rfl, rfl⟩ | ⟨rfl, rfl⟩
    · exact tl5_2_0
    · exact tl5_2_1
    · exact tl5_2_2
    · exact tl5_2_3
    · exact tl5_2_4
    · exact tl5_2_5
    · exact tl5_2_6
  · rcases h with ⟨rfl, rfl⟩ | ⟨rfl, rfl⟩ | ⟨rfl, rfl⟩ | ⟨rfl, rfl⟩ | ⟨rfl, rfl⟩ | ⟨rfl, rfl⟩ | ⟨rfl, rfl⟩
    · exact tl5_3_0
    · exact tl5_3_1
    · exact tl5_3_2
    · exact tl5_3_3
    · exact tl5_3_4
    · exact tl5_3_5
    · exact tl5_3_6
  · rcases h with ⟨rfl, rfl⟩ | ⟨rfl, rfl⟩ | ⟨rfl, rfl⟩ | ⟨rfl, rfl⟩ | ⟨rfl, rfl⟩ | ⟨rfl, rfl⟩ | ⟨rfl, rfl⟩
    · exact tl5_4_0
    · exact tl5_4_1
    · exact tl5_4_2
    · exact tl5_4_3
    · exact tl5_4_4
    · exact tl5_4_5
    · exact tl5_4_6
  · rcases h with ⟨rfl, rfl⟩ | ⟨rfl, rfl⟩ | ⟨rfl, rfl⟩ | ⟨rfl, rfl⟩ | ⟨rfl, rfl⟩ | ⟨rfl, rfl⟩ | ⟨rfl, rfl⟩
    · exact tl5_5_0
    · exact tl5_5_1
    · exact tl5_5_2
    · exact tl5_5_3
    · exact tl5_5_4
    · exact tl5_5_5
    · exact tl5_5_6
  · rcases h with ⟨rfl, rfl⟩ | ⟨rfl, rfl⟩ | ⟨rfl, rfl⟩ | ⟨rfl, rfl⟩ | ⟨rfl, rfl⟩ | ⟨rfl, rfl⟩ | ⟨rfl, rfl⟩
    · exact tl5_6_0
    · exact tl5_6_1
    · exact tl5_6_2
    · exact tl5_6_3
    · exact tl5_6_4
    · exact tl5_6_5
    · exact tl5_6_6
  · rcases h with ⟨rfl, rfl⟩ | ⟨rfl, rfl⟩ | ⟨rfl, rfl⟩ | ⟨rfl, rfl⟩ | ⟨rfl, rfl⟩ | ⟨rfl, rfl⟩ | ⟨rfl, rfl⟩
    · exact tl5_7_0
    · exact tl5_7_1
    · exact tl5_7_2
    · exact tl5_7_3
    · exact tl5_7_4
    · exact tl5_7_5
    · exact tl5_7_6
  · rcases h with ⟨rfl, rfl⟩ | ⟨rfl, rfl⟩ | ⟨rfl, rfl⟩ | ⟨rfl, rfl⟩ | ⟨rfl, rfl⟩ | ⟨rfl, rfl⟩ | ⟨rfl, rfl⟩
    · exact tl5_8_0
    · exact tl5_8_1
    · exact tl5_8_2
    · exact tl5_8_3
    · exact tl5_8_4
    · exact tl5_8_5
    · exact tl5_8_6
theorem sl6 (k : Nat) (hk : k < 9) (lo hi : Int) (h : Iv lo hi) : rl 6 k (lo) (hi) = true := by
  rcases (show k = 0 ∨ k = 1 ∨ k = 2 ∨ k = 3 ∨ k = 4 ∨ k = 5 ∨ k = 6 ∨ k = 7 ∨ k = 8 by omega) with rfl | rfl | rfl | rfl | rfl | rfl | rfl | rfl | rfl
  · rcases h with ⟨rfl, rfl⟩ | ⟨rfl, rfl⟩ | ⟨rfl, rfl⟩ | ⟨rfl, rfl⟩ | ⟨rfl, rfl⟩ | ⟨rfl, rfl⟩ | ⟨rfl, rfl⟩
    · exact tl6_0_0
    · exact tl6_0_1
    · exact tl6_0_2
    · exact tl6_0_3
    · exact tl6_0_4
    · exact tl6_0_5
    · exact tl6_0_6
  · rcases h with ⟨rfl, rfl⟩ | ⟨rfl, rfl⟩ | ⟨rfl, rfl⟩ | ⟨rfl, rfl⟩ | ⟨rfl, rfl⟩ | ⟨rfl, rfl⟩ | ⟨rfl, rfl⟩
    · exact tl6_1_0
    · exact tl6_1_1
    · exact tl6_1_2
    · exact tl6_1_3
    · exact tl6_1_4
    · exact tl6_1_5
    · exact tl6_1_6
  · rcases h with ⟨rfl, rfl⟩ | ⟨rfl, rfl⟩ | ⟨rfl, rfl⟩ | ⟨rfl, rfl⟩ | ⟨rfl, rfl⟩ | ⟨rfl, rfl⟩ | ⟨rfl, rfl⟩
    · exact tl6_2_0
    · exact tl6_2_1
    · exact tl6_2_2
    · exact tl6_2_3
    · exact tl6_2_4
    · exact tl6_2_5
    · exact tl6_2_6
  · rcases h with ⟨rfl, rfl⟩ | ⟨rfl, rfl⟩ | ⟨rfl, rfl⟩ | ⟨rfl, rfl⟩ | ⟨rfl, rfl⟩ | ⟨rfl, rfl⟩ | ⟨rfl, rfl⟩
    · exact tl6_3_0
    · exact tl6_3_1
    · exact tl6_3_2
    · exact tl6_3_3
    · exact tl6_3_4
    · exact tl6_3_5
    · exact tl6_3_6
  · rcases h with ⟨rfl, rfl⟩ | ⟨rfl, rfl⟩ | ⟨rfl, rfl⟩ | ⟨rfl, rfl⟩ | ⟨rfl, rfl⟩ | ⟨rfl, rfl⟩ | ⟨rfl, rfl⟩
    · exact tl6_4_0
    · exact tl6_4_1
    · exact tl6_4_2
    · exact tl6_4_3
    · exact tl6_4_4
    · exact tl6_4_5
    · exact tl6_4_6
  · rcases h with ⟨rfl, rfl⟩ | ⟨rfl, rfl⟩ | ⟨rfl, rfl⟩ | ⟨rfl, rfl⟩ | ⟨rfl, rfl⟩ | ⟨rfl, rfl⟩ | ⟨rfl, rfl⟩
    · exact tl6_5_0
    · exact tl6_5_1
    · exact tl6_5_2
    · exact tl6_5_3
    · exact tl6_5_4
    · exact tl6_5_5
    · exact tl6_5_6
  · rcases h with ⟨rfl, rfl⟩ | ⟨rfl, rfl⟩ | ⟨rfl, rfl⟩ | ⟨rfl, rfl⟩ | ⟨rfl, rfl⟩ | ⟨rfl, rfl⟩ | ⟨rfl, rfl⟩
    · exact tl6_6_0
    · exact tl6_6_1
    · exact tl6_6_2
    · exact tl6_6_3
    · exact tl6_6_4
    · exact tl6_6_5
    · exact tl6_6_6
  · rcases h with ⟨rfl, rfl⟩ | ⟨rfl, rfl⟩ | ⟨rfl, rfl⟩ | ⟨rfl, rfl⟩ | ⟨rfl, rfl⟩ | ⟨rfl, rfl⟩ | ⟨rfl, rfl⟩
    · exact tl6_7_0
    · exact tl6_7_1
    · exact tl6_7_2
    · exact tl6_7_3
    · exact tl6_7_4
    · exact tl6_7_5
    · exact tl6_7_6
  · rcases h with ⟨rfl, rfl⟩ | ⟨rfl, rfl⟩ | ⟨rfl, rfl⟩ | ⟨rfl, rfl⟩ | ⟨rfl, rfl⟩ | ⟨rfl, rfl⟩ | ⟨rfl, rfl⟩
    · exact tl6_8_0
    · exact tl6_8_1
    · exact tl6_8_2
    · exact tl6_8_3
    · exact tl6_8_4
    · exact tl6_8_5
    · exact tl6_8_6
theorem sl7 (k : Nat) (hk : k < 9) (lo hi : Int) (h : Iv lo hi) : rl 7 k (lo) (hi) = true := by
  rcases (show k = 0 ∨ k = 1 ∨ k = 2 ∨ k = 3 ∨ k = 4 ∨ k = 5 ∨ k = 6 ∨ k = 7 ∨ k = 8 by omega) with rfl | rfl | rfl | rfl | rfl | rfl | rfl | rfl | rfl
  · rcases h with ⟨rfl, rfl⟩ | ⟨rfl, rfl⟩ | ⟨rfl, rfl⟩ | ⟨rfl, rfl⟩ | ⟨rfl, rfl⟩ | ⟨rfl, rfl⟩ | ⟨rfl, rfl⟩
    · exact tl7_0_0
    · exact tl7_0_1
    · exact tl7_0_2
    · exact tl7_0_3
    · exact tl7_0_4
    · exact tl7_0_5
    · exact tl7_0_6
  · rcases h with ⟨rfl, rfl⟩ | ⟨rfl, rfl⟩ | ⟨rfl, rfl⟩ | ⟨rfl, rfl⟩ | ⟨rfl, rfl⟩ | ⟨rfl, rfl⟩ | ⟨rfl, rfl⟩
    · exact tl7_1_0
    · exact tl7_1_1
    · exact tl7_1_2
    · exact tl7_1_3
    · exact tl7_1_4
    · exact tl7_1_5
    · exact tl7_1_6
  · rcases h with ⟨rfl, rfl⟩ | ⟨rfl, rfl⟩ | ⟨rfl, rfl⟩ | ⟨rfl, rfl⟩ | ⟨rfl, rfl⟩ | ⟨rfl, rfl⟩ | ⟨rfl, rfl⟩
    · exact tl7_2_0
    · exact tl7_2_1
    · exact tl7_2_2
    · exact tl7_2_3
    · exact tl7_2_4
    · exact tl7_2_5
    · exact tl7_2_6
  · rcases h with ⟨rfl, rfl⟩ | ⟨rfl, rfl⟩ | ⟨rfl, rfl⟩ | ⟨rfl, rfl⟩ | ⟨rfl, rfl⟩ | ⟨rfl, rfl⟩ | ⟨rfl, rfl⟩
    · exact tl7_3_0
    · exact tl7_3_1
    · exact tl7_3_2
    · exact tl7_3_3
    · exact tl7_3_4
    · exact tl7_3_5
    · exact tl7_3_6
  · rcases h with ⟨rfl, rfl⟩ | ⟨rfl, rfl⟩ | ⟨rfl, rfl⟩ | ⟨rfl, rfl⟩ | ⟨rfl, rfl⟩ | ⟨rfl, rfl⟩ | ⟨rfl, rfl⟩
    · exact tl7_4_0
    · exact tl7_4_1
    · exact tl7_4_2
    · exact tl7_4_3
    · exact tl7_4_4
    · exact tl7_4_5
    · exact tl7_4_6
  · rcases h with ⟨rfl, rfl⟩ | ⟨rfl, rfl⟩ | ⟨rfl, rfl⟩ | ⟨rfl, rfl⟩ | ⟨rfl, rfl⟩ | ⟨rfl, rfl⟩ | ⟨rfl, rfl⟩
    · exact tl7_5_0
    · exact tl7_5_1
    · exact tl7_5_2
    · exact tl7_5_3
    · exact tl7_5_4
    · exact tl7_5_5
    · exact tl7_5_6
  · rcases h with ⟨rfl, rfl⟩ | ⟨rfl, rfl⟩ | ⟨rfl, rfl⟩ | ⟨rfl, rfl⟩ | ⟨rfl, rfl⟩ | ⟨rfl, rfl⟩ | ⟨rfl, rfl⟩
    · exact tl7_6_0
    · exact tl7_6_1
    · exact tl7_6_2
    · exact tl7_6_3
    · exact tl7_6_4
    · exact tl7_6_5
    · exact tl7_6_6
  · rcases h with ⟨rfl, rfl⟩ | ⟨rfl, rfl⟩ | ⟨rfl, rfl⟩ | ⟨rfl, rfl⟩ | ⟨rfl, rfl⟩ | ⟨rfl, rfl⟩ | ⟨rfl, rfl⟩
    · exact tl7_7_0
    · exact tl7_7_1
    · exact tl7_7_2
    · exact tl7_7_3
    · exact tl7_7_4
    · exact tl7_7_5
    · exact tl7_7_6
  · rcases h with ⟨rfl, rfl⟩ | ⟨rfl, rfl⟩ | ⟨rfl, rfl⟩ | ⟨rfl, rfl⟩ | ⟨rfl, rfl⟩ | ⟨rfl, rfl⟩ | ⟨rfl, rfl⟩
    · exact tl7_8_0
    · exact tl7_8_1
    · exact tl7_8_2
    · exact tl7_8_3
    · exact tl7_8_4
    · exact tl7_8_5
    · exact tl7_8_6
theorem sl8 (k : Nat) (hk : k < 9) (lo hi : Int) (h : Iv lo hi) : rl 8 k (lo) (hi) = true := by
  rcases (show k = 0 ∨ k = 1 ∨ k = 2 ∨ k = 3 ∨ k = 4 ∨ k = 5 ∨ k = 6 ∨ k = 7 ∨ k = 8 by omega) with rfl | rfl | rfl | rfl | rfl | rfl | rfl | rfl | rfl
  · rcases h with ⟨rfl, rfl⟩ | ⟨rfl, rfl⟩ | ⟨rfl, rfl⟩ | ⟨rfl, rfl⟩ | ⟨rfl, rfl⟩ | ⟨rfl, rfl⟩ | ⟨rfl, rfl⟩
    · exact tl8_0_0
    · exact tl8_0_1
    · exact tl8_0_2
    · exact tl8_0_3
    · exact tl8_0_4
    · exact tl8_0_5
    · exact tl8_0_6
  · rcases h with ⟨rfl, rfl⟩ | ⟨rfl, rfl⟩ | ⟨rfl, rfl⟩ | ⟨rfl, rfl⟩ | ⟨rfl, rfl⟩ | ⟨rfl, rfl⟩ | ⟨rfl, rfl⟩
    · exact tl8_1_0
    · exact tl8_1_1
    · exact tl8_1_2
    · exact tl8_1_3
    · exact tl8_1_4
    · exact tl8_1_5
    · exact tl8_1_6
  · rcases h with ⟨rfl, rfl⟩ | ⟨rfl, rfl⟩ | ⟨rfl, rfl⟩ | ⟨rfl, rfl⟩ | ⟨rfl, rfl⟩ | ⟨rfl, rfl⟩ | ⟨rfl, rfl⟩
    · exact tl8_2_0
    · exact tl8_2_1
    · exact tl8_2_2
    · exact tl8_2_3
    · exact tl8_2_4
    · exact tl8_2_5
    · exact tl8_2_6
  · rcases h with ⟨rfl, rfl⟩ | ⟨rfl, rfl⟩ | ⟨rfl, rfl⟩ | ⟨rfl, rfl⟩ | ⟨rfl, rfl⟩ | ⟨rfl, rfl⟩ | ⟨rfl, rfl⟩
    · exact tl8_3_0
    · exact tl8_3_1
    · exact tl8_3_2
    · exact tl8_3_3
    · exact tl8_3_4
    · exact tl8_3_5
    · exact tl8_3_6
  · rcases h with ⟨rfl, rfl⟩ | ⟨rfl, rfl⟩ | ⟨rfl, rfl⟩ | ⟨rfl, rfl⟩ | ⟨rfl, rfl⟩ | ⟨rfl, rfl⟩ | ⟨rfl, rfl⟩
    · exact tl8_4_0
    · exact tl8_4_1
    · exact tl8_4_2
    · exact tl8_4_3
    · exact tl8_4_4
    · exact tl8_4_5
    · exact tl8_4_6
  · rcases h with ⟨rfl, rfl⟩ | ⟨rfl, rfl⟩ | ⟨rfl, rfl⟩ | ⟨rfl, rfl⟩ | ⟨rfl, rfl⟩ | ⟨rfl, rfl⟩ | ⟨rfl, rfl⟩
    · exact tl8_5_0
    · exact tl8_5_1
    · exact tl8_5_2
    · exact tl8_5_3
    · exact tl8_5_4
    · exact tl8_5_5
    · exact tl8_5_6
  · rcases h with ⟨rfl, rfl⟩ | ⟨rfl, rfl⟩ | ⟨rfl, rfl⟩ | ⟨rfl, rfl⟩ | ⟨rfl, rfl⟩ | ⟨rfl, rfl⟩ | ⟨rfl, rfl⟩
    · exact tl8_6_0
    · exact tl8_6_1
    · exact tl8_6_2
    · exact tl8_6_3
    · exact tl8_6_4
    · exact tl8_6_5
    · exact tl8_6_6
  · rcases h with ⟨rfl, rfl⟩ | ⟨rfl, rfl⟩ | ⟨rfl, rfl⟩ | ⟨rfl, rfl⟩ | ⟨rfl, rfl⟩ | ⟨rfl, rfl⟩ | ⟨rfl, rfl⟩
    · exact tl8_7_0
    · exact tl8_7_1
    · exact tl8_7_2
    · exact tl8_7_3
    · exact tl8_7_4
    · exact tl8_7_5
    · exact tl8_7_6
  · rcases h with ⟨rfl, rfl⟩ | ⟨rfl, rfl⟩ | ⟨rfl, rfl⟩ | ⟨rfl, rfl⟩ | ⟨rfl, rfl⟩ | ⟨rfl, rfl⟩ | ⟨rfl, rfl⟩
    · exact tl8_8_0
    · exact tl8_8_1
    · exact tl8_8_2
    · exact tl8_8_3
    · exact tl8_8_4
    · exact tl8_8_5
    · exact tl8_8_6
theorem sl9 (k : Nat) (hk : k < 9) (lo hi : Int) (h : Iv lo hi) : rl 9 k (lo) (hi) = true := by
  rcases (show k = 0 ∨ k = 1 ∨ k = 2 ∨ k = 3 ∨ k = 4 ∨ k = 5 ∨ k = 6 ∨ k = 7 ∨ k = 8 by omega) with rfl | rfl | rfl | rfl | rfl | rfl | rfl | rfl | rfl
  · rcases h with ⟨rfl, rfl⟩ | ⟨rfl, rfl⟩ | ⟨rfl, rfl⟩ | ⟨rfl, rfl⟩ | ⟨rfl, rfl⟩ | ⟨rfl, rfl⟩ | ⟨rfl, rfl⟩
    · exact tl9_0_0
    · exact tl9_0_1
    · exact tl9_0_2
    · exact tl9_0_3
    · exact tl9_0_4
    · exact tl9_0_5
    · exact tl9_0_6
  · rcases h with ⟨rfl, rfl⟩ | ⟨rfl, rfl⟩ | ⟨rfl, rfl⟩ | ⟨rfl, rfl⟩ | ⟨rfl, rfl⟩ | ⟨rfl, rfl⟩ | ⟨rfl, rfl⟩
    · exact tl9_1_0
    · exact tl9_1_1
    · exact tl9_1_2
    · exact tl9_1_3
    · exact tl9_1_4
    · exact tl9_1_5
    · exact tl9_1_6
  · rcases h with ⟨rfl, rfl⟩ | ⟨rfl, rfl⟩ | ⟨rfl, rfl⟩ | ⟨rfl, rfl⟩ | ⟨rfl, rfl⟩ | ⟨rfl, rfl⟩ | ⟨rfl, rfl⟩
    · exact tl9_2_0
    · exact tl9_2_1
    · exact tl9_2_2
    · exact tl9_2_3
    · exact tl9_2_4
    · exact tl9_2_5
    · exact tl9_2_6
  · rcases h with ⟨rfl, rfl⟩ | ⟨rfl, rfl⟩ | ⟨rfl, rfl⟩ | ⟨rfl, rfl⟩ | ⟨rfl, rfl⟩ | ⟨rfl, rfl⟩ | ⟨rfl, rfl⟩
    · exact tl9_3_0
    · exact tl9_3_1
    · exact tl9_3_2
    · exact tl9_3_3
    · exact tl9_3_4
    · exact tl9_3_5
    · exact tl9_3_6
  · rcases h with ⟨rfl, rfl⟩ | ⟨rfl, rfl⟩ | ⟨rfl, rfl⟩ | ⟨rfl, rfl⟩ | ⟨rfl, rfl⟩ | ⟨rfl, rfl⟩ | ⟨rfl, rfl⟩
    · exact tl9_4_0
    · exact tl9_4_1
    · exact tl9_4_2
    · exact tl9_4_3
    · exact tl9_4_4
    · exact tl9_4_5
    · exact tl9_4_6
  · rcases h with ⟨rfl, rfl⟩ | ⟨rfl, rfl⟩ | ⟨rfl, rfl⟩ | ⟨rfl, rfl⟩ | ⟨rfl, rfl⟩ | ⟨rfl, rfl⟩ | ⟨rfl, rfl⟩
    · exact tl9_5_0
    · exact tl9_5_1
    · exact tl9_5_2
    · exact tl9_5_3
    · exact tl9_5_4
    · exact tl9_5_5
    · exact tl9_5_6
  · rcases h with ⟨rfl, rfl⟩ | ⟨rfl, rfl⟩ | ⟨rfl, rfl⟩ | ⟨rfl, rfl⟩ | ⟨rfl, rfl⟩ | ⟨rfl, rfl⟩ | ⟨rfl, rfl⟩
    · exact tl9_6_0
    · exact tl9_6_1
    · exact tl9_6_2
    · exact tl9_6_3
    · exact tl9_6_4
    · exact tl9_6_5
    · exact tl9_6_6
  · rcases h with ⟨rfl, rfl⟩ | ⟨rfl, rfl⟩ | ⟨rfl, rfl⟩ | ⟨rfl, rfl⟩ | ⟨rfl, rfl⟩ | ⟨rfl, rfl⟩ | ⟨rfl, rfl⟩
    · exact tl9_7_0
    · exact tl9_7_1
    · exact tl9_7_2
    · exact tl9_7_3
    · exact tl9_7_4
    · exact tl9_7_5
    · exact tl9_7_6
  · rcases h with ⟨rfl, rfl⟩ | ⟨rfl, rfl⟩ | ⟨rfl, rfl⟩ | ⟨rfl, rfl⟩ | ⟨rfl, rfl⟩ | ⟨rfl, rfl⟩ | ⟨rfl, rfl⟩
    · exact tl9_8_0
    · exact tl9_8_1
    · exact tl9_8_2
    · exact tl9_8_3
    · exact tl9_8_4
    · exact tl9_8_5
    · exact tl9_8_6
theorem sl10 (k : Nat) (hk : k < 9) (lo hi : Int) (h : Iv lo hi) : rl 10 k (lo) (hi) = true := by
  rcases (show k = 0 ∨ k = 1 ∨ k = 2 ∨ k = 3 ∨ k = 4 ∨ k = 5 ∨ k = 6 ∨ k = 7 ∨ k = 8 by omega) with rfl | rfl | rfl | rfl | rfl | rfl | rfl | rfl | rfl
  · rcases h with ⟨rfl, rfl⟩ | ⟨rfl, rfl⟩ | ⟨rfl, rfl⟩ | ⟨rfl, rfl⟩ | ⟨rfl, rfl⟩ | ⟨rfl, rfl⟩ | ⟨rfl, rfl⟩
    · exact tl10_0_0
    · exact tl10_0_1
    · exact tl10_0_2
    · exact tl10_0_3
    · exact tl10_0_4
    · exact tl10_0_5
    · exact tl10_0_6
  · rcases h with ⟨rfl, rfl⟩ | ⟨rfl, rfl⟩ | ⟨rfl, rfl⟩ | ⟨rfl, rfl⟩ | ⟨rfl, rfl⟩ | ⟨rfl, rfl⟩ | ⟨rfl, rfl⟩
    · exact tl10_1_0
    · exact tl10_1_1
    · exact tl10_1_2
    · exact tl10_1_3
    · exact tl10_1_4
    · exact tl10_1_5
    · exact tl10_1_6
  · rcases h with ⟨rfl, rfl⟩ | ⟨rfl, rfl⟩ | ⟨rfl, rfl⟩ | ⟨rfl, rfl⟩ | ⟨rfl, rfl⟩ | ⟨rfl, rfl⟩ | ⟨rfl, rfl⟩
    · exact tl10_2_0
    · exact tl10_2_1
    · exact tl10_2_2
    · exact tl10_2_3
    · exact tl10_2_4
    · exact tl10_2_5
    · exact tl10_2_6
  · rcases h with ⟨rfl, rfl⟩ | ⟨rfl, rfl⟩ | ⟨rfl, rfl⟩ | ⟨rfl, rfl⟩ | ⟨rfl, rfl⟩ | ⟨rfl, rfl⟩ | ⟨rfl, rfl⟩
    · exact tl10_3_0
    · exact tl10_3_1
    · exact tl10_3_2
    · exact tl10_3_3
    · exact tl10_3_4
    · exact tl10_3_5
    · exact tl10_3_6
  · rcases h with ⟨rfl, rfl⟩ | ⟨rfl, rfl⟩ | ⟨rfl, rfl⟩ | ⟨rfl, rfl⟩ | ⟨rfl, rfl⟩ | ⟨rfl, rfl⟩ | ⟨rfl, rfl⟩
    · exact tl10_4_0
    · exact tl10_4_1
    · exact tl10_4_2
    · exact tl10_4_3
    · exact tl10_4_4
    · exact tl10_4_5
    · exact tl10_4_6
  · rcases h with ⟨rfl, rfl⟩ | ⟨rfl, rfl⟩ | ⟨rfl, rfl⟩ | ⟨rfl, rfl⟩ | ⟨rfl, rfl⟩ | ⟨rfl, rfl⟩ | ⟨rfl, rfl⟩
    · exact tl10_5_0
    · exact tl10_5_1
    · exact tl10_5_2
    · exact tl10_5_3
    · exact tl10_5_4
    · exact tl10_5_5
    · exact tl10_5_6
  · rcases h with ⟨rfl, rfl⟩ | ⟨rfl, rfl⟩ | ⟨rfl, rfl⟩ | ⟨rfl, rfl⟩ | ⟨rfl, rfl⟩ | ⟨rfl, rfl⟩ | ⟨rfl, rfl⟩
    · exact tl10_6_0
    · exact tl10_6_1
    · exact tl10_6_2
    · exact tl10_6_3
    · exact tl10_6_4
    · exact tl10_6_5
    · exact tl10_6_6
  · rcases h with ⟨rfl, rfl⟩ | ⟨rfl, rfl⟩ | ⟨rfl, rfl⟩ | ⟨rfl, rfl⟩ | ⟨rfl, rfl⟩ | ⟨rfl, rfl⟩ | ⟨rfl, rfl⟩
    · exact tl10_7_0
    · exact tl10_7_1
    · exact tl10_7_2
    · exact tl10_7_3
    · exact tl10_7_4
    · exact tl10_7_5
    · exact tl10_7_6
  · rcases h with ⟨rfl, rfl⟩ | ⟨rfl, rfl⟩ | ⟨rfl, rfl⟩ | ⟨rfl, rfl⟩ | ⟨rfl, rfl⟩ | ⟨rfl, rfl⟩ | ⟨rfl, rfl⟩
    · exact tl10_8_0
    · exact tl10_8_1
    · exact tl10_8_2
    · exact tl10_8_3
    · exact tl10_8_4
    · exact tl10_8_5
    · exact tl10_8_6
theorem sl11 (k : Nat) (hk : k < 9) (lo hi : Int) (h : Iv lo hi) : rl 11 k (lo) (hi) = true := by
  rcases (show k = 0 ∨ k = 1 ∨ k = 2 ∨ k = 3 ∨ k = 4 ∨ k = 5 ∨ k = 6 ∨ k = 7 ∨ k = 8 by omega) with rfl | rfl | rfl | rfl | rfl | rfl | rfl | rfl | rfl
  · rcases h with ⟨rfl, rfl⟩ | ⟨rfl, rfl⟩ | ⟨rfl, rfl⟩ | ⟨rfl, rfl⟩ | ⟨rfl, rfl⟩ | ⟨rfl, rfl⟩ | ⟨rfl, rfl⟩
    · exact tl11_0_0
    · exact tl11_0_1
    · exact tl11_0_2
    · exact tl11_0_3
    · exact tl11_0_4
    · exact tl11_0_5
    · exact tl11_0_6
  · rcases h with ⟨rfl, rfl⟩ | ⟨rfl, rfl⟩ | ⟨rfl, rfl⟩ | ⟨rfl, rfl⟩ | ⟨rfl, rfl⟩ | ⟨rfl, rfl⟩ | ⟨rfl, rfl⟩
    · exact tl11_1_0
    · exact tl11_1_1
    · exact tl11_1_2
    · exact tl11_1_3
    · exact tl11_1_4
    · exact tl11_1_5
    · exact tl11_1_6
  · rcases h with ⟨rfl, rfl⟩ | ⟨rfl, rfl⟩ | ⟨rfl, rfl⟩ | ⟨rfl, rfl⟩ | ⟨rfl, rfl⟩ | ⟨rfl, rfl⟩ | ⟨rfl, rfl⟩
    · exact tl11_2_0
    · exact tl11_2_1
    · exact tl11_2_2
    · exact tl11_2_3
    · exact tl11_2_4
    · exact tl11_2_5
    · exact tl11_2_6
  · rcases h with ⟨rfl, rfl⟩ | ⟨rfl, rfl⟩ | ⟨rfl, rfl⟩ | ⟨rfl, rfl⟩ | ⟨rfl, rfl⟩ | ⟨rfl, rfl⟩ | ⟨rfl, rfl⟩
    · exact tl11_3_0
    · exact tl11_3_1
    · exact tl11_3_2
    · exact tl11_3_3
    · exact tl11_3_4
    · exact tl11_3_5
    · exact tl11_3_6
  · rcases h with ⟨rfl, rfl⟩ | ⟨rfl, rfl⟩ | ⟨rfl, rfl⟩ | ⟨rfl, rfl⟩ | ⟨rfl, rfl⟩ | ⟨rfl, rfl⟩ | ⟨rfl, rfl⟩
    · exact tl11_4_0
    · exact tl11_4_1
    · exact tl11_4_2
    · exact tl11_4_3
    · exact tl11_4_4
    · exact tl11_4_5
    · exact tl11_4_6
  · rcases h with ⟨rfl, rfl⟩ | ⟨rfl, rfl⟩ | ⟨rfl, rfl⟩ | ⟨rfl, rfl⟩ | ⟨rfl, rfl⟩ | ⟨rfl, rfl⟩ | ⟨rfl, rfl⟩
    · exact tl11_5_0
    · exact tl11_5_1
    · exact tl11_5_2
    · exact tl11_5_3
    · exact tl11_5_4
    · exact tl11_5_5
    · exact tl11_5_6
  · rcases h with ⟨rfl, rfl⟩ | ⟨rfl, rfl⟩ | ⟨rfl, rfl⟩ | ⟨rfl, rfl⟩ | ⟨rfl, rfl⟩ | ⟨rfl, rfl⟩ | ⟨rfl, rfl⟩
    · exact tl11_6_0
    · exact tl11_6_1
    · exact tl11_6_2
    · exact tl11_6_3
    · exact tl11_6_4
    · exact tl11_6_5
    · exact tl11_6_6
  · rcases h with ⟨rfl, rfl⟩ | ⟨rfl, rfl⟩ | ⟨rfl, rfl⟩ | ⟨rfl, rfl⟩ | ⟨rfl, rfl⟩ | ⟨rfl, rfl⟩ | ⟨rfl, rfl⟩
    · exact tl11_7_0
    · exact tl11_7_1
    · exact tl11_7_2
    · exact tl11_7_3
    · exact tl11_7_4
    · exact tl11_7_5
    · exact tl11_7_6
  · rcases h with ⟨rfl, rfl⟩ | ⟨rfl, rfl⟩ | ⟨rfl, rfl⟩ | ⟨rfl, rfl⟩ | ⟨rfl, rfl⟩ | ⟨rfl, rfl⟩ | ⟨rfl, rfl⟩
    · exact tl11_8_0
    · exact tl11_8_1
    · exact tl11_8_2
    · exact tl11_8_3
    · exact tl11_8_4
    · exact tl11_8_5
    · exact tl11_8_6
theorem sl12 (k : Nat) (hk : k < 9) (lo hi : Int) (h : Iv lo hi) : rl 12 k (lo) (hi) = true := by
  rcases (show k = 0 ∨ k = 1 ∨ k = 2 ∨ k = 3 ∨ k = 4 ∨ k = 5 ∨ k = 6 ∨ k = 7 ∨ k = 8 by omega) with rfl | rfl | rfl | rfl | rfl | rfl | rfl | rfl | rfl
  · rcases h with ⟨rfl, rfl⟩ | ⟨rfl, rfl⟩ | ⟨rfl, rfl⟩ | ⟨rfl, rfl⟩ | ⟨rfl, rfl⟩ | ⟨rfl, rfl⟩ | ⟨rfl, rfl⟩
    · exact tl12_0_0
    · exact tl12_0_1
    · exact tl12_0_2
    · exact tl12_0_3
    · exact tl12_0_4
    · exact tl12_0_5
    · exact tl12_0_6
  · rcases h with ⟨rfl, rfl⟩ | ⟨rfl, rfl⟩ | ⟨rfl, rfl⟩ | ⟨rfl, rfl⟩ | ⟨rfl, rfl⟩ | ⟨rfl, rfl⟩ | ⟨rfl, rfl⟩
    · exact tl12_1_0
    · exact tl12_1_1
    · exact tl12_1_2
    · exact tl12_1_3
    · exact tl12_1_4
    · exact tl12_1_5
    · exact tl12_1_6
  · rcases h with ⟨rfl, rfl⟩ | ⟨rfl, rfl⟩ | ⟨rfl, rfl⟩ | ⟨rfl, rfl⟩ | ⟨rfl, rfl⟩ | ⟨rfl, rfl⟩ | ⟨rfl, rfl⟩
    · exact tl12_2_0
    · exact tl12_2_1
    · exact tl12_2_2
    · exact tl12_2_3
    · exact tl12_2_4
    · exact tl12_2_5
    · exact tl12_2_6
  · rcases h with ⟨rfl, rfl⟩ | ⟨rfl, rfl⟩ | ⟨rfl, rfl⟩ | ⟨rfl, rfl⟩ | ⟨rfl, rfl⟩ | ⟨rfl, rfl⟩ | ⟨rfl, rfl⟩
    · exact tl12_3_0
    · exact tl12_3_1
    · exact tl12_3_2
    · exact tl12_3_3
    · exact tl12_3_4
    · exact tl12_3_5
    · exact tl12_3_6
  · rcases h with ⟨rfl, rfl⟩ | ⟨rfl, rfl⟩ | ⟨rfl, rfl⟩ | ⟨rfl, rfl⟩ | ⟨rfl, rfl⟩ | ⟨rfl, rfl⟩ | ⟨rfl, rfl⟩
    · exact tl12_4_0
    · exact tl12_4_1
    · exact tl12_4_2
    · exact tl12_4_3
    · exact tl12_4_4
    · exact tl12_4_5
    · exact tl12_4_6
  · rcases h with ⟨rfl, rfl⟩ | ⟨rfl, rfl⟩ | ⟨rfl, rfl⟩ | ⟨rfl, rfl⟩ | ⟨rfl, rfl⟩ | ⟨rfl, rfl⟩ | ⟨rfl, rfl⟩
    · exact tl12_5_0
    · exact tl12_5_1
    · exact tl12_5_2
    · exact tl12_5_3
    · exact tl12_5_4
    · exact tl12_5_5
    · exact tl12_5_6
  · rcases h with ⟨rfl, rfl⟩ | ⟨rfl, rfl⟩ | ⟨rfl, rfl⟩ | ⟨rfl, rfl⟩ | ⟨rfl, rfl⟩ | ⟨rfl, rfl⟩ | ⟨rfl, rfl⟩
    · exact tl12_6_0
    · exact tl12_6_1
    · exact tl12_6_2
    · exact tl12_6_3
    · exact tl12_6_4
    · exact tl12_6_5
    · exact tl12_6_6
  · rcases h with ⟨rfl, rfl⟩ | ⟨rfl, rfl⟩ | ⟨rfl, rfl⟩ | ⟨rfl, rfl⟩ | ⟨rfl, rfl⟩ | ⟨rfl, rfl⟩ | ⟨rfl, rfl⟩
    · exact tl12_7_0
    · exact tl12_7_1
    · exact tl12_7_2
    · exact tl12_7_3
    · exact tl12_7_4
    · exact tl12_7_5
    · exact tl12_7_6
  · rcases h with ⟨rfl, rfl⟩ | ⟨rfl, rfl⟩ | ⟨rfl, rfl⟩ | ⟨rfl, rfl⟩ | ⟨rfl, rfl⟩ | ⟨rfl, rfl⟩ | ⟨rfl, rfl⟩
    · exact tl12_8_0
    · exact tl12_8_1
    · exact tl12_8_2
    · exact tl12_8_3
    · exact tl12_8_4
    · exact tl12_8_5
    · exact tl12_8_6
theorem sl13 (k : Nat) (hk : k < 9) (lo hi : Int) (h : Iv lo hi) : rl 13 k (lo) (hi) = true := by
  rcases (show k = 0 ∨ k = 1 ∨ k = 2 ∨ k = 3 ∨ k = 4 ∨ k = 5 ∨ k = 6 ∨ k = 7 ∨ k = 8 by omega) with rfl | rfl | rfl | rfl | rfl | rfl | rfl | rfl | rfl
  · rcases h with ⟨rfl, rfl⟩ | ⟨rfl, rfl⟩ | ⟨rfl, rfl⟩ | ⟨rfl, rfl⟩ | ⟨rfl, rfl⟩ | ⟨rfl, rfl⟩ | ⟨rfl, rfl⟩
    · exact tl13_0_0
    · exact tl13_0_1
    · exact tl13_0_2
    · exact tl13_0_3
    · exact tl13_0_4
    · exact tl13_0_5
    · exact tl13_0_6
  · rcases h with ⟨rfl, rfl⟩ | ⟨rfl, rfl⟩ | ⟨rfl, rfl⟩ | ⟨rfl, rfl⟩ | ⟨rfl, rfl⟩ | ⟨rfl, rfl⟩ | ⟨rfl, rfl⟩
    · exact tl13_1_0
    · exact tl13_1_1
    · exact tl13_1_2
    · exact tl13_1_3
    · exact tl13_1_4
    · exact tl13_1_5
    · exact tl13_1_6
  · rcases h with ⟨rfl, rfl⟩ | ⟨rfl, rfl⟩ | ⟨rfl, rfl⟩ | ⟨rfl, rfl⟩ | ⟨rfl, rfl⟩ | ⟨rfl, rfl⟩ | ⟨rfl, rfl⟩
    · exact tl13_2_0
    · exact tl13_2_1
    · exact tl13_2_2
    · exact tl13_2_3
    · exact tl13_2_4
    · exact tl13_2_5
    · exact tl13_2_6
  · rcases h with ⟨rfl, rfl⟩ | ⟨rfl, rfl⟩ | ⟨rfl, rfl⟩ | ⟨rfl, rfl⟩ | ⟨rfl, rfl⟩ | ⟨rfl, rfl⟩ | ⟨rfl, rfl⟩
    · exact tl13_3_0
    · exact tl13_3_1
    · exact tl13_3_2
    · exact tl13_3_3
    · exact tl13_3_4
    · exact tl13_3_5
    · exact tl13_3_6
  · rcases h with ⟨rfl, rfl⟩ | ⟨rfl, rfl⟩ | ⟨rfl, rfl⟩ | ⟨rfl, rfl⟩ | ⟨rfl, rfl⟩ | ⟨rfl, rfl⟩ | ⟨rfl, rfl⟩
    · exact tl13_4_0
    · exact tl13_4_1
    · exact tl13_4_2
    · exact tl13_4_3
    · exact tl13_4_4
    · exact tl13_4_5
    · exact tl13_4_6
  · rcases h with ⟨rfl, rfl⟩ | ⟨rfl, rfl⟩ | ⟨rfl, rfl⟩ | ⟨rfl, rfl⟩ | ⟨rfl, rfl⟩ | ⟨rfl, rfl⟩ | ⟨rfl, rfl⟩
    · exact tl13_5_0
    · exact tl13_5_1
    · exact tl13_5_2
    · exact tl13_5_3
    · exact tl13_5_4
    · exact tl13_5_5
    · exact tl13_5_6
  · rcases h with ⟨rfl, rfl⟩ | ⟨rfl, rfl⟩ | ⟨rfl, rfl⟩ | ⟨rfl, rfl⟩ | ⟨rfl, rfl⟩ | ⟨rfl, rfl⟩ | ⟨rfl, rfl⟩
    · exact tl13_6_0
    · exact tl13_6_1
    · exact tl13_6_2
    · exact tl13_6_3
    · exact tl13_6_4
    · exact tl13_6_5
    · exact tl13_6_6
  · rcases h with ⟨rfl, rfl⟩ | ⟨rfl, rfl⟩ | ⟨rfl, rfl⟩ | ⟨rfl, rfl⟩ | ⟨rfl, rfl⟩ | ⟨rfl, rfl⟩ | ⟨rfl, rfl⟩
    · exact tl13_7_0
    · exact tl13_7_1
    · exact tl13_7_2
    · exact tl13_7_3
    · exact tl13_7_4
    · exact tl13_7_5
    · exact tl13_7_6
  · rcases h with ⟨rfl, rfl⟩ | ⟨rfl, rfl⟩ | ⟨rfl, rfl⟩ | ⟨rfl, rfl⟩ | ⟨rfl, rfl⟩ | ⟨rfl, rfl⟩ | ⟨rfl, rfl⟩
    · exact tl13_8_0
    · exact tl13_8_1
    · exact tl13_8_2
    · exact tl13_8_3
    · exact tl13_8_4
    · exact tl13_8_5
    · exact tl13_8_6
theorem sl14 (k : Nat) (hk : k < 9) (lo hi : Int) (h : Iv lo hi) : rl 14 k (lo) (hi) = true := by
  rcases (show k = 0 ∨ k = 1 ∨ k = 2 ∨ k = 3 ∨ k = 4 ∨ k = 5 ∨ k = 6 ∨ k = 7 ∨ k = 8 by omega) with rfl | rfl | rfl | rfl | rfl | rfl | rfl | rfl | rfl
  · rcases h with ⟨rfl, rfl⟩ | ⟨rfl, rfl⟩ | ⟨rfl, rfl⟩ | ⟨rfl, rfl⟩ | ⟨rfl, rfl⟩ | ⟨rfl, rfl⟩ | ⟨rfl, rfl⟩
    · exact tl14_0_0
    · exact tl14_0_1
    · exact tl14_0_2
    · exact tl14_0_3
    · exact tl14_0_4
    · exact tl14_0_5
    · exact tl14_0_6
  · rcases h with ⟨rfl, rfl⟩ | ⟨rfl, rfl⟩ | ⟨rfl, rfl⟩ | ⟨rfl, rfl⟩ | ⟨rfl, rfl⟩ | ⟨rfl, rfl⟩ | ⟨rfl, rfl⟩
    · exact tl14_1_0
    · exact tl14_1_1
    · exact tl14_1_2
    · exact tl14_1_3
    · exact tl14_1_4
    · exact tl14_1_5
    · exact tl14_1_6
  · rcases h with ⟨rfl, rfl⟩ | ⟨rfl, rfl⟩ | ⟨rfl, rfl⟩ | ⟨rfl, rfl⟩ | ⟨rfl, rfl⟩ | ⟨rfl, rfl⟩ | ⟨rfl, rfl⟩
    · exact tl14_2_0
    · exact tl14_2_1
    · exact tl14_2_2
    · exact tl14_2_3
    · exact tl14_2_4
    · exact tl14_2_5
    · exact tl14_2_6
  · rcases h with ⟨rfl, rfl⟩ | ⟨rfl, rfl⟩ | ⟨rfl, rfl⟩ | ⟨rfl, rfl⟩ | ⟨rfl, rfl⟩ | ⟨rfl, rfl⟩ | ⟨rfl, rfl⟩
    · exact tl14_3_0
    · exact tl14_3_1
    · exact tl14_3_2
    · exact tl14_3_3
    · exact tl14_3_4
    · exact tl14_3_5
    · exact tl14_3_6
  · rcases h with ⟨rfl, rfl⟩ | ⟨rfl, rfl⟩ | ⟨rfl, rfl⟩ | ⟨rfl, rfl⟩ | ⟨rfl, rfl⟩ | ⟨rfl, rfl⟩ | ⟨rfl, rfl⟩
    · exact tl14_4_0
    · exact tl14_4_1
    · exact tl14_4_2
    · exact tl14_4_3
    · exact tl14_4_4
    · exact tl14_4_5
    · exact tl14_4_6
  · rcases h with ⟨rfl, rfl⟩ | ⟨rfl, rfl⟩ | ⟨rfl, rfl⟩ | ⟨rfl, rfl⟩ | ⟨rfl, rfl⟩ | ⟨rfl, rfl⟩ | ⟨rfl, rfl⟩
    · exact tl14_5_0
    · exact tl14_5_1
    · exact tl14_5_2
    · exact tl14_5_3
    · exact tl14_5_4
    · exact tl14_5_5
    · exact tl14_5_6
  · rcases h with ⟨rfl, rfl⟩ | ⟨rfl, rfl⟩ | ⟨rfl, rfl⟩ | ⟨rfl, rfl⟩ | ⟨rfl, rfl⟩ | ⟨rfl, rfl⟩ | ⟨rfl, rfl⟩
    · exact tl14_6_0
    · exact tl14_6_1
    · exact tl14_6_2
    · exact tl14_6_3
    · exact tl14_6_4
    · exact tl14_6_5
    · exact tl14_6_6
  · rcases h with ⟨rfl, rfl⟩ | ⟨rfl, rfl⟩ | ⟨rfl, rfl⟩ | ⟨rfl, rfl⟩ | ⟨rfl, rfl⟩ | ⟨rfl, rfl⟩ | ⟨rfl, rfl⟩
    · exact tl14_7_0
    · exact tl14_7_1
    · exact tl14_7_2
    · exact tl14_7_3
    · exact tl14_7_4
    · exact tl14_7_5
    · exact tl14_7_6
  · rcases h with ⟨rfl, rfl⟩ | ⟨rfl, rfl⟩ | ⟨rfl, rfl⟩ | ⟨rfl, rfl⟩ | ⟨rfl, rfl⟩ | ⟨rfl, rfl⟩ | ⟨rfl, rfl⟩
    · exact tl14_8_0
    · exact tl14_8_1
    · exact tl14_8_2
    · exact tl14_8_3
    · exact tl14_8_4
    · exact tl14_8_5
    · exact tl14_8_6
theorem sl15 (k : Nat) (hk : k < 9) (lo hi : Int) (h : Iv lo hi) : rl 15 k (lo) (hi) = true := by
  rcases (show k = 0 ∨ k = 1 ∨ k = 2 ∨ k = 3 ∨ k = 4 ∨ k = 5 ∨ k = 6 ∨ k = 7 ∨ k = 8 by omega) with rfl | rfl | rfl | rfl | rfl | rfl | rfl | rfl | rfl
  · rcases h with ⟨rfl, rfl⟩ | ⟨rfl, rfl⟩ | ⟨rfl, rfl⟩ | ⟨rfl, rfl⟩ | ⟨rfl, rfl⟩ | ⟨rfl, rfl⟩ | ⟨rfl, rfl⟩
    · exact tl15_0_0
    · exact tl15_0_1
    · exact tl15_0_2
    · exact tl15_0_3
    · exact tl15_0_4
    · exact tl15_0_5
    · exact tl15_0_6
  · rcases h with ⟨rfl, rfl⟩ | ⟨rfl, rfl⟩ | ⟨rfl, rfl⟩ | ⟨rfl, rfl⟩ | ⟨rfl, rfl⟩ | ⟨rfl, rfl⟩ | ⟨rfl, rfl⟩
    · exact tl15_1_0
    · exact tl15_1_1
    · exact tl15_1_2
    · exact tl15_1_3
    · exact tl15_1_4
    · exact tl15_1_5
    · exact tl15_1_6
  · rcases h with ⟨rfl, rfl⟩ | ⟨rfl, rfl⟩ | ⟨rfl, rfl⟩ | ⟨rfl, rfl⟩ | ⟨rfl, rfl⟩ | ⟨rfl, rfl⟩ | ⟨rfl, rfl⟩
    · exact tl15_2_0
    · exact tl15_2_1
    · exact tl15_2_2
    · exact tl15_2_3
    · exact tl15_2_4
    · exact tl15_2_5
    · exact tl15_2_6
  · rcases h with ⟨rfl, rfl⟩ | ⟨rfl, rfl⟩ | ⟨rfl, rfl⟩ | ⟨rfl, rfl⟩ | ⟨rfl, rfl⟩ | ⟨rfl, rfl⟩ | ⟨rfl, rfl⟩
    · exact tl15_3_0
    · exact tl15_3_1
    · exact tl15_3_2
    · exact tl15_3_3
    · exact tl15_3_4
    · exact tl15_3_5
    · exact tl15_3_6
  · rcases h with ⟨rfl, rfl⟩ | ⟨rfl, rfl⟩ | ⟨rfl, rfl⟩ | ⟨rfl, rfl⟩ | ⟨rfl, rfl⟩ | ⟨rfl, rfl⟩ | ⟨rfl, rfl⟩
    · exact tl15_4_0
    · exact tl15_4_1
    · exact tl15_4_2
    · exact tl15_4_3
    · exact tl15_4_4
    · exact tl15_4_5
    · exact tl15_4_6
  · rcases h with ⟨rfl, rfl⟩ | ⟨rfl, rfl⟩ | ⟨rfl, rfl⟩ | ⟨rfl, rfl⟩ | ⟨rfl, rfl⟩ | ⟨rfl, rfl⟩ | ⟨rfl, rfl⟩
    · exact tl15_5_0
    · exact tl15_5_1
    · exact tl15_5_2
    · exact tl15_5_3
    · exact tl15_5_4
    · exact tl15_5_5
    · exact tl15_5_6
  · rcases h with ⟨rfl, rfl⟩ | ⟨rfl, rfl⟩ | ⟨rfl, rfl⟩ | ⟨rfl, rfl⟩ | ⟨rfl, rfl⟩ | ⟨rfl, rfl⟩ | ⟨rfl, rfl⟩
    · exact tl15_6_0
    · exact tl15_6_1
    · exact tl15_6_2
    · exact tl15_6_3
    · exact tl15_6_4
    · exact tl15_6_5
    · exact tl15_6_6
  · rcases h with ⟨rfl, rfl⟩ | ⟨rfl, rfl⟩ | ⟨rfl, rfl⟩ | ⟨rfl, rfl⟩ | ⟨rfl, rfl⟩ | ⟨rfl, rfl⟩ | ⟨rfl, rfl⟩
    · exact tl15_7_0
    · exact tl15_7_1
    · exact tl15_7_2
    · exact tl15_7_3
    · exact tl15_7_4
    · exact tl15_7_5
    · exact tl15_7_6
  · rcases h with ⟨rfl, rfl⟩ | ⟨rfl, rfl⟩ | ⟨rfl, rfl⟩ | ⟨rfl, rfl⟩ | ⟨rfl, rfl⟩ | ⟨rfl, rfl⟩ | ⟨rfl, rfl⟩
    · exact tl15_8_0
    · exact tl15_8_1
    · exact tl15_8_2
    · exact tl15_8_3
    · exact tl15_8_4
    · exact tl15_8_5
    · exact tl15_8_6
theorem sl16 (k : Nat) (hk : k < 9) (lo hi : Int) (h : Iv lo hi) : rl 16 k (lo) (hi) = true := by
  rcases (show k = 0 ∨ k = 1 ∨ k = 2 ∨ k = 3 ∨ k = 4 ∨ k = 5 ∨ k = 6 ∨ k = 7 ∨ k = 8 by omega) with rfl | rfl | rfl | rfl | rfl | rfl | rfl | rfl | rfl
  · rcases h with ⟨rfl, rfl⟩ | ⟨rfl, rfl⟩ | ⟨rfl, rfl⟩ | ⟨rfl, rfl⟩ | ⟨rfl, rfl⟩ | ⟨rfl, rfl⟩ | ⟨rfl, rfl⟩
    · exact tl16_0_0
    · exact tl16_0_1
    · exact tl16_0_2
    · exact tl16_0_3
    · exact tl16_0_4
    · exact tl16_0_5
    · exact tl16_0_6
  · rcases h with ⟨rfl, rfl⟩ | ⟨rfl, rfl⟩ | ⟨rfl, rfl⟩ | ⟨rfl, rfl⟩ | ⟨rfl, rfl⟩ | ⟨rfl, rfl⟩ | ⟨rfl, rfl⟩
    · exact tl16_1_0
    · exact tl16_1_1
    · exact tl16_1_2
    · exact tl16_1_3
    · exact tl16_1_4
    · exact tl16_1_5
    · exact tl16_1_6
  · rcases h with ⟨rfl, rfl⟩ | ⟨rfl, rfl⟩ | ⟨rfl, rfl⟩ | ⟨rfl, rfl⟩ | ⟨rfl, rfl⟩ | ⟨rfl, rfl⟩ | ⟨rfl, rfl⟩
    · exact tl16_2_0
    · exact tl16_2_1
    · exact tl16_2_2
    · exact tl16_2_3
    · exact tl16_2_4
    · exact tl16_2_5
    · exact tl16_2_6
  · rcases h with ⟨rfl, rfl⟩ | ⟨rfl, rfl⟩ | ⟨rfl, rfl⟩ | ⟨rfl, rfl⟩ | ⟨rfl, rfl⟩ | ⟨rfl, rfl⟩ | ⟨rfl, rfl⟩
    · exact tl16_3_0
    · exact tl16_3_1
    · exact tl16_3_2
    · exact tl16_3_3
    · exact tl16_3_4
    · exact tl16_3_5
    · exact tl16_3_6
  · rcases h with ⟨rfl, rfl⟩ | ⟨rfl, rfl⟩ | ⟨rfl, rfl⟩ | ⟨rfl, rfl⟩ | ⟨rfl, rfl⟩ | ⟨rfl, rfl⟩ | ⟨rfl, rfl⟩
    · exact tl16_4_0
    · exact tl16_4_1
    · exact tl16_4_2
    · exact tl16_4_3
    · exact tl16_4_4
    · exact tl16_4_5
    · exact tl16_4_6
  · rcases h with ⟨rfl, rfl⟩ | ⟨rfl, rfl⟩ | ⟨rfl, rfl⟩ | ⟨rfl, rfl⟩ | ⟨rfl, rfl⟩ | ⟨rfl, rfl⟩ | ⟨rfl, rfl⟩
    · exact tl16_5_0
    · exact tl16_5_1
    · exact tl16_5_2
    · exact tl16_5_3
    · exact tl16_5_4
    · exact tl16_5_5
    · exact tl16_5_6
  · rcases h with ⟨rfl, rfl⟩ | ⟨rfl, rfl⟩ | ⟨rfl, rfl⟩ | ⟨rfl, rfl⟩ | ⟨rfl, rfl⟩ | ⟨rfl, rfl⟩ | ⟨rfl, rfl⟩
    · exact tl16_6_0
    · exact tl16_6_1
    · exact tl16_6_2
    · exact tl16_6_3
    · exact tl16_6_4
    · exact tl16_6_5
    · exact tl16_6_6
  · rcases h with ⟨rfl, rfl⟩ | ⟨rfl, rfl⟩ | ⟨rfl, rfl⟩ | ⟨rfl, rfl⟩ | ⟨rfl, rfl⟩ | ⟨rfl, rfl⟩ | ⟨rfl, rfl⟩
    · exact tl16_7_0
    · exact tl16_7_1
    · exact tl16_7_2
    · exact tl16_7_3
    · exact tl16_7_4
    · exact tl16_7_5
    · exact tl16_7_6
  · rcases h with ⟨rfl, rfl⟩ | ⟨rfl, rfl⟩ | ⟨rfl, rfl⟩ | ⟨rfl, rfl⟩ | ⟨rfl, rfl⟩ | ⟨rfl, rfl⟩ | ⟨rfl, rfl⟩
    · exact tl16_8_0
    · exact tl16_8_1
    · exact tl16_8_2
    · exact tl16_8_3
    · exact tl16_8_4
    · exact tl16_8_5
    · exact tl16_8_6
theorem sl17 (k : Nat) (hk : k < 9) (lo hi : Int) (h : Iv lo hi) : rl 17 k (lo) (hi) = true := by
  rcases (show k = 0 ∨ k = 1 ∨ k = 2 ∨ k = 3 ∨ k = 4 ∨ k = 5 ∨ k = 6 ∨ k = 7 ∨ k = 8 by omega) with rfl | rfl | rfl | rfl | rfl | rfl | rfl | rfl | rfl
  · rcases h with ⟨rfl, rfl⟩ | ⟨rfl, rfl⟩ | ⟨rfl, rfl⟩ | ⟨rfl, rfl⟩ | ⟨rfl, rfl⟩ | ⟨rfl, rfl⟩ | ⟨rfl, rfl⟩
    · exact tl17_0_0
    · exact tl17_0_1
    · exact tl17_0_2
    · exact tl17_0_3
    · exact tl17_0_4
    · exact tl17_0_5
    · exact tl17_0_6
  · rcases h with ⟨rfl, rfl⟩ | ⟨rfl, rfl⟩ | ⟨rfl, rfl⟩ | ⟨rfl, rfl⟩ | ⟨rfl, rfl⟩ | ⟨rfl, rfl⟩ | ⟨rfl, rfl⟩
    · exact tl17_1_0
    · exact tl17_1_1
    · exact tl17_1_2
    · exact tl17_1_3
    · exact tl17_1_4
    · exact tl17_1_5
    · exact tl17_1_6
  · rcases h with ⟨rfl, rfl⟩ | ⟨rfl, rfl⟩ | ⟨rfl, rfl⟩ | ⟨rfl, rfl⟩ | ⟨rfl, rfl⟩ | ⟨rfl, rfl⟩ | ⟨rfl, rfl⟩
    · exact tl17_2_0
    · exact tl17_2_1
    · exact tl17_2_2
    · exact tl17_2_3
    · exact tl17_2_4
    · exact tl17_2_5
    · exact tl17_2_6
  · rcases h with ⟨rfl, rfl⟩ | ⟨rfl, rfl⟩ | ⟨rfl, rfl⟩ | ⟨rfl, rfl⟩ | ⟨rfl, rfl⟩ | ⟨rfl, rfl⟩ | ⟨rfl, rfl⟩
    · exact tl17_3_0
    · exact tl17_3_1
    · exact tl17_3_2
    · exact tl17_3_3
    · exact tl17_3_4
    · exact tl17_3_5
    · exact tl17_3_6
  · rcases h with ⟨rfl, rfl⟩ | ⟨rfl, rfl⟩ | ⟨rfl, rfl⟩ | ⟨rfl, rfl⟩ | ⟨rfl, rfl⟩ | ⟨rfl, rfl⟩ | ⟨rfl, rfl⟩
    · exact tl17_4_0
    · exact tl17_4_1
    · exact tl17_4_2
    · exact tl17_4_3
    · exact tl17_4_4
    · exact tl17_4_5
    · exact tl17_4_6
  · rcases h with ⟨rfl, rfl⟩ | ⟨rfl, rfl⟩ | ⟨rfl, rfl⟩ | ⟨rfl, rfl⟩ | ⟨rfl, rfl⟩ | ⟨rfl, rfl⟩ | ⟨rfl, rfl⟩
    · exact tl17_5_0
    · exact tl17_5_1
    · exact tl17_5_2
    · exact tl17_5_3
    · exact tl17_5_4
    · exact tl17_5_5
    · exact tl17_5_6
  · rcases h with ⟨rfl, rfl⟩ | ⟨rfl, rfl⟩ | ⟨rfl, rfl⟩ | ⟨rfl, rfl⟩ | ⟨rfl, rfl⟩ | ⟨rfl, rfl⟩ | ⟨rfl, rfl⟩
    · exact tl17_6_0
    · exact tl17_6_1
    · exact tl17_6_2
    · exact tl17_6_3
    · exact tl17_6_4
    · exact tl17_6_5
    · exact tl17_6_6
  · rcases h with ⟨rfl, rfl⟩ | ⟨rfl, rfl⟩ | ⟨rfl, rfl⟩ | ⟨rfl, rfl⟩ | ⟨rfl, rfl⟩ | ⟨rfl, rfl⟩ | ⟨rfl, rfl⟩
    · exact tl17_7_0
    · exact tl17_7_1
    · exact tl17_7_2
    · exact tl17_7_3
    · exact tl17_7_4
    · exact tl17_7_5
    · exact tl17_7_6
  · rcases h with ⟨rfl, rfl⟩ | ⟨rfl, rfl⟩ | ⟨rfl, rfl⟩ | ⟨rfl, rfl⟩ | ⟨rfl, rfl⟩ | ⟨rfl, rfl⟩ | ⟨rfl, rfl⟩
    · exact tl17_8_0
    · exact tl17_8_1
    · exact tl17_8_2
    · exact tl17_8_3
    · exact tl17_8_4
    · exact tl17_8_5
    · exact tl17_8_6
theorem sl18 (k : Nat) (hk : k < 9) (lo hi : Int) (h : Iv lo hi) : rl 18 k (lo) (hi) = true := by
  rcases (show k = 0 ∨ k = 1 ∨ k = 2 ∨ k = 3 ∨ k = 4 ∨ k = 5 ∨ k = 6 ∨ k = 7 ∨ k = 8 by omega) with rfl | rfl | rfl | rfl | rfl | rfl | rfl | rfl | rfl
  · rcases h with ⟨rfl, rfl⟩ | ⟨rfl, rfl⟩ | ⟨rfl, rfl⟩ | ⟨rfl, rfl⟩ | ⟨rfl, rfl⟩ | ⟨rfl, rfl⟩ | ⟨rfl, rfl⟩
    · exact tl18_0_0
    · exact tl18_0_1
    · exact tl18_0_2
    · exact tl18_0_3
    · exact tl18_0_4
    · exact tl18_0_5
    · exact tl18_0_6
  · rcases h with ⟨rfl, rfl⟩ | ⟨rfl, rfl⟩ | ⟨rfl, rfl⟩ | ⟨rfl, rfl⟩ | ⟨rfl, rfl⟩ | ⟨rfl, rfl⟩ | ⟨rfl, rfl⟩
    · exact tl18_1_0
    · exact tl18_1_1
    · exact tl18_1_2
    · exact tl18_1_3
    · exact tl18_1_4
    · exact tl18_1_5
    · exact tl18_1_6
  · rcases h with ⟨rfl, rfl⟩ | ⟨rfl, rfl⟩ | ⟨rfl, rfl⟩ | ⟨rfl, rfl⟩ | ⟨rfl, rfl⟩ | ⟨rfl, rfl⟩ | ⟨rfl, rfl⟩
    · exact tl18_2_0
    · exact tl18_2_1
    · exact tl18_2_2
    · exact tl18_2_3
    · exact tl18_2_4
    · exact tl18_2_5
    · exact tl18_2_6
  · rcases h with ⟨rfl, rfl⟩ | ⟨rfl, rfl⟩ | ⟨rfl, rfl⟩ | ⟨rfl, rfl⟩ | ⟨rfl, rfl⟩ | ⟨rfl, rfl⟩ | ⟨rfl, rfl⟩
    · exact tl18_3_0
    · exact tl18_3_1
    · exact tl18_3_2
    · exact tl18_3_3
    · exact tl18_3_4
    · exact tl18_3_5
    · exact tl18_3_6
  · rcases h with ⟨rfl, rfl⟩ | ⟨rfl, rfl⟩ | ⟨rfl, rfl⟩ | ⟨rfl, rfl⟩ | ⟨rfl, rfl⟩ | ⟨rfl, rfl⟩ | ⟨rfl, rfl⟩
    · exact tl18_4_0
    · exact tl18_4_1
    · exact tl18_4_2
    · exact tl18_4_3
    · exact tl18_4_4
    · exact tl18_4_5
    · exact tl18_4_6
  · rcases h with ⟨rfl, rfl⟩ | ⟨rfl, rfl⟩ | ⟨rfl, rfl⟩ | ⟨rfl, rfl⟩ | ⟨rfl, rfl⟩ | ⟨rfl, rfl⟩ | ⟨rfl, rfl⟩
    · exact tl18_5_0
    · exact tl18_5_1
    · exact tl18_5_2
    · exact tl18_5_3
    · exact tl18_5_4
    · exact tl18_5_5
    · exact tl18_5_6
  · rcases h with ⟨rfl, rfl⟩ | ⟨rfl, rfl⟩ | ⟨rfl, rfl⟩ | ⟨rfl, rfl⟩ | ⟨rfl, rfl⟩ | ⟨rfl, rfl⟩ | ⟨rfl, rfl⟩
    · exact tl18_6_0
    · exact tl18_6_1
    · exact tl18_6_2
    · exact tl18_6_3
    · exact tl18_6_4
    · exact tl18_6_5
    · exact tl18_6_6
  · rcases h with ⟨rfl, rfl⟩ | ⟨rfl, rfl⟩ | ⟨rfl, rfl⟩ | ⟨rfl, rfl⟩ | ⟨rfl, rfl⟩ | ⟨rfl, rfl⟩ | ⟨rfl, rfl⟩
    · exact tl18_7_0
    · exact tl18_7_1
    · exact tl18_7_2
    · exact tl18_7_3
    · exact tl18_7_4
    · exact tl18_7_5
    · exact tl18_7_6
  · rcases h with ⟨rfl, rfl⟩ | ⟨rfl, rfl⟩ | ⟨rfl, rfl⟩ | ⟨rfl, rfl⟩ | ⟨rfl, rfl⟩ | ⟨rfl, rfl⟩ | ⟨rfl, rfl⟩
    · exact tl18_8_0
    · exact tl18_8_1
    · exact tl18_8_2
    · exact tl18_8_3
    · exact tl18_8_4
    · exact tl18_8_5
    · exact tl18_8_6
theorem sl19 (k : Nat) (hk : k < 9) (lo hi : Int) (h : Iv lo hi) : rl 19 k (lo) (hi) = true := by
  rcases (show k = 0 ∨ k = 1 ∨ k = 2 ∨ k = 3 ∨ k = 4 ∨ k = 5 ∨ k = 6 ∨ k = 7 ∨ k = 8 by omega) with rfl | rfl | rfl | rfl | rfl | rfl | rfl | rfl | rfl
  · rcases h with ⟨rfl, rfl⟩ | ⟨rfl, rfl⟩ | ⟨rfl, rfl⟩ | ⟨rfl, rfl⟩ | ⟨rfl, rfl⟩ | ⟨rfl, rfl⟩ | ⟨rfl, rfl⟩
    · exact tl19_0_0
    · exact tl19_0_1
    · exact tl19_0_2
    · exact tl19_0_3
    · exact tl19_0_4
    · exact tl19_0_5
    · exact tl19_0_6
  · rcases h with ⟨rfl, rfl⟩ | ⟨rfl, rfl⟩ | ⟨rfl, rfl⟩ | ⟨rfl, rfl⟩ | ⟨rfl, rfl⟩ | ⟨rfl, rfl⟩ | ⟨rfl, rfl⟩
    · exact tl19_1_0
    · exact tl19_1_1
    · exact tl19_1_2
    · exact tl19_1_3
    · exact tl19_1_4
    · exact tl19_1_5
    · exact tl19_1_6
  · rcases h with ⟨rfl, rfl⟩ | ⟨rfl, rfl⟩ | ⟨rfl, rfl⟩ | ⟨rfl, rfl⟩ | ⟨rfl, rfl⟩ | ⟨rfl, rfl⟩ | ⟨rfl, rfl⟩
    · exact tl19_2_0
    · exact tl19_2_1
    · exact tl19_2_2
    · exact tl19_2_3
    · exact tl19_2_4
    · exact tl19_2_5
    · exact tl19_2_6
  · rcases h with ⟨rfl, rfl⟩ | ⟨rfl, rfl⟩ | ⟨rfl, rfl⟩ | ⟨rfl, rfl⟩ | ⟨rfl, rfl⟩ | ⟨rfl, rfl⟩ | ⟨rfl, rfl⟩
    · exact tl19_3_0
    · exact tl19_3_1
    · exact tl19_3_2
    · exact tl19_3_3
    · exact tl19_3_4
    · exact tl19_3_5
    · exact tl19_3_6
  · rcases h with ⟨rfl, rfl⟩ | ⟨rfl, rfl⟩ | ⟨rfl, rfl⟩ | ⟨rfl, rfl⟩ | ⟨rfl, rfl⟩ | ⟨rfl, rfl⟩ | ⟨rfl, rfl⟩
    · exact tl19_4_0
    · exact tl19_4_1
    · exact tl19_4_2
    · exact tl19_4_3
    · exact tl19_4_4
    · exact tl19_4_5
    · exact tl19_4_6
  · rcases h with ⟨rfl, rfl⟩ | ⟨rfl, rfl⟩ | ⟨rfl, rfl⟩ | ⟨rfl, rfl⟩ | ⟨rfl, rfl⟩ | ⟨rfl, rfl⟩ | ⟨rfl, rfl⟩
    · exact tl19_5_0
    · exact tl19_5_1
    · exact tl19_5_2
    · exact tl19_5_3
    · exact tl19_5_4
    · exact tl19_5_5
    · exact tl19_5_6
  · rcases h with ⟨rfl, rfl⟩ | ⟨rfl, rfl⟩ | ⟨rfl, rfl⟩ | ⟨rfl, rfl⟩ | ⟨rfl, rfl⟩ | ⟨rfl, rfl⟩ | ⟨rfl, rfl⟩
    · exact tl19_6_0
    · exact tl19_6_1
    · exact tl19_6_2
    · exact tl19_6_3
    · exact tl19_6_4
    · exact tl19_6_5
    · exact tl19_6_6
  · rcases h with ⟨rfl, rfl⟩ | ⟨rfl, rfl⟩ | ⟨rfl, rfl⟩ | ⟨rfl, rfl⟩ | ⟨rfl, rfl⟩ | ⟨rfl, rfl⟩ | ⟨rfl, rfl⟩
    · exact tl19_7_0
    · exact tl19_7_1
    · exact tl19_7_2
    · exact tl19_7_3
    · exact tl19_7_4
    · exact tl19_7_5
    · exact tl19_7_6
  · rcases h with ⟨rfl, rfl⟩ | ⟨rfl, rfl⟩ | ⟨rfl, rfl⟩ | ⟨rfl, rfl⟩ | ⟨rfl, rfl⟩ | ⟨rfl, rfl⟩ | ⟨rfl, rfl⟩
    · exact tl19_8_0
    · exact tl19_8_1
    · exact tl19_8_2
    · exact tl19_8_3
    · exact tl19_8_4
    · exact tl19_8_5
    · exact tl19_8_6
theorem sl20 (k : Nat) (hk : k < 9) (lo hi : Int) (h : Iv lo hi) : rl 20 k (lo) (hi) = true := by
  rcases (show k = 0 ∨ k = 1 ∨ k = 2 ∨ k = 3 ∨ k = 4 ∨ k = 5 ∨ k = 6 ∨ k = 7 ∨ k = 8 by omega) with rfl | rfl | rfl | rfl | rfl | rfl | rfl | rfl | rfl
  · rcases h with ⟨rfl, rfl⟩ | ⟨rfl, rfl⟩ | ⟨rfl, rfl⟩ | ⟨rfl, rfl⟩ | ⟨rfl, rfl⟩ | ⟨rfl, rfl⟩ | ⟨rfl, rfl⟩
    · exact tl20_0_0
    · exact tl20_0_1
    · exact tl20_0_2
    · exact tl20_0_3
    · exact tl20_0_4
    · exact tl20_0_5
    · exact tl20_0_6
  · rcases h with ⟨rfl, rfl⟩ | ⟨rfl, rfl⟩ | ⟨rfl, rfl⟩ | ⟨rfl, rfl⟩ | ⟨rfl, rfl⟩ | ⟨rfl, rfl⟩ | ⟨rfl, rfl⟩
    · exact tl20_1_0
    · exact tl20_1_1
    · exact tl20_1_2
    · exact tl20_1_3
    · exact tl20_1_4
    · exact tl20_1_5
    · exact tl20_1_6
  · rcases h with ⟨rfl, rfl⟩ | ⟨rfl, rfl⟩ | ⟨rfl, rfl⟩ | ⟨rfl, rfl⟩ | ⟨rfl, rfl⟩ | ⟨rfl, rfl⟩ | ⟨rfl, rfl⟩
    · exact tl20_2_0
    · exact tl20_2_1
    · exact tl20_2_2
    · exact tl20_2_3
    · exact tl20_2_4
    · exact tl20_2_5
    · exact tl20_2_6
  · rcases h with ⟨rfl, rfl⟩ | ⟨rfl, rfl⟩ | ⟨rfl, rfl⟩ | ⟨rfl, rfl⟩ | ⟨rfl, rfl⟩ | ⟨rfl, rfl⟩ | ⟨rfl, rfl⟩
    · exact tl20_3_0
    · exact tl20_3_1
    · exact tl20_3_2
    · exact tl20_3_3
    · exact tl20_3_4
    · exact tl20_3_5
    · exact tl20_3_6
  · rcases h with ⟨rfl, rfl⟩ | ⟨rfl, rfl⟩ | ⟨rfl, rfl⟩ | ⟨rfl, rfl⟩ | ⟨rfl, rfl⟩ | ⟨rfl, rfl⟩ | ⟨rfl, rfl⟩
    · exact tl20_4_0
    · exact tl20_4_1
    · exact tl20_4_2
    · exact tl20_4_3
    · exact tl20_4_4
    · exact tl20_4_5
    · exact tl20_4_6
  · rcases h with ⟨rfl, rfl⟩ | ⟨rfl, rfl⟩ | ⟨rfl, rfl⟩ | ⟨rfl, rfl⟩ | ⟨rfl, rfl⟩ | ⟨rfl, rfl⟩ | ⟨rfl, rfl⟩
    · exact tl20_5_0
    · exact tl20_5_1
    · exact tl20_5_2
    · exact tl20_5_3
    · exact tl20_5_4
    · exact tl20_5_5
    · exact tl20_5_6
  · rcases h with ⟨rfl, rfl⟩ | ⟨rfl, rfl⟩ | ⟨rfl, rfl⟩ | ⟨rfl, rfl⟩ | ⟨rfl, rfl⟩ | ⟨rfl, rfl⟩ | ⟨rfl, rfl⟩
    · exact tl20_6_0
    · exact tl20_6_1
    · exact tl20_6_2
    · exact tl20_6_3
    · exact tl20_6_4
    · exact tl20_6_5
    · exact tl20_6_6
  · rcases h with ⟨rfl, rfl⟩ | ⟨rfl, rfl⟩ | ⟨rfl, rfl⟩ | ⟨rfl, rfl⟩ | ⟨rfl, rfl⟩ | ⟨rfl, rfl⟩ | ⟨rfl, rfl⟩
    · exact tl20_7_0
    · exact tl20_7_1
    · exact tl20_7_2
    · exact tl20_7_3
    · exact tl20_7_4
    · exact tl20_7_5
    · exact tl20_7_6
  · rcases h with ⟨rfl, rfl⟩ | ⟨rfl, rfl⟩ | ⟨rfl, rfl⟩ | ⟨rfl, rfl⟩ | ⟨rfl, rfl⟩ | ⟨rfl, rfl⟩ | ⟨rfl, rfl⟩
    · exact tl20_8_0
    · exact tl20_8_1
    · exact tl20_8_2
    · exact tl20_8_3
    · exact tl20_8_4
    · exact tl20_8_5
    · exact tl20_8_6
theorem sl (k : Nat) (hk : k < 9) (lo hi : Int) (h : Iv lo hi) (L : Nat) (h1 : 0 < L) (h2 : L < 21) : rl L k lo hi = true := by
  rcases (show L = 1 ∨ L = 2 ∨ L = 3 ∨ L = 4 ∨ L = 5 ∨ L = 6 ∨ L = 7 ∨ L = 8 ∨ L = 9 ∨ L = 10 ∨ L = 11 ∨ L = 12 ∨ L = 13 ∨ L = 14 ∨ L = 15 ∨ L = 16 ∨ L = 17 ∨ L = 18 ∨ L = 19 ∨ L = 20 by omega) with rfl | rfl | rfl | rfl | rfl | rfl | rfl | rfl | rfl | rfl | rfl | rfl | rfl | rfl | rfl | rfl | rfl | rfl | rfl | rfl
  · exact sl1 k hk lo hi h
  · exact sl2 k hk lo hi h
  · exact sl3 k hk lo hi h
  · exact sl4 k hk lo hi h
  · exact sl5 k hk lo hi h
  · exact sl6 k hk lo hi h
  · exact sl7 k hk lo hi h
  · exact sl8 k hk lo hi h
  · exact sl9 k hk lo hi h
  · exact sl10 k hk lo hi h
  · exact sl11 k hk lo hi h
  · exact sl12 k hk lo hi h
  · exact sl13 k hk lo hi h
  · exact sl14 k hk lo hi h
  · exact sl15 k hk lo hi h
  · exact sl16 k hk lo hi h
  · exact sl17 k hk lo hi h
  · exact sl18 k hk lo hi h
  · exact sl19 k hk lo hi h
  · exact sl20 k hk lo hi h
end Go.Proofs.Ytmbimlnanfholaa.rttBoundsRun
