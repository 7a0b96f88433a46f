/- The law VintOrder returns true for every input, and leaves what was there as it was. -/
import Derived.Test.YtmbimlnanfholaaVintOrderB0
import Derived.Test.YtmbimlnanfholaaVintOrderB1
import Derived.Test.YtmbimlnanfholaaVintOrderB2
import Derived.Test.YtmbimlnanfholaaVintOrderB3
import Derived.Test.YtmbimlnanfholaaVintOrderB4
namespace Go.Proofs.Ytmbimlnanfholaa.vintOrderRun
open Go.Vm Go.RowKit
set_option linter.unusedVariables false
set_option linter.unusedSimpArgs false
set_option maxRecDepth 1000000
theorem inwf {a : Int} (h : (Lit.int .i64 a).wf = true) : In a := by simpa [Lit.wf, IntKind.min, IntKind.max, IntKind.signed, IntKind.bits, In] using h
theorem walk (a0 a1 a2 a3 : Int) (w : World) (w0 : (Lit.int .i64 a0).wf = true) (w1 : (Lit.int .i64 a1).wf = true) (w2 : (Lit.int .i64 a2).wf = true) (w3 : (Lit.int .i64 a3).wf = true) : Calls Try.prog 7 #[.int .i64 a0, .int .i64 a1, .int .i64 a2, .int .i64 a3] w fun e w' => e = .returned (.bool true) ∧ Below w.heap.size w w' := by
  show G a0 a1 a2 a3 w
  have ix : In (nOf a0 a2) := nOf_in (inwf w0)
  have iy : In (nOf a1 a3) := nOf_in (inwf w1)
  have c : Ctx a0 a1 a2 a3 (nOf a0 a2) (nOf a1 a3) := ⟨inwf w0, inwf w1, inwf w2, inwf w3, nOf_ok a0 a2 w0 w2, nOf_ok a1 a3 w1 w3⟩
  generalize nOf a0 a2 = x at ix c
  generalize nOf a1 a3 = y at iy c
  obtain ⟨ix0, ix1⟩ := id ix
  obtain ⟨iy0, iy1⟩ := id iy
  by_cases hx0 : x < 0
  · exact fin c rtn [(20,x),(21,y)] ⟨ib (show -9223372036854775808 ≤ x ∧ x ≤ -1 from ⟨by omega, by omega⟩),ib (show -9223372036854775808 ≤ y ∧ y ≤ 9223372036854775807 from ⟨by omega, by omega⟩),⟨⟩⟩ ⟨(show -9223372036854775808 ≤ x ∧ x ≤ -1 from ⟨by omega, by omega⟩),⟨⟩⟩ (irS (show 1*x+(0)+0=x by omega) ix) (irS (show 1*y+(0)+0=y by omega) iy) w
  by_cases hx1 : 4611686018427387903 < x
  · by_cases hy0 : y < 0
    · exact fin c rtbn [(20,x),(21,y)] ⟨ib (show 4611686018427387904 ≤ x ∧ x ≤ 9223372036854775807 from ⟨by omega, by omega⟩),ib (show -9223372036854775808 ≤ y ∧ y ≤ -1 from ⟨by omega, by omega⟩),⟨⟩⟩ ⟨(show 4611686018427387904 ≤ x ∧ x ≤ 9223372036854775807 from ⟨by omega, by omega⟩),(show -9223372036854775808 ≤ y ∧ y ≤ -1 from ⟨by omega, by omega⟩),⟨⟩⟩ (irS (show 1*x+(0)+0=x by omega) ix) (irS (show 1*y+(0)+0=y by omega) iy) w
    · exact fin c rtbp [(20,x),(21,y)] ⟨ib (show 4611686018427387904 ≤ x ∧ x ≤ 9223372036854775807 from ⟨by omega, by omega⟩),ib (show 0 ≤ y ∧ y ≤ 9223372036854775807 from ⟨by omega, by omega⟩),⟨⟩⟩ ⟨(show 4611686018427387904 ≤ x ∧ x ≤ 9223372036854775807 from ⟨by omega, by omega⟩),(show 0 ≤ y ∧ y ≤ 9223372036854775807 from ⟨by omega, by omega⟩),⟨⟩⟩ (irS (show 1*x+(0)+0=x by omega) ix) (irS (show 1*y+(0)+0=y by omega) iy) w
  by_cases hy0 : y < 0
  · exact fin c rtin [(20,x),(21,y)] ⟨ib (show 0 ≤ x ∧ x ≤ 4611686018427387903 from ⟨by omega, by omega⟩),ib (show -9223372036854775808 ≤ y ∧ y ≤ -1 from ⟨by omega, by omega⟩),⟨⟩⟩ ⟨(show 0 ≤ x ∧ x ≤ 4611686018427387903 from ⟨by omega, by omega⟩),(show -9223372036854775808 ≤ y ∧ y ≤ -1 from ⟨by omega, by omega⟩),⟨⟩⟩ (irS (show 1*x+(0)+0=x by omega) ix) (irS (show 1*y+(0)+0=y by omega) iy) w
  by_cases hy1 : 4611686018427387903 < y
  · exact fin c rtib [(20,x),(21,y)] ⟨ib (show 0 ≤ x ∧ x ≤ 4611686018427387903 from ⟨by omega, by omega⟩),ib (show 4611686018427387904 ≤ y ∧ y ≤ 9223372036854775807 from ⟨by omega, by omega⟩),⟨⟩⟩ ⟨(show 0 ≤ x ∧ x ≤ 4611686018427387903 from ⟨by omega, by omega⟩),(show 4611686018427387904 ≤ y ∧ y ≤ 9223372036854775807 from ⟨by omega, by omega⟩),⟨⟩⟩ (irS (show 1*x+(0)+0=x by omega) ix) (irS (show 1*y+(0)+0=y by omega) iy) w
  rcases cls x (by omega) (by omega) with hx | hx | hx | hx | hx | hx | hx | hx | hx | hx | hx
  · rcases cls y (by omega) (by omega) with hy | hy | hy | hy | hy | hy | hy | hy | hy | hy | hy
    · exact b0_0 c ix iy hx hy w
    · exact b0_1 c ix iy hx hy w
    · exact b0_2 c ix iy hx hy w
    · exact b0_3 c ix iy hx hy w
    · exact b0_4 c ix iy hx hy w
    · exact b0_5 c ix iy hx hy w
    · exact b0_6 c ix iy hx hy w
    · exact b0_7 c ix iy hx hy w
    · exact b0_8 c ix iy hx hy w
    · exact b0_9 c ix iy hx hy w
    · exact b0_10 c ix iy hx hy w
  · rcases cls y (by omega) (by omega) with hy | hy | hy | hy | hy | hy | hy | hy | hy | hy | hy
    · exact b1_0 c ix iy hx hy w
    · exact b1_1 c ix iy hx hy w
    · exact b1_2 c ix iy hx hy w
    · exact b1_3 c ix iy hx hy w
    · exact b1_4 c ix iy hx hy w
    · exact b1_5 c ix iy hx hy w
    · exact b1_6 c ix iy hx hy w
    · exact b1_7 c ix iy hx hy w
    · exact b1_8 c ix iy hx hy w
    · exact b1_9 c ix iy hx hy w
    · exact b1_10 c ix iy hx hy w
  · rcases cls y (by omega) (by omega) with hy | hy | hy | hy | hy | hy | hy | hy | hy | hy | hy
    · exact b2_0 c ix iy hx hy w
    · exact b2_1 c ix iy hx hy w
    · exact b2_2 c ix iy hx hy w
    · exact b2_3 c ix iy hx hy w
    · exact b2_4 c ix iy hx hy w
    · exact b2_5 c ix iy hx hy w
    · exact b2_6 c ix iy hx hy w
    · exact b2_7 c ix iy hx hy w
    · exact b2_8 c ix iy hx hy w
    · exact b2_9 c ix iy hx hy w
    · exact b2_10 c ix iy hx hy w
  · rcases cls y (by omega) (by omega) with hy | hy | hy | hy | hy | hy | hy | hy | hy | hy | hy
    · exact b3_0 c ix iy hx hy w
    · exact b3_1 c ix iy hx hy w
    · exact b3_2 c ix iy hx hy w
    · exact b3_3 c ix iy hx hy w
    · exact b3_4 c ix iy hx hy w
    · exact b3_5 c ix iy hx hy w
    · exact b3_6 c ix iy hx hy w
    · exact b3_7 c ix iy hx hy w
    · exact b3_8 c ix iy hx hy w
    · exact b3_9 c ix iy hx hy w
    · exact b3_10 c ix iy hx hy w
  · rcases cls y (by omega) (by omega) with hy | hy | hy | hy | hy | hy | hy | hy | hy | hy | hy
    · exact b4_0 c ix iy hx hy w
    · exact b4_1 c ix iy hx hy w
    · exact b4_2 c ix iy hx hy w
    · exact b4_3 c ix iy hx hy w
    · exact b4_4 c ix iy hx hy w
    · exact b4_5 c ix iy hx hy w
    · exact b4_6 c ix iy hx hy w
    · exact b4_7 c ix iy hx hy w
    · exact b4_8 c ix iy hx hy w
    · exact b4_9 c ix iy hx hy w
    · exact b4_10 c ix iy hx hy w
  · rcases cls y (by omega) (by omega) with hy | hy | hy | hy | hy | hy | hy | hy | hy | hy | hy
    · exact b5_0 c ix iy hx hy w
    · exact b5_1 c ix iy hx hy w
    · exact b5_2 c ix iy hx hy w
    · exact b5_3 c ix iy hx hy w
    · exact b5_4 c ix iy hx hy w
    · exact b5_5 c ix iy hx hy w
    · exact b5_6 c ix iy hx hy w
    · exact b5_7 c ix iy hx hy w
    · exact b5_8 c ix iy hx hy w
    · exact b5_9 c ix iy hx hy w
    · exact b5_10 c ix iy hx hy w
  · rcases cls y (by omega) (by omega) with hy | hy | hy | hy | hy | hy | hy | hy | hy | hy | hy
    · exact b6_0 c ix iy hx hy w
    · exact b6_1 c ix iy hx hy w
    · exact b6_2 c ix iy hx hy w
    · exact b6_3 c ix iy hx hy w
    · exact b6_4 c ix iy hx hy w
    · exact b6_5 c ix iy hx hy w
    · exact b6_6 c ix iy hx hy w
    · exact b6_7 c ix iy hx hy w
    · exact b6_8 c ix iy hx hy w
    · exact b6_9 c ix iy hx hy w
    · exact b6_10 c ix iy hx hy w
  · rcases cls y (by omega) (by omega) with hy | hy | hy | hy | hy | hy | hy | hy | hy | hy | hy
    · exact b7_0 c ix iy hx hy w
    · exact b7_1 c ix iy hx hy w
    · exact b7_2 c ix iy hx hy w
    · exact b7_3 c ix iy hx hy w
    · exact b7_4 c ix iy hx hy w
    · exact b7_5 c ix iy hx hy w
    · exact b7_6 c ix iy hx hy w
    · exact b7_7 c ix iy hx hy w
    · exact b7_8 c ix iy hx hy w
    · exact b7_9 c ix iy hx hy w
    · exact b7_10 c ix iy hx hy w
  · rcases cls y (by omega) (by omega) with hy | hy | hy | hy | hy | hy | hy | hy | hy | hy | hy
    · exact b8_0 c ix iy hx hy w
    · exact b8_1 c ix iy hx hy w
    · exact b8_2 c ix iy hx hy w
    · exact b8_3 c ix iy hx hy w
    · exact b8_4 c ix iy hx hy w
    · exact b8_5 c ix iy hx hy w
    · exact b8_6 c ix iy hx hy w
    · exact b8_7 c ix iy hx hy w
    · exact b8_8 c ix iy hx hy w
    · exact b8_9 c ix iy hx hy w
    · exact b8_10 c ix iy hx hy w
  · rcases cls y (by omega) (by omega) with hy | hy | hy | hy | hy | hy | hy | hy | hy | hy | hy
    · exact b9_0 c ix iy hx hy w
    · exact b9_1 c ix iy hx hy w
    · exact b9_2 c ix iy hx hy w
    · exact b9_3 c ix iy hx hy w
    · exact b9_4 c ix iy hx hy w
    · exact b9_5 c ix iy hx hy w
    · exact b9_6 c ix iy hx hy w
    · exact b9_7 c ix iy hx hy w
    · exact b9_8 c ix iy hx hy w
    · exact b9_9 c ix iy hx hy w
    · exact b9_10 c ix iy hx hy w
  · rcases cls y (by omega) (by omega) with hy | hy | hy | hy | hy | hy | hy | hy | hy | hy | hy
    · exact b10_0 c ix iy hx hy w
    · exact b10_1 c ix iy hx hy w
    · exact b10_2 c ix iy hx hy w
    · exact b10_3 c ix iy hx hy w
    · exact b10_4 c ix iy hx hy w
    · exact b10_5 c ix iy hx hy w
    · exact b10_6 c ix iy hx hy w
    · exact b10_7 c ix iy hx hy w
    · exact b10_8 c ix iy hx hy w
    · exact b10_9 c ix iy hx hy w
    · exact b10_10 c ix iy hx hy w
end Go.Proofs.Ytmbimlnanfholaa.vintOrderRun
