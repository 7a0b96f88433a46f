/- VintOrder, by the digits of two numbers. -/
import Derived.Test.YtmbimlnanfholaaVintOrderCore
import Derived.Test.YtmbimlnanfholaaVintOrderRun0
import Derived.Test.YtmbimlnanfholaaVintOrderRun1
import Derived.Test.YtmbimlnanfholaaVintOrderRun2
namespace Go.Proofs.Ytmbimlnanfholaa.vintOrderRun
open Go.Vm Go.RowKit
set_option linter.unusedVariables false
set_option linter.unusedSimpArgs false
set_option maxRecDepth 1000000
theorem l4_2 {a0 a1 a2 a3 x y : Int} (c : Ctx a0 a1 a2 a3 x y) (ix : In x) (iy : In y) (p q u0 u1 v0 v1 : Int) (bp : 1 ≤ p ∧ p ≤ 255) (bq : 1 ≤ q ∧ q ≤ 255) (bu0 : 0 ≤ u0 ∧ u0 ≤ 255) (bv0 : 0 ≤ v0 ∧ v0 ≤ 255) (bu1 : 0 ≤ u1 ∧ u1 ≤ 255) (bv1 : 0 ≤ v1 ∧ v1 ≤ 255) (hx : x = 1 * u0 + 256 * u1 + 65536 * p) (hy : y = 1 * v0 + 256 * v1 + 65536 * q) (hpq : p < q) (w : World) : G a0 a1 a2 a3 w := by
  rcases pairs p q (by omega) hpq (by omega) with ⟨h, l, m, h0, l0, l1, m0, m1, ep, eq⟩ | ⟨h, l, m, h0, l0, l1, m0, m1, ep, eq⟩ | ⟨h, l, m, h0, l0, l1, m0, m1, ep, eq⟩ | ⟨h, l, m, h0, l0, l1, m0, m1, ep, eq⟩ | ⟨h, l, m, h0, l0, l1, m0, m1, ep, eq⟩ | ⟨h, l, m, h0, l0, l1, m0, m1, ep, eq⟩ | ⟨h, l, m, h0, l0, l1, m0, m1, ep, eq⟩ | ⟨h, l, m, h0, l0, l1, m0, m1, ep, eq⟩
  · have L : 1 ≤ l ∧ l ≤ 127 := by omega
    have K : 0 ≤ m ∧ m ≤ 127 := by omega
    exact fin c rtl4_2_0 [(121,l),(122,m),(100,u0),(101,u1),(110,v0),(111,v1)] ⟨ib L,ib K,ib bu0,ib bu1,ib bv0,ib bv1,⟨⟩⟩ ⟨L,K,bu0,bu1,bv0,bv1,⟨⟩⟩ (irS (show 65536*l+(1*u0+(256*u1+(0)))+0=x by omega) ix) (irS (show 65536*m+(1*v0+(256*v1+(0)))+8388608=y by omega) iy) w
  · by_cases hh : 1 ≤ h
    · have H : 1 ≤ h ∧ h ≤ 1 := by omega
      have L : 0 ≤ l ∧ l ≤ 63 := by omega
      have K : 0 ≤ m ∧ m ≤ 63 := by omega
      exact fin c rtl4_2_1 [(120,h),(121,l),(122,m),(100,u0),(101,u1),(110,v0),(111,v1)] ⟨ib H,ib L,ib K,ib bu0,ib bu1,ib bv0,ib bv1,⟨⟩⟩ ⟨H,L,K,bu0,bu1,bv0,bv1,⟨⟩⟩ (irS (show 8388608*h+(65536*l+(1*u0+(256*u1+(0))))+0=x by omega) ix) (irS (show 8388608*h+(65536*m+(1*v0+(256*v1+(0))))+4194304=y by omega) iy) w
    · have L : 1 ≤ l ∧ l ≤ 63 := by omega
      have K : 0 ≤ m ∧ m ≤ 63 := by omega
      exact fin c rtl4_2_2 [(121,l),(122,m),(100,u0),(101,u1),(110,v0),(111,v1)] ⟨ib L,ib K,ib bu0,ib bu1,ib bv0,ib bv1,⟨⟩⟩ ⟨L,K,bu0,bu1,bv0,bv1,⟨⟩⟩ (irS (show 65536*l+(1*u0+(256*u1+(0)))+0=x by omega) ix) (irS (show 65536*m+(1*v0+(256*v1+(0)))+4194304=y by omega) iy) w
  · by_cases hh : 1 ≤ h
    · have H : 1 ≤ h ∧ h ≤ 3 := by omega
      have L : 0 ≤ l ∧ l ≤ 31 := by omega
      have K : 0 ≤ m ∧ m ≤ 31 := by omega
      exact fin c rtl4_2_3 [(120,h),(121,l),(122,m),(100,u0),(101,u1),(110,v0),(111,v1)] ⟨ib H,ib L,ib K,ib bu0,ib bu1,ib bv0,ib bv1,⟨⟩⟩ ⟨H,L,K,bu0,bu1,bv0,bv1,⟨⟩⟩ (irS (show 4194304*h+(65536*l+(1*u0+(256*u1+(0))))+0=x by omega) ix) (irS (show 4194304*h+(65536*m+(1*v0+(256*v1+(0))))+2097152=y by omega) iy) w
    · have L : 1 ≤ l ∧ l ≤ 31 := by omega
      have K : 0 ≤ m ∧ m ≤ 31 := by omega
      exact fin c rtl4_2_4 [(121,l),(122,m),(100,u0),(101,u1),(110,v0),(111,v1)] ⟨ib L,ib K,ib bu0,ib bu1,ib bv0,ib bv1,⟨⟩⟩ ⟨L,K,bu0,bu1,bv0,bv1,⟨⟩⟩ (irS (show 65536*l+(1*u0+(256*u1+(0)))+0=x by omega) ix) (irS (show 65536*m+(1*v0+(256*v1+(0)))+2097152=y by omega) iy) w
  · by_cases hh : 1 ≤ h
    · have H : 1 ≤ h ∧ h ≤ 7 := by omega
      have L : 0 ≤ l ∧ l ≤ 15 := by omega
      have K : 0 ≤ m ∧ m ≤ 15 := by omega
      exact fin c rtl4_2_5 [(120,h),(121,l),(122,m),(100,u0),(101,u1),(110,v0),(111,v1)] ⟨ib H,ib L,ib K,ib bu0,ib bu1,ib bv0,ib bv1,⟨⟩⟩ ⟨H,L,K,bu0,bu1,bv0,bv1,⟨⟩⟩ (irS (show 2097152*h+(65536*l+(1*u0+(256*u1+(0))))+0=x by omega) ix) (irS (show 2097152*h+(65536*m+(1*v0+(256*v1+(0))))+1048576=y by omega) iy) w
    · have L : 1 ≤ l ∧ l ≤ 15 := by omega
      have K : 0 ≤ m ∧ m ≤ 15 := by omega
      exact fin c rtl4_2_6 [(121,l),(122,m),(100,u0),(101,u1),(110,v0),(111,v1)] ⟨ib L,ib K,ib bu0,ib bu1,ib bv0,ib bv1,⟨⟩⟩ ⟨L,K,bu0,bu1,bv0,bv1,⟨⟩⟩ (irS (show 65536*l+(1*u0+(256*u1+(0)))+0=x by omega) ix) (irS (show 65536*m+(1*v0+(256*v1+(0)))+1048576=y by omega) iy) w
  · by_cases hh : 1 ≤ h
    · have H : 1 ≤ h ∧ h ≤ 15 := by omega
      have L : 0 ≤ l ∧ l ≤ 7 := by omega
      have K : 0 ≤ m ∧ m ≤ 7 := by omega
      exact fin c rtl4_2_7 [(120,h),(121,l),(122,m),(100,u0),(101,u1),(110,v0),(111,v1)] ⟨ib H,ib L,ib K,ib bu0,ib bu1,ib bv0,ib bv1,⟨⟩⟩ ⟨H,L,K,bu0,bu1,bv0,bv1,⟨⟩⟩ (irS (show 1048576*h+(65536*l+(1*u0+(256*u1+(0))))+0=x by omega) ix) (irS (show 1048576*h+(65536*m+(1*v0+(256*v1+(0))))+524288=y by omega) iy) w
    · have L : 1 ≤ l ∧ l ≤ 7 := by omega
      have K : 0 ≤ m ∧ m ≤ 7 := by omega
      exact fin c rtl4_2_8 [(121,l),(122,m),(100,u0),(101,u1),(110,v0),(111,v1)] ⟨ib L,ib K,ib bu0,ib bu1,ib bv0,ib bv1,⟨⟩⟩ ⟨L,K,bu0,bu1,bv0,bv1,⟨⟩⟩ (irS (show 65536*l+(1*u0+(256*u1+(0)))+0=x by omega) ix) (irS (show 65536*m+(1*v0+(256*v1+(0)))+524288=y by omega) iy) w
  · by_cases hh : 1 ≤ h
    · have H : 1 ≤ h ∧ h ≤ 31 := by omega
      have L : 0 ≤ l ∧ l ≤ 3 := by omega
      have K : 0 ≤ m ∧ m ≤ 3 := by omega
      exact fin c rtl4_2_9 [(120,h),(121,l),(122,m),(100,u0),(101,u1),(110,v0),(111,v1)] ⟨ib H,ib L,ib K,ib bu0,ib bu1,ib bv0,ib bv1,⟨⟩⟩ ⟨H,L,K,bu0,bu1,bv0,bv1,⟨⟩⟩ (irS (show 524288*h+(65536*l+(1*u0+(256*u1+(0))))+0=x by omega) ix) (irS (show 524288*h+(65536*m+(1*v0+(256*v1+(0))))+262144=y by omega) iy) w
    · have L : 1 ≤ l ∧ l ≤ 3 := by omega
      have K : 0 ≤ m ∧ m ≤ 3 := by omega
      exact fin c rtl4_2_10 [(121,l),(122,m),(100,u0),(101,u1),(110,v0),(111,v1)] ⟨ib L,ib K,ib bu0,ib bu1,ib bv0,ib bv1,⟨⟩⟩ ⟨L,K,bu0,bu1,bv0,bv1,⟨⟩⟩ (irS (show 65536*l+(1*u0+(256*u1+(0)))+0=x by omega) ix) (irS (show 65536*m+(1*v0+(256*v1+(0)))+262144=y by omega) iy) w
  · by_cases hh : 1 ≤ h
    · have H : 1 ≤ h ∧ h ≤ 63 := by omega
      have L : 0 ≤ l ∧ l ≤ 1 := by omega
      have K : 0 ≤ m ∧ m ≤ 1 := by omega
      exact fin c rtl4_2_11 [(120,h),(121,l),(122,m),(100,u0),(101,u1),(110,v0),(111,v1)] ⟨ib H,ib L,ib K,ib bu0,ib bu1,ib bv0,ib bv1,⟨⟩⟩ ⟨H,L,K,bu0,bu1,bv0,bv1,⟨⟩⟩ (irS (show 262144*h+(65536*l+(1*u0+(256*u1+(0))))+0=x by omega) ix) (irS (show 262144*h+(65536*m+(1*v0+(256*v1+(0))))+131072=y by omega) iy) w
    · have L : 1 ≤ l ∧ l ≤ 1 := by omega
      have K : 0 ≤ m ∧ m ≤ 1 := by omega
      exact fin c rtl4_2_12 [(121,l),(122,m),(100,u0),(101,u1),(110,v0),(111,v1)] ⟨ib L,ib K,ib bu0,ib bu1,ib bv0,ib bv1,⟨⟩⟩ ⟨L,K,bu0,bu1,bv0,bv1,⟨⟩⟩ (irS (show 65536*l+(1*u0+(256*u1+(0)))+0=x by omega) ix) (irS (show 65536*m+(1*v0+(256*v1+(0)))+131072=y by omega) iy) w
  · have H : 1 ≤ h ∧ h ≤ 127 := by omega
    exact fin c rtl4_2_13 [(120,h),(100,u0),(101,u1),(110,v0),(111,v1)] ⟨ib H,ib bu0,ib bu1,ib bv0,ib bv1,⟨⟩⟩ ⟨H,bu0,bu1,bv0,bv1,⟨⟩⟩ (irS (show 131072*h+(1*u0+(256*u1+(0)))+0=x by omega) ix) (irS (show 131072*h+(1*v0+(256*v1+(0)))+65536=y by omega) iy) w
theorem g4_2 {a0 a1 a2 a3 x y : Int} (c : Ctx a0 a1 a2 a3 x y) (ix : In x) (iy : In y) (p q u0 u1 v0 v1 : Int) (bp : 1 ≤ p ∧ p ≤ 255) (bq : 1 ≤ q ∧ q ≤ 255) (bu0 : 0 ≤ u0 ∧ u0 ≤ 255) (bv0 : 0 ≤ v0 ∧ v0 ≤ 255) (bu1 : 0 ≤ u1 ∧ u1 ≤ 255) (bv1 : 0 ≤ v1 ∧ v1 ≤ 255) (hx : x = 1 * u0 + 256 * u1 + 65536 * p) (hy : y = 1 * v0 + 256 * v1 + 65536 * q) (hpq : q < p) (w : World) : G a0 a1 a2 a3 w := by
  rcases pairs q p (by omega) hpq (by omega) with ⟨h, l, m, h0, l0, l1, m0, m1, ep, eq⟩ | ⟨h, l, m, h0, l0, l1, m0, m1, ep, eq⟩ | ⟨h, l, m, h0, l0, l1, m0, m1, ep, eq⟩ | ⟨h, l, m, h0, l0, l1, m0, m1, ep, eq⟩ | ⟨h, l, m, h0, l0, l1, m0, m1, ep, eq⟩ | ⟨h, l, m, h0, l0, l1, m0, m1, ep, eq⟩ | ⟨h, l, m, h0, l0, l1, m0, m1, ep, eq⟩ | ⟨h, l, m, h0, l0, l1, m0, m1, ep, eq⟩
  · have L : 1 ≤ l ∧ l ≤ 127 := by omega
    have K : 0 ≤ m ∧ m ≤ 127 := by omega
    exact fin c rtg4_2_0 [(121,l),(122,m),(100,u0),(101,u1),(110,v0),(111,v1)] ⟨ib L,ib K,ib bu0,ib bu1,ib bv0,ib bv1,⟨⟩⟩ ⟨L,K,bu0,bu1,bv0,bv1,⟨⟩⟩ (irS (show 65536*m+(1*u0+(256*u1+(0)))+8388608=x by omega) ix) (irS (show 65536*l+(1*v0+(256*v1+(0)))+0=y by omega) iy) w
  · by_cases hh : 1 ≤ h
    · have H : 1 ≤ h ∧ h ≤ 1 := by omega
      have L : 0 ≤ l ∧ l ≤ 63 := by omega
      have K : 0 ≤ m ∧ m ≤ 63 := by omega
      exact fin c rtg4_2_1 [(120,h),(121,l),(122,m),(100,u0),(101,u1),(110,v0),(111,v1)] ⟨ib H,ib L,ib K,ib bu0,ib bu1,ib bv0,ib bv1,⟨⟩⟩ ⟨H,L,K,bu0,bu1,bv0,bv1,⟨⟩⟩ (irS (show 8388608*h+(65536*m+(1*u0+(256*u1+(0))))+4194304=x by omega) ix) (irS (show 8388608*h+(65536*l+(1*v0+(256*v1+(0))))+0=y by omega) iy) w
    · have L : 1 ≤ l ∧ l ≤ 63 := by omega
      have K : 0 ≤ m ∧ m ≤ 63 := by omega
      exact fin c rtg4_2_2 [(121,l),(122,m),(100,u0),(101,u1),(110,v0),(111,v1)] ⟨ib L,ib K,ib bu0,ib bu1,ib bv0,ib bv1,⟨⟩⟩ ⟨L,K,bu0,bu1,bv0,bv1,⟨⟩⟩ (irS (show 65536*m+(1*u0+(256*u1+(0)))+4194304=x by omega) ix) (irS (show 65536*l+(1*v0+(256*v1+(0)))+0=y by omega) iy) w
  · by_cases hh : 1 ≤ h
    · have H : 1 ≤ h ∧ h ≤ 3 := by omega
      have L : 0 ≤ l ∧ l ≤ 31 := by omega
      have K : 0 ≤ m ∧ m ≤ 31 := by omega
      exact fin c rtg4_2_3 [(120,h),(121,l),(122,m),(100,u0),(101,u1),(110,v0),(111,v1)] ⟨ib H,ib L,ib K,ib bu0,ib bu1,ib bv0,ib bv1,⟨⟩⟩ ⟨H,L,K,bu0,bu1,bv0,bv1,⟨⟩⟩ (irS (show 4194304*h+(65536*m+(1*u0+(256*u1+(0))))+2097152=x by omega) ix) (irS (show 4194304*h+(65536*l+(1*v0+(256*v1+(0))))+0=y by omega) iy) w
    · have L : 1 ≤ l ∧ l ≤ 31 := by omega
      have K : 0 ≤ m ∧ m ≤ 31 := by omega
      exact fin c rtg4_2_4 [(121,l),(122,m),(100,u0),(101,u1),(110,v0),(111,v1)] ⟨ib L,ib K,ib bu0,ib bu1,ib bv0,ib bv1,⟨⟩⟩ ⟨L,K,bu0,bu1,bv0,bv1,⟨⟩⟩ (irS (show 65536*m+(1*u0+(256*u1+(0)))+2097152=x by omega) ix) (irS (show 65536*l+(1*v0+(256*v1+(0)))+0=y by omega) iy) w
  · by_cases hh : 1 ≤ h
    · have H : 1 ≤ h ∧ h ≤ 7 := by omega
      have L : 0 ≤ l ∧ l ≤ 15 := by omega
      have K : 0 ≤ m ∧ m ≤ 15 := by omega
      exact fin c rtg4_2_5 [(120,h),(121,l),(122,m),(100,u0),(101,u1),(110,v0),(111,v1)] ⟨ib H,ib L,ib K,ib bu0,ib bu1,ib bv0,ib bv1,⟨⟩⟩ ⟨H,L,K,bu0,bu1,bv0,bv1,⟨⟩⟩ (irS (show 2097152*h+(65536*m+(1*u0+(256*u1+(0))))+1048576=x by omega) ix) (irS (show 2097152*h+(65536*l+(1*v0+(256*v1+(0))))+0=y by omega) iy) w
    · have L : 1 ≤ l ∧ l ≤ 15 := by omega
      have K : 0 ≤ m ∧ m ≤ 15 := by omega
      exact fin c rtg4_2_6 [(121,l),(122,m),(100,u0),(101,u1),(110,v0),(111,v1)] ⟨ib L,ib K,ib bu0,ib bu1,ib bv0,ib bv1,⟨⟩⟩ ⟨L,K,bu0,bu1,bv0,bv1,⟨⟩⟩ (irS (show 65536*m+(1*u0+(256*u1+(0)))+1048576=x by omega) ix) (irS (show 65536*l+(1*v0+(256*v1+(0)))+0=y by omega) iy) w
  · by_cases hh : 1 ≤ h
    · have H : 1 ≤ h ∧ h ≤ 15 := by omega
      have L : 0 ≤ l ∧ l ≤ 7 := by omega
      have K : 0 ≤ m ∧ m ≤ 7 := by omega
      exact fin c rtg4_2_7 [(120,h),(121,l),(122,m),(100,u0),(101,u1),(110,v0),(111,v1)] ⟨ib H,ib L,ib K,ib bu0,ib bu1,ib bv0,ib bv1,⟨⟩⟩ ⟨H,L,K,bu0,bu1,bv0,bv1,⟨⟩⟩ (irS (show 1048576*h+(65536*m+(1*u0+(256*u1+(0))))+524288=x by omega) ix) (irS (show 1048576*h+(65536*l+(1*v0+(256*v1+(0))))+0=y by omega) iy) w
    · have L : 1 ≤ l ∧ l ≤ 7 := by omega
      have K : 0 ≤ m ∧ m ≤ 7 := by omega
      exact fin c rtg4_2_8 [(121,l),(122,m),(100,u0),(101,u1),(110,v0),(111,v1)] ⟨ib L,ib K,ib bu0,ib bu1,ib bv0,ib bv1,⟨⟩⟩ ⟨L,K,bu0,bu1,bv0,bv1,⟨⟩⟩ (irS (show 65536*m+(1*u0+(256*u1+(0)))+524288=x by omega) ix) (irS (show 65536*l+(1*v0+(256*v1+(0)))+0=y by omega) iy) w
  · by_cases hh : 1 ≤ h
    · have H : 1 ≤ h ∧ h ≤ 31 := by omega
      have L : 0 ≤ l ∧ l ≤ 3 := by omega
      have K : 0 ≤ m ∧ m ≤ 3 := by omega
      exact fin c rtg4_2_9 [(120,h),(121,l),(122,m),(100,u0),(101,u1),(110,v0),(111,v1)] ⟨ib H,ib L,ib K,ib bu0,ib bu1,ib bv0,ib bv1,⟨⟩⟩ ⟨H,L,K,bu0,bu1,bv0,bv1,⟨⟩⟩ (irS (show 524288*h+(65536*m+(1*u0+(256*u1+(0))))+262144=x by omega) ix) (irS (show 524288*h+(65536*l+(1*v0+(256*v1+(0))))+0=y by omega) iy) w
    · have L : 1 ≤ l ∧ l ≤ 3 := by omega
      have K : 0 ≤ m ∧ m ≤ 3 := by omega
      exact fin c rtg4_2_10 [(121,l),(122,m),(100,u0),(101,u1),(110,v0),(111,v1)] ⟨ib L,ib K,ib bu0,ib bu1,ib bv0,ib bv1,⟨⟩⟩ ⟨L,K,bu0,bu1,bv0,bv1,⟨⟩⟩ (irS (show 65536*m+(1*u0+(256*u1+(0)))+262144=x by omega) ix) (irS (show 65536*l+(1*v0+(256*v1+(0)))+0=y by omega) iy) w
  · by_cases hh : 1 ≤ h
    · have H : 1 ≤ h ∧ h ≤ 63 := by omega
      have L : 0 ≤ l ∧ l ≤ 1 := by omega
      have K : 0 ≤ m ∧ m ≤ 1 := by omega
      exact fin c rtg4_2_11 [(120,h),(121,l),(122,m),(100,u0),(101,u1),(110,v0),(111,v1)] ⟨ib H,ib L,ib K,ib bu0,ib bu1,ib bv0,ib bv1,⟨⟩⟩ ⟨H,L,K,bu0,bu1,bv0,bv1,⟨⟩⟩ (irS (show 262144*h+(65536*m+(1*u0+(256*u1+(0))))+131072=x by omega) ix) (irS (show 262144*h+(65536*l+(1*v0+(256*v1+(0))))+0=y by omega) iy) w
    · have L : 1 ≤ l ∧ l ≤ 1 := by omega
      have K : 0 ≤ m ∧ m ≤ 1 := by omega
      exact fin c rtg4_2_12 [(121,l),(122,m),(100,u0),(101,u1),(110,v0),(111,v1)] ⟨ib L,ib K,ib bu0,ib bu1,ib bv0,ib bv1,⟨⟩⟩ ⟨L,K,bu0,bu1,bv0,bv1,⟨⟩⟩ (irS (show 65536*m+(1*u0+(256*u1+(0)))+131072=x by omega) ix) (irS (show 65536*l+(1*v0+(256*v1+(0)))+0=y by omega) iy) w
  · have H : 1 ≤ h ∧ h ≤ 127 := by omega
    exact fin c rtg4_2_13 [(120,h),(100,u0),(101,u1),(110,v0),(111,v1)] ⟨ib H,ib bu0,ib bu1,ib bv0,ib bv1,⟨⟩⟩ ⟨H,bu0,bu1,bv0,bv1,⟨⟩⟩ (irS (show 131072*h+(1*u0+(256*u1+(0)))+65536=x by omega) ix) (irS (show 131072*h+(1*v0+(256*v1+(0)))+0=y by omega) iy) w
theorem l4_1 {a0 a1 a2 a3 x y : Int} (c : Ctx a0 a1 a2 a3 x y) (ix : In x) (iy : In y) (d2 p q u0 v0 : Int) (bd2 : 1 ≤ d2 ∧ d2 ≤ 255) (bp : 0 ≤ p ∧ p ≤ 255) (bq : 0 ≤ q ∧ q ≤ 255) (bu0 : 0 ≤ u0 ∧ u0 ≤ 255) (bv0 : 0 ≤ v0 ∧ v0 ≤ 255) (hx : x = 1 * u0 + 256 * p + 65536 * d2) (hy : y = 1 * v0 + 256 * q + 65536 * d2) (hpq : p < q) (w : World) : G a0 a1 a2 a3 w := by
  rcases pairs p q (by omega) hpq (by omega) with ⟨h, l, m, h0, l0, l1, m0, m1, ep, eq⟩ | ⟨h, l, m, h0, l0, l1, m0, m1, ep, eq⟩ | ⟨h, l, m, h0, l0, l1, m0, m1, ep, eq⟩ | ⟨h, l, m, h0, l0, l1, m0, m1, ep, eq⟩ | ⟨h, l, m, h0, l0, l1, m0, m1, ep, eq⟩ | ⟨h, l, m, h0, l0, l1, m0, m1, ep, eq⟩ | ⟨h, l, m, h0, l0, l1, m0, m1, ep, eq⟩ | ⟨h, l, m, h0, l0, l1, m0, m1, ep, eq⟩
  · have L : 0 ≤ l ∧ l ≤ 127 := by omega
    have K : 0 ≤ m ∧ m ≤ 127 := by omega
    exact fin c rtl4_1_0 [(102,d2),(121,l),(122,m),(100,u0),(110,v0)] ⟨ib bd2,ib L,ib K,ib bu0,ib bv0,⟨⟩⟩ ⟨bd2,L,K,bu0,bv0,⟨⟩⟩ (irS (show 65536*d2+(256*l+(1*u0+(0)))+0=x by omega) ix) (irS (show 65536*d2+(256*m+(1*v0+(0)))+32768=y by omega) iy) w
  · have H : 0 ≤ h ∧ h ≤ 1 := by omega
    have L : 0 ≤ l ∧ l ≤ 63 := by omega
    have K : 0 ≤ m ∧ m ≤ 63 := by omega
    exact fin c rtl4_1_1 [(102,d2),(120,h),(121,l),(122,m),(100,u0),(110,v0)] ⟨ib bd2,ib H,ib L,ib K,ib bu0,ib bv0,⟨⟩⟩ ⟨bd2,H,L,K,bu0,bv0,⟨⟩⟩ (irS (show 65536*d2+(32768*h+(256*l+(1*u0+(0))))+0=x by omega) ix) (irS (show 65536*d2+(32768*h+(256*m+(1*v0+(0))))+16384=y by omega) iy) w
  · have H : 0 ≤ h ∧ h ≤ 3 := by omega
    have L : 0 ≤ l ∧ l ≤ 31 := by omega
    have K : 0 ≤ m ∧ m ≤ 31 := by omega
    exact fin c rtl4_1_2 [(102,d2),(120,h),(121,l),(122,m),(100,u0),(110,v0)] ⟨ib bd2,ib H,ib L,ib K,ib bu0,ib bv0,⟨⟩⟩ ⟨bd2,H,L,K,bu0,bv0,⟨⟩⟩ (irS (show 65536*d2+(16384*h+(256*l+(1*u0+(0))))+0=x by omega) ix) (irS (show 65536*d2+(16384*h+(256*m+(1*v0+(0))))+8192=y by omega) iy) w
  · have H : 0 ≤ h ∧ h ≤ 7 := by omega
    have L : 0 ≤ l ∧ l ≤ 15 := by omega
    have K : 0 ≤ m ∧ m ≤ 15 := by omega
    exact fin c rtl4_1_3 [(102,d2),(120,h),(121,l),(122,m),(100,u0),(110,v0)] ⟨ib bd2,ib H,ib L,ib K,ib bu0,ib bv0,⟨⟩⟩ ⟨bd2,H,L,K,bu0,bv0,⟨⟩⟩ (irS (show 65536*d2+(8192*h+(256*l+(1*u0+(0))))+0=x by omega) ix) (irS (show 65536*d2+(8192*h+(256*m+(1*v0+(0))))+4096=y by omega) iy) w
  · have H : 0 ≤ h ∧ h ≤ 15 := by omega
    have L : 0 ≤ l ∧ l ≤ 7 := by omega
    have K : 0 ≤ m ∧ m ≤ 7 := by omega
    exact fin c rtl4_1_4 [(102,d2),(120,h),(121,l),(122,m),(100,u0),(110,v0)] ⟨ib bd2,ib H,ib L,ib K,ib bu0,ib bv0,⟨⟩⟩ ⟨bd2,H,L,K,bu0,bv0,⟨⟩⟩ (irS (show 65536*d2+(4096*h+(256*l+(1*u0+(0))))+0=x by omega) ix) (irS (show 65536*d2+(4096*h+(256*m+(1*v0+(0))))+2048=y by omega) iy) w
  · have H : 0 ≤ h ∧ h ≤ 31 := by omega
    have L : 0 ≤ l ∧ l ≤ 3 := by omega
    have K : 0 ≤ m ∧ m ≤ 3 := by omega
    exact fin c rtl4_1_5 [(102,d2),(120,h),(121,l),(122,m),(100,u0),(110,v0)] ⟨ib bd2,ib H,ib L,ib K,ib bu0,ib bv0,⟨⟩⟩ ⟨bd2,H,L,K,bu0,bv0,⟨⟩⟩ (irS (show 65536*d2+(2048*h+(256*l+(1*u0+(0))))+0=x by omega) ix) (irS (show 65536*d2+(2048*h+(256*m+(1*v0+(0))))+1024=y by omega) iy) w
  · have H : 0 ≤ h ∧ h ≤ 63 := by omega
    have L : 0 ≤ l ∧ l ≤ 1 := by omega
    have K : 0 ≤ m ∧ m ≤ 1 := by omega
    exact fin c rtl4_1_6 [(102,d2),(120,h),(121,l),(122,m),(100,u0),(110,v0)] ⟨ib bd2,ib H,ib L,ib K,ib bu0,ib bv0,⟨⟩⟩ ⟨bd2,H,L,K,bu0,bv0,⟨⟩⟩ (irS (show 65536*d2+(1024*h+(256*l+(1*u0+(0))))+0=x by omega) ix) (irS (show 65536*d2+(1024*h+(256*m+(1*v0+(0))))+512=y by omega) iy) w
  · have H : 0 ≤ h ∧ h ≤ 127 := by omega
    exact fin c rtl4_1_7 [(102,d2),(120,h),(100,u0),(110,v0)] ⟨ib bd2,ib H,ib bu0,ib bv0,⟨⟩⟩ ⟨bd2,H,bu0,bv0,⟨⟩⟩ (irS (show 65536*d2+(512*h+(1*u0+(0)))+0=x by omega) ix) (irS (show 65536*d2+(512*h+(1*v0+(0)))+256=y by omega) iy) w
theorem g4_1 {a0 a1 a2 a3 x y : Int} (c : Ctx a0 a1 a2 a3 x y) (ix : In x) (iy : In y) (d2 p q u0 v0 : Int) (bd2 : 1 ≤ d2 ∧ d2 ≤ 255) (bp : 0 ≤ p ∧ p ≤ 255) (bq : 0 ≤ q ∧ q ≤ 255) (bu0 : 0 ≤ u0 ∧ u0 ≤ 255) (bv0 : 0 ≤ v0 ∧ v0 ≤ 255) (hx : x = 1 * u0 + 256 * p + 65536 * d2) (hy : y = 1 * v0 + 256 * q + 65536 * d2) (hpq : q < p) (w : World) : G a0 a1 a2 a3 w := by
  rcases pairs q p (by omega) hpq (by omega) with ⟨h, l, m, h0, l0, l1, m0, m1, ep, eq⟩ | ⟨h, l, m, h0, l0, l1, m0, m1, ep, eq⟩ | ⟨h, l, m, h0, l0, l1, m0, m1, ep, eq⟩ | ⟨h, l, m, h0, l0, l1, m0, m1, ep, eq⟩ | ⟨h, l, m, h0, l0, l1, m0, m1, ep, eq⟩ | ⟨h, l, m, h0, l0, l1, m0, m1, ep, eq⟩ | ⟨h, l, m, h0, l0, l1, m0, m1, ep, eq⟩ | ⟨h, l, m, h0, l0, l1, m0, m1, ep, eq⟩
  · have L : 0 ≤ l ∧ l ≤ 127 := by omega
    have K : 0 ≤ m ∧ m ≤ 127 := by omega
    exact fin c rtg4_1_0 [(102,d2),(121,l),(122,m),(100,u0),(110,v0)] ⟨ib bd2,ib L,ib K,ib bu0,ib bv0,⟨⟩⟩ ⟨bd2,L,K,bu0,bv0,⟨⟩⟩ (irS (show 65536*d2+(256*m+(1*u0+(0)))+32768=x by omega) ix) (irS (show 65536*d2+(256*l+(1*v0+(0)))+0=y by omega) iy) w
  · have H : 0 ≤ h ∧ h ≤ 1 := by omega
    have L : 0 ≤ l ∧ l ≤ 63 := by omega
    have K : 0 ≤ m ∧ m ≤ 63 := by omega
    exact fin c rtg4_1_1 [(102,d2),(120,h),(121,l),(122,m),(100,u0),(110,v0)] ⟨ib bd2,ib H,ib L,ib K,ib bu0,ib bv0,⟨⟩⟩ ⟨bd2,H,L,K,bu0,bv0,⟨⟩⟩ (irS (show 65536*d2+(32768*h+(256*m+(1*u0+(0))))+16384=x by omega) ix) (irS (show 65536*d2+(32768*h+(256*l+(1*v0+(0))))+0=y by omega) iy) w
  · have H : 0 ≤ h ∧ h ≤ 3 := by omega
    have L : 0 ≤ l ∧ l ≤ 31 := by omega
    have K : 0 ≤ m ∧ m ≤ 31 := by omega
    exact fin c rtg4_1_2 [(102,d2),(120,h),(121,l),(122,m),(100,u0),(110,v0)] ⟨ib bd2,ib H,ib L,ib K,ib bu0,ib bv0,⟨⟩⟩ ⟨bd2,H,L,K,bu0,bv0,⟨⟩⟩ (irS (show 65536*d2+(16384*h+(256*m+(1*u0+(0))))+8192=x by omega) ix) (irS (show 65536*d2+(16384*h+(256*l+(1*v0+(0))))+0=y by omega) iy) w
  · have H : 0 ≤ h ∧ h ≤ 7 := by omega
    have L : 0 ≤ l ∧ l ≤ 15 := by omega
    have K : 0 ≤ m ∧ m ≤ 15 := by omega
    exact fin c rtg4_1_3 [(102,d2),(120,h),(121,l),(122,m),(100,u0),(110,v0)] ⟨ib bd2,ib H,ib L,ib K,ib bu0,ib bv0,⟨⟩⟩ ⟨bd2,H,L,K,bu0,bv0,⟨⟩⟩ (irS (show 65536*d2+(8192*h+(256*m+(1*u0+(0))))+4096=x by omega) ix) (irS (show 65536*d2+(8192*h+(256*l+(1*v0+(0))))+0=y by omega) iy) w
  · have H : 0 ≤ h ∧ h ≤ 15 := by omega
    have L : 0 ≤ l ∧ l ≤ 7 := by omega
    have K : 0 ≤ m ∧ m ≤ 7 := by omega
    exact fin c rtg4_1_4 [(102,d2),(120,h),(121,l),(122,m),(100,u0),(110,v0)] ⟨ib bd2,ib H,ib L,ib K,ib bu0,ib bv0,⟨⟩⟩ ⟨bd2,H,L,K,bu0,bv0,⟨⟩⟩ (irS (show 65536*d2+(4096*h+(256*m+(1*u0+(0))))+2048=x by omega) ix) (irS (show 65536*d2+(4096*h+(256*l+(1*v0+(0))))+0=y by omega) iy) w
  · have H : 0 ≤ h ∧ h ≤ 31 := by omega
    have L : 0 ≤ l ∧ l ≤ 3 := by omega
    have K : 0 ≤ m ∧ m ≤ 3 := by omega
    exact fin c rtg4_1_5 [(102,d2),(120,h),(121,l),(122,m),(100,u0),(110,v0)] ⟨ib bd2,ib H,ib L,ib K,ib bu0,ib bv0,⟨⟩⟩ ⟨bd2,H,L,K,bu0,bv0,⟨⟩⟩ (irS (show 65536*d2+(2048*h+(256*m+(1*u0+(0))))+1024=x by omega) ix) (irS (show 65536*d2+(2048*h+(256*l+(1*v0+(0))))+0=y by omega) iy) w
  · have H : 0 ≤ h ∧ h ≤ 63 := by omega
    have L : 0 ≤ l ∧ l ≤ 1 := by omega
    have K : 0 ≤ m ∧ m ≤ 1 := by omega
    exact fin c rtg4_1_6 [(102,d2),(120,h),(121,l),(122,m),(100,u0),(110,v0)] ⟨ib bd2,ib H,ib L,ib K,ib bu0,ib bv0,⟨⟩⟩ ⟨bd2,H,L,K,bu0,bv0,⟨⟩⟩ (irS (show 65536*d2+(1024*h+(256*m+(1*u0+(0))))+512=x by omega) ix) (irS (show 65536*d2+(1024*h+(256*l+(1*v0+(0))))+0=y by omega) iy) w
  · have H : 0 ≤ h ∧ h ≤ 127 := by omega
    exact fin c rtg4_1_7 [(102,d2),(120,h),(100,u0),(110,v0)] ⟨ib bd2,ib H,ib bu0,ib bv0,⟨⟩⟩ ⟨bd2,H,bu0,bv0,⟨⟩⟩ (irS (show 65536*d2+(512*h+(1*u0+(0)))+256=x by omega) ix) (irS (show 65536*d2+(512*h+(1*v0+(0)))+0=y by omega) iy) w
theorem l4_0 {a0 a1 a2 a3 x y : Int} (c : Ctx a0 a1 a2 a3 x y) (ix : In x) (iy : In y) (d1 d2 p q : Int) (bd1 : 0 ≤ d1 ∧ d1 ≤ 255) (bd2 : 1 ≤ d2 ∧ d2 ≤ 255) (bp : 0 ≤ p ∧ p ≤ 255) (bq : 0 ≤ q ∧ q ≤ 255) (hx : x = 1 * p + 256 * d1 + 65536 * d2) (hy : y = 1 * q + 256 * d1 + 65536 * d2) (hpq : p < q) (w : World) : G a0 a1 a2 a3 w := by
  rcases pairs p q (by omega) hpq (by omega) with ⟨h, l, m, h0, l0, l1, m0, m1, ep, eq⟩ | ⟨h, l, m, h0, l0, l1, m0, m1, ep, eq⟩ | ⟨h, l, m, h0, l0, l1, m0, m1, ep, eq⟩ | ⟨h, l, m, h0, l0, l1, m0, m1, ep, eq⟩ | ⟨h, l, m, h0, l0, l1, m0, m1, ep, eq⟩ | ⟨h, l, m, h0, l0, l1, m0, m1, ep, eq⟩ | ⟨h, l, m, h0, l0, l1, m0, m1, ep, eq⟩ | ⟨h, l, m, h0, l0, l1, m0, m1, ep, eq⟩
  · have L : 0 ≤ l ∧ l ≤ 127 := by omega
    have K : 0 ≤ m ∧ m ≤ 127 := by omega
    exact fin c rtl4_0_0 [(101,d1),(102,d2),(121,l),(122,m)] ⟨ib bd1,ib bd2,ib L,ib K,⟨⟩⟩ ⟨bd1,bd2,L,K,⟨⟩⟩ (irS (show 256*d1+(65536*d2+(1*l+(0)))+0=x by omega) ix) (irS (show 256*d1+(65536*d2+(1*m+(0)))+128=y by omega) iy) w
  · have H : 0 ≤ h ∧ h ≤ 1 := by omega
    have L : 0 ≤ l ∧ l ≤ 63 := by omega
    have K : 0 ≤ m ∧ m ≤ 63 := by omega
    exact fin c rtl4_0_1 [(101,d1),(102,d2),(120,h),(121,l),(122,m)] ⟨ib bd1,ib bd2,ib H,ib L,ib K,⟨⟩⟩ ⟨bd1,bd2,H,L,K,⟨⟩⟩ (irS (show 256*d1+(65536*d2+(128*h+(1*l+(0))))+0=x by omega) ix) (irS (show 256*d1+(65536*d2+(128*h+(1*m+(0))))+64=y by omega) iy) w
  · have H : 0 ≤ h ∧ h ≤ 3 := by omega
    have L : 0 ≤ l ∧ l ≤ 31 := by omega
    have K : 0 ≤ m ∧ m ≤ 31 := by omega
    exact fin c rtl4_0_2 [(101,d1),(102,d2),(120,h),(121,l),(122,m)] ⟨ib bd1,ib bd2,ib H,ib L,ib K,⟨⟩⟩ ⟨bd1,bd2,H,L,K,⟨⟩⟩ (irS (show 256*d1+(65536*d2+(64*h+(1*l+(0))))+0=x by omega) ix) (irS (show 256*d1+(65536*d2+(64*h+(1*m+(0))))+32=y by omega) iy) w
  · have H : 0 ≤ h ∧ h ≤ 7 := by omega
    have L : 0 ≤ l ∧ l ≤ 15 := by omega
    have K : 0 ≤ m ∧ m ≤ 15 := by omega
    exact fin c rtl4_0_3 [(101,d1),(102,d2),(120,h),(121,l),(122,m)] ⟨ib bd1,ib bd2,ib H,ib L,ib K,⟨⟩⟩ ⟨bd1,bd2,H,L,K,⟨⟩⟩ (irS (show 256*d1+(65536*d2+(32*h+(1*l+(0))))+0=x by omega) ix) (irS (show 256*d1+(65536*d2+(32*h+(1*m+(0))))+16=y by omega) iy) w
  · have H : 0 ≤ h ∧ h ≤ 15 := by omega
    have L : 0 ≤ l ∧ l ≤ 7 := by omega
    have K : 0 ≤ m ∧ m ≤ 7 := by omega
    exact fin c rtl4_0_4 [(101,d1),(102,d2),(120,h),(121,l),(122,m)] ⟨ib bd1,ib bd2,ib H,ib L,ib K,⟨⟩⟩ ⟨bd1,bd2,H,L,K,⟨⟩⟩ (irS (show 256*d1+(65536*d2+(16*h+(1*l+(0))))+0=x by omega) ix) (irS (show 256*d1+(65536*d2+(16*h+(1*m+(0))))+8=y by omega) iy) w
  · have H : 0 ≤ h ∧ h ≤ 31 := by omega
    have L : 0 ≤ l ∧ l ≤ 3 := by omega
    have K : 0 ≤ m ∧ m ≤ 3 := by omega
    exact fin c rtl4_0_5 [(101,d1),(102,d2),(120,h),(121,l),(122,m)] ⟨ib bd1,ib bd2,ib H,ib L,ib K,⟨⟩⟩ ⟨bd1,bd2,H,L,K,⟨⟩⟩ (irS (show 256*d1+(65536*d2+(8*h+(1*l+(0))))+0=x by omega) ix) (irS (show 256*d1+(65536*d2+(8*h+(1*m+(0))))+4=y by omega) iy) w
  · have H : 0 ≤ h ∧ h ≤ 63 := by omega
    have L : 0 ≤ l ∧ l ≤ 1 := by omega
    have K : 0 ≤ m ∧ m ≤ 1 := by omega
    exact fin c rtl4_0_6 [(101,d1),(102,d2),(120,h),(121,l),(122,m)] ⟨ib bd1,ib bd2,ib H,ib L,ib K,⟨⟩⟩ ⟨bd1,bd2,H,L,K,⟨⟩⟩ (irS (show 256*d1+(65536*d2+(4*h+(1*l+(0))))+0=x by omega) ix) (irS (show 256*d1+(65536*d2+(4*h+(1*m+(0))))+2=y by omega) iy) w
  · have H : 0 ≤ h ∧ h ≤ 127 := by omega
    exact fin c rtl4_0_7 [(101,d1),(102,d2),(120,h)] ⟨ib bd1,ib bd2,ib H,⟨⟩⟩ ⟨bd1,bd2,H,⟨⟩⟩ (irS (show 256*d1+(65536*d2+(2*h+(0)))+0=x by omega) ix) (irS (show 256*d1+(65536*d2+(2*h+(0)))+1=y by omega) iy) w
theorem g4_0 {a0 a1 a2 a3 x y : Int} (c : Ctx a0 a1 a2 a3 x y) (ix : In x) (iy : In y) (d1 d2 p q : Int) (bd1 : 0 ≤ d1 ∧ d1 ≤ 255) (bd2 : 1 ≤ d2 ∧ d2 ≤ 255) (bp : 0 ≤ p ∧ p ≤ 255) (bq : 0 ≤ q ∧ q ≤ 255) (hx : x = 1 * p + 256 * d1 + 65536 * d2) (hy : y = 1 * q + 256 * d1 + 65536 * d2) (hpq : q < p) (w : World) : G a0 a1 a2 a3 w := by
  rcases pairs q p (by omega) hpq (by omega) with ⟨h, l, m, h0, l0, l1, m0, m1, ep, eq⟩ | ⟨h, l, m, h0, l0, l1, m0, m1, ep, eq⟩ | ⟨h, l, m, h0, l0, l1, m0, m1, ep, eq⟩ | ⟨h, l, m, h0, l0, l1, m0, m1, ep, eq⟩ | ⟨h, l, m, h0, l0, l1, m0, m1, ep, eq⟩ | ⟨h, l, m, h0, l0, l1, m0, m1, ep, eq⟩ | ⟨h, l, m, h0, l0, l1, m0, m1, ep, eq⟩ | ⟨h, l, m, h0, l0, l1, m0, m1, ep, eq⟩
  · have L : 0 ≤ l ∧ l ≤ 127 := by omega
    have K : 0 ≤ m ∧ m ≤ 127 := by omega
    exact fin c rtg4_0_0 [(101,d1),(102,d2),(121,l),(122,m)] ⟨ib bd1,ib bd2,ib L,ib K,⟨⟩⟩ ⟨bd1,bd2,L,K,⟨⟩⟩ (irS (show 256*d1+(65536*d2+(1*m+(0)))+128=x by omega) ix) (irS (show 256*d1+(65536*d2+(1*l+(0)))+0=y by omega) iy) w
  · have H : 0 ≤ h ∧ h ≤ 1 := by omega
    have L : 0 ≤ l ∧ l ≤ 63 := by omega
    have K : 0 ≤ m ∧ m ≤ 63 := by omega
    exact fin c rtg4_0_1 [(101,d1),(102,d2),(120,h),(121,l),(122,m)] ⟨ib bd1,ib bd2,ib H,ib L,ib K,⟨⟩⟩ ⟨bd1,bd2,H,L,K,⟨⟩⟩ (irS (show 256*d1+(65536*d2+(128*h+(1*m+(0))))+64=x by omega) ix) (irS (show 256*d1+(65536*d2+(128*h+(1*l+(0))))+0=y by omega) iy) w
  · have H : 0 ≤ h ∧ h ≤ 3 := by omega
    have L : 0 ≤ l ∧ l ≤ 31 := by omega
    have K : 0 ≤ m ∧ m ≤ 31 := by omega
    exact fin c rtg4_0_2 [(101,d1),(102,d2),(120,h),(121,l),(122,m)] ⟨ib bd1,ib bd2,ib H,ib L,ib K,⟨⟩⟩ ⟨bd1,bd2,H,L,K,⟨⟩⟩ (irS (show 256*d1+(65536*d2+(64*h+(1*m+(0))))+32=x by omega) ix) (irS (show 256*d1+(65536*d2+(64*h+(1*l+(0))))+0=y by omega) iy) w
  · have H : 0 ≤ h ∧ h ≤ 7 := by omega
    have L : 0 ≤ l ∧ l ≤ 15 := by omega
    have K : 0 ≤ m ∧ m ≤ 15 := by omega
    exact fin c rtg4_0_3 [(101,d1),(102,d2),(120,h),(121,l),(122,m)] ⟨ib bd1,ib bd2,ib H,ib L,ib K,⟨⟩⟩ ⟨bd1,bd2,H,L,K,⟨⟩⟩ (irS (show 256*d1+(65536*d2+(32*h+(1*m+(0))))+16=x by omega) ix) (irS (show 256*d1+(65536*d2+(32*h+(1*l+(0))))+0=y by omega) iy) w
  · have H : 0 ≤ h ∧ h ≤ 15 := by omega
    have L : 0 ≤ l ∧ l ≤ 7 := by omega
    have K : 0 ≤ m ∧ m ≤ 7 := by omega
    exact fin c rtg4_0_4 [(101,d1),(102,d2),(120,h),(121,l),(122,m)] ⟨ib bd1,ib bd2,ib H,ib L,ib K,⟨⟩⟩ ⟨bd1,bd2,H,L,K,⟨⟩⟩ (irS (show 256*d1+(65536*d2+(16*h+(1*m+(0))))+8=x by omega) ix) (irS (show 256*d1+(65536*d2+(16*h+(1*l+(0))))+0=y by omega) iy) w
  · have H : 0 ≤ h ∧ h ≤ 31 := by omega
    have L : 0 ≤ l ∧ l ≤ 3 := by omega
    have K : 0 ≤ m ∧ m ≤ 3 := by omega
    exact fin c rtg4_0_5 [(101,d1),(102,d2),(120,h),(121,l),(122,m)] ⟨ib bd1,ib bd2,ib H,ib L,ib K,⟨⟩⟩ ⟨bd1,bd2,H,L,K,⟨⟩⟩ (irS (show 256*d1+(65536*d2+(8*h+(1*m+(0))))+4=x by omega) ix) (irS (show 256*d1+(65536*d2+(8*h+(1*l+(0))))+0=y by omega) iy) w
  · have H : 0 ≤ h ∧ h ≤ 63 := by omega
    have L : 0 ≤ l ∧ l ≤ 1 := by omega
    have K : 0 ≤ m ∧ m ≤ 1 := by omega
    exact fin c rtg4_0_6 [(101,d1),(102,d2),(120,h),(121,l),(122,m)] ⟨ib bd1,ib bd2,ib H,ib L,ib K,⟨⟩⟩ ⟨bd1,bd2,H,L,K,⟨⟩⟩ (irS (show 256*d1+(65536*d2+(4*h+(1*m+(0))))+2=x by omega) ix) (irS (show 256*d1+(65536*d2+(4*h+(1*l+(0))))+0=y by omega) iy) w
  · have H : 0 ≤ h ∧ h ≤ 127 := by omega
    exact fin c rtg4_0_7 [(101,d1),(102,d2),(120,h)] ⟨ib bd1,ib bd2,ib H,⟨⟩⟩ ⟨bd1,bd2,H,⟨⟩⟩ (irS (show 256*d1+(65536*d2+(2*h+(0)))+1=x by omega) ix) (irS (show 256*d1+(65536*d2+(2*h+(0)))+0=y by omega) iy) w
theorem e4 {a0 a1 a2 a3 x y : Int} (c : Ctx a0 a1 a2 a3 x y) (ix : In x) (iy : In y) (d0 d1 d2 : Int) (bd0 : 0 ≤ d0 ∧ d0 ≤ 255) (bd1 : 0 ≤ d1 ∧ d1 ≤ 255) (bd2 : 1 ≤ d2 ∧ d2 ≤ 255) (hx : x = 1 * d0 + 256 * d1 + 65536 * d2) (hy : y = 1 * d0 + 256 * d1 + 65536 * d2) (w : World) : G a0 a1 a2 a3 w :=
  fin c rte4 [(100,d0),(101,d1),(102,d2)] ⟨ib bd0,ib bd1,ib bd2,⟨⟩⟩ ⟨bd0,bd1,bd2,⟨⟩⟩ (irS (show 1*d0+(256*d1+(65536*d2+(0)))+0=x by omega) ix) (irS (show 1*d0+(256*d1+(65536*d2+(0)))+0=y by omega) iy) w
theorem b4_4 {a0 a1 a2 a3 x y : Int} (c : Ctx a0 a1 a2 a3 x y) (ix : In x) (iy : In y) (hx : Cl4 x) (hy : Cl4 y) (w : World) : G a0 a1 a2 a3 w := by
  obtain ⟨d0, d1, d2, bd0, bd1, bd2, hx⟩ := hx
  obtain ⟨f0, f1, f2, bf0, bf1, bf2, hy⟩ := hy
  rcases Int.lt_trichotomy d2 f2 with hlt | he2 | hlt
  · exact l4_2 c ix iy d2 f2 d0 d1 f0 f1 bd2 bf2 bd0 bf0 bd1 bf1 hx hy hlt w
  rotate_left
  · exact g4_2 c ix iy d2 f2 d0 d1 f0 f1 bd2 bf2 bd0 bf0 bd1 bf1 hx hy hlt w
  subst he2
  rcases Int.lt_trichotomy d1 f1 with hlt | he1 | hlt
  · exact l4_1 c ix iy d2 d1 f1 d0 f0 bd2 bd1 bf1 bd0 bf0 hx hy hlt w
  rotate_left
  · exact g4_1 c ix iy d2 d1 f1 d0 f0 bd2 bd1 bf1 bd0 bf0 hx hy hlt w
  subst he1
  rcases Int.lt_trichotomy d0 f0 with hlt | he0 | hlt
  · exact l4_0 c ix iy d1 d2 d0 f0 bd1 bd2 bd0 bf0 hx hy hlt w
  rotate_left
  · exact g4_0 c ix iy d1 d2 d0 f0 bd1 bd2 bd0 bf0 hx hy hlt w
  subst he0
  exact e4 c ix iy d0 d1 d2 bd0 bd1 bd2 hx hy w
theorem b4_0 {a0 a1 a2 a3 x y : Int} (c : Ctx a0 a1 a2 a3 x y) (ix : In x) (iy : In y) (hx : Cl4 x) (hy : Cl0 y) (w : World) : G a0 a1 a2 a3 w := by
  obtain ⟨d0, d1, d2, bd0, bd1, bd2, hx⟩ := hx
  obtain ⟨f0, bf0, hy⟩ := hy
  exact fin c rtx4_0 [(100,d0),(101,d1),(102,d2),(110,f0)] ⟨ib bd0,ib bd1,ib bd2,ib bf0,⟨⟩⟩ ⟨bd0,bd1,bd2,bf0,⟨⟩⟩ (irS (show 1*d0+(256*d1+(65536*d2+(0)))+0=x by omega) ix) (irS (show 1*f0+(0)+0=y by omega) iy) w
theorem b4_1 {a0 a1 a2 a3 x y : Int} (c : Ctx a0 a1 a2 a3 x y) (ix : In x) (iy : In y) (hx : Cl4 x) (hy : Cl1 y) (w : World) : G a0 a1 a2 a3 w := by
  obtain ⟨d0, d1, d2, bd0, bd1, bd2, hx⟩ := hx
  obtain ⟨f0, bf0, hy⟩ := hy
  exact fin c rtx4_1 [(100,d0),(101,d1),(102,d2),(110,f0)] ⟨ib bd0,ib bd1,ib bd2,ib bf0,⟨⟩⟩ ⟨bd0,bd1,bd2,bf0,⟨⟩⟩ (irS (show 1*d0+(256*d1+(65536*d2+(0)))+0=x by omega) ix) (irS (show 1*f0+(0)+0=y by omega) iy) w
theorem b4_2 {a0 a1 a2 a3 x y : Int} (c : Ctx a0 a1 a2 a3 x y) (ix : In x) (iy : In y) (hx : Cl4 x) (hy : Cl2 y) (w : World) : G a0 a1 a2 a3 w := by
  obtain ⟨d0, d1, d2, bd0, bd1, bd2, hx⟩ := hx
  obtain ⟨f0, f1, bf0, bf1, hy⟩ := hy
  exact fin c rtx4_2 [(100,d0),(101,d1),(102,d2),(110,f0),(111,f1)] ⟨ib bd0,ib bd1,ib bd2,ib bf0,ib bf1,⟨⟩⟩ ⟨bd0,bd1,bd2,bf0,bf1,⟨⟩⟩ (irS (show 1*d0+(256*d1+(65536*d2+(0)))+0=x by omega) ix) (irS (show 1*f0+(256*f1+(0))+0=y by omega) iy) w
theorem b4_3 {a0 a1 a2 a3 x y : Int} (c : Ctx a0 a1 a2 a3 x y) (ix : In x) (iy : In y) (hx : Cl4 x) (hy : Cl3 y) (w : World) : G a0 a1 a2 a3 w := by
  obtain ⟨d0, d1, d2, bd0, bd1, bd2, hx⟩ := hx
  obtain ⟨f0, f1, bf0, bf1, hy⟩ := hy
  exact fin c rtx4_3 [(100,d0),(101,d1),(102,d2),(110,f0),(111,f1)] ⟨ib bd0,ib bd1,ib bd2,ib bf0,ib bf1,⟨⟩⟩ ⟨bd0,bd1,bd2,bf0,bf1,⟨⟩⟩ (irS (show 1*d0+(256*d1+(65536*d2+(0)))+0=x by omega) ix) (irS (show 1*f0+(256*f1+(0))+0=y by omega) iy) w
theorem b4_5 {a0 a1 a2 a3 x y : Int} (c : Ctx a0 a1 a2 a3 x y) (ix : In x) (iy : In y) (hx : Cl4 x) (hy : Cl5 y) (w : World) : G a0 a1 a2 a3 w := by
  obtain ⟨d0, d1, d2, bd0, bd1, bd2, hx⟩ := hx
  obtain ⟨f0, f1, f2, f3, bf0, bf1, bf2, bf3, hy⟩ := hy
  exact fin c rtx4_5 [(100,d0),(101,d1),(102,d2),(110,f0),(111,f1),(112,f2),(113,f3)] ⟨ib bd0,ib bd1,ib bd2,ib bf0,ib bf1,ib bf2,ib bf3,⟨⟩⟩ ⟨bd0,bd1,bd2,bf0,bf1,bf2,bf3,⟨⟩⟩ (irS (show 1*d0+(256*d1+(65536*d2+(0)))+0=x by omega) ix) (irS (show 1*f0+(256*f1+(65536*f2+(16777216*f3+(0))))+0=y by omega) iy) w
theorem b4_6 {a0 a1 a2 a3 x y : Int} (c : Ctx a0 a1 a2 a3 x y) (ix : In x) (iy : In y) (hx : Cl4 x) (hy : Cl6 y) (w : World) : G a0 a1 a2 a3 w := by
  obtain ⟨d0, d1, d2, bd0, bd1, bd2, hx⟩ := hx
  obtain ⟨f0, f1, f2, f3, bf0, bf1, bf2, bf3, hy⟩ := hy
  exact fin c rtx4_6 [(100,d0),(101,d1),(102,d2),(110,f0),(111,f1),(112,f2),(113,f3)] ⟨ib bd0,ib bd1,ib bd2,ib bf0,ib bf1,ib bf2,ib bf3,⟨⟩⟩ ⟨bd0,bd1,bd2,bf0,bf1,bf2,bf3,⟨⟩⟩ (irS (show 1*d0+(256*d1+(65536*d2+(0)))+0=x by omega) ix) (irS (show 1*f0+(256*f1+(65536*f2+(16777216*f3+(0))))+0=y by omega) iy) w
theorem b4_7 {a0 a1 a2 a3 x y : Int} (c : Ctx a0 a1 a2 a3 x y) (ix : In x) (iy : In y) (hx : Cl4 x) (hy : Cl7 y) (w : World) : G a0 a1 a2 a3 w := by
  obtain ⟨d0, d1, d2, bd0, bd1, bd2, hx⟩ := hx
  obtain ⟨f0, f1, f2, f3, f4, bf0, bf1, bf2, bf3, bf4, hy⟩ := hy
  exact fin c rtx4_7 [(100,d0),(101,d1),(102,d2),(110,f0),(111,f1),(112,f2),(113,f3),(114,f4)] ⟨ib bd0,ib bd1,ib bd2,ib bf0,ib bf1,ib bf2,ib bf3,ib bf4,⟨⟩⟩ ⟨bd0,bd1,bd2,bf0,bf1,bf2,bf3,bf4,⟨⟩⟩ (irS (show 1*d0+(256*d1+(65536*d2+(0)))+0=x by omega) ix) (irS (show 1*f0+(256*f1+(65536*f2+(16777216*f3+(4294967296*f4+(0)))))+0=y by omega) iy) w
theorem b4_8 {a0 a1 a2 a3 x y : Int} (c : Ctx a0 a1 a2 a3 x y) (ix : In x) (iy : In y) (hx : Cl4 x) (hy : Cl8 y) (w : World) : G a0 a1 a2 a3 w := by
  obtain ⟨d0, d1, d2, bd0, bd1, bd2, hx⟩ := hx
  obtain ⟨f0, f1, f2, f3, f4, f5, bf0, bf1, bf2, bf3, bf4, bf5, hy⟩ := hy
  exact fin c rtx4_8 [(100,d0),(101,d1),(102,d2),(110,f0),(111,f1),(112,f2),(113,f3),(114,f4),(115,f5)] ⟨ib bd0,ib bd1,ib bd2,ib bf0,ib bf1,ib bf2,ib bf3,ib bf4,ib bf5,⟨⟩⟩ ⟨bd0,bd1,bd2,bf0,bf1,bf2,bf3,bf4,bf5,⟨⟩⟩ (irS (show 1*d0+(256*d1+(65536*d2+(0)))+0=x by omega) ix) (irS (show 1*f0+(256*f1+(65536*f2+(16777216*f3+(4294967296*f4+(1099511627776*f5+(0))))))+0=y by omega) iy) w
theorem b4_9 {a0 a1 a2 a3 x y : Int} (c : Ctx a0 a1 a2 a3 x y) (ix : In x) (iy : In y) (hx : Cl4 x) (hy : Cl9 y) (w : World) : G a0 a1 a2 a3 w := by
  obtain ⟨d0, d1, d2, bd0, bd1, bd2, hx⟩ := hx
  obtain ⟨f0, f1, f2, f3, f4, f5, f6, bf0, bf1, bf2, bf3, bf4, bf5, bf6, hy⟩ := hy
  exact fin c rtx4_9 [(100,d0),(101,d1),(102,d2),(110,f0),(111,f1),(112,f2),(113,f3),(114,f4),(115,f5),(116,f6)] ⟨ib bd0,ib bd1,ib bd2,ib bf0,ib bf1,ib bf2,ib bf3,ib bf4,ib bf5,ib bf6,⟨⟩⟩ ⟨bd0,bd1,bd2,bf0,bf1,bf2,bf3,bf4,bf5,bf6,⟨⟩⟩ (irS (show 1*d0+(256*d1+(65536*d2+(0)))+0=x by omega) ix) (irS (show 1*f0+(256*f1+(65536*f2+(16777216*f3+(4294967296*f4+(1099511627776*f5+(281474976710656*f6+(0)))))))+0=y by omega) iy) w
theorem b4_10 {a0 a1 a2 a3 x y : Int} (c : Ctx a0 a1 a2 a3 x y) (ix : In x) (iy : In y) (hx : Cl4 x) (hy : Cl10 y) (w : World) : G a0 a1 a2 a3 w := by
  obtain ⟨d0, d1, d2, bd0, bd1, bd2, hx⟩ := hx
  obtain ⟨f0, f1, f2, f3, f4, f5, f6, f7, bf0, bf1, bf2, bf3, bf4, bf5, bf6, bf7, hy⟩ := hy
  exact fin c rtx4_10 [(100,d0),(101,d1),(102,d2),(110,f0),(111,f1),(112,f2),(113,f3),(114,f4),(115,f5),(116,f6),(117,f7)] ⟨ib bd0,ib bd1,ib bd2,ib bf0,ib bf1,ib bf2,ib bf3,ib bf4,ib bf5,ib bf6,ib bf7,⟨⟩⟩ ⟨bd0,bd1,bd2,bf0,bf1,bf2,bf3,bf4,bf5,bf6,bf7,⟨⟩⟩ (irS (show 1*d0+(256*d1+(65536*d2+(0)))+0=x by omega) ix) (irS (show 1*f0+(256*f1+(65536*f2+(16777216*f3+(4294967296*f4+(1099511627776*f5+(281474976710656*f6+(72057594037927936*f7+(0))))))))+0=y by omega) iy) w
theorem l5_3 {a0 a1 a2 a3 x y : Int} (c : Ctx a0 a1 a2 a3 x y) (ix : In x) (iy : In y) (p q u0 u1 u2 v0 v1 v2 : Int) (bp : 1 ≤ p ∧ p ≤ 63) (bq : 1 ≤ q ∧ q ≤ 63) (bu0 : 0 ≤ u0 ∧ u0 ≤ 255) (bv0 : 0 ≤ v0 ∧ v0 ≤ 255) (bu1 : 0 ≤ u1 ∧ u1 ≤ 255) (bv1 : 0 ≤ v1 ∧ v1 ≤ 255) (bu2 : 0 ≤ u2 ∧ u2 ≤ 255) (bv2 : 0 ≤ v2 ∧ v2 ≤ 255) (hx : x = 1 * u0 + 256 * u1 + 65536 * u2 + 16777216 * p) (hy : y = 1 * v0 + 256 * v1 + 65536 * v2 + 16777216 * q) (hpq : p < q) (w : World) : G a0 a1 a2 a3 w := by
  rcases pairs p q (by omega) hpq (by omega) with ⟨h, l, m, h0, l0, l1, m0, m1, ep, eq⟩ | ⟨h, l, m, h0, l0, l1, m0, m1, ep, eq⟩ | ⟨h, l, m, h0, l0, l1, m0, m1, ep, eq⟩ | ⟨h, l, m, h0, l0, l1, m0, m1, ep, eq⟩ | ⟨h, l, m, h0, l0, l1, m0, m1, ep, eq⟩ | ⟨h, l, m, h0, l0, l1, m0, m1, ep, eq⟩ | ⟨h, l, m, h0, l0, l1, m0, m1, ep, eq⟩ | ⟨h, l, m, h0, l0, l1, m0, m1, ep, eq⟩
  · exfalso; omega
  · exfalso; omega
  · have L : 1 ≤ l ∧ l ≤ 31 := by omega
    have K : 0 ≤ m ∧ m ≤ 31 := by omega
    exact fin c rtl5_3_0 [(121,l),(122,m),(100,u0),(101,u1),(102,u2),(110,v0),(111,v1),(112,v2)] ⟨ib L,ib K,ib bu0,ib bu1,ib bu2,ib bv0,ib bv1,ib bv2,⟨⟩⟩ ⟨L,K,bu0,bu1,bu2,bv0,bv1,bv2,⟨⟩⟩ (irS (show 16777216*l+(1*u0+(256*u1+(65536*u2+(0))))+0=x by omega) ix) (irS (show 16777216*m+(1*v0+(256*v1+(65536*v2+(0))))+536870912=y by omega) iy) w
  · by_cases hh : 1 ≤ h
    · have H : 1 ≤ h ∧ h ≤ 1 := by omega
      have L : 0 ≤ l ∧ l ≤ 15 := by omega
      have K : 0 ≤ m ∧ m ≤ 15 := by omega
      exact fin c rtl5_3_1 [(120,h),(121,l),(122,m),(100,u0),(101,u1),(102,u2),(110,v0),(111,v1),(112,v2)] ⟨ib H,ib L,ib K,ib bu0,ib bu1,ib bu2,ib bv0,ib bv1,ib bv2,⟨⟩⟩ ⟨H,L,K,bu0,bu1,bu2,bv0,bv1,bv2,⟨⟩⟩ (irS (show 536870912*h+(16777216*l+(1*u0+(256*u1+(65536*u2+(0)))))+0=x by omega) ix) (irS (show 536870912*h+(16777216*m+(1*v0+(256*v1+(65536*v2+(0)))))+268435456=y by omega) iy) w
    · have L : 1 ≤ l ∧ l ≤ 15 := by omega
      have K : 0 ≤ m ∧ m ≤ 15 := by omega
      exact fin c rtl5_3_2 [(121,l),(122,m),(100,u0),(101,u1),(102,u2),(110,v0),(111,v1),(112,v2)] ⟨ib L,ib K,ib bu0,ib bu1,ib bu2,ib bv0,ib bv1,ib bv2,⟨⟩⟩ ⟨L,K,bu0,bu1,bu2,bv0,bv1,bv2,⟨⟩⟩ (irS (show 16777216*l+(1*u0+(256*u1+(65536*u2+(0))))+0=x by omega) ix) (irS (show 16777216*m+(1*v0+(256*v1+(65536*v2+(0))))+268435456=y by omega) iy) w
  · by_cases hh : 1 ≤ h
    · have H : 1 ≤ h ∧ h ≤ 3 := by omega
      have L : 0 ≤ l ∧ l ≤ 7 := by omega
      have K : 0 ≤ m ∧ m ≤ 7 := by omega
      exact fin c rtl5_3_3 [(120,h),(121,l),(122,m),(100,u0),(101,u1),(102,u2),(110,v0),(111,v1),(112,v2)] ⟨ib H,ib L,ib K,ib bu0,ib bu1,ib bu2,ib bv0,ib bv1,ib bv2,⟨⟩⟩ ⟨H,L,K,bu0,bu1,bu2,bv0,bv1,bv2,⟨⟩⟩ (irS (show 268435456*h+(16777216*l+(1*u0+(256*u1+(65536*u2+(0)))))+0=x by omega) ix) (irS (show 268435456*h+(16777216*m+(1*v0+(256*v1+(65536*v2+(0)))))+134217728=y by omega) iy) w
    · have L : 1 ≤ l ∧ l ≤ 7 := by omega
      have K : 0 ≤ m ∧ m ≤ 7 := by omega
      exact fin c rtl5_3_4 [(121,l),(122,m),(100,u0),(101,u1),(102,u2),(110,v0),(111,v1),(112,v2)] ⟨ib L,ib K,ib bu0,ib bu1,ib bu2,ib bv0,ib bv1,ib bv2,⟨⟩⟩ ⟨L,K,bu0,bu1,bu2,bv0,bv1,bv2,⟨⟩⟩ (irS (show 16777216*l+(1*u0+(256*u1+(65536*u2+(0))))+0=x by omega) ix) (irS (show 16777216*m+(1*v0+(256*v1+(65536*v2+(0))))+134217728=y by omega) iy) w
  · by_cases hh : 1 ≤ h
    · have H : 1 ≤ h ∧ h ≤ 7 := by omega
      have L : 0 ≤ l ∧ l ≤ 3 := by omega
      have K : 0 ≤ m ∧ m ≤ 3 := by omega
      exact fin c rtl5_3_5 [(120,h),(121,l),(122,m),(100,u0),(101,u1),(102,u2),(110,v0),(111,v1),(112,v2)] ⟨ib H,ib L,ib K,ib bu0,ib bu1,ib bu2,ib bv0,ib bv1,ib bv2,⟨⟩⟩ ⟨H,L,K,bu0,bu1,bu2,bv0,bv1,bv2,⟨⟩⟩ (irS (show 134217728*h+(16777216*l+(1*u0+(256*u1+(65536*u2+(0)))))+0=x by omega) ix) (irS (show 134217728*h+(16777216*m+(1*v0+(256*v1+(65536*v2+(0)))))+67108864=y by omega) iy) w
    · have L : 1 ≤ l ∧ l ≤ 3 := by omega
      have K : 0 ≤ m ∧ m ≤ 3 := by omega
      exact fin c rtl5_3_6 [(121,l),(122,m),(100,u0),(101,u1),(102,u2),(110,v0),(111,v1),(112,v2)] ⟨ib L,ib K,ib bu0,ib bu1,ib bu2,ib bv0,ib bv1,ib bv2,⟨⟩⟩ ⟨L,K,bu0,bu1,bu2,bv0,bv1,bv2,⟨⟩⟩ (irS (show 16777216*l+(1*u0+(256*u1+(65536*u2+(0))))+0=x by omega) ix) (irS (show 16777216*m+(1*v0+(256*v1+(65536*v2+(0))))+67108864=y by omega) iy) w
  · by_cases hh : 1 ≤ h
    · have H : 1 ≤ h ∧ h ≤ 15 := by omega
      have L : 0 ≤ l ∧ l ≤ 1 := by omega
      have K : 0 ≤ m ∧ m ≤ 1 := by omega
      exact fin c rtl5_3_7 [(120,h),(121,l),(122,m),(100,u0),(101,u1),(102,u2),(110,v0),(111,v1),(112,v2)] ⟨ib H,ib L,ib K,ib bu0,ib bu1,ib bu2,ib bv0,ib bv1,ib bv2,⟨⟩⟩ ⟨H,L,K,bu0,bu1,bu2,bv0,bv1,bv2,⟨⟩⟩ (irS (show 67108864*h+(16777216*l+(1*u0+(256*u1+(65536*u2+(0)))))+0=x by omega) ix) (irS (show 67108864*h+(16777216*m+(1*v0+(256*v1+(65536*v2+(0)))))+33554432=y by omega) iy) w
    · have L : 1 ≤ l ∧ l ≤ 1 := by omega
      have K : 0 ≤ m ∧ m ≤ 1 := by omega
      exact fin c rtl5_3_8 [(121,l),(122,m),(100,u0),(101,u1),(102,u2),(110,v0),(111,v1),(112,v2)] ⟨ib L,ib K,ib bu0,ib bu1,ib bu2,ib bv0,ib bv1,ib bv2,⟨⟩⟩ ⟨L,K,bu0,bu1,bu2,bv0,bv1,bv2,⟨⟩⟩ (irS (show 16777216*l+(1*u0+(256*u1+(65536*u2+(0))))+0=x by omega) ix) (irS (show 16777216*m+(1*v0+(256*v1+(65536*v2+(0))))+33554432=y by omega) iy) w
  · have H : 1 ≤ h ∧ h ≤ 31 := by omega
    exact fin c rtl5_3_9 [(120,h),(100,u0),(101,u1),(102,u2),(110,v0),(111,v1),(112,v2)] ⟨ib H,ib bu0,ib bu1,ib bu2,ib bv0,ib bv1,ib bv2,⟨⟩⟩ ⟨H,bu0,bu1,bu2,bv0,bv1,bv2,⟨⟩⟩ (irS (show 33554432*h+(1*u0+(256*u1+(65536*u2+(0))))+0=x by omega) ix) (irS (show 33554432*h+(1*v0+(256*v1+(65536*v2+(0))))+16777216=y by omega) iy) w
theorem g5_3 {a0 a1 a2 a3 x y : Int} (c : Ctx a0 a1 a2 a3 x y) (ix : In x) (iy : In y) (p q u0 u1 u2 v0 v1 v2 : Int) (bp : 1 ≤ p ∧ p ≤ 63) (bq : 1 ≤ q ∧ q ≤ 63) (bu0 : 0 ≤ u0 ∧ u0 ≤ 255) (bv0 : 0 ≤ v0 ∧ v0 ≤ 255) (bu1 : 0 ≤ u1 ∧ u1 ≤ 255) (bv1 : 0 ≤ v1 ∧ v1 ≤ 255) (bu2 : 0 ≤ u2 ∧ u2 ≤ 255) (bv2 : 0 ≤ v2 ∧ v2 ≤ 255) (hx : x = 1 * u0 + 256 * u1 + 65536 * u2 + 16777216 * p) (hy : y = 1 * v0 + 256 * v1 + 65536 * v2 + 16777216 * q) (hpq : q < p) (w : World) : G a0 a1 a2 a3 w := by
  rcases pairs q p (by omega) hpq (by omega) with ⟨h, l, m, h0, l0, l1, m0, m1, ep, eq⟩ | ⟨h, l, m, h0, l0, l1, m0, m1, ep, eq⟩ | ⟨h, l, m, h0, l0, l1, m0, m1, ep, eq⟩ | ⟨h, l, m, h0, l0, l1, m0, m1, ep, eq⟩ | ⟨h, l, m, h0, l0, l1, m0, m1, ep, eq⟩ | ⟨h, l, m, h0, l0, l1, m0, m1, ep, eq⟩ | ⟨h, l, m, h0, l0, l1, m0, m1, ep, eq⟩ | ⟨h, l, m, h0, l0, l1, m0, m1, ep, eq⟩
  · exfalso; omega
  · exfalso; omega
  · have L : 1 ≤ l ∧ l ≤ 31 := by omega
    have K : 0 ≤ m ∧ m ≤ 31 := by omega
    exact fin c rtg5_3_0 [(121,l),(122,m),(100,u0),(101,u1),(102,u2),(110,v0),(111,v1),(112,v2)] ⟨ib L,ib K,ib bu0,ib bu1,ib bu2,ib bv0,ib bv1,ib bv2,⟨⟩⟩ ⟨L,K,bu0,bu1,bu2,bv0,bv1,bv2,⟨⟩⟩ (irS (show 16777216*m+(1*u0+(256*u1+(65536*u2+(0))))+536870912=x by omega) ix) (irS (show 16777216*l+(1*v0+(256*v1+(65536*v2+(0))))+0=y by omega) iy) w
  · by_cases hh : 1 ≤ h
    · have H : 1 ≤ h ∧ h ≤ 1 := by omega
      have L : 0 ≤ l ∧ l ≤ 15 := by omega
      have K : 0 ≤ m ∧ m ≤ 15 := by omega
      exact fin c rtg5_3_1 [(120,h),(121,l),(122,m),(100,u0),(101,u1),(102,u2),(110,v0),(111,v1),(112,v2)] ⟨ib H,ib L,ib K,ib bu0,ib bu1,ib bu2,ib bv0,ib bv1,ib bv2,⟨⟩⟩ ⟨H,L,K,bu0,bu1,bu2,bv0,bv1,bv2,⟨⟩⟩ (irS (show 536870912*h+(16777216*m+(1*u0+(256*u1+(65536*u2+(0)))))+268435456=x by omega) ix) (irS (show 536870912*h+(16777216*l+(1*v0+(256*v1+(65536*v2+(0)))))+0=y by omega) iy) w
    · have L : 1 ≤ l ∧ l ≤ 15 := by omega
      have K : 0 ≤ m ∧ m ≤ 15 := by omega
      exact fin c rtg5_3_2 [(121,l),(122,m),(100,u0),(101,u1),(102,u2),(110,v0),(111,v1),(112,v2)] ⟨ib L,ib K,ib bu0,ib bu1,ib bu2,ib bv0,ib bv1,ib bv2,⟨⟩⟩ ⟨L,K,bu0,bu1,bu2,bv0,bv1,bv2,⟨⟩⟩ (irS (show 16777216*m+(1*u0+(256*u1+(65536*u2+(0))))+268435456=x by omega) ix) (irS (show 16777216*l+(1*v0+(256*v1+(65536*v2+(0))))+0=y by omega) iy) w
  · by_cases hh : 1 ≤ h
    · have H : 1 ≤ h ∧ h ≤ 3 := by omega
      have L : 0 ≤ l ∧ l ≤ 7 := by omega
      have K : 0 ≤ m ∧ m ≤ 7 := by omega
      exact fin c rtg5_3_3 [(120,h),(121,l),(122,m),(100,u0),(101,u1),(102,u2),(110,v0),(111,v1),(112,v2)] ⟨ib H,ib L,ib K,ib bu0,ib bu1,ib bu2,ib bv0,ib bv1,ib bv2,⟨⟩⟩ ⟨H,L,K,bu0,bu1,bu2,bv0,bv1,bv2,⟨⟩⟩ (irS (show 268435456*h+(16777216*m+(1*u0+(256*u1+(65536*u2+(0)))))+134217728=x by omega) ix) (irS (show 268435456*h+(16777216*l+(1*v0+(256*v1+(65536*v2+(0)))))+0=y by omega) iy) w
    · have L : 1 ≤ l ∧ l ≤ 7 := by omega
      have K : 0 ≤ m ∧ m ≤ 7 := by omega
      exact fin c rtg5_3_4 [(121,l),(122,m),(100,u0),(101,u1),(102,u2),(110,v0),(111,v1),(112,v2)] ⟨ib L,ib K,ib bu0,ib bu1,ib bu2,ib bv0,ib bv1,ib bv2,⟨⟩⟩ ⟨L,K,bu0,bu1,bu2,bv0,bv1,bv2,⟨⟩⟩ (irS (show 16777216*m+(1*u0+(256*u1+(65536*u2+(0))))+134217728=x by omega) ix) (irS (show 16777216*l+(1*v0+(256*v1+(65536*v2+(0))))+0=y by omega) iy) w
  · by_cases hh : 1 ≤ h
    · have H : 1 ≤ h ∧ h ≤ 7 := by omega
      have L : 0 ≤ l ∧ l ≤ 3 := by omega
      have K : 0 ≤ m ∧ m ≤ 3 := by omega
      exact fin c rtg5_3_5 [(120,h),(121,l),(122,m),(100,u0),(101,u1),(102,u2),(110,v0),(111,v1),(112,v2)] ⟨ib H,ib L,ib K,ib bu0,ib bu1,ib bu2,ib bv0,ib bv1,ib bv2,⟨⟩⟩ ⟨H,L,K,bu0,bu1,bu2,bv0,bv1,bv2,⟨⟩⟩ (irS (show 134217728*h+(16777216*m+(1*u0+(256*u1+(65536*u2+(0)))))+67108864=x by omega) ix) (irS (show 134217728*h+(16777216*l+(1*v0+(256*v1+(65536*v2+(0)))))+0=y by omega) iy) w
    · have L : 1 ≤ l ∧ l ≤ 3 := by omega
      have K : 0 ≤ m ∧ m ≤ 3 := by omega
      exact fin c rtg5_3_6 [(121,l),(122,m),(100,u0),(101,u1),(102,u2),(110,v0),(111,v1),(112,v2)] ⟨ib L,ib K,ib bu0,ib bu1,ib bu2,ib bv0,ib bv1,ib bv2,⟨⟩⟩ ⟨L,K,bu0,bu1,bu2,bv0,bv1,bv2,⟨⟩⟩ (irS (show 16777216*m+(1*u0+(256*u1+(65536*u2+(0))))+67108864=x by omega) ix) (irS (show 16777216*l+(1*v0+(256*v1+(65536*v2+(0))))+0=y by omega) iy) w
  · by_cases hh : 1 ≤ h
    · have H : 1 ≤ h ∧ h ≤ 15 := by omega
      have L : 0 ≤ l ∧ l ≤ 1 := by omega
      have K : 0 ≤ m ∧ m ≤ 1 := by omega
      exact fin c rtg5_3_7 [(120,h),(121,l),(122,m),(100,u0),(101,u1),(102,u2),(110,v0),(111,v1),(112,v2)] ⟨ib H,ib L,ib K,ib bu0,ib bu1,ib bu2,ib bv0,ib bv1,ib bv2,⟨⟩⟩ ⟨H,L,K,bu0,bu1,bu2,bv0,bv1,bv2,⟨⟩⟩ (irS (show 67108864*h+(16777216*m+(1*u0+(256*u1+(65536*u2+(0)))))+33554432=x by omega) ix) (irS (show 67108864*h+(16777216*l+(1*v0+(256*v1+(65536*v2+(0)))))+0=y by omega) iy) w
    · have L : 1 ≤ l ∧ l ≤ 1 := by omega
      have K : 0 ≤ m ∧ m ≤ 1 := by omega
      exact fin c rtg5_3_8 [(121,l),(122,m),(100,u0),(101,u1),(102,u2),(110,v0),(111,v1),(112,v2)] ⟨ib L,ib K,ib bu0,ib bu1,ib bu2,ib bv0,ib bv1,ib bv2,⟨⟩⟩ ⟨L,K,bu0,bu1,bu2,bv0,bv1,bv2,⟨⟩⟩ (irS (show 16777216*m+(1*u0+(256*u1+(65536*u2+(0))))+33554432=x by omega) ix) (irS (show 16777216*l+(1*v0+(256*v1+(65536*v2+(0))))+0=y by omega) iy) w
  · have H : 1 ≤ h ∧ h ≤ 31 := by omega
    exact fin c rtg5_3_9 [(120,h),(100,u0),(101,u1),(102,u2),(110,v0),(111,v1),(112,v2)] ⟨ib H,ib bu0,ib bu1,ib bu2,ib bv0,ib bv1,ib bv2,⟨⟩⟩ ⟨H,bu0,bu1,bu2,bv0,bv1,bv2,⟨⟩⟩ (irS (show 33554432*h+(1*u0+(256*u1+(65536*u2+(0))))+16777216=x by omega) ix) (irS (show 33554432*h+(1*v0+(256*v1+(65536*v2+(0))))+0=y by omega) iy) w
theorem l5_2 {a0 a1 a2 a3 x y : Int} (c : Ctx a0 a1 a2 a3 x y) (ix : In x) (iy : In y) (d3 p q u0 u1 v0 v1 : Int) (bd3 : 1 ≤ d3 ∧ d3 ≤ 63) (bp : 0 ≤ p ∧ p ≤ 255) (bq : 0 ≤ q ∧ q ≤ 255) (bu0 : 0 ≤ u0 ∧ u0 ≤ 255) (bv0 : 0 ≤ v0 ∧ v0 ≤ 255) (bu1 : 0 ≤ u1 ∧ u1 ≤ 255) (bv1 : 0 ≤ v1 ∧ v1 ≤ 255) (hx : x = 1 * u0 + 256 * u1 + 65536 * p + 16777216 * d3) (hy : y = 1 * v0 + 256 * v1 + 65536 * q + 16777216 * d3) (hpq : p < q) (w : World) : G a0 a1 a2 a3 w := by
  rcases pairs p q (by omega) hpq (by omega) with ⟨h, l, m, h0, l0, l1, m0, m1, ep, eq⟩ | ⟨h, l, m, h0, l0, l1, m0, m1, ep, eq⟩ | ⟨h, l, m, h0, l0, l1, m0, m1, ep, eq⟩ | ⟨h, l, m, h0, l0, l1, m0, m1, ep, eq⟩ | ⟨h, l, m, h0, l0, l1, m0, m1, ep, eq⟩ | ⟨h, l, m, h0, l0, l1, m0, m1, ep, eq⟩ | ⟨h, l, m, h0, l0, l1, m0, m1, ep, eq⟩ | ⟨h, l, m, h0, l0, l1, m0, m1, ep, eq⟩
  · have L : 0 ≤ l ∧ l ≤ 127 := by omega
    have K : 0 ≤ m ∧ m ≤ 127 := by omega
    exact fin c rtl5_2_0 [(103,d3),(121,l),(122,m),(100,u0),(101,u1),(110,v0),(111,v1)] ⟨ib bd3,ib L,ib K,ib bu0,ib bu1,ib bv0,ib bv1,⟨⟩⟩ ⟨bd3,L,K,bu0,bu1,bv0,bv1,⟨⟩⟩ (irS (show 16777216*d3+(65536*l+(1*u0+(256*u1+(0))))+0=x by omega) ix) (irS (show 16777216*d3+(65536*m+(1*v0+(256*v1+(0))))+8388608=y by omega) iy) w
  · have H : 0 ≤ h ∧ h ≤ 1 := by omega
    have L : 0 ≤ l ∧ l ≤ 63 := by omega
    have K : 0 ≤ m ∧ m ≤ 63 := by omega
    exact fin c rtl5_2_1 [(103,d3),(120,h),(121,l),(122,m),(100,u0),(101,u1),(110,v0),(111,v1)] ⟨ib bd3,ib H,ib L,ib K,ib bu0,ib bu1,ib bv0,ib bv1,⟨⟩⟩ ⟨bd3,H,L,K,bu0,bu1,bv0,bv1,⟨⟩⟩ (irS (show 16777216*d3+(8388608*h+(65536*l+(1*u0+(256*u1+(0)))))+0=x by omega) ix) (irS (show 16777216*d3+(8388608*h+(65536*m+(1*v0+(256*v1+(0)))))+4194304=y by omega) iy) w
  · have H : 0 ≤ h ∧ h ≤ 3 := by omega
    have L : 0 ≤ l ∧ l ≤ 31 := by omega
    have K : 0 ≤ m ∧ m ≤ 31 := by omega
    exact fin c rtl5_2_2 [(103,d3),(120,h),(121,l),(122,m),(100,u0),(101,u1),(110,v0),(111,v1)] ⟨ib bd3,ib H,ib L,ib K,ib bu0,ib bu1,ib bv0,ib bv1,⟨⟩⟩ ⟨bd3,H,L,K,bu0,bu1,bv0,bv1,⟨⟩⟩ (irS (show 16777216*d3+(4194304*h+(65536*l+(1*u0+(256*u1+(0)))))+0=x by omega) ix) (irS (show 16777216*d3+(4194304*h+(65536*m+(1*v0+(256*v1+(0)))))+2097152=y by omega) iy) w
  · have H : 0 ≤ h ∧ h ≤ 7 := by omega
    have L : 0 ≤ l ∧ l ≤ 15 := by omega
    have K : 0 ≤ m ∧ m ≤ 15 := by omega
    exact fin c rtl5_2_3 [(103,d3),(120,h),(121,l),(122,m),(100,u0),(101,u1),(110,v0),(111,v1)] ⟨ib bd3,ib H,ib L,ib K,ib bu0,ib bu1,ib bv0,ib bv1,⟨⟩⟩ ⟨bd3,H,L,K,bu0,bu1,bv0,bv1,⟨⟩⟩ (irS (show 16777216*d3+(2097152*h+(65536*l+(1*u0+(256*u1+(0)))))+0=x by omega) ix) (irS (show 16777216*d3+(2097152*h+(65536*m+(1*v0+(256*v1+(0)))))+1048576=y by omega) iy) w
  · have H : 0 ≤ h ∧ h ≤ 15 := by omega
    have L : 0 ≤ l ∧ l ≤ 7 := by omega
    have K : 0 ≤ m ∧ m ≤ 7 := by omega
    exact fin c rtl5_2_4 [(103,d3),(120,h),(121,l),(122,m),(100,u0),(101,u1),(110,v0),(111,v1)] ⟨ib bd3,ib H,ib L,ib K,ib bu0,ib bu1,ib bv0,ib bv1,⟨⟩⟩ ⟨bd3,H,L,K,bu0,bu1,bv0,bv1,⟨⟩⟩ (irS (show 16777216*d3+(1048576*h+(65536*l+(1*u0+(256*u1+(0)))))+0=x by omega) ix) (irS (show 16777216*d3+(1048576*h+(65536*m+(1*v0+(256*v1+(0)))))+524288=y by omega) iy) w
  · have H : 0 ≤ h ∧ h ≤ 31 := by omega
    have L : 0 ≤ l ∧ l ≤ 3 := by omega
    have K : 0 ≤ m ∧ m ≤ 3 := by omega
    exact fin c rtl5_2_5 [(103,d3),(120,h),(121,l),(122,m),(100,u0),(101,u1),(110,v0),(111,v1)] ⟨ib bd3,ib H,ib L,ib K,ib bu0,ib bu1,ib bv0,ib bv1,⟨⟩⟩ ⟨bd3,H,L,K,bu0,bu1,bv0,bv1,⟨⟩⟩ (irS (show 16777216*d3+(524288*h+(65536*l+(1*u0+(256*u1+(0)))))+0=x by omega) ix) (irS (show 16777216*d3+(524288*h+(65536*m+(1*v0+(256*v1+(0)))))+262144=y by omega) iy) w
  · have H : 0 ≤ h ∧ h ≤ 63 := by omega
    have L : 0 ≤ l ∧ l ≤ 1 := by omega
    have K : 0 ≤ m ∧ m ≤ 1 := by omega
    exact fin c rtl5_2_6 [(103,d3),(120,h),(121,l),(122,m),(100,u0),(101,u1),(110,v0),(111,v1)] ⟨ib bd3,ib H,ib L,ib K,ib bu0,ib bu1,ib bv0,ib bv1,⟨⟩⟩ ⟨bd3,H,L,K,bu0,bu1,bv0,bv1,⟨⟩⟩ (irS (show 16777216*d3+(262144*h+(65536*l+(1*u0+(256*u1+(0)))))+0=x by omega) ix) (irS (show 16777216*d3+(262144*h+(65536*m+(1*v0+(256*v1+(0)))))+131072=y by omega) iy) w
  · have H : 0 ≤ h ∧ h ≤ 127 := by omega
    exact fin c rtl5_2_7 [(103,d3),(120,h),(100,u0),(101,u1),(110,v0),(111,v1)] ⟨ib bd3,ib H,ib bu0,ib bu1,ib bv0,ib bv1,⟨⟩⟩ ⟨bd3,H,bu0,bu1,bv0,bv1,⟨⟩⟩ (irS (show 16777216*d3+(131072*h+(1*u0+(256*u1+(0))))+0=x by omega) ix) (irS (show 16777216*d3+(131072*h+(1*v0+(256*v1+(0))))+65536=y by omega) iy) w
theorem g5_2 {a0 a1 a2 a3 x y : Int} (c : Ctx a0 a1 a2 a3 x y) (ix : In x) (iy : In y) (d3 p q u0 u1 v0 v1 : Int) (bd3 : 1 ≤ d3 ∧ d3 ≤ 63) (bp : 0 ≤ p ∧ p ≤ 255) (bq : 0 ≤ q ∧ q ≤ 255) (bu0 : 0 ≤ u0 ∧ u0 ≤ 255) (bv0 : 0 ≤ v0 ∧ v0 ≤ 255) (bu1 : 0 ≤ u1 ∧ u1 ≤ 255) (bv1 : 0 ≤ v1 ∧ v1 ≤ 255) (hx : x = 1 * u0 + 256 * u1 + 65536 * p + 16777216 * d3) (hy : y = 1 * v0 + 256 * v1 + 65536 * q + 16777216 * d3) (hpq : q < p) (w : World) : G a0 a1 a2 a3 w := by
  rcases pairs q p (by omega) hpq (by omega) with ⟨h, l, m, h0, l0, l1, m0, m1, ep, eq⟩ | ⟨h, l, m, h0, l0, l1, m0, m1, ep, eq⟩ | ⟨h, l, m, h0, l0, l1, m0, m1, ep, eq⟩ | ⟨h, l, m, h0, l0, l1, m0, m1, ep, eq⟩ | ⟨h, l, m, h0, l0, l1, m0, m1, ep, eq⟩ | ⟨h, l, m, h0, l0, l1, m0, m1, ep, eq⟩ | ⟨h, l, m, h0, l0, l1, m0, m1, ep, eq⟩ | ⟨h, l, m, h0, l0, l1, m0, m1, ep, eq⟩
  · have L : 0 ≤ l ∧ l ≤ 127 := by omega
    have K : 0 ≤ m ∧ m ≤ 127 := by omega
    exact fin c rtg5_2_0 [(103,d3),(121,l),(122,m),(100,u0),(101,u1),(110,v0),(111,v1)] ⟨ib bd3,ib L,ib K,ib bu0,ib bu1,ib bv0,ib bv1,⟨⟩⟩ ⟨bd3,L,K,bu0,bu1,bv0,bv1,⟨⟩⟩ (irS (show 16777216*d3+(65536*m+(1*u0+(256*u1+(0))))+8388608=x by omega) ix) (irS (show 16777216*d3+(65536*l+(1*v0+(256*v1+(0))))+0=y by omega) iy) w
  · have H : 0 ≤ h ∧ h ≤ 1 := by omega
    have L : 0 ≤ l ∧ l ≤ 63 := by omega
    have K : 0 ≤ m ∧ m ≤ 63 := by omega
    exact fin c rtg5_2_1 [(103,d3),(120,h),(121,l),(122,m),(100,u0),(101,u1),(110,v0),(111,v1)] ⟨ib bd3,ib H,ib L,ib K,ib bu0,ib bu1,ib bv0,ib bv1,⟨⟩⟩ ⟨bd3,H,L,K,bu0,bu1,bv0,bv1,⟨⟩⟩ (irS (show 16777216*d3+(8388608*h+(65536*m+(1*u0+(256*u1+(0)))))+4194304=x by omega) ix) (irS (show 16777216*d3+(8388608*h+(65536*l+(1*v0+(256*v1+(0)))))+0=y by omega) iy) w
  · have H : 0 ≤ h ∧ h ≤ 3 := by omega
    have L : 0 ≤ l ∧ l ≤ 31 := by omega
    have K : 0 ≤ m ∧ m ≤ 31 := by omega
    exact fin c rtg5_2_2 [(103,d3),(120,h),(121,l),(122,m),(100,u0),(101,u1),(110,v0),(111,v1)] ⟨ib bd3,ib H,ib L,ib K,ib bu0,ib bu1,ib bv0,ib bv1,⟨⟩⟩ ⟨bd3,H,L,K,bu0,bu1,bv0,bv1,⟨⟩⟩ (irS (show 16777216*d3+(4194304*h+(65536*m+(1*u0+(256*u1+(0)))))+2097152=x by omega) ix) (irS (show 16777216*d3+(4194304*h+(65536*l+(1*v0+(256*v1+(0)))))+0=y by omega) iy) w
  · have H : 0 ≤ h ∧ h ≤ 7 := by omega
    have L : 0 ≤ l ∧ l ≤ 15 := by omega
    have K : 0 ≤ m ∧ m ≤ 15 := by omega
    exact fin c rtg5_2_3 [(103,d3),(120,h),(121,l),(122,m),(100,u0),(101,u1),(110,v0),(111,v1)] ⟨ib bd3,ib H,ib L,ib K,ib bu0,ib bu1,ib bv0,ib bv1,⟨⟩⟩ ⟨bd3,H,L,K,bu0,bu1,bv0,bv1,⟨⟩⟩ (irS (show 16777216*d3+(2097152*h+(65536*m+(1*u0+(256*u1+(0)))))+1048576=x by omega) ix) (irS (show 16777216*d3+(2097152*h+(65536*l+(1*v0+(256*v1+(0)))))+0=y by omega) iy) w
  · have H : 0 ≤ h ∧ h ≤ 15 := by omega
    have L : 0 ≤ l ∧ l ≤ 7 := by omega
    have K : 0 ≤ m ∧ m ≤ 7 := by omega
    exact fin c rtg5_2_4 [(103,d3),(120,h),(121,l),(122,m),(100,u0),(101,u1),(110,v0),(111,v1)] ⟨ib bd3,ib H,ib L,ib K,ib bu0,ib bu1,ib bv0,ib bv1,⟨⟩⟩ ⟨bd3,H,L,K,bu0,bu1,bv0,bv1,⟨⟩⟩ (irS (show 16777216*d3+(1048576*h+(65536*m+(1*u0+(256*u1+(0)))))+524288=x by omega) ix) (irS (show 16777216*d3+(1048576*h+(65536*l+(1*v0+(256*v1+(0)))))+0=y by omega) iy) w
  · have H : 0 ≤ h ∧ h ≤ 31 := by omega
    have L : 0 ≤ l ∧ l ≤ 3 := by omega
    have K : 0 ≤ m ∧ m ≤ 3 := by omega
    exact fin c rtg5_2_5 [(103,d3),(120,h),(121,l),(122,m),(100,u0),(101,u1),(110,v0),(111,v1)] ⟨ib bd3,ib H,ib L,ib K,ib bu0,ib bu1,ib bv0,ib bv1,⟨⟩⟩ ⟨bd3,H,L,K,bu0,bu1,bv0,bv1,⟨⟩⟩ (irS (show 16777216*d3+(524288*h+(65536*m+(1*u0+(256*u1+(0)))))+262144=x by omega) ix) (irS (show 16777216*d3+(524288*h+(65536*l+(1*v0+(256*v1+(0)))))+0=y by omega) iy) w
  · have H : 0 ≤ h ∧ h ≤ 63 := by omega
    have L : 0 ≤ l ∧ l ≤ 1 := by omega
    have K : 0 ≤ m ∧ m ≤ 1 := by omega
    exact fin c rtg5_2_6 [(103,d3),(120,h),(121,l),(122,m),(100,u0),(101,u1),(110,v0),(111,v1)] ⟨ib bd3,ib H,ib L,ib K,ib bu0,ib bu1,ib bv0,ib bv1,⟨⟩⟩ ⟨bd3,H,L,K,bu0,bu1,bv0,bv1,⟨⟩⟩ (irS (show 16777216*d3+(262144*h+(65536*m+(1*u0+(256*u1+(0)))))+131072=x by omega) ix) (irS (show 16777216*d3+(262144*h+(65536*l+(1*v0+(256*v1+(0)))))+0=y by omega) iy) w
  · have H : 0 ≤ h ∧ h ≤ 127 := by omega
    exact fin c rtg5_2_7 [(103,d3),(120,h),(100,u0),(101,u1),(110,v0),(111,v1)] ⟨ib bd3,ib H,ib bu0,ib bu1,ib bv0,ib bv1,⟨⟩⟩ ⟨bd3,H,bu0,bu1,bv0,bv1,⟨⟩⟩ (irS (show 16777216*d3+(131072*h+(1*u0+(256*u1+(0))))+65536=x by omega) ix) (irS (show 16777216*d3+(131072*h+(1*v0+(256*v1+(0))))+0=y by omega) iy) w
theorem l5_1 {a0 a1 a2 a3 x y : Int} (c : Ctx a0 a1 a2 a3 x y) (ix : In x) (iy : In y) (d2 d3 p q u0 v0 : Int) (bd2 : 0 ≤ d2 ∧ d2 ≤ 255) (bd3 : 1 ≤ d3 ∧ d3 ≤ 63) (bp : 0 ≤ p ∧ p ≤ 255) (bq : 0 ≤ q ∧ q ≤ 255) (bu0 : 0 ≤ u0 ∧ u0 ≤ 255) (bv0 : 0 ≤ v0 ∧ v0 ≤ 255) (hx : x = 1 * u0 + 256 * p + 65536 * d2 + 16777216 * d3) (hy : y = 1 * v0 + 256 * q + 65536 * d2 + 16777216 * d3) (hpq : p < q) (w : World) : G a0 a1 a2 a3 w := by
  rcases pairs p q (by omega) hpq (by omega) with ⟨h, l, m, h0, l0, l1, m0, m1, ep, eq⟩ | ⟨h, l, m, h0, l0, l1, m0, m1, ep, eq⟩ | ⟨h, l, m, h0, l0, l1, m0, m1, ep, eq⟩ | ⟨h, l, m, h0, l0, l1, m0, m1, ep, eq⟩ | ⟨h, l, m, h0, l0, l1, m0, m1, ep, eq⟩ | ⟨h, l, m, h0, l0, l1, m0, m1, ep, eq⟩ | ⟨h, l, m, h0, l0, l1, m0, m1, ep, eq⟩ | ⟨h, l, m, h0, l0, l1, m0, m1, ep, eq⟩
  · have L : 0 ≤ l ∧ l ≤ 127 := by omega
    have K : 0 ≤ m ∧ m ≤ 127 := by omega
    exact fin c rtl5_1_0 [(102,d2),(103,d3),(121,l),(122,m),(100,u0),(110,v0)] ⟨ib bd2,ib bd3,ib L,ib K,ib bu0,ib bv0,⟨⟩⟩ ⟨bd2,bd3,L,K,bu0,bv0,⟨⟩⟩ (irS (show 65536*d2+(16777216*d3+(256*l+(1*u0+(0))))+0=x by omega) ix) (irS (show 65536*d2+(16777216*d3+(256*m+(1*v0+(0))))+32768=y by omega) iy) w
  · have H : 0 ≤ h ∧ h ≤ 1 := by omega
    have L : 0 ≤ l ∧ l ≤ 63 := by omega
    have K : 0 ≤ m ∧ m ≤ 63 := by omega
    exact fin c rtl5_1_1 [(102,d2),(103,d3),(120,h),(121,l),(122,m),(100,u0),(110,v0)] ⟨ib bd2,ib bd3,ib H,ib L,ib K,ib bu0,ib bv0,⟨⟩⟩ ⟨bd2,bd3,H,L,K,bu0,bv0,⟨⟩⟩ (irS (show 65536*d2+(16777216*d3+(32768*h+(256*l+(1*u0+(0)))))+0=x by omega) ix) (irS (show 65536*d2+(16777216*d3+(32768*h+(256*m+(1*v0+(0)))))+16384=y by omega) iy) w
  · have H : 0 ≤ h ∧ h ≤ 3 := by omega
    have L : 0 ≤ l ∧ l ≤ 31 := by omega
    have K : 0 ≤ m ∧ m ≤ 31 := by omega
    exact fin c rtl5_1_2 [(102,d2),(103,d3),(120,h),(121,l),(122,m),(100,u0),(110,v0)] ⟨ib bd2,ib bd3,ib H,ib L,ib K,ib bu0,ib bv0,⟨⟩⟩ ⟨bd2,bd3,H,L,K,bu0,bv0,⟨⟩⟩ (irS (show 65536*d2+(16777216*d3+(16384*h+(256*l+(1*u0+(0)))))+0=x by omega) ix) (irS (show 65536*d2+(16777216*d3+(16384*h+(256*m+(1*v0+(0)))))+8192=y by omega) iy) w
  · have H : 0 ≤ h ∧ h ≤ 7 := by omega
    have L : 0 ≤ l ∧ l ≤ 15 := by omega
    have K : 0 ≤ m ∧ m ≤ 15 := by omega
    exact fin c rtl5_1_3 [(102,d2),(103,d3),(120,h),(121,l),(122,m),(100,u0),(110,v0)] ⟨ib bd2,ib bd3,ib H,ib L,ib K,ib bu0,ib bv0,⟨⟩⟩ ⟨bd2,bd3,H,L,K,bu0,bv0,⟨⟩⟩ (irS (show 65536*d2+(16777216*d3+(8192*h+(256*l+(1*u0+(0)))))+0=x by omega) ix) (irS (show 65536*d2+(16777216*d3+(8192*h+(256*m+(1*v0+(0)))))+4096=y by omega) iy) w
  · have H : 0 ≤ h ∧ h ≤ 15 := by omega
    have L : 0 ≤ l ∧ l ≤ 7 := by omega
    have K : 0 ≤ m ∧ m ≤ 7 := by omega
    exact fin c rtl5_1_4 [(102,d2),(103,d3),(120,h),(121,l),(122,m),(100,u0),(110,v0)] ⟨ib bd2,ib bd3,ib H,ib L,ib K,ib bu0,ib bv0,⟨⟩⟩ ⟨bd2,bd3,H,L,K,bu0,bv0,⟨⟩⟩ (irS (show 65536*d2+(16777216*d3+(4096*h+(256*l+(1*u0+(0)))))+0=x by omega) ix) (irS (show 65536*d2+(16777216*d3+(4096*h+(256*m+(1*v0+(0)))))+2048=y by omega) iy) w
  · have H : 0 ≤ h ∧ h ≤ 31 := by omega
    have L : 0 ≤ l ∧ l ≤ 3 := by omega
    have K : 0 ≤ m ∧ m ≤ 3 := by omega
    exact fin c rtl5_1_5 [(102,d2),(103,d3),(120,h),(121,l),(122,m),(100,u0),(110,v0)] ⟨ib bd2,ib bd3,ib H,ib L,ib K,ib bu0,ib bv0,⟨⟩⟩ ⟨bd2,bd3,H,L,K,bu0,bv0,⟨⟩⟩ (irS (show 65536*d2+(16777216*d3+(2048*h+(256*l+(1*u0+(0)))))+0=x by omega) ix) (irS (show 65536*d2+(16777216*d3+(2048*h+(256*m+(1*v0+(0)))))+1024=y by omega) iy) w
  · have H : 0 ≤ h ∧ h ≤ 63 := by omega
    have L : 0 ≤ l ∧ l ≤ 1 := by omega
    have K : 0 ≤ m ∧ m ≤ 1 := by omega
    exact fin c rtl5_1_6 [(102,d2),(103,d3),(120,h),(121,l),(122,m),(100,u0),(110,v0)] ⟨ib bd2,ib bd3,ib H,ib L,ib K,ib bu0,ib bv0,⟨⟩⟩ ⟨bd2,bd3,H,L,K,bu0,bv0,⟨⟩⟩ (irS (show 65536*d2+(16777216*d3+(1024*h+(256*l+(1*u0+(0)))))+0=x by omega) ix) (irS (show 65536*d2+(16777216*d3+(1024*h+(256*m+(1*v0+(0)))))+512=y by omega) iy) w
  · have H : 0 ≤ h ∧ h ≤ 127 := by omega
    exact fin c rtl5_1_7 [(102,d2),(103,d3),(120,h),(100,u0),(110,v0)] ⟨ib bd2,ib bd3,ib H,ib bu0,ib bv0,⟨⟩⟩ ⟨bd2,bd3,H,bu0,bv0,⟨⟩⟩ (irS (show 65536*d2+(16777216*d3+(512*h+(1*u0+(0))))+0=x by omega) ix) (irS (show 65536*d2+(16777216*d3+(512*h+(1*v0+(0))))+256=y by omega) iy) w
theorem g5_1 {a0 a1 a2 a3 x y : Int} (c : Ctx a0 a1 a2 a3 x y) (ix : In x) (iy : In y) (d2 d3 p q u0 v0 : Int) (bd2 : 0 ≤ d2 ∧ d2 ≤ 255) (bd3 : 1 ≤ d3 ∧ d3 ≤ 63) (bp : 0 ≤ p ∧ p ≤ 255) (bq : 0 ≤ q ∧ q ≤ 255) (bu0 : 0 ≤ u0 ∧ u0 ≤ 255) (bv0 : 0 ≤ v0 ∧ v0 ≤ 255) (hx : x = 1 * u0 + 256 * p + 65536 * d2 + 16777216 * d3) (hy : y = 1 * v0 + 256 * q + 65536 * d2 + 16777216 * d3) (hpq : q < p) (w : World) : G a0 a1 a2 a3 w := by
  rcases pairs q p (by omega) hpq (by omega) with ⟨h, l, m, h0, l0, l1, m0, m1, ep, eq⟩ | ⟨h, l, m, h0, l0, l1, m0, m1, ep, eq⟩ | ⟨h, l, m, h0, l0, l1, m0, m1, ep, eq⟩ | ⟨h, l, m, h0, l0, l1, m0, m1, ep, eq⟩ | ⟨h, l, m, h0, l0, l1, m0, m1, ep, eq⟩ | ⟨h, l, m, h0, l0, l1, m0, m1, ep, eq⟩ | ⟨h, l, m, h0, l0, l1, m0, m1, ep, eq⟩ | ⟨h, l, m, h0, l0, l1, m0, m1, ep, eq⟩
  · have L : 0 ≤ l ∧ l ≤ 127 := by omega
    have K : 0 ≤ m ∧ m ≤ 127 := by omega
    exact fin c rtg5_1_0 [(102,d2),(103,d3),(121,l),(122,m),(100,u0),(110,v0)] ⟨ib bd2,ib bd3,ib L,ib K,ib bu0,ib bv0,⟨⟩⟩ ⟨bd2,bd3,L,K,bu0,bv0,⟨⟩⟩ (irS (show 65536*d2+(16777216*d3+(256*m+(1*u0+(0))))+32768=x by omega) ix) (irS (show 65536*d2+(16777216*d3+(256*l+(1*v0+(0))))+0=y by omega) iy) w
  · have H : 0 ≤ h ∧ h ≤ 1 := by omega
    have L : 0 ≤ l ∧ l ≤ 63 := by omega
    have K : 0 ≤ m ∧ m ≤ 63 := by omega
    exact fin c rtg5_1_1 [(102,d2),(103,d3),(120,h),(121,l),(122,m),(100,u0),(110,v0)] ⟨ib bd2,ib bd3,ib H,ib L,ib K,ib bu0,ib bv0,⟨⟩⟩ ⟨bd2,bd3,H,L,K,bu0,bv0,⟨⟩⟩ (irS (show 65536*d2+(16777216*d3+(32768*h+(256*m+(1*u0+(0)))))+16384=x by omega) ix) (irS (show 65536*d2+(16777216*d3+(32768*h+(256*l+(1*v0+(0)))))+0=y by omega) iy) w
  · have H : 0 ≤ h ∧ h ≤ 3 := by omega
    have L : 0 ≤ l ∧ l ≤ 31 := by omega
    have K : 0 ≤ m ∧ m ≤ 31 := by omega
    exact fin c rtg5_1_2 [(102,d2),(103,d3),(120,h),(121,l),(122,m),(100,u0),(110,v0)] ⟨ib bd2,ib bd3,ib H,ib L,ib K,ib bu0,ib bv0,⟨⟩⟩ ⟨bd2,bd3,H,L,K,bu0,bv0,⟨⟩⟩ (irS (show 65536*d2+(16777216*d3+(16384*h+(256*m+(1*u0+(0)))))+8192=x by omega) ix) (irS (show 65536*d2+(16777216*d3+(16384*h+(256*l+(1*v0+(0)))))+0=y by omega) iy) w
  · have H : 0 ≤ h ∧ h ≤ 7 := by omega
    have L : 0 ≤ l ∧ l ≤ 15 := by omega
    have K : 0 ≤ m ∧ m ≤ 15 := by omega
    exact fin c rtg5_1_3 [(102,d2),(103,d3),(120,h),(121,l),(122,m),(100,u0),(110,v0)] ⟨ib bd2,ib bd3,ib H,ib L,ib K,ib bu0,ib bv0,⟨⟩⟩ ⟨bd2,bd3,H,L,K,bu0,bv0,⟨⟩⟩ (irS (show 65536*d2+(16777216*d3+(8192*h+(256*m+(1*u0+(0)))))+4096=x by omega) ix) (irS (show 65536*d2+(16777216*d3+(8192*h+(256*l+(1*v0+(0)))))+0=y by omega) iy) w
  · have H : 0 ≤ h ∧ h ≤ 15 := by omega
    have L : 0 ≤ l ∧ l ≤ 7 := by omega
    have K : 0 ≤ m ∧ m ≤ 7 := by omega
    exact fin c rtg5_1_4 [(102,d2),(103,d3),(120,h),(121,l),(122,m),(100,u0),(110,v0)] ⟨ib bd2,ib bd3,ib H,ib L,ib K,ib bu0,ib bv0,⟨⟩⟩ ⟨bd2,bd3,H,L,K,bu0,bv0,⟨⟩⟩ (irS (show 65536*d2+(16777216*d3+(4096*h+(256*m+(1*u0+(0)))))+2048=x by omega) ix) (irS (show 65536*d2+(16777216*d3+(4096*h+(256*l+(1*v0+(0)))))+0=y by omega) iy) w
  · have H : 0 ≤ h ∧ h ≤ 31 := by omega
    have L : 0 ≤ l ∧ l ≤ 3 := by omega
    have K : 0 ≤ m ∧ m ≤ 3 := by omega
    exact fin c rtg5_1_5 [(102,d2),(103,d3),(120,h),(121,l),(122,m),(100,u0),(110,v0)] ⟨ib bd2,ib bd3,ib H,ib L,ib K,ib bu0,ib bv0,⟨⟩⟩ ⟨bd2,bd3,H,L,K,bu0,bv0,⟨⟩⟩ (irS (show 65536*d2+(16777216*d3+(2048*h+(256*m+(1*u0+(0)))))+1024=x by omega) ix) (irS (show 65536*d2+(16777216*d3+(2048*h+(256*l+(1*v0+(0)))))+0=y by omega) iy) w
  · have H : 0 ≤ h ∧ h ≤ 63 := by omega
    have L : 0 ≤ l ∧ l ≤ 1 := by omega
    have K : 0 ≤ m ∧ m ≤ 1 := by omega
    exact fin c rtg5_1_6 [(102,d2),(103,d3),(120,h),(121,l),(122,m),(100,u0),(110,v0)] ⟨ib bd2,ib bd3,ib H,ib L,ib K,ib bu0,ib bv0,⟨⟩⟩ ⟨bd2,bd3,H,L,K,bu0,bv0,⟨⟩⟩ (irS (show 65536*d2+(16777216*d3+(1024*h+(256*m+(1*u0+(0)))))+512=x by omega) ix) (irS (show 65536*d2+(16777216*d3+(1024*h+(256*l+(1*v0+(0)))))+0=y by omega) iy) w
  · have H : 0 ≤ h ∧ h ≤ 127 := by omega
    exact fin c rtg5_1_7 [(102,d2),(103,d3),(120,h),(100,u0),(110,v0)] ⟨ib bd2,ib bd3,ib H,ib bu0,ib bv0,⟨⟩⟩ ⟨bd2,bd3,H,bu0,bv0,⟨⟩⟩ (irS (show 65536*d2+(16777216*d3+(512*h+(1*u0+(0))))+256=x by omega) ix) (irS (show 65536*d2+(16777216*d3+(512*h+(1*v0+(0))))+0=y by omega) iy) w
theorem l5_0 {a0 a1 a2 a3 x y : Int} (c : Ctx a0 a1 a2 a3 x y) (ix : In x) (iy : In y) (d1 d2 d3 p q : Int) (bd1 : 0 ≤ d1 ∧ d1 ≤ 255) (bd2 : 0 ≤ d2 ∧ d2 ≤ 255) (bd3 : 1 ≤ d3 ∧ d3 ≤ 63) (bp : 0 ≤ p ∧ p ≤ 255) (bq : 0 ≤ q ∧ q ≤ 255) (hx : x = 1 * p + 256 * d1 + 65536 * d2 + 16777216 * d3) (hy : y = 1 * q + 256 * d1 + 65536 * d2 + 16777216 * d3) (hpq : p < q) (w : World) : G a0 a1 a2 a3 w := by
  rcases pairs p q (by omega) hpq (by omega) with ⟨h, l, m, h0, l0, l1, m0, m1, ep, eq⟩ | ⟨h, l, m, h0, l0, l1, m0, m1, ep, eq⟩ | ⟨h, l, m, h0, l0, l1, m0, m1, ep, eq⟩ | ⟨h, l, m, h0, l0, l1, m0, m1, ep, eq⟩ | ⟨h, l, m, h0, l0, l1, m0, m1, ep, eq⟩ | ⟨h, l, m, h0, l0, l1, m0, m1, ep, eq⟩ | ⟨h, l, m, h0, l0, l1, m0, m1, ep, eq⟩ | ⟨h, l, m, h0, l0, l1, m0, m1, ep, eq⟩
  · have L : 0 ≤ l ∧ l ≤ 127 := by omega
    have K : 0 ≤ m ∧ m ≤ 127 := by omega
    exact fin c rtl5_0_0 [(101,d1),(102,d2),(103,d3),(121,l),(122,m)] ⟨ib bd1,ib bd2,ib bd3,ib L,ib K,⟨⟩⟩ ⟨bd1,bd2,bd3,L,K,⟨⟩⟩ (irS (show 256*d1+(65536*d2+(16777216*d3+(1*l+(0))))+0=x by omega) ix) (irS (show 256*d1+(65536*d2+(16777216*d3+(1*m+(0))))+128=y by omega) iy) w
  · have H : 0 ≤ h ∧ h ≤ 1 := by omega
    have L : 0 ≤ l ∧ l ≤ 63 := by omega
    have K : 0 ≤ m ∧ m ≤ 63 := by omega
    exact fin c rtl5_0_1 [(101,d1),(102,d2),(103,d3),(120,h),(121,l),(122,m)] ⟨ib bd1,ib bd2,ib bd3,ib H,ib L,ib K,⟨⟩⟩ ⟨bd1,bd2,bd3,H,L,K,⟨⟩⟩ (irS (show 256*d1+(65536*d2+(16777216*d3+(128*h+(1*l+(0)))))+0=x by omega) ix) (irS (show 256*d1+(65536*d2+(16777216*d3+(128*h+(1*m+(0)))))+64=y by omega) iy) w
  · have H : 0 ≤ h ∧ h ≤ 3 := by omega
    have L : 0 ≤ l ∧ l ≤ 31 := by omega
    have K : 0 ≤ m ∧ m ≤ 31 := by omega
    exact fin c rtl5_0_2 [(101,d1),(102,d2),(103,d3),(120,h),(121,l),(122,m)] ⟨ib bd1,ib bd2,ib bd3,ib H,ib L,ib K,⟨⟩⟩ ⟨bd1,bd2,bd3,H,L,K,⟨⟩⟩ (irS (show 256*d1+(65536*d2+(16777216*d3+(64*h+(1*l+(0)))))+0=x by omega) ix) (irS (show 256*d1+(65536*d2+(16777216*d3+(64*h+(1*m+(0)))))+32=y by omega) iy) w
  · have H : 0 ≤ h ∧ h ≤ 7 := by omega
    have L : 0 ≤ l ∧ l ≤ 15 := by omega
    have K : 0 ≤ m ∧ m ≤ 15 := by omega
    exact fin c rtl5_0_3 [(101,d1),(102,d2),(103,d3),(120,h),(121,l),(122,m)] ⟨ib bd1,ib bd2,ib bd3,ib H,ib L,ib K,⟨⟩⟩ ⟨bd1,bd2,bd3,H,L,K,⟨⟩⟩ (irS (show 256*d1+(65536*d2+(16777216*d3+(32*h+(1*l+(0)))))+0=x by omega) ix) (irS (show 256*d1+(65536*d2+(16777216*d3+(32*h+(1*m+(0)))))+16=y by omega) iy) w
  · have H : 0 ≤ h ∧ h ≤ 15 := by omega
    have L : 0 ≤ l ∧ l ≤ 7 := by omega
    have K : 0 ≤ m ∧ m ≤ 7 := by omega
    exact fin c rtl5_0_4 [(101,d1),(102,d2),(103,d3),(120,h),(121,l),(122,m)] ⟨ib bd1,ib bd2,ib bd3,ib H,ib L,ib K,⟨⟩⟩ ⟨bd1,bd2,bd3,H,L,K,⟨⟩⟩ (irS (show 256*d1+(65536*d2+(16777216*d3+(16*h+(1*l+(0)))))+0=x by omega) ix) (irS (show 256*d1+(65536*d2+(16777216*d3+(16*h+(1*m+(0)))))+8=y by omega) iy) w
  · have H : 0 ≤ h ∧ h ≤ 31 := by omega
    have L : 0 ≤ l ∧ l ≤ 3 := by omega
    have K : 0 ≤ m ∧ m ≤ 3 := by omega
    exact fin c rtl5_0_5 [(101,d1),(102,d2),(103,d3),(120,h),(121,l),(122,m)] ⟨ib bd1,ib bd2,ib bd3,ib H,ib L,ib K,⟨⟩⟩ ⟨bd1,bd2,bd3,H,L,K,⟨⟩⟩ (irS (show 256*d1+(65536*d2+(16777216*d3+(8*h+(1*l+(0)))))+0=x by omega) ix) (irS (show 256*d1+(65536*d2+(16777216*d3+(8*h+(1*m+(0)))))+4=y by omega) iy) w
  · have H : 0 ≤ h ∧ h ≤ 63 := by omega
    have L : 0 ≤ l ∧ l ≤ 1 := by omega
    have K : 0 ≤ m ∧ m ≤ 1 := by omega
    exact fin c rtl5_0_6 [(101,d1),(102,d2),(103,d3),(120,h),(121,l),(122,m)] ⟨ib bd1,ib bd2,ib bd3,ib H,ib L,ib K,⟨⟩⟩ ⟨bd1,bd2,bd3,H,L,K,⟨⟩⟩ (irS (show 256*d1+(65536*d2+(16777216*d3+(4*h+(1*l+(0)))))+0=x by omega) ix) (irS (show 256*d1+(65536*d2+(16777216*d3+(4*h+(1*m+(0)))))+2=y by omega) iy) w
  · have H : 0 ≤ h ∧ h ≤ 127 := by omega
    exact fin c rtl5_0_7 [(101,d1),(102,d2),(103,d3),(120,h)] ⟨ib bd1,ib bd2,ib bd3,ib H,⟨⟩⟩ ⟨bd1,bd2,bd3,H,⟨⟩⟩ (irS (show 256*d1+(65536*d2+(16777216*d3+(2*h+(0))))+0=x by omega) ix) (irS (show 256*d1+(65536*d2+(16777216*d3+(2*h+(0))))+1=y by omega) iy) w
theorem g5_0 {a0 a1 a2 a3 x y : Int} (c : Ctx a0 a1 a2 a3 x y) (ix : In x) (iy : In y) (d1 d2 d3 p q : Int) (bd1 : 0 ≤ d1 ∧ d1 ≤ 255) (bd2 : 0 ≤ d2 ∧ d2 ≤ 255) (bd3 : 1 ≤ d3 ∧ d3 ≤ 63) (bp : 0 ≤ p ∧ p ≤ 255) (bq : 0 ≤ q ∧ q ≤ 255) (hx : x = 1 * p + 256 * d1 + 65536 * d2 + 16777216 * d3) (hy : y = 1 * q + 256 * d1 + 65536 * d2 + 16777216 * d3) (hpq : q < p) (w : World) : G a0 a1 a2 a3 w := by
  rcases pairs q p (by omega) hpq (by omega) with ⟨h, l, m, h0, l0, l1, m0, m1, ep, eq⟩ | ⟨h, l, m, h0, l0, l1, m0, m1, ep, eq⟩ | ⟨h, l, m, h0, l0, l1, m0, m1, ep, eq⟩ | ⟨h, l, m, h0, l0, l1, m0, m1, ep, eq⟩ | ⟨h, l, m, h0, l0, l1, m0, m1, ep, eq⟩ | ⟨h, l, m, h0, l0, l1, m0, m1, ep, eq⟩ | ⟨h, l, m, h0, l0, l1, m0, m1, ep, eq⟩ | ⟨h, l, m, h0, l0, l1, m0, m1, ep, eq⟩
  · have L : 0 ≤ l ∧ l ≤ 127 := by omega
    have K : 0 ≤ m ∧ m ≤ 127 := by omega
    exact fin c rtg5_0_0 [(101,d1),(102,d2),(103,d3),(121,l),(122,m)] ⟨ib bd1,ib bd2,ib bd3,ib L,ib K,⟨⟩⟩ ⟨bd1,bd2,bd3,L,K,⟨⟩⟩ (irS (show 256*d1+(65536*d2+(16777216*d3+(1*m+(0))))+128=x by omega) ix) (irS (show 256*d1+(65536*d2+(16777216*d3+(1*l+(0))))+0=y by omega) iy) w
  · have H : 0 ≤ h ∧ h ≤ 1 := by omega
    have L : 0 ≤ l ∧ l ≤ 63 := by omega
    have K : 0 ≤ m ∧ m ≤ 63 := by omega
    exact fin c rtg5_0_1 [(101,d1),(102,d2),(103,d3),(120,h),(121,l),(122,m)] ⟨ib bd1,ib bd2,ib bd3,ib H,ib L,ib K,⟨⟩⟩ ⟨bd1,bd2,bd3,H,L,K,⟨⟩⟩ (irS (show 256*d1+(65536*d2+(16777216*d3+(128*h+(1*m+(0)))))+64=x by omega) ix) (irS (show 256*d1+(65536*d2+(16777216*d3+(128*h+(1*l+(0)))))+0=y by omega) iy) w
  · have H : 0 ≤ h ∧ h ≤ 3 := by omega
    have L : 0 ≤ l ∧ l ≤ 31 := by omega
    have K : 0 ≤ m ∧ m ≤ 31 := by omega
    exact fin c rtg5_0_2 [(101,d1),(102,d2),(103,d3),(120,h),(121,l),(122,m)] ⟨ib bd1,ib bd2,ib bd3,ib H,ib L,ib K,⟨⟩⟩ ⟨bd1,bd2,bd3,H,L,K,⟨⟩⟩ (irS (show 256*d1+(65536*d2+(16777216*d3+(64*h+(1*m+(0)))))+32=x by omega) ix) (irS (show 256*d1+(65536*d2+(16777216*d3+(64*h+(1*l+(0)))))+0=y by omega) iy) w
  · have H : 0 ≤ h ∧ h ≤ 7 := by omega
    have L : 0 ≤ l ∧ l ≤ 15 := by omega
    have K : 0 ≤ m ∧ m ≤ 15 := by omega
    exact fin c rtg5_0_3 [(101,d1),(102,d2),(103,d3),(120,h),(121,l),(122,m)] ⟨ib bd1,ib bd2,ib bd3,ib H,ib L,ib K,⟨⟩⟩ ⟨bd1,bd2,bd3,H,L,K,⟨⟩⟩ (irS (show 256*d1+(65536*d2+(16777216*d3+(32*h+(1*m+(0)))))+16=x by omega) ix) (irS (show 256*d1+(65536*d2+(16777216*d3+(32*h+(1*l+(0)))))+0=y by omega) iy) w
  · have H : 0 ≤ h ∧ h ≤ 15 := by omega
    have L : 0 ≤ l ∧ l ≤ 7 := by omega
    have K : 0 ≤ m ∧ m ≤ 7 := by omega
    exact fin c rtg5_0_4 [(101,d1),(102,d2),(103,d3),(120,h),(121,l),(122,m)] ⟨ib bd1,ib bd2,ib bd3,ib H,ib L,ib K,⟨⟩⟩ ⟨bd1,bd2,bd3,H,L,K,⟨⟩⟩ (irS (show 256*d1+(65536*d2+(16777216*d3+(16*h+(1*m+(0)))))+8=x by omega) ix) (irS (show 256*d1+(65536*d2+(16777216*d3+(16*h+(1*l+(0)))))+0=y by omega) iy) w
  · have H : 0 ≤ h ∧ h ≤ 31 := by omega
    have L : 0 ≤ l ∧ l ≤ 3 := by omega
    have K : 0 ≤ m ∧ m ≤ 3 := by omega
    exact fin c rtg5_0_5 [(101,d1),(102,d2),(103,d3),(120,h),(121,l),(122,m)] ⟨ib bd1,ib bd2,ib bd3,ib H,ib L,ib K,⟨⟩⟩ ⟨bd1,bd2,bd3,H,L,K,⟨⟩⟩ (irS (show 256*d1+(65536*d2+(16777216*d3+(8*h+(1*m+(0)))))+4=x by omega) ix) (irS (show 256*d1+(65536*d2+(16777216*d3+(8*h+(1*l+(0)))))+0=y by omega) iy) w
  · have H : 0 ≤ h ∧ h ≤ 63 := by omega
    have L : 0 ≤ l ∧ l ≤ 1 := by omega
    have K : 0 ≤ m ∧ m ≤ 1 := by omega
    exact fin c rtg5_0_6 [(101,d1),(102,d2),(103,d3),(120,h),(121,l),(122,m)] ⟨ib bd1,ib bd2,ib bd3,ib H,ib L,ib K,⟨⟩⟩ ⟨bd1,bd2,bd3,H,L,K,⟨⟩⟩ (irS (show 256*d1+(65536*d2+(16777216*d3+(4*h+(1*m+(0)))))+2=x by omega) ix) (irS (show 256*d1+(65536*d2+(16777216*d3+(4*h+(1*l+(0)))))+0=y by omega) iy) w
  · have H : 0 ≤ h ∧ h ≤ 127 := by omega
    exact fin c rtg5_0_7 [(101,d1),(102,d2),(103,d3),(120,h)] ⟨ib bd1,ib bd2,ib bd3,ib H,⟨⟩⟩ ⟨bd1,bd2,bd3,H,⟨⟩⟩ (irS (show 256*d1+(65536*d2+(16777216*d3+(2*h+(0))))+1=x by omega) ix) (irS (show 256*d1+(65536*d2+(16777216*d3+(2*h+(0))))+0=y by omega) iy) w
theorem e5 {a0 a1 a2 a3 x y : Int} (c : Ctx a0 a1 a2 a3 x y) (ix : In x) (iy : In y) (d0 d1 d2 d3 : Int) (bd0 : 0 ≤ d0 ∧ d0 ≤ 255) (bd1 : 0 ≤ d1 ∧ d1 ≤ 255) (bd2 : 0 ≤ d2 ∧ d2 ≤ 255) (bd3 : 1 ≤ d3 ∧ d3 ≤ 63) (hx : x = 1 * d0 + 256 * d1 + 65536 * d2 + 16777216 * d3) (hy : y = 1 * d0 + 256 * d1 + 65536 * d2 + 16777216 * d3) (w : World) : G a0 a1 a2 a3 w :=
  fin c rte5 [(100,d0),(101,d1),(102,d2),(103,d3)] ⟨ib bd0,ib bd1,ib bd2,ib bd3,⟨⟩⟩ ⟨bd0,bd1,bd2,bd3,⟨⟩⟩ (irS (show 1*d0+(256*d1+(65536*d2+(16777216*d3+(0))))+0=x by omega) ix) (irS (show 1*d0+(256*d1+(65536*d2+(16777216*d3+(0))))+0=y by omega) iy) w
theorem b5_5 {a0 a1 a2 a3 x y : Int} (c : Ctx a0 a1 a2 a3 x y) (ix : In x) (iy : In y) (hx : Cl5 x) (hy : Cl5 y) (w : World) : G a0 a1 a2 a3 w := by
  obtain ⟨d0, d1, d2, d3, bd0, bd1, bd2, bd3, hx⟩ := hx
  obtain ⟨f0, f1, f2, f3, bf0, bf1, bf2, bf3, hy⟩ := hy
  rcases Int.lt_trichotomy d3 f3 with hlt | he3 | hlt
  · exact l5_3 c ix iy d3 f3 d0 d1 d2 f0 f1 f2 bd3 bf3 bd0 bf0 bd1 bf1 bd2 bf2 hx hy hlt w
  rotate_left
  · exact g5_3 c ix iy d3 f3 d0 d1 d2 f0 f1 f2 bd3 bf3 bd0 bf0 bd1 bf1 bd2 bf2 hx hy hlt w
  subst he3
  rcases Int.lt_trichotomy d2 f2 with hlt | he2 | hlt
  · exact l5_2 c ix iy d3 d2 f2 d0 d1 f0 f1 bd3 bd2 bf2 bd0 bf0 bd1 bf1 hx hy hlt w
  rotate_left
  · exact g5_2 c ix iy d3 d2 f2 d0 d1 f0 f1 bd3 bd2 bf2 bd0 bf0 bd1 bf1 hx hy hlt w
  subst he2
  rcases Int.lt_trichotomy d1 f1 with hlt | he1 | hlt
  · exact l5_1 c ix iy d2 d3 d1 f1 d0 f0 bd2 bd3 bd1 bf1 bd0 bf0 hx hy hlt w
  rotate_left
  · exact g5_1 c ix iy d2 d3 d1 f1 d0 f0 bd2 bd3 bd1 bf1 bd0 bf0 hx hy hlt w
  subst he1
  rcases Int.lt_trichotomy d0 f0 with hlt | he0 | hlt
  · exact l5_0 c ix iy d1 d2 d3 d0 f0 bd1 bd2 bd3 bd0 bf0 hx hy hlt w
  rotate_left
  · exact g5_0 c ix iy d1 d2 d3 d0 f0 bd1 bd2 bd3 bd0 bf0 hx hy hlt w
  subst he0
  exact e5 c ix iy d0 d1 d2 d3 bd0 bd1 bd2 bd3 hx hy w
theorem b5_0 {a0 a1 a2 a3 x y : Int} (c : Ctx a0 a1 a2 a3 x y) (ix : In x) (iy : In y) (hx : Cl5 x) (hy : Cl0 y) (w : World) : G a0 a1 a2 a3 w := by
  obtain ⟨d0, d1, d2, d3, bd0, bd1, bd2, bd3, hx⟩ := hx
  obtain ⟨f0, bf0, hy⟩ := hy
  exact fin c rtx5_0 [(100,d0),(101,d1),(102,d2),(103,d3),(110,f0)] ⟨ib bd0,ib bd1,ib bd2,ib bd3,ib bf0,⟨⟩⟩ ⟨bd0,bd1,bd2,bd3,bf0,⟨⟩⟩ (irS (show 1*d0+(256*d1+(65536*d2+(16777216*d3+(0))))+0=x by omega) ix) (irS (show 1*f0+(0)+0=y by omega) iy) w
theorem b5_1 {a0 a1 a2 a3 x y : Int} (c : Ctx a0 a1 a2 a3 x y) (ix : In x) (iy : In y) (hx : Cl5 x) (hy : Cl1 y) (w : World) : G a0 a1 a2 a3 w := by
  obtain ⟨d0, d1, d2, d3, bd0, bd1, bd2, bd3, hx⟩ := hx
  obtain ⟨f0, bf0, hy⟩ := hy
  exact fin c rtx5_1 [(100,d0),(101,d1),(102,d2),(103,d3),(110,f0)] ⟨ib bd0,ib bd1,ib bd2,ib bd3,ib bf0,⟨⟩⟩ ⟨bd0,bd1,bd2,bd3,bf0,⟨⟩⟩ (irS (show 1*d0+(256*d1+(65536*d2+(16777216*d3+(0))))+0=x by omega) ix) (irS (show 1*f0+(0)+0=y by omega) iy) w
theorem b5_2 {a0 a1 a2 a3 x y : Int} (c : Ctx a0 a1 a2 a3 x y) (ix : In x) (iy : In y) (hx : Cl5 x) (hy : Cl2 y) (w : World) : G a0 a1 a2 a3 w := by
  obtain ⟨d0, d1, d2, d3, bd0, bd1, bd2, bd3, hx⟩ := hx
  obtain ⟨f0, f1, bf0, bf1, hy⟩ := hy
  exact fin c rtx5_2 [(100,d0),(101,d1),(102,d2),(103,d3),(110,f0),(111,f1)] ⟨ib bd0,ib bd1,ib bd2,ib bd3,ib bf0,ib bf1,⟨⟩⟩ ⟨bd0,bd1,bd2,bd3,bf0,bf1,⟨⟩⟩ (irS (show 1*d0+(256*d1+(65536*d2+(16777216*d3+(0))))+0=x by omega) ix) (irS (show 1*f0+(256*f1+(0))+0=y by omega) iy) w
theorem b5_3 {a0 a1 a2 a3 x y : Int} (c : Ctx a0 a1 a2 a3 x y) (ix : In x) (iy : In y) (hx : Cl5 x) (hy : Cl3 y) (w : World) : G a0 a1 a2 a3 w := by
  obtain ⟨d0, d1, d2, d3, bd0, bd1, bd2, bd3, hx⟩ := hx
  obtain ⟨f0, f1, bf0, bf1, hy⟩ := hy
  exact fin c rtx5_3 [(100,d0),(101,d1),(102,d2),(103,d3),(110,f0),(111,f1)] ⟨ib bd0,ib bd1,ib bd2,ib bd3,ib bf0,ib bf1,⟨⟩⟩ ⟨bd0,bd1,bd2,bd3,bf0,bf1,⟨⟩⟩ (irS (show 1*d0+(256*d1+(65536*d2+(16777216*d3+(0))))+0=x by omega) ix) (irS (show 1*f0+(256*f1+(0))+0=y by omega) iy) w
theorem b5_4 {a0 a1 a2 a3 x y : Int} (c : Ctx a0 a1 a2 a3 x y) (ix : In x) (iy : In y) (hx : Cl5 x) (hy : Cl4 y) (w : World) : G a0 a1 a2 a3 w := by
  obtain ⟨d0, d1, d2, d3, bd0, bd1, bd2, bd3, hx⟩ := hx
  obtain ⟨f0, f1, f2, bf0, bf1, bf2, hy⟩ := hy
  exact fin c rtx5_4 [(100,d0),(101,d1),(102,d2),(103,d3),(110,f0),(111,f1),(112,f2)] ⟨ib bd0,ib bd1,ib bd2,ib bd3,ib bf0,ib bf1,ib bf2,⟨⟩⟩ ⟨bd0,bd1,bd2,bd3,bf0,bf1,bf2,⟨⟩⟩ (irS (show 1*d0+(256*d1+(65536*d2+(16777216*d3+(0))))+0=x by omega) ix) (irS (show 1*f0+(256*f1+(65536*f2+(0)))+0=y by omega) iy) w
theorem b5_6 {a0 a1 a2 a3 x y : Int} (c : Ctx a0 a1 a2 a3 x y) (ix : In x) (iy : In y) (hx : Cl5 x) (hy : Cl6 y) (w : World) : G a0 a1 a2 a3 w := by
  obtain ⟨d0, d1, d2, d3, bd0, bd1, bd2, bd3, hx⟩ := hx
  obtain ⟨f0, f1, f2, f3, bf0, bf1, bf2, bf3, hy⟩ := hy
  exact fin c rtx5_6 [(100,d0),(101,d1),(102,d2),(103,d3),(110,f0),(111,f1),(112,f2),(113,f3)] ⟨ib bd0,ib bd1,ib bd2,ib bd3,ib bf0,ib bf1,ib bf2,ib bf3,⟨⟩⟩ ⟨bd0,bd1,bd2,bd3,bf0,bf1,bf2,bf3,⟨⟩⟩ (irS (show 1*d0+(256*d1+(65536*d2+(16777216*d3+(0))))+0=x by omega) ix) (irS (show 1*f0+(256*f1+(65536*f2+(16777216*f3+(0))))+0=y by omega) iy) w
theorem b5_7 {a0 a1 a2 a3 x y : Int} (c : Ctx a0 a1 a2 a3 x y) (ix : In x) (iy : In y) (hx : Cl5 x) (hy : Cl7 y) (w : World) : G a0 a1 a2 a3 w := by
  obtain ⟨d0, d1, d2, d3, bd0, bd1, bd2, bd3, hx⟩ := hx
  obtain ⟨f0, f1, f2, f3, f4, bf0, bf1, bf2, bf3, bf4, hy⟩ := hy
  exact fin c rtx5_7 [(100,d0),(101,d1),(102,d2),(103,d3),(110,f0),(111,f1),(112,f2),(113,f3),(114,f4)] ⟨ib bd0,ib bd1,ib bd2,ib bd3,ib bf0,ib bf1,ib bf2,ib bf3,ib bf4,⟨⟩⟩ ⟨bd0,bd1,bd2,bd3,bf0,bf1,bf2,bf3,bf4,⟨⟩⟩ (irS (show 1*d0+(256*d1+(65536*d2+(16777216*d3+(0))))+0=x by omega) ix) (irS (show 1*f0+(256*f1+(65536*f2+(16777216*f3+(4294967296*f4+(0)))))+0=y by omega) iy) w
theorem b5_8 {a0 a1 a2 a3 x y : Int} (c : Ctx a0 a1 a2 a3 x y) (ix : In x) (iy : In y) (hx : Cl5 x) (hy : Cl8 y) (w : World) : G a0 a1 a2 a3 w := by
  obtain ⟨d0, d1, d2, d3, bd0, bd1, bd2, bd3, hx⟩ := hx
  obtain ⟨f0, f1, f2, f3, f4, f5, bf0, bf1, bf2, bf3, bf4, bf5, hy⟩ := hy
  exact fin c rtx5_8 [(100,d0),(101,d1),(102,d2),(103,d3),(110,f0),(111,f1),(112,f2),(113,f3),(114,f4),(115,f5)] ⟨ib bd0,ib bd1,ib bd2,ib bd3,ib bf0,ib bf1,ib bf2,ib bf3,ib bf4,ib bf5,⟨⟩⟩ ⟨bd0,bd1,bd2,bd3,bf0,bf1,bf2,bf3,bf4,bf5,⟨⟩⟩ (irS (show 1*d0+(256*d1+(65536*d2+(16777216*d3+(0))))+0=x by omega) ix) (irS (show 1*f0+(256*f1+(65536*f2+(16777216*f3+(4294967296*f4+(1099511627776*f5+(0))))))+0=y by omega) iy) w
theorem b5_9 {a0 a1 a2 a3 x y : Int} (c : Ctx a0 a1 a2 a3 x y) (ix : In x) (iy : In y) (hx : Cl5 x) (hy : Cl9 y) (w : World) : G a0 a1 a2 a3 w := by
  obtain ⟨d0, d1, d2, d3, bd0, bd1, bd2, bd3, hx⟩ := hx
  obtain ⟨f0, f1, f2, f3, f4, f5, f6, bf0, bf1, bf2, bf3, bf4, bf5, bf6, hy⟩ := hy
  exact fin c rtx5_9 [(100,d0),(101,d1),(102,d2),(103,d3),(110,f0),(111,f1),(112,f2),(113,f3),(114,f4),(115,f5),(116,f6)] ⟨ib bd0,ib bd1,ib bd2,ib bd3,ib bf0,ib bf1,ib bf2,ib bf3,ib bf4,ib bf5,ib bf6,⟨⟩⟩ ⟨bd0,bd1,bd2,bd3,bf0,bf1,bf2,bf3,bf4,bf5,bf6,⟨⟩⟩ (irS (show 1*d0+(256*d1+(65536*d2+(16777216*d3+(0))))+0=x by omega) ix) (irS (show 1*f0+(256*f1+(65536*f2+(16777216*f3+(4294967296*f4+(1099511627776*f5+(281474976710656*f6+(0)))))))+0=y by omega) iy) w
theorem b5_10 {a0 a1 a2 a3 x y : Int} (c : Ctx a0 a1 a2 a3 x y) (ix : In x) (iy : In y) (hx : Cl5 x) (hy : Cl10 y) (w : World) : G a0 a1 a2 a3 w := by
  obtain ⟨d0, d1, d2, d3, bd0, bd1, bd2, bd3, hx⟩ := hx
  obtain ⟨f0, f1, f2, f3, f4, f5, f6, f7, bf0, bf1, bf2, bf3, bf4, bf5, bf6, bf7, hy⟩ := hy
  exact fin c rtx5_10 [(100,d0),(101,d1),(102,d2),(103,d3),(110,f0),(111,f1),(112,f2),(113,f3),(114,f4),(115,f5),(116,f6),(117,f7)] ⟨ib bd0,ib bd1,ib bd2,ib bd3,ib bf0,ib bf1,ib bf2,ib bf3,ib bf4,ib bf5,ib bf6,ib bf7,⟨⟩⟩ ⟨bd0,bd1,bd2,bd3,bf0,bf1,bf2,bf3,bf4,bf5,bf6,bf7,⟨⟩⟩ (irS (show 1*d0+(256*d1+(65536*d2+(16777216*d3+(0))))+0=x by omega) ix) (irS (show 1*f0+(256*f1+(65536*f2+(16777216*f3+(4294967296*f4+(1099511627776*f5+(281474976710656*f6+(72057594037927936*f7+(0))))))))+0=y by omega) iy) w
theorem l6_3 {a0 a1 a2 a3 x y : Int} (c : Ctx a0 a1 a2 a3 x y) (ix : In x) (iy : In y) (p q u0 u1 u2 v0 v1 v2 : Int) (bp : 64 ≤ p ∧ p ≤ 255) (bq : 64 ≤ q ∧ q ≤ 255) (bu0 : 0 ≤ u0 ∧ u0 ≤ 255) (bv0 : 0 ≤ v0 ∧ v0 ≤ 255) (bu1 : 0 ≤ u1 ∧ u1 ≤ 255) (bv1 : 0 ≤ v1 ∧ v1 ≤ 255) (bu2 : 0 ≤ u2 ∧ u2 ≤ 255) (bv2 : 0 ≤ v2 ∧ v2 ≤ 255) (hx : x = 1 * u0 + 256 * u1 + 65536 * u2 + 16777216 * p) (hy : y = 1 * v0 + 256 * v1 + 65536 * v2 + 16777216 * q) (hpq : p < q) (w : World) : G a0 a1 a2 a3 w := by
  rcases pairs p q (by omega) hpq (by omega) with ⟨h, l, m, h0, l0, l1, m0, m1, ep, eq⟩ | ⟨h, l, m, h0, l0, l1, m0, m1, ep, eq⟩ | ⟨h, l, m, h0, l0, l1, m0, m1, ep, eq⟩ | ⟨h, l, m, h0, l0, l1, m0, m1, ep, eq⟩ | ⟨h, l, m, h0, l0, l1, m0, m1, ep, eq⟩ | ⟨h, l, m, h0, l0, l1, m0, m1, ep, eq⟩ | ⟨h, l, m, h0, l0, l1, m0, m1, ep, eq⟩ | ⟨h, l, m, h0, l0, l1, m0, m1, ep, eq⟩
  · have L : 64 ≤ l ∧ l ≤ 127 := by omega
    have K : 0 ≤ m ∧ m ≤ 127 := by omega
    exact fin c rtl6_3_0 [(121,l),(122,m),(100,u0),(101,u1),(102,u2),(110,v0),(111,v1),(112,v2)] ⟨ib L,ib K,ib bu0,ib bu1,ib bu2,ib bv0,ib bv1,ib bv2,⟨⟩⟩ ⟨L,K,bu0,bu1,bu2,bv0,bv1,bv2,⟨⟩⟩ (irS (show 16777216*l+(1*u0+(256*u1+(65536*u2+(0))))+0=x by omega) ix) (irS (show 16777216*m+(1*v0+(256*v1+(65536*v2+(0))))+2147483648=y by omega) iy) w
  · have H : 1 ≤ h ∧ h ≤ 1 := by omega
    have L : 0 ≤ l ∧ l ≤ 63 := by omega
    have K : 0 ≤ m ∧ m ≤ 63 := by omega
    exact fin c rtl6_3_1 [(120,h),(121,l),(122,m),(100,u0),(101,u1),(102,u2),(110,v0),(111,v1),(112,v2)] ⟨ib H,ib L,ib K,ib bu0,ib bu1,ib bu2,ib bv0,ib bv1,ib bv2,⟨⟩⟩ ⟨H,L,K,bu0,bu1,bu2,bv0,bv1,bv2,⟨⟩⟩ (irS (show 2147483648*h+(16777216*l+(1*u0+(256*u1+(65536*u2+(0)))))+0=x by omega) ix) (irS (show 2147483648*h+(16777216*m+(1*v0+(256*v1+(65536*v2+(0)))))+1073741824=y by omega) iy) w
  · have H : 1 ≤ h ∧ h ≤ 3 := by omega
    have L : 0 ≤ l ∧ l ≤ 31 := by omega
    have K : 0 ≤ m ∧ m ≤ 31 := by omega
    exact fin c rtl6_3_2 [(120,h),(121,l),(122,m),(100,u0),(101,u1),(102,u2),(110,v0),(111,v1),(112,v2)] ⟨ib H,ib L,ib K,ib bu0,ib bu1,ib bu2,ib bv0,ib bv1,ib bv2,⟨⟩⟩ ⟨H,L,K,bu0,bu1,bu2,bv0,bv1,bv2,⟨⟩⟩ (irS (show 1073741824*h+(16777216*l+(1*u0+(256*u1+(65536*u2+(0)))))+0=x by omega) ix) (irS (show 1073741824*h+(16777216*m+(1*v0+(256*v1+(65536*v2+(0)))))+536870912=y by omega) iy) w
  · have H : 2 ≤ h ∧ h ≤ 7 := by omega
    have L : 0 ≤ l ∧ l ≤ 15 := by omega
    have K : 0 ≤ m ∧ m ≤ 15 := by omega
    exact fin c rtl6_3_3 [(120,h),(121,l),(122,m),(100,u0),(101,u1),(102,u2),(110,v0),(111,v1),(112,v2)] ⟨ib H,ib L,ib K,ib bu0,ib bu1,ib bu2,ib bv0,ib bv1,ib bv2,⟨⟩⟩ ⟨H,L,K,bu0,bu1,bu2,bv0,bv1,bv2,⟨⟩⟩ (irS (show 536870912*h+(16777216*l+(1*u0+(256*u1+(65536*u2+(0)))))+0=x by omega) ix) (irS (show 536870912*h+(16777216*m+(1*v0+(256*v1+(65536*v2+(0)))))+268435456=y by omega) iy) w
  · have H : 4 ≤ h ∧ h ≤ 15 := by omega
    have L : 0 ≤ l ∧ l ≤ 7 := by omega
    have K : 0 ≤ m ∧ m ≤ 7 := by omega
    exact fin c rtl6_3_4 [(120,h),(121,l),(122,m),(100,u0),(101,u1),(102,u2),(110,v0),(111,v1),(112,v2)] ⟨ib H,ib L,ib K,ib bu0,ib bu1,ib bu2,ib bv0,ib bv1,ib bv2,⟨⟩⟩ ⟨H,L,K,bu0,bu1,bu2,bv0,bv1,bv2,⟨⟩⟩ (irS (show 268435456*h+(16777216*l+(1*u0+(256*u1+(65536*u2+(0)))))+0=x by omega) ix) (irS (show 268435456*h+(16777216*m+(1*v0+(256*v1+(65536*v2+(0)))))+134217728=y by omega) iy) w
  · have H : 8 ≤ h ∧ h ≤ 31 := by omega
    have L : 0 ≤ l ∧ l ≤ 3 := by omega
    have K : 0 ≤ m ∧ m ≤ 3 := by omega
    exact fin c rtl6_3_5 [(120,h),(121,l),(122,m),(100,u0),(101,u1),(102,u2),(110,v0),(111,v1),(112,v2)] ⟨ib H,ib L,ib K,ib bu0,ib bu1,ib bu2,ib bv0,ib bv1,ib bv2,⟨⟩⟩ ⟨H,L,K,bu0,bu1,bu2,bv0,bv1,bv2,⟨⟩⟩ (irS (show 134217728*h+(16777216*l+(1*u0+(256*u1+(65536*u2+(0)))))+0=x by omega) ix) (irS (show 134217728*h+(16777216*m+(1*v0+(256*v1+(65536*v2+(0)))))+67108864=y by omega) iy) w
  · have H : 16 ≤ h ∧ h ≤ 63 := by omega
    have L : 0 ≤ l ∧ l ≤ 1 := by omega
    have K : 0 ≤ m ∧ m ≤ 1 := by omega
    exact fin c rtl6_3_6 [(120,h),(121,l),(122,m),(100,u0),(101,u1),(102,u2),(110,v0),(111,v1),(112,v2)] ⟨ib H,ib L,ib K,ib bu0,ib bu1,ib bu2,ib bv0,ib bv1,ib bv2,⟨⟩⟩ ⟨H,L,K,bu0,bu1,bu2,bv0,bv1,bv2,⟨⟩⟩ (irS (show 67108864*h+(16777216*l+(1*u0+(256*u1+(65536*u2+(0)))))+0=x by omega) ix) (irS (show 67108864*h+(16777216*m+(1*v0+(256*v1+(65536*v2+(0)))))+33554432=y by omega) iy) w
  · have H : 32 ≤ h ∧ h ≤ 127 := by omega
    exact fin c rtl6_3_7 [(120,h),(100,u0),(101,u1),(102,u2),(110,v0),(111,v1),(112,v2)] ⟨ib H,ib bu0,ib bu1,ib bu2,ib bv0,ib bv1,ib bv2,⟨⟩⟩ ⟨H,bu0,bu1,bu2,bv0,bv1,bv2,⟨⟩⟩ (irS (show 33554432*h+(1*u0+(256*u1+(65536*u2+(0))))+0=x by omega) ix) (irS (show 33554432*h+(1*v0+(256*v1+(65536*v2+(0))))+16777216=y by omega) iy) w
theorem g6_3 {a0 a1 a2 a3 x y : Int} (c : Ctx a0 a1 a2 a3 x y) (ix : In x) (iy : In y) (p q u0 u1 u2 v0 v1 v2 : Int) (bp : 64 ≤ p ∧ p ≤ 255) (bq : 64 ≤ q ∧ q ≤ 255) (bu0 : 0 ≤ u0 ∧ u0 ≤ 255) (bv0 : 0 ≤ v0 ∧ v0 ≤ 255) (bu1 : 0 ≤ u1 ∧ u1 ≤ 255) (bv1 : 0 ≤ v1 ∧ v1 ≤ 255) (bu2 : 0 ≤ u2 ∧ u2 ≤ 255) (bv2 : 0 ≤ v2 ∧ v2 ≤ 255) (hx : x = 1 * u0 + 256 * u1 + 65536 * u2 + 16777216 * p) (hy : y = 1 * v0 + 256 * v1 + 65536 * v2 + 16777216 * q) (hpq : q < p) (w : World) : G a0 a1 a2 a3 w := by
  rcases pairs q p (by omega) hpq (by omega) with ⟨h, l, m, h0, l0, l1, m0, m1, ep, eq⟩ | ⟨h, l, m, h0, l0, l1, m0, m1, ep, eq⟩ | ⟨h, l, m, h0, l0, l1, m0, m1, ep, eq⟩ | ⟨h, l, m, h0, l0, l1, m0, m1, ep, eq⟩ | ⟨h, l, m, h0, l0, l1, m0, m1, ep, eq⟩ | ⟨h, l, m, h0, l0, l1, m0, m1, ep, eq⟩ | ⟨h, l, m, h0, l0, l1, m0, m1, ep, eq⟩ | ⟨h, l, m, h0, l0, l1, m0, m1, ep, eq⟩
  · have L : 64 ≤ l ∧ l ≤ 127 := by omega
    have K : 0 ≤ m ∧ m ≤ 127 := by omega
    exact fin c rtg6_3_0 [(121,l),(122,m),(100,u0),(101,u1),(102,u2),(110,v0),(111,v1),(112,v2)] ⟨ib L,ib K,ib bu0,ib bu1,ib bu2,ib bv0,ib bv1,ib bv2,⟨⟩⟩ ⟨L,K,bu0,bu1,bu2,bv0,bv1,bv2,⟨⟩⟩ (irS (show 16777216*m+(1*u0+(256*u1+(65536*u2+(0))))+2147483648=x by omega) ix) (irS (show 16777216*l+(1*v0+(256*v1+(65536*v2+(0))))+0=y by omega) iy) w
  · have H : 1 ≤ h ∧ h ≤ 1 := by omega
    have L : 0 ≤ l ∧ l ≤ 63 := by omega
    have K : 0 ≤ m ∧ m ≤ 63 := by omega
    exact fin c rtg6_3_1 [(120,h),(121,l),(122,m),(100,u0),(101,u1),(102,u2),(110,v0),(111,v1),(112,v2)] ⟨ib H,ib L,ib K,ib bu0,ib bu1,ib bu2,ib bv0,ib bv1,ib bv2,⟨⟩⟩ ⟨H,L,K,bu0,bu1,bu2,bv0,bv1,bv2,⟨⟩⟩ (irS (show 2147483648*h+(16777216*m+(1*u0+(256*u1+(65536*u2+(0)))))+1073741824=x by omega) ix) (irS (show 2147483648*h+(16777216*l+(1*v0+(256*v1+(65536*v2+(0)))))+0=y by omega) iy) w
  · have H : 1 ≤ h ∧ h ≤ 3 := by omega
    have L : 0 ≤ l ∧ l ≤ 31 := by omega
    have K : 0 ≤ m ∧ m ≤ 31 := by omega
    exact fin c rtg6_3_2 [(120,h),(121,l),(122,m),(100,u0),(101,u1),(102,u2),(110,v0),(111,v1),(112,v2)] ⟨ib H,ib L,ib K,ib bu0,ib bu1,ib bu2,ib bv0,ib bv1,ib bv2,⟨⟩⟩ ⟨H,L,K,bu0,bu1,bu2,bv0,bv1,bv2,⟨⟩⟩ (irS (show 1073741824*h+(16777216*m+(1*u0+(256*u1+(65536*u2+(0)))))+536870912=x by omega) ix) (irS (show 1073741824*h+(16777216*l+(1*v0+(256*v1+(65536*v2+(0)))))+0=y by omega) iy) w
  · have H : 2 ≤ h ∧ h ≤ 7 := by omega
    have L : 0 ≤ l ∧ l ≤ 15 := by omega
    have K : 0 ≤ m ∧ m ≤ 15 := by omega
    exact fin c rtg6_3_3 [(120,h),(121,l),(122,m),(100,u0),(101,u1),(102,u2),(110,v0),(111,v1),(112,v2)] ⟨ib H,ib L,ib K,ib bu0,ib bu1,ib bu2,ib bv0,ib bv1,ib bv2,⟨⟩⟩ ⟨H,L,K,bu0,bu1,bu2,bv0,bv1,bv2,⟨⟩⟩ (irS (show 536870912*h+(16777216*m+(1*u0+(256*u1+(65536*u2+(0)))))+268435456=x by omega) ix) (irS (show 536870912*h+(16777216*l+(1*v0+(256*v1+(65536*v2+(0)))))+0=y by omega) iy) w
  · have H : 4 ≤ h ∧ h ≤ 15 := by omega
    have L : 0 ≤ l ∧ l ≤ 7 := by omega
    have K : 0 ≤ m ∧ m ≤ 7 := by omega
    exact fin c rtg6_3_4 [(120,h),(121,l),(122,m),(100,u0),(101,u1),(102,u2),(110,v0),(111,v1),(112,v2)] ⟨ib H,ib L,ib K,ib bu0,ib bu1,ib bu2,ib bv0,ib bv1,ib bv2,⟨⟩⟩ ⟨H,L,K,bu0,bu1,bu2,bv0,bv1,bv2,⟨⟩⟩ (irS (show 268435456*h+(16777216*m+(1*u0+(256*u1+(65536*u2+(0)))))+134217728=x by omega) ix) (irS (show 268435456*h+(16777216*l+(1*v0+(256*v1+(65536*v2+(0)))))+0=y by omega) iy) w
  · have H : 8 ≤ h ∧ h ≤ 31 := by omega
    have L : 0 ≤ l ∧ l ≤ 3 := by omega
    have K : 0 ≤ m ∧ m ≤ 3 := by omega
    exact fin c rtg6_3_5 [(120,h),(121,l),(122,m),(100,u0),(101,u1),(102,u2),(110,v0),(111,v1),(112,v2)] ⟨ib H,ib L,ib K,ib bu0,ib bu1,ib bu2,ib bv0,ib bv1,ib bv2,⟨⟩⟩ ⟨H,L,K,bu0,bu1,bu2,bv0,bv1,bv2,⟨⟩⟩ (irS (show 134217728*h+(16777216*m+(1*u0+(256*u1+(65536*u2+(0)))))+67108864=x by omega) ix) (irS (show 134217728*h+(16777216*l+(1*v0+(256*v1+(65536*v2+(0)))))+0=y by omega) iy) w
  · have H : 16 ≤ h ∧ h ≤ 63 := by omega
    have L : 0 ≤ l ∧ l ≤ 1 := by omega
    have K : 0 ≤ m ∧ m ≤ 1 := by omega
    exact fin c rtg6_3_6 [(120,h),(121,l),(122,m),(100,u0),(101,u1),(102,u2),(110,v0),(111,v1),(112,v2)] ⟨ib H,ib L,ib K,ib bu0,ib bu1,ib bu2,ib bv0,ib bv1,ib bv2,⟨⟩⟩ ⟨H,L,K,bu0,bu1,bu2,bv0,bv1,bv2,⟨⟩⟩ (irS (show 67108864*h+(16777216*m+(1*u0+(256*u1+(65536*u2+(0)))))+33554432=x by omega) ix) (irS (show 67108864*h+(16777216*l+(1*v0+(256*v1+(65536*v2+(0)))))+0=y by omega) iy) w
  · have H : 32 ≤ h ∧ h ≤ 127 := by omega
    exact fin c rtg6_3_7 [(120,h),(100,u0),(101,u1),(102,u2),(110,v0),(111,v1),(112,v2)] ⟨ib H,ib bu0,ib bu1,ib bu2,ib bv0,ib bv1,ib bv2,⟨⟩⟩ ⟨H,bu0,bu1,bu2,bv0,bv1,bv2,⟨⟩⟩ (irS (show 33554432*h+(1*u0+(256*u1+(65536*u2+(0))))+16777216=x by omega) ix) (irS (show 33554432*h+(1*v0+(256*v1+(65536*v2+(0))))+0=y by omega) iy) w
theorem l6_2 {a0 a1 a2 a3 x y : Int} (c : Ctx a0 a1 a2 a3 x y) (ix : In x) (iy : In y) (d3 p q u0 u1 v0 v1 : Int) (bd3 : 64 ≤ d3 ∧ d3 ≤ 255) (bp : 0 ≤ p ∧ p ≤ 255) (bq : 0 ≤ q ∧ q ≤ 255) (bu0 : 0 ≤ u0 ∧ u0 ≤ 255) (bv0 : 0 ≤ v0 ∧ v0 ≤ 255) (bu1 : 0 ≤ u1 ∧ u1 ≤ 255) (bv1 : 0 ≤ v1 ∧ v1 ≤ 255) (hx : x = 1 * u0 + 256 * u1 + 65536 * p + 16777216 * d3) (hy : y = 1 * v0 + 256 * v1 + 65536 * q + 16777216 * d3) (hpq : p < q) (w : World) : G a0 a1 a2 a3 w := by
  rcases pairs p q (by omega) hpq (by omega) with ⟨h, l, m, h0, l0, l1, m0, m1, ep, eq⟩ | ⟨h, l, m, h0, l0, l1, m0, m1, ep, eq⟩ | ⟨h, l, m, h0, l0, l1, m0, m1, ep, eq⟩ | ⟨h, l, m, h0, l0, l1, m0, m1, ep, eq⟩ | ⟨h, l, m, h0, l0, l1, m0, m1, ep, eq⟩ | ⟨h, l, m, h0, l0, l1, m0, m1, ep, eq⟩ | ⟨h, l, m, h0, l0, l1, m0, m1, ep, eq⟩ | ⟨h, l, m, h0, l0, l1, m0, m1, ep, eq⟩
  · have L : 0 ≤ l ∧ l ≤ 127 := by omega
    have K : 0 ≤ m ∧ m ≤ 127 := by omega
    exact fin c rtl6_2_0 [(103,d3),(121,l),(122,m),(100,u0),(101,u1),(110,v0),(111,v1)] ⟨ib bd3,ib L,ib K,ib bu0,ib bu1,ib bv0,ib bv1,⟨⟩⟩ ⟨bd3,L,K,bu0,bu1,bv0,bv1,⟨⟩⟩ (irS (show 16777216*d3+(65536*l+(1*u0+(256*u1+(0))))+0=x by omega) ix) (irS (show 16777216*d3+(65536*m+(1*v0+(256*v1+(0))))+8388608=y by omega) iy) w
  · have H : 0 ≤ h ∧ h ≤ 1 := by omega
    have L : 0 ≤ l ∧ l ≤ 63 := by omega
    have K : 0 ≤ m ∧ m ≤ 63 := by omega
    exact fin c rtl6_2_1 [(103,d3),(120,h),(121,l),(122,m),(100,u0),(101,u1),(110,v0),(111,v1)] ⟨ib bd3,ib H,ib L,ib K,ib bu0,ib bu1,ib bv0,ib bv1,⟨⟩⟩ ⟨bd3,H,L,K,bu0,bu1,bv0,bv1,⟨⟩⟩ (irS (show 16777216*d3+(8388608*h+(65536*l+(1*u0+(256*u1+(0)))))+0=x by omega) ix) (irS (show 16777216*d3+(8388608*h+(65536*m+(1*v0+(256*v1+(0)))))+4194304=y by omega) iy) w
  · have H : 0 ≤ h ∧ h ≤ 3 := by omega
    have L : 0 ≤ l ∧ l ≤ 31 := by omega
    have K : 0 ≤ m ∧ m ≤ 31 := by omega
    exact fin c rtl6_2_2 [(103,d3),(120,h),(121,l),(122,m),(100,u0),(101,u1),(110,v0),(111,v1)] ⟨ib bd3,ib H,ib L,ib K,ib bu0,ib bu1,ib bv0,ib bv1,⟨⟩⟩ ⟨bd3,H,L,K,bu0,bu1,bv0,bv1,⟨⟩⟩ (irS (show 16777216*d3+(4194304*h+(65536*l+(1*u0+(256*u1+(0)))))+0=x by omega) ix) (irS (show 16777216*d3+(4194304*h+(65536*m+(1*v0+(256*v1+(0)))))+2097152=y by omega) iy) w
  · have H : 0 ≤ h ∧ h ≤ 7 := by omega
    have L : 0 ≤ l ∧ l ≤ 15 := by omega
    have K : 0 ≤ m ∧ m ≤ 15 := by omega
    exact fin c rtl6_2_3 [(103,d3),(120,h),(121,l),(122,m),(100,u0),(101,u1),(110,v0),(111,v1)] ⟨ib bd3,ib H,ib L,ib K,ib bu0,ib bu1,ib bv0,ib bv1,⟨⟩⟩ ⟨bd3,H,L,K,bu0,bu1,bv0,bv1,⟨⟩⟩ (irS (show 16777216*d3+(2097152*h+(65536*l+(1*u0+(256*u1+(0)))))+0=x by omega) ix) (irS (show 16777216*d3+(2097152*h+(65536*m+(1*v0+(256*v1+(0)))))+1048576=y by omega) iy) w
  · have H : 0 ≤ h ∧ h ≤ 15 := by omega
    have L : 0 ≤ l ∧ l ≤ 7 := by omega
    have K : 0 ≤ m ∧ m ≤ 7 := by omega
    exact fin c rtl6_2_4 [(103,d3),(120,h),(121,l),(122,m),(100,u0),(101,u1),(110,v0),(111,v1)] ⟨ib bd3,ib H,ib L,ib K,ib bu0,ib bu1,ib bv0,ib bv1,⟨⟩⟩ ⟨bd3,H,L,K,bu0,bu1,bv0,bv1,⟨⟩⟩ (irS (show 16777216*d3+(1048576*h+(65536*l+(1*u0+(256*u1+(0)))))+0=x by omega) ix) (irS (show 16777216*d3+(1048576*h+(65536*m+(1*v0+(256*v1+(0)))))+524288=y by omega) iy) w
  · have H : 0 ≤ h ∧ h ≤ 31 := by omega
    have L : 0 ≤ l ∧ l ≤ 3 := by omega
    have K : 0 ≤ m ∧ m ≤ 3 := by omega
    exact fin c rtl6_2_5 [(103,d3),(120,h),(121,l),(122,m),(100,u0),(101,u1),(110,v0),(111,v1)] ⟨ib bd3,ib H,ib L,ib K,ib bu0,ib bu1,ib bv0,ib bv1,⟨⟩⟩ ⟨bd3,H,L,K,bu0,bu1,bv0,bv1,⟨⟩⟩ (irS (show 16777216*d3+(524288*h+(65536*l+(1*u0+(256*u1+(0)))))+0=x by omega) ix) (irS (show 16777216*d3+(524288*h+(65536*m+(1*v0+(256*v1+(0)))))+262144=y by omega) iy) w
  · have H : 0 ≤ h ∧ h ≤ 63 := by omega
    have L : 0 ≤ l ∧ l ≤ 1 := by omega
    have K : 0 ≤ m ∧ m ≤ 1 := by omega
    exact fin c rtl6_2_6 [(103,d3),(120,h),(121,l),(122,m),(100,u0),(101,u1),(110,v0),(111,v1)] ⟨ib bd3,ib H,ib L,ib K,ib bu0,ib bu1,ib bv0,ib bv1,⟨⟩⟩ ⟨bd3,H,L,K,bu0,bu1,bv0,bv1,⟨⟩⟩ (irS (show 16777216*d3+(262144*h+(65536*l+(1*u0+(256*u1+(0)))))+0=x by omega) ix) (irS (show 16777216*d3+(262144*h+(65536*m+(1*v0+(256*v1+(0)))))+131072=y by omega) iy) w
  · have H : 0 ≤ h ∧ h ≤ 127 := by omega
    exact fin c rtl6_2_7 [(103,d3),(120,h),(100,u0),(101,u1),(110,v0),(111,v1)] ⟨ib bd3,ib H,ib bu0,ib bu1,ib bv0,ib bv1,⟨⟩⟩ ⟨bd3,H,bu0,bu1,bv0,bv1,⟨⟩⟩ (irS (show 16777216*d3+(131072*h+(1*u0+(256*u1+(0))))+0=x by omega) ix) (irS (show 16777216*d3+(131072*h+(1*v0+(256*v1+(0))))+65536=y by omega) iy) w
theorem g6_2 {a0 a1 a2 a3 x y : Int} (c : Ctx a0 a1 a2 a3 x y) (ix : In x) (iy : In y) (d3 p q u0 u1 v0 v1 : Int) (bd3 : 64 ≤ d3 ∧ d3 ≤ 255) (bp : 0 ≤ p ∧ p ≤ 255) (bq : 0 ≤ q ∧ q ≤ 255) (bu0 : 0 ≤ u0 ∧ u0 ≤ 255) (bv0 : 0 ≤ v0 ∧ v0 ≤ 255) (bu1 : 0 ≤ u1 ∧ u1 ≤ 255) (bv1 : 0 ≤ v1 ∧ v1 ≤ 255) (hx : x = 1 * u0 + 256 * u1 + 65536 * p + 16777216 * d3) (hy : y = 1 * v0 + 256 * v1 + 65536 * q + 16777216 * d3) (hpq : q < p) (w : World) : G a0 a1 a2 a3 w := by
  rcases pairs q p (by omega) hpq (by omega) with ⟨h, l, m, h0, l0, l1, m0, m1, ep, eq⟩ | ⟨h, l, m, h0, l0, l1, m0, m1, ep, eq⟩ | ⟨h, l, m, h0, l0, l1, m0, m1, ep, eq⟩ | ⟨h, l, m, h0, l0, l1, m0, m1, ep, eq⟩ | ⟨h, l, m, h0, l0, l1, m0, m1, ep, eq⟩ | ⟨h, l, m, h0, l0, l1, m0, m1, ep, eq⟩ | ⟨h, l, m, h0, l0, l1, m0, m1, ep, eq⟩ | ⟨h, l, m, h0, l0, l1, m0, m1, ep, eq⟩
  · have L : 0 ≤ l ∧ l ≤ 127 := by omega
    have K : 0 ≤ m ∧ m ≤ 127 := by omega
    exact fin c rtg6_2_0 [(103,d3),(121,l),(122,m),(100,u0),(101,u1),(110,v0),(111,v1)] ⟨ib bd3,ib L,ib K,ib bu0,ib bu1,ib bv0,ib bv1,⟨⟩⟩ ⟨bd3,L,K,bu0,bu1,bv0,bv1,⟨⟩⟩ (irS (show 16777216*d3+(65536*m+(1*u0+(256*u1+(0))))+8388608=x by omega) ix) (irS (show 16777216*d3+(65536*l+(1*v0+(256*v1+(0))))+0=y by omega) iy) w
  · have H : 0 ≤ h ∧ h ≤ 1 := by omega
    have L : 0 ≤ l ∧ l ≤ 63 := by omega
    have K : 0 ≤ m ∧ m ≤ 63 := by omega
    exact fin c rtg6_2_1 [(103,d3),(120,h),(121,l),(122,m),(100,u0),(101,u1),(110,v0),(111,v1)] ⟨ib bd3,ib H,ib L,ib K,ib bu0,ib bu1,ib bv0,ib bv1,⟨⟩⟩ ⟨bd3,H,L,K,bu0,bu1,bv0,bv1,⟨⟩⟩ (irS (show 16777216*d3+(8388608*h+(65536*m+(1*u0+(256*u1+(0)))))+4194304=x by omega) ix) (irS (show 16777216*d3+(8388608*h+(65536*l+(1*v0+(256*v1+(0)))))+0=y by omega) iy) w
  · have H : 0 ≤ h ∧ h ≤ 3 := by omega
    have L : 0 ≤ l ∧ l ≤ 31 := by omega
    have K : 0 ≤ m ∧ m ≤ 31 := by omega
    exact fin c rtg6_2_2 [(103,d3),(120,h),(121,l),(122,m),(100,u0),(101,u1),(110,v0),(111,v1)] ⟨ib bd3,ib H,ib L,ib K,ib bu0,ib bu1,ib bv0,ib bv1,⟨⟩⟩ ⟨bd3,H,L,K,bu0,bu1,bv0,bv1,⟨⟩⟩ (irS (show 16777216*d3+(4194304*h+(65536*m+(1*u0+(256*u1+(0)))))+2097152=x by omega) ix) (irS (show 16777216*d3+(4194304*h+(65536*l+(1*v0+(256*v1+(0)))))+0=y by omega) iy) w
  · have H : 0 ≤ h ∧ h ≤ 7 := by omega
    have L : 0 ≤ l ∧ l ≤ 15 := by omega
    have K : 0 ≤ m ∧ m ≤ 15 := by omega
    exact fin c rtg6_2_3 [(103,d3),(120,h),(121,l),(122,m),(100,u0),(101,u1),(110,v0),(111,v1)] ⟨ib bd3,ib H,ib L,ib K,ib bu0,ib bu1,ib bv0,ib bv1,⟨⟩⟩ ⟨bd3,H,L,K,bu0,bu1,bv0,bv1,⟨⟩⟩ (irS (show 16777216*d3+(2097152*h+(65536*m+(1*u0+(256*u1+(0)))))+1048576=x by omega) ix) (irS (show 16777216*d3+(2097152*h+(65536*l+(1*v0+(256*v1+(0)))))+0=y by omega) iy) w
  · have H : 0 ≤ h ∧ h ≤ 15 := by omega
    have L : 0 ≤ l ∧ l ≤ 7 := by omega
    have K : 0 ≤ m ∧ m ≤ 7 := by omega
    exact fin c rtg6_2_4 [(103,d3),(120,h),(121,l),(122,m),(100,u0),(101,u1),(110,v0),(111,v1)] ⟨ib bd3,ib H,ib L,ib K,ib bu0,ib bu1,ib bv0,ib bv1,⟨⟩⟩ ⟨bd3,H,L,K,bu0,bu1,bv0,bv1,⟨⟩⟩ (irS (show 16777216*d3+(1048576*h+(65536*m+(1*u0+(256*u1+(0)))))+524288=x by omega) ix) (irS (show 16777216*d3+(1048576*h+(65536*l+(1*v0+(256*v1+(0)))))+0=y by omega) iy) w
  · have H : 0 ≤ h ∧ h ≤ 31 := by omega
    have L : 0 ≤ l ∧ l ≤ 3 := by omega
    have K : 0 ≤ m ∧ m ≤ 3 := by omega
    exact fin c rtg6_2_5 [(103,d3),(120,h),(121,l),(122,m),(100,u0),(101,u1),(110,v0),(111,v1)] ⟨ib bd3,ib H,ib L,ib K,ib bu0,ib bu1,ib bv0,ib bv1,⟨⟩⟩ ⟨bd3,H,L,K,bu0,bu1,bv0,bv1,⟨⟩⟩ (irS (show 16777216*d3+(524288*h+(65536*m+(1*u0+(256*u1+(0)))))+262144=x by omega) ix) (irS (show 16777216*d3+(524288*h+(65536*l+(1*v0+(256*v1+(0)))))+0=y by omega) iy) w
  · have H : 0 ≤ h ∧ h ≤ 63 := by omega
    have L : 0 ≤ l ∧ l ≤ 1 := by omega
    have K : 0 ≤ m ∧ m ≤ 1 := by omega
    exact fin c rtg6_2_6 [(103,d3),(120,h),(121,l),(122,m),(100,u0),(101,u1),(110,v0),(111,v1)] ⟨ib bd3,ib H,ib L,ib K,ib bu0,ib bu1,ib bv0,ib bv1,⟨⟩⟩ ⟨bd3,H,L,K,bu0,bu1,bv0,bv1,⟨⟩⟩ (irS (show 16777216*d3+(262144*h+(65536*m+(1*u0+(256*u1+(0)))))+131072=x by omega) ix) (irS (show 16777216*d3+(262144*h+(65536*l+(1*v0+(256*v1+(0)))))+0=y by omega) iy) w
  · have H : 0 ≤ h ∧ h ≤ 127 := by omega
    exact fin c rtg6_2_7 [(103,d3),(120,h),(100,u0),(101,u1),(110,v0),(111,v1)] ⟨ib bd3,ib H,ib bu0,ib bu1,ib bv0,ib bv1,⟨⟩⟩ ⟨bd3,H,bu0,bu1,bv0,bv1,⟨⟩⟩ (irS (show 16777216*d3+(131072*h+(1*u0+(256*u1+(0))))+65536=x by omega) ix) (irS (show 16777216*d3+(131072*h+(1*v0+(256*v1+(0))))+0=y by omega) iy) w
theorem l6_1 {a0 a1 a2 a3 x y : Int} (c : Ctx a0 a1 a2 a3 x y) (ix : In x) (iy : In y) (d2 d3 p q u0 v0 : Int) (bd2 : 0 ≤ d2 ∧ d2 ≤ 255) (bd3 : 64 ≤ d3 ∧ d3 ≤ 255) (bp : 0 ≤ p ∧ p ≤ 255) (bq : 0 ≤ q ∧ q ≤ 255) (bu0 : 0 ≤ u0 ∧ u0 ≤ 255) (bv0 : 0 ≤ v0 ∧ v0 ≤ 255) (hx : x = 1 * u0 + 256 * p + 65536 * d2 + 16777216 * d3) (hy : y = 1 * v0 + 256 * q + 65536 * d2 + 16777216 * d3) (hpq : p < q) (w : World) : G a0 a1 a2 a3 w := by
  rcases pairs p q (by omega) hpq (by omega) with ⟨h, l, m, h0, l0, l1, m0, m1, ep, eq⟩ | ⟨h, l, m, h0, l0, l1, m0, m1, ep, eq⟩ | ⟨h, l, m, h0, l0, l1, m0, m1, ep, eq⟩ | ⟨h, l, m, h0, l0, l1, m0, m1, ep, eq⟩ | ⟨h, l, m, h0, l0, l1, m0, m1, ep, eq⟩ | ⟨h, l, m, h0, l0, l1, m0, m1, ep, eq⟩ | ⟨h, l, m, h0, l0, l1, m0, m1, ep, eq⟩ | ⟨h, l, m, h0, l0, l1, m0, m1, ep, eq⟩
  · have L : 0 ≤ l ∧ l ≤ 127 := by omega
    have K : 0 ≤ m ∧ m ≤ 127 := by omega
    exact fin c rtl6_1_0 [(102,d2),(103,d3),(121,l),(122,m),(100,u0),(110,v0)] ⟨ib bd2,ib bd3,ib L,ib K,ib bu0,ib bv0,⟨⟩⟩ ⟨bd2,bd3,L,K,bu0,bv0,⟨⟩⟩ (irS (show 65536*d2+(16777216*d3+(256*l+(1*u0+(0))))+0=x by omega) ix) (irS (show 65536*d2+(16777216*d3+(256*m+(1*v0+(0))))+32768=y by omega) iy) w
  · have H : 0 ≤ h ∧ h ≤ 1 := by omega
    have L : 0 ≤ l ∧ l ≤ 63 := by omega
    have K : 0 ≤ m ∧ m ≤ 63 := by omega
    exact fin c rtl6_1_1 [(102,d2),(103,d3),(120,h),(121,l),(122,m),(100,u0),(110,v0)] ⟨ib bd2,ib bd3,ib H,ib L,ib K,ib bu0,ib bv0,⟨⟩⟩ ⟨bd2,bd3,H,L,K,bu0,bv0,⟨⟩⟩ (irS (show 65536*d2+(16777216*d3+(32768*h+(256*l+(1*u0+(0)))))+0=x by omega) ix) (irS (show 65536*d2+(16777216*d3+(32768*h+(256*m+(1*v0+(0)))))+16384=y by omega) iy) w
  · have H : 0 ≤ h ∧ h ≤ 3 := by omega
    have L : 0 ≤ l ∧ l ≤ 31 := by omega
    have K : 0 ≤ m ∧ m ≤ 31 := by omega
    exact fin c rtl6_1_2 [(102,d2),(103,d3),(120,h),(121,l),(122,m),(100,u0),(110,v0)] ⟨ib bd2,ib bd3,ib H,ib L,ib K,ib bu0,ib bv0,⟨⟩⟩ ⟨bd2,bd3,H,L,K,bu0,bv0,⟨⟩⟩ (irS (show 65536*d2+(16777216*d3+(16384*h+(256*l+(1*u0+(0)))))+0=x by omega) ix) (irS (show 65536*d2+(16777216*d3+(16384*h+(256*m+(1*v0+(0)))))+8192=y by omega) iy) w
  · have H : 0 ≤ h ∧ h ≤ 7 := by omega
    have L : 0 ≤ l ∧ l ≤ 15 := by omega
    have K : 0 ≤ m ∧ m ≤ 15 := by omega
    exact fin c rtl6_1_3 [(102,d2),(103,d3),(120,h),(121,l),(122,m),(100,u0),(110,v0)] ⟨ib bd2,ib bd3,ib H,ib L,ib K,ib bu0,ib bv0,⟨⟩⟩ ⟨bd2,bd3,H,L,K,bu0,bv0,⟨⟩⟩ (irS (show 65536*d2+(16777216*d3+(8192*h+(256*l+(1*u0+(0)))))+0=x by omega) ix) (irS (show 65536*d2+(16777216*d3+(8192*h+(256*m+(1*v0+(0)))))+4096=y by omega) iy) w
  · have H : 0 ≤ h ∧ h ≤ 15 := by omega
    have L : 0 ≤ l ∧ l ≤ 7 := by omega
    have K : 0 ≤ m ∧ m ≤ 7 := by omega
    exact fin c rtl6_1_4 [(102,d2),(103,d3),(120,h),(121,l),(122,m),(100,u0),(110,v0)] ⟨ib bd2,ib bd3,ib H,ib L,ib K,ib bu0,ib bv0,⟨⟩⟩ ⟨bd2,bd3,H,L,K,bu0,bv0,⟨⟩⟩ (irS (show 65536*d2+(16777216*d3+(4096*h+(256*l+(1*u0+(0)))))+0=x by omega) ix) (irS (show 65536*d2+(16777216*d3+(4096*h+(256*m+(1*v0+(0)))))+2048=y by omega) iy) w
  · have H : 0 ≤ h ∧ h ≤ 31 := by omega
    have L : 0 ≤ l ∧ l ≤ 3 := by omega
    have K : 0 ≤ m ∧ m ≤ 3 := by omega
    exact fin c rtl6_1_5 [(102,d2),(103,d3),(120,h),(121,l),(122,m),(100,u0),(110,v0)] ⟨ib bd2,ib bd3,ib H,ib L,ib K,ib bu0,ib bv0,⟨⟩⟩ ⟨bd2,bd3,H,L,K,bu0,bv0,⟨⟩⟩ (irS (show 65536*d2+(16777216*d3+(2048*h+(256*l+(1*u0+(0)))))+0=x by omega) ix) (irS (show 65536*d2+(16777216*d3+(2048*h+(256*m+(1*v0+(0)))))+1024=y by omega) iy) w
  · have H : 0 ≤ h ∧ h ≤ 63 := by omega
    have L : 0 ≤ l ∧ l ≤ 1 := by omega
    have K : 0 ≤ m ∧ m ≤ 1 := by omega
    exact fin c rtl6_1_6 [(102,d2),(103,d3),(120,h),(121,l),(122,m),(100,u0),(110,v0)] ⟨ib bd2,ib bd3,ib H,ib L,ib K,ib bu0,ib bv0,⟨⟩⟩ ⟨bd2,bd3,H,L,K,bu0,bv0,⟨⟩⟩ (irS (show 65536*d2+(16777216*d3+(1024*h+(256*l+(1*u0+(0)))))+0=x by omega) ix) (irS (show 65536*d2+(16777216*d3+(1024*h+(256*m+(1*v0+(0)))))+512=y by omega) iy) w
  · have H : 0 ≤ h ∧ h ≤ 127 := by omega
    exact fin c rtl6_1_7 [(102,d2),(103,d3),(120,h),(100,u0),(110,v0)] ⟨ib bd2,ib bd3,ib H,ib bu0,ib bv0,⟨⟩⟩ ⟨bd2,bd3,H,bu0,bv0,⟨⟩⟩ (irS (show 65536*d2+(16777216*d3+(512*h+(1*u0+(0))))+0=x by omega) ix) (irS (show 65536*d2+(16777216*d3+(512*h+(1*v0+(0))))+256=y by omega) iy) w
theorem g6_1 {a0 a1 a2 a3 x y : Int} (c : Ctx a0 a1 a2 a3 x y) (ix : In x) (iy : In y) (d2 d3 p q u0 v0 : Int) (bd2 : 0 ≤ d2 ∧ d2 ≤ 255) (bd3 : 64 ≤ d3 ∧ d3 ≤ 255) (bp : 0 ≤ p ∧ p ≤ 255) (bq : 0 ≤ q ∧ q ≤ 255) (bu0 : 0 ≤ u0 ∧ u0 ≤ 255) (bv0 : 0 ≤ v0 ∧ v0 ≤ 255) (hx : x = 1 * u0 + 256 * p + 65536 * d2 + 16777216 * d3) (hy : y = 1 * v0 + 256 * q + 65536 * d2 + 16777216 * d3) (hpq : q < p) (w : World) : G a0 a1 a2 a3 w := by
  rcases pairs q p (by omega) hpq (by omega) with ⟨h, l, m, h0, l0, l1, m0, m1, ep, eq⟩ | ⟨h, l, m, h0, l0, l1, m0, m1, ep, eq⟩ | ⟨h, l, m, h0, l0, l1, m0, m1, ep, eq⟩ | ⟨h, l, m, h0, l0, l1, m0, m1, ep, eq⟩ | ⟨h, l, m, h0, l0, l1, m0, m1, ep, eq⟩ | ⟨h, l, m, h0, l0, l1, m0, m1, ep, eq⟩ | ⟨h, l, m, h0, l0, l1, m0, m1, ep, eq⟩ | ⟨h, l, m, h0, l0, l1, m0, m1, ep, eq⟩
  · have L : 0 ≤ l ∧ l ≤ 127 := by omega
    have K : 0 ≤ m ∧ m ≤ 127 := by omega
    exact fin c rtg6_1_0 [(102,d2),(103,d3),(121,l),(122,m),(100,u0),(110,v0)] ⟨ib bd2,ib bd3,ib L,ib K,ib bu0,ib bv0,⟨⟩⟩ ⟨bd2,bd3,L,K,bu0,bv0,⟨⟩⟩ (irS (show 65536*d2+(16777216*d3+(256*m+(1*u0+(0))))+32768=x by omega) ix) (irS (show 65536*d2+(16777216*d3+(256*l+(1*v0+(0))))+0=y by omega) iy) w
  · have H : 0 ≤ h ∧ h ≤ 1 := by omega
    have L : 0 ≤ l ∧ l ≤ 63 := by omega
    have K : 0 ≤ m ∧ m ≤ 63 := by omega
    exact fin c rtg6_1_1 [(102,d2),(103,d3),(120,h),(121,l),(122,m),(100,u0),(110,v0)] ⟨ib bd2,ib bd3,ib H,ib L,ib K,ib bu0,ib bv0,⟨⟩⟩ ⟨bd2,bd3,H,L,K,bu0,bv0,⟨⟩⟩ (irS (show 65536*d2+(16777216*d3+(32768*h+(256*m+(1*u0+(0)))))+16384=x by omega) ix) (irS (show 65536*d2+(16777216*d3+(32768*h+(256*l+(1*v0+(0)))))+0=y by omega) iy) w
  · have H : 0 ≤ h ∧ h ≤ 3 := by omega
    have L : 0 ≤ l ∧ l ≤ 31 := by omega
    have K : 0 ≤ m ∧ m ≤ 31 := by omega
    exact fin c rtg6_1_2 [(102,d2),(103,d3),(120,h),(121,l),(122,m),(100,u0),(110,v0)] ⟨ib bd2,ib bd3,ib H,ib L,ib K,ib bu0,ib bv0,⟨⟩⟩ ⟨bd2,bd3,H,L,K,bu0,bv0,⟨⟩⟩ (irS (show 65536*d2+(16777216*d3+(16384*h+(256*m+(1*u0+(0)))))+8192=x by omega) ix) (irS (show 65536*d2+(16777216*d3+(16384*h+(256*l+(1*v0+(0)))))+0=y by omega) iy) w
  · have H : 0 ≤ h ∧ h ≤ 7 := by omega
    have L : 0 ≤ l ∧ l ≤ 15 := by omega
    have K : 0 ≤ m ∧ m ≤ 15 := by omega
    exact fin c rtg6_1_3 [(102,d2),(103,d3),(120,h),(121,l),(122,m),(100,u0),(110,v0)] ⟨ib bd2,ib bd3,ib H,ib L,ib K,ib bu0,ib bv0,⟨⟩⟩ ⟨bd2,bd3,H,L,K,bu0,bv0,⟨⟩⟩ (irS (show 65536*d2+(16777216*d3+(8192*h+(256*m+(1*u0+(0)))))+4096=x by omega) ix) (irS (show 65536*d2+(16777216*d3+(8192*h+(256*l+(1*v0+(0)))))+0=y by omega) iy) w
  · have H : 0 ≤ h ∧ h ≤ 15 := by omega
    have L : 0 ≤ l ∧ l ≤ 7 := by omega
    have K : 0 ≤ m ∧ m ≤ 7 := by omega
    exact fin c rtg6_1_4 [(102,d2),(103,d3),(120,h),(121,l),(122,m),(100,u0),(110,v0)] ⟨ib bd2,ib bd3,ib H,ib L,ib K,ib bu0,ib bv0,⟨⟩⟩ ⟨bd2,bd3,H,L,K,bu0,bv0,⟨⟩⟩ (irS (show 65536*d2+(16777216*d3+(4096*h+(256*m+(1*u0+(0)))))+2048=x by omega) ix) (irS (show 65536*d2+(16777216*d3+(4096*h+(256*l+(1*v0+(0)))))+0=y by omega) iy) w
  · have H : 0 ≤ h ∧ h ≤ 31 := by omega
    have L : 0 ≤ l ∧ l ≤ 3 := by omega
    have K : 0 ≤ m ∧ m ≤ 3 := by omega
    exact fin c rtg6_1_5 [(102,d2),(103,d3),(120,h),(121,l),(122,m),(100,u0),(110,v0)] ⟨ib bd2,ib bd3,ib H,ib L,ib K,ib bu0,ib bv0,⟨⟩⟩ ⟨bd2,bd3,H,L,K,bu0,bv0,⟨⟩⟩ (irS (show 65536*d2+(16777216*d3+(2048*h+(256*m+(1*u0+(0)))))+1024=x by omega) ix) (irS (show 65536*d2+(16777216*d3+(2048*h+(256*l+(1*v0+(0)))))+0=y by omega) iy) w
  · have H : 0 ≤ h ∧ h ≤ 63 := by omega
    have L : 0 ≤ l ∧ l ≤ 1 := by omega
    have K : 0 ≤ m ∧ m ≤ 1 := by omega
    exact fin c rtg6_1_6 [(102,d2),(103,d3),(120,h),(121,l),(122,m),(100,u0),(110,v0)] ⟨ib bd2,ib bd3,ib H,ib L,ib K,ib bu0,ib bv0,⟨⟩⟩ ⟨bd2,bd3,H,L,K,bu0,bv0,⟨⟩⟩ (irS (show 65536*d2+(16777216*d3+(1024*h+(256*m+(1*u0+(0)))))+512=x by omega) ix) (irS (show 65536*d2+(16777216*d3+(1024*h+(256*l+(1*v0+(0)))))+0=y by omega) iy) w
  · have H : 0 ≤ h ∧ h ≤ 127 := by omega
    exact fin c rtg6_1_7 [(102,d2),(103,d3),(120,h),(100,u0),(110,v0)] ⟨ib bd2,ib bd3,ib H,ib bu0,ib bv0,⟨⟩⟩ ⟨bd2,bd3,H,bu0,bv0,⟨⟩⟩ (irS (show 65536*d2+(16777216*d3+(512*h+(1*u0+(0))))+256=x by omega) ix) (irS (show 65536*d2+(16777216*d3+(512*h+(1*v0+(0))))+0=y by omega) iy) w
theorem l6_0 {a0 a1 a2 a3 x y : Int} (c : Ctx a0 a1 a2 a3 x y) (ix : In x) (iy : In y) (d1 d2 d3 p q : Int) (bd1 : 0 ≤ d1 ∧ d1 ≤ 255) (bd2 : 0 ≤ d2 ∧ d2 ≤ 255) (bd3 : 64 ≤ d3 ∧ d3 ≤ 255) (bp : 0 ≤ p ∧ p ≤ 255) (bq : 0 ≤ q ∧ q ≤ 255) (hx : x = 1 * p + 256 * d1 + 65536 * d2 + 16777216 * d3) (hy : y = 1 * q + 256 * d1 + 65536 * d2 + 16777216 * d3) (hpq : p < q) (w : World) : G a0 a1 a2 a3 w := by
  rcases pairs p q (by omega) hpq (by omega) with ⟨h, l, m, h0, l0, l1, m0, m1, ep, eq⟩ | ⟨h, l, m, h0, l0, l1, m0, m1, ep, eq⟩ | ⟨h, l, m, h0, l0, l1, m0, m1, ep, eq⟩ | ⟨h, l, m, h0, l0, l1, m0, m1, ep, eq⟩ | ⟨h, l, m, h0, l0, l1, m0, m1, ep, eq⟩ | ⟨h, l, m, h0, l0, l1, m0, m1, ep, eq⟩ | ⟨h, l, m, h0, l0, l1, m0, m1, ep, eq⟩ | ⟨h, l, m, h0, l0, l1, m0, m1, ep, eq⟩
  · have L : 0 ≤ l ∧ l ≤ 127 := by omega
    have K : 0 ≤ m ∧ m ≤ 127 := by omega
    exact fin c rtl6_0_0 [(101,d1),(102,d2),(103,d3),(121,l),(122,m)] ⟨ib bd1,ib bd2,ib bd3,ib L,ib K,⟨⟩⟩ ⟨bd1,bd2,bd3,L,K,⟨⟩⟩ (irS (show 256*d1+(65536*d2+(16777216*d3+(1*l+(0))))+0=x by omega) ix) (irS (show 256*d1+(65536*d2+(16777216*d3+(1*m+(0))))+128=y by omega) iy) w
  · have H : 0 ≤ h ∧ h ≤ 1 := by omega
    have L : 0 ≤ l ∧ l ≤ 63 := by omega
    have K : 0 ≤ m ∧ m ≤ 63 := by omega
    exact fin c rtl6_0_1 [(101,d1),(102,d2),(103,d3),(120,h),(121,l),(122,m)] ⟨ib bd1,ib bd2,ib bd3,ib H,ib L,ib K,⟨⟩⟩ ⟨bd1,bd2,bd3,H,L,K,⟨⟩⟩ (irS (show 256*d1+(65536*d2+(16777216*d3+(128*h+(1*l+(0)))))+0=x by omega) ix) (irS (show 256*d1+(65536*d2+(16777216*d3+(128*h+(1*m+(0)))))+64=y by omega) iy) w
  · have H : 0 ≤ h ∧ h ≤ 3 := by omega
    have L : 0 ≤ l ∧ l ≤ 31 := by omega
    have K : 0 ≤ m ∧ m ≤ 31 := by omega
    exact fin c rtl6_0_2 [(101,d1),(102,d2),(103,d3),(120,h),(121,l),(122,m)] ⟨ib bd1,ib bd2,ib bd3,ib H,ib L,ib K,⟨⟩⟩ ⟨bd1,bd2,bd3,H,L,K,⟨⟩⟩ (irS (show 256*d1+(65536*d2+(16777216*d3+(64*h+(1*l+(0)))))+0=x by omega) ix) (irS (show 256*d1+(65536*d2+(16777216*d3+(64*h+(1*m+(0)))))+32=y by omega) iy) w
  · have H : 0 ≤ h ∧ h ≤ 7 := by omega
    have L : 0 ≤ l ∧ l ≤ 15 := by omega
    have K : 0 ≤ m ∧ m ≤ 15 := by omega
    exact fin c rtl6_0_3 [(101,d1),(102,d2),(103,d3),(120,h),(121,l),(122,m)] ⟨ib bd1,ib bd2,ib bd3,ib H,ib L,ib K,⟨⟩⟩ ⟨bd1,bd2,bd3,H,L,K,⟨⟩⟩ (irS (show 256*d1+(65536*d2+(16777216*d3+(32*h+(1*l+(0)))))+0=x by omega) ix) (irS (show 256*d1+(65536*d2+(16777216*d3+(32*h+(1*m+(0)))))+16=y by omega) iy) w
  · have H : 0 ≤ h ∧ h ≤ 15 := by omega
    have L : 0 ≤ l ∧ l ≤ 7 := by omega
    have K : 0 ≤ m ∧ m ≤ 7 := by omega
    exact fin c rtl6_0_4 [(101,d1),(102,d2),(103,d3),(120,h),(121,l),(122,m)] ⟨ib bd1,ib bd2,ib bd3,ib H,ib L,ib K,⟨⟩⟩ ⟨bd1,bd2,bd3,H,L,K,⟨⟩⟩ (irS (show 256*d1+(65536*d2+(16777216*d3+(16*h+(1*l+(0)))))+0=x by omega) ix) (irS (show 256*d1+(65536*d2+(16777216*d3+(16*h+(1*m+(0)))))+8=y by omega) iy) w
  · have H : 0 ≤ h ∧ h ≤ 31 := by omega
    have L : 0 ≤ l ∧ l ≤ 3 := by omega
    have K : 0 ≤ m ∧ m ≤ 3 := by omega
    exact fin c rtl6_0_5 [(101,d1),(102,d2),(103,d3),(120,h),(121,l),(122,m)] ⟨ib bd1,ib bd2,ib bd3,ib H,ib L,ib K,⟨⟩⟩ ⟨bd1,bd2,bd3,H,L,K,⟨⟩⟩ (irS (show 256*d1+(65536*d2+(16777216*d3+(8*h+(1*l+(0)))))+0=x by omega) ix) (irS (show 256*d1+(65536*d2+(16777216*d3+(8*h+(1*m+(0)))))+4=y by omega) iy) w
  · have H : 0 ≤ h ∧ h ≤ 63 := by omega
    have L : 0 ≤ l ∧ l ≤ 1 := by omega
    have K : 0 ≤ m ∧ m ≤ 1 := by omega
    exact fin c rtl6_0_6 [(101,d1),(102,d2),(103,d3),(120,h),(121,l),(122,m)] ⟨ib bd1,ib bd2,ib bd3,ib H,ib L,ib K,⟨⟩⟩ ⟨bd1,bd2,bd3,H,L,K,⟨⟩⟩ (irS (show 256*d1+(65536*d2+(16777216*d3+(4*h+(1*l+(0)))))+0=x by omega) ix) (irS (show 256*d1+(65536*d2+(16777216*d3+(4*h+(1*m+(0)))))+2=y by omega) iy) w
  · have H : 0 ≤ h ∧ h ≤ 127 := by omega
    exact fin c rtl6_0_7 [(101,d1),(102,d2),(103,d3),(120,h)] ⟨ib bd1,ib bd2,ib bd3,ib H,⟨⟩⟩ ⟨bd1,bd2,bd3,H,⟨⟩⟩ (irS (show 256*d1+(65536*d2+(16777216*d3+(2*h+(0))))+0=x by omega) ix) (irS (show 256*d1+(65536*d2+(16777216*d3+(2*h+(0))))+1=y by omega) iy) w
theorem g6_0 {a0 a1 a2 a3 x y : Int} (c : Ctx a0 a1 a2 a3 x y) (ix : In x) (iy : In y) (d1 d2 d3 p q : Int) (bd1 : 0 ≤ d1 ∧ d1 ≤ 255) (bd2 : 0 ≤ d2 ∧ d2 ≤ 255) (bd3 : 64 ≤ d3 ∧ d3 ≤ 255) (bp : 0 ≤ p ∧ p ≤ 255) (bq : 0 ≤ q ∧ q ≤ 255) (hx : x = 1 * p + 256 * d1 + 65536 * d2 + 16777216 * d3) (hy : y = 1 * q + 256 * d1 + 65536 * d2 + 16777216 * d3) (hpq : q < p) (w : World) : G a0 a1 a2 a3 w := by
  rcases pairs q p (by omega) hpq (by omega) with ⟨h, l, m, h0, l0, l1, m0, m1, ep, eq⟩ | ⟨h, l, m, h0, l0, l1, m0, m1, ep, eq⟩ | ⟨h, l, m, h0, l0, l1, m0, m1, ep, eq⟩ | ⟨h, l, m, h0, l0, l1, m0, m1, ep, eq⟩ | ⟨h, l, m, h0, l0, l1, m0, m1, ep, eq⟩ | ⟨h, l, m, h0, l0, l1, m0, m1, ep, eq⟩ | ⟨h, l, m, h0, l0, l1, m0, m1, ep, eq⟩ | ⟨h, l, m, h0, l0, l1, m0, m1, ep, eq⟩
  · have L : 0 ≤ l ∧ l ≤ 127 := by omega
    have K : 0 ≤ m ∧ m ≤ 127 := by omega
    exact fin c rtg6_0_0 [(101,d1),(102,d2),(103,d3),(121,l),(122,m)] ⟨ib bd1,ib bd2,ib bd3,ib L,ib K,⟨⟩⟩ ⟨bd1,bd2,bd3,L,K,⟨⟩⟩ (irS (show 256*d1+(65536*d2+(16777216*d3+(1*m+(0))))+128=x by omega) ix) (irS (show 256*d1+(65536*d2+(16777216*d3+(1*l+(0))))+0=y by omega) iy) w
  · have H : 0 ≤ h ∧ h ≤ 1 := by omega
    have L : 0 ≤ l ∧ l ≤ 63 := by omega
    have K : 0 ≤ m ∧ m ≤ 63 := by omega
    exact fin c rtg6_0_1 [(101,d1),(102,d2),(103,d3),(120,h),(121,l),(122,m)] ⟨ib bd1,ib bd2,ib bd3,ib H,ib L,ib K,⟨⟩⟩ ⟨bd1,bd2,bd3,H,L,K,⟨⟩⟩ (irS (show 256*d1+(65536*d2+(16777216*d3+(128*h+(1*m+(0)))))+64=x by omega) ix) (irS (show 256*d1+(65536*d2+(16777216*d3+(128*h+(1*l+(0)))))+0=y by omega) iy) w
  · have H : 0 ≤ h ∧ h ≤ 3 := by omega
    have L : 0 ≤ l ∧ l ≤ 31 := by omega
    have K : 0 ≤ m ∧ m ≤ 31 := by omega
    exact fin c rtg6_0_2 [(101,d1),(102,d2),(103,d3),(120,h),(121,l),(122,m)] ⟨ib bd1,ib bd2,ib bd3,ib H,ib L,ib K,⟨⟩⟩ ⟨bd1,bd2,bd3,H,L,K,⟨⟩⟩ (irS (show 256*d1+(65536*d2+(16777216*d3+(64*h+(1*m+(0)))))+32=x by omega) ix) (irS (show 256*d1+(65536*d2+(16777216*d3+(64*h+(1*l+(0)))))+0=y by omega) iy) w
  · have H : 0 ≤ h ∧ h ≤ 7 := by omega
    have L : 0 ≤ l ∧ l ≤ 15 := by omega
    have K : 0 ≤ m ∧ m ≤ 15 := by omega
    exact fin c rtg6_0_3 [(101,d1),(102,d2),(103,d3),(120,h),(121,l),(122,m)] ⟨ib bd1,ib bd2,ib bd3,ib H,ib L,ib K,⟨⟩⟩ ⟨bd1,bd2,bd3,H,L,K,⟨⟩⟩ (irS (show 256*d1+(65536*d2+(16777216*d3+(32*h+(1*m+(0)))))+16=x by omega) ix) (irS (show 256*d1+(65536*d2+(16777216*d3+(32*h+(1*l+(0)))))+0=y by omega) iy) w
  · have H : 0 ≤ h ∧ h ≤ 15 := by omega
    have L : 0 ≤ l ∧ l ≤ 7 := by omega
    have K : 0 ≤ m ∧ m ≤ 7 := by omega
    exact fin c rtg6_0_4 [(101,d1),(102,d2),(103,d3),(120,h),(121,l),(122,m)] ⟨ib bd1,ib bd2,ib bd3,ib H,ib L,ib K,⟨⟩⟩ ⟨bd1,bd2,bd3,H,L,K,⟨⟩⟩ (irS (show 256*d1+(65536*d2+(16777216*d3+(16*h+(1*m+(0)))))+8=x by omega) ix) (irS (show 256*d1+(65536*d2+(16777216*d3+(16*h+(1*l+(0)))))+0=y by omega) iy) w
  · have H : 0 ≤ h ∧ h ≤ 31 := by omega
    have L : 0 ≤ l ∧ l ≤ 3 := by omega
    have K : 0 ≤ m ∧ m ≤ 3 := by omega
    exact fin c rtg6_0_5 [(101,d1),(102,d2),(103,d3),(120,h),(121,l),(122,m)] ⟨ib bd1,ib bd2,ib bd3,ib H,ib L,ib K,⟨⟩⟩ ⟨bd1,bd2,bd3,H,L,K,⟨⟩⟩ (irS (show 256*d1+(65536*d2+(16777216*d3+(8*h+(1*m+(0)))))+4=x by omega) ix) (irS (show 256*d1+(65536*d2+(16777216*d3+(8*h+(1*l+(0)))))+0=y by omega) iy) w
  · have H : 0 ≤ h ∧ h ≤ 63 := by omega
    have L : 0 ≤ l ∧ l ≤ 1 := by omega
    have K : 0 ≤ m ∧ m ≤ 1 := by omega
    exact fin c rtg6_0_6 [(101,d1),(102,d2),(103,d3),(120,h),(121,l),(122,m)] ⟨ib bd1,ib bd2,ib bd3,ib H,ib L,ib K,⟨⟩⟩ ⟨bd1,bd2,bd3,H,L,K,⟨⟩⟩ (irS (show 256*d1+(65536*d2+(16777216*d3+(4*h+(1*m+(0)))))+2=x by omega) ix) (irS (show 256*d1+(65536*d2+(16777216*d3+(4*h+(1*l+(0)))))+0=y by omega) iy) w
  · have H : 0 ≤ h ∧ h ≤ 127 := by omega
    exact fin c rtg6_0_7 [(101,d1),(102,d2),(103,d3),(120,h)] ⟨ib bd1,ib bd2,ib bd3,ib H,⟨⟩⟩ ⟨bd1,bd2,bd3,H,⟨⟩⟩ (irS (show 256*d1+(65536*d2+(16777216*d3+(2*h+(0))))+1=x by omega) ix) (irS (show 256*d1+(65536*d2+(16777216*d3+(2*h+(0))))+0=y by omega) iy) w
theorem e6 {a0 a1 a2 a3 x y : Int} (c : Ctx a0 a1 a2 a3 x y) (ix : In x) (iy : In y) (d0 d1 d2 d3 : Int) (bd0 : 0 ≤ d0 ∧ d0 ≤ 255) (bd1 : 0 ≤ d1 ∧ d1 ≤ 255) (bd2 : 0 ≤ d2 ∧ d2 ≤ 255) (bd3 : 64 ≤ d3 ∧ d3 ≤ 255) (hx : x = 1 * d0 + 256 * d1 + 65536 * d2 + 16777216 * d3) (hy : y = 1 * d0 + 256 * d1 + 65536 * d2 + 16777216 * d3) (w : World) : G a0 a1 a2 a3 w :=
  fin c rte6 [(100,d0),(101,d1),(102,d2),(103,d3)] ⟨ib bd0,ib bd1,ib bd2,ib bd3,⟨⟩⟩ ⟨bd0,bd1,bd2,bd3,⟨⟩⟩ (irS (show 1*d0+(256*d1+(65536*d2+(16777216*d3+(0))))+0=x by omega) ix) (irS (show 1*d0+(256*d1+(65536*d2+(16777216*d3+(0))))+0=y by omega) iy) w
theorem b6_6 {a0 a1 a2 a3 x y : Int} (c : Ctx a0 a1 a2 a3 x y) (ix : In x) (iy : In y) (hx : Cl6 x) (hy : Cl6 y) (w : World) : G a0 a1 a2 a3 w := by
  obtain ⟨d0, d1, d2, d3, bd0, bd1, bd2, bd3, hx⟩ := hx
  obtain ⟨f0, f1, f2, f3, bf0, bf1, bf2, bf3, hy⟩ := hy
  rcases Int.lt_trichotomy d3 f3 with hlt | he3 | hlt
  · exact l6_3 c ix iy d3 f3 d0 d1 d2 f0 f1 f2 bd3 bf3 bd0 bf0 bd1 bf1 bd2 bf2 hx hy hlt w
  rotate_left
  · exact g6_3 c ix iy d3 f3 d0 d1 d2 f0 f1 f2 bd3 bf3 bd0 bf0 bd1 bf1 bd2 bf2 hx hy hlt w
  subst he3
  rcases Int.lt_trichotomy d2 f2 with hlt | he2 | hlt
  · exact l6_2 c ix iy d3 d2 f2 d0 d1 f0 f1 bd3 bd2 bf2 bd0 bf0 bd1 bf1 hx hy hlt w
  rotate_left
  · exact g6_2 c ix iy d3 d2 f2 d0 d1 f0 f1 bd3 bd2 bf2 bd0 bf0 bd1 bf1 hx hy hlt w
  subst he2
  rcases Int.lt_trichotomy d1 f1 with hlt | he1 | hlt
  · exact l6_1 c ix iy d2 d3 d1 f1 d0 f0 bd2 bd3 bd1 bf1 bd0 bf0 hx hy hlt w
  rotate_left
  · exact g6_1 c ix iy d2 d3 d1 f1 d0 f0 bd2 bd3 bd1 bf1 bd0 bf0 hx hy hlt w
  subst he1
  rcases Int.lt_trichotomy d0 f0 with hlt | he0 | hlt
  · exact l6_0 c ix iy d1 d2 d3 d0 f0 bd1 bd2 bd3 bd0 bf0 hx hy hlt w
  rotate_left
  · exact g6_0 c ix iy d1 d2 d3 d0 f0 bd1 bd2 bd3 bd0 bf0 hx hy hlt w
  subst he0
  exact e6 c ix iy d0 d1 d2 d3 bd0 bd1 bd2 bd3 hx hy w
theorem b6_0 {a0 a1 a2 a3 x y : Int} (c : Ctx a0 a1 a2 a3 x y) (ix : In x) (iy : In y) (hx : Cl6 x) (hy : Cl0 y) (w : World) : G a0 a1 a2 a3 w := by
  obtain ⟨d0, d1, d2, d3, bd0, bd1, bd2, bd3, hx⟩ := hx
  obtain ⟨f0, bf0, hy⟩ := hy
  exact fin c rtx6_0 [(100,d0),(101,d1),(102,d2),(103,d3),(110,f0)] ⟨ib bd0,ib bd1,ib bd2,ib bd3,ib bf0,⟨⟩⟩ ⟨bd0,bd1,bd2,bd3,bf0,⟨⟩⟩ (irS (show 1*d0+(256*d1+(65536*d2+(16777216*d3+(0))))+0=x by omega) ix) (irS (show 1*f0+(0)+0=y by omega) iy) w
theorem b6_1 {a0 a1 a2 a3 x y : Int} (c : Ctx a0 a1 a2 a3 x y) (ix : In x) (iy : In y) (hx : Cl6 x) (hy : Cl1 y) (w : World) : G a0 a1 a2 a3 w := by
  obtain ⟨d0, d1, d2, d3, bd0, bd1, bd2, bd3, hx⟩ := hx
  obtain ⟨f0, bf0, hy⟩ := hy
  exact fin c rtx6_1 [(100,d0),(101,d1),(102,d2),(103,d3),(110,f0)] ⟨ib bd0,ib bd1,ib bd2,ib bd3,ib bf0,⟨⟩⟩ ⟨bd0,bd1,bd2,bd3,bf0,⟨⟩⟩ (irS (show 1*d0+(256*d1+(65536*d2+(16777216*d3+(0))))+0=x by omega) ix) (irS (show 1*f0+(0)+0=y by omega) iy) w
theorem b6_2 {a0 a1 a2 a3 x y : Int} (c : Ctx a0 a1 a2 a3 x y) (ix : In x) (iy : In y) (hx : Cl6 x) (hy : Cl2 y) (w : World) : G a0 a1 a2 a3 w := by
  obtain ⟨d0, d1, d2, d3, bd0, bd1, bd2, bd3, hx⟩ := hx
  obtain ⟨f0, f1, bf0, bf1, hy⟩ := hy
  exact fin c rtx6_2 [(100,d0),(101,d1),(102,d2),(103,d3),(110,f0),(111,f1)] ⟨ib bd0,ib bd1,ib bd2,ib bd3,ib bf0,ib bf1,⟨⟩⟩ ⟨bd0,bd1,bd2,bd3,bf0,bf1,⟨⟩⟩ (irS (show 1*d0+(256*d1+(65536*d2+(16777216*d3+(0))))+0=x by omega) ix) (irS (show 1*f0+(256*f1+(0))+0=y by omega) iy) w
theorem b6_3 {a0 a1 a2 a3 x y : Int} (c : Ctx a0 a1 a2 a3 x y) (ix : In x) (iy : In y) (hx : Cl6 x) (hy : Cl3 y) (w : World) : G a0 a1 a2 a3 w := by
  obtain ⟨d0, d1, d2, d3, bd0, bd1, bd2, bd3, hx⟩ := hx
  obtain ⟨f0, f1, bf0, bf1, hy⟩ := hy
  exact fin c rtx6_3 [(100,d0),(101,d1),(102,d2),(103,d3),(110,f0),(111,f1)] ⟨ib bd0,ib bd1,ib bd2,ib bd3,ib bf0,ib bf1,⟨⟩⟩ ⟨bd0,bd1,bd2,bd3,bf0,bf1,⟨⟩⟩ (irS (show 1*d0+(256*d1+(65536*d2+(16777216*d3+(0))))+0=x by omega) ix) (irS (show 1*f0+(256*f1+(0))+0=y by omega) iy) w
theorem b6_4 {a0 a1 a2 a3 x y : Int} (c : Ctx a0 a1 a2 a3 x y) (ix : In x) (iy : In y) (hx : Cl6 x) (hy : Cl4 y) (w : World) : G a0 a1 a2 a3 w := by
  obtain ⟨d0, d1, d2, d3, bd0, bd1, bd2, bd3, hx⟩ := hx
  obtain ⟨f0, f1, f2, bf0, bf1, bf2, hy⟩ := hy
  exact fin c rtx6_4 [(100,d0),(101,d1),(102,d2),(103,d3),(110,f0),(111,f1),(112,f2)] ⟨ib bd0,ib bd1,ib bd2,ib bd3,ib bf0,ib bf1,ib bf2,⟨⟩⟩ ⟨bd0,bd1,bd2,bd3,bf0,bf1,bf2,⟨⟩⟩ (irS (show 1*d0+(256*d1+(65536*d2+(16777216*d3+(0))))+0=x by omega) ix) (irS (show 1*f0+(256*f1+(65536*f2+(0)))+0=y by omega) iy) w
theorem b6_5 {a0 a1 a2 a3 x y : Int} (c : Ctx a0 a1 a2 a3 x y) (ix : In x) (iy : In y) (hx : Cl6 x) (hy : Cl5 y) (w : World) : G a0 a1 a2 a3 w := by
  obtain ⟨d0, d1, d2, d3, bd0, bd1, bd2, bd3, hx⟩ := hx
  obtain ⟨f0, f1, f2, f3, bf0, bf1, bf2, bf3, hy⟩ := hy
  exact fin c rtx6_5 [(100,d0),(101,d1),(102,d2),(103,d3),(110,f0),(111,f1),(112,f2),(113,f3)] ⟨ib bd0,ib bd1,ib bd2,ib bd3,ib bf0,ib bf1,ib bf2,ib bf3,⟨⟩⟩ ⟨bd0,bd1,bd2,bd3,bf0,bf1,bf2,bf3,⟨⟩⟩ (irS (show 1*d0+(256*d1+(65536*d2+(16777216*d3+(0))))+0=x by omega) ix) (irS (show 1*f0+(256*f1+(65536*f2+(16777216*f3+(0))))+0=y by omega) iy) w
theorem b6_7 {a0 a1 a2 a3 x y : Int} (c : Ctx a0 a1 a2 a3 x y) (ix : In x) (iy : In y) (hx : Cl6 x) (hy : Cl7 y) (w : World) : G a0 a1 a2 a3 w := by
  obtain ⟨d0, d1, d2, d3, bd0, bd1, bd2, bd3, hx⟩ := hx
  obtain ⟨f0, f1, f2, f3, f4, bf0, bf1, bf2, bf3, bf4, hy⟩ := hy
  exact fin c rtx6_7 [(100,d0),(101,d1),(102,d2),(103,d3),(110,f0),(111,f1),(112,f2),(113,f3),(114,f4)] ⟨ib bd0,ib bd1,ib bd2,ib bd3,ib bf0,ib bf1,ib bf2,ib bf3,ib bf4,⟨⟩⟩ ⟨bd0,bd1,bd2,bd3,bf0,bf1,bf2,bf3,bf4,⟨⟩⟩ (irS (show 1*d0+(256*d1+(65536*d2+(16777216*d3+(0))))+0=x by omega) ix) (irS (show 1*f0+(256*f1+(65536*f2+(16777216*f3+(4294967296*f4+(0)))))+0=y by omega) iy) w
theorem b6_8 {a0 a1 a2 a3 x y : Int} (c : Ctx a0 a1 a2 a3 x y) (ix : In x) (iy : In y) (hx : Cl6 x) (hy : Cl8 y) (w : World) : G a0 a1 a2 a3 w := by
  obtain ⟨d0, d1, d2, d3, bd0, bd1, bd2, bd3, hx⟩ := hx
  obtain ⟨f0, f1, f2, f3, f4, f5, bf0, bf1, bf2, bf3, bf4, bf5, hy⟩ := hy
  exact fin c rtx6_8 [(100,d0),(101,d1),(102,d2),(103,d3),(110,f0),(111,f1),(112,f2),(113,f3),(114,f4),(115,f5)] ⟨ib bd0,ib bd1,ib bd2,ib bd3,ib bf0,ib bf1,ib bf2,ib bf3,ib bf4,ib bf5,⟨⟩⟩ ⟨bd0,bd1,bd2,bd3,bf0,bf1,bf2,bf3,bf4,bf5,⟨⟩⟩ (irS (show 1*d0+(256*d1+(65536*d2+(16777216*d3+(0))))+0=x by omega) ix) (irS (show 1*f0+(256*f1+(65536*f2+(16777216*f3+(4294967296*f4+(1099511627776*f5+(0))))))+0=y by omega) iy) w
theorem b6_9 {a0 a1 a2 a3 x y : Int} (c : Ctx a0 a1 a2 a3 x y) (ix : In x) (iy : In y) (hx : Cl6 x) (hy : Cl9 y) (w : World) : G a0 a1 a2 a3 w := by
  obtain ⟨d0, d1, d2, d3, bd0, bd1, bd2, bd3, hx⟩ := hx
  obtain ⟨f0, f1, f2, f3, f4, f5, f6, bf0, bf1, bf2, bf3, bf4, bf5, bf6, hy⟩ := hy
  exact fin c rtx6_9 [(100,d0),(101,d1),(102,d2),(103,d3),(110,f0),(111,f1),(112,f2),(113,f3),(114,f4),(115,f5),(116,f6)] ⟨ib bd0,ib bd1,ib bd2,ib bd3,ib bf0,ib bf1,ib bf2,ib bf3,ib bf4,ib bf5,ib bf6,⟨⟩⟩ ⟨bd0,bd1,bd2,bd3,bf0,bf1,bf2,bf3,bf4,bf5,bf6,⟨⟩⟩ (irS (show 1*d0+(256*d1+(65536*d2+(16777216*d3+(0))))+0=x by omega) ix) (irS (show 1*f0+(256*f1+(65536*f2+(16777216*f3+(4294967296*f4+(1099511627776*f5+(281474976710656*f6+(0)))))))+0=y by omega) iy) w
theorem b6_10 {a0 a1 a2 a3 x y : Int} (c : Ctx a0 a1 a2 a3 x y) (ix : In x) (iy : In y) (hx : Cl6 x) (hy : Cl10 y) (w : World) : G a0 a1 a2 a3 w := by
  obtain ⟨d0, d1, d2, d3, bd0, bd1, bd2, bd3, hx⟩ := hx
  obtain ⟨f0, f1, f2, f3, f4, f5, f6, f7, bf0, bf1, bf2, bf3, bf4, bf5, bf6, bf7, hy⟩ := hy
  exact fin c rtx6_10 [(100,d0),(101,d1),(102,d2),(103,d3),(110,f0),(111,f1),(112,f2),(113,f3),(114,f4),(115,f5),(116,f6),(117,f7)] ⟨ib bd0,ib bd1,ib bd2,ib bd3,ib bf0,ib bf1,ib bf2,ib bf3,ib bf4,ib bf5,ib bf6,ib bf7,⟨⟩⟩ ⟨bd0,bd1,bd2,bd3,bf0,bf1,bf2,bf3,bf4,bf5,bf6,bf7,⟨⟩⟩ (irS (show 1*d0+(256*d1+(65536*d2+(16777216*d3+(0))))+0=x by omega) ix) (irS (show 1*f0+(256*f1+(65536*f2+(16777216*f3+(4294967296*f4+(1099511627776*f5+(281474976710656*f6+(72057594037927936*f7+(0))))))))+0=y by omega) iy) w
end Go.Proofs.Ytmbimlnanfholaa.vintOrderRun
