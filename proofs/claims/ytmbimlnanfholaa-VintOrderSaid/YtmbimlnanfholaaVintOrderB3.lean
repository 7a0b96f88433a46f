/- VintOrder, by the digits of two numbers. -/
import Derived.Test.YtmbimlnanfholaaVintOrderCore
import Derived.Test.YtmbimlnanfholaaVintOrderRun0
import Derived.Test.YtmbimlnanfholaaVintOrderRun1
import Derived.Test.YtmbimlnanfholaaVintOrderRun2
namespace Go.Proofs.Ytmbimlnanfholaa.vintOrderRun
open Go.Vm Go.RowKit
set_option linter.unusedVariables false
set_option linter.unusedSimpArgs false
set_option maxRecDepth 1000000
theorem l7_4 {a0 a1 a2 a3 x y : Int} (c : Ctx a0 a1 a2 a3 x y) (ix : In x) (iy : In y) (p q u0 u1 u2 u3 v0 v1 v2 v3 : Int) (bp : 1 ≤ p ∧ p ≤ 255) (bq : 1 ≤ q ∧ q ≤ 255) (bu0 : 0 ≤ u0 ∧ u0 ≤ 255) (bv0 : 0 ≤ v0 ∧ v0 ≤ 255) (bu1 : 0 ≤ u1 ∧ u1 ≤ 255) (bv1 : 0 ≤ v1 ∧ v1 ≤ 255) (bu2 : 0 ≤ u2 ∧ u2 ≤ 255) (bv2 : 0 ≤ v2 ∧ v2 ≤ 255) (bu3 : 0 ≤ u3 ∧ u3 ≤ 255) (bv3 : 0 ≤ v3 ∧ v3 ≤ 255) (hx : x = 1 * u0 + 256 * u1 + 65536 * u2 + 16777216 * u3 + 4294967296 * p) (hy : y = 1 * v0 + 256 * v1 + 65536 * v2 + 16777216 * v3 + 4294967296 * q) (hpq : p < q) (w : World) : G a0 a1 a2 a3 w := by
  rcases pairs p q (by omega) hpq (by omega) with ⟨h, l, m, h0, l0, l1, m0, m1, ep, eq⟩ | ⟨h, l, m, h0, l0, l1, m0, m1, ep, eq⟩ | ⟨h, l, m, h0, l0, l1, m0, m1, ep, eq⟩ | ⟨h, l, m, h0, l0, l1, m0, m1, ep, eq⟩ | ⟨h, l, m, h0, l0, l1, m0, m1, ep, eq⟩ | ⟨h, l, m, h0, l0, l1, m0, m1, ep, eq⟩ | ⟨h, l, m, h0, l0, l1, m0, m1, ep, eq⟩ | ⟨h, l, m, h0, l0, l1, m0, m1, ep, eq⟩
  · have L : 1 ≤ l ∧ l ≤ 127 := by omega
    have K : 0 ≤ m ∧ m ≤ 127 := by omega
    exact fin c rtl7_4_0 [(121,l),(122,m),(100,u0),(101,u1),(102,u2),(103,u3),(110,v0),(111,v1),(112,v2),(113,v3)] ⟨ib L,ib K,ib bu0,ib bu1,ib bu2,ib bu3,ib bv0,ib bv1,ib bv2,ib bv3,⟨⟩⟩ ⟨L,K,bu0,bu1,bu2,bu3,bv0,bv1,bv2,bv3,⟨⟩⟩ (irS (show 4294967296*l+(1*u0+(256*u1+(65536*u2+(16777216*u3+(0)))))+0=x by omega) ix) (irS (show 4294967296*m+(1*v0+(256*v1+(65536*v2+(16777216*v3+(0)))))+549755813888=y by omega) iy) w
  · by_cases hh : 1 ≤ h
    · have H : 1 ≤ h ∧ h ≤ 1 := by omega
      have L : 0 ≤ l ∧ l ≤ 63 := by omega
      have K : 0 ≤ m ∧ m ≤ 63 := by omega
      exact fin c rtl7_4_1 [(120,h),(121,l),(122,m),(100,u0),(101,u1),(102,u2),(103,u3),(110,v0),(111,v1),(112,v2),(113,v3)] ⟨ib H,ib L,ib K,ib bu0,ib bu1,ib bu2,ib bu3,ib bv0,ib bv1,ib bv2,ib bv3,⟨⟩⟩ ⟨H,L,K,bu0,bu1,bu2,bu3,bv0,bv1,bv2,bv3,⟨⟩⟩ (irS (show 549755813888*h+(4294967296*l+(1*u0+(256*u1+(65536*u2+(16777216*u3+(0))))))+0=x by omega) ix) (irS (show 549755813888*h+(4294967296*m+(1*v0+(256*v1+(65536*v2+(16777216*v3+(0))))))+274877906944=y by omega) iy) w
    · have L : 1 ≤ l ∧ l ≤ 63 := by omega
      have K : 0 ≤ m ∧ m ≤ 63 := by omega
      exact fin c rtl7_4_2 [(121,l),(122,m),(100,u0),(101,u1),(102,u2),(103,u3),(110,v0),(111,v1),(112,v2),(113,v3)] ⟨ib L,ib K,ib bu0,ib bu1,ib bu2,ib bu3,ib bv0,ib bv1,ib bv2,ib bv3,⟨⟩⟩ ⟨L,K,bu0,bu1,bu2,bu3,bv0,bv1,bv2,bv3,⟨⟩⟩ (irS (show 4294967296*l+(1*u0+(256*u1+(65536*u2+(16777216*u3+(0)))))+0=x by omega) ix) (irS (show 4294967296*m+(1*v0+(256*v1+(65536*v2+(16777216*v3+(0)))))+274877906944=y by omega) iy) w
  · by_cases hh : 1 ≤ h
    · have H : 1 ≤ h ∧ h ≤ 3 := by omega
      have L : 0 ≤ l ∧ l ≤ 31 := by omega
      have K : 0 ≤ m ∧ m ≤ 31 := by omega
      exact fin c rtl7_4_3 [(120,h),(121,l),(122,m),(100,u0),(101,u1),(102,u2),(103,u3),(110,v0),(111,v1),(112,v2),(113,v3)] ⟨ib H,ib L,ib K,ib bu0,ib bu1,ib bu2,ib bu3,ib bv0,ib bv1,ib bv2,ib bv3,⟨⟩⟩ ⟨H,L,K,bu0,bu1,bu2,bu3,bv0,bv1,bv2,bv3,⟨⟩⟩ (irS (show 274877906944*h+(4294967296*l+(1*u0+(256*u1+(65536*u2+(16777216*u3+(0))))))+0=x by omega) ix) (irS (show 274877906944*h+(4294967296*m+(1*v0+(256*v1+(65536*v2+(16777216*v3+(0))))))+137438953472=y by omega) iy) w
    · have L : 1 ≤ l ∧ l ≤ 31 := by omega
      have K : 0 ≤ m ∧ m ≤ 31 := by omega
      exact fin c rtl7_4_4 [(121,l),(122,m),(100,u0),(101,u1),(102,u2),(103,u3),(110,v0),(111,v1),(112,v2),(113,v3)] ⟨ib L,ib K,ib bu0,ib bu1,ib bu2,ib bu3,ib bv0,ib bv1,ib bv2,ib bv3,⟨⟩⟩ ⟨L,K,bu0,bu1,bu2,bu3,bv0,bv1,bv2,bv3,⟨⟩⟩ (irS (show 4294967296*l+(1*u0+(256*u1+(65536*u2+(16777216*u3+(0)))))+0=x by omega) ix) (irS (show 4294967296*m+(1*v0+(256*v1+(65536*v2+(16777216*v3+(0)))))+137438953472=y by omega) iy) w
  · by_cases hh : 1 ≤ h
    · have H : 1 ≤ h ∧ h ≤ 7 := by omega
      have L : 0 ≤ l ∧ l ≤ 15 := by omega
      have K : 0 ≤ m ∧ m ≤ 15 := by omega
      exact fin c rtl7_4_5 [(120,h),(121,l),(122,m),(100,u0),(101,u1),(102,u2),(103,u3),(110,v0),(111,v1),(112,v2),(113,v3)] ⟨ib H,ib L,ib K,ib bu0,ib bu1,ib bu2,ib bu3,ib bv0,ib bv1,ib bv2,ib bv3,⟨⟩⟩ ⟨H,L,K,bu0,bu1,bu2,bu3,bv0,bv1,bv2,bv3,⟨⟩⟩ (irS (show 137438953472*h+(4294967296*l+(1*u0+(256*u1+(65536*u2+(16777216*u3+(0))))))+0=x by omega) ix) (irS (show 137438953472*h+(4294967296*m+(1*v0+(256*v1+(65536*v2+(16777216*v3+(0))))))+68719476736=y by omega) iy) w
    · have L : 1 ≤ l ∧ l ≤ 15 := by omega
      have K : 0 ≤ m ∧ m ≤ 15 := by omega
      exact fin c rtl7_4_6 [(121,l),(122,m),(100,u0),(101,u1),(102,u2),(103,u3),(110,v0),(111,v1),(112,v2),(113,v3)] ⟨ib L,ib K,ib bu0,ib bu1,ib bu2,ib bu3,ib bv0,ib bv1,ib bv2,ib bv3,⟨⟩⟩ ⟨L,K,bu0,bu1,bu2,bu3,bv0,bv1,bv2,bv3,⟨⟩⟩ (irS (show 4294967296*l+(1*u0+(256*u1+(65536*u2+(16777216*u3+(0)))))+0=x by omega) ix) (irS (show 4294967296*m+(1*v0+(256*v1+(65536*v2+(16777216*v3+(0)))))+68719476736=y by omega) iy) w
  · by_cases hh : 1 ≤ h
    · have H : 1 ≤ h ∧ h ≤ 15 := by omega
      have L : 0 ≤ l ∧ l ≤ 7 := by omega
      have K : 0 ≤ m ∧ m ≤ 7 := by omega
      exact fin c rtl7_4_7 [(120,h),(121,l),(122,m),(100,u0),(101,u1),(102,u2),(103,u3),(110,v0),(111,v1),(112,v2),(113,v3)] ⟨ib H,ib L,ib K,ib bu0,ib bu1,ib bu2,ib bu3,ib bv0,ib bv1,ib bv2,ib bv3,⟨⟩⟩ ⟨H,L,K,bu0,bu1,bu2,bu3,bv0,bv1,bv2,bv3,⟨⟩⟩ (irS (show 68719476736*h+(4294967296*l+(1*u0+(256*u1+(65536*u2+(16777216*u3+(0))))))+0=x by omega) ix) (irS (show 68719476736*h+(4294967296*m+(1*v0+(256*v1+(65536*v2+(16777216*v3+(0))))))+34359738368=y by omega) iy) w
    · have L : 1 ≤ l ∧ l ≤ 7 := by omega
      have K : 0 ≤ m ∧ m ≤ 7 := by omega
      exact fin c rtl7_4_8 [(121,l),(122,m),(100,u0),(101,u1),(102,u2),(103,u3),(110,v0),(111,v1),(112,v2),(113,v3)] ⟨ib L,ib K,ib bu0,ib bu1,ib bu2,ib bu3,ib bv0,ib bv1,ib bv2,ib bv3,⟨⟩⟩ ⟨L,K,bu0,bu1,bu2,bu3,bv0,bv1,bv2,bv3,⟨⟩⟩ (irS (show 4294967296*l+(1*u0+(256*u1+(65536*u2+(16777216*u3+(0)))))+0=x by omega) ix) (irS (show 4294967296*m+(1*v0+(256*v1+(65536*v2+(16777216*v3+(0)))))+34359738368=y by omega) iy) w
  · by_cases hh : 1 ≤ h
    · have H : 1 ≤ h ∧ h ≤ 31 := by omega
      have L : 0 ≤ l ∧ l ≤ 3 := by omega
      have K : 0 ≤ m ∧ m ≤ 3 := by omega
      exact fin c rtl7_4_9 [(120,h),(121,l),(122,m),(100,u0),(101,u1),(102,u2),(103,u3),(110,v0),(111,v1),(112,v2),(113,v3)] ⟨ib H,ib L,ib K,ib bu0,ib bu1,ib bu2,ib bu3,ib bv0,ib bv1,ib bv2,ib bv3,⟨⟩⟩ ⟨H,L,K,bu0,bu1,bu2,bu3,bv0,bv1,bv2,bv3,⟨⟩⟩ (irS (show 34359738368*h+(4294967296*l+(1*u0+(256*u1+(65536*u2+(16777216*u3+(0))))))+0=x by omega) ix) (irS (show 34359738368*h+(4294967296*m+(1*v0+(256*v1+(65536*v2+(16777216*v3+(0))))))+17179869184=y by omega) iy) w
    · have L : 1 ≤ l ∧ l ≤ 3 := by omega
      have K : 0 ≤ m ∧ m ≤ 3 := by omega
      exact fin c rtl7_4_10 [(121,l),(122,m),(100,u0),(101,u1),(102,u2),(103,u3),(110,v0),(111,v1),(112,v2),(113,v3)] ⟨ib L,ib K,ib bu0,ib bu1,ib bu2,ib bu3,ib bv0,ib bv1,ib bv2,ib bv3,⟨⟩⟩ ⟨L,K,bu0,bu1,bu2,bu3,bv0,bv1,bv2,bv3,⟨⟩⟩ (irS (show 4294967296*l+(1*u0+(256*u1+(65536*u2+(16777216*u3+(0)))))+0=x by omega) ix) (irS (show 4294967296*m+(1*v0+(256*v1+(65536*v2+(16777216*v3+(0)))))+17179869184=y by omega) iy) w
  · by_cases hh : 1 ≤ h
    · have H : 1 ≤ h ∧ h ≤ 63 := by omega
      have L : 0 ≤ l ∧ l ≤ 1 := by omega
      have K : 0 ≤ m ∧ m ≤ 1 := by omega
      exact fin c rtl7_4_11 [(120,h),(121,l),(122,m),(100,u0),(101,u1),(102,u2),(103,u3),(110,v0),(111,v1),(112,v2),(113,v3)] ⟨ib H,ib L,ib K,ib bu0,ib bu1,ib bu2,ib bu3,ib bv0,ib bv1,ib bv2,ib bv3,⟨⟩⟩ ⟨H,L,K,bu0,bu1,bu2,bu3,bv0,bv1,bv2,bv3,⟨⟩⟩ (irS (show 17179869184*h+(4294967296*l+(1*u0+(256*u1+(65536*u2+(16777216*u3+(0))))))+0=x by omega) ix) (irS (show 17179869184*h+(4294967296*m+(1*v0+(256*v1+(65536*v2+(16777216*v3+(0))))))+8589934592=y by omega) iy) w
    · have L : 1 ≤ l ∧ l ≤ 1 := by omega
      have K : 0 ≤ m ∧ m ≤ 1 := by omega
      exact fin c rtl7_4_12 [(121,l),(122,m),(100,u0),(101,u1),(102,u2),(103,u3),(110,v0),(111,v1),(112,v2),(113,v3)] ⟨ib L,ib K,ib bu0,ib bu1,ib bu2,ib bu3,ib bv0,ib bv1,ib bv2,ib bv3,⟨⟩⟩ ⟨L,K,bu0,bu1,bu2,bu3,bv0,bv1,bv2,bv3,⟨⟩⟩ (irS (show 4294967296*l+(1*u0+(256*u1+(65536*u2+(16777216*u3+(0)))))+0=x by omega) ix) (irS (show 4294967296*m+(1*v0+(256*v1+(65536*v2+(16777216*v3+(0)))))+8589934592=y by omega) iy) w
  · have H : 1 ≤ h ∧ h ≤ 127 := by omega
    exact fin c rtl7_4_13 [(120,h),(100,u0),(101,u1),(102,u2),(103,u3),(110,v0),(111,v1),(112,v2),(113,v3)] ⟨ib H,ib bu0,ib bu1,ib bu2,ib bu3,ib bv0,ib bv1,ib bv2,ib bv3,⟨⟩⟩ ⟨H,bu0,bu1,bu2,bu3,bv0,bv1,bv2,bv3,⟨⟩⟩ (irS (show 8589934592*h+(1*u0+(256*u1+(65536*u2+(16777216*u3+(0)))))+0=x by omega) ix) (irS (show 8589934592*h+(1*v0+(256*v1+(65536*v2+(16777216*v3+(0)))))+4294967296=y by omega) iy) w
theorem g7_4 {a0 a1 a2 a3 x y : Int} (c : Ctx a0 a1 a2 a3 x y) (ix : In x) (iy : In y) (p q u0 u1 u2 u3 v0 v1 v2 v3 : Int) (bp : 1 ≤ p ∧ p ≤ 255) (bq : 1 ≤ q ∧ q ≤ 255) (bu0 : 0 ≤ u0 ∧ u0 ≤ 255) (bv0 : 0 ≤ v0 ∧ v0 ≤ 255) (bu1 : 0 ≤ u1 ∧ u1 ≤ 255) (bv1 : 0 ≤ v1 ∧ v1 ≤ 255) (bu2 : 0 ≤ u2 ∧ u2 ≤ 255) (bv2 : 0 ≤ v2 ∧ v2 ≤ 255) (bu3 : 0 ≤ u3 ∧ u3 ≤ 255) (bv3 : 0 ≤ v3 ∧ v3 ≤ 255) (hx : x = 1 * u0 + 256 * u1 + 65536 * u2 + 16777216 * u3 + 4294967296 * p) (hy : y = 1 * v0 + 256 * v1 + 65536 * v2 + 16777216 * v3 + 4294967296 * q) (hpq : q < p) (w : World) : G a0 a1 a2 a3 w := by
  rcases pairs q p (by omega) hpq (by omega) with ⟨h, l, m, h0, l0, l1, m0, m1, ep, eq⟩ | ⟨h, l, m, h0, l0, l1, m0, m1, ep, eq⟩ | ⟨h, l, m, h0, l0, l1, m0, m1, ep, eq⟩ | ⟨h, l, m, h0, l0, l1, m0, m1, ep, eq⟩ | ⟨h, l, m, h0, l0, l1, m0, m1, ep, eq⟩ | ⟨h, l, m, h0, l0, l1, m0, m1, ep, eq⟩ | ⟨h, l, m, h0, l0, l1, m0, m1, ep, eq⟩ | ⟨h, l, m, h0, l0, l1, m0, m1, ep, eq⟩
  · have L : 1 ≤ l ∧ l ≤ 127 := by omega
    have K : 0 ≤ m ∧ m ≤ 127 := by omega
    exact fin c rtg7_4_0 [(121,l),(122,m),(100,u0),(101,u1),(102,u2),(103,u3),(110,v0),(111,v1),(112,v2),(113,v3)] ⟨ib L,ib K,ib bu0,ib bu1,ib bu2,ib bu3,ib bv0,ib bv1,ib bv2,ib bv3,⟨⟩⟩ ⟨L,K,bu0,bu1,bu2,bu3,bv0,bv1,bv2,bv3,⟨⟩⟩ (irS (show 4294967296*m+(1*u0+(256*u1+(65536*u2+(16777216*u3+(0)))))+549755813888=x by omega) ix) (irS (show 4294967296*l+(1*v0+(256*v1+(65536*v2+(16777216*v3+(0)))))+0=y by omega) iy) w
  · by_cases hh : 1 ≤ h
    · have H : 1 ≤ h ∧ h ≤ 1 := by omega
      have L : 0 ≤ l ∧ l ≤ 63 := by omega
      have K : 0 ≤ m ∧ m ≤ 63 := by omega
      exact fin c rtg7_4_1 [(120,h),(121,l),(122,m),(100,u0),(101,u1),(102,u2),(103,u3),(110,v0),(111,v1),(112,v2),(113,v3)] ⟨ib H,ib L,ib K,ib bu0,ib bu1,ib bu2,ib bu3,ib bv0,ib bv1,ib bv2,ib bv3,⟨⟩⟩ ⟨H,L,K,bu0,bu1,bu2,bu3,bv0,bv1,bv2,bv3,⟨⟩⟩ (irS (show 549755813888*h+(4294967296*m+(1*u0+(256*u1+(65536*u2+(16777216*u3+(0))))))+274877906944=x by omega) ix) (irS (show 549755813888*h+(4294967296*l+(1*v0+(256*v1+(65536*v2+(16777216*v3+(0))))))+0=y by omega) iy) w
    · have L : 1 ≤ l ∧ l ≤ 63 := by omega
      have K : 0 ≤ m ∧ m ≤ 63 := by omega
      exact fin c rtg7_4_2 [(121,l),(122,m),(100,u0),(101,u1),(102,u2),(103,u3),(110,v0),(111,v1),(112,v2),(113,v3)] ⟨ib L,ib K,ib bu0,ib bu1,ib bu2,ib bu3,ib bv0,ib bv1,ib bv2,ib bv3,⟨⟩⟩ ⟨L,K,bu0,bu1,bu2,bu3,bv0,bv1,bv2,bv3,⟨⟩⟩ (irS (show 4294967296*m+(1*u0+(256*u1+(65536*u2+(16777216*u3+(0)))))+274877906944=x by omega) ix) (irS (show 4294967296*l+(1*v0+(256*v1+(65536*v2+(16777216*v3+(0)))))+0=y by omega) iy) w
  · by_cases hh : 1 ≤ h
    · have H : 1 ≤ h ∧ h ≤ 3 := by omega
      have L : 0 ≤ l ∧ l ≤ 31 := by omega
      have K : 0 ≤ m ∧ m ≤ 31 := by omega
      exact fin c rtg7_4_3 [(120,h),(121,l),(122,m),(100,u0),(101,u1),(102,u2),(103,u3),(110,v0),(111,v1),(112,v2),(113,v3)] ⟨ib H,ib L,ib K,ib bu0,ib bu1,ib bu2,ib bu3,ib bv0,ib bv1,ib bv2,ib bv3,⟨⟩⟩ ⟨H,L,K,bu0,bu1,bu2,bu3,bv0,bv1,bv2,bv3,⟨⟩⟩ (irS (show 274877906944*h+(4294967296*m+(1*u0+(256*u1+(65536*u2+(16777216*u3+(0))))))+137438953472=x by omega) ix) (irS (show 274877906944*h+(4294967296*l+(1*v0+(256*v1+(65536*v2+(16777216*v3+(0))))))+0=y by omega) iy) w
    · have L : 1 ≤ l ∧ l ≤ 31 := by omega
      have K : 0 ≤ m ∧ m ≤ 31 := by omega
      exact fin c rtg7_4_4 [(121,l),(122,m),(100,u0),(101,u1),(102,u2),(103,u3),(110,v0),(111,v1),(112,v2),(113,v3)] ⟨ib L,ib K,ib bu0,ib bu1,ib bu2,ib bu3,ib bv0,ib bv1,ib bv2,ib bv3,⟨⟩⟩ ⟨L,K,bu0,bu1,bu2,bu3,bv0,bv1,bv2,bv3,⟨⟩⟩ (irS (show 4294967296*m+(1*u0+(256*u1+(65536*u2+(16777216*u3+(0)))))+137438953472=x by omega) ix) (irS (show 4294967296*l+(1*v0+(256*v1+(65536*v2+(16777216*v3+(0)))))+0=y by omega) iy) w
  · by_cases hh : 1 ≤ h
    · have H : 1 ≤ h ∧ h ≤ 7 := by omega
      have L : 0 ≤ l ∧ l ≤ 15 := by omega
      have K : 0 ≤ m ∧ m ≤ 15 := by omega
      exact fin c rtg7_4_5 [(120,h),(121,l),(122,m),(100,u0),(101,u1),(102,u2),(103,u3),(110,v0),(111,v1),(112,v2),(113,v3)] ⟨ib H,ib L,ib K,ib bu0,ib bu1,ib bu2,ib bu3,ib bv0,ib bv1,ib bv2,ib bv3,⟨⟩⟩ ⟨H,L,K,bu0,bu1,bu2,bu3,bv0,bv1,bv2,bv3,⟨⟩⟩ (irS (show 137438953472*h+(4294967296*m+(1*u0+(256*u1+(65536*u2+(16777216*u3+(0))))))+68719476736=x by omega) ix) (irS (show 137438953472*h+(4294967296*l+(1*v0+(256*v1+(65536*v2+(16777216*v3+(0))))))+0=y by omega) iy) w
    · have L : 1 ≤ l ∧ l ≤ 15 := by omega
      have K : 0 ≤ m ∧ m ≤ 15 := by omega
      exact fin c rtg7_4_6 [(121,l),(122,m),(100,u0),(101,u1),(102,u2),(103,u3),(110,v0),(111,v1),(112,v2),(113,v3)] ⟨ib L,ib K,ib bu0,ib bu1,ib bu2,ib bu3,ib bv0,ib bv1,ib bv2,ib bv3,⟨⟩⟩ ⟨L,K,bu0,bu1,bu2,bu3,bv0,bv1,bv2,bv3,⟨⟩⟩ (irS (show 4294967296*m+(1*u0+(256*u1+(65536*u2+(16777216*u3+(0)))))+68719476736=x by omega) ix) (irS (show 4294967296*l+(1*v0+(256*v1+(65536*v2+(16777216*v3+(0)))))+0=y by omega) iy) w
  · by_cases hh : 1 ≤ h
    · have H : 1 ≤ h ∧ h ≤ 15 := by omega
      have L : 0 ≤ l ∧ l ≤ 7 := by omega
      have K : 0 ≤ m ∧ m ≤ 7 := by omega
      exact fin c rtg7_4_7 [(120,h),(121,l),(122,m),(100,u0),(101,u1),(102,u2),(103,u3),(110,v0),(111,v1),(112,v2),(113,v3)] ⟨ib H,ib L,ib K,ib bu0,ib bu1,ib bu2,ib bu3,ib bv0,ib bv1,ib bv2,ib bv3,⟨⟩⟩ ⟨H,L,K,bu0,bu1,bu2,bu3,bv0,bv1,bv2,bv3,⟨⟩⟩ (irS (show 68719476736*h+(4294967296*m+(1*u0+(256*u1+(65536*u2+(16777216*u3+(0))))))+34359738368=x by omega) ix) (irS (show 68719476736*h+(4294967296*l+(1*v0+(256*v1+(65536*v2+(16777216*v3+(0))))))+0=y by omega) iy) w
    · have L : 1 ≤ l ∧ l ≤ 7 := by omega
      have K : 0 ≤ m ∧ m ≤ 7 := by omega
      exact fin c rtg7_4_8 [(121,l),(122,m),(100,u0),(101,u1),(102,u2),(103,u3),(110,v0),(111,v1),(112,v2),(113,v3)] ⟨ib L,ib K,ib bu0,ib bu1,ib bu2,ib bu3,ib bv0,ib bv1,ib bv2,ib bv3,⟨⟩⟩ ⟨L,K,bu0,bu1,bu2,bu3,bv0,bv1,bv2,bv3,⟨⟩⟩ (irS (show 4294967296*m+(1*u0+(256*u1+(65536*u2+(16777216*u3+(0)))))+34359738368=x by omega) ix) (irS (show 4294967296*l+(1*v0+(256*v1+(65536*v2+(16777216*v3+(0)))))+0=y by omega) iy) w
  · by_cases hh : 1 ≤ h
    · have H : 1 ≤ h ∧ h ≤ 31 := by omega
      have L : 0 ≤ l ∧ l ≤ 3 := by omega
      have K : 0 ≤ m ∧ m ≤ 3 := by omega
      exact fin c rtg7_4_9 [(120,h),(121,l),(122,m),(100,u0),(101,u1),(102,u2),(103,u3),(110,v0),(111,v1),(112,v2),(113,v3)] ⟨ib H,ib L,ib K,ib bu0,ib bu1,ib bu2,ib bu3,ib bv0,ib bv1,ib bv2,ib bv3,⟨⟩⟩ ⟨H,L,K,bu0,bu1,bu2,bu3,bv0,bv1,bv2,bv3,⟨⟩⟩ (irS (show 34359738368*h+(4294967296*m+(1*u0+(256*u1+(65536*u2+(16777216*u3+(0))))))+17179869184=x by omega) ix) (irS (show 34359738368*h+(4294967296*l+(1*v0+(256*v1+(65536*v2+(16777216*v3+(0))))))+0=y by omega) iy) w
    · have L : 1 ≤ l ∧ l ≤ 3 := by omega
      have K : 0 ≤ m ∧ m ≤ 3 := by omega
      exact fin c rtg7_4_10 [(121,l),(122,m),(100,u0),(101,u1),(102,u2),(103,u3),(110,v0),(111,v1),(112,v2),(113,v3)] ⟨ib L,ib K,ib bu0,ib bu1,ib bu2,ib bu3,ib bv0,ib bv1,ib bv2,ib bv3,⟨⟩⟩ ⟨L,K,bu0,bu1,bu2,bu3,bv0,bv1,bv2,bv3,⟨⟩⟩ (irS (show 4294967296*m+(1*u0+(256*u1+(65536*u2+(16777216*u3+(0)))))+17179869184=x by omega) ix) (irS (show 4294967296*l+(1*v0+(256*v1+(65536*v2+(16777216*v3+(0)))))+0=y by omega) iy) w
  · by_cases hh : 1 ≤ h
    · have H : 1 ≤ h ∧ h ≤ 63 := by omega
      have L : 0 ≤ l ∧ l ≤ 1 := by omega
      have K : 0 ≤ m ∧ m ≤ 1 := by omega
      exact fin c rtg7_4_11 [(120,h),(121,l),(122,m),(100,u0),(101,u1),(102,u2),(103,u3),(110,v0),(111,v1),(112,v2),(113,v3)] ⟨ib H,ib L,ib K,ib bu0,ib bu1,ib bu2,ib bu3,ib bv0,ib bv1,ib bv2,ib bv3,⟨⟩⟩ ⟨H,L,K,bu0,bu1,bu2,bu3,bv0,bv1,bv2,bv3,⟨⟩⟩ (irS (show 17179869184*h+(4294967296*m+(1*u0+(256*u1+(65536*u2+(16777216*u3+(0))))))+8589934592=x by omega) ix) (irS (show 17179869184*h+(4294967296*l+(1*v0+(256*v1+(65536*v2+(16777216*v3+(0))))))+0=y by omega) iy) w
    · have L : 1 ≤ l ∧ l ≤ 1 := by omega
      have K : 0 ≤ m ∧ m ≤ 1 := by omega
      exact fin c rtg7_4_12 [(121,l),(122,m),(100,u0),(101,u1),(102,u2),(103,u3),(110,v0),(111,v1),(112,v2),(113,v3)] ⟨ib L,ib K,ib bu0,ib bu1,ib bu2,ib bu3,ib bv0,ib bv1,ib bv2,ib bv3,⟨⟩⟩ ⟨L,K,bu0,bu1,bu2,bu3,bv0,bv1,bv2,bv3,⟨⟩⟩ (irS (show 4294967296*m+(1*u0+(256*u1+(65536*u2+(16777216*u3+(0)))))+8589934592=x by omega) ix) (irS (show 4294967296*l+(1*v0+(256*v1+(65536*v2+(16777216*v3+(0)))))+0=y by omega) iy) w
  · have H : 1 ≤ h ∧ h ≤ 127 := by omega
    exact fin c rtg7_4_13 [(120,h),(100,u0),(101,u1),(102,u2),(103,u3),(110,v0),(111,v1),(112,v2),(113,v3)] ⟨ib H,ib bu0,ib bu1,ib bu2,ib bu3,ib bv0,ib bv1,ib bv2,ib bv3,⟨⟩⟩ ⟨H,bu0,bu1,bu2,bu3,bv0,bv1,bv2,bv3,⟨⟩⟩ (irS (show 8589934592*h+(1*u0+(256*u1+(65536*u2+(16777216*u3+(0)))))+4294967296=x by omega) ix) (irS (show 8589934592*h+(1*v0+(256*v1+(65536*v2+(16777216*v3+(0)))))+0=y by omega) iy) w
theorem l7_3 {a0 a1 a2 a3 x y : Int} (c : Ctx a0 a1 a2 a3 x y) (ix : In x) (iy : In y) (d4 p q u0 u1 u2 v0 v1 v2 : Int) (bd4 : 1 ≤ d4 ∧ d4 ≤ 255) (bp : 0 ≤ p ∧ p ≤ 255) (bq : 0 ≤ q ∧ q ≤ 255) (bu0 : 0 ≤ u0 ∧ u0 ≤ 255) (bv0 : 0 ≤ v0 ∧ v0 ≤ 255) (bu1 : 0 ≤ u1 ∧ u1 ≤ 255) (bv1 : 0 ≤ v1 ∧ v1 ≤ 255) (bu2 : 0 ≤ u2 ∧ u2 ≤ 255) (bv2 : 0 ≤ v2 ∧ v2 ≤ 255) (hx : x = 1 * u0 + 256 * u1 + 65536 * u2 + 16777216 * p + 4294967296 * d4) (hy : y = 1 * v0 + 256 * v1 + 65536 * v2 + 16777216 * q + 4294967296 * d4) (hpq : p < q) (w : World) : G a0 a1 a2 a3 w := by
  rcases pairs p q (by omega) hpq (by omega) with ⟨h, l, m, h0, l0, l1, m0, m1, ep, eq⟩ | ⟨h, l, m, h0, l0, l1, m0, m1, ep, eq⟩ | ⟨h, l, m, h0, l0, l1, m0, m1, ep, eq⟩ | ⟨h, l, m, h0, l0, l1, m0, m1, ep, eq⟩ | ⟨h, l, m, h0, l0, l1, m0, m1, ep, eq⟩ | ⟨h, l, m, h0, l0, l1, m0, m1, ep, eq⟩ | ⟨h, l, m, h0, l0, l1, m0, m1, ep, eq⟩ | ⟨h, l, m, h0, l0, l1, m0, m1, ep, eq⟩
  · have L : 0 ≤ l ∧ l ≤ 127 := by omega
    have K : 0 ≤ m ∧ m ≤ 127 := by omega
    exact fin c rtl7_3_0 [(104,d4),(121,l),(122,m),(100,u0),(101,u1),(102,u2),(110,v0),(111,v1),(112,v2)] ⟨ib bd4,ib L,ib K,ib bu0,ib bu1,ib bu2,ib bv0,ib bv1,ib bv2,⟨⟩⟩ ⟨bd4,L,K,bu0,bu1,bu2,bv0,bv1,bv2,⟨⟩⟩ (irS (show 4294967296*d4+(16777216*l+(1*u0+(256*u1+(65536*u2+(0)))))+0=x by omega) ix) (irS (show 4294967296*d4+(16777216*m+(1*v0+(256*v1+(65536*v2+(0)))))+2147483648=y by omega) iy) w
  · have H : 0 ≤ h ∧ h ≤ 1 := by omega
    have L : 0 ≤ l ∧ l ≤ 63 := by omega
    have K : 0 ≤ m ∧ m ≤ 63 := by omega
    exact fin c rtl7_3_1 [(104,d4),(120,h),(121,l),(122,m),(100,u0),(101,u1),(102,u2),(110,v0),(111,v1),(112,v2)] ⟨ib bd4,ib H,ib L,ib K,ib bu0,ib bu1,ib bu2,ib bv0,ib bv1,ib bv2,⟨⟩⟩ ⟨bd4,H,L,K,bu0,bu1,bu2,bv0,bv1,bv2,⟨⟩⟩ (irS (show 4294967296*d4+(2147483648*h+(16777216*l+(1*u0+(256*u1+(65536*u2+(0))))))+0=x by omega) ix) (irS (show 4294967296*d4+(2147483648*h+(16777216*m+(1*v0+(256*v1+(65536*v2+(0))))))+1073741824=y by omega) iy) w
  · have H : 0 ≤ h ∧ h ≤ 3 := by omega
    have L : 0 ≤ l ∧ l ≤ 31 := by omega
    have K : 0 ≤ m ∧ m ≤ 31 := by omega
    exact fin c rtl7_3_2 [(104,d4),(120,h),(121,l),(122,m),(100,u0),(101,u1),(102,u2),(110,v0),(111,v1),(112,v2)] ⟨ib bd4,ib H,ib L,ib K,ib bu0,ib bu1,ib bu2,ib bv0,ib bv1,ib bv2,⟨⟩⟩ ⟨bd4,H,L,K,bu0,bu1,bu2,bv0,bv1,bv2,⟨⟩⟩ (irS (show 4294967296*d4+(1073741824*h+(16777216*l+(1*u0+(256*u1+(65536*u2+(0))))))+0=x by omega) ix) (irS (show 4294967296*d4+(1073741824*h+(16777216*m+(1*v0+(256*v1+(65536*v2+(0))))))+536870912=y by omega) iy) w
  · have H : 0 ≤ h ∧ h ≤ 7 := by omega
    have L : 0 ≤ l ∧ l ≤ 15 := by omega
    have K : 0 ≤ m ∧ m ≤ 15 := by omega
    exact fin c rtl7_3_3 [(104,d4),(120,h),(121,l),(122,m),(100,u0),(101,u1),(102,u2),(110,v0),(111,v1),(112,v2)] ⟨ib bd4,ib H,ib L,ib K,ib bu0,ib bu1,ib bu2,ib bv0,ib bv1,ib bv2,⟨⟩⟩ ⟨bd4,H,L,K,bu0,bu1,bu2,bv0,bv1,bv2,⟨⟩⟩ (irS (show 4294967296*d4+(536870912*h+(16777216*l+(1*u0+(256*u1+(65536*u2+(0))))))+0=x by omega) ix) (irS (show 4294967296*d4+(536870912*h+(16777216*m+(1*v0+(256*v1+(65536*v2+(0))))))+268435456=y by omega) iy) w
  · have H : 0 ≤ h ∧ h ≤ 15 := by omega
    have L : 0 ≤ l ∧ l ≤ 7 := by omega
    have K : 0 ≤ m ∧ m ≤ 7 := by omega
    exact fin c rtl7_3_4 [(104,d4),(120,h),(121,l),(122,m),(100,u0),(101,u1),(102,u2),(110,v0),(111,v1),(112,v2)] ⟨ib bd4,ib H,ib L,ib K,ib bu0,ib bu1,ib bu2,ib bv0,ib bv1,ib bv2,⟨⟩⟩ ⟨bd4,H,L,K,bu0,bu1,bu2,bv0,bv1,bv2,⟨⟩⟩ (irS (show 4294967296*d4+(268435456*h+(16777216*l+(1*u0+(256*u1+(65536*u2+(0))))))+0=x by omega) ix) (irS (show 4294967296*d4+(268435456*h+(16777216*m+(1*v0+(256*v1+(65536*v2+(0))))))+134217728=y by omega) iy) w
  · have H : 0 ≤ h ∧ h ≤ 31 := by omega
    have L : 0 ≤ l ∧ l ≤ 3 := by omega
    have K : 0 ≤ m ∧ m ≤ 3 := by omega
    exact fin c rtl7_3_5 [(104,d4),(120,h),(121,l),(122,m),(100,u0),(101,u1),(102,u2),(110,v0),(111,v1),(112,v2)] ⟨ib bd4,ib H,ib L,ib K,ib bu0,ib bu1,ib bu2,ib bv0,ib bv1,ib bv2,⟨⟩⟩ ⟨bd4,H,L,K,bu0,bu1,bu2,bv0,bv1,bv2,⟨⟩⟩ (irS (show 4294967296*d4+(134217728*h+(16777216*l+(1*u0+(256*u1+(65536*u2+(0))))))+0=x by omega) ix) (irS (show 4294967296*d4+(134217728*h+(16777216*m+(1*v0+(256*v1+(65536*v2+(0))))))+67108864=y by omega) iy) w
  · have H : 0 ≤ h ∧ h ≤ 63 := by omega
    have L : 0 ≤ l ∧ l ≤ 1 := by omega
    have K : 0 ≤ m ∧ m ≤ 1 := by omega
    exact fin c rtl7_3_6 [(104,d4),(120,h),(121,l),(122,m),(100,u0),(101,u1),(102,u2),(110,v0),(111,v1),(112,v2)] ⟨ib bd4,ib H,ib L,ib K,ib bu0,ib bu1,ib bu2,ib bv0,ib bv1,ib bv2,⟨⟩⟩ ⟨bd4,H,L,K,bu0,bu1,bu2,bv0,bv1,bv2,⟨⟩⟩ (irS (show 4294967296*d4+(67108864*h+(16777216*l+(1*u0+(256*u1+(65536*u2+(0))))))+0=x by omega) ix) (irS (show 4294967296*d4+(67108864*h+(16777216*m+(1*v0+(256*v1+(65536*v2+(0))))))+33554432=y by omega) iy) w
  · have H : 0 ≤ h ∧ h ≤ 127 := by omega
    exact fin c rtl7_3_7 [(104,d4),(120,h),(100,u0),(101,u1),(102,u2),(110,v0),(111,v1),(112,v2)] ⟨ib bd4,ib H,ib bu0,ib bu1,ib bu2,ib bv0,ib bv1,ib bv2,⟨⟩⟩ ⟨bd4,H,bu0,bu1,bu2,bv0,bv1,bv2,⟨⟩⟩ (irS (show 4294967296*d4+(33554432*h+(1*u0+(256*u1+(65536*u2+(0)))))+0=x by omega) ix) (irS (show 4294967296*d4+(33554432*h+(1*v0+(256*v1+(65536*v2+(0)))))+16777216=y by omega) iy) w
theorem g7_3 {a0 a1 a2 a3 x y : Int} (c : Ctx a0 a1 a2 a3 x y) (ix : In x) (iy : In y) (d4 p q u0 u1 u2 v0 v1 v2 : Int) (bd4 : 1 ≤ d4 ∧ d4 ≤ 255) (bp : 0 ≤ p ∧ p ≤ 255) (bq : 0 ≤ q ∧ q ≤ 255) (bu0 : 0 ≤ u0 ∧ u0 ≤ 255) (bv0 : 0 ≤ v0 ∧ v0 ≤ 255) (bu1 : 0 ≤ u1 ∧ u1 ≤ 255) (bv1 : 0 ≤ v1 ∧ v1 ≤ 255) (bu2 : 0 ≤ u2 ∧ u2 ≤ 255) (bv2 : 0 ≤ v2 ∧ v2 ≤ 255) (hx : x = 1 * u0 + 256 * u1 + 65536 * u2 + 16777216 * p + 4294967296 * d4) (hy : y = 1 * v0 + 256 * v1 + 65536 * v2 + 16777216 * q + 4294967296 * d4) (hpq : q < p) (w : World) : G a0 a1 a2 a3 w := by
  rcases pairs q p (by omega) hpq (by omega) with ⟨h, l, m, h0, l0, l1, m0, m1, ep, eq⟩ | ⟨h, l, m, h0, l0, l1, m0, m1, ep, eq⟩ | ⟨h, l, m, h0, l0, l1, m0, m1, ep, eq⟩ | ⟨h, l, m, h0, l0, l1, m0, m1, ep, eq⟩ | ⟨h, l, m, h0, l0, l1, m0, m1, ep, eq⟩ | ⟨h, l, m, h0, l0, l1, m0, m1, ep, eq⟩ | ⟨h, l, m, h0, l0, l1, m0, m1, ep, eq⟩ | ⟨h, l, m, h0, l0, l1, m0, m1, ep, eq⟩
  · have L : 0 ≤ l ∧ l ≤ 127 := by omega
    have K : 0 ≤ m ∧ m ≤ 127 := by omega
    exact fin c rtg7_3_0 [(104,d4),(121,l),(122,m),(100,u0),(101,u1),(102,u2),(110,v0),(111,v1),(112,v2)] ⟨ib bd4,ib L,ib K,ib bu0,ib bu1,ib bu2,ib bv0,ib bv1,ib bv2,⟨⟩⟩ ⟨bd4,L,K,bu0,bu1,bu2,bv0,bv1,bv2,⟨⟩⟩ (irS (show 4294967296*d4+(16777216*m+(1*u0+(256*u1+(65536*u2+(0)))))+2147483648=x by omega) ix) (irS (show 4294967296*d4+(16777216*l+(1*v0+(256*v1+(65536*v2+(0)))))+0=y by omega) iy) w
  · have H : 0 ≤ h ∧ h ≤ 1 := by omega
    have L : 0 ≤ l ∧ l ≤ 63 := by omega
    have K : 0 ≤ m ∧ m ≤ 63 := by omega
    exact fin c rtg7_3_1 [(104,d4),(120,h),(121,l),(122,m),(100,u0),(101,u1),(102,u2),(110,v0),(111,v1),(112,v2)] ⟨ib bd4,ib H,ib L,ib K,ib bu0,ib bu1,ib bu2,ib bv0,ib bv1,ib bv2,⟨⟩⟩ ⟨bd4,H,L,K,bu0,bu1,bu2,bv0,bv1,bv2,⟨⟩⟩ (irS (show 4294967296*d4+(2147483648*h+(16777216*m+(1*u0+(256*u1+(65536*u2+(0))))))+1073741824=x by omega) ix) (irS (show 4294967296*d4+(2147483648*h+(16777216*l+(1*v0+(256*v1+(65536*v2+(0))))))+0=y by omega) iy) w
  · have H : 0 ≤ h ∧ h ≤ 3 := by omega
    have L : 0 ≤ l ∧ l ≤ 31 := by omega
    have K : 0 ≤ m ∧ m ≤ 31 := by omega
    exact fin c rtg7_3_2 [(104,d4),(120,h),(121,l),(122,m),(100,u0),(101,u1),(102,u2),(110,v0),(111,v1),(112,v2)] ⟨ib bd4,ib H,ib L,ib K,ib bu0,ib bu1,ib bu2,ib bv0,ib bv1,ib bv2,⟨⟩⟩ ⟨bd4,H,L,K,bu0,bu1,bu2,bv0,bv1,bv2,⟨⟩⟩ (irS (show 4294967296*d4+(1073741824*h+(16777216*m+(1*u0+(256*u1+(65536*u2+(0))))))+536870912=x by omega) ix) (irS (show 4294967296*d4+(1073741824*h+(16777216*l+(1*v0+(256*v1+(65536*v2+(0))))))+0=y by omega) iy) w
  · have H : 0 ≤ h ∧ h ≤ 7 := by omega
    have L : 0 ≤ l ∧ l ≤ 15 := by omega
    have K : 0 ≤ m ∧ m ≤ 15 := by omega
    exact fin c rtg7_3_3 [(104,d4),(120,h),(121,l),(122,m),(100,u0),(101,u1),(102,u2),(110,v0),(111,v1),(112,v2)] ⟨ib bd4,ib H,ib L,ib K,ib bu0,ib bu1,ib bu2,ib bv0,ib bv1,ib bv2,⟨⟩⟩ ⟨bd4,H,L,K,bu0,bu1,bu2,bv0,bv1,bv2,⟨⟩⟩ (irS (show 4294967296*d4+(536870912*h+(16777216*m+(1*u0+(256*u1+(65536*u2+(0))))))+268435456=x by omega) ix) (irS (show 4294967296*d4+(536870912*h+(16777216*l+(1*v0+(256*v1+(65536*v2+(0))))))+0=y by omega) iy) w
  · have H : 0 ≤ h ∧ h ≤ 15 := by omega
    have L : 0 ≤ l ∧ l ≤ 7 := by omega
    have K : 0 ≤ m ∧ m ≤ 7 := by omega
    exact fin c rtg7_3_4 [(104,d4),(120,h),(121,l),(122,m),(100,u0),(101,u1),(102,u2),(110,v0),(111,v1),(112,v2)] ⟨ib bd4,ib H,ib L,ib K,ib bu0,ib bu1,ib bu2,ib bv0,ib bv1,ib bv2,⟨⟩⟩ ⟨bd4,H,L,K,bu0,bu1,bu2,bv0,bv1,bv2,⟨⟩⟩ (irS (show 4294967296*d4+(268435456*h+(16777216*m+(1*u0+(256*u1+(65536*u2+(0))))))+134217728=x by omega) ix) (irS (show 4294967296*d4+(268435456*h+(16777216*l+(1*v0+(256*v1+(65536*v2+(0))))))+0=y by omega) iy) w
  · have H : 0 ≤ h ∧ h ≤ 31 := by omega
    have L : 0 ≤ l ∧ l ≤ 3 := by omega
    have K : 0 ≤ m ∧ m ≤ 3 := by omega
    exact fin c rtg7_3_5 [(104,d4),(120,h),(121,l),(122,m),(100,u0),(101,u1),(102,u2),(110,v0),(111,v1),(112,v2)] ⟨ib bd4,ib H,ib L,ib K,ib bu0,ib bu1,ib bu2,ib bv0,ib bv1,ib bv2,⟨⟩⟩ ⟨bd4,H,L,K,bu0,bu1,bu2,bv0,bv1,bv2,⟨⟩⟩ (irS (show 4294967296*d4+(134217728*h+(16777216*m+(1*u0+(256*u1+(65536*u2+(0))))))+67108864=x by omega) ix) (irS (show 4294967296*d4+(134217728*h+(16777216*l+(1*v0+(256*v1+(65536*v2+(0))))))+0=y by omega) iy) w
  · have H : 0 ≤ h ∧ h ≤ 63 := by omega
    have L : 0 ≤ l ∧ l ≤ 1 := by omega
    have K : 0 ≤ m ∧ m ≤ 1 := by omega
    exact fin c rtg7_3_6 [(104,d4),(120,h),(121,l),(122,m),(100,u0),(101,u1),(102,u2),(110,v0),(111,v1),(112,v2)] ⟨ib bd4,ib H,ib L,ib K,ib bu0,ib bu1,ib bu2,ib bv0,ib bv1,ib bv2,⟨⟩⟩ ⟨bd4,H,L,K,bu0,bu1,bu2,bv0,bv1,bv2,⟨⟩⟩ (irS (show 4294967296*d4+(67108864*h+(16777216*m+(1*u0+(256*u1+(65536*u2+(0))))))+33554432=x by omega) ix) (irS (show 4294967296*d4+(67108864*h+(16777216*l+(1*v0+(256*v1+(65536*v2+(0))))))+0=y by omega) iy) w
  · have H : 0 ≤ h ∧ h ≤ 127 := by omega
    exact fin c rtg7_3_7 [(104,d4),(120,h),(100,u0),(101,u1),(102,u2),(110,v0),(111,v1),(112,v2)] ⟨ib bd4,ib H,ib bu0,ib bu1,ib bu2,ib bv0,ib bv1,ib bv2,⟨⟩⟩ ⟨bd4,H,bu0,bu1,bu2,bv0,bv1,bv2,⟨⟩⟩ (irS (show 4294967296*d4+(33554432*h+(1*u0+(256*u1+(65536*u2+(0)))))+16777216=x by omega) ix) (irS (show 4294967296*d4+(33554432*h+(1*v0+(256*v1+(65536*v2+(0)))))+0=y by omega) iy) w
theorem l7_2 {a0 a1 a2 a3 x y : Int} (c : Ctx a0 a1 a2 a3 x y) (ix : In x) (iy : In y) (d3 d4 p q u0 u1 v0 v1 : Int) (bd3 : 0 ≤ d3 ∧ d3 ≤ 255) (bd4 : 1 ≤ d4 ∧ d4 ≤ 255) (bp : 0 ≤ p ∧ p ≤ 255) (bq : 0 ≤ q ∧ q ≤ 255) (bu0 : 0 ≤ u0 ∧ u0 ≤ 255) (bv0 : 0 ≤ v0 ∧ v0 ≤ 255) (bu1 : 0 ≤ u1 ∧ u1 ≤ 255) (bv1 : 0 ≤ v1 ∧ v1 ≤ 255) (hx : x = 1 * u0 + 256 * u1 + 65536 * p + 16777216 * d3 + 4294967296 * d4) (hy : y = 1 * v0 + 256 * v1 + 65536 * q + 16777216 * d3 + 4294967296 * d4) (hpq : p < q) (w : World) : G a0 a1 a2 a3 w := by
  rcases pairs p q (by omega) hpq (by omega) with ⟨h, l, m, h0, l0, l1, m0, m1, ep, eq⟩ | ⟨h, l, m, h0, l0, l1, m0, m1, ep, eq⟩ | ⟨h, l, m, h0, l0, l1, m0, m1, ep, eq⟩ | ⟨h, l, m, h0, l0, l1, m0, m1, ep, eq⟩ | ⟨h, l, m, h0, l0, l1, m0, m1, ep, eq⟩ | ⟨h, l, m, h0, l0, l1, m0, m1, ep, eq⟩ | ⟨h, l, m, h0, l0, l1, m0, m1, ep, eq⟩ | ⟨h, l, m, h0, l0, l1, m0, m1, ep, eq⟩
  · have L : 0 ≤ l ∧ l ≤ 127 := by omega
    have K : 0 ≤ m ∧ m ≤ 127 := by omega
    exact fin c rtl7_2_0 [(103,d3),(104,d4),(121,l),(122,m),(100,u0),(101,u1),(110,v0),(111,v1)] ⟨ib bd3,ib bd4,ib L,ib K,ib bu0,ib bu1,ib bv0,ib bv1,⟨⟩⟩ ⟨bd3,bd4,L,K,bu0,bu1,bv0,bv1,⟨⟩⟩ (irS (show 16777216*d3+(4294967296*d4+(65536*l+(1*u0+(256*u1+(0)))))+0=x by omega) ix) (irS (show 16777216*d3+(4294967296*d4+(65536*m+(1*v0+(256*v1+(0)))))+8388608=y by omega) iy) w
  · have H : 0 ≤ h ∧ h ≤ 1 := by omega
    have L : 0 ≤ l ∧ l ≤ 63 := by omega
    have K : 0 ≤ m ∧ m ≤ 63 := by omega
    exact fin c rtl7_2_1 [(103,d3),(104,d4),(120,h),(121,l),(122,m),(100,u0),(101,u1),(110,v0),(111,v1)] ⟨ib bd3,ib bd4,ib H,ib L,ib K,ib bu0,ib bu1,ib bv0,ib bv1,⟨⟩⟩ ⟨bd3,bd4,H,L,K,bu0,bu1,bv0,bv1,⟨⟩⟩ (irS (show 16777216*d3+(4294967296*d4+(8388608*h+(65536*l+(1*u0+(256*u1+(0))))))+0=x by omega) ix) (irS (show 16777216*d3+(4294967296*d4+(8388608*h+(65536*m+(1*v0+(256*v1+(0))))))+4194304=y by omega) iy) w
  · have H : 0 ≤ h ∧ h ≤ 3 := by omega
    have L : 0 ≤ l ∧ l ≤ 31 := by omega
    have K : 0 ≤ m ∧ m ≤ 31 := by omega
    exact fin c rtl7_2_2 [(103,d3),(104,d4),(120,h),(121,l),(122,m),(100,u0),(101,u1),(110,v0),(111,v1)] ⟨ib bd3,ib bd4,ib H,ib L,ib K,ib bu0,ib bu1,ib bv0,ib bv1,⟨⟩⟩ ⟨bd3,bd4,H,L,K,bu0,bu1,bv0,bv1,⟨⟩⟩ (irS (show 16777216*d3+(4294967296*d4+(4194304*h+(65536*l+(1*u0+(256*u1+(0))))))+0=x by omega) ix) (irS (show 16777216*d3+(4294967296*d4+(4194304*h+(65536*m+(1*v0+(256*v1+(0))))))+2097152=y by omega) iy) w
  · have H : 0 ≤ h ∧ h ≤ 7 := by omega
    have L : 0 ≤ l ∧ l ≤ 15 := by omega
    have K : 0 ≤ m ∧ m ≤ 15 := by omega
    exact fin c rtl7_2_3 [(103,d3),(104,d4),(120,h),(121,l),(122,m),(100,u0),(101,u1),(110,v0),(111,v1)] ⟨ib bd3,ib bd4,ib H,ib L,ib K,ib bu0,ib bu1,ib bv0,ib bv1,⟨⟩⟩ ⟨bd3,bd4,H,L,K,bu0,bu1,bv0,bv1,⟨⟩⟩ (irS (show 16777216*d3+(4294967296*d4+(2097152*h+(65536*l+(1*u0+(256*u1+(0))))))+0=x by omega) ix) (irS (show 16777216*d3+(4294967296*d4+(2097152*h+(65536*m+(1*v0+(256*v1+(0))))))+1048576=y by omega) iy) w
  · have H : 0 ≤ h ∧ h ≤ 15 := by omega
    have L : 0 ≤ l ∧ l ≤ 7 := by omega
    have K : 0 ≤ m ∧ m ≤ 7 := by omega
    exact fin c rtl7_2_4 [(103,d3),(104,d4),(120,h),(121,l),(122,m),(100,u0),(101,u1),(110,v0),(111,v1)] ⟨ib bd3,ib bd4,ib H,ib L,ib K,ib bu0,ib bu1,ib bv0,ib bv1,⟨⟩⟩ ⟨bd3,bd4,H,L,K,bu0,bu1,bv0,bv1,⟨⟩⟩ (irS (show 16777216*d3+(4294967296*d4+(1048576*h+(65536*l+(1*u0+(256*u1+(0))))))+0=x by omega) ix) (irS (show 16777216*d3+(4294967296*d4+(1048576*h+(65536*m+(1*v0+(256*v1+(0))))))+524288=y by omega) iy) w
  · have H : 0 ≤ h ∧ h ≤ 31 := by omega
    have L : 0 ≤ l ∧ l ≤ 3 := by omega
    have K : 0 ≤ m ∧ m ≤ 3 := by omega
    exact fin c rtl7_2_5 [(103,d3),(104,d4),(120,h),(121,l),(122,m),(100,u0),(101,u1),(110,v0),(111,v1)] ⟨ib bd3,ib bd4,ib H,ib L,ib K,ib bu0,ib bu1,ib bv0,ib bv1,⟨⟩⟩ ⟨bd3,bd4,H,L,K,bu0,bu1,bv0,bv1,⟨⟩⟩ (irS (show 16777216*d3+(4294967296*d4+(524288*h+(65536*l+(1*u0+(256*u1+(0))))))+0=x by omega) ix) (irS (show 16777216*d3+(4294967296*d4+(524288*h+(65536*m+(1*v0+(256*v1+(0))))))+262144=y by omega) iy) w
  · have H : 0 ≤ h ∧ h ≤ 63 := by omega
    have L : 0 ≤ l ∧ l ≤ 1 := by omega
    have K : 0 ≤ m ∧ m ≤ 1 := by omega
    exact fin c rtl7_2_6 [(103,d3),(104,d4),(120,h),(121,l),(122,m),(100,u0),(101,u1),(110,v0),(111,v1)] ⟨ib bd3,ib bd4,ib H,ib L,ib K,ib bu0,ib bu1,ib bv0,ib bv1,⟨⟩⟩ ⟨bd3,bd4,H,L,K,bu0,bu1,bv0,bv1,⟨⟩⟩ (irS (show 16777216*d3+(4294967296*d4+(262144*h+(65536*l+(1*u0+(256*u1+(0))))))+0=x by omega) ix) (irS (show 16777216*d3+(4294967296*d4+(262144*h+(65536*m+(1*v0+(256*v1+(0))))))+131072=y by omega) iy) w
  · have H : 0 ≤ h ∧ h ≤ 127 := by omega
    exact fin c rtl7_2_7 [(103,d3),(104,d4),(120,h),(100,u0),(101,u1),(110,v0),(111,v1)] ⟨ib bd3,ib bd4,ib H,ib bu0,ib bu1,ib bv0,ib bv1,⟨⟩⟩ ⟨bd3,bd4,H,bu0,bu1,bv0,bv1,⟨⟩⟩ (irS (show 16777216*d3+(4294967296*d4+(131072*h+(1*u0+(256*u1+(0)))))+0=x by omega) ix) (irS (show 16777216*d3+(4294967296*d4+(131072*h+(1*v0+(256*v1+(0)))))+65536=y by omega) iy) w
theorem g7_2 {a0 a1 a2 a3 x y : Int} (c : Ctx a0 a1 a2 a3 x y) (ix : In x) (iy : In y) (d3 d4 p q u0 u1 v0 v1 : Int) (bd3 : 0 ≤ d3 ∧ d3 ≤ 255) (bd4 : 1 ≤ d4 ∧ d4 ≤ 255) (bp : 0 ≤ p ∧ p ≤ 255) (bq : 0 ≤ q ∧ q ≤ 255) (bu0 : 0 ≤ u0 ∧ u0 ≤ 255) (bv0 : 0 ≤ v0 ∧ v0 ≤ 255) (bu1 : 0 ≤ u1 ∧ u1 ≤ 255) (bv1 : 0 ≤ v1 ∧ v1 ≤ 255) (hx : x = 1 * u0 + 256 * u1 + 65536 * p + 16777216 * d3 + 4294967296 * d4) (hy : y = 1 * v0 + 256 * v1 + 65536 * q + 16777216 * d3 + 4294967296 * d4) (hpq : q < p) (w : World) : G a0 a1 a2 a3 w := by
  rcases pairs q p (by omega) hpq (by omega) with ⟨h, l, m, h0, l0, l1, m0, m1, ep, eq⟩ | ⟨h, l, m, h0, l0, l1, m0, m1, ep, eq⟩ | ⟨h, l, m, h0, l0, l1, m0, m1, ep, eq⟩ | ⟨h, l, m, h0, l0, l1, m0, m1, ep, eq⟩ | ⟨h, l, m, h0, l0, l1, m0, m1, ep, eq⟩ | ⟨h, l, m, h0, l0, l1, m0, m1, ep, eq⟩ | ⟨h, l, m, h0, l0, l1, m0, m1, ep, eq⟩ | ⟨h, l, m, h0, l0, l1, m0, m1, ep, eq⟩
  · have L : 0 ≤ l ∧ l ≤ 127 := by omega
    have K : 0 ≤ m ∧ m ≤ 127 := by omega
    exact fin c rtg7_2_0 [(103,d3),(104,d4),(121,l),(122,m),(100,u0),(101,u1),(110,v0),(111,v1)] ⟨ib bd3,ib bd4,ib L,ib K,ib bu0,ib bu1,ib bv0,ib bv1,⟨⟩⟩ ⟨bd3,bd4,L,K,bu0,bu1,bv0,bv1,⟨⟩⟩ (irS (show 16777216*d3+(4294967296*d4+(65536*m+(1*u0+(256*u1+(0)))))+8388608=x by omega) ix) (irS (show 16777216*d3+(4294967296*d4+(65536*l+(1*v0+(256*v1+(0)))))+0=y by omega) iy) w
  · have H : 0 ≤ h ∧ h ≤ 1 := by omega
    have L : 0 ≤ l ∧ l ≤ 63 := by omega
    have K : 0 ≤ m ∧ m ≤ 63 := by omega
    exact fin c rtg7_2_1 [(103,d3),(104,d4),(120,h),(121,l),(122,m),(100,u0),(101,u1),(110,v0),(111,v1)] ⟨ib bd3,ib bd4,ib H,ib L,ib K,ib bu0,ib bu1,ib bv0,ib bv1,⟨⟩⟩ ⟨bd3,bd4,H,L,K,bu0,bu1,bv0,bv1,⟨⟩⟩ (irS (show 16777216*d3+(4294967296*d4+(8388608*h+(65536*m+(1*u0+(256*u1+(0))))))+4194304=x by omega) ix) (irS (show 16777216*d3+(4294967296*d4+(8388608*h+(65536*l+(1*v0+(256*v1+(0))))))+0=y by omega) iy) w
  · have H : 0 ≤ h ∧ h ≤ 3 := by omega
    have L : 0 ≤ l ∧ l ≤ 31 := by omega
    have K : 0 ≤ m ∧ m ≤ 31 := by omega
    exact fin c rtg7_2_2 [(103,d3),(104,d4),(120,h),(121,l),(122,m),(100,u0),(101,u1),(110,v0),(111,v1)] ⟨ib bd3,ib bd4,ib H,ib L,ib K,ib bu0,ib bu1,ib bv0,ib bv1,⟨⟩⟩ ⟨bd3,bd4,H,L,K,bu0,bu1,bv0,bv1,⟨⟩⟩ (irS (show 16777216*d3+(4294967296*d4+(4194304*h+(65536*m+(1*u0+(256*u1+(0))))))+2097152=x by omega) ix) (irS (show 16777216*d3+(4294967296*d4+(4194304*h+(65536*l+(1*v0+(256*v1+(0))))))+0=y by omega) iy) w
  · have H : 0 ≤ h ∧ h ≤ 7 := by omega
    have L : 0 ≤ l ∧ l ≤ 15 := by omega
    have K : 0 ≤ m ∧ m ≤ 15 := by omega
    exact fin c rtg7_2_3 [(103,d3),(104,d4),(120,h),(121,l),(122,m),(100,u0),(101,u1),(110,v0),(111,v1)] ⟨ib bd3,ib bd4,ib H,ib L,ib K,ib bu0,ib bu1,ib bv0,ib bv1,⟨⟩⟩ ⟨bd3,bd4,H,L,K,bu0,bu1,bv0,bv1,⟨⟩⟩ (irS (show 16777216*d3+(4294967296*d4+(2097152*h+(65536*m+(1*u0+(256*u1+(0))))))+1048576=x by omega) ix) (irS (show 16777216*d3+(4294967296*d4+(2097152*h+(65536*l+(1*v0+(256*v1+(0))))))+0=y by omega) iy) w
  · have H : 0 ≤ h ∧ h ≤ 15 := by omega
    have L : 0 ≤ l ∧ l ≤ 7 := by omega
    have K : 0 ≤ m ∧ m ≤ 7 := by omega
    exact fin c rtg7_2_4 [(103,d3),(104,d4),(120,h),(121,l),(122,m),(100,u0),(101,u1),(110,v0),(111,v1)] ⟨ib bd3,ib bd4,ib H,ib L,ib K,ib bu0,ib bu1,ib bv0,ib bv1,⟨⟩⟩ ⟨bd3,bd4,H,L,K,bu0,bu1,bv0,bv1,⟨⟩⟩ (irS (show 16777216*d3+(4294967296*d4+(1048576*h+(65536*m+(1*u0+(256*u1+(0))))))+524288=x by omega) ix) (irS (show 16777216*d3+(4294967296*d4+(1048576*h+(65536*l+(1*v0+(256*v1+(0))))))+0=y by omega) iy) w
  · have H : 0 ≤ h ∧ h ≤ 31 := by omega
    have L : 0 ≤ l ∧ l ≤ 3 := by omega
    have K : 0 ≤ m ∧ m ≤ 3 := by omega
    exact fin c rtg7_2_5 [(103,d3),(104,d4),(120,h),(121,l),(122,m),(100,u0),(101,u1),(110,v0),(111,v1)] ⟨ib bd3,ib bd4,ib H,ib L,ib K,ib bu0,ib bu1,ib bv0,ib bv1,⟨⟩⟩ ⟨bd3,bd4,H,L,K,bu0,bu1,bv0,bv1,⟨⟩⟩ (irS (show 16777216*d3+(4294967296*d4+(524288*h+(65536*m+(1*u0+(256*u1+(0))))))+262144=x by omega) ix) (irS (show 16777216*d3+(4294967296*d4+(524288*h+(65536*l+(1*v0+(256*v1+(0))))))+0=y by omega) iy) w
  · have H : 0 ≤ h ∧ h ≤ 63 := by omega
    have L : 0 ≤ l ∧ l ≤ 1 := by omega
    have K : 0 ≤ m ∧ m ≤ 1 := by omega
    exact fin c rtg7_2_6 [(103,d3),(104,d4),(120,h),(121,l),(122,m),(100,u0),(101,u1),(110,v0),(111,v1)] ⟨ib bd3,ib bd4,ib H,ib L,ib K,ib bu0,ib bu1,ib bv0,ib bv1,⟨⟩⟩ ⟨bd3,bd4,H,L,K,bu0,bu1,bv0,bv1,⟨⟩⟩ (irS (show 16777216*d3+(4294967296*d4+(262144*h+(65536*m+(1*u0+(256*u1+(0))))))+131072=x by omega) ix) (irS (show 16777216*d3+(4294967296*d4+(262144*h+(65536*l+(1*v0+(256*v1+(0))))))+0=y by omega) iy) w
  · have H : 0 ≤ h ∧ h ≤ 127 := by omega
    exact fin c rtg7_2_7 [(103,d3),(104,d4),(120,h),(100,u0),(101,u1),(110,v0),(111,v1)] ⟨ib bd3,ib bd4,ib H,ib bu0,ib bu1,ib bv0,ib bv1,⟨⟩⟩ ⟨bd3,bd4,H,bu0,bu1,bv0,bv1,⟨⟩⟩ (irS (show 16777216*d3+(4294967296*d4+(131072*h+(1*u0+(256*u1+(0)))))+65536=x by omega) ix) (irS (show 16777216*d3+(4294967296*d4+(131072*h+(1*v0+(256*v1+(0)))))+0=y by omega) iy) w
theorem l7_1 {a0 a1 a2 a3 x y : Int} (c : Ctx a0 a1 a2 a3 x y) (ix : In x) (iy : In y) (d2 d3 d4 p q u0 v0 : Int) (bd2 : 0 ≤ d2 ∧ d2 ≤ 255) (bd3 : 0 ≤ d3 ∧ d3 ≤ 255) (bd4 : 1 ≤ d4 ∧ d4 ≤ 255) (bp : 0 ≤ p ∧ p ≤ 255) (bq : 0 ≤ q ∧ q ≤ 255) (bu0 : 0 ≤ u0 ∧ u0 ≤ 255) (bv0 : 0 ≤ v0 ∧ v0 ≤ 255) (hx : x = 1 * u0 + 256 * p + 65536 * d2 + 16777216 * d3 + 4294967296 * d4) (hy : y = 1 * v0 + 256 * q + 65536 * d2 + 16777216 * d3 + 4294967296 * d4) (hpq : p < q) (w : World) : G a0 a1 a2 a3 w := by
  rcases pairs p q (by omega) hpq (by omega) with ⟨h, l, m, h0, l0, l1, m0, m1, ep, eq⟩ | ⟨h, l, m, h0, l0, l1, m0, m1, ep, eq⟩ | ⟨h, l, m, h0, l0, l1, m0, m1, ep, eq⟩ | ⟨h, l, m, h0, l0, l1, m0, m1, ep, eq⟩ | ⟨h, l, m, h0, l0, l1, m0, m1, ep, eq⟩ | ⟨h, l, m, h0, l0, l1, m0, m1, ep, eq⟩ | ⟨h, l, m, h0, l0, l1, m0, m1, ep, eq⟩ | ⟨h, l, m, h0, l0, l1, m0, m1, ep, eq⟩
  · have L : 0 ≤ l ∧ l ≤ 127 := by omega
    have K : 0 ≤ m ∧ m ≤ 127 := by omega
    exact fin c rtl7_1_0 [(102,d2),(103,d3),(104,d4),(121,l),(122,m),(100,u0),(110,v0)] ⟨ib bd2,ib bd3,ib bd4,ib L,ib K,ib bu0,ib bv0,⟨⟩⟩ ⟨bd2,bd3,bd4,L,K,bu0,bv0,⟨⟩⟩ (irS (show 65536*d2+(16777216*d3+(4294967296*d4+(256*l+(1*u0+(0)))))+0=x by omega) ix) (irS (show 65536*d2+(16777216*d3+(4294967296*d4+(256*m+(1*v0+(0)))))+32768=y by omega) iy) w
  · have H : 0 ≤ h ∧ h ≤ 1 := by omega
    have L : 0 ≤ l ∧ l ≤ 63 := by omega
    have K : 0 ≤ m ∧ m ≤ 63 := by omega
    exact fin c rtl7_1_1 [(102,d2),(103,d3),(104,d4),(120,h),(121,l),(122,m),(100,u0),(110,v0)] ⟨ib bd2,ib bd3,ib bd4,ib H,ib L,ib K,ib bu0,ib bv0,⟨⟩⟩ ⟨bd2,bd3,bd4,H,L,K,bu0,bv0,⟨⟩⟩ (irS (show 65536*d2+(16777216*d3+(4294967296*d4+(32768*h+(256*l+(1*u0+(0))))))+0=x by omega) ix) (irS (show 65536*d2+(16777216*d3+(4294967296*d4+(32768*h+(256*m+(1*v0+(0))))))+16384=y by omega) iy) w
  · have H : 0 ≤ h ∧ h ≤ 3 := by omega
    have L : 0 ≤ l ∧ l ≤ 31 := by omega
    have K : 0 ≤ m ∧ m ≤ 31 := by omega
    exact fin c rtl7_1_2 [(102,d2),(103,d3),(104,d4),(120,h),(121,l),(122,m),(100,u0),(110,v0)] ⟨ib bd2,ib bd3,ib bd4,ib H,ib L,ib K,ib bu0,ib bv0,⟨⟩⟩ ⟨bd2,bd3,bd4,H,L,K,bu0,bv0,⟨⟩⟩ (irS (show 65536*d2+(16777216*d3+(4294967296*d4+(16384*h+(256*l+(1*u0+(0))))))+0=x by omega) ix) (irS (show 65536*d2+(16777216*d3+(4294967296*d4+(16384*h+(256*m+(1*v0+(0))))))+8192=y by omega) iy) w
  · have H : 0 ≤ h ∧ h ≤ 7 := by omega
    have L : 0 ≤ l ∧ l ≤ 15 := by omega
    have K : 0 ≤ m ∧ m ≤ 15 := by omega
    exact fin c rtl7_1_3 [(102,d2),(103,d3),(104,d4),(120,h),(121,l),(122,m),(100,u0),(110,v0)] ⟨ib bd2,ib bd3,ib bd4,ib H,ib L,ib K,ib bu0,ib bv0,⟨⟩⟩ ⟨bd2,bd3,bd4,H,L,K,bu0,bv0,⟨⟩⟩ (irS (show 65536*d2+(16777216*d3+(4294967296*d4+(8192*h+(256*l+(1*u0+(0))))))+0=x by omega) ix) (irS (show 65536*d2+(16777216*d3+(4294967296*d4+(8192*h+(256*m+(1*v0+(0))))))+4096=y by omega) iy) w
  · have H : 0 ≤ h ∧ h ≤ 15 := by omega
    have L : 0 ≤ l ∧ l ≤ 7 := by omega
    have K : 0 ≤ m ∧ m ≤ 7 := by omega
    exact fin c rtl7_1_4 [(102,d2),(103,d3),(104,d4),(120,h),(121,l),(122,m),(100,u0),(110,v0)] ⟨ib bd2,ib bd3,ib bd4,ib H,ib L,ib K,ib bu0,ib bv0,⟨⟩⟩ ⟨bd2,bd3,bd4,H,L,K,bu0,bv0,⟨⟩⟩ (irS (show 65536*d2+(16777216*d3+(4294967296*d4+(4096*h+(256*l+(1*u0+(0))))))+0=x by omega) ix) (irS (show 65536*d2+(16777216*d3+(4294967296*d4+(4096*h+(256*m+(1*v0+(0))))))+2048=y by omega) iy) w
  · have H : 0 ≤ h ∧ h ≤ 31 := by omega
    have L : 0 ≤ l ∧ l ≤ 3 := by omega
    have K : 0 ≤ m ∧ m ≤ 3 := by omega
    exact fin c rtl7_1_5 [(102,d2),(103,d3),(104,d4),(120,h),(121,l),(122,m),(100,u0),(110,v0)] ⟨ib bd2,ib bd3,ib bd4,ib H,ib L,ib K,ib bu0,ib bv0,⟨⟩⟩ ⟨bd2,bd3,bd4,H,L,K,bu0,bv0,⟨⟩⟩ (irS (show 65536*d2+(16777216*d3+(4294967296*d4+(2048*h+(256*l+(1*u0+(0))))))+0=x by omega) ix) (irS (show 65536*d2+(16777216*d3+(4294967296*d4+(2048*h+(256*m+(1*v0+(0))))))+1024=y by omega) iy) w
  · have H : 0 ≤ h ∧ h ≤ 63 := by omega
    have L : 0 ≤ l ∧ l ≤ 1 := by omega
    have K : 0 ≤ m ∧ m ≤ 1 := by omega
    exact fin c rtl7_1_6 [(102,d2),(103,d3),(104,d4),(120,h),(121,l),(122,m),(100,u0),(110,v0)] ⟨ib bd2,ib bd3,ib bd4,ib H,ib L,ib K,ib bu0,ib bv0,⟨⟩⟩ ⟨bd2,bd3,bd4,H,L,K,bu0,bv0,⟨⟩⟩ (irS (show 65536*d2+(16777216*d3+(4294967296*d4+(1024*h+(256*l+(1*u0+(0))))))+0=x by omega) ix) (irS (show 65536*d2+(16777216*d3+(4294967296*d4+(1024*h+(256*m+(1*v0+(0))))))+512=y by omega) iy) w
  · have H : 0 ≤ h ∧ h ≤ 127 := by omega
    exact fin c rtl7_1_7 [(102,d2),(103,d3),(104,d4),(120,h),(100,u0),(110,v0)] ⟨ib bd2,ib bd3,ib bd4,ib H,ib bu0,ib bv0,⟨⟩⟩ ⟨bd2,bd3,bd4,H,bu0,bv0,⟨⟩⟩ (irS (show 65536*d2+(16777216*d3+(4294967296*d4+(512*h+(1*u0+(0)))))+0=x by omega) ix) (irS (show 65536*d2+(16777216*d3+(4294967296*d4+(512*h+(1*v0+(0)))))+256=y by omega) iy) w
theorem g7_1 {a0 a1 a2 a3 x y : Int} (c : Ctx a0 a1 a2 a3 x y) (ix : In x) (iy : In y) (d2 d3 d4 p q u0 v0 : Int) (bd2 : 0 ≤ d2 ∧ d2 ≤ 255) (bd3 : 0 ≤ d3 ∧ d3 ≤ 255) (bd4 : 1 ≤ d4 ∧ d4 ≤ 255) (bp : 0 ≤ p ∧ p ≤ 255) (bq : 0 ≤ q ∧ q ≤ 255) (bu0 : 0 ≤ u0 ∧ u0 ≤ 255) (bv0 : 0 ≤ v0 ∧ v0 ≤ 255) (hx : x = 1 * u0 + 256 * p + 65536 * d2 + 16777216 * d3 + 4294967296 * d4) (hy : y = 1 * v0 + 256 * q + 65536 * d2 + 16777216 * d3 + 4294967296 * d4) (hpq : q < p) (w : World) : G a0 a1 a2 a3 w := by
  rcases pairs q p (by omega) hpq (by omega) with ⟨h, l, m, h0, l0, l1, m0, m1, ep, eq⟩ | ⟨h, l, m, h0, l0, l1, m0, m1, ep, eq⟩ | ⟨h, l, m, h0, l0, l1, m0, m1, ep, eq⟩ | ⟨h, l, m, h0, l0, l1, m0, m1, ep, eq⟩ | ⟨h, l, m, h0, l0, l1, m0, m1, ep, eq⟩ | ⟨h, l, m, h0, l0, l1, m0, m1, ep, eq⟩ | ⟨h, l, m, h0, l0, l1, m0, m1, ep, eq⟩ | ⟨h, l, m, h0, l0, l1, m0, m1, ep, eq⟩
  · have L : 0 ≤ l ∧ l ≤ 127 := by omega
    have K : 0 ≤ m ∧ m ≤ 127 := by omega
    exact fin c rtg7_1_0 [(102,d2),(103,d3),(104,d4),(121,l),(122,m),(100,u0),(110,v0)] ⟨ib bd2,ib bd3,ib bd4,ib L,ib K,ib bu0,ib bv0,⟨⟩⟩ ⟨bd2,bd3,bd4,L,K,bu0,bv0,⟨⟩⟩ (irS (show 65536*d2+(16777216*d3+(4294967296*d4+(256*m+(1*u0+(0)))))+32768=x by omega) ix) (irS (show 65536*d2+(16777216*d3+(4294967296*d4+(256*l+(1*v0+(0)))))+0=y by omega) iy) w
  · have H : 0 ≤ h ∧ h ≤ 1 := by omega
    have L : 0 ≤ l ∧ l ≤ 63 := by omega
    have K : 0 ≤ m ∧ m ≤ 63 := by omega
    exact fin c rtg7_1_1 [(102,d2),(103,d3),(104,d4),(120,h),(121,l),(122,m),(100,u0),(110,v0)] ⟨ib bd2,ib bd3,ib bd4,ib H,ib L,ib K,ib bu0,ib bv0,⟨⟩⟩ ⟨bd2,bd3,bd4,H,L,K,bu0,bv0,⟨⟩⟩ (irS (show 65536*d2+(16777216*d3+(4294967296*d4+(32768*h+(256*m+(1*u0+(0))))))+16384=x by omega) ix) (irS (show 65536*d2+(16777216*d3+(4294967296*d4+(32768*h+(256*l+(1*v0+(0))))))+0=y by omega) iy) w
  · have H : 0 ≤ h ∧ h ≤ 3 := by omega
    have L : 0 ≤ l ∧ l ≤ 31 := by omega
    have K : 0 ≤ m ∧ m ≤ 31 := by omega
    exact fin c rtg7_1_2 [(102,d2),(103,d3),(104,d4),(120,h),(121,l),(122,m),(100,u0),(110,v0)] ⟨ib bd2,ib bd3,ib bd4,ib H,ib L,ib K,ib bu0,ib bv0,⟨⟩⟩ ⟨bd2,bd3,bd4,H,L,K,bu0,bv0,⟨⟩⟩ (irS (show 65536*d2+(16777216*d3+(4294967296*d4+(16384*h+(256*m+(1*u0+(0))))))+8192=x by omega) ix) (irS (show 65536*d2+(16777216*d3+(4294967296*d4+(16384*h+(256*l+(1*v0+(0))))))+0=y by omega) iy) w
  · have H : 0 ≤ h ∧ h ≤ 7 := by omega
    have L : 0 ≤ l ∧ l ≤ 15 := by omega
    have K : 0 ≤ m ∧ m ≤ 15 := by omega
    exact fin c rtg7_1_3 [(102,d2),(103,d3),(104,d4),(120,h),(121,l),(122,m),(100,u0),(110,v0)] ⟨ib bd2,ib bd3,ib bd4,ib H,ib L,ib K,ib bu0,ib bv0,⟨⟩⟩ ⟨bd2,bd3,bd4,H,L,K,bu0,bv0,⟨⟩⟩ (irS (show 65536*d2+(16777216*d3+(4294967296*d4+(8192*h+(256*m+(1*u0+(0))))))+4096=x by omega) ix) (irS (show 65536*d2+(16777216*d3+(4294967296*d4+(8192*h+(256*l+(1*v0+(0))))))+0=y by omega) iy) w
  · have H : 0 ≤ h ∧ h ≤ 15 := by omega
    have L : 0 ≤ l ∧ l ≤ 7 := by omega
    have K : 0 ≤ m ∧ m ≤ 7 := by omega
    exact fin c rtg7_1_4 [(102,d2),(103,d3),(104,d4),(120,h),(121,l),(122,m),(100,u0),(110,v0)] ⟨ib bd2,ib bd3,ib bd4,ib H,ib L,ib K,ib bu0,ib bv0,⟨⟩⟩ ⟨bd2,bd3,bd4,H,L,K,bu0,bv0,⟨⟩⟩ (irS (show 65536*d2+(16777216*d3+(4294967296*d4+(4096*h+(256*m+(1*u0+(0))))))+2048=x by omega) ix) (irS (show 65536*d2+(16777216*d3+(4294967296*d4+(4096*h+(256*l+(1*v0+(0))))))+0=y by omega) iy) w
  · have H : 0 ≤ h ∧ h ≤ 31 := by omega
    have L : 0 ≤ l ∧ l ≤ 3 := by omega
    have K : 0 ≤ m ∧ m ≤ 3 := by omega
    exact fin c rtg7_1_5 [(102,d2),(103,d3),(104,d4),(120,h),(121,l),(122,m),(100,u0),(110,v0)] ⟨ib bd2,ib bd3,ib bd4,ib H,ib L,ib K,ib bu0,ib bv0,⟨⟩⟩ ⟨bd2,bd3,bd4,H,L,K,bu0,bv0,⟨⟩⟩ (irS (show 65536*d2+(16777216*d3+(4294967296*d4+(2048*h+(256*m+(1*u0+(0))))))+1024=x by omega) ix) (irS (show 65536*d2+(16777216*d3+(4294967296*d4+(2048*h+(256*l+(1*v0+(0))))))+0=y by omega) iy) w
  · have H : 0 ≤ h ∧ h ≤ 63 := by omega
    have L : 0 ≤ l ∧ l ≤ 1 := by omega
    have K : 0 ≤ m ∧ m ≤ 1 := by omega
    exact fin c rtg7_1_6 [(102,d2),(103,d3),(104,d4),(120,h),(121,l),(122,m),(100,u0),(110,v0)] ⟨ib bd2,ib bd3,ib bd4,ib H,ib L,ib K,ib bu0,ib bv0,⟨⟩⟩ ⟨bd2,bd3,bd4,H,L,K,bu0,bv0,⟨⟩⟩ (irS (show 65536*d2+(16777216*d3+(4294967296*d4+(1024*h+(256*m+(1*u0+(0))))))+512=x by omega) ix) (irS (show 65536*d2+(16777216*d3+(4294967296*d4+(1024*h+(256*l+(1*v0+(0))))))+0=y by omega) iy) w
  · have H : 0 ≤ h ∧ h ≤ 127 := by omega
    exact fin c rtg7_1_7 [(102,d2),(103,d3),(104,d4),(120,h),(100,u0),(110,v0)] ⟨ib bd2,ib bd3,ib bd4,ib H,ib bu0,ib bv0,⟨⟩⟩ ⟨bd2,bd3,bd4,H,bu0,bv0,⟨⟩⟩ (irS (show 65536*d2+(16777216*d3+(4294967296*d4+(512*h+(1*u0+(0)))))+256=x by omega) ix) (irS (show 65536*d2+(16777216*d3+(4294967296*d4+(512*h+(1*v0+(0)))))+0=y by omega) iy) w
theorem l7_0 {a0 a1 a2 a3 x y : Int} (c : Ctx a0 a1 a2 a3 x y) (ix : In x) (iy : In y) (d1 d2 d3 d4 p q : Int) (bd1 : 0 ≤ d1 ∧ d1 ≤ 255) (bd2 : 0 ≤ d2 ∧ d2 ≤ 255) (bd3 : 0 ≤ d3 ∧ d3 ≤ 255) (bd4 : 1 ≤ d4 ∧ d4 ≤ 255) (bp : 0 ≤ p ∧ p ≤ 255) (bq : 0 ≤ q ∧ q ≤ 255) (hx : x = 1 * p + 256 * d1 + 65536 * d2 + 16777216 * d3 + 4294967296 * d4) (hy : y = 1 * q + 256 * d1 + 65536 * d2 + 16777216 * d3 + 4294967296 * d4) (hpq : p < q) (w : World) : G a0 a1 a2 a3 w := by
  rcases pairs p q (by omega) hpq (by omega) with ⟨h, l, m, h0, l0, l1, m0, m1, ep, eq⟩ | ⟨h, l, m, h0, l0, l1, m0, m1, ep, eq⟩ | ⟨h, l, m, h0, l0, l1, m0, m1, ep, eq⟩ | ⟨h, l, m, h0, l0, l1, m0, m1, ep, eq⟩ | ⟨h, l, m, h0, l0, l1, m0, m1, ep, eq⟩ | ⟨h, l, m, h0, l0, l1, m0, m1, ep, eq⟩ | ⟨h, l, m, h0, l0, l1, m0, m1, ep, eq⟩ | ⟨h, l, m, h0, l0, l1, m0, m1, ep, eq⟩
  · have L : 0 ≤ l ∧ l ≤ 127 := by omega
    have K : 0 ≤ m ∧ m ≤ 127 := by omega
    exact fin c rtl7_0_0 [(101,d1),(102,d2),(103,d3),(104,d4),(121,l),(122,m)] ⟨ib bd1,ib bd2,ib bd3,ib bd4,ib L,ib K,⟨⟩⟩ ⟨bd1,bd2,bd3,bd4,L,K,⟨⟩⟩ (irS (show 256*d1+(65536*d2+(16777216*d3+(4294967296*d4+(1*l+(0)))))+0=x by omega) ix) (irS (show 256*d1+(65536*d2+(16777216*d3+(4294967296*d4+(1*m+(0)))))+128=y by omega) iy) w
  · have H : 0 ≤ h ∧ h ≤ 1 := by omega
    have L : 0 ≤ l ∧ l ≤ 63 := by omega
    have K : 0 ≤ m ∧ m ≤ 63 := by omega
    exact fin c rtl7_0_1 [(101,d1),(102,d2),(103,d3),(104,d4),(120,h),(121,l),(122,m)] ⟨ib bd1,ib bd2,ib bd3,ib bd4,ib H,ib L,ib K,⟨⟩⟩ ⟨bd1,bd2,bd3,bd4,H,L,K,⟨⟩⟩ (irS (show 256*d1+(65536*d2+(16777216*d3+(4294967296*d4+(128*h+(1*l+(0))))))+0=x by omega) ix) (irS (show 256*d1+(65536*d2+(16777216*d3+(4294967296*d4+(128*h+(1*m+(0))))))+64=y by omega) iy) w
  · have H : 0 ≤ h ∧ h ≤ 3 := by omega
    have L : 0 ≤ l ∧ l ≤ 31 := by omega
    have K : 0 ≤ m ∧ m ≤ 31 := by omega
    exact fin c rtl7_0_2 [(101,d1),(102,d2),(103,d3),(104,d4),(120,h),(121,l),(122,m)] ⟨ib bd1,ib bd2,ib bd3,ib bd4,ib H,ib L,ib K,⟨⟩⟩ ⟨bd1,bd2,bd3,bd4,H,L,K,⟨⟩⟩ (irS (show 256*d1+(65536*d2+(16777216*d3+(4294967296*d4+(64*h+(1*l+(0))))))+0=x by omega) ix) (irS (show 256*d1+(65536*d2+(16777216*d3+(4294967296*d4+(64*h+(1*m+(0))))))+32=y by omega) iy) w
  · have H : 0 ≤ h ∧ h ≤ 7 := by omega
    have L : 0 ≤ l ∧ l ≤ 15 := by omega
    have K : 0 ≤ m ∧ m ≤ 15 := by omega
    exact fin c rtl7_0_3 [(101,d1),(102,d2),(103,d3),(104,d4),(120,h),(121,l),(122,m)] ⟨ib bd1,ib bd2,ib bd3,ib bd4,ib H,ib L,ib K,⟨⟩⟩ ⟨bd1,bd2,bd3,bd4,H,L,K,⟨⟩⟩ (irS (show 256*d1+(65536*d2+(16777216*d3+(4294967296*d4+(32*h+(1*l+(0))))))+0=x by omega) ix) (irS (show 256*d1+(65536*d2+(16777216*d3+(4294967296*d4+(32*h+(1*m+(0))))))+16=y by omega) iy) w
  · have H : 0 ≤ h ∧ h ≤ 15 := by omega
    have L : 0 ≤ l ∧ l ≤ 7 := by omega
    have K : 0 ≤ m ∧ m ≤ 7 := by omega
    exact fin c rtl7_0_4 [(101,d1),(102,d2),(103,d3),(104,d4),(120,h),(121,l),(122,m)] ⟨ib bd1,ib bd2,ib bd3,ib bd4,ib H,ib L,ib K,⟨⟩⟩ ⟨bd1,bd2,bd3,bd4,H,L,K,⟨⟩⟩ (irS (show 256*d1+(65536*d2+(16777216*d3+(4294967296*d4+(16*h+(1*l+(0))))))+0=x by omega) ix) (irS (show 256*d1+(65536*d2+(16777216*d3+(4294967296*d4+(16*h+(1*m+(0))))))+8=y by omega) iy) w
  · have H : 0 ≤ h ∧ h ≤ 31 := by omega
    have L : 0 ≤ l ∧ l ≤ 3 := by omega
    have K : 0 ≤ m ∧ m ≤ 3 := by omega
    exact fin c rtl7_0_5 [(101,d1),(102,d2),(103,d3),(104,d4),(120,h),(121,l),(122,m)] ⟨ib bd1,ib bd2,ib bd3,ib bd4,ib H,ib L,ib K,⟨⟩⟩ ⟨bd1,bd2,bd3,bd4,H,L,K,⟨⟩⟩ (irS (show 256*d1+(65536*d2+(16777216*d3+(4294967296*d4+(8*h+(1*l+(0))))))+0=x by omega) ix) (irS (show 256*d1+(65536*d2+(16777216*d3+(4294967296*d4+(8*h+(1*m+(0))))))+4=y by omega) iy) w
  · have H : 0 ≤ h ∧ h ≤ 63 := by omega
    have L : 0 ≤ l ∧ l ≤ 1 := by omega
    have K : 0 ≤ m ∧ m ≤ 1 := by omega
    exact fin c rtl7_0_6 [(101,d1),(102,d2),(103,d3),(104,d4),(120,h),(121,l),(122,m)] ⟨ib bd1,ib bd2,ib bd3,ib bd4,ib H,ib L,ib K,⟨⟩⟩ ⟨bd1,bd2,bd3,bd4,H,L,K,⟨⟩⟩ (irS (show 256*d1+(65536*d2+(16777216*d3+(4294967296*d4+(4*h+(1*l+(0))))))+0=x by omega) ix) (irS (show 256*d1+(65536*d2+(16777216*d3+(4294967296*d4+(4*h+(1*m+(0))))))+2=y by omega) iy) w
  · have H : 0 ≤ h ∧ h ≤ 127 := by omega
    exact fin c rtl7_0_7 [(101,d1),(102,d2),(103,d3),(104,d4),(120,h)] ⟨ib bd1,ib bd2,ib bd3,ib bd4,ib H,⟨⟩⟩ ⟨bd1,bd2,bd3,bd4,H,⟨⟩⟩ (irS (show 256*d1+(65536*d2+(16777216*d3+(4294967296*d4+(2*h+(0)))))+0=x by omega) ix) (irS (show 256*d1+(65536*d2+(16777216*d3+(4294967296*d4+(2*h+(0)))))+1=y by omega) iy) w
theorem g7_0 {a0 a1 a2 a3 x y : Int} (c : Ctx a0 a1 a2 a3 x y) (ix : In x) (iy : In y) (d1 d2 d3 d4 p q : Int) (bd1 : 0 ≤ d1 ∧ d1 ≤ 255) (bd2 : 0 ≤ d2 ∧ d2 ≤ 255) (bd3 : 0 ≤ d3 ∧ d3 ≤ 255) (bd4 : 1 ≤ d4 ∧ d4 ≤ 255) (bp : 0 ≤ p ∧ p ≤ 255) (bq : 0 ≤ q ∧ q ≤ 255) (hx : x = 1 * p + 256 * d1 + 65536 * d2 + 16777216 * d3 + 4294967296 * d4) (hy : y = 1 * q + 256 * d1 + 65536 * d2 + 16777216 * d3 + 4294967296 * d4) (hpq : q < p) (w : World) : G a0 a1 a2 a3 w := by
  rcases pairs q p (by omega) hpq (by omega) with ⟨h, l, m, h0, l0, l1, m0, m1, ep, eq⟩ | ⟨h, l, m, h0, l0, l1, m0, m1, ep, eq⟩ | ⟨h, l, m, h0, l0, l1, m0, m1, ep, eq⟩ | ⟨h, l, m, h0, l0, l1, m0, m1, ep, eq⟩ | ⟨h, l, m, h0, l0, l1, m0, m1, ep, eq⟩ | ⟨h, l, m, h0, l0, l1, m0, m1, ep, eq⟩ | ⟨h, l, m, h0, l0, l1, m0, m1, ep, eq⟩ | ⟨h, l, m, h0, l0, l1, m0, m1, ep, eq⟩
  · have L : 0 ≤ l ∧ l ≤ 127 := by omega
    have K : 0 ≤ m ∧ m ≤ 127 := by omega
    exact fin c rtg7_0_0 [(101,d1),(102,d2),(103,d3),(104,d4),(121,l),(122,m)] ⟨ib bd1,ib bd2,ib bd3,ib bd4,ib L,ib K,⟨⟩⟩ ⟨bd1,bd2,bd3,bd4,L,K,⟨⟩⟩ (irS (show 256*d1+(65536*d2+(16777216*d3+(4294967296*d4+(1*m+(0)))))+128=x by omega) ix) (irS (show 256*d1+(65536*d2+(16777216*d3+(4294967296*d4+(1*l+(0)))))+0=y by omega) iy) w
  · have H : 0 ≤ h ∧ h ≤ 1 := by omega
    have L : 0 ≤ l ∧ l ≤ 63 := by omega
    have K : 0 ≤ m ∧ m ≤ 63 := by omega
    exact fin c rtg7_0_1 [(101,d1),(102,d2),(103,d3),(104,d4),(120,h),(121,l),(122,m)] ⟨ib bd1,ib bd2,ib bd3,ib bd4,ib H,ib L,ib K,⟨⟩⟩ ⟨bd1,bd2,bd3,bd4,H,L,K,⟨⟩⟩ (irS (show 256*d1+(65536*d2+(16777216*d3+(4294967296*d4+(128*h+(1*m+(0))))))+64=x by omega) ix) (irS (show 256*d1+(65536*d2+(16777216*d3+(4294967296*d4+(128*h+(1*l+(0))))))+0=y by omega) iy) w
  · have H : 0 ≤ h ∧ h ≤ 3 := by omega
    have L : 0 ≤ l ∧ l ≤ 31 := by omega
    have K : 0 ≤ m ∧ m ≤ 31 := by omega
    exact fin c rtg7_0_2 [(101,d1),(102,d2),(103,d3),(104,d4),(120,h),(121,l),(122,m)] ⟨ib bd1,ib bd2,ib bd3,ib bd4,ib H,ib L,ib K,⟨⟩⟩ ⟨bd1,bd2,bd3,bd4,H,L,K,⟨⟩⟩ (irS (show 256*d1+(65536*d2+(16777216*d3+(4294967296*d4+(64*h+(1*m+(0))))))+32=x by omega) ix) (irS (show 256*d1+(65536*d2+(16777216*d3+(4294967296*d4+(64*h+(1*l+(0))))))+0=y by omega) iy) w
  · have H : 0 ≤ h ∧ h ≤ 7 := by omega
    have L : 0 ≤ l ∧ l ≤ 15 := by omega
    have K : 0 ≤ m ∧ m ≤ 15 := by omega
    exact fin c rtg7_0_3 [(101,d1),(102,d2),(103,d3),(104,d4),(120,h),(121,l),(122,m)] ⟨ib bd1,ib bd2,ib bd3,ib bd4,ib H,ib L,ib K,⟨⟩⟩ ⟨bd1,bd2,bd3,bd4,H,L,K,⟨⟩⟩ (irS (show 256*d1+(65536*d2+(16777216*d3+(4294967296*d4+(32*h+(1*m+(0))))))+16=x by omega) ix) (irS (show 256*d1+(65536*d2+(16777216*d3+(4294967296*d4+(32*h+(1*l+(0))))))+0=y by omega) iy) w
  · have H : 0 ≤ h ∧ h ≤ 15 := by omega
    have L : 0 ≤ l ∧ l ≤ 7 := by omega
    have K : 0 ≤ m ∧ m ≤ 7 := by omega
    exact fin c rtg7_0_4 [(101,d1),(102,d2),(103,d3),(104,d4),(120,h),(121,l),(122,m)] ⟨ib bd1,ib bd2,ib bd3,ib bd4,ib H,ib L,ib K,⟨⟩⟩ ⟨bd1,bd2,bd3,bd4,H,L,K,⟨⟩⟩ (irS (show 256*d1+(65536*d2+(16777216*d3+(4294967296*d4+(16*h+(1*m+(0))))))+8=x by omega) ix) (irS (show 256*d1+(65536*d2+(16777216*d3+(4294967296*d4+(16*h+(1*l+(0))))))+0=y by omega) iy) w
  · have H : 0 ≤ h ∧ h ≤ 31 := by omega
    have L : 0 ≤ l ∧ l ≤ 3 := by omega
    have K : 0 ≤ m ∧ m ≤ 3 := by omega
    exact fin c rtg7_0_5 [(101,d1),(102,d2),(103,d3),(104,d4),(120,h),(121,l),(122,m)] ⟨ib bd1,ib bd2,ib bd3,ib bd4,ib H,ib L,ib K,⟨⟩⟩ ⟨bd1,bd2,bd3,bd4,H,L,K,⟨⟩⟩ (irS (show 256*d1+(65536*d2+(16777216*d3+(4294967296*d4+(8*h+(1*m+(0))))))+4=x by omega) ix) (irS (show 256*d1+(65536*d2+(16777216*d3+(4294967296*d4+(8*h+(1*l+(0))))))+0=y by omega) iy) w
  · have H : 0 ≤ h ∧ h ≤ 63 := by omega
    have L : 0 ≤ l ∧ l ≤ 1 := by omega
    have K : 0 ≤ m ∧ m ≤ 1 := by omega
    exact fin c rtg7_0_6 [(101,d1),(102,d2),(103,d3),(104,d4),(120,h),(121,l),(122,m)] ⟨ib bd1,ib bd2,ib bd3,ib bd4,ib H,ib L,ib K,⟨⟩⟩ ⟨bd1,bd2,bd3,bd4,H,L,K,⟨⟩⟩ (irS (show 256*d1+(65536*d2+(16777216*d3+(4294967296*d4+(4*h+(1*m+(0))))))+2=x by omega) ix) (irS (show 256*d1+(65536*d2+(16777216*d3+(4294967296*d4+(4*h+(1*l+(0))))))+0=y by omega) iy) w
  · have H : 0 ≤ h ∧ h ≤ 127 := by omega
    exact fin c rtg7_0_7 [(101,d1),(102,d2),(103,d3),(104,d4),(120,h)] ⟨ib bd1,ib bd2,ib bd3,ib bd4,ib H,⟨⟩⟩ ⟨bd1,bd2,bd3,bd4,H,⟨⟩⟩ (irS (show 256*d1+(65536*d2+(16777216*d3+(4294967296*d4+(2*h+(0)))))+1=x by omega) ix) (irS (show 256*d1+(65536*d2+(16777216*d3+(4294967296*d4+(2*h+(0)))))+0=y by omega) iy) w
theorem e7 {a0 a1 a2 a3 x y : Int} (c : Ctx a0 a1 a2 a3 x y) (ix : In x) (iy : In y) (d0 d1 d2 d3 d4 : Int) (bd0 : 0 ≤ d0 ∧ d0 ≤ 255) (bd1 : 0 ≤ d1 ∧ d1 ≤ 255) (bd2 : 0 ≤ d2 ∧ d2 ≤ 255) (bd3 : 0 ≤ d3 ∧ d3 ≤ 255) (bd4 : 1 ≤ d4 ∧ d4 ≤ 255) (hx : x = 1 * d0 + 256 * d1 + 65536 * d2 + 16777216 * d3 + 4294967296 * d4) (hy : y = 1 * d0 + 256 * d1 + 65536 * d2 + 16777216 * d3 + 4294967296 * d4) (w : World) : G a0 a1 a2 a3 w :=
  fin c rte7 [(100,d0),(101,d1),(102,d2),(103,d3),(104,d4)] ⟨ib bd0,ib bd1,ib bd2,ib bd3,ib bd4,⟨⟩⟩ ⟨bd0,bd1,bd2,bd3,bd4,⟨⟩⟩ (irS (show 1*d0+(256*d1+(65536*d2+(16777216*d3+(4294967296*d4+(0)))))+0=x by omega) ix) (irS (show 1*d0+(256*d1+(65536*d2+(16777216*d3+(4294967296*d4+(0)))))+0=y by omega) iy) w
theorem b7_7 {a0 a1 a2 a3 x y : Int} (c : Ctx a0 a1 a2 a3 x y) (ix : In x) (iy : In y) (hx : Cl7 x) (hy : Cl7 y) (w : World) : G a0 a1 a2 a3 w := by
  obtain ⟨d0, d1, d2, d3, d4, bd0, bd1, bd2, bd3, bd4, hx⟩ := hx
  obtain ⟨f0, f1, f2, f3, f4, bf0, bf1, bf2, bf3, bf4, hy⟩ := hy
  rcases Int.lt_trichotomy d4 f4 with hlt | he4 | hlt
  · exact l7_4 c ix iy d4 f4 d0 d1 d2 d3 f0 f1 f2 f3 bd4 bf4 bd0 bf0 bd1 bf1 bd2 bf2 bd3 bf3 hx hy hlt w
  rotate_left
  · exact g7_4 c ix iy d4 f4 d0 d1 d2 d3 f0 f1 f2 f3 bd4 bf4 bd0 bf0 bd1 bf1 bd2 bf2 bd3 bf3 hx hy hlt w
  subst he4
  rcases Int.lt_trichotomy d3 f3 with hlt | he3 | hlt
  · exact l7_3 c ix iy d4 d3 f3 d0 d1 d2 f0 f1 f2 bd4 bd3 bf3 bd0 bf0 bd1 bf1 bd2 bf2 hx hy hlt w
  rotate_left
  · exact g7_3 c ix iy d4 d3 f3 d0 d1 d2 f0 f1 f2 bd4 bd3 bf3 bd0 bf0 bd1 bf1 bd2 bf2 hx hy hlt w
  subst he3
  rcases Int.lt_trichotomy d2 f2 with hlt | he2 | hlt
  · exact l7_2 c ix iy d3 d4 d2 f2 d0 d1 f0 f1 bd3 bd4 bd2 bf2 bd0 bf0 bd1 bf1 hx hy hlt w
  rotate_left
  · exact g7_2 c ix iy d3 d4 d2 f2 d0 d1 f0 f1 bd3 bd4 bd2 bf2 bd0 bf0 bd1 bf1 hx hy hlt w
  subst he2
  rcases Int.lt_trichotomy d1 f1 with hlt | he1 | hlt
  · exact l7_1 c ix iy d2 d3 d4 d1 f1 d0 f0 bd2 bd3 bd4 bd1 bf1 bd0 bf0 hx hy hlt w
  rotate_left
  · exact g7_1 c ix iy d2 d3 d4 d1 f1 d0 f0 bd2 bd3 bd4 bd1 bf1 bd0 bf0 hx hy hlt w
  subst he1
  rcases Int.lt_trichotomy d0 f0 with hlt | he0 | hlt
  · exact l7_0 c ix iy d1 d2 d3 d4 d0 f0 bd1 bd2 bd3 bd4 bd0 bf0 hx hy hlt w
  rotate_left
  · exact g7_0 c ix iy d1 d2 d3 d4 d0 f0 bd1 bd2 bd3 bd4 bd0 bf0 hx hy hlt w
  subst he0
  exact e7 c ix iy d0 d1 d2 d3 d4 bd0 bd1 bd2 bd3 bd4 hx hy w
theorem b7_0 {a0 a1 a2 a3 x y : Int} (c : Ctx a0 a1 a2 a3 x y) (ix : In x) (iy : In y) (hx : Cl7 x) (hy : Cl0 y) (w : World) : G a0 a1 a2 a3 w := by
  obtain ⟨d0, d1, d2, d3, d4, bd0, bd1, bd2, bd3, bd4, hx⟩ := hx
  obtain ⟨f0, bf0, hy⟩ := hy
  exact fin c rtx7_0 [(100,d0),(101,d1),(102,d2),(103,d3),(104,d4),(110,f0)] ⟨ib bd0,ib bd1,ib bd2,ib bd3,ib bd4,ib bf0,⟨⟩⟩ ⟨bd0,bd1,bd2,bd3,bd4,bf0,⟨⟩⟩ (irS (show 1*d0+(256*d1+(65536*d2+(16777216*d3+(4294967296*d4+(0)))))+0=x by omega) ix) (irS (show 1*f0+(0)+0=y by omega) iy) w
theorem b7_1 {a0 a1 a2 a3 x y : Int} (c : Ctx a0 a1 a2 a3 x y) (ix : In x) (iy : In y) (hx : Cl7 x) (hy : Cl1 y) (w : World) : G a0 a1 a2 a3 w := by
  obtain ⟨d0, d1, d2, d3, d4, bd0, bd1, bd2, bd3, bd4, hx⟩ := hx
  obtain ⟨f0, bf0, hy⟩ := hy
  exact fin c rtx7_1 [(100,d0),(101,d1),(102,d2),(103,d3),(104,d4),(110,f0)] ⟨ib bd0,ib bd1,ib bd2,ib bd3,ib bd4,ib bf0,⟨⟩⟩ ⟨bd0,bd1,bd2,bd3,bd4,bf0,⟨⟩⟩ (irS (show 1*d0+(256*d1+(65536*d2+(16777216*d3+(4294967296*d4+(0)))))+0=x by omega) ix) (irS (show 1*f0+(0)+0=y by omega) iy) w
theorem b7_2 {a0 a1 a2 a3 x y : Int} (c : Ctx a0 a1 a2 a3 x y) (ix : In x) (iy : In y) (hx : Cl7 x) (hy : Cl2 y) (w : World) : G a0 a1 a2 a3 w := by
  obtain ⟨d0, d1, d2, d3, d4, bd0, bd1, bd2, bd3, bd4, hx⟩ := hx
  obtain ⟨f0, f1, bf0, bf1, hy⟩ := hy
  exact fin c rtx7_2 [(100,d0),(101,d1),(102,d2),(103,d3),(104,d4),(110,f0),(111,f1)] ⟨ib bd0,ib bd1,ib bd2,ib bd3,ib bd4,ib bf0,ib bf1,⟨⟩⟩ ⟨bd0,bd1,bd2,bd3,bd4,bf0,bf1,⟨⟩⟩ (irS (show 1*d0+(256*d1+(65536*d2+(16777216*d3+(4294967296*d4+(0)))))+0=x by omega) ix) (irS (show 1*f0+(256*f1+(0))+0=y by omega) iy) w
theorem b7_3 {a0 a1 a2 a3 x y : Int} (c : Ctx a0 a1 a2 a3 x y) (ix : In x) (iy : In y) (hx : Cl7 x) (hy : Cl3 y) (w : World) : G a0 a1 a2 a3 w := by
  obtain ⟨d0, d1, d2, d3, d4, bd0, bd1, bd2, bd3, bd4, hx⟩ := hx
  obtain ⟨f0, f1, bf0, bf1, hy⟩ := hy
  exact fin c rtx7_3 [(100,d0),(101,d1),(102,d2),(103,d3),(104,d4),(110,f0),(111,f1)] ⟨ib bd0,ib bd1,ib bd2,ib bd3,ib bd4,ib bf0,ib bf1,⟨⟩⟩ ⟨bd0,bd1,bd2,bd3,bd4,bf0,bf1,⟨⟩⟩ (irS (show 1*d0+(256*d1+(65536*d2+(16777216*d3+(4294967296*d4+(0)))))+0=x by omega) ix) (irS (show 1*f0+(256*f1+(0))+0=y by omega) iy) w
theorem b7_4 {a0 a1 a2 a3 x y : Int} (c : Ctx a0 a1 a2 a3 x y) (ix : In x) (iy : In y) (hx : Cl7 x) (hy : Cl4 y) (w : World) : G a0 a1 a2 a3 w := by
  obtain ⟨d0, d1, d2, d3, d4, bd0, bd1, bd2, bd3, bd4, hx⟩ := hx
  obtain ⟨f0, f1, f2, bf0, bf1, bf2, hy⟩ := hy
  exact fin c rtx7_4 [(100,d0),(101,d1),(102,d2),(103,d3),(104,d4),(110,f0),(111,f1),(112,f2)] ⟨ib bd0,ib bd1,ib bd2,ib bd3,ib bd4,ib bf0,ib bf1,ib bf2,⟨⟩⟩ ⟨bd0,bd1,bd2,bd3,bd4,bf0,bf1,bf2,⟨⟩⟩ (irS (show 1*d0+(256*d1+(65536*d2+(16777216*d3+(4294967296*d4+(0)))))+0=x by omega) ix) (irS (show 1*f0+(256*f1+(65536*f2+(0)))+0=y by omega) iy) w
theorem b7_5 {a0 a1 a2 a3 x y : Int} (c : Ctx a0 a1 a2 a3 x y) (ix : In x) (iy : In y) (hx : Cl7 x) (hy : Cl5 y) (w : World) : G a0 a1 a2 a3 w := by
  obtain ⟨d0, d1, d2, d3, d4, bd0, bd1, bd2, bd3, bd4, hx⟩ := hx
  obtain ⟨f0, f1, f2, f3, bf0, bf1, bf2, bf3, hy⟩ := hy
  exact fin c rtx7_5 [(100,d0),(101,d1),(102,d2),(103,d3),(104,d4),(110,f0),(111,f1),(112,f2),(113,f3)] ⟨ib bd0,ib bd1,ib bd2,ib bd3,ib bd4,ib bf0,ib bf1,ib bf2,ib bf3,⟨⟩⟩ ⟨bd0,bd1,bd2,bd3,bd4,bf0,bf1,bf2,bf3,⟨⟩⟩ (irS (show 1*d0+(256*d1+(65536*d2+(16777216*d3+(4294967296*d4+(0)))))+0=x by omega) ix) (irS (show 1*f0+(256*f1+(65536*f2+(16777216*f3+(0))))+0=y by omega) iy) w
theorem b7_6 {a0 a1 a2 a3 x y : Int} (c : Ctx a0 a1 a2 a3 x y) (ix : In x) (iy : In y) (hx : Cl7 x) (hy : Cl6 y) (w : World) : G a0 a1 a2 a3 w := by
  obtain ⟨d0, d1, d2, d3, d4, bd0, bd1, bd2, bd3, bd4, hx⟩ := hx
  obtain ⟨f0, f1, f2, f3, bf0, bf1, bf2, bf3, hy⟩ := hy
  exact fin c rtx7_6 [(100,d0),(101,d1),(102,d2),(103,d3),(104,d4),(110,f0),(111,f1),(112,f2),(113,f3)] ⟨ib bd0,ib bd1,ib bd2,ib bd3,ib bd4,ib bf0,ib bf1,ib bf2,ib bf3,⟨⟩⟩ ⟨bd0,bd1,bd2,bd3,bd4,bf0,bf1,bf2,bf3,⟨⟩⟩ (irS (show 1*d0+(256*d1+(65536*d2+(16777216*d3+(4294967296*d4+(0)))))+0=x by omega) ix) (irS (show 1*f0+(256*f1+(65536*f2+(16777216*f3+(0))))+0=y by omega) iy) w
theorem b7_8 {a0 a1 a2 a3 x y : Int} (c : Ctx a0 a1 a2 a3 x y) (ix : In x) (iy : In y) (hx : Cl7 x) (hy : Cl8 y) (w : World) : G a0 a1 a2 a3 w := by
  obtain ⟨d0, d1, d2, d3, d4, bd0, bd1, bd2, bd3, bd4, hx⟩ := hx
  obtain ⟨f0, f1, f2, f3, f4, f5, bf0, bf1, bf2, bf3, bf4, bf5, hy⟩ := hy
  exact fin c rtx7_8 [(100,d0),(101,d1),(102,d2),(103,d3),(104,d4),(110,f0),(111,f1),(112,f2),(113,f3),(114,f4),(115,f5)] ⟨ib bd0,ib bd1,ib bd2,ib bd3,ib bd4,ib bf0,ib bf1,ib bf2,ib bf3,ib bf4,ib bf5,⟨⟩⟩ ⟨bd0,bd1,bd2,bd3,bd4,bf0,bf1,bf2,bf3,bf4,bf5,⟨⟩⟩ (irS (show 1*d0+(256*d1+(65536*d2+(16777216*d3+(4294967296*d4+(0)))))+0=x by omega) ix) (irS (show 1*f0+(256*f1+(65536*f2+(16777216*f3+(4294967296*f4+(1099511627776*f5+(0))))))+0=y by omega) iy) w
theorem b7_9 {a0 a1 a2 a3 x y : Int} (c : Ctx a0 a1 a2 a3 x y) (ix : In x) (iy : In y) (hx : Cl7 x) (hy : Cl9 y) (w : World) : G a0 a1 a2 a3 w := by
  obtain ⟨d0, d1, d2, d3, d4, bd0, bd1, bd2, bd3, bd4, hx⟩ := hx
  obtain ⟨f0, f1, f2, f3, f4, f5, f6, bf0, bf1, bf2, bf3, bf4, bf5, bf6, hy⟩ := hy
  exact fin c rtx7_9 [(100,d0),(101,d1),(102,d2),(103,d3),(104,d4),(110,f0),(111,f1),(112,f2),(113,f3),(114,f4),(115,f5),(116,f6)] ⟨ib bd0,ib bd1,ib bd2,ib bd3,ib bd4,ib bf0,ib bf1,ib bf2,ib bf3,ib bf4,ib bf5,ib bf6,⟨⟩⟩ ⟨bd0,bd1,bd2,bd3,bd4,bf0,bf1,bf2,bf3,bf4,bf5,bf6,⟨⟩⟩ (irS (show 1*d0+(256*d1+(65536*d2+(16777216*d3+(4294967296*d4+(0)))))+0=x by omega) ix) (irS (show 1*f0+(256*f1+(65536*f2+(16777216*f3+(4294967296*f4+(1099511627776*f5+(281474976710656*f6+(0)))))))+0=y by omega) iy) w
theorem b7_10 {a0 a1 a2 a3 x y : Int} (c : Ctx a0 a1 a2 a3 x y) (ix : In x) (iy : In y) (hx : Cl7 x) (hy : Cl10 y) (w : World) : G a0 a1 a2 a3 w := by
  obtain ⟨d0, d1, d2, d3, d4, bd0, bd1, bd2, bd3, bd4, hx⟩ := hx
  obtain ⟨f0, f1, f2, f3, f4, f5, f6, f7, bf0, bf1, bf2, bf3, bf4, bf5, bf6, bf7, hy⟩ := hy
  exact fin c rtx7_10 [(100,d0),(101,d1),(102,d2),(103,d3),(104,d4),(110,f0),(111,f1),(112,f2),(113,f3),(114,f4),(115,f5),(116,f6),(117,f7)] ⟨ib bd0,ib bd1,ib bd2,ib bd3,ib bd4,ib bf0,ib bf1,ib bf2,ib bf3,ib bf4,ib bf5,ib bf6,ib bf7,⟨⟩⟩ ⟨bd0,bd1,bd2,bd3,bd4,bf0,bf1,bf2,bf3,bf4,bf5,bf6,bf7,⟨⟩⟩ (irS (show 1*d0+(256*d1+(65536*d2+(16777216*d3+(4294967296*d4+(0)))))+0=x by omega) ix) (irS (show 1*f0+(256*f1+(65536*f2+(16777216*f3+(4294967296*f4+(1099511627776*f5+(281474976710656*f6+(72057594037927936*f7+(0))))))))+0=y by omega) iy) w
theorem l3_1 {a0 a1 a2 a3 x y : Int} (c : Ctx a0 a1 a2 a3 x y) (ix : In x) (iy : In y) (p q u0 v0 : Int) (bp : 64 ≤ p ∧ p ≤ 255) (bq : 64 ≤ q ∧ q ≤ 255) (bu0 : 0 ≤ u0 ∧ u0 ≤ 255) (bv0 : 0 ≤ v0 ∧ v0 ≤ 255) (hx : x = 1 * u0 + 256 * p) (hy : y = 1 * v0 + 256 * q) (hpq : p < q) (w : World) : G a0 a1 a2 a3 w := by
  rcases pairs p q (by omega) hpq (by omega) with ⟨h, l, m, h0, l0, l1, m0, m1, ep, eq⟩ | ⟨h, l, m, h0, l0, l1, m0, m1, ep, eq⟩ | ⟨h, l, m, h0, l0, l1, m0, m1, ep, eq⟩ | ⟨h, l, m, h0, l0, l1, m0, m1, ep, eq⟩ | ⟨h, l, m, h0, l0, l1, m0, m1, ep, eq⟩ | ⟨h, l, m, h0, l0, l1, m0, m1, ep, eq⟩ | ⟨h, l, m, h0, l0, l1, m0, m1, ep, eq⟩ | ⟨h, l, m, h0, l0, l1, m0, m1, ep, eq⟩
  · have L : 64 ≤ l ∧ l ≤ 127 := by omega
    have K : 0 ≤ m ∧ m ≤ 127 := by omega
    exact fin c rtl3_1_0 [(121,l),(122,m),(100,u0),(110,v0)] ⟨ib L,ib K,ib bu0,ib bv0,⟨⟩⟩ ⟨L,K,bu0,bv0,⟨⟩⟩ (irS (show 256*l+(1*u0+(0))+0=x by omega) ix) (irS (show 256*m+(1*v0+(0))+32768=y by omega) iy) w
  · have H : 1 ≤ h ∧ h ≤ 1 := by omega
    have L : 0 ≤ l ∧ l ≤ 63 := by omega
    have K : 0 ≤ m ∧ m ≤ 63 := by omega
    exact fin c rtl3_1_1 [(120,h),(121,l),(122,m),(100,u0),(110,v0)] ⟨ib H,ib L,ib K,ib bu0,ib bv0,⟨⟩⟩ ⟨H,L,K,bu0,bv0,⟨⟩⟩ (irS (show 32768*h+(256*l+(1*u0+(0)))+0=x by omega) ix) (irS (show 32768*h+(256*m+(1*v0+(0)))+16384=y by omega) iy) w
  · have H : 1 ≤ h ∧ h ≤ 3 := by omega
    have L : 0 ≤ l ∧ l ≤ 31 := by omega
    have K : 0 ≤ m ∧ m ≤ 31 := by omega
    exact fin c rtl3_1_2 [(120,h),(121,l),(122,m),(100,u0),(110,v0)] ⟨ib H,ib L,ib K,ib bu0,ib bv0,⟨⟩⟩ ⟨H,L,K,bu0,bv0,⟨⟩⟩ (irS (show 16384*h+(256*l+(1*u0+(0)))+0=x by omega) ix) (irS (show 16384*h+(256*m+(1*v0+(0)))+8192=y by omega) iy) w
  · have H : 2 ≤ h ∧ h ≤ 7 := by omega
    have L : 0 ≤ l ∧ l ≤ 15 := by omega
    have K : 0 ≤ m ∧ m ≤ 15 := by omega
    exact fin c rtl3_1_3 [(120,h),(121,l),(122,m),(100,u0),(110,v0)] ⟨ib H,ib L,ib K,ib bu0,ib bv0,⟨⟩⟩ ⟨H,L,K,bu0,bv0,⟨⟩⟩ (irS (show 8192*h+(256*l+(1*u0+(0)))+0=x by omega) ix) (irS (show 8192*h+(256*m+(1*v0+(0)))+4096=y by omega) iy) w
  · have H : 4 ≤ h ∧ h ≤ 15 := by omega
    have L : 0 ≤ l ∧ l ≤ 7 := by omega
    have K : 0 ≤ m ∧ m ≤ 7 := by omega
    exact fin c rtl3_1_4 [(120,h),(121,l),(122,m),(100,u0),(110,v0)] ⟨ib H,ib L,ib K,ib bu0,ib bv0,⟨⟩⟩ ⟨H,L,K,bu0,bv0,⟨⟩⟩ (irS (show 4096*h+(256*l+(1*u0+(0)))+0=x by omega) ix) (irS (show 4096*h+(256*m+(1*v0+(0)))+2048=y by omega) iy) w
  · have H : 8 ≤ h ∧ h ≤ 31 := by omega
    have L : 0 ≤ l ∧ l ≤ 3 := by omega
    have K : 0 ≤ m ∧ m ≤ 3 := by omega
    exact fin c rtl3_1_5 [(120,h),(121,l),(122,m),(100,u0),(110,v0)] ⟨ib H,ib L,ib K,ib bu0,ib bv0,⟨⟩⟩ ⟨H,L,K,bu0,bv0,⟨⟩⟩ (irS (show 2048*h+(256*l+(1*u0+(0)))+0=x by omega) ix) (irS (show 2048*h+(256*m+(1*v0+(0)))+1024=y by omega) iy) w
  · have H : 16 ≤ h ∧ h ≤ 63 := by omega
    have L : 0 ≤ l ∧ l ≤ 1 := by omega
    have K : 0 ≤ m ∧ m ≤ 1 := by omega
    exact fin c rtl3_1_6 [(120,h),(121,l),(122,m),(100,u0),(110,v0)] ⟨ib H,ib L,ib K,ib bu0,ib bv0,⟨⟩⟩ ⟨H,L,K,bu0,bv0,⟨⟩⟩ (irS (show 1024*h+(256*l+(1*u0+(0)))+0=x by omega) ix) (irS (show 1024*h+(256*m+(1*v0+(0)))+512=y by omega) iy) w
  · have H : 32 ≤ h ∧ h ≤ 127 := by omega
    exact fin c rtl3_1_7 [(120,h),(100,u0),(110,v0)] ⟨ib H,ib bu0,ib bv0,⟨⟩⟩ ⟨H,bu0,bv0,⟨⟩⟩ (irS (show 512*h+(1*u0+(0))+0=x by omega) ix) (irS (show 512*h+(1*v0+(0))+256=y by omega) iy) w
theorem g3_1 {a0 a1 a2 a3 x y : Int} (c : Ctx a0 a1 a2 a3 x y) (ix : In x) (iy : In y) (p q u0 v0 : Int) (bp : 64 ≤ p ∧ p ≤ 255) (bq : 64 ≤ q ∧ q ≤ 255) (bu0 : 0 ≤ u0 ∧ u0 ≤ 255) (bv0 : 0 ≤ v0 ∧ v0 ≤ 255) (hx : x = 1 * u0 + 256 * p) (hy : y = 1 * v0 + 256 * q) (hpq : q < p) (w : World) : G a0 a1 a2 a3 w := by
  rcases pairs q p (by omega) hpq (by omega) with ⟨h, l, m, h0, l0, l1, m0, m1, ep, eq⟩ | ⟨h, l, m, h0, l0, l1, m0, m1, ep, eq⟩ | ⟨h, l, m, h0, l0, l1, m0, m1, ep, eq⟩ | ⟨h, l, m, h0, l0, l1, m0, m1, ep, eq⟩ | ⟨h, l, m, h0, l0, l1, m0, m1, ep, eq⟩ | ⟨h, l, m, h0, l0, l1, m0, m1, ep, eq⟩ | ⟨h, l, m, h0, l0, l1, m0, m1, ep, eq⟩ | ⟨h, l, m, h0, l0, l1, m0, m1, ep, eq⟩
  · have L : 64 ≤ l ∧ l ≤ 127 := by omega
    have K : 0 ≤ m ∧ m ≤ 127 := by omega
    exact fin c rtg3_1_0 [(121,l),(122,m),(100,u0),(110,v0)] ⟨ib L,ib K,ib bu0,ib bv0,⟨⟩⟩ ⟨L,K,bu0,bv0,⟨⟩⟩ (irS (show 256*m+(1*u0+(0))+32768=x by omega) ix) (irS (show 256*l+(1*v0+(0))+0=y by omega) iy) w
  · have H : 1 ≤ h ∧ h ≤ 1 := by omega
    have L : 0 ≤ l ∧ l ≤ 63 := by omega
    have K : 0 ≤ m ∧ m ≤ 63 := by omega
    exact fin c rtg3_1_1 [(120,h),(121,l),(122,m),(100,u0),(110,v0)] ⟨ib H,ib L,ib K,ib bu0,ib bv0,⟨⟩⟩ ⟨H,L,K,bu0,bv0,⟨⟩⟩ (irS (show 32768*h+(256*m+(1*u0+(0)))+16384=x by omega) ix) (irS (show 32768*h+(256*l+(1*v0+(0)))+0=y by omega) iy) w
  · have H : 1 ≤ h ∧ h ≤ 3 := by omega
    have L : 0 ≤ l ∧ l ≤ 31 := by omega
    have K : 0 ≤ m ∧ m ≤ 31 := by omega
    exact fin c rtg3_1_2 [(120,h),(121,l),(122,m),(100,u0),(110,v0)] ⟨ib H,ib L,ib K,ib bu0,ib bv0,⟨⟩⟩ ⟨H,L,K,bu0,bv0,⟨⟩⟩ (irS (show 16384*h+(256*m+(1*u0+(0)))+8192=x by omega) ix) (irS (show 16384*h+(256*l+(1*v0+(0)))+0=y by omega) iy) w
  · have H : 2 ≤ h ∧ h ≤ 7 := by omega
    have L : 0 ≤ l ∧ l ≤ 15 := by omega
    have K : 0 ≤ m ∧ m ≤ 15 := by omega
    exact fin c rtg3_1_3 [(120,h),(121,l),(122,m),(100,u0),(110,v0)] ⟨ib H,ib L,ib K,ib bu0,ib bv0,⟨⟩⟩ ⟨H,L,K,bu0,bv0,⟨⟩⟩ (irS (show 8192*h+(256*m+(1*u0+(0)))+4096=x by omega) ix) (irS (show 8192*h+(256*l+(1*v0+(0)))+0=y by omega) iy) w
  · have H : 4 ≤ h ∧ h ≤ 15 := by omega
    have L : 0 ≤ l ∧ l ≤ 7 := by omega
    have K : 0 ≤ m ∧ m ≤ 7 := by omega
    exact fin c rtg3_1_4 [(120,h),(121,l),(122,m),(100,u0),(110,v0)] ⟨ib H,ib L,ib K,ib bu0,ib bv0,⟨⟩⟩ ⟨H,L,K,bu0,bv0,⟨⟩⟩ (irS (show 4096*h+(256*m+(1*u0+(0)))+2048=x by omega) ix) (irS (show 4096*h+(256*l+(1*v0+(0)))+0=y by omega) iy) w
  · have H : 8 ≤ h ∧ h ≤ 31 := by omega
    have L : 0 ≤ l ∧ l ≤ 3 := by omega
    have K : 0 ≤ m ∧ m ≤ 3 := by omega
    exact fin c rtg3_1_5 [(120,h),(121,l),(122,m),(100,u0),(110,v0)] ⟨ib H,ib L,ib K,ib bu0,ib bv0,⟨⟩⟩ ⟨H,L,K,bu0,bv0,⟨⟩⟩ (irS (show 2048*h+(256*m+(1*u0+(0)))+1024=x by omega) ix) (irS (show 2048*h+(256*l+(1*v0+(0)))+0=y by omega) iy) w
  · have H : 16 ≤ h ∧ h ≤ 63 := by omega
    have L : 0 ≤ l ∧ l ≤ 1 := by omega
    have K : 0 ≤ m ∧ m ≤ 1 := by omega
    exact fin c rtg3_1_6 [(120,h),(121,l),(122,m),(100,u0),(110,v0)] ⟨ib H,ib L,ib K,ib bu0,ib bv0,⟨⟩⟩ ⟨H,L,K,bu0,bv0,⟨⟩⟩ (irS (show 1024*h+(256*m+(1*u0+(0)))+512=x by omega) ix) (irS (show 1024*h+(256*l+(1*v0+(0)))+0=y by omega) iy) w
  · have H : 32 ≤ h ∧ h ≤ 127 := by omega
    exact fin c rtg3_1_7 [(120,h),(100,u0),(110,v0)] ⟨ib H,ib bu0,ib bv0,⟨⟩⟩ ⟨H,bu0,bv0,⟨⟩⟩ (irS (show 512*h+(1*u0+(0))+256=x by omega) ix) (irS (show 512*h+(1*v0+(0))+0=y by omega) iy) w
theorem l3_0 {a0 a1 a2 a3 x y : Int} (c : Ctx a0 a1 a2 a3 x y) (ix : In x) (iy : In y) (d1 p q : Int) (bd1 : 64 ≤ d1 ∧ d1 ≤ 255) (bp : 0 ≤ p ∧ p ≤ 255) (bq : 0 ≤ q ∧ q ≤ 255) (hx : x = 1 * p + 256 * d1) (hy : y = 1 * q + 256 * d1) (hpq : p < q) (w : World) : G a0 a1 a2 a3 w := by
  rcases pairs p q (by omega) hpq (by omega) with ⟨h, l, m, h0, l0, l1, m0, m1, ep, eq⟩ | ⟨h, l, m, h0, l0, l1, m0, m1, ep, eq⟩ | ⟨h, l, m, h0, l0, l1, m0, m1, ep, eq⟩ | ⟨h, l, m, h0, l0, l1, m0, m1, ep, eq⟩ | ⟨h, l, m, h0, l0, l1, m0, m1, ep, eq⟩ | ⟨h, l, m, h0, l0, l1, m0, m1, ep, eq⟩ | ⟨h, l, m, h0, l0, l1, m0, m1, ep, eq⟩ | ⟨h, l, m, h0, l0, l1, m0, m1, ep, eq⟩
  · have L : 0 ≤ l ∧ l ≤ 127 := by omega
    have K : 0 ≤ m ∧ m ≤ 127 := by omega
    exact fin c rtl3_0_0 [(101,d1),(121,l),(122,m)] ⟨ib bd1,ib L,ib K,⟨⟩⟩ ⟨bd1,L,K,⟨⟩⟩ (irS (show 256*d1+(1*l+(0))+0=x by omega) ix) (irS (show 256*d1+(1*m+(0))+128=y by omega) iy) w
  · have H : 0 ≤ h ∧ h ≤ 1 := by omega
    have L : 0 ≤ l ∧ l ≤ 63 := by omega
    have K : 0 ≤ m ∧ m ≤ 63 := by omega
    exact fin c rtl3_0_1 [(101,d1),(120,h),(121,l),(122,m)] ⟨ib bd1,ib H,ib L,ib K,⟨⟩⟩ ⟨bd1,H,L,K,⟨⟩⟩ (irS (show 256*d1+(128*h+(1*l+(0)))+0=x by omega) ix) (irS (show 256*d1+(128*h+(1*m+(0)))+64=y by omega) iy) w
  · have H : 0 ≤ h ∧ h ≤ 3 := by omega
    have L : 0 ≤ l ∧ l ≤ 31 := by omega
    have K : 0 ≤ m ∧ m ≤ 31 := by omega
    exact fin c rtl3_0_2 [(101,d1),(120,h),(121,l),(122,m)] ⟨ib bd1,ib H,ib L,ib K,⟨⟩⟩ ⟨bd1,H,L,K,⟨⟩⟩ (irS (show 256*d1+(64*h+(1*l+(0)))+0=x by omega) ix) (irS (show 256*d1+(64*h+(1*m+(0)))+32=y by omega) iy) w
  · have H : 0 ≤ h ∧ h ≤ 7 := by omega
    have L : 0 ≤ l ∧ l ≤ 15 := by omega
    have K : 0 ≤ m ∧ m ≤ 15 := by omega
    exact fin c rtl3_0_3 [(101,d1),(120,h),(121,l),(122,m)] ⟨ib bd1,ib H,ib L,ib K,⟨⟩⟩ ⟨bd1,H,L,K,⟨⟩⟩ (irS (show 256*d1+(32*h+(1*l+(0)))+0=x by omega) ix) (irS (show 256*d1+(32*h+(1*m+(0)))+16=y by omega) iy) w
  · have H : 0 ≤ h ∧ h ≤ 15 := by omega
    have L : 0 ≤ l ∧ l ≤ 7 := by omega
    have K : 0 ≤ m ∧ m ≤ 7 := by omega
    exact fin c rtl3_0_4 [(101,d1),(120,h),(121,l),(122,m)] ⟨ib bd1,ib H,ib L,ib K,⟨⟩⟩ ⟨bd1,H,L,K,⟨⟩⟩ (irS (show 256*d1+(16*h+(1*l+(0)))+0=x by omega) ix) (irS (show 256*d1+(16*h+(1*m+(0)))+8=y by omega) iy) w
  · have H : 0 ≤ h ∧ h ≤ 31 := by omega
    have L : 0 ≤ l ∧ l ≤ 3 := by omega
    have K : 0 ≤ m ∧ m ≤ 3 := by omega
    exact fin c rtl3_0_5 [(101,d1),(120,h),(121,l),(122,m)] ⟨ib bd1,ib H,ib L,ib K,⟨⟩⟩ ⟨bd1,H,L,K,⟨⟩⟩ (irS (show 256*d1+(8*h+(1*l+(0)))+0=x by omega) ix) (irS (show 256*d1+(8*h+(1*m+(0)))+4=y by omega) iy) w
  · have H : 0 ≤ h ∧ h ≤ 63 := by omega
    have L : 0 ≤ l ∧ l ≤ 1 := by omega
    have K : 0 ≤ m ∧ m ≤ 1 := by omega
    exact fin c rtl3_0_6 [(101,d1),(120,h),(121,l),(122,m)] ⟨ib bd1,ib H,ib L,ib K,⟨⟩⟩ ⟨bd1,H,L,K,⟨⟩⟩ (irS (show 256*d1+(4*h+(1*l+(0)))+0=x by omega) ix) (irS (show 256*d1+(4*h+(1*m+(0)))+2=y by omega) iy) w
  · have H : 0 ≤ h ∧ h ≤ 127 := by omega
    exact fin c rtl3_0_7 [(101,d1),(120,h)] ⟨ib bd1,ib H,⟨⟩⟩ ⟨bd1,H,⟨⟩⟩ (irS (show 256*d1+(2*h+(0))+0=x by omega) ix) (irS (show 256*d1+(2*h+(0))+1=y by omega) iy) w
theorem g3_0 {a0 a1 a2 a3 x y : Int} (c : Ctx a0 a1 a2 a3 x y) (ix : In x) (iy : In y) (d1 p q : Int) (bd1 : 64 ≤ d1 ∧ d1 ≤ 255) (bp : 0 ≤ p ∧ p ≤ 255) (bq : 0 ≤ q ∧ q ≤ 255) (hx : x = 1 * p + 256 * d1) (hy : y = 1 * q + 256 * d1) (hpq : q < p) (w : World) : G a0 a1 a2 a3 w := by
  rcases pairs q p (by omega) hpq (by omega) with ⟨h, l, m, h0, l0, l1, m0, m1, ep, eq⟩ | ⟨h, l, m, h0, l0, l1, m0, m1, ep, eq⟩ | ⟨h, l, m, h0, l0, l1, m0, m1, ep, eq⟩ | ⟨h, l, m, h0, l0, l1, m0, m1, ep, eq⟩ | ⟨h, l, m, h0, l0, l1, m0, m1, ep, eq⟩ | ⟨h, l, m, h0, l0, l1, m0, m1, ep, eq⟩ | ⟨h, l, m, h0, l0, l1, m0, m1, ep, eq⟩ | ⟨h, l, m, h0, l0, l1, m0, m1, ep, eq⟩
  · have L : 0 ≤ l ∧ l ≤ 127 := by omega
    have K : 0 ≤ m ∧ m ≤ 127 := by omega
    exact fin c rtg3_0_0 [(101,d1),(121,l),(122,m)] ⟨ib bd1,ib L,ib K,⟨⟩⟩ ⟨bd1,L,K,⟨⟩⟩ (irS (show 256*d1+(1*m+(0))+128=x by omega) ix) (irS (show 256*d1+(1*l+(0))+0=y by omega) iy) w
  · have H : 0 ≤ h ∧ h ≤ 1 := by omega
    have L : 0 ≤ l ∧ l ≤ 63 := by omega
    have K : 0 ≤ m ∧ m ≤ 63 := by omega
    exact fin c rtg3_0_1 [(101,d1),(120,h),(121,l),(122,m)] ⟨ib bd1,ib H,ib L,ib K,⟨⟩⟩ ⟨bd1,H,L,K,⟨⟩⟩ (irS (show 256*d1+(128*h+(1*m+(0)))+64=x by omega) ix) (irS (show 256*d1+(128*h+(1*l+(0)))+0=y by omega) iy) w
  · have H : 0 ≤ h ∧ h ≤ 3 := by omega
    have L : 0 ≤ l ∧ l ≤ 31 := by omega
    have K : 0 ≤ m ∧ m ≤ 31 := by omega
    exact fin c rtg3_0_2 [(101,d1),(120,h),(121,l),(122,m)] ⟨ib bd1,ib H,ib L,ib K,⟨⟩⟩ ⟨bd1,H,L,K,⟨⟩⟩ (irS (show 256*d1+(64*h+(1*m+(0)))+32=x by omega) ix) (irS (show 256*d1+(64*h+(1*l+(0)))+0=y by omega) iy) w
  · have H : 0 ≤ h ∧ h ≤ 7 := by omega
    have L : 0 ≤ l ∧ l ≤ 15 := by omega
    have K : 0 ≤ m ∧ m ≤ 15 := by omega
    exact fin c rtg3_0_3 [(101,d1),(120,h),(121,l),(122,m)] ⟨ib bd1,ib H,ib L,ib K,⟨⟩⟩ ⟨bd1,H,L,K,⟨⟩⟩ (irS (show 256*d1+(32*h+(1*m+(0)))+16=x by omega) ix) (irS (show 256*d1+(32*h+(1*l+(0)))+0=y by omega) iy) w
  · have H : 0 ≤ h ∧ h ≤ 15 := by omega
    have L : 0 ≤ l ∧ l ≤ 7 := by omega
    have K : 0 ≤ m ∧ m ≤ 7 := by omega
    exact fin c rtg3_0_4 [(101,d1),(120,h),(121,l),(122,m)] ⟨ib bd1,ib H,ib L,ib K,⟨⟩⟩ ⟨bd1,H,L,K,⟨⟩⟩ (irS (show 256*d1+(16*h+(1*m+(0)))+8=x by omega) ix) (irS (show 256*d1+(16*h+(1*l+(0)))+0=y by omega) iy) w
  · have H : 0 ≤ h ∧ h ≤ 31 := by omega
    have L : 0 ≤ l ∧ l ≤ 3 := by omega
    have K : 0 ≤ m ∧ m ≤ 3 := by omega
    exact fin c rtg3_0_5 [(101,d1),(120,h),(121,l),(122,m)] ⟨ib bd1,ib H,ib L,ib K,⟨⟩⟩ ⟨bd1,H,L,K,⟨⟩⟩ (irS (show 256*d1+(8*h+(1*m+(0)))+4=x by omega) ix) (irS (show 256*d1+(8*h+(1*l+(0)))+0=y by omega) iy) w
  · have H : 0 ≤ h ∧ h ≤ 63 := by omega
    have L : 0 ≤ l ∧ l ≤ 1 := by omega
    have K : 0 ≤ m ∧ m ≤ 1 := by omega
    exact fin c rtg3_0_6 [(101,d1),(120,h),(121,l),(122,m)] ⟨ib bd1,ib H,ib L,ib K,⟨⟩⟩ ⟨bd1,H,L,K,⟨⟩⟩ (irS (show 256*d1+(4*h+(1*m+(0)))+2=x by omega) ix) (irS (show 256*d1+(4*h+(1*l+(0)))+0=y by omega) iy) w
  · have H : 0 ≤ h ∧ h ≤ 127 := by omega
    exact fin c rtg3_0_7 [(101,d1),(120,h)] ⟨ib bd1,ib H,⟨⟩⟩ ⟨bd1,H,⟨⟩⟩ (irS (show 256*d1+(2*h+(0))+1=x by omega) ix) (irS (show 256*d1+(2*h+(0))+0=y by omega) iy) w
theorem e3 {a0 a1 a2 a3 x y : Int} (c : Ctx a0 a1 a2 a3 x y) (ix : In x) (iy : In y) (d0 d1 : Int) (bd0 : 0 ≤ d0 ∧ d0 ≤ 255) (bd1 : 64 ≤ d1 ∧ d1 ≤ 255) (hx : x = 1 * d0 + 256 * d1) (hy : y = 1 * d0 + 256 * d1) (w : World) : G a0 a1 a2 a3 w :=
  fin c rte3 [(100,d0),(101,d1)] ⟨ib bd0,ib bd1,⟨⟩⟩ ⟨bd0,bd1,⟨⟩⟩ (irS (show 1*d0+(256*d1+(0))+0=x by omega) ix) (irS (show 1*d0+(256*d1+(0))+0=y by omega) iy) w
theorem b3_3 {a0 a1 a2 a3 x y : Int} (c : Ctx a0 a1 a2 a3 x y) (ix : In x) (iy : In y) (hx : Cl3 x) (hy : Cl3 y) (w : World) : G a0 a1 a2 a3 w := by
  obtain ⟨d0, d1, bd0, bd1, hx⟩ := hx
  obtain ⟨f0, f1, bf0, bf1, hy⟩ := hy
  rcases Int.lt_trichotomy d1 f1 with hlt | he1 | hlt
  · exact l3_1 c ix iy d1 f1 d0 f0 bd1 bf1 bd0 bf0 hx hy hlt w
  rotate_left
  · exact g3_1 c ix iy d1 f1 d0 f0 bd1 bf1 bd0 bf0 hx hy hlt w
  subst he1
  rcases Int.lt_trichotomy d0 f0 with hlt | he0 | hlt
  · exact l3_0 c ix iy d1 d0 f0 bd1 bd0 bf0 hx hy hlt w
  rotate_left
  · exact g3_0 c ix iy d1 d0 f0 bd1 bd0 bf0 hx hy hlt w
  subst he0
  exact e3 c ix iy d0 d1 bd0 bd1 hx hy w
theorem b3_0 {a0 a1 a2 a3 x y : Int} (c : Ctx a0 a1 a2 a3 x y) (ix : In x) (iy : In y) (hx : Cl3 x) (hy : Cl0 y) (w : World) : G a0 a1 a2 a3 w := by
  obtain ⟨d0, d1, bd0, bd1, hx⟩ := hx
  obtain ⟨f0, bf0, hy⟩ := hy
  exact fin c rtx3_0 [(100,d0),(101,d1),(110,f0)] ⟨ib bd0,ib bd1,ib bf0,⟨⟩⟩ ⟨bd0,bd1,bf0,⟨⟩⟩ (irS (show 1*d0+(256*d1+(0))+0=x by omega) ix) (irS (show 1*f0+(0)+0=y by omega) iy) w
theorem b3_1 {a0 a1 a2 a3 x y : Int} (c : Ctx a0 a1 a2 a3 x y) (ix : In x) (iy : In y) (hx : Cl3 x) (hy : Cl1 y) (w : World) : G a0 a1 a2 a3 w := by
  obtain ⟨d0, d1, bd0, bd1, hx⟩ := hx
  obtain ⟨f0, bf0, hy⟩ := hy
  exact fin c rtx3_1 [(100,d0),(101,d1),(110,f0)] ⟨ib bd0,ib bd1,ib bf0,⟨⟩⟩ ⟨bd0,bd1,bf0,⟨⟩⟩ (irS (show 1*d0+(256*d1+(0))+0=x by omega) ix) (irS (show 1*f0+(0)+0=y by omega) iy) w
theorem b3_2 {a0 a1 a2 a3 x y : Int} (c : Ctx a0 a1 a2 a3 x y) (ix : In x) (iy : In y) (hx : Cl3 x) (hy : Cl2 y) (w : World) : G a0 a1 a2 a3 w := by
  obtain ⟨d0, d1, bd0, bd1, hx⟩ := hx
  obtain ⟨f0, f1, bf0, bf1, hy⟩ := hy
  exact fin c rtx3_2 [(100,d0),(101,d1),(110,f0),(111,f1)] ⟨ib bd0,ib bd1,ib bf0,ib bf1,⟨⟩⟩ ⟨bd0,bd1,bf0,bf1,⟨⟩⟩ (irS (show 1*d0+(256*d1+(0))+0=x by omega) ix) (irS (show 1*f0+(256*f1+(0))+0=y by omega) iy) w
theorem b3_4 {a0 a1 a2 a3 x y : Int} (c : Ctx a0 a1 a2 a3 x y) (ix : In x) (iy : In y) (hx : Cl3 x) (hy : Cl4 y) (w : World) : G a0 a1 a2 a3 w := by
  obtain ⟨d0, d1, bd0, bd1, hx⟩ := hx
  obtain ⟨f0, f1, f2, bf0, bf1, bf2, hy⟩ := hy
  exact fin c rtx3_4 [(100,d0),(101,d1),(110,f0),(111,f1),(112,f2)] ⟨ib bd0,ib bd1,ib bf0,ib bf1,ib bf2,⟨⟩⟩ ⟨bd0,bd1,bf0,bf1,bf2,⟨⟩⟩ (irS (show 1*d0+(256*d1+(0))+0=x by omega) ix) (irS (show 1*f0+(256*f1+(65536*f2+(0)))+0=y by omega) iy) w
theorem b3_5 {a0 a1 a2 a3 x y : Int} (c : Ctx a0 a1 a2 a3 x y) (ix : In x) (iy : In y) (hx : Cl3 x) (hy : Cl5 y) (w : World) : G a0 a1 a2 a3 w := by
  obtain ⟨d0, d1, bd0, bd1, hx⟩ := hx
  obtain ⟨f0, f1, f2, f3, bf0, bf1, bf2, bf3, hy⟩ := hy
  exact fin c rtx3_5 [(100,d0),(101,d1),(110,f0),(111,f1),(112,f2),(113,f3)] ⟨ib bd0,ib bd1,ib bf0,ib bf1,ib bf2,ib bf3,⟨⟩⟩ ⟨bd0,bd1,bf0,bf1,bf2,bf3,⟨⟩⟩ (irS (show 1*d0+(256*d1+(0))+0=x by omega) ix) (irS (show 1*f0+(256*f1+(65536*f2+(16777216*f3+(0))))+0=y by omega) iy) w
theorem b3_6 {a0 a1 a2 a3 x y : Int} (c : Ctx a0 a1 a2 a3 x y) (ix : In x) (iy : In y) (hx : Cl3 x) (hy : Cl6 y) (w : World) : G a0 a1 a2 a3 w := by
  obtain ⟨d0, d1, bd0, bd1, hx⟩ := hx
  obtain ⟨f0, f1, f2, f3, bf0, bf1, bf2, bf3, hy⟩ := hy
  exact fin c rtx3_6 [(100,d0),(101,d1),(110,f0),(111,f1),(112,f2),(113,f3)] ⟨ib bd0,ib bd1,ib bf0,ib bf1,ib bf2,ib bf3,⟨⟩⟩ ⟨bd0,bd1,bf0,bf1,bf2,bf3,⟨⟩⟩ (irS (show 1*d0+(256*d1+(0))+0=x by omega) ix) (irS (show 1*f0+(256*f1+(65536*f2+(16777216*f3+(0))))+0=y by omega) iy) w
theorem b3_7 {a0 a1 a2 a3 x y : Int} (c : Ctx a0 a1 a2 a3 x y) (ix : In x) (iy : In y) (hx : Cl3 x) (hy : Cl7 y) (w : World) : G a0 a1 a2 a3 w := by
  obtain ⟨d0, d1, bd0, bd1, hx⟩ := hx
  obtain ⟨f0, f1, f2, f3, f4, bf0, bf1, bf2, bf3, bf4, hy⟩ := hy
  exact fin c rtx3_7 [(100,d0),(101,d1),(110,f0),(111,f1),(112,f2),(113,f3),(114,f4)] ⟨ib bd0,ib bd1,ib bf0,ib bf1,ib bf2,ib bf3,ib bf4,⟨⟩⟩ ⟨bd0,bd1,bf0,bf1,bf2,bf3,bf4,⟨⟩⟩ (irS (show 1*d0+(256*d1+(0))+0=x by omega) ix) (irS (show 1*f0+(256*f1+(65536*f2+(16777216*f3+(4294967296*f4+(0)))))+0=y by omega) iy) w
theorem b3_8 {a0 a1 a2 a3 x y : Int} (c : Ctx a0 a1 a2 a3 x y) (ix : In x) (iy : In y) (hx : Cl3 x) (hy : Cl8 y) (w : World) : G a0 a1 a2 a3 w := by
  obtain ⟨d0, d1, bd0, bd1, hx⟩ := hx
  obtain ⟨f0, f1, f2, f3, f4, f5, bf0, bf1, bf2, bf3, bf4, bf5, hy⟩ := hy
  exact fin c rtx3_8 [(100,d0),(101,d1),(110,f0),(111,f1),(112,f2),(113,f3),(114,f4),(115,f5)] ⟨ib bd0,ib bd1,ib bf0,ib bf1,ib bf2,ib bf3,ib bf4,ib bf5,⟨⟩⟩ ⟨bd0,bd1,bf0,bf1,bf2,bf3,bf4,bf5,⟨⟩⟩ (irS (show 1*d0+(256*d1+(0))+0=x by omega) ix) (irS (show 1*f0+(256*f1+(65536*f2+(16777216*f3+(4294967296*f4+(1099511627776*f5+(0))))))+0=y by omega) iy) w
theorem b3_9 {a0 a1 a2 a3 x y : Int} (c : Ctx a0 a1 a2 a3 x y) (ix : In x) (iy : In y) (hx : Cl3 x) (hy : Cl9 y) (w : World) : G a0 a1 a2 a3 w := by
  obtain ⟨d0, d1, bd0, bd1, hx⟩ := hx
  obtain ⟨f0, f1, f2, f3, f4, f5, f6, bf0, bf1, bf2, bf3, bf4, bf5, bf6, hy⟩ := hy
  exact fin c rtx3_9 [(100,d0),(101,d1),(110,f0),(111,f1),(112,f2),(113,f3),(114,f4),(115,f5),(116,f6)] ⟨ib bd0,ib bd1,ib bf0,ib bf1,ib bf2,ib bf3,ib bf4,ib bf5,ib bf6,⟨⟩⟩ ⟨bd0,bd1,bf0,bf1,bf2,bf3,bf4,bf5,bf6,⟨⟩⟩ (irS (show 1*d0+(256*d1+(0))+0=x by omega) ix) (irS (show 1*f0+(256*f1+(65536*f2+(16777216*f3+(4294967296*f4+(1099511627776*f5+(281474976710656*f6+(0)))))))+0=y by omega) iy) w
theorem b3_10 {a0 a1 a2 a3 x y : Int} (c : Ctx a0 a1 a2 a3 x y) (ix : In x) (iy : In y) (hx : Cl3 x) (hy : Cl10 y) (w : World) : G a0 a1 a2 a3 w := by
  obtain ⟨d0, d1, bd0, bd1, hx⟩ := hx
  obtain ⟨f0, f1, f2, f3, f4, f5, f6, f7, bf0, bf1, bf2, bf3, bf4, bf5, bf6, bf7, hy⟩ := hy
  exact fin c rtx3_10 [(100,d0),(101,d1),(110,f0),(111,f1),(112,f2),(113,f3),(114,f4),(115,f5),(116,f6),(117,f7)] ⟨ib bd0,ib bd1,ib bf0,ib bf1,ib bf2,ib bf3,ib bf4,ib bf5,ib bf6,ib bf7,⟨⟩⟩ ⟨bd0,bd1,bf0,bf1,bf2,bf3,bf4,bf5,bf6,bf7,⟨⟩⟩ (irS (show 1*d0+(256*d1+(0))+0=x by omega) ix) (irS (show 1*f0+(256*f1+(65536*f2+(16777216*f3+(4294967296*f4+(1099511627776*f5+(281474976710656*f6+(72057594037927936*f7+(0))))))))+0=y by omega) iy) w
end Go.Proofs.Ytmbimlnanfholaa.vintOrderRun
