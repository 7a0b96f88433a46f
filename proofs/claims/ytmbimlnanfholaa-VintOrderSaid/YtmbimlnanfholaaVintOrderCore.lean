/- How a run of VintOrder tells of two numbers; the digits of a number. -/
import Derived.Test.YtmbimlnanfholaaVintOrderN
namespace Go.Proofs.Ytmbimlnanfholaa.vintOrderRun
open Go.Vm Go.RowKit
set_option linter.unusedVariables false
set_option linter.unusedSimpArgs false
set_option maxRecDepth 1000000
def G (a0 a1 a2 a3 : Int) (w : World) : Prop := Calls Try.prog 7 #[.int .i64 a0, .int .i64 a1, .int .i64 a2, .int .i64 a3] w fun e w' => e = .returned (.bool true) ∧ Below w.heap.size w w'
def In (x : Int) : Prop := -9223372036854775808 ≤ x ∧ x ≤ 9223372036854775807
theorem inb {d lo hi : Int} (h : lo ≤ d ∧ d ≤ hi) (h1 : -9223372036854775808 ≤ lo) (h2 : hi ≤ 9223372036854775807) : In d := ⟨by omega, by omega⟩
theorem ib {d lo hi : Int} (h : lo ≤ d ∧ d ≤ hi) (h1 : (decide (-9223372036854775808 ≤ lo) && decide (hi ≤ 9223372036854775807)) = true := by decide) : In d := by
  simp only [Bool.and_eq_true, decide_eq_true_eq] at h1
  exact inb h h1.1 h1.2
theorem wr {x : Int} (h : In x) : IntKind.i64.wrap x = x := wrap_in (k := .i64) h.1 h.2
def rho : List (Nat × Int) → Nat → Int
  | [] => fun _ => 0
  | p :: r => fun i => if i = p.1 then p.2 else rho r i
def inAll : List (Nat × Int) → Prop
  | [] => True
  | p :: r => In p.2 ∧ inAll r
theorem rho_in : ∀ {L : List (Nat × Int)}, inAll L → ∀ i, In (rho L i) := by
  intro L
  induction L with
  | nil => intro _ i; exact ⟨by show _ ≤ (0 : Int); decide, by show (0 : Int) ≤ _; decide⟩
  | cons p r ih =>
    intro h i
    simp only [rho]
    split
    · exact h.1
    · exact ih h.2 i
def bdAll (ρ : Nat → Int) : List (Nat × Int × Int) → Prop
  | [] => True
  | p :: r => (p.2.1 ≤ ρ p.1 ∧ ρ p.1 ≤ p.2.2) ∧ bdAll ρ r
theorem bdo_ok {ρ : Nat → Int} (hI : ∀ i, In (ρ i)) : ∀ {L : List (Nat × Int × Int)}, bdAll ρ L → ∀ i, (bdo L i).1 ≤ ρ i ∧ ρ i ≤ (bdo L i).2 := by
  intro L
  induction L with
  | nil => intro _ i; exact hI i
  | cons p r ih =>
    intro h i
    simp only [bdo]
    rw [cnd_eq]
    split
    · rename_i he; rw [Nat.eq_of_beq_eq_true he]; exact h.1
    · exact ih h.2 i
theorem irS {ρ : Nat → Int} {ts : List (Nat × Int)} {d x : Int} (h : lin ρ ts + d = x) (hx : In x) : IR ρ .i64 (.s ts d) x := by
  show x = IntKind.i64.wrap (lin ρ ts + d)
  rw [h, wr hx]
/-- two numbers, and what N makes of them -/
structure Ctx (a0 a1 a2 a3 x y : Int) : Prop where
  i0 : In a0
  i1 : In a1
  i2 : In a2
  i3 : In a3
  n0 : ∀ w, Calls Try.prog 28 #[.int .i64 a0, .int .i64 a2] w fun e w' => e = .returned (.int .i64 x) ∧ Below w.heap.size w w'
  n1 : ∀ w, Calls Try.prog 28 #[.int .i64 a1, .int .i64 a3] w fun e w' => e = .returned (.int .i64 y) ∧ Below w.heap.size w w'
theorem core {a0 a1 a2 a3 x y : Int} (c : Ctx a0 a1 a2 a3 x y) (ρ : Nat → Int) (q0 : ρ 0 = a0) (q1 : ρ 1 = a1) (q2 : ρ 2 = a2) (q3 : ρ 3 = a3) (hI : ∀ i, In (ρ i)) (L : List (Nat × Int × Int)) (hL : bdAll ρ L) (X Y : AI) (hX : IR ρ .i64 X x) (hY : IR ρ .i64 Y y) (hr : runo X Y L = true) (w : World) : G a0 a1 a2 a3 w := by
  have iq : ∀ (i : Nat) (a : Int), ρ i = a → In a → IR ρ .i64 (.s [(i, 1)] 0) a := fun i a q h => ir_sym (by rw [q, wr h])
  have qi : ∀ (i : Nat) (a z : Int), ρ i = a → In a → IR ρ .i64 (.s [(i, 1)] 0) z → z = a := fun i a z q h hz => by rw [ir_inv hz, q, wr h]
  have hh : EntryOk ρ Try.prog 13 (.hook (hookG [])) := hookG_entry (fn := Try.f13) Try.func13 rfl rfl (by intro p hp; cases hp)
  have hg : EntryOk ρ Try.prog 28 (.hook (hookG (hkn X Y))) := by
    refine hookG_entry (fn := Try.f28) Try.func28 rfl rfl ?_
    intro p hp u v hu hv w
    simp only [hkn, List.mem_cons, List.not_mem_nil, or_false] at hp
    rcases hp with rfl | rfl
    · obtain rfl := qi 0 a0 u q0 c.i0 hu
      obtain rfl := qi 2 a2 v q2 c.i2 hv
      exact ⟨x, hX, c.n0 w⟩
    · obtain rfl := qi 1 a1 u q1 c.i1 hu
      obtain rfl := qi 3 a3 v q3 c.i3 hv
      exact ⟨y, hY, c.n1 w⟩
  have hv : VRs ρ env0 args [.int .i64 a0, .int .i64 a1, .int .i64 a2, .int .i64 a3] := .cons (.int (iq 0 a0 q0 c.i0)) (.cons (.int (iq 1 a1 q1 c.i1)) (.cons (.int (iq 2 a2 q2 c.i2)) (.cons (.int (iq 3 a3 q3 c.i3)) .nil)))
  exact law_ok (bdo_ok hI hL) mixed (tab2_all ρ _ hh _ hg) rfl hv hr w
theorem fin {a0 a1 a2 a3 x y : Int} (c : Ctx a0 a1 a2 a3 x y) {X Y : AI} {L : List (Nat × Int × Int)} (hr : runo X Y L = true) (D : List (Nat × Int)) (hD : inAll D) (hL : bdAll (rho ((0, a0) :: (1, a1) :: (2, a2) :: (3, a3) :: D)) L) (hX : IR (rho ((0, a0) :: (1, a1) :: (2, a2) :: (3, a3) :: D)) .i64 X x) (hY : IR (rho ((0, a0) :: (1, a1) :: (2, a2) :: (3, a3) :: D)) .i64 Y y) (w : World) : G a0 a1 a2 a3 w :=
  core c _ rfl rfl rfl rfl (rho_in (show inAll ((0, a0) :: (1, a1) :: (2, a2) :: (3, a3) :: D) from ⟨c.i0, c.i1, c.i2, c.i3, hD⟩)) L hL X Y hX hY hr w
/-- at which bit two bytes part -/
def Pr (k p q h l m : Int) : Prop := 0 ≤ h ∧ 0 ≤ l ∧ l < k ∧ 0 ≤ m ∧ m < k ∧ p = 2 * k * h + l ∧ q = 2 * k * h + k + m
theorem pairs (p q : Int) (hp : 0 ≤ p) (h : p < q) (hq : q ≤ 255) : (∃ h l m, Pr 128 p q h l m) ∨ (∃ h l m, Pr 64 p q h l m) ∨ (∃ h l m, Pr 32 p q h l m) ∨ (∃ h l m, Pr 16 p q h l m) ∨ (∃ h l m, Pr 8 p q h l m) ∨ (∃ h l m, Pr 4 p q h l m) ∨ (∃ h l m, Pr 2 p q h l m) ∨ (∃ h l m, Pr 1 p q h l m) := by
  by_cases h128 : p / 128 ≠ q / 128
  · exact .inl (⟨p / 256, p % 128, q % 128, by omega, by omega, by omega, by omega, by omega, by omega, by omega⟩)
  by_cases h64 : p / 64 ≠ q / 64
  · exact .inr (.inl (⟨p / 128, p % 64, q % 64, by omega, by omega, by omega, by omega, by omega, by omega, by omega⟩))
  by_cases h32 : p / 32 ≠ q / 32
  · exact .inr (.inr (.inl (⟨p / 64, p % 32, q % 32, by omega, by omega, by omega, by omega, by omega, by omega, by omega⟩)))
  by_cases h16 : p / 16 ≠ q / 16
  · exact .inr (.inr (.inr (.inl (⟨p / 32, p % 16, q % 16, by omega, by omega, by omega, by omega, by omega, by omega, by omega⟩))))
  by_cases h8 : p / 8 ≠ q / 8
  · exact .inr (.inr (.inr (.inr (.inl (⟨p / 16, p % 8, q % 8, by omega, by omega, by omega, by omega, by omega, by omega, by omega⟩)))))
  by_cases h4 : p / 4 ≠ q / 4
  · exact .inr (.inr (.inr (.inr (.inr (.inl (⟨p / 8, p % 4, q % 4, by omega, by omega, by omega, by omega, by omega, by omega, by omega⟩))))))
  by_cases h2 : p / 2 ≠ q / 2
  · exact .inr (.inr (.inr (.inr (.inr (.inr (.inl (⟨p / 4, p % 2, q % 2, by omega, by omega, by omega, by omega, by omega, by omega, by omega⟩)))))))
  exact .inr (.inr (.inr (.inr (.inr (.inr (.inr (⟨p / 2, p % 1, q % 1, by omega, by omega, by omega, by omega, by omega, by omega, by omega⟩)))))))
def Cl0 (x : Int) : Prop := ∃ d0 : Int, (0 ≤ d0 ∧ d0 ≤ 63) ∧ x = 1 * d0
def Cl1 (x : Int) : Prop := ∃ d0 : Int, (64 ≤ d0 ∧ d0 ≤ 255) ∧ x = 1 * d0
def Cl2 (x : Int) : Prop := ∃ d0 d1 : Int, (0 ≤ d0 ∧ d0 ≤ 255) ∧ (1 ≤ d1 ∧ d1 ≤ 63) ∧ x = 1 * d0 + 256 * d1
def Cl3 (x : Int) : Prop := ∃ d0 d1 : Int, (0 ≤ d0 ∧ d0 ≤ 255) ∧ (64 ≤ d1 ∧ d1 ≤ 255) ∧ x = 1 * d0 + 256 * d1
def Cl4 (x : Int) : Prop := ∃ d0 d1 d2 : Int, (0 ≤ d0 ∧ d0 ≤ 255) ∧ (0 ≤ d1 ∧ d1 ≤ 255) ∧ (1 ≤ d2 ∧ d2 ≤ 255) ∧ x = 1 * d0 + 256 * d1 + 65536 * d2
def Cl5 (x : Int) : Prop := ∃ d0 d1 d2 d3 : Int, (0 ≤ d0 ∧ d0 ≤ 255) ∧ (0 ≤ d1 ∧ d1 ≤ 255) ∧ (0 ≤ d2 ∧ d2 ≤ 255) ∧ (1 ≤ d3 ∧ d3 ≤ 63) ∧ x = 1 * d0 + 256 * d1 + 65536 * d2 + 16777216 * d3
def Cl6 (x : Int) : Prop := ∃ d0 d1 d2 d3 : Int, (0 ≤ d0 ∧ d0 ≤ 255) ∧ (0 ≤ d1 ∧ d1 ≤ 255) ∧ (0 ≤ d2 ∧ d2 ≤ 255) ∧ (64 ≤ d3 ∧ d3 ≤ 255) ∧ x = 1 * d0 + 256 * d1 + 65536 * d2 + 16777216 * d3
def Cl7 (x : Int) : Prop := ∃ d0 d1 d2 d3 d4 : Int, (0 ≤ d0 ∧ d0 ≤ 255) ∧ (0 ≤ d1 ∧ d1 ≤ 255) ∧ (0 ≤ d2 ∧ d2 ≤ 255) ∧ (0 ≤ d3 ∧ d3 ≤ 255) ∧ (1 ≤ d4 ∧ d4 ≤ 255) ∧ x = 1 * d0 + 256 * d1 + 65536 * d2 + 16777216 * d3 + 4294967296 * d4
def Cl8 (x : Int) : Prop := ∃ d0 d1 d2 d3 d4 d5 : Int, (0 ≤ d0 ∧ d0 ≤ 255) ∧ (0 ≤ d1 ∧ d1 ≤ 255) ∧ (0 ≤ d2 ∧ d2 ≤ 255) ∧ (0 ≤ d3 ∧ d3 ≤ 255) ∧ (0 ≤ d4 ∧ d4 ≤ 255) ∧ (1 ≤ d5 ∧ d5 ≤ 255) ∧ x = 1 * d0 + 256 * d1 + 65536 * d2 + 16777216 * d3 + 4294967296 * d4 + 1099511627776 * d5
def Cl9 (x : Int) : Prop := ∃ d0 d1 d2 d3 d4 d5 d6 : Int, (0 ≤ d0 ∧ d0 ≤ 255) ∧ (0 ≤ d1 ∧ d1 ≤ 255) ∧ (0 ≤ d2 ∧ d2 ≤ 255) ∧ (0 ≤ d3 ∧ d3 ≤ 255) ∧ (0 ≤ d4 ∧ d4 ≤ 255) ∧ (0 ≤ d5 ∧ d5 ≤ 255) ∧ (1 ≤ d6 ∧ d6 ≤ 255) ∧ x = 1 * d0 + 256 * d1 + 65536 * d2 + 16777216 * d3 + 4294967296 * d4 + 1099511627776 * d5 + 281474976710656 * d6
def Cl10 (x : Int) : Prop := ∃ d0 d1 d2 d3 d4 d5 d6 d7 : Int, (0 ≤ d0 ∧ d0 ≤ 255) ∧ (0 ≤ d1 ∧ d1 ≤ 255) ∧ (0 ≤ d2 ∧ d2 ≤ 255) ∧ (0 ≤ d3 ∧ d3 ≤ 255) ∧ (0 ≤ d4 ∧ d4 ≤ 255) ∧ (0 ≤ d5 ∧ d5 ≤ 255) ∧ (0 ≤ d6 ∧ d6 ≤ 255) ∧ (1 ≤ d7 ∧ d7 ≤ 63) ∧ x = 1 * d0 + 256 * d1 + 65536 * d2 + 16777216 * d3 + 4294967296 * d4 + 1099511627776 * d5 + 281474976710656 * d6 + 72057594037927936 * d7
theorem cls (x : Int) (h0 : 0 ≤ x) (h1 : x ≤ 4611686018427387903) : Cl0 x ∨ Cl1 x ∨ Cl2 x ∨ Cl3 x ∨ Cl4 x ∨ Cl5 x ∨ Cl6 x ∨ Cl7 x ∨ Cl8 x ∨ Cl9 x ∨ Cl10 x := by
  by_cases k0 : x < 64
  · exact .inl (⟨x, ⟨by omega, by omega⟩, by omega⟩)
  by_cases k1 : x < 256
  · exact .inr (.inl (⟨x, ⟨by omega, by omega⟩, by omega⟩))
  obtain ⟨d0, e0, g0⟩ : ∃ d e : Int, (0 ≤ d ∧ d ≤ 255) ∧ x = 256 * e + d ∧ 0 ≤ e := ⟨x % 256, x / 256, by omega⟩
  by_cases k2 : x < 16384
  · exact .inr (.inr (.inl (⟨d0, e0, g0.1, ⟨by omega, by omega⟩, by omega⟩)))
  by_cases k3 : x < 65536
  · exact .inr (.inr (.inr (.inl (⟨d0, e0, g0.1, ⟨by omega, by omega⟩, by omega⟩))))
  obtain ⟨d1, e1, g1⟩ : ∃ d e : Int, (0 ≤ d ∧ d ≤ 255) ∧ e0 = 256 * e + d ∧ 0 ≤ e := ⟨e0 % 256, e0 / 256, by omega⟩
  by_cases k4 : x < 16777216
  · exact .inr (.inr (.inr (.inr (.inl (⟨d0, d1, e1, g0.1, g1.1, ⟨by omega, by omega⟩, by omega⟩)))))
  obtain ⟨d2, e2, g2⟩ : ∃ d e : Int, (0 ≤ d ∧ d ≤ 255) ∧ e1 = 256 * e + d ∧ 0 ≤ e := ⟨e1 % 256, e1 / 256, by omega⟩
  by_cases k5 : x < 1073741824
  · exact .inr (.inr (.inr (.inr (.inr (.inl (⟨d0, d1, d2, e2, g0.1, g1.1, g2.1, ⟨by omega, by omega⟩, by omega⟩))))))
  by_cases k6 : x < 4294967296
  · exact .inr (.inr (.inr (.inr (.inr (.inr (.inl (⟨d0, d1, d2, e2, g0.1, g1.1, g2.1, ⟨by omega, by omega⟩, by omega⟩)))))))
  obtain ⟨d3, e3, g3⟩ : ∃ d e : Int, (0 ≤ d ∧ d ≤ 255) ∧ e2 = 256 * e + d ∧ 0 ≤ e := ⟨e2 % 256, e2 / 256, by omega⟩
  by_cases k7 : x < 1099511627776
  · exact .inr (.inr (.inr (.inr (.inr (.inr (.inr (.inl (⟨d0, d1, d2, d3, e3, g0.1, g1.1, g2.1, g3.1, ⟨by omega, by omega⟩, by omega⟩))))))))
  obtain ⟨d4, e4, g4⟩ : ∃ d e : Int, (0 ≤ d ∧ d ≤ 255) ∧ e3 = 256 * e + d ∧ 0 ≤ e := ⟨e3 % 256, e3 / 256, by omega⟩
  by_cases k8 : x < 281474976710656
  · exact .inr (.inr (.inr (.inr (.inr (.inr (.inr (.inr (.inl (⟨d0, d1, d2, d3, d4, e4, g0.1, g1.1, g2.1, g3.1, g4.1, ⟨by omega, by omega⟩, by omega⟩)))))))))
  obtain ⟨d5, e5, g5⟩ : ∃ d e : Int, (0 ≤ d ∧ d ≤ 255) ∧ e4 = 256 * e + d ∧ 0 ≤ e := ⟨e4 % 256, e4 / 256, by omega⟩
  by_cases k9 : x < 72057594037927936
  · exact .inr (.inr (.inr (.inr (.inr (.inr (.inr (.inr (.inr (.inl (⟨d0, d1, d2, d3, d4, d5, e5, g0.1, g1.1, g2.1, g3.1, g4.1, g5.1, ⟨by omega, by omega⟩, by omega⟩))))))))))
  obtain ⟨d6, e6, g6⟩ : ∃ d e : Int, (0 ≤ d ∧ d ≤ 255) ∧ e5 = 256 * e + d ∧ 0 ≤ e := ⟨e5 % 256, e5 / 256, by omega⟩
  exact .inr (.inr (.inr (.inr (.inr (.inr (.inr (.inr (.inr (.inr (⟨d0, d1, d2, d3, d4, d5, d6, e6, g0.1, g1.1, g2.1, g3.1, g4.1, g5.1, g6.1, ⟨by omega, by omega⟩, by omega⟩))))))))))
end Go.Proofs.Ytmbimlnanfholaa.vintOrderRun
