/- What N gives. -/
import Derived.Test.YtmbimlnanfholaaVintOrderHook
import Derived.Test.YtmbimlnanfholaaVintOrderIn
import Derived.WalkKit
import Derived.ProofKit
namespace Go.Proofs.Ytmbimlnanfholaa.vintOrderRun
open Go.Vm Go.RowKit
set_option linter.unusedVariables false
set_option linter.unusedSimpArgs false
set_option maxRecDepth 1000000
theorem rn0_0 (d : Nat) : runN 0 d = some (.s [(0, 1)] 0) := by kernel_rfl
theorem rn1_0 (d : Nat) : runN 1 d = some (.s [(11, 1)] 0) := by kernel_rfl
theorem rn2_0 (d : Nat) : runN 2 d = some (.s [(12, 1)] 0) := by kernel_rfl
theorem rn3_0 (d : Nat) : runN 3 d = some (.s [(13, 1)] 0) := by kernel_rfl
theorem rn4_0 (d : Nat) : runN 4 0 = some (.c (63)) := by kernel_rfl
theorem rn4_1 (d : Nat) : runN 4 1 = some (.c (64)) := by kernel_rfl
theorem rn4_2 (d : Nat) : runN 4 2 = some (.c (16383)) := by kernel_rfl
theorem rn4_3 (d : Nat) : runN 4 3 = some (.c (16384)) := by kernel_rfl
theorem rn4_4 (d : Nat) : runN 4 4 = some (.c (1073741823)) := by kernel_rfl
theorem rn4_5 (d : Nat) : runN 4 5 = some (.c (1073741824)) := by kernel_rfl
theorem rn4_6 (d : Nat) : runN 4 6 = some (.c (4611686018427387903)) := by kernel_rfl
theorem rn4_7 (d : Nat) : runN 4 7 = some (.c (4611686018427387904)) := by kernel_rfl
theorem rn4_8 (d : Nat) : runN 4 8 = some (.c (-1)) := by kernel_rfl
theorem rn4_9 (d : Nat) : runN 4 9 = some (.c (0)) := by kernel_rfl
theorem rn5_0 (d : Nat) : runN 5 d = some (.s [(14, 1)] 0) := by kernel_rfl
theorem rn6_0 (d : Nat) : runN 6 d = some (.s [(14, 1)] 0) := by kernel_rfl
theorem rn7_0 (d : Nat) : runN 7 d = some (.s [(14, 1)] 0) := by kernel_rfl
def tbl (d : Nat) : Int := [63, 64, 16383, 16384, 1073741823, 1073741824, 4611686018427387903, 4611686018427387904, -1, 0].getD d 0
/-- what N gives -/
def nOf (n how : Int) : Int := if how % 8 = 0 then n else if how % 8 = 1 then n % 70 else if how % 8 = 2 then n % 16389 else if how % 8 = 3 then n % 1073741829 else if how % 8 = 4 then tbl (n % 10).toNat else n % 4611686018427387903
theorem outI_some {o : Out} {n : AI} (h : outI o = some n) : ∃ s, o = .v (.int .i64 n) s := by
  cases o with
  | v x s =>
    cases x <;> simp only [outI, AV.onInt, reduceCtorEq] at h
    obtain ⟨h1, h2⟩ := cnd_some h
    cases h2
    rename_i k
    have : k = .i64 := by cases k <;> first | rfl | exact absurd h1 (by decide)
    subst this
    exact ⟨s, rfl⟩
  | u s => cases h
  | bad n t => cases h
theorem hw (x : Int) (h1 : -9223372036854775808 ≤ x) (h2 : x ≤ 9223372036854775807) : x = IntKind.i64.wrap x := (wrap_in (k := .i64) h1 h2).symm
theorem bel {e : Ending} {v : Value} {w w' : World} (h : e = .returned v ∧ w' = w) : e = .returned v ∧ Below w.heap.size w w' := ⟨h.1, by rw [h.2]; exact Below.refl _ _⟩
theorem nHook (ρ : Nat → Int) (a0 a1 : Int) (r d : Nat) (w0 : (Lit.int .i64 a0).wf = true) (w1 : (Lit.int .i64 a1).wf = true) (v0 : IntKind.i64.wrap a0 = a0) (v1 : IntKind.i64.wrap a1 = a1) (hr : a1 % 8 = (r : Int)) (hd : a0 % 10 = (d : Int)) (q0 : ρ 0 = a0) (q1 : ρ 1 = a1) (q11 : ρ 11 = a0 % 70) (q12 : ρ 12 = a0 % 16389) (q13 : ρ 13 = a0 % 1073741829) (q14 : ρ 14 = a0 % 4611686018427387903) : EntryOk ρ Try.prog 13 (.hook (hookG (hkN r d))) := by
  refine hookG_entry (fn := Try.f13) Try.func13 rfl rfl ?_
  intro p hp x y hx hy w
  simp only [hkN, List.mem_cons, List.not_mem_nil, or_false] at hp
  rcases hp with rfl | rfl | rfl | rfl | rfl | rfl <;> (have hx := ir_inv hx) <;> (simp only [IR] at hy) <;> subst hy
  · rw [q1, v1] at hx; subst hx
    exact ⟨_, by rw [hr]; exact rfl, (within _ 8 w1 (by omega) (by omega) w).mono fun e w' h => bel h⟩
  · rw [q0, v0] at hx; subst hx
    exact ⟨_, ir_sym (by rw [q11]; exact hw _ (by omega) (by omega)), (within _ 70 w0 (by omega) (by omega) w).mono fun e w' h => bel h⟩
  · rw [q0, v0] at hx; subst hx
    exact ⟨_, ir_sym (by rw [q12]; exact hw _ (by omega) (by omega)), (within _ 16389 w0 (by omega) (by omega) w).mono fun e w' h => bel h⟩
  · rw [q0, v0] at hx; subst hx
    exact ⟨_, ir_sym (by rw [q13]; exact hw _ (by omega) (by omega)), (within _ 1073741829 w0 (by omega) (by omega) w).mono fun e w' h => bel h⟩
  · rw [q0, v0] at hx; subst hx
    exact ⟨_, by rw [hd]; exact rfl, (within _ 10 w0 (by omega) (by omega) w).mono fun e w' h => bel h⟩
  · rw [q0, v0] at hx; subst hx
    exact ⟨_, ir_sym (by rw [q14]; exact hw _ (by omega) (by omega)), (within _ 4611686018427387903 w0 (by omega) (by omega) w).mono fun e w' h => bel h⟩
theorem nMain (ρ : Nat → Int) (hb : ∀ i, -9223372036854775808 ≤ ρ i ∧ ρ i ≤ 9223372036854775807) (a0 a1 : Int) (r d : Nat) (w0 : (Lit.int .i64 a0).wf = true) (w1 : (Lit.int .i64 a1).wf = true) (v0 : IntKind.i64.wrap a0 = a0) (v1 : IntKind.i64.wrap a1 = a1) (hr : a1 % 8 = (r : Int)) (hd : a0 % 10 = (d : Int)) (q0 : ρ 0 = a0) (q1 : ρ 1 = a1) (q11 : ρ 11 = a0 % 70) (q12 : ρ 12 = a0 % 16389) (q13 : ρ 13 = a0 % 1073741829) (q14 : ρ 14 = a0 % 4611686018427387903)
    (n : AI) (hn : runN r d = some n) (hx : ∀ x, IR ρ .i64 n x → x = nOf a0 a1) (w : World) : Calls Try.prog 28 #[.int .i64 a0, .int .i64 a1] w fun e w' => e = .returned (.int .i64 (nOf a0 a1)) ∧ Below w.heap.size w w' := by
  have hh := nHook ρ a0 a1 r d w0 w1 v0 v1 hr hd q0 q1 q11 q12 q13 q14
  have hv : VRs ρ env0 [.int .i64 (.s [(0, 1)] 0), .int .i64 (.s [(1, 1)] 0)] [.int .i64 a0, .int .i64 a1] := .cons (.int (ir_sym (by rw [q0]; exact v0.symm))) (.cons (.int (ir_sym (by rw [q1]; exact v1.symm))) .nil)
  obtain ⟨s', hs⟩ := outI_some hn
  have hG := calls_ok (bd := fun _ => (-9223372036854775808, 9223372036854775807)) hb mixed (tab := (tab (.hook (hookG (hkN r d)))).get) (tab_all ρ _ hh).get 5000 60 env0 28 _ _ st0 w (hr0 ρ w) hv
  rw [hs] at hG
  rcases hG with ⟨_, h⟩ | ⟨x, E', w', h, _⟩
  · refine h.mono ?_
    rintro e w' ⟨x, E', rfl, hx', hS⟩
    cases hx' with | int hx' =>
    rw [hx _ hx']
    exact ⟨rfl, hS.os, hS.tape, hS.output, hS.size, fun k hk => hS.frame k hk (own0 k)⟩
  · rw [enter_ok (fn := Try.f28) Try.func28 rfl rfl] at h; cases h
theorem nSel (ρ : Nat → Int) (a0 a1 : Int) (r d : Nat) (hr : a1 % 8 = (r : Int)) (hd : a0 % 10 = (d : Int)) (c0 : -9223372036854775808 ≤ a0 ∧ a0 ≤ 9223372036854775807) (q0 : ρ 0 = a0) (q11 : ρ 11 = a0 % 70) (q12 : ρ 12 = a0 % 16389) (q13 : ρ 13 = a0 % 1073741829) (q14 : ρ 14 = a0 % 4611686018427387903) : ∃ n, runN r d = some n ∧ ∀ x, IR ρ .i64 n x → x = nOf a0 a1 := by
  have hr8 : r < 8 := by omega
  have hd10 : d < 10 := by omega
  rcases (show r = 0 ∨ r = 1 ∨ r = 2 ∨ r = 3 ∨ r = 4 ∨ r = 5 ∨ r = 6 ∨ r = 7 by omega) with rfl | rfl | rfl | rfl | rfl | rfl | rfl | rfl
  · exact ⟨_, rn0_0 d, fun x hx => by rw [ir_inv hx, q0, ← hw _ c0.1 c0.2]; unfold nOf; rw [if_pos (by omega)]⟩
  · exact ⟨_, rn1_0 d, fun x hx => by rw [ir_inv hx, q11, ← hw _ (by omega) (by omega)]; unfold nOf; rw [if_neg (by omega), if_pos (by omega)]⟩
  · exact ⟨_, rn2_0 d, fun x hx => by rw [ir_inv hx, q12, ← hw _ (by omega) (by omega)]; unfold nOf; rw [if_neg (by omega), if_neg (by omega), if_pos (by omega)]⟩
  · exact ⟨_, rn3_0 d, fun x hx => by rw [ir_inv hx, q13, ← hw _ (by omega) (by omega)]; unfold nOf; rw [if_neg (by omega), if_neg (by omega), if_neg (by omega), if_pos (by omega)]⟩
  · have fin : ∀ n : Int, tbl d = n → ∀ x, IR ρ .i64 (.c n) x → x = nOf a0 a1 := fun n hn x hx => by
      simp only [IR] at hx
      unfold nOf
      rw [if_neg (by omega), if_neg (by omega), if_neg (by omega), if_neg (by omega), if_pos (by omega), hd, Int.toNat_natCast, hn, hx]
    rcases (show d = 0 ∨ d = 1 ∨ d = 2 ∨ d = 3 ∨ d = 4 ∨ d = 5 ∨ d = 6 ∨ d = 7 ∨ d = 8 ∨ d = 9 by omega) with rfl | rfl | rfl | rfl | rfl | rfl | rfl | rfl | rfl | rfl
    · exact ⟨_, rn4_0 0, fin _ rfl⟩
    · exact ⟨_, rn4_1 0, fin _ rfl⟩
    · exact ⟨_, rn4_2 0, fin _ rfl⟩
    · exact ⟨_, rn4_3 0, fin _ rfl⟩
    · exact ⟨_, rn4_4 0, fin _ rfl⟩
    · exact ⟨_, rn4_5 0, fin _ rfl⟩
    · exact ⟨_, rn4_6 0, fin _ rfl⟩
    · exact ⟨_, rn4_7 0, fin _ rfl⟩
    · exact ⟨_, rn4_8 0, fin _ rfl⟩
    · exact ⟨_, rn4_9 0, fin _ rfl⟩
  · exact ⟨_, rn5_0 d, fun x hx => by rw [ir_inv hx, q14, ← hw _ (by omega) (by omega)]; unfold nOf; rw [if_neg (by omega), if_neg (by omega), if_neg (by omega), if_neg (by omega), if_neg (by omega)]⟩
  · exact ⟨_, rn6_0 d, fun x hx => by rw [ir_inv hx, q14, ← hw _ (by omega) (by omega)]; unfold nOf; rw [if_neg (by omega), if_neg (by omega), if_neg (by omega), if_neg (by omega), if_neg (by omega)]⟩
  · exact ⟨_, rn7_0 d, fun x hx => by rw [ir_inv hx, q14, ← hw _ (by omega) (by omega)]; unfold nOf; rw [if_neg (by omega), if_neg (by omega), if_neg (by omega), if_neg (by omega), if_neg (by omega)]⟩
theorem nOf_ok (a0 a1 : Int) (w0 : (Lit.int .i64 a0).wf = true) (w1 : (Lit.int .i64 a1).wf = true) (w : World) : Calls Try.prog 28 #[.int .i64 a0, .int .i64 a1] w fun e w' => e = .returned (.int .i64 (nOf a0 a1)) ∧ Below w.heap.size w w' := by
  have c0 : -9223372036854775808 ≤ a0 ∧ a0 ≤ 9223372036854775807 := by simpa [Lit.wf, IntKind.min, IntKind.max, IntKind.signed, IntKind.bits] using w0
  have c1 : -9223372036854775808 ≤ a1 ∧ a1 ≤ 9223372036854775807 := by simpa [Lit.wf, IntKind.min, IntKind.max, IntKind.signed, IntKind.bits] using w1
  obtain ⟨r, hr⟩ : ∃ r : Nat, a1 % 8 = r := ⟨(a1 % 8).toNat, by omega⟩
  obtain ⟨d, hd⟩ : ∃ d : Nat, a0 % 10 = d := ⟨(a0 % 10).toNat, by omega⟩
  obtain ⟨ρ, hb, q0, q1, q11, q12, q13, q14⟩ : ∃ ρ : Nat → Int, (∀ i, -9223372036854775808 ≤ ρ i ∧ ρ i ≤ 9223372036854775807) ∧ ρ 0 = a0 ∧ ρ 1 = a1 ∧ ρ 11 = a0 % 70 ∧ ρ 12 = a0 % 16389 ∧ ρ 13 = a0 % 1073741829 ∧ ρ 14 = a0 % 4611686018427387903 :=
    ⟨fun i => if i = 0 then a0 else if i = 1 then a1 else if i = 11 then a0 % 70 else if i = 12 then a0 % 16389 else if i = 13 then a0 % 1073741829 else if i = 14 then a0 % 4611686018427387903 else 0, fun i => by dsimp only; (repeat' split) <;> omega, rfl, rfl, rfl, rfl, rfl, rfl⟩
  obtain ⟨n, h1, h2⟩ := nSel ρ a0 a1 r d hr hd c0 q0 q11 q12 q13 q14
  exact nMain ρ hb a0 a1 r d w0 w1 (hw _ c0.1 c0.2).symm (hw _ c1.1 c1.2).symm hr hd q0 q1 q11 q12 q13 q14 n h1 h2 w
theorem tbl_in (d : Nat) : -9223372036854775808 ≤ tbl d ∧ tbl d ≤ 9223372036854775807 := by
  match d with
  | 0 => decide
  | 1 => decide
  | 2 => decide
  | 3 => decide
  | 4 => decide
  | 5 => decide
  | 6 => decide
  | 7 => decide
  | 8 => decide
  | 9 => decide
  | d + 10 => exact ⟨by show _ ≤ (0 : Int); decide, by show (0 : Int) ≤ _; decide⟩
theorem nOf_in {a0 a1 : Int} (c0 : -9223372036854775808 ≤ a0 ∧ a0 ≤ 9223372036854775807) : -9223372036854775808 ≤ nOf a0 a1 ∧ nOf a0 a1 ≤ 9223372036854775807 := by
  have := tbl_in (a0 % 10).toNat
  unfold nOf
  (repeat' split) <;> omega
end Go.Proofs.Ytmbimlnanfholaa.vintOrderRun
