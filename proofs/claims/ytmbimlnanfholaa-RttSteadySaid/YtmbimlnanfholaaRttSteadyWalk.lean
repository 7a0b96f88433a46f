/- The law RttSteady returns true for every input, and leaves what was there as it was. -/
import Derived.Test.YtmbimlnanfholaaRttSteadyRun
import Derived.Test.YtmbimlnanfholaaRttSteadyIn
import Derived.WalkKit
import Derived.ProofKit
namespace Go.Proofs.Ytmbimlnanfholaa.rttSteadyRun
open Go.Vm Go.RowKit
set_option linter.unusedVariables false
set_option linter.unusedSimpArgs false
set_option maxRecDepth 1000000
theorem walk (a0 : Int) (a1 : Int) (w : World) (w0 : (Lit.int .i64 a0).wf = true) (w1 : (Lit.int .i64 a1).wf = true) : Calls Try.prog 4 #[.int .i64 a0, .int .i64 a1] w fun e w' => e = .returned (.bool true) ∧ Below w.heap.size w w' := by
  let ρ : Nat → Nat → Int := fun L i => if i = 0 then a0 else if i = 1 then a1 else 0
  have c0 : -9223372036854775808 ≤ a0 ∧ a0 ≤ 9223372036854775807 := by simpa [Lit.wf, IntKind.min, IntKind.max, IntKind.signed, IntKind.bits] using w0
  have v0 : IntKind.i64.wrap a0 = a0 := wrap_in c0.1 c0.2
  have q0 : ∀ L, ρ L 0 = a0 := fun _ => rfl
  have c1 : -9223372036854775808 ≤ a1 ∧ a1 ≤ 9223372036854775807 := by simpa [Lit.wf, IntKind.min, IntKind.max, IntKind.signed, IntKind.bits] using w1
  have v1 : IntKind.i64.wrap a1 = a1 := wrap_in c1.1 c1.2
  have q1 : ∀ L, ρ L 1 = a1 := fun _ => rfl
  obtain ⟨k0, e0⟩ : ∃ k : Nat, a0 % 40 = Int.ofNat k := ⟨(a0 % 40).toNat, (Int.toNat_of_nonneg (Int.emod_nonneg a0 (show (40 : Int) ≠ 0 by decide))).symm⟩
  have h0 : k0 < 40 := by have h := Int.emod_lt_of_pos a0 (show (0 : Int) < 40 by decide); have e : a0 % 40 = (k0 : Int) := e0; omega
  obtain ⟨k1, e1⟩ : ∃ k : Nat, a1 % 9 = Int.ofNat k := ⟨(a1 % 9).toNat, (Int.toNat_of_nonneg (Int.emod_nonneg a1 (show (9 : Int) ≠ 0 by decide))).symm⟩
  have h1 : k1 < 9 := by have h := Int.emod_lt_of_pos a1 (show (0 : Int) < 9 by decide); have e : a1 % 9 = (k1 : Int) := e1; omega
  have hb : ∀ L : Nat, L ≤ 0 → ∀ i, (bd L i).1 ≤ ρ L i ∧ ρ L i ≤ (bd L i).2 := by
    intro L hL i
    simp only [bd, cnd_eq, Nat.beq_eq, Nat.ble_eq, ρ]
    (repeat' split) <;> (try dsimp only) <;> omega
  have hh : ∀ L : Nat, L ≤ 0 → EntryOk (ρ L) Try.prog 13 (.hook (hookW [(0, 40, .c (Int.ofNat k0)), (1, 9, .c (Int.ofNat k1))])) := by
    intro L hL
    refine hook_ok (fn := Try.f13) Try.func13 rfl rfl (l := [(0, 40, .c (Int.ofNat k0)), (1, 9, .c (Int.ofNat k1))]) ?_
    intro p hp w
    simp only [List.mem_cons, List.not_mem_nil, or_false] at hp
    rcases hp with rfl | rfl
    · have := within a0 40 w0 (by omega) (by omega) w
      rw [e0] at this
      exact ⟨_, rfl, by simp only [q0 L, v0]; exact this⟩
    · have := within a1 9 w1 (by omega) (by omega) w
      rw [e1] at this
      exact ⟨_, rfl, by simp only [q1 L, v1]; exact this⟩
  exact law_ok (hb 0 (Nat.le_refl _)) mixed (tab_all (ρ 0) _ (hh 0 (Nat.le_refl _))) rfl (show VRs (ρ 0) env0 _ _ from .cons (.int (ir_sym (show a0 = IntKind.i64.wrap (ρ 0 0) from v0.symm))) (.cons (.int (ir_sym (show a1 = IntKind.i64.wrap (ρ 0 1) from v1.symm))) (.nil))) (runs k0 k1 h0 h1) w
end Go.Proofs.Ytmbimlnanfholaa.rttSteadyRun
