/- The law OutboxBounds returns true for every input, and leaves what was there as it was. -/
import Derived.Test.YtmbimlnanfholabOutboxBoundsRun
import Derived.Test.YtmbimlnanfholabOutboxBoundsIn
import Derived.WalkKit
import Derived.ProofKit
namespace Go.Proofs.Ytmbimlnanfholab.outboxBoundsRun
open Go.Vm Go.RowKit
set_option linter.unusedVariables false
set_option linter.unusedSimpArgs false
set_option maxRecDepth 1000000
theorem walk (a0 : Int) (w : World) (w0 : (Lit.int .i64 a0).wf = true) : Calls Try.prog 4 #[.int .i64 a0] w fun e w' => e = .returned (.bool true) ∧ Below w.heap.size w w' := by
  let ρ : Nat → Nat → Int := fun L i => if i = 0 then a0 else 0
  have c0 : -9223372036854775808 ≤ a0 ∧ a0 ≤ 9223372036854775807 := by simpa [Lit.wf, IntKind.min, IntKind.max, IntKind.signed, IntKind.bits] using w0
  have v0 : IntKind.i64.wrap a0 = a0 := wrap_in c0.1 c0.2
  have q0 : ∀ L, ρ L 0 = a0 := fun _ => rfl
  obtain ⟨k0, e0⟩ : ∃ k : Nat, a0 % 300 = Int.ofNat k := ⟨(a0 % 300).toNat, (Int.toNat_of_nonneg (Int.emod_nonneg a0 (show (300 : Int) ≠ 0 by decide))).symm⟩
  have h0 : k0 < 300 := by have h := Int.emod_lt_of_pos a0 (show (0 : Int) < 300 by decide); have e : a0 % 300 = (k0 : Int) := e0; omega
  have hb : ∀ L : Nat, L ≤ 0 → ∀ i, (bd L i).1 ≤ ρ L i ∧ ρ L i ≤ (bd L i).2 := by
    intro L hL i
    simp only [bd, cnd_eq, Nat.beq_eq, Nat.ble_eq, ρ]
    (repeat' split) <;> (try dsimp only) <;> omega
  have hh : ∀ L : Nat, L ≤ 0 → EntryOk (ρ L) Try.prog 19 (.hook (hookW [(0, 300, .c (Int.ofNat k0))])) := by
    intro L hL
    refine hook_ok (fn := Try.f19) Try.func19 rfl rfl (l := [(0, 300, .c (Int.ofNat k0))]) ?_
    intro p hp w
    simp only [List.mem_cons, List.not_mem_nil, or_false] at hp
    rcases hp with rfl
    · have := within a0 300 w0 (by omega) (by omega) w
      rw [e0] at this
      exact ⟨_, rfl, by simp only [q0 L, v0]; exact this⟩
  exact law_ok (hb 0 (Nat.le_refl _)) mixed (tab_all (ρ 0) _ (hh 0 (Nat.le_refl _))) rfl (show VRs (ρ 0) env0 _ _ from .cons (.int (ir_sym (show a0 = IntKind.i64.wrap (ρ 0 0) from v0.symm))) (.nil)) (runs k0 h0) w
end Go.Proofs.Ytmbimlnanfholab.outboxBoundsRun
