/- The law InboxEnds returns true for every input, and leaves what was there as it was. -/
import Derived.Test.YthloapndhokbdaaInboxEndsRun
import Derived.Test.YthloapndhokbdaaInboxEndsIn
namespace Go.Proofs.Ythloapndhokbdaa.inboxEndsRun
open Go.Vm Go.RowKit
set_option linter.unusedVariables false
set_option linter.unusedSimpArgs false
set_option maxRecDepth 1000000
theorem walk (a0 : Int) (w : World) (w0 : (Lit.int .i64 a0).wf = true) : Calls Try.prog 7 #[.int .i64 a0] w fun e w' => e = .returned (.bool true) ∧ Below w.heap.size w w' := by
  let ρ : Nat → Int := fun i => a0
  obtain ⟨k0, e0⟩ : ∃ k : Nat, a0 % 50 = Int.ofNat k := ⟨(a0 % 50).toNat, (Int.toNat_of_nonneg (Int.emod_nonneg a0 (show (50 : Int) ≠ 0 by decide))).symm⟩
  have h0 : k0 < 50 := by have h := Int.emod_lt_of_pos a0 (show (0 : Int) < 50 by decide); have e : a0 % 50 = (k0 : Int) := e0; omega
  have b0 : -9223372036854775808 ≤ a0 ∧ a0 ≤ 9223372036854775807 := by simpa [Lit.wf, IntKind.min, IntKind.max, IntKind.signed, IntKind.bits] using w0
  have v0 : IntKind.i64.wrap a0 = a0 := wrap_in b0.1 b0.2
  have hb : ∀ i, (bd i).1 ≤ ρ i ∧ ρ i ≤ (bd i).2 := by
    intro i
    show _ ≤ ρ i ∧ ρ i ≤ _
    simp only [ρ, bd]
    exact b0
  have hh : EntryOk ρ Try.prog 16 (.hook (hookW [(0, 50, Int.ofNat k0)])) := by
    refine hook_ok (fn := Try.f16) Try.func16 rfl rfl (l := [(0, 50, Int.ofNat k0)]) ?_
    intro p hp w
    simp only [List.mem_cons, List.not_mem_nil, or_false] at hp
    rcases hp with rfl
    · have := within a0 50 w0 (by decide) (by decide) w
      rw [e0] at this
      have q : ρ 0 = a0 := rfl
      simp only [q, Int.add_zero, v0]
      exact this
  have hv : VRs ρ env0 [.int .i64 (.s 0 0)] [.int .i64 a0] := (.cons (.int (show a0 = IntKind.i64.wrap (ρ 0 + 0) by rw [Int.add_zero]; exact v0.symm)) .nil)
  exact law_ok hb mixed (tab_all ρ _ hh) rfl hv (runs k0 h0) w
end Go.Proofs.Ythloapndhokbdaa.inboxEndsRun
