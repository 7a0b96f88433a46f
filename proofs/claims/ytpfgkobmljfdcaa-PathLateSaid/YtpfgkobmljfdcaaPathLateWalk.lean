/- The law PathLate returns true for every input, and leaves what was there as it was. -/
import Derived.Test.YtpfgkobmljfdcaaPathLateRun
import Derived.Test.YtpfgkobmljfdcaaPathLateIn
namespace Go.Proofs.Ytpfgkobmljfdcaa.pathLateRun
open Go.Vm Go.RowKit
set_option linter.unusedVariables false
set_option linter.unusedSimpArgs false
set_option maxRecDepth 1000000
theorem walk (a0 : Int) (a1 : Int) (w : World) (w0 : (Lit.int .i64 a0).wf = true) (w1 : (Lit.int .i64 a1).wf = true) : Calls Try.prog 4 #[.int .i64 a0, .int .i64 a1] w fun e w' => e = .returned (.bool true) ∧ Below w.heap.size w w' := by
  let ρ : Nat → Int := fun i => if i = 0 then a0 else if i = 1 then a1 else 0
  have c0 : -9223372036854775808 ≤ a0 ∧ a0 ≤ 9223372036854775807 := by simpa [Lit.wf, IntKind.min, IntKind.max, IntKind.signed, IntKind.bits] using w0
  have v0 : IntKind.i64.wrap a0 = a0 := wrap_in c0.1 c0.2
  have q0 : ρ 0 = a0 := rfl
  have c1 : -9223372036854775808 ≤ a1 ∧ a1 ≤ 9223372036854775807 := by simpa [Lit.wf, IntKind.min, IntKind.max, IntKind.signed, IntKind.bits] using w1
  have v1 : IntKind.i64.wrap a1 = a1 := wrap_in c1.1 c1.2
  have q1 : ρ 1 = a1 := rfl
  obtain ⟨k0, e0⟩ : ∃ k : Nat, a0 % 8 = Int.ofNat k := ⟨(a0 % 8).toNat, (Int.toNat_of_nonneg (Int.emod_nonneg a0 (show (8 : Int) ≠ 0 by decide))).symm⟩
  have h0 : k0 < 8 := by have h := Int.emod_lt_of_pos a0 (show (0 : Int) < 8 by decide); have e : a0 % 8 = (k0 : Int) := e0; omega
  obtain ⟨k1, e1⟩ : ∃ k : Nat, a1 % 20 = Int.ofNat k := ⟨(a1 % 20).toNat, (Int.toNat_of_nonneg (Int.emod_nonneg a1 (show (20 : Int) ≠ 0 by decide))).symm⟩
  have h1 : k1 < 20 := by have h := Int.emod_lt_of_pos a1 (show (0 : Int) < 20 by decide); have e : a1 % 20 = (k1 : Int) := e1; omega
  have hb : ∀ i, (bd i).1 ≤ ρ i ∧ ρ i ≤ (bd i).2 := by
    intro i
    show -9223372036854775808 ≤ ρ i ∧ ρ i ≤ 9223372036854775807
    simp only [ρ]
    repeat' split
    all_goals omega
  have hh : EntryOk ρ Try.prog 8 (.hook (hookW [(0, 8, Int.ofNat k0), (1, 20, Int.ofNat k1)])) := by
    refine hook_ok (fn := Try.f8) Try.func8 rfl rfl (l := [(0, 8, Int.ofNat k0), (1, 20, Int.ofNat k1)]) ?_
    intro p hp w
    simp only [List.mem_cons, List.not_mem_nil, or_false] at hp
    rcases hp with rfl | rfl
    · have := within a0 8 w0 (by decide) (by decide) w
      rw [e0] at this
      simp only [q0, Int.add_zero, v0]
      exact this
    · have := within a1 20 w1 (by decide) (by decide) w
      rw [e1] at this
      simp only [q1, Int.add_zero, v1]
      exact this
  have hv : VRs ρ env0 [.int .i64 (.s 0 0), .int .i64 (.s 1 0)] [.int .i64 a0, .int .i64 a1] := (.cons (.int (show a0 = IntKind.i64.wrap (ρ 0 + 0) by rw [Int.add_zero]; exact v0.symm)) (.cons (.int (show a1 = IntKind.i64.wrap (ρ 1 + 0) by rw [Int.add_zero]; exact v1.symm)) .nil))
  exact law_ok hb mixed (tab_all ρ _ hh) rfl hv (runs k0 k1 h0 h1) w
end Go.Proofs.Ytpfgkobmljfdcaa.pathLateRun
