/- The law InboxFirst returns true for every input, and leaves what was there as it was. -/
import Derived.Test.YtmbimlnanfholabInboxFirstRun
import Derived.Test.YtmbimlnanfholabInboxFirstIn
import Derived.WalkKit
import Derived.ProofKit
namespace Go.Proofs.Ytmbimlnanfholab.inboxFirstRun
open Go.Vm Go.RowKit
set_option linter.unusedVariables false
set_option linter.unusedSimpArgs false
set_option maxRecDepth 1000000
theorem walk (a0 a1 a2 a3 : Int) (w : World) (w0 : (Lit.int .u8 a0).wf = true) (w1 : (Lit.int .u8 a1).wf = true) (w2 : (Lit.int .i64 a2).wf = true) (w3 : (Lit.int .i64 a3).wf = true) : Calls Try.prog 6 #[.int .u8 a0, .int .u8 a1, .int .i64 a2, .int .i64 a3] w fun e w' => e = .returned (.bool true) ∧ Below w.heap.size w w' := by
  have c0 : 0 ≤ a0 ∧ a0 ≤ 255 := by simpa [Lit.wf, IntKind.min, IntKind.max, IntKind.signed, IntKind.bits] using w0
  have c1 : 0 ≤ a1 ∧ a1 ≤ 255 := by simpa [Lit.wf, IntKind.min, IntKind.max, IntKind.signed, IntKind.bits] using w1
  have c2 : -9223372036854775808 ≤ a2 ∧ a2 ≤ 9223372036854775807 := by simpa [Lit.wf, IntKind.min, IntKind.max, IntKind.signed, IntKind.bits] using w2
  have c3 : -9223372036854775808 ≤ a3 ∧ a3 ≤ 9223372036854775807 := by simpa [Lit.wf, IntKind.min, IntKind.max, IntKind.signed, IntKind.bits] using w3
  obtain ⟨k, hk⟩ : ∃ k : Nat, a2 % 30 = k := ⟨(a2 % 30).toNat, by omega⟩
  obtain ⟨j, hj⟩ : ∃ j : Nat, a3 % ((k : Int) + 5) = j := ⟨(a3 % ((k : Int) + 5)).toNat, (Int.toNat_of_nonneg (Int.emod_nonneg a3 (by omega))).symm⟩
  have hk30 : k < 30 := by omega
  have hj5 : j < 5 + k := by have := Int.emod_lt_of_pos a3 (show (0 : Int) < (k : Int) + 5 by omega); omega
  obtain ⟨v, v5, lo, hi, ⟨s1, s2, s3⟩, hrun⟩ := runs j k hj5 hk30
  let ρ : Nat → Int := fun i => if i = 0 then a0 else if i = 1 then a1 else if i = 2 then a2 else if i = 3 then a3 else if i = 6 then (k : Int) else 0
  have v0 : IntKind.u8.wrap a0 = a0 := wrap_in c0.1 c0.2
  have v1 : IntKind.u8.wrap a1 = a1 := wrap_in c1.1 c1.2
  have v2 : IntKind.i64.wrap a2 = a2 := wrap_in c2.1 c2.2
  have v3 : IntKind.i64.wrap a3 = a3 := wrap_in c3.1 c3.2
  have q2 : ρ 2 = a2 := rfl
  have q3 : ρ 3 = a3 := rfl
  have q6 : ρ 6 = k := rfl
  have hb : ∀ i, (bdw lo hi i).1 ≤ ρ i ∧ ρ i ≤ (bdw lo hi i).2 := by
    intro i
    simp only [bdw, cnd_eq, Nat.beq_eq, ρ]
    (repeat' split) <;> (try dsimp only) <;> omega
  have hh : EntryOk ρ Try.prog 19 (.hook (hookG (hkw j v v5))) := by
    refine hookG_entry (fn := Try.f19) Try.func19 rfl rfl ?_
    intro p hp x y hx hy w
    simp only [hkw, List.mem_cons, List.not_mem_nil, or_false] at hp
    rcases hp with rfl | rfl
    · have hx := ir_inv hx
      rw [q2, v2] at hx
      simp only [IR] at hy
      subst hx; subst hy
      refine ⟨_, ?_, (within _ 30 w2 (by omega) (by omega) w).mono fun e w' h => ⟨h.1, by rw [h.2]; exact Below.refl _ _⟩⟩
      rw [hk]
      rcases s3 with ⟨rfl, _⟩ | ⟨rfl, _⟩
      · exact rfl
      · exact ir_sym (by rw [q6]; exact (wrap_in (k := .i64) (by simp only [IntKind.min, IntKind.signed, IntKind.bits]; omega) (by simp only [IntKind.max, IntKind.signed, IntKind.bits]; omega)).symm)
    · have hx := ir_inv hx
      rw [q3, v3] at hx
      have hy' : y = (k : Int) + 5 := by
        rcases s3 with ⟨_, rfl⟩ | ⟨_, rfl⟩
        · simpa only [IR] using hy
        · simp only [IR, lin, q6] at hy
          rw [hy]
          have : IntKind.i64.wrap (1 * (k : Int) + 0 + 5) = 1 * (k : Int) + 0 + 5 := wrap_in (by simp only [IntKind.min, IntKind.signed, IntKind.bits]; omega) (by simp only [IntKind.max, IntKind.signed, IntKind.bits]; omega)
          omega
      subst hx; subst hy'
      refine ⟨_, ?_, (within _ _ w3 (by omega) (by omega) w).mono fun e w' h => ⟨h.1, by rw [h.2]; exact Below.refl _ _⟩⟩
      rw [hj]
      exact rfl
  have hv : VRs ρ env0 args [.int .u8 a0, .int .u8 a1, .int .i64 a2, .int .i64 a3] := .cons (.int (ir_sym (show a0 = IntKind.u8.wrap (ρ 0) from v0.symm))) (.cons (.int (ir_sym (show a1 = IntKind.u8.wrap (ρ 1) from v1.symm))) (.cons (.int (ir_sym (show a2 = IntKind.i64.wrap (ρ 2) from v2.symm))) (.cons (.int (ir_sym (show a3 = IntKind.i64.wrap (ρ 3) from v3.symm))) .nil)))
  exact law_ok hb mixed (tab_all ρ _ hh) rfl hv hrun w
end Go.Proofs.Ytmbimlnanfholab.inboxFirstRun
