/- How the law MeterSums is run. -/
import Derived.Test.YtmbimlnanfholaaMeterSumsTab
namespace Go.Proofs.Ytmbimlnanfholaa.meterSumsRun
open Go.Vm Go.RowKit
set_option linter.unusedVariables false
set_option linter.unusedSimpArgs false
set_option maxRecDepth 1000000
noncomputable def bdm (q : Bool) : Nat → Int × Int := fun i => cnd (Nat.ble 200 i) (0, 2147483647) (cnd (Nat.ble 100 i) (-9223372036854775808, 9223372036854775807) (cnd (Nat.beq i 90) (cnd q 21 0, 9223372036854775807) (-9223372036854775808, 9223372036854775807)))
/-- each number of the list, brought into the range -/
noncomputable def hkl : Nat → Nat → List (Nat × Int × AI)
  | 0, _ => []
  | n + 1, b => (b, 2147483648, .s [(b + 100, 1)] 0) :: hkl n (b + 1)
theorem hkl_mem : ∀ (n b : Nat) (p : Nat × Int × AI), p ∈ hkl n b → ∃ j, j < n ∧ p = (b + j, 2147483648, .s [(b + j + 100, 1)] 0) := by
  intro n
  induction n with
  | zero => intro b p h; cases h
  | succ n ih =>
    intro b p h
    simp only [hkl, List.mem_cons] at h
    rcases h with rfl | h
    · exact ⟨0, Nat.succ_pos _, rfl⟩
    · obtain ⟨j, h1, h2⟩ := ih _ _ h
      exact ⟨j + 1, by omega, by rw [h2, show b + 1 + j = b + (j + 1) by omega]⟩
noncomputable def runm (k : Nat) (q : Bool) (sa : AV) (st : St) : Bool := yes (callF (bdm q) (tab (.hook (hookW ((1, 8, .c (Int.ofNat k)) :: hkl 20 100)))).get 5000 60 5 [sa, .int .i64 (.s [(1, 1)] 0)] st)
end Go.Proofs.Ytmbimlnanfholaa.meterSumsRun
