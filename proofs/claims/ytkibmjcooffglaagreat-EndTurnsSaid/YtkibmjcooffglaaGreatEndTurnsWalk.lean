/- The law EndTurns returns true for every input, and leaves what was there as it was. -/
import Derived.Test.YtkibmjcooffglaaGreatEndTurnsRun
import Derived.Test.YtkibmjcooffglaaGreatEndTurnsIn
import Derived.WalkKit
import Derived.ProofKit
namespace Go.Proofs.YtkibmjcooffglaaGreat.endTurnsRun
open Go.Vm Go.RowKit
set_option linter.unusedVariables false
set_option linter.unusedSimpArgs false
set_option maxRecDepth 1000000
theorem walk (b0 : Bool) (w : World) : Calls Tryz.prog 3 #[.bool b0] w fun e w' => e = .returned (.bool true) ∧ Below w.heap.size w w' := by
  let ρ : Nat → Nat → Int := fun L i => 0
  have hb : ∀ L : Nat, L ≤ 0 → ∀ i, (bd L i).1 ≤ ρ L i ∧ ρ L i ≤ (bd L i).2 := by
    intro L hL i
    simp only [bd, cnd_eq, Nat.beq_eq, Nat.ble_eq, ρ]
    (repeat' split) <;> (try dsimp only) <;> omega
  have hh : ∀ L : Nat, L ≤ 0 → EntryOk (ρ L) Tryz.prog 27 (.hook (hookW [])) := fun L hL => hook_ok (fn := Tryz.f27) Tryz.func27 rfl rfl (by intro p hp; cases hp)
  exact law_ok (hb 0 (Nat.le_refl _)) mixed (tab_all (ρ 0) _ (hh 0 (Nat.le_refl _))) rfl (show VRs (ρ 0) env0 _ _ from .cons (.bool b0) (.nil)) (runs b0 ) w
end Go.Proofs.YtkibmjcooffglaaGreat.endTurnsRun
