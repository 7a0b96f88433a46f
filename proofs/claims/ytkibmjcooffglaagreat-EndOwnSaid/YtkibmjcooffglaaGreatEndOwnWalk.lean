/- The law EndOwn returns true for every input, and leaves what was there as it was. -/
import Derived.Test.YtkibmjcooffglaaGreatEndOwnRun
import Derived.Test.YtkibmjcooffglaaGreatEndOwnIn
import Derived.WalkKit
import Derived.ProofKit
namespace Go.Proofs.YtkibmjcooffglaaGreat.endOwnRun
open Go.Vm Go.RowKit
set_option linter.unusedVariables false
set_option linter.unusedSimpArgs false
set_option maxRecDepth 1000000
theorem walk (a0 : Option Addr) (len0 cap0 : Nat) (z0 : List Int) (w : World) (hr : IsRow8 w a0 len0 cap0 z0) : Calls Tryz.prog 7 #[.slice a0 len0 cap0] w fun e w' => e = .returned (.bool true) ∧ Below w.heap.size w w' := by
  let ρ : Nat → Nat → Int := fun L i => if 100 ≤ i then z0.getD (i - 100) 0 else if i = 90 then (len0 : Int) else 0
  have hz := row8_bytes hr
  have hb : ∀ L : Nat, L ≤ 9 → (L = 9 → 9 ≤ len0) → ∀ i, (bd L i).1 ≤ ρ L i ∧ ρ L i ≤ (bd L i).2 := by
    intro L hL hA i
    have hz := hz (i - 100)
    have hm := row8_len hr
    have hl0 : len0 ≤ cap0 := by
      rcases hr with ⟨_, h1, h2, _⟩ | ⟨_, _, h, _⟩
      · omega
      · exact h
    simp only [bd, cnd_eq, Nat.beq_eq, Nat.ble_eq, ρ]
    (repeat' split) <;> (try dsimp only) <;> omega
  have hh : ∀ L : Nat, L ≤ 9 → EntryOk (ρ L) Tryz.prog 27 (.hook (hookW [])) := fun L hL => hook_ok (fn := Tryz.f27) Tryz.func27 rfl rfl (by intro p hp; cases hp)
  have hm := row8_len hr
  have hρ : ∀ L i, ρ L (100 + i) = z0.getD i 0 := by
    intro L i
    simp only [ρ]
    rw [if_pos (by omega), show 100 + i - 100 = i by omega]
  have hl : ∀ L, ρ L 90 = (len0 : Int) := fun _ => rfl
  rcases row8_cases hr with ⟨rfl, rfl, rfl⟩ | ⟨x, rfl, rfl⟩ | ⟨B, δ, z, rfl, hlen, hlc, hδ, hH⟩
  · exact law_okE (hb 0 (by omega) (by omega)) mixed (tab_all (ρ 0) _ (hh 0 (by omega))) rfl (hr0 (ρ 0) w) own0 (show VRs (ρ 0) env0 _ _ from .cons .nils (.nil)) (runsnil )
  · exact law_okE (hb 0 (by omega) (by omega)) mixed (tab_all (ρ 0) _ (hh 0 (by omega))) rfl (hr0 (ρ 0) w) own0 (show VRs (ρ 0) env0 _ _ from .cons .emp (.nil)) (runsemp )
  by_cases hc : len0 < 9
  · exact law_okE (hb len0 (by omega) (by omega)) mixed (tab_all (ρ len0) _ (hh len0 (by omega))) rfl (hH (ρ len0) 100 len0 (Nat.le_refl _) (fun i _ => hρ len0 i)) ownA (show VRs (ρ len0) (envA B δ z) _ _ from .cons (vr_sl0 rfl hlc hδ) (.nil)) (runslen  len0 hlen hc)
  · exact law_okE (hb 9 (by omega) (by omega)) mixed (tab_all (ρ 9) _ (hh 9 (by omega))) rfl (hH (ρ 9) 100 9 (by omega) (fun i _ => hρ 9 i)) ownA (show VRs (ρ 9) (envA B δ z) _ _ from .cons (.arg rfl (ir_sym (show (len0 : Int) = IntKind.i64.wrap (ρ 9 90) by rw [hl 9]; exact (wrap_in (k := .i64) (Int.le_trans (by decide) (Int.natCast_nonneg _)) (Int.le_trans (Int.ofNat_le.2 (Nat.le_trans hlc hm)) (by decide))).symm)) (by omega) hlc (by omega)) (.nil)) (runsarg )
end Go.Proofs.YtkibmjcooffglaaGreat.endOwnRun
