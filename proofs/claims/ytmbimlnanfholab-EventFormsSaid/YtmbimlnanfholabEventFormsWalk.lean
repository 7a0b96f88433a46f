/- The law EventForms returns true for every input, and leaves what was there as it was. -/
import Derived.Test.YtmbimlnanfholabEventFormsRun
import Derived.Test.YtmbimlnanfholabEventFormsIn
import Derived.WalkKit
import Derived.ProofKit
namespace Go.Proofs.Ytmbimlnanfholab.eventFormsRun
open Go.Vm Go.RowKit
set_option linter.unusedVariables false
set_option linter.unusedSimpArgs false
set_option maxRecDepth 1000000
theorem walk (a0 : Int) (a1 : Int) (a2 : Option Addr) (len2 cap2 : Nat) (z2 : List Int) (w : World) (hr : IsRow8 w a2 len2 cap2 z2) (w0 : (Lit.int .i64 a0).wf = true) (w1 : (Lit.int .i64 a1).wf = true) : Calls Try.prog 8 #[.int .i64 a0, .int .i64 a1, .slice a2 len2 cap2] w fun e w' => e = .returned (.bool true) ∧ Below w.heap.size w w' := by
  let ρ : Nat → Nat → Int := fun L i => if i = 0 then a0 else if i = 1 then a1 else if i = 3 then a0 % 63 else if i = 4 then a1 % 3 else if 100 ≤ i then z2.getD (i - 100) 0 else if i = 90 then (len2 : Int) else 0
  have c0 : -9223372036854775808 ≤ a0 ∧ a0 ≤ 9223372036854775807 := by simpa [Lit.wf, IntKind.min, IntKind.max, IntKind.signed, IntKind.bits] using w0
  have v0 : IntKind.i64.wrap a0 = a0 := wrap_in c0.1 c0.2
  have q0 : ∀ L, ρ L 0 = a0 := fun _ => rfl
  have c1 : -9223372036854775808 ≤ a1 ∧ a1 ≤ 9223372036854775807 := by simpa [Lit.wf, IntKind.min, IntKind.max, IntKind.signed, IntKind.bits] using w1
  have v1 : IntKind.i64.wrap a1 = a1 := wrap_in c1.1 c1.2
  have q1 : ∀ L, ρ L 1 = a1 := fun _ => rfl
  have u0 : ∀ L : Nat, L ≤ 40 → 0 ≤ a0 % 63 ∧ a0 % 63 < 63 := fun L hL => ⟨Int.emod_nonneg a0 (by omega), Int.emod_lt_of_pos a0 (by omega)⟩
  have q0' : ∀ L, ρ L 3 = a0 % 63 := fun _ => rfl
  have u1 : ∀ L : Nat, L ≤ 40 → 0 ≤ a1 % 3 ∧ a1 % 3 < 3 := fun L hL => ⟨Int.emod_nonneg a1 (by omega), Int.emod_lt_of_pos a1 (by omega)⟩
  have q1' : ∀ L, ρ L 4 = a1 % 3 := fun _ => rfl
  have hz := row8_bytes hr
  have hb : ∀ L : Nat, L ≤ 40 → (L = 40 → 40 ≤ len2) → ∀ i, (bd L i).1 ≤ ρ L i ∧ ρ L i ≤ (bd L i).2 := by
    intro L hL hA i
    have := u0 L hL
    have := u1 L hL
    have hz := hz (i - 100)
    have hm := row8_len hr
    have hl0 : len2 ≤ cap2 := by
      rcases hr with ⟨_, h1, h2, _⟩ | ⟨_, _, h, _⟩
      · omega
      · exact h
    simp only [bd, cnd_eq, Nat.beq_eq, Nat.ble_eq, ρ]
    (repeat' split) <;> (try dsimp only) <;> omega
  have hh : ∀ L : Nat, L ≤ 40 → EntryOk (ρ L) Try.prog 19 (.hook (hookW [(0, 63, .s [(3, 1)] 0), (1, 3, .s [(4, 1)] 0)])) := by
    intro L hL
    refine hook_ok (fn := Try.f19) Try.func19 rfl rfl (l := [(0, 63, .s [(3, 1)] 0), (1, 3, .s [(4, 1)] 0)]) ?_
    intro p hp w
    simp only [List.mem_cons, List.not_mem_nil, or_false] at hp
    rcases hp with rfl | rfl
    · have := within a0 63 w0 (by omega) (by omega) w
      have g := u0 L hL
      exact ⟨_, ir_sym (show a0 % 63 = IntKind.i64.wrap (ρ L 3) by rw [q0' L]; exact (wrap_in (k := .i64) (Int.le_trans (by decide) g.1) (Int.le_trans (Int.le_of_lt g.2) (by simp only [IntKind.max, IntKind.signed, IntKind.bits]; omega))).symm), by simp only [q0 L, v0]; exact this⟩
    · have := within a1 3 w1 (by omega) (by omega) w
      have g := u1 L hL
      exact ⟨_, ir_sym (show a1 % 3 = IntKind.i64.wrap (ρ L 4) by rw [q1' L]; exact (wrap_in (k := .i64) (Int.le_trans (by decide) g.1) (Int.le_trans (Int.le_of_lt g.2) (by simp only [IntKind.max, IntKind.signed, IntKind.bits]; omega))).symm), by simp only [q1 L, v1]; exact this⟩
  have hm := row8_len hr
  have hρ : ∀ L i, ρ L (100 + i) = z2.getD i 0 := by
    intro L i
    simp only [ρ]
    rw [if_neg (by omega), if_neg (by omega), if_neg (by omega), if_neg (by omega), if_pos (by omega), show 100 + i - 100 = i by omega]
  have hl : ∀ L, ρ L 90 = (len2 : Int) := fun _ => rfl
  rcases row8_cases hr with ⟨rfl, rfl, rfl⟩ | ⟨x, rfl, rfl⟩ | ⟨B, δ, z, rfl, hlen, hlc, hδ, hH⟩
  · exact law_okE (hb 0 (by omega) (by omega)) mixed (tab_all (ρ 0) _ (hh 0 (by omega))) rfl (hr0 (ρ 0) w) own0 (show VRs (ρ 0) env0 _ _ from .cons (.int (ir_sym (show a0 = IntKind.i64.wrap (ρ 0 0) from v0.symm))) (.cons (.int (ir_sym (show a1 = IntKind.i64.wrap (ρ 0 1) from v1.symm))) (.cons .nils (.nil)))) (runsnil )
  · exact law_okE (hb 0 (by omega) (by omega)) mixed (tab_all (ρ 0) _ (hh 0 (by omega))) rfl (hr0 (ρ 0) w) own0 (show VRs (ρ 0) env0 _ _ from .cons (.int (ir_sym (show a0 = IntKind.i64.wrap (ρ 0 0) from v0.symm))) (.cons (.int (ir_sym (show a1 = IntKind.i64.wrap (ρ 0 1) from v1.symm))) (.cons .emp (.nil)))) (runsemp )
  by_cases hc : len2 < 40
  · exact law_okE (hb len2 (by omega) (by omega)) mixed (tab_all (ρ len2) _ (hh len2 (by omega))) rfl (hH (ρ len2) 100 len2 (Nat.le_refl _) (fun i _ => hρ len2 i)) ownA (show VRs (ρ len2) (envA B δ z) _ _ from .cons (.int (ir_sym (show a0 = IntKind.i64.wrap (ρ len2 0) from v0.symm))) (.cons (.int (ir_sym (show a1 = IntKind.i64.wrap (ρ len2 1) from v1.symm))) (.cons (vr_sl0 rfl hlc hδ) (.nil)))) (runslen  len2 hlen hc)
  · exact law_okE (hb 40 (by omega) (by omega)) mixed (tab_all (ρ 40) _ (hh 40 (by omega))) rfl (hH (ρ 40) 100 40 (by omega) (fun i _ => hρ 40 i)) ownA (show VRs (ρ 40) (envA B δ z) _ _ from .cons (.int (ir_sym (show a0 = IntKind.i64.wrap (ρ 40 0) from v0.symm))) (.cons (.int (ir_sym (show a1 = IntKind.i64.wrap (ρ 40 1) from v1.symm))) (.cons (.arg rfl (ir_sym (show (len2 : Int) = IntKind.i64.wrap (ρ 40 90) by rw [hl 40]; exact (wrap_in (k := .i64) (Int.le_trans (by decide) (Int.natCast_nonneg _)) (Int.le_trans (Int.ofNat_le.2 (Nat.le_trans hlc hm)) (by decide))).symm)) (by omega) hlc (by omega)) (.nil)))) (runsarg )
end Go.Proofs.Ytmbimlnanfholab.eventFormsRun
