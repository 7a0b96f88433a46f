/- The law SpanForms returns true for every input, and leaves what was there as it was. -/
import Derived.Test.YtmbimlnanfholabSpanFormsRun
import Derived.Test.YtmbimlnanfholabSpanFormsIn
import Derived.WalkKit
import Derived.ProofKit
namespace Go.Proofs.Ytmbimlnanfholab.spanFormsRun
open Go.Vm Go.RowKit
set_option linter.unusedVariables false
set_option linter.unusedSimpArgs false
set_option maxRecDepth 1000000
theorem walk (a1 : Int) (a0 : Option Addr) (len0 cap0 : Nat) (z0 : List Int) (w : World) (hr : IsRow8 w a0 len0 cap0 z0) (w1 : (Lit.int .i64 a1).wf = true) : Calls Try.prog 5 #[.slice a0 len0 cap0, .int .i64 a1] w fun e w' => e = .returned (.bool true) ∧ Below w.heap.size w w' := by
  let ρ : Nat → Nat → Int := fun L i => if i = 1 then a1 else if i = 3 then a1 % ((L : Int) + 1) else if 100 ≤ i then z0.getD (i - 100) 0 else if i = 90 then (len0 : Int) else 0
  have c1 : -9223372036854775808 ≤ a1 ∧ a1 ≤ 9223372036854775807 := by simpa [Lit.wf, IntKind.min, IntKind.max, IntKind.signed, IntKind.bits] using w1
  have v1 : IntKind.i64.wrap a1 = a1 := wrap_in c1.1 c1.2
  have q1 : ∀ L, ρ L 1 = a1 := fun _ => rfl
  have u1 : ∀ L : Nat, L ≤ 50 → 0 ≤ a1 % ((L : Int) + 1) ∧ a1 % ((L : Int) + 1) < ((L : Int) + 1) := fun L hL => ⟨Int.emod_nonneg a1 (by omega), Int.emod_lt_of_pos a1 (by omega)⟩
  have q1' : ∀ L, ρ L 3 = a1 % ((L : Int) + 1) := fun _ => rfl
  have hz := row8_bytes hr
  have hb : ∀ L : Nat, L ≤ 50 → (L = 50 → 50 ≤ len0) → ∀ i, (bd L i).1 ≤ ρ L i ∧ ρ L i ≤ (bd L i).2 := by
    intro L hL hA i
    have := u1 L hL
    have hz := hz (i - 100)
    have hm := row8_len hr
    have hl0 : len0 ≤ cap0 := by
      rcases hr with ⟨_, h1, h2, _⟩ | ⟨_, _, h, _⟩
      · omega
      · exact h
    simp only [bd, cnd_eq, Nat.beq_eq, Nat.ble_eq, ρ]
    (repeat' split) <;> (try dsimp only) <;> omega
  have hh : ∀ L : Nat, L ≤ 50 → EntryOk (ρ L) Try.prog 19 (.hook (hookW [(1, (L : Int) + 1, .s [(3, 1)] 0)])) := by
    intro L hL
    refine hook_ok (fn := Try.f19) Try.func19 rfl rfl (l := [(1, (L : Int) + 1, .s [(3, 1)] 0)]) ?_
    intro p hp w
    simp only [List.mem_cons, List.not_mem_nil, or_false] at hp
    rcases hp with rfl
    · have := within a1 ((L : Int) + 1) w1 (by omega) (by omega) w
      have g := u1 L hL
      exact ⟨_, ir_sym (show a1 % ((L : Int) + 1) = IntKind.i64.wrap (ρ L 3) by rw [q1' L]; exact (wrap_in (k := .i64) (Int.le_trans (by decide) g.1) (Int.le_trans (Int.le_of_lt g.2) (by simp only [IntKind.max, IntKind.signed, IntKind.bits]; omega))).symm), by simp only [q1 L, v1]; exact this⟩
  have hm := row8_len hr
  have hρ : ∀ L i, ρ L (100 + i) = z0.getD i 0 := by
    intro L i
    simp only [ρ]
    rw [if_neg (by omega), if_neg (by omega), if_pos (by omega), show 100 + i - 100 = i by omega]
  have hl : ∀ L, ρ L 90 = (len0 : Int) := fun _ => rfl
  rcases row8_cases hr with ⟨rfl, rfl, rfl⟩ | ⟨x, rfl, rfl⟩ | ⟨B, δ, z, rfl, hlen, hlc, hδ, hH⟩
  · exact law_okE (hb 0 (by omega) (by omega)) mixed (tab_all (ρ 0) _ (hh 0 (by omega))) rfl (hr0 (ρ 0) w) own0 (show VRs (ρ 0) env0 _ _ from .cons .nils (.cons (.int (ir_sym (show a1 = IntKind.i64.wrap (ρ 0 1) from v1.symm))) (.nil))) (runsnil )
  · exact law_okE (hb 0 (by omega) (by omega)) mixed (tab_all (ρ 0) _ (hh 0 (by omega))) rfl (hr0 (ρ 0) w) own0 (show VRs (ρ 0) env0 _ _ from .cons .emp (.cons (.int (ir_sym (show a1 = IntKind.i64.wrap (ρ 0 1) from v1.symm))) (.nil))) (runsemp )
  by_cases hc : len0 < 50
  · exact law_okE (hb len0 (by omega) (by omega)) mixed (tab_all (ρ len0) _ (hh len0 (by omega))) rfl (hH (ρ len0) 100 len0 (Nat.le_refl _) (fun i _ => hρ len0 i)) ownA (show VRs (ρ len0) (envA B δ z) _ _ from .cons (vr_sl0 rfl hlc hδ) (.cons (.int (ir_sym (show a1 = IntKind.i64.wrap (ρ len0 1) from v1.symm))) (.nil))) (runslen  len0 hlen hc)
  · exact law_okE (hb 50 (by omega) (by omega)) mixed (tab_all (ρ 50) _ (hh 50 (by omega))) rfl (hH (ρ 50) 100 50 (by omega) (fun i _ => hρ 50 i)) ownA (show VRs (ρ 50) (envA B δ z) _ _ from .cons (.arg rfl (ir_sym (show (len0 : Int) = IntKind.i64.wrap (ρ 50 90) by rw [hl 50]; exact (wrap_in (k := .i64) (Int.le_trans (by decide) (Int.natCast_nonneg _)) (Int.le_trans (Int.ofNat_le.2 (Nat.le_trans hlc hm)) (by decide))).symm)) (by omega) hlc (by omega)) (.cons (.int (ir_sym (show a1 = IntKind.i64.wrap (ρ 50 1) from v1.symm))) (.nil))) (runsarg )
end Go.Proofs.Ytmbimlnanfholab.spanFormsRun
