/- The law VintLead returns true for every input, and leaves what was there as it was. -/
import Derived.Test.YtmbimlnanfholaaVintLeadRun
import Derived.Test.YtmbimlnanfholaaVintLeadIn
import Derived.WalkKit
import Derived.ProofKit
namespace Go.Proofs.Ytmbimlnanfholaa.vintLeadRun
open Go.Vm Go.RowKit
set_option linter.unusedVariables false
set_option linter.unusedSimpArgs false
set_option maxRecDepth 1000000
theorem walk (a0 : Int) (a1 : Option Addr) (len1 cap1 : Nat) (z1 : List Int) (w : World) (hr : IsRow8 w a1 len1 cap1 z1) (w0 : (Lit.int .u8 a0).wf = true) : Calls Try.prog 11 #[.int .u8 a0, .slice a1 len1 cap1] w fun e w' => e = .returned (.bool true) ∧ Below w.heap.size w w' := by
  have c0 : 0 ≤ a0 ∧ a0 ≤ 255 := by simpa [Lit.wf, IntKind.min, IntKind.max, IntKind.signed, IntKind.bits] using w0
  obtain ⟨t, ht⟩ : ∃ t : Nat, a0 / 64 = t := ⟨(a0 / 64).toNat, by omega⟩
  have ht4 : t < 4 := by omega
  let ρ : Nat → Int := fun i => if i = 50 then a0 % 64 else if 100 ≤ i then z1.getD (i - 100) 0 else if i = 90 then (len1 : Int) else 0
  let dg : Nat → Int := fun m => if m = 0 then a0 % 64 else z1.getD (m - 1) 0
  have hz := row8_bytes hr
  have h0 : 0 ≤ dg 0 ∧ dg 0 ≤ 63 := by show 0 ≤ a0 % 64 ∧ a0 % 64 ≤ 63; omega
  have hd : ∀ m, 0 ≤ dg m ∧ dg m ≤ 255 := by
    intro m
    have := hz (m - 1)
    simp only [dg]
    split <;> omega
  have hm := row8_len hr
  have hl0 : len1 ≤ cap1 := by
    rcases hr with ⟨_, h1, h2, _⟩ | ⟨_, _, h, _⟩
    · omega
    · exact h
  have hb : ∀ (L i : Nat) (lo hi : Int), (L = 12 → 12 ≤ len1) → Dig dg i lo hi → ∀ x, (bdl L i lo hi x).1 ≤ ρ x ∧ ρ x ≤ (bdl L i lo hi x).2 := by
    intro L i lo hi hL hD x
    obtain ⟨d1, d2, d3⟩ := hD
    have hB : ∀ m, (dgB i lo hi m).1 ≤ dg m ∧ dg m ≤ (dgB i lo hi m).2 := by
      intro m
      have b := hd m
      simp only [dgB, cnd_eq, Nat.blt_eq, Nat.beq_eq]
      split
      · rename_i h; rw [d1 m h]; exact ⟨Int.le_refl _, Int.le_refl _⟩
      · split
        · rename_i h; subst h; exact ⟨d2, d3⟩
        · split
          · rename_i h; subst h; exact h0
          · exact b
    have g0 := hB 0
    have g1 := hB (x - 99)
    simp only [bdl, cnd_eq, Nat.beq_eq, Nat.ble_eq, ρ]
    by_cases x50 : x = 50
    · rw [if_pos x50, if_pos x50]; exact g0
    · rw [if_neg x50, if_neg x50]
      by_cases x100 : 100 ≤ x
      · rw [if_pos x100, if_pos x100]
        simp only [dg] at g1
        rw [if_neg (by omega), show x - 99 - 1 = x - 100 by omega] at g1
        exact g1
      · rw [if_neg x100, if_neg x100]
        (repeat' split) <;> (try dsimp only) <;> omega
  have hh : EntryOk ρ Try.prog 13 (.hook (hookW [])) := hook_ok (fn := Try.f13) Try.func13 rfl rfl (by intro p hp; cases hp)
  have hv0 : VR ρ env0 (.int .u8 (.s [(50, 1)] (64 * (t : Int)))) (.int .u8 a0) := .int (by
    show a0 = IntKind.u8.wrap (lin ρ [(50, 1)] + 64 * (t : Int))
    have q : ρ 50 = a0 % 64 := rfl
    simp only [lin, q]
    have e : 1 * (a0 % 64) + 0 + 64 * (t : Int) = a0 := by omega
    rw [e]
    exact (wrap_in (k := .u8) c0.1 c0.2).symm)
  have hv : ∀ E, VR ρ E (.int .u8 (.s [(50, 1)] (64 * (t : Int)))) (.int .u8 a0) := fun E => by cases hv0 with | int h => exact .int h
  have hρ : ∀ i, ρ (100 + i) = z1.getD i 0 := by
    intro i
    simp only [ρ]
    rw [if_neg (by omega), if_pos (by omega), show 100 + i - 100 = i by omega]
  have hl : ρ 90 = (len1 : Int) := rfl
  rcases row8_cases hr with ⟨rfl, rfl, rfl⟩ | ⟨x, rfl, rfl⟩ | ⟨B, δ, z, rfl, hlen, hlc, hδ, hH⟩
  · obtain ⟨i, lo, hi, hD, hrun⟩ := rsnil t ht4 dg h0 hd
    exact law_okE (hb _ _ _ _ (by omega) hD) mixed (tab_all ρ _ hh) rfl (hr0 ρ w) own0 (show VRs ρ env0 _ _ from .cons (hv _) (.cons .nils .nil)) hrun
  · obtain ⟨i, lo, hi, hD, hrun⟩ := rsemp t ht4 dg h0 hd
    exact law_okE (hb _ _ _ _ (by omega) hD) mixed (tab_all ρ _ hh) rfl (hr0 ρ w) own0 (show VRs ρ env0 _ _ from .cons (hv _) (.cons .emp .nil)) hrun
  by_cases hc : len1 < 12
  · obtain ⟨i, lo, hi, hD, hrun⟩ := rslen t ht4 dg h0 hd len1 hlen hc
    exact law_okE (hb _ _ _ _ (by omega) hD) mixed (tab_all ρ _ hh) rfl (hH ρ 100 len1 (Nat.le_refl _) (fun i _ => hρ i)) ownA (show VRs ρ (envA B δ z) _ _ from .cons (hv _) (.cons (vr_sl0 rfl hlc hδ) .nil)) hrun
  · obtain ⟨i, lo, hi, hD, hrun⟩ := rsarg t ht4 dg h0 hd
    exact law_okE (hb _ _ _ _ (by omega) hD) mixed (tab_all ρ _ hh) rfl (hH ρ 100 12 (by omega) (fun i _ => hρ i)) ownA (show VRs ρ (envA B δ z) _ _ from .cons (hv _) (.cons (.arg rfl (ir_sym (show (len1 : Int) = IntKind.i64.wrap (ρ 90) by rw [hl]; exact (wrap_in (k := .i64) (Int.le_trans (by decide) (Int.natCast_nonneg _)) (Int.le_trans (Int.ofNat_le.2 (Nat.le_trans hlc hm)) (by decide))).symm)) (by omega) hlc (by omega)) .nil)) hrun
end Go.Proofs.Ytmbimlnanfholaa.vintLeadRun
