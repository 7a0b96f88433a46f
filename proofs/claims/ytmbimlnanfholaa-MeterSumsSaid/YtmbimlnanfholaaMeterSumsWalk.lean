/- The law MeterSums returns true for every input, and leaves what was there as it was. -/
import Derived.Test.YtmbimlnanfholaaMeterSumsRun
import Derived.Test.YtmbimlnanfholaaMeterSumsIn
import Derived.WalkKit
import Derived.ProofKit
namespace Go.Proofs.Ytmbimlnanfholaa.meterSumsRun
open Go.Vm Go.RowKit
set_option linter.unusedVariables false
set_option linter.unusedSimpArgs false
set_option maxRecDepth 1000000
theorem walk (a1 : Int) (a0 : Option Addr) (len0 cap0 : Nat) (z0 : List Int) (w : World) (hr : IsRowI w a0 len0 cap0 z0) (w1 : (Lit.int .i64 a1).wf = true) : Calls Try.prog 5 #[.slice a0 len0 cap0, .int .i64 a1] w fun e w' => e = .returned (.bool true) ∧ Below w.heap.size w w' := by
  have c1 : -9223372036854775808 ≤ a1 ∧ a1 ≤ 9223372036854775807 := by simpa [Lit.wf, IntKind.min, IntKind.max, IntKind.signed, IntKind.bits] using w1
  obtain ⟨k, hk⟩ : ∃ k : Nat, a1 % 8 = k := ⟨(a1 % 8).toNat, by omega⟩
  have hk8 : k < 8 := by omega
  let ρ : Nat → Int := fun i => if 200 ≤ i then z0.getD (i - 200) 0 % 2147483648 else if 100 ≤ i then z0.getD (i - 100) 0 else if i = 90 then (len0 : Int) else if i = 1 then a1 else 0
  have v1 : IntKind.i64.wrap a1 = a1 := wrap_in c1.1 c1.2
  have q1 : ρ 1 = a1 := rfl
  have hz := rowI_nums hr
  have hm := rowI_len hr
  have hl0 : len0 ≤ cap0 := by
    rcases hr with ⟨_, h1, h2, _⟩ | ⟨_, _, h, _⟩
    · omega
    · exact h
  have hb : ∀ q : Bool, (q = true → 21 ≤ len0) → ∀ i, (bdm q i).1 ≤ ρ i ∧ ρ i ≤ (bdm q i).2 := by
    intro q hq i
    have g1 := hz (i - 100)
    simp only [bdm, cnd_eq, Nat.beq_eq, Nat.ble_eq, ρ]
    (repeat' split) <;> (try dsimp only) <;> first | omega | (have := hq ‹_›; omega) | (simp_all; omega)
  have hρ : ∀ i, i < 100 → ρ (100 + i) = z0.getD i 0 := by
    intro i hi
    simp only [ρ]
    rw [if_neg (by omega), if_pos (by omega), show 100 + i - 100 = i by omega]
  have hρ' : ∀ i, ρ (200 + i) = z0.getD i 0 % 2147483648 := by
    intro i
    simp only [ρ]
    rw [if_pos (by omega), show 200 + i - 200 = i by omega]
  have hh : EntryOk ρ Try.prog 13 (.hook (hookW ((1, 8, .c (Int.ofNat k)) :: hkl 20 100))) := by
    refine hook_ok (fn := Try.f13) Try.func13 rfl rfl ?_
    intro p hp w
    rw [List.mem_cons] at hp
    rcases hp with rfl | hp
    · have := within a1 8 w1 (by omega) (by omega) w
      rw [hk] at this
      exact ⟨_, rfl, by simp only [q1, v1]; exact this⟩
    · obtain ⟨j, hj, rfl⟩ := hkl_mem _ _ _ hp
      have g := hz j
      have wf : (Lit.int .i64 (z0.getD j 0)).wf = true := by simpa [Lit.wf, IntKind.min, IntKind.max, IntKind.signed, IntKind.bits] using g
      have := within _ 2147483648 wf (by omega) (by omega) w
      have e : IntKind.i64.wrap (ρ (100 + j)) = z0.getD j 0 := by rw [hρ j (by omega)]; exact wrap_in (k := .i64) g.1 g.2
      refine ⟨_, ir_sym (show z0.getD j 0 % 2147483648 = IntKind.i64.wrap (ρ (100 + j + 100)) from ?_), by rw [e]; exact this⟩
      rw [show 100 + j + 100 = 200 + j by omega, hρ']
      generalize z0.getD j 0 = y at *
      exact (wrap_in (k := .i64) (Int.le_trans (by decide) (Int.emod_nonneg y (by decide))) (Int.le_trans (Int.le_of_lt (Int.emod_lt_of_pos y (by decide))) (by decide))).symm
  have hv1 : ∀ E, VR ρ E (.int .i64 (.s [(1, 1)] 0)) (.int .i64 a1) := fun E => .int (ir_sym (show a1 = IntKind.i64.wrap (ρ 1) from v1.symm))
  have hl : ρ 90 = (len0 : Int) := rfl
  rcases rowI_cases hr with ⟨rfl, rfl, rfl⟩ | ⟨x, rfl, rfl⟩ | ⟨B, δ, z, rfl, hlen, hlc, hδ, hH⟩
  · exact law_okE (hb false (by simp)) mixed (tab_all ρ _ hh) rfl (hr0 ρ w) own0 (show VRs ρ env0 _ _ from .cons .nils (.cons (hv1 _) .nil)) (rsnil k hk8)
  · exact law_okE (hb false (by simp)) mixed (tab_all ρ _ hh) rfl (hr0 ρ w) own0 (show VRs ρ env0 _ _ from .cons .emp (.cons (hv1 _) .nil)) (rsemp k hk8)
  by_cases hc : len0 < 21
  · exact law_okE (hb false (by simp)) mixed (tab_all ρ _ hh) rfl (hH ρ 100 len0 (Nat.le_refl _) (fun i hi => hρ i (by omega))) ownAI (show VRs ρ (envA B δ z) _ _ from .cons (vr_sl0 rfl hlc hδ) (.cons (hv1 _) .nil)) (rslen k hk8 len0 hlen hc)
  · exact law_okE (hb true (fun _ => by omega)) mixed (tab_all ρ _ hh) rfl (hH ρ 100 20 (by omega) (fun i hi => hρ i (by omega))) ownAI (show VRs ρ (envA B δ z) _ _ from .cons (.arg rfl (ir_sym (show (len0 : Int) = IntKind.i64.wrap (ρ 90) by rw [hl]; exact (wrap_in (k := .i64) (Int.le_trans (by decide) (Int.natCast_nonneg _)) (Int.le_trans (Int.ofNat_le.2 (Nat.le_trans hlc hm)) (by decide))).symm)) (by omega) hlc (by omega)) (.cons (hv1 _) .nil)) (rsarg k hk8)
end Go.Proofs.Ytmbimlnanfholaa.meterSumsRun
