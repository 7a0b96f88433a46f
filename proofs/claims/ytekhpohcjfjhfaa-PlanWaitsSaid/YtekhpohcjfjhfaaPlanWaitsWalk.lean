/- The law PlanWaits returns true for every input, and leaves what was there as it was. -/
import Derived.Test.YtekhpohcjfjhfaaPlanWaitsRun
import Derived.Test.YtekhpohcjfjhfaaPlanWaitsIn
import Derived.WalkKit
import Derived.ProofKit
namespace Go.Proofs.Ytekhpohcjfjhfaa.planWaitsRun
open Go.Vm Go.RowKit
set_option linter.unusedVariables false
set_option linter.unusedSimpArgs false
set_option maxRecDepth 1000000
def In (x : Int) : Prop := -9223372036854775808 ≤ x ∧ x ≤ 9223372036854775807
theorem wr {x : Int} (h : In x) : IntKind.i64.wrap x = x := wrap_in (k := .i64) h.1 h.2
theorem irs {ρ : Nat → Int} {i : Nat} {v : Int} (h : ρ i = v) (hb : In v) : IR ρ .i64 (.s [(i, 1)] 0) v := ir_sym (by rw [h, wr hb])
theorem irv {ρ : Nat → Int} {i : Nat} {X v : Int} (h : IR ρ .i64 (.s [(i, 1)] 0) X) (hv : ρ i = v) (hb : In v) : X = v := by rw [ir_inv h, hv, wr hb]
theorem wf {x : Int} (h : In x) : (Lit.int .i64 x).wf = true := by simpa [Lit.wf, IntKind.min, IntKind.max, IntKind.signed, IntKind.bits, In] using h
def mn (a b : Int) : Int := if a ≤ b then a else b
theorem mn_eq (a b : Int) : (a ≤ b ∧ mn a b = a) ∨ (b ≤ a ∧ mn a b = b) := by unfold mn; split <;> omega
/-- what the signs stand for, ahead of the loops -/
def rho (a1 a2 : Int) (len0 : Nat) (z0 : List Int) (L : Nat) : Nat → Int := fun x =>
  if 100 ≤ x then z0.getD (x - 100) 0 else if x = 90 then (if len0 < 50 then 50 else (len0 : Int)) else if x = 51 then a2 % 60 else if x = 50 then a1 % (L : Int) else if x = 2 then a2 else if x = 1 then a1 else 0
theorem rho_in {a1 a2 : Int} {len0 L : Nat} {z0 : List Int} (c1 : In a1) (c2 : In a2) (h0 : ∀ i, 0 ≤ z0.getD i 0 ∧ z0.getD i 0 ≤ 255) (hl0 : len0 ≤ 9223372036854775807) (hL : 0 < L) (hL2 : L < 52) (x : Nat) : In (rho a1 a2 len0 z0 L x) := by
  unfold rho
  by_cases g100 : 100 ≤ x
  · rw [if_pos g100]; have := h0 (x - 100); exact ⟨by omega, by omega⟩
  rw [if_neg g100]
  by_cases g90 : x = 90
  · rw [if_pos g90]; split <;> exact ⟨by omega, by omega⟩
  rw [if_neg g90]
  by_cases g51 : x = 51
  · rw [if_pos g51]; exact ⟨by omega, by omega⟩
  rw [if_neg g51]
  by_cases g50 : x = 50
  · rw [if_pos g50]
    have g1 := Int.emod_nonneg a1 (show (L : Int) ≠ 0 by omega)
    have g2 := Int.emod_lt_of_pos a1 (show (0 : Int) < (L : Int) by omega)
    exact ⟨by omega, by omega⟩
  rw [if_neg g50]
  by_cases g2 : x = 2
  · rw [if_pos g2]; exact c2
  rw [if_neg g2]
  by_cases g1 : x = 1
  · rw [if_pos g1]; exact c1
  · rw [if_neg g1]; exact ⟨by omega, by omega⟩
theorem tabL (h : VF) : (tab h).get 5 = some (.code 3 lawV lawC lawR) := by kernel_rfl
theorem hk_ok {ρ : Nat → Int} {l : List (Nat × Int × AI)} (h : ∀ p ∈ l, ∃ (x m v : Int), p.2.1 = m ∧ In x ∧ ρ p.1 = x ∧ 1 ≤ m ∧ m ≤ 100 ∧ x % m = v ∧ IR ρ .i64 p.2.2 v) : EntryOk ρ Try.prog 17 (.hook (hookW l)) := by
  refine hook_ok (fn := Try.f17) Try.func17 rfl rfl ?_
  intro p hp w
  obtain ⟨x, m, v, e1, hx, e2, m1, m2, e3, hv⟩ := h p hp
  have g := within x m (wf hx) m1 (by omega) w
  exact ⟨v, hv, by rw [e2, wr hx, e1, ← e3]; exact g⟩
theorem hk0 (ρ : Nat → Int) : EntryOk ρ Try.prog 17 (.hook (hookW [])) := hook_ok (fn := Try.f17) Try.func17 rfl rfl (by intro p hp; cases hp)
theorem call0 {ρ : Nat → Int} {bd : Bd} (hb : BdOk ρ bd) : CallsOk ρ Try.prog (callF bd tb0.get 5000 60) := calls_ok hb mixed (tab := tb0.get) (tab_all ρ _ (hk0 ρ)).get 5000 60
theorem irl {ρ : Nat → Int} {ts : List (Nat × Int)} {d X v : Int} (h : IR ρ .i64 (.s ts d) X) (hv : lin ρ ts + d = v) (hb : In v) : X = v := by
  have h : X = IntKind.i64.wrap (lin ρ ts + d) := h
  rw [h, hv, wr hb]
theorem ms_top (L : Nat) : ∀ b, 5 ≤ b → (ms L).heap.get b = none := by
  intro b hb
  show (ms L).m.g b = none
  unfold ms
  simp only [St.m_put]
  rw [if_neg (by omega), if_neg (by omega), if_neg (by omega), if_neg (by omega), if_neg (by omega)]
  rfl
/-- what stands for what, with 70 chosen anew -/
theorem anew {σ : List (Nat × IntKind × AI)} {ρ : Nat → Int} (hρ : ∀ x, In (ρ x)) (hs : okS 52 62 σ = true) (h70 : noS σ 70 = true) (v : Int) (hv : In v) : ∃ ρ' : Nat → Int, (∀ x q, lkS σ x = some q → ρ' x = valA ρ q.1 q.2) ∧ (∀ x, In (ρ' x)) ∧ ρ' 70 = v ∧ (∀ x a, x < 70 → isS σ x a = true → ρ' x = valA ρ .i64 a) ∧ ∀ x, x < 52 → ρ' x = ρ x := by
  obtain ⟨q1, q2⟩ := okS_ok hρ hs
  refine ⟨fun x => if x = 70 then v else rhoW σ ρ x, upd_is fun x => ?_, fun x => ?_, if_pos rfl, fun x a hx h => ?_, fun x hx => ?_⟩
  · by_cases h : x = 70
    · subst h; exact .inl (noS_ok h70)
    · exact .inr (if_neg h)
  · dsimp only; split
    · exact hv
    · exact q1 x
  · dsimp only; rw [if_neg (by omega)]; exact isS_ok h ρ
  · dsimp only; rw [if_neg (by omega)]; exact q2 x (by omega)
theorem val1 {ρ : Nat → Int} {x : Nat} (h : In (ρ x)) : valA ρ .i64 (sg x) = ρ x := by
  show IntKind.i64.wrap (lin ρ [(x, 1)] + 0) = _
  simp only [lin]
  rw [show 1 * ρ x + 0 + 0 = ρ x by omega, wr h]
theorem valp {ρ : Nat → Int} {x : Nat} (h : In (ρ x + 1)) : valA ρ .i64 (.s [(x, 1)] 1) = ρ x + 1 := by
  show IntKind.i64.wrap (lin ρ [(x, 1)] + 1) = _
  simp only [lin]
  rw [show 1 * ρ x + 0 + 1 = ρ x + 1 by omega, wr h]
/-- in the first loop -/
structure G1 (L j : Nat) (ρ : Nat → Int) : Prop where
  i : ∀ x, In (ρ x)
  li : 0 ≤ ρ 50 ∧ ρ 50 < (L : Int)
  ck : 1 ≤ ρ 52 ∧ ρ 52 ≤ 60
  rd : ρ 61 = (j : Int)
  at1 : (j : Int) ≤ ρ 60
  at2 : ρ 60 ≤ ρ 50
  nx : ρ 70 = mn (ρ 50) (ρ 60 + ρ 52)
/-- in the second loop -/
structure G2 (L j : Nat) (ρ : Nat → Int) : Prop where
  i : ∀ x, In (ρ x)
  ck : 1 ≤ ρ 52 ∧ ρ 52 ≤ 60
  rd : ρ 61 = (j : Int)
  at1 : (j : Int) ≤ ρ 60
  at2 : ρ 60 < (L : Int) ∨ ρ 60 = (L : Int) + 1
  nx : ρ 70 = mn ((L : Int) + 1) (ρ 60 + ρ 52)
def I1 (nt : Nat) (w0 : World) (L j : Nat) (a : Act) (w : World) : Prop := j ≤ 60 ∧ ∃ ρ, G1 L j ρ ∧ Cfg [] lawV nt (fun _ => False) w0 ρ (fr1 L) (ms L) a w
def I2 (nt : Nat) (w0 : World) (L j : Nat) (a : Act) (w : World) : Prop := j ≤ 60 ∧ ∃ ρ, G2 L j ρ ∧ Cfg [] lawV nt (fun _ => False) w0 ρ (fr2 L) (ms L) a w
theorem round1 (nt : Nat) (w0 : World) (L j : Nat) (hL1 : 0 < L) (hL : L < 52) (ρ : Nat → Int) (hG : G1 L j ρ) (hgo : ρ 60 < ρ 50) (a : Act) (w : World) (hC : Cfg [] lawV nt (fun _ => False) w0 ρ (fr1 L) (ms L) a w) (Q : Exit → Act → World → Prop) :
    W Try.prog lawV nt body1 (Exit.then (I1 nt w0 L (j + 1)) Q) a w := by
  obtain ⟨hi, li, ck, rd, at1, at2, nx⟩ := hG
  have m70 := mn_eq (ρ 50) (ρ 60 + ρ 52)
  rw [← nx] at m70
  have hb : BdOk ρ (bd1 L) := by
    refine ⟨bO_ok hi fun p hp => ?_, fun k e he => ?_⟩
    · simp only [List.mem_cons, List.not_mem_nil, or_false] at hp
      rcases hp with rfl | rfl | rfl | rfl | rfl
      · exact ⟨by show (1 : Int) ≤ ρ 50; omega, by show ρ 50 ≤ (L : Int) - 1; omega⟩
      · exact ck
      · exact ⟨by show (0 : Int) ≤ ρ 60; omega, by show ρ 60 ≤ (L : Int) - 2; omega⟩
      · exact ⟨by show (0 : Int) ≤ ρ 61; omega, by show ρ 61 ≤ 60; omega⟩
      · exact ⟨by show (1 : Int) ≤ ρ 70; omega, by show ρ 70 ≤ (L : Int) - 1; omega⟩
    · have he : e ∈ [⟨4, sg 50, sg 60, .c 0⟩, ⟨2, sg 50, .s [(52, 1), (60, 1)] 0, sg 70⟩, (⟨3, sg 50, sg 70, .c 0⟩ : Orc)] := he
      simp only [List.mem_cons, List.not_mem_nil, or_false] at he
      rcases he with rfl | rfl | rfl
      · intro X Y hX hY
        have hX := irv hX rfl (hi _)
        have hY := irv hY rfl (hi _)
        subst hX; subst hY
        show decide (ρ 50 ≤ ρ 60) = false
        simp only [decide_eq_false_iff_not]; omega
      · intro X Y hX hY
        have hX := irv hX rfl (hi _)
        have hY := irl hY (v := ρ 60 + ρ 52) (by simp only [lin]; omega) ⟨by omega, by omega⟩
        subst hX; subst hY
        exact irs nx ⟨by unfold mn at nx; split <;> omega, by split <;> omega⟩
      · intro X Y hX hY
        have hX := irv hX rfl (hi _)
        have hY := irv hY rfl (hi _)
        subst hX; subst hY
        show decide (ρ 50 < ρ 70) = false
        simp only [decide_eq_false_iff_not]; omega
  obtain ⟨F, s, σ, π, g1, g2, g3, g4, g5⟩ := toX_ok (r1 L (by omega) hL)
  simp only [Bool.and_eq_true] at g5
  obtain ⟨⟨⟨k52, k60⟩, k61⟩, k70⟩ := g5
  obtain ⟨ρ', s1, s2, s3, s4, s5⟩ := anew hi g4 k70 (mn (ρ 50) (ρ 70 + ρ 52)) (by have := mn_eq (ρ 50) (ρ 70 + ρ 52); exact ⟨by omega, by omega⟩)
  have e52 : ρ' 52 = ρ 52 := (s4 52 _ (by omega) k52).trans (val1 (hi _))
  have e60 : ρ' 60 = ρ 70 := (s4 60 _ (by omega) k60).trans (by
    by_cases h2 : L = 2
    · subst h2
      refine (val1 (hi 50)).trans ?_
      omega
    · have : r70 L = sg 70 := by
        unfold r70
        split
        · exact absurd rfl h2
        · rfl
      rw [this]; exact val1 (hi _))
  have e61 : ρ' 61 = ρ 61 + 1 := (s4 61 _ (by omega) k61).trans (valp ⟨by omega, by omega⟩)
  have e50 : ρ' 50 = ρ 50 := s5 50 (by omega)
  refine W_run hb mixed (call0 hb) hC g1 fun a' w' hC' => ?_
  exact ⟨by omega, ρ', ⟨s2, by rw [e50]; exact li, by rw [e52]; exact ck, by rw [e61]; omega, by rw [e60]; omega, by rw [e60, e50]; omega, by rw [s3, e50, e60, e52]⟩, hC'.weakA Try.prog g2 g3 (ms_top _) s1⟩
theorem round2 (nt : Nat) (w0 : World) (L j : Nat) (hL1 : 0 < L) (hL : L < 52) (ρ : Nat → Int) (hG : G2 L j ρ) (hgo : ρ 60 < (L : Int)) (a : Act) (w : World) (hC : Cfg [] lawV nt (fun _ => False) w0 ρ (fr2 L) (ms L) a w) (Q : Exit → Act → World → Prop) :
    W Try.prog lawV nt body2 (Exit.then (I2 nt w0 L (j + 1)) Q) a w := by
  obtain ⟨hi, ck, rd, at1, at2, nx⟩ := hG
  have m70 := mn_eq ((L : Int) + 1) (ρ 60 + ρ 52)
  rw [← nx] at m70
  have key : ∀ (lo hi' : Int) (r : AI) (v : Int), lo ≤ ρ 70 → ρ 70 ≤ hi' → rnd2 L lo hi' r = true → valA ρ .i64 r = v → (v < (L : Int) ∧ ρ 60 < v ∨ v = (L : Int) + 1) → W Try.prog lawV nt body2 (Exit.then (I2 nt w0 L (j + 1)) Q) a w := by
    intro lo hi' r v h1 h2 hr hv hvv
    have hb : BdOk ρ (bd2 L lo hi') := by
      refine ⟨bO_ok hi fun p hp => ?_, fun k e he => ?_⟩
      · simp only [List.mem_cons, List.not_mem_nil, or_false] at hp
        rcases hp with rfl | rfl | rfl | rfl
        · exact ck
        · exact ⟨by show (0 : Int) ≤ ρ 60; omega, by show ρ 60 ≤ (L : Int) - 1; omega⟩
        · exact ⟨by show (0 : Int) ≤ ρ 61; omega, by show ρ 61 ≤ 60; omega⟩
        · exact ⟨h1, h2⟩
      · have he : e ∈ [(⟨2, .c (Int.ofNat L + 1), .s [(52, 1), (60, 1)] 0, sg 70⟩ : Orc)] := he
        simp only [List.mem_cons, List.not_mem_nil, or_false] at he
        subst he
        intro X Y hX hY
        have hX : X = (L : Int) + 1 := hX
        have hY := irl hY (v := ρ 60 + ρ 52) (by simp only [lin]; omega) ⟨by omega, by omega⟩
        subst hX; subst hY
        exact irs nx ⟨by split <;> omega, by split <;> omega⟩
    obtain ⟨F, s, σ, π, g1, g2, g3, g4, g5⟩ := toX_ok hr
    simp only [Bool.and_eq_true] at g5
    obtain ⟨⟨⟨k52, k60⟩, k61⟩, k70⟩ := g5
    obtain ⟨ρ', s1, s2, s3, s4, s5⟩ := anew hi g4 k70 (mn ((L : Int) + 1) (v + ρ 52)) (by have := mn_eq ((L : Int) + 1) (v + ρ 52); exact ⟨by omega, by omega⟩)
    have e52 : ρ' 52 = ρ 52 := (s4 52 _ (by omega) k52).trans (val1 (hi _))
    have e60 : ρ' 60 = v := (s4 60 _ (by omega) k60).trans hv
    have e61 : ρ' 61 = ρ 61 + 1 := (s4 61 _ (by omega) k61).trans (valp ⟨by omega, by omega⟩)
    refine W_run hb mixed (call0 hb) hC g1 fun a' w' hC' => ?_
    exact ⟨by omega, ρ', ⟨s2, by rw [e52]; exact ck, by rw [e61]; omega, by rw [e60]; omega, by rw [e60]; omega, by rw [s3, e60, e52]⟩, hC'.weakA Try.prog g2 g3 (ms_top _) s1⟩
  by_cases c1 : ρ 70 < (L : Int)
  · exact key 1 (Int.ofNat L - 1) (sg 70) (ρ 70) (by omega) (by show ρ 70 ≤ (L : Int) - 1; omega) (rB L hL1 hL) (val1 (hi _)) (.inl ⟨c1, by omega⟩)
  · by_cases c2 : ρ 70 = (L : Int)
    · exact key (Int.ofNat L) (Int.ofNat L) (.s [(70, 1)] 1) (ρ 70 + 1) (by show (L : Int) ≤ _; omega) (by show _ ≤ (L : Int); omega) (rC L hL1 hL) (valp ⟨by omega, by omega⟩) (.inr (by omega))
    · exact key (Int.ofNat L + 1) (Int.ofNat L + 1) (sg 70) (ρ 70) (by show (L : Int) + 1 ≤ _; omega) (by show _ ≤ (L : Int) + 1; omega) (rD L hL1 hL) (val1 (hi _)) (.inr (by omega))
theorem leave2 (nt : Nat) (w0 : World) (L j : Nat) (hL1 : 0 < L) (hL : L < 52) (hj : j ≤ 60) (ρ : Nat → Int) (hG : G2 L j ρ) (hgo : ρ 60 = (L : Int) + 1) (a : Act) (w : World) (hC : Cfg [] lawV nt (fun _ => False) w0 ρ (fr2 L) (ms L) a w) (J : Act → World → Prop) :
    W Try.prog lawV nt body2 (Exit.then J (Exit.inBlock 2 (Exit.then (WL Try.prog lawV nt post (endQ [] lawV nt w0 lawR)) (endQ [] lawV nt w0 lawR)))) a w := by
  obtain ⟨hi, ck, rd, at1, at2, nx⟩ := hG
  have hb : BdOk ρ (bdY L) := by
    refine ⟨bO_ok hi fun p hp => ?_, fun k e he => by cases he⟩
    simp only [List.mem_cons, List.not_mem_nil, or_false] at hp
    rcases hp with rfl | rfl | rfl
    · exact ck
    · exact ⟨by show (L : Int) + 1 ≤ ρ 60; omega, by show ρ 60 ≤ (L : Int) + 1; omega⟩
    · exact ⟨by show (0 : Int) ≤ ρ 61; omega, by show ρ 61 ≤ 60; omega⟩
  obtain ⟨F, s, g1, g2⟩ := exT_ok (x2 L hL1 hL)
  refine W_run hb mixed (call0 hb) hC g1 fun a' w' hC' => ?_
  show (if (2 : Nat) = 2 then WL Try.prog lawV nt post (endQ [] lawV nt w0 lawR) a' w' else (Exit.then (WL Try.prog lawV nt post (endQ [] lawV nt w0 lawR)) (endQ [] lawV nt w0 lawR)) (.exit 2) a' w')
  rw [if_pos rfl]
  obtain ⟨e, F', s', g3, g4, g5⟩ := endT_ok g2
  exact WL_end hb mixed (call0 hb) hC' g3 fun a'' w'' hC'' => ⟨g4, ρ, F', s', hC'', g5⟩
theorem rest (nt : Nat) (w0 : World) (L : Nat) (hL1 : 0 < L) (hL : L < 52) (a : Act) (w : World) (hI : I2 nt w0 L 0 a w) : WL Try.prog lawV nt (.block 2 (.loop body2) :: post) (endQ [] lawV nt w0 lawR) a w := by
  refine W_block (W_loop (I2 nt w0 L) 60 hI (fun i a w' hi hI => ?_) (fun a w h => by have := h.1; omega))
  obtain ⟨h60, ρ, hG, hC⟩ := hI
  rcases hG.at2 with h | h
  · exact round2 nt w0 L i hL1 hL ρ hG h a w' hC _
  · exact leave2 nt w0 L i hL1 hL h60 ρ hG h a w' hC _
theorem leave1 (nt : Nat) (w0 : World) (L j : Nat) (hL1 : 0 < L) (hL : L < 52) (ρ : Nat → Int) (hG : G1 L j ρ) (hgo : ρ 60 = ρ 50) (a : Act) (w : World) (hC : Cfg [] lawV nt (fun _ => False) w0 ρ (fr1 L) (ms L) a w) (J : Act → World → Prop) :
    W Try.prog lawV nt body1 (Exit.then J (Exit.inBlock 0 (Exit.then (WL Try.prog lawV nt (mid ++ .block 2 (.loop body2) :: post) (endQ [] lawV nt w0 lawR)) (endQ [] lawV nt w0 lawR)))) a w := by
  obtain ⟨hi, li, ck, rd, at1, at2, nx⟩ := hG
  have hb : BdOk ρ (bdX L) := by
    refine ⟨bO_ok hi fun p hp => ?_, fun k e he => ?_⟩
    · simp only [List.mem_cons, List.not_mem_nil, or_false] at hp
      rcases hp with rfl | rfl | rfl | rfl
      · exact ⟨li.1, by show ρ 50 ≤ (L : Int) - 1; omega⟩
      · exact ck
      · exact ⟨by show (0 : Int) ≤ ρ 60; omega, by show ρ 60 ≤ (L : Int) - 1; omega⟩
      · exact ⟨by show (0 : Int) ≤ ρ 61; omega, by show ρ 61 ≤ 60; omega⟩
    · have he : e ∈ [⟨4, sg 50, sg 60, .c 1⟩, (⟨5, sg 60, sg 50, .c 1⟩ : Orc)] := he
      simp only [List.mem_cons, List.not_mem_nil, or_false] at he
      rcases he with rfl | rfl
      · intro X Y hX hY
        have hX := irv hX rfl (hi _)
        have hY := irv hY rfl (hi _)
        subst hX; subst hY
        show decide (ρ 50 ≤ ρ 60) = true
        simp only [decide_eq_true_eq]; omega
      · intro X Y hX hY
        have hX := irv hX rfl (hi _)
        have hY := irv hY rfl (hi _)
        subst hX; subst hY
        show (ρ 60 == ρ 50) = true
        simp only [beq_iff_eq]; exact hgo
  obtain ⟨F, s, σ, π, g1, g2, g3, g4, g5⟩ := toX_ok (x1 L hL1 hL)
  obtain ⟨F0, s0, g6, g7⟩ := exN_ok g1
  simp only [Bool.and_eq_true] at g5
  obtain ⟨⟨⟨k52, k60⟩, k61⟩, k70⟩ := g5
  obtain ⟨ρ', s1, s2, s3, s4, s5⟩ := anew hi g4 k70 (mn ((L : Int) + 1) (ρ 60 + ρ 52)) (by have := mn_eq ((L : Int) + 1) (ρ 60 + ρ 52); exact ⟨by omega, by omega⟩)
  have e52 : ρ' 52 = ρ 52 := (s4 52 _ (by omega) k52).trans (val1 (hi _))
  have e60 : ρ' 60 = ρ 60 := (s4 60 _ (by omega) k60).trans (val1 (hi _))
  have e61 : ρ' 61 = 0 := s4 61 _ (by omega) k61
  refine W_run hb mixed (call0 hb) hC g6 fun a' w' hC' => ?_
  show (if (0 : Nat) = 0 then WL Try.prog lawV nt (mid ++ .block 2 (.loop body2) :: post) (endQ [] lawV nt w0 lawR) a' w' else (Exit.then (WL Try.prog lawV nt (mid ++ .block 2 (.loop body2) :: post) (endQ [] lawV nt w0 lawR)) (endQ [] lawV nt w0 lawR)) (.exit 0) a' w')
  rw [if_pos rfl]
  refine WL_run hb mixed (call0 hb) hC' g7 fun a'' w'' hC'' => ?_
  exact rest nt w0 L hL1 hL a'' w'' ⟨by omega, ρ', ⟨s2, by rw [e52]; exact ck, by rw [e61]; rfl, by rw [e60]; show (0 : Int) ≤ _; omega, by rw [e60]; omega, by rw [s3, e60, e52]⟩, hC''.weakA Try.prog g2 g3 (ms_top _) s1⟩
theorem main (a1 a2 : Int) (len0 : Nat) (z0 : List Int) (w : World) (c1 : In a1) (c2 : In a2) (h0 : ∀ i, 0 ≤ z0.getD i 0 ∧ z0.getD i 0 ≤ 255) (hm : len0 ≤ 9223372036854775807) (L : Nat) (hL1 : 0 < L) (hL : L < 52) (x : AV) (vx : Value) (st : St) (E : Env) (hH : HR (rho a1 a2 len0 z0 L) E st.m w) (hO : ∀ k, ¬ Own E st.m k) (hx : VR (rho a1 a2 len0 z0 L) E x vx) (hbg : beg L x st = true) :
    Calls Try.prog 5 #[vx, .int .i64 a1, .int .i64 a2] w fun e w' => e = .returned (.bool true) ∧ Below w.heap.size w w' := by
  have hI := rho_in (a1 := a1) (a2 := a2) (z0 := z0) c1 c2 h0 hm hL1 hL
  obtain ⟨ρ, hρ⟩ : ∃ ρ, ρ = rho a1 a2 len0 z0 L := ⟨_, rfl⟩
  rw [← hρ] at hH hx hI
  have e1 : ρ 1 = a1 := by rw [hρ]; rfl
  have e2 : ρ 2 = a2 := by rw [hρ]; rfl
  have e50 : ρ 50 = a1 % (L : Int) := by rw [hρ]; rfl
  have e51 : ρ 51 = a2 % 60 := by rw [hρ]; rfl
  have e90 : ρ 90 = if len0 < 50 then (50 : Int) else (len0 : Int) := by rw [hρ]; rfl
  have l1 := Int.emod_nonneg a1 (show (L : Int) ≠ 0 by omega)
  have l2 := Int.emod_lt_of_pos a1 (show (0 : Int) < (L : Int) by omega)
  have hb0 : BdOk ρ (bdB L) := by
    refine ⟨bO_ok hI fun p hp => ?_, fun k e he => by cases he⟩
    simp only [List.mem_cons, List.not_mem_nil, or_false] at hp
    rcases hp with rfl | rfl | rfl
    · exact ⟨by show 0 ≤ ρ 50; omega, by show ρ 50 ≤ (L : Int) - 1; omega⟩
    · exact ⟨by show 0 ≤ ρ 51; omega, by show ρ 51 ≤ 59; omega⟩
    · refine ⟨?_, (hI 90).2⟩
      show 50 ≤ ρ 90
      rw [e90]; split <;> omega
  have hh : EntryOk ρ Try.prog 17 (.hook (hookW [(1, Int.ofNat L, sg 50), (2, 60, sg 51)])) := hk_ok fun p hp => by
    simp only [List.mem_cons, List.not_mem_nil, or_false] at hp
    rcases hp with rfl | rfl
    · exact ⟨a1, (L : Int), a1 % (L : Int), rfl, c1, e1, by omega, by omega, rfl, irs e50 ⟨by omega, by omega⟩⟩
    · exact ⟨a2, 60, a2 % 60, rfl, c2, e2, by omega, by omega, rfl, irs e51 ⟨by omega, by omega⟩⟩
  have hE := (tab_all ρ _ hh).get 5 _ (tabL _)
  refine law_W (K := []) hE hH hO (show VRs ρ E [x, .int .i64 (sg 1), .int .i64 (sg 2)] _ from .cons hx (.cons (.int (irs e1 c1)) (.cons (.int (irs e2 c2)) .nil))) rfl (fun p hp => by cases hp) (fun nt a hC => ?_)
  refine W_flat lawC ?_
  rw [lawL]
  obtain ⟨F, s, σ, π, g1, g2, g3, g4, g5⟩ := toX_ok hbg
  simp only [Bool.and_eq_true] at g5
  obtain ⟨⟨⟨k52, k60⟩, k61⟩, k70⟩ := g5
  obtain ⟨ρ', s1, s2, s3, s4, s5⟩ := anew hI g4 k70 (mn (a1 % (L : Int)) (a2 % 60 + 1)) (by have := mn_eq (a1 % (L : Int)) (a2 % 60 + 1); exact ⟨by omega, by omega⟩)
  have r52 : ρ' 52 = a2 % 60 + 1 := by rw [s4 52 _ (by omega) k52, valp (by rw [e51]; exact ⟨by omega, by omega⟩), e51]
  have r60 : ρ' 60 = 0 := s4 60 _ (by omega) k60
  have r61 : ρ' 61 = 0 := s4 61 _ (by omega) k61
  have r50 : ρ' 50 = a1 % (L : Int) := (s5 50 (by omega)).trans e50
  refine WL_run hb0 mixed (calls_ok hb0 mixed (tab := (tbL L).get) (tab_all ρ _ hh).get 5000 60) hC g1 fun a' w' hC' => ?_
  refine W_block (W_loop (I1 nt w L) 60 ⟨by omega, ρ', ⟨s2, by rw [r50]; exact ⟨l1, l2⟩, by rw [r52]; omega, by rw [r61]; rfl, by rw [r60]; exact Int.le_refl 0, by rw [r60, r50]; exact l1, by rw [s3, r50, r60, r52]; congr 1; omega⟩, hC'.weakA Try.prog g2 g3 (ms_top _) s1⟩ (fun i a w' hi hI => ?_) (fun a w h => by have := h.1; omega))
  obtain ⟨h60, ρ1, hG1, hC1⟩ := hI
  by_cases hgo : ρ1 60 < ρ1 50
  · exact round1 nt w L i hL1 hL ρ1 hG1 hgo a w' hC1 _
  · exact leave1 nt w L i hL1 hL ρ1 hG1 (by have := hG1.at2; omega) a w' hC1 _
theorem walk (a0 : Option Addr) (len0 cap0 : Nat) (z0 : List Int) (a1 a2 : Int) (w : World) (w1 : (Lit.int .i64 a1).wf = true) (w2 : (Lit.int .i64 a2).wf = true) (hq : IsRow8 w a0 len0 cap0 z0) : Calls Try.prog 5 #[.slice a0 len0 cap0, .int .i64 a1, .int .i64 a2] w fun e w' => e = .returned (.bool true) ∧ Below w.heap.size w w' := by
  have c1 : In a1 := by simpa [Lit.wf, IntKind.min, IntKind.max, IntKind.signed, IntKind.bits, In] using w1
  have c2 : In a2 := by simpa [Lit.wf, IntKind.min, IntKind.max, IntKind.signed, IntKind.bits, In] using w2
  have h0 := row8_bytes hq
  have hm0 := row8_len hq
  have hl0 : len0 ≤ cap0 := by
    rcases hq with ⟨_, h1, h2, _⟩ | ⟨_, _, h, _⟩
    · omega
    · exact h
  have hm : len0 ≤ 9223372036854775807 := by omega
  have hby : ∀ (L i : Nat), rho a1 a2 len0 z0 L (100 + i) = z0.getD i 0 := fun L i => by
    unfold rho; rw [if_pos (by omega), show 100 + i - 100 = i by omega]
  rcases row8_cases hq with ⟨rfl, rfl, rfl⟩ | ⟨x, rfl, rfl⟩ | ⟨B, δ, z, rfl, hlen, hlc, hδ, hH⟩
  · exact main a1 a2 0 z0 w c1 c2 h0 hm 1 (by omega) (by omega) .nils _ st0 env0 (Go.Vm.hr0 _ w) own0 .nils bn
  · exact main a1 a2 0 z0 w c1 c2 h0 hm 1 (by omega) (by omega) .emp _ st0 env0 (Go.Vm.hr0 _ w) own0 .emp be
  by_cases hc : len0 < 50
  · exact main a1 a2 len0 z0 w c1 c2 h0 hm (len0 + 1) (by omega) (by omega) _ _ _ _ (hH _ 100 len0 (Nat.le_refl _) (fun i _ => hby _ i)) ownA (vr_sl0 rfl hlc hδ) (bl len0 hlen hc)
  · exact main a1 a2 len0 z0 w c1 c2 h0 hm 51 (by omega) (by omega) _ _ _ _ (hH _ 100 50 (by omega) (fun i _ => hby _ i)) ownA (.arg rfl (irs (by show (if len0 < 50 then (50 : Int) else (len0 : Int)) = _; rw [if_neg hc]) ⟨by omega, by omega⟩) (by omega) hlc (by omega)) ba
end Go.Proofs.Ytekhpohcjfjhfaa.planWaitsRun
