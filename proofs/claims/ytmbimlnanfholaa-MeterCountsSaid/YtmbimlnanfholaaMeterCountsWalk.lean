/- The law MeterCounts returns true for every input, and leaves what was there as it was. -/
import Derived.Test.YtmbimlnanfholaaMeterCountsRun
import Derived.Test.YtmbimlnanfholaaMeterCountsIn
import Derived.WalkKit
import Derived.ProofKit
namespace Go.Proofs.Ytmbimlnanfholaa.meterCountsRun
open Go.Vm Go.RowKit
set_option linter.unusedVariables false
set_option linter.unusedSimpArgs false
set_option maxRecDepth 1000000
def In (x : Int) : Prop := -9223372036854775808 ≤ x ∧ x ≤ 9223372036854775807
theorem wr {x : Int} (h : In x) : IntKind.i64.wrap x = x := wrap_in (k := .i64) h.1 h.2
theorem irs {ρ : Nat → Int} {i : Nat} {v : Int} (h : ρ i = v) (hb : In v) : IR ρ .i64 (.s [(i, 1)] 0) v := ir_sym (by rw [h, wr hb])
theorem irv {ρ : Nat → Int} {i : Nat} {X v : Int} (h : IR ρ .i64 (.s [(i, 1)] 0) X) (hv : ρ i = v) (hb : In v) : X = v := by rw [ir_inv h, hv, wr hb]
theorem tm (x m : Int) (hm : 0 < m) : (0 ≤ x ∧ x.tmod m = x % m) ∨ (x < 0 ∧ x.tmod m = -((-x) % m)) := by
  rcases Int.lt_or_le x 0 with h | h
  · right
    refine ⟨h, ?_⟩
    have := Int.neg_tmod x m
    rw [Int.tmod_eq_emod_of_nonneg (by omega)] at this
    omega
  · exact .inl ⟨h, Int.tmod_eq_emod_of_nonneg h⟩
/-- what the signs stand for -/
def rho (a2 : Int) (len0 len1 : Nat) (z0 z1 : List Int) : Nat → Int := fun x =>
  if 700 ≤ x then z0.getD (x - 700) 0 % 10 else if 600 ≤ x then (z0.getD (x - 600) 0).tmod 13 else if 500 ≤ x then (z1.getD (x - 500) 0).tmod 11 else if 400 ≤ x then z1.getD (x - 400) 0 % 1000 else if 300 ≤ x then 0 else
  if 200 ≤ x then z1.getD (x - 200) 0 else if 100 ≤ x then z0.getD (x - 100) 0 else if x = 91 then (if len1 = 0 then 1 else (len1 : Int)) else if x = 90 then (if len0 = 0 then 1 else (len0 : Int)) else if x = 50 then a2 % 30 else if x = 2 then a2 else 0
section
variable {a2 : Int} {len0 len1 : Nat} {z0 z1 : List Int}
theorem rho_7 {i : Nat} (h : i < 100) : rho a2 len0 len1 z0 z1 (700 + i) = z0.getD i 0 % 10 := by
  unfold rho; rw [if_pos (by omega), show 700 + i - 700 = i by omega]
theorem rho_6 {i : Nat} (h : i < 100) : rho a2 len0 len1 z0 z1 (600 + i) = (z0.getD i 0).tmod 13 := by
  unfold rho; rw [if_neg (by omega), if_pos (by omega), show 600 + i - 600 = i by omega]
theorem rho_5 {i : Nat} (h : i < 100) : rho a2 len0 len1 z0 z1 (500 + i) = (z1.getD i 0).tmod 11 := by
  unfold rho; rw [if_neg (by omega), if_neg (by omega), if_pos (by omega), show 500 + i - 500 = i by omega]
theorem rho_4 {i : Nat} (h : i < 100) : rho a2 len0 len1 z0 z1 (400 + i) = z1.getD i 0 % 1000 := by
  unfold rho; rw [if_neg (by omega), if_neg (by omega), if_neg (by omega), if_pos (by omega), show 400 + i - 400 = i by omega]
theorem rho_2 {i : Nat} (h : i < 100) : rho a2 len0 len1 z0 z1 (200 + i) = z1.getD i 0 := by
  unfold rho; rw [if_neg (by omega), if_neg (by omega), if_neg (by omega), if_neg (by omega), if_neg (by omega), if_pos (by omega), show 200 + i - 200 = i by omega]
theorem rho_1 {i : Nat} (h : i < 100) : rho a2 len0 len1 z0 z1 (100 + i) = z0.getD i 0 := by
  unfold rho; rw [if_neg (by omega), if_neg (by omega), if_neg (by omega), if_neg (by omega), if_neg (by omega), if_neg (by omega), if_pos (by omega), show 100 + i - 100 = i by omega]
theorem rho_in (c2 : In a2) (h0 : ∀ i, In (z0.getD i 0)) (h1 : ∀ i, In (z1.getD i 0)) (hl0 : len0 ≤ 9223372036854775807) (hl1 : len1 ≤ 9223372036854775807) (x : Nat) : In (rho a2 len0 len1 z0 z1 x) := by
  unfold rho
  by_cases g700 : 700 ≤ x
  · rw [if_pos g700]
    obtain ⟨p1, p2⟩ := h0 (x - 700)
    generalize z0.getD (x - 700) 0 = v at *
    exact ⟨by omega, by omega⟩
  rw [if_neg g700]
  by_cases g600 : 600 ≤ x
  · rw [if_pos g600]
    obtain ⟨p1, p2⟩ := h0 (x - 600)
    have t := tm (z0.getD (x - 600) 0) 13 (by omega)
    generalize z0.getD (x - 600) 0 = v at *
    exact ⟨by omega, by omega⟩
  rw [if_neg g600]
  by_cases g500 : 500 ≤ x
  · rw [if_pos g500]
    obtain ⟨p1, p2⟩ := h1 (x - 500)
    have t := tm (z1.getD (x - 500) 0) 11 (by omega)
    generalize z1.getD (x - 500) 0 = v at *
    exact ⟨by omega, by omega⟩
  rw [if_neg g500]
  by_cases g400 : 400 ≤ x
  · rw [if_pos g400]
    obtain ⟨p1, p2⟩ := h1 (x - 400)
    generalize z1.getD (x - 400) 0 = v at *
    exact ⟨by omega, by omega⟩
  rw [if_neg g400]
  by_cases g300 : 300 ≤ x
  · rw [if_pos g300]; exact ⟨by omega, by omega⟩
  rw [if_neg g300]
  by_cases g200 : 200 ≤ x
  · rw [if_pos g200]; exact h1 _
  rw [if_neg g200]
  by_cases g100 : 100 ≤ x
  · rw [if_pos g100]; exact h0 _
  rw [if_neg g100]
  by_cases g91 : x = 91
  · rw [if_pos g91]; split <;> exact ⟨by omega, by omega⟩
  rw [if_neg g91]
  by_cases g90 : x = 90
  · rw [if_pos g90]; split <;> exact ⟨by omega, by omega⟩
  rw [if_neg g90]
  by_cases g50 : x = 50
  · rw [if_pos g50]; exact ⟨by omega, by omega⟩
  rw [if_neg g50]
  by_cases g2 : x = 2
  · rw [if_pos g2]; exact c2
  · rw [if_neg g2]; exact ⟨by omega, by omega⟩
end
/-- the signs are as they were, beside the counters -/
def Good (ρ0 ρ : Nat → Int) : Prop := (∀ x, In (ρ x)) ∧ ∀ x, ¬ (300 ≤ x ∧ x < 308) → ρ x = ρ0 x
theorem hk0 (ρ : Nat → Int) : EntryOk ρ Try.prog 13 (.hook (hookW [])) := hook_ok (fn := Try.f13) Try.func13 rfl rfl (by intro p hp; cases hp)
theorem tabL (h : VF) : (tab h).get 6 = some (.code 3 lawV lawC lawR) := by kernel_rfl
theorem bdL_ok {ρ : Nat → Int} (hρ : ∀ x, In (ρ x)) {a b c d : Int} (h1 : a ≤ ρ 90) (h2 : ρ 90 ≤ b) (h3 : c ≤ ρ 91) (h4 : ρ 91 ≤ d) : BdOk ρ (bdL a b c d) := by
  refine ⟨bO_ok hρ fun p hp => ?_, fun k e he => by cases he⟩
  simp only [List.mem_cons, List.not_mem_nil, or_false] at hp
  rcases hp with rfl | rfl
  · exact ⟨h1, h2⟩
  · exact ⟨h3, h4⟩
theorem call0 {ρ : Nat → Int} {bd : Bd} (hb : BdOk ρ bd) : CallsOk ρ Try.prog (callF bd tb0.get 5000 60) := calls_ok hb mixed (tab := tb0.get) (tab_all ρ _ (hk0 ρ)).get 5000 60
theorem ms_top : ∀ b, 4 ≤ b → ms.heap.get b = none := by
  intro b hb
  show ms.m.g b = none
  unfold ms
  simp only [St.m_put]
  rw [if_neg (by omega), if_neg (by omega), if_neg (by omega), if_neg (by omega)]
  rfl
/-- which rounds there are -/
theorem kinds (a2 : Int) (len0 len1 : Nat) (z0 z1 : List Int) (ρ : Nat → Int) (hG : Good (rho a2 len0 len1 z0 z1) ρ) (c2 : In a2) (h0 : ∀ i, In (z0.getD i 0)) (h1 : ∀ i, In (z1.getD i 0)) (hl0 : len0 ≤ 9223372036854775807) (hl1 : len1 ≤ 9223372036854775807) (i : Nat) (hi : i < 24) (hi0 : i < len0) (hi1 : i < len1) :
    ∃ q r t, q < 11 ∧ r < 3 ∧ BdOk ρ (bdR i q r t) ∧ EntryOk ρ Try.prog 13 (.hook (hookW (hkl i q))) := by
  obtain ⟨hρ, hρ0⟩ := hG
  have e7 : ρ (700 + i) = z0.getD i 0 % 10 := (hρ0 _ (by omega)).trans (rho_7 (by omega))
  have e6 : ρ (600 + i) = (z0.getD i 0).tmod 13 := (hρ0 _ (by omega)).trans (rho_6 (by omega))
  have e5 : ρ (500 + i) = (z1.getD i 0).tmod 11 := (hρ0 _ (by omega)).trans (rho_5 (by omega))
  have e4 : ρ (400 + i) = z1.getD i 0 % 1000 := (hρ0 _ (by omega)).trans (rho_4 (by omega))
  have e2 : ρ (200 + i) = z1.getD i 0 := (hρ0 _ (by omega)).trans (rho_2 (by omega))
  have e1 : ρ (100 + i) = z0.getD i 0 := (hρ0 _ (by omega)).trans (rho_1 (by omega))
  have e50 : ρ 50 = a2 % 30 := hρ0 _ (by omega)
  have er : ρ 2 = a2 := hρ0 _ (by omega)
  have e90 : ρ 90 = (len0 : Int) := (hρ0 _ (by omega)).trans (by show (if len0 = 0 then (1 : Int) else _) = _; rw [if_neg (by omega)])
  have e91 : ρ 91 = (len1 : Int) := (hρ0 _ (by omega)).trans (by show (if len1 = 0 then (1 : Int) else _) = _; rw [if_neg (by omega)])
  have h0 := h0 i
  have h1 := h1 i
  generalize z0.getD i 0 = x at *
  generalize z1.getD i 0 = y at *
  have tx := tm x 13 (by omega)
  have ty := tm y 11 (by omega)
  have wx : (Lit.int .i64 x).wf = true := by simpa [Lit.wf, IntKind.min, IntKind.max, IntKind.signed, IntKind.bits, In] using h0
  have wy : (Lit.int .i64 y).wf = true := by simpa [Lit.wf, IntKind.min, IntKind.max, IntKind.signed, IntKind.bits, In] using h1
  have wa : (Lit.int .i64 a2).wf = true := by simpa [Lit.wf, IntKind.min, IntKind.max, IntKind.signed, IntKind.bits, In] using c2
  -- which
  obtain ⟨q, hq, q1, q2, q3⟩ : ∃ q : Nat, q < 11 ∧ (q < 10 → x % 10 = (q : Int)) ∧ (q < 10 → x.tmod 13 ≠ 12 ∧ -12 ≤ x.tmod 13 ∧ x.tmod 13 ≤ 11) ∧ (¬ q < 10 → x.tmod 13 = 12 ∧ 12 ≤ x) := by
    by_cases h : x.tmod 13 = 12
    · exact ⟨10, by omega, fun h => absurd h (by omega), fun h => absurd h (by omega), fun _ => ⟨h, by omega⟩⟩
    · exact ⟨(x % 10).toNat, by omega, fun _ => by omega, fun _ => ⟨h, by omega, by omega⟩, fun h' => absurd h' (by omega)⟩
  obtain ⟨r, hr, r1, r2, r3⟩ : ∃ r : Nat, r < 3 ∧ (r = 0 → -10 ≤ y.tmod 11 ∧ y.tmod 11 ≤ 9) ∧ (r ≠ 0 → y.tmod 11 = 10 ∧ 10 ≤ y) ∧ ((r = 1 → y ≤ 2147483647) ∧ (r = 2 → 2147483648 ≤ y)) := by
    by_cases h : y.tmod 11 = 10
    · by_cases h' : y ≤ 2147483647
      · exact ⟨1, by omega, by omega, fun _ => ⟨h, by omega⟩, fun _ => h', by omega⟩
      · exact ⟨2, by omega, by omega, fun _ => ⟨h, by omega⟩, by omega, fun _ => by omega⟩
    · exact ⟨0, by omega, fun _ => by omega, fun h => absurd rfl h, by omega, by omega⟩
  refine ⟨q, r, decide (a2 % 30 = (i : Int)), hq, hr, ⟨bO_ok hρ fun p hp => ?_, fun k e he => ?_⟩, ?_⟩
  · simp only [ov, List.mem_cons, List.mem_append] at hp
    rcases hp with rfl | rfl | hp | hp | hp
    · simp only [e90]; exact ⟨by show ((i : Int)) + 1 ≤ _; omega, by omega⟩
    · simp only [e91]; exact ⟨by show ((i : Int)) + 1 ≤ _; omega, by omega⟩
    · unfold ovw at hp
      rw [cnd_eq] at hp
      split at hp
      · rename_i hb
        have := q2 (by simpa [Nat.blt_eq] using hb)
        simp only [List.mem_cons, List.not_mem_nil, or_false] at hp
        subst hp
        simp only [e6]; omega
      · rename_i hb
        have := q3 (by simpa [Nat.blt_eq] using hb)
        simp only [List.mem_cons, List.not_mem_nil, or_false] at hp
        rcases hp with rfl | rfl
        · simp only [e1]; exact ⟨this.2, h0.2⟩
        · simp only [e7]; omega
    · rcases (show r = 0 ∨ r = 1 ∨ r = 2 by omega) with rfl | rfl | rfl
      · have := r1 rfl
        simp only [ovn, List.mem_cons, List.not_mem_nil, or_false] at hp
        rcases hp with rfl | rfl
        · simp only [e5]; omega
        · simp only [e4]; omega
      · have g1 := r2 (by omega)
        have g2 := r3.1 rfl
        simp only [ovn, List.mem_cons, List.not_mem_nil, or_false] at hp
        rcases hp with rfl | rfl
        · simp only [e2]; omega
        · simp only [e4]; omega
      · have g2 := r3.2 rfl
        simp only [ovn, List.mem_cons, List.not_mem_nil, or_false] at hp
        rcases hp with rfl | rfl
        · simp only [e2]; exact ⟨g2, h1.2⟩
        · simp only [e4]; omega
    · unfold ovt at hp
      rw [cnd_eq] at hp
      split at hp
      · rename_i hb
        have hb := of_decide_eq_true hb
        simp only [List.mem_cons, List.not_mem_nil, or_false] at hp
        subst hp
        simp only [e50]; exact ⟨by show ((i : Int)) ≤ _; omega, by show _ ≤ ((i : Int)); omega⟩
      · cases hp
  · replace he : e ∈ ors i q r (decide (a2 % 30 = (i : Int))) := he
    simp only [ors, List.mem_cons] at he
    rcases he with rfl | rfl | he
    · intro X Y hX hY
      have hY : Y = 13 := hY
      have hX := irv hX e1 h0
      subst hX; subst hY
      refine ⟨by omega, ?_⟩
      dsimp only
      rw [cnd_eq]
      split
      · exact irs e6 ⟨by omega, by omega⟩
      · rename_i hb
        exact (q3 (by simpa [Nat.blt_eq] using hb)).1
    · intro X Y hX hY
      have hY : Y = 11 := hY
      have hX := irv hX e2 h1
      subst hX; subst hY
      refine ⟨by omega, ?_⟩
      dsimp only
      rw [cnd_eq]
      split
      · exact irs e5 ⟨by omega, by omega⟩
      · rename_i hb
        exact (r2 (by simpa [Nat.beq_eq] using hb)).1
    · rw [cnd_eq] at he
      split at he
      · cases he
      · rename_i hb
        simp only [List.mem_cons, List.not_mem_nil, or_false] at he
        subst he
        intro X Y hX hY
        have hX : X = (i : Int) := hX
        have hY := irv hY e50 ⟨by omega, by omega⟩
        subst hX; subst hY
        show ((i : Int) == a2 % 30) = false
        have hb : ¬ a2 % 30 = (i : Int) := fun h => hb (decide_eq_true h)
        simp only [beq_eq_false_iff_ne, ne_eq]
        omega
  · refine hook_ok (fn := Try.f13) Try.func13 rfl rfl ?_
    intro p hp w
    simp only [hkl, List.mem_cons, List.not_mem_nil, or_false] at hp
    rcases hp with rfl | rfl | rfl
    · have g := within x 10 wx (by omega) (by omega) w
      refine ⟨x % 10, ?_, by dsimp only; rw [e1, wr h0]; exact g⟩
      dsimp only
      rw [cnd_eq]
      split
      · rename_i hb
        exact q1 (by simpa [Nat.blt_eq] using hb)
      · exact irs e7 ⟨by omega, by omega⟩
    · have g := within y 1000 wy (by omega) (by omega) w
      exact ⟨y % 1000, irs e4 ⟨by omega, by omega⟩, by dsimp only; rw [e2, wr h1]; exact g⟩
    · have g := within a2 30 wa (by omega) (by omega) w
      exact ⟨a2 % 30, irs e50 ⟨by omega, by omega⟩, by dsimp only; rw [er, wr c2]; exact g⟩
section
variable {vs : List Nat} {nt : Nat}
/-- between rounds -/
def Inv (K : List (Nat × Nat × Nat × Nat)) (nt : Nat) (w0 : World) (ρ0 : Nat → Int) (i : Nat) (a : Act) (w : World) : Prop := i ≤ 24 ∧ ∃ ρ, Good ρ0 ρ ∧ Cfg K lawV nt (fun _ => False) w0 ρ (fr i) ms a w
theorem good_weak {ρ0 ρ : Nat → Int} (h : Good ρ0 ρ) {σ : List (Nat × IntKind × AI)} (hs : okS 300 308 σ = true) : Good ρ0 (rhoW σ ρ) := by
  obtain ⟨h1, h2⟩ := okS_ok h.1 hs
  exact ⟨h1, fun x hx => (h2 x hx).trans (h.2 x hx)⟩
end
theorem round (a2 : Int) (len0 len1 : Nat) (z0 z1 : List Int) (c2 : In a2) (h0 : ∀ i, In (z0.getD i 0)) (h1 : ∀ i, In (z1.getD i 0)) (hl0 : len0 ≤ 9223372036854775807) (hl1 : len1 ≤ 9223372036854775807) (w0 : World) (nt : Nat) {B δ z B' δ' z' : Nat} {cs cs' : Array Value} {t t' : TypeId} {fz fz' : Nat × Nat} (hB : w0.heap[B]? = some (.cells cs t fz)) (hB' : w0.heap[B']? = some (.cells cs' t' fz')) (hc : ∀ i, i < len0 → cs[i + δ]? = some (.int .i64 (z0.getD i 0))) (hc' : ∀ i, i < len1 → cs'[i + δ']? = some (.int .i64 (z1.getD i 0)))
    (hd : len0 + δ ≤ z) (hd' : len1 + δ' ≤ z') (i : Nat) (hi : i < 24) (hi0 : i < len0) (hi1 : i < len1) (a : Act) (w : World) (hI : Inv [(0, B, δ, z), (1, B', δ', z')] nt w0 (rho a2 len0 len1 z0 z1) i a w) (Q : Exit → Act → World → Prop) :
    W Try.prog lawV nt body (Exit.then (Inv [(0, B, δ, z), (1, B', δ', z')] nt w0 (rho a2 len0 len1 z0 z1) (i + 1)) Q) a w := by
  obtain ⟨_, ρ, hG, hC⟩ := hI
  obtain ⟨q, r, tt, hq, hr, hb, hh⟩ := kinds a2 len0 len1 z0 z1 ρ hG c2 h0 h1 hl0 hl1 i hi hi0 hi1
  have e2 : ∀ j, j < i + 1 → ρ (200 + j) = z1.getD j 0 := fun j hj => (hG.2 _ (by omega)).trans (rho_2 (by omega))
  have e1 : ∀ j, j < i + 1 → ρ (100 + j) = z0.getD j 0 := fun j hj => (hG.2 _ (by omega)).trans (rho_1 (by omega))
  have e90 : ρ 90 = (len0 : Int) := (hG.2 _ (by omega)).trans (by show (if len0 = 0 then (1 : Int) else _) = _; rw [if_neg (by omega)])
  have e91 : ρ 91 = (len1 : Int) := (hG.2 _ (by omega)).trans (by show (if len1 = 0 then (1 : Int) else _) = _; rw [if_neg (by omega)])
  have lt : ∀ {b : Nat} {o : Obj}, w0.heap[b]? = some o → b < w0.heap.size := fun {b o} h => by
    rcases Nat.lt_or_ge b w0.heap.size with h' | h'
    · exact h'
    · rw [Array.getElem?_eq_none h'] at h; cases h
  have f1 := hC.fill (b := 0) (i := 0) (n := i + 1) (base := 100) (x := .s [(90, 1)] 0) List.mem_cons_self rfl rfl (lt hB) (fun h => h) hB (fun j hj => ⟨_, hc j (by omega), by rw [e1 j hj, wr (h0 j)]⟩) (by omega)
    (fun len hlen => by have := irv hlen e90 ⟨by omega, by omega⟩; omega)
  have f2 := f1.fill (b := 1) (i := 1) (n := i + 1) (base := 200) (x := .s [(91, 1)] 0) (List.mem_cons_of_mem _ List.mem_cons_self) (by show (ms.put 0 (some (.cells (symLI (i + 1) 100) .ro))).m.g 1 = some (.cells [] .ro); rw [St.m_put, if_neg (by omega)]; rfl) rfl (lt hB') (fun h => h) hB' (fun j hj => ⟨_, hc' j (by omega), by rw [e2 j hj, wr (h1 j)]⟩) (by omega)
    (fun len hlen => by have := irv hlen e91 ⟨by omega, by omega⟩; omega)
  obtain ⟨F, s, σ, π, g1, g2, g3, g4⟩ := toC_ok (rnd_all i q r tt hi hq hr)
  refine W_run hb mixed (calls_ok hb mixed (tab := (tab (.hook (hookW (hkl i q)))).get) (tab_all ρ _ hh).get 5000 60) f2 g1 fun a' w' hC' => ?_
  exact ⟨by omega, _, good_weak hG g4, hC'.weak Try.prog g2 g3 ms_top⟩
theorem leave (ρ : Nat → Int) (w0 : World) (nt i : Nat) (K : List (Nat × Nat × Nat × Nat)) (a : Act) (w : World) (hC : Cfg K lawV nt (fun _ => False) w0 ρ (fr i) ms a w) {p q r s : Int} (hb : BdOk ρ (bdL p q r s)) (hx : exi i p q r s = true) (J : Act → World → Prop) :
    W Try.prog lawV nt body (Exit.then J (Exit.inBlock 0 (Exit.then (WL Try.prog lawV nt post (endQ K lawV nt w0 lawR)) (endQ K lawV nt w0 lawR)))) a w := by
  obtain ⟨F, s, g1, g2⟩ := exT_ok hx
  refine W_run hb mixed (call0 hb) hC g1 fun a' w' hC' => ?_
  show (if (0 : Nat) = 0 then WL Try.prog lawV nt post (endQ K lawV nt w0 lawR) a' w' else (Exit.then (WL Try.prog lawV nt post (endQ K lawV nt w0 lawR)) (endQ K lawV nt w0 lawR)) (.exit 0) a' w')
  rw [if_pos rfl]
  obtain ⟨e, F', s', g3, g4, g5⟩ := endT_ok g2
  exact WL_end hb mixed (call0 hb) hC' g3 fun a'' w'' hC'' => ⟨g4, ρ, F', s', hC'', g5⟩
theorem walk (a0 : Option Addr) (len0 cap0 : Nat) (z0 : List Int) (a1 : Option Addr) (len1 cap1 : Nat) (z1 : List Int) (a2 : Int) (w : World) (w2 : (Lit.int .i64 a2).wf = true) (hr0 : IsRowI w a0 len0 cap0 z0) (hr1 : IsRowI w a1 len1 cap1 z1) : Calls Try.prog 6 #[.slice a0 len0 cap0, .slice a1 len1 cap1, .int .i64 a2] w fun e w' => e = .returned (.bool true) ∧ Below w.heap.size w w' := by
  have c2 : In a2 := by simpa [Lit.wf, IntKind.min, IntKind.max, IntKind.signed, IntKind.bits, In] using w2
  have h0 : ∀ i, In (z0.getD i 0) := rowI_nums hr0
  have h1 : ∀ i, In (z1.getD i 0) := rowI_nums hr1
  have hm0 := rowI_len hr0
  have hm1 := rowI_len hr1
  have hl0 : len0 ≤ cap0 := by
    rcases hr0 with ⟨_, h1, h2, _⟩ | ⟨_, _, h, _⟩
    · omega
    · exact h
  have hl1 : len1 ≤ cap1 := by
    rcases hr1 with ⟨_, h1, h2, _⟩ | ⟨_, _, h, _⟩
    · omega
    · exact h
  have hm0 : len0 ≤ 9223372036854775807 := by omega
  have hm1 : len1 ≤ 9223372036854775807 := by omega
  obtain ⟨ρ, hρ⟩ : ∃ ρ, ρ = rho a2 len0 len1 z0 z1 := ⟨_, rfl⟩
  have hI : ∀ x, In (ρ x) := fun x => by rw [hρ]; exact rho_in c2 h0 h1 hm0 hm1 x
  have e90 : ρ 90 = if len0 = 0 then (1 : Int) else (len0 : Int) := by rw [hρ]; rfl
  have e91 : ρ 91 = if len1 = 0 then (1 : Int) else (len1 : Int) := by rw [hρ]; rfl
  have er : ρ 2 = a2 := by rw [hρ]; rfl
  have b90 : 1 ≤ ρ 90 := by rw [e90]; split <;> omega
  have b91 : 1 ≤ ρ 91 := by rw [e91]; split <;> omega
  have hb0 : BdOk ρ (bdL 1 9223372036854775807 1 9223372036854775807) := bdL_ok hI b90 (hI 90).2 b91 (hI 91).2
  have v2 : ∀ E, VR ρ E (.int .i64 (.s [(2, 1)] 0)) (.int .i64 a2) := fun E => .int (irs er c2)
  have small : ∀ {E : Env} {st : St} {x y : AV} {vx vy : Value}, HR ρ E st.m w → (∀ k, ¬ Own E st.m k) → VR ρ E x vx → VR ρ E y vy → sml x y st = true → Calls Try.prog 6 #[vx, vy, .int .i64 a2] w fun e w' => e = .returned (.bool true) ∧ Below w.heap.size w w' := fun {E st x y vx vy} hH hO hx hy h =>
    law_okE hb0 mixed (tab_all ρ _ (hk0 ρ)) (tabL _) hH hO (show VRs ρ E _ _ from .cons hx (.cons hy (.cons (v2 _) .nil))) h
  have s0 : ∀ {x : Option Addr} {len cap : Nat}, len = 0 → (x = none → cap = 0) → (VR ρ env0 .nils (.slice x len cap) ∧ x = none) ∨ VR ρ env0 .emp (.slice x len cap) := by
    intro x len cap hl hc
    subst hl
    cases x with
    | none => have := hc rfl; subst this; exact .inl ⟨.nils, rfl⟩
    | some x => exact .inr .emp
  have s1 : ∀ {E : Env} {x : Option Addr} {len cap : Nat}, len = 0 → (x = none → cap = 0) → (VR ρ E .nils (.slice x len cap) ∧ x = none) ∨ VR ρ E .emp (.slice x len cap) := by
    intro E x len cap hl hc
    subst hl
    cases x with
    | none => have := hc rfl; subst this; exact .inl ⟨.nils, rfl⟩
    | some x => exact .inr .emp
  have n0 : a0 = none → cap0 = 0 := fun h => by
    rcases hr0 with ⟨_, _, h, _⟩ | ⟨x, h', _⟩
    · exact h
    · rw [h] at h'; cases h'
  have n1 : a1 = none → cap1 = 0 := fun h => by
    rcases hr1 with ⟨_, _, h, _⟩ | ⟨x, h', _⟩
    · exact h
    · rw [h] at h'; cases h'
  by_cases hz0 : len0 = 0
  · by_cases hz1 : len1 = 0
    · rcases s0 hz0 n0 with ⟨p, _⟩ | p <;> rcases s0 hz1 n1 with ⟨q, _⟩ | q
      · exact small (Go.Vm.hr0 ρ w) own0 p q sm0
      · exact small (Go.Vm.hr0 ρ w) own0 p q sm1
      · exact small (Go.Vm.hr0 ρ w) own0 p q sm3
      · exact small (Go.Vm.hr0 ρ w) own0 p q sm4
    · rcases rowI_cases hr1 with ⟨_, h, _⟩ | ⟨_, _, h⟩ | ⟨B, δ, z, rfl, hlen, hlc, hδ, hH⟩
      · omega
      · omega
      · have hv : VR ρ (envA B δ z) (markV 0 0 (.s [(91, 1)] 0) 1) (.slice (some ⟨B, δ, none⟩) len1 cap1) := .arg rfl (irs (by rw [e91, if_neg hz1]) ⟨by omega, by omega⟩) (by omega) hlc (by omega)
        have hH := hH ρ 100 0 (by omega) (fun i hi => absurd hi (by omega))
        rcases s1 (E := envA B δ z) hz0 n0 with ⟨p, _⟩ | p
        · exact small hH ownAI p hv sm2
        · exact small hH ownAI p hv sm5
  by_cases hz1 : len1 = 0
  · rcases rowI_cases hr0 with ⟨_, h, _⟩ | ⟨_, _, h⟩ | ⟨B, δ, z, rfl, hlen, hlc, hδ, hH⟩
    · omega
    · omega
    · have hv : VR ρ (envA B δ z) (markV 0 0 (.s [(90, 1)] 0) 1) (.slice (some ⟨B, δ, none⟩) len0 cap0) := .arg rfl (irs (by rw [e90, if_neg hz0]) ⟨by omega, by omega⟩) (by omega) hlc (by omega)
      have hH := hH ρ 100 0 (by omega) (fun i hi => absurd hi (by omega))
      rcases s1 (E := envA B δ z) hz1 n1 with ⟨p, _⟩ | p
      · exact small hH ownAI hv p sm6
      · exact small hH ownAI hv p sm7
  -- both of them have numbers
  have blk : ∀ {x : Option Addr} {len cap : Nat} {zs : List Int}, IsRowI w x len cap zs → len ≠ 0 → ∃ B δ cs t fz, x = some ⟨B, δ, none⟩ ∧ w.heap[B]? = some (.cells cs t fz) ∧ len ≤ cap ∧ δ + cap ≤ cs.size ∧ ∀ i, i < len → cs[i + δ]? = some (.int .i64 (zs.getD i 0)) := by
    intro x len cap zs h hne
    rcases h with ⟨_, h, _⟩ | ⟨x, rfl, h2, _, h3, h4, _⟩
    · exact absurd h hne
    · obtain ⟨B, δ, cs, t, fz, rfl, g1, g2, g3⟩ := row_blockI (by omega) h4
      exact ⟨B, δ, cs, t, fz, rfl, g1, h2, by omega, fun i hi => g3 i (by omega)⟩
  obtain ⟨B, δ, cs, t, fz, rfl, hB, _, hd, hc⟩ := blk hr0 hz0
  obtain ⟨B', δ', cs', t', fz', rfl, hB', _, hd', hc'⟩ := blk hr1 hz1
  have hE := (tab_all ρ (.hook (hookW [])) (hk0 ρ)).get 6 _ (tabL _)
  refine law_W (K := [(0, B, δ, cs.size), (1, B', δ', cs'.size)]) hE (hr2 hB rfl (by omega) hB' rfl (by omega)) own2 (show VRs ρ (env2 B δ cs.size B' δ' cs'.size) [markV 0 0 (.s [(90, 1)] 0) 1, markV 1 0 (.s [(91, 1)] 0) 1, .int .i64 (.s [(2, 1)] 0)] _ from
    .cons (.arg rfl (irs (by rw [e90, if_neg hz0]) ⟨by omega, by omega⟩) (by omega) hl0 (by omega)) (.cons (.arg rfl (irs (by rw [e91, if_neg hz1]) ⟨by omega, by omega⟩) (by omega) hl1 (by omega)) (.cons (v2 _) .nil))) rfl (fun p hp => ?_) (fun nt a hC => ?_)
  · simp only [List.mem_cons, List.not_mem_nil, or_false] at hp
    rcases hp with rfl | rfl
    · exact ⟨rfl, by show 0 < 2; omega⟩
    · exact ⟨rfl, by show 1 < 2; omega⟩
  refine W_flat lawC ?_
  rw [lawL]
  obtain ⟨F, s, σ, π, g1, g2, g3, g4⟩ := toC_ok bg
  have hG : Good (rho a2 len0 len1 z0 z1) ρ := ⟨hI, fun x _ => by rw [hρ]⟩
  refine WL_run hb0 mixed (call0 hb0) hC g1 fun a' w' hC' => ?_
  refine W_block (W_loop (Inv [(0, B, δ, cs.size), (1, B', δ', cs'.size)] nt w (rho a2 len0 len1 z0 z1)) 24 ⟨by omega, _, good_weak hG g4, hC'.weak Try.prog g2 g3 ms_top⟩ (fun i a w' hi hI => ?_) (fun a w h => by have := h.1; omega))
  by_cases hgo : i < 24 ∧ i < len0 ∧ i < len1
  · exact round a2 len0 len1 z0 z1 c2 h0 h1 hm0 hm1 w nt hB hB' hc hc' (by omega) (by omega) i hgo.1 hgo.2.1 hgo.2.2 a w' hI _
  · obtain ⟨_, ρ1, hG1, hC1⟩ := hI
    have x90 : ρ1 90 = (len0 : Int) := (hG1.2 _ (by omega)).trans (by show (if len0 = 0 then (1 : Int) else _) = _; rw [if_neg (by omega)])
    have x91 : ρ1 91 = (len1 : Int) := (hG1.2 _ (by omega)).trans (by show (if len1 = 0 then (1 : Int) else _) = _; rw [if_neg (by omega)])
    by_cases ha : len0 ≤ i
    · exact leave ρ1 w nt i _ a w' hC1 (bdL_ok hG1.1 (by omega) (show ρ1 90 ≤ Int.ofNat i by rw [x90]; exact Int.ofNat_le.2 ha) (by omega) (hG1.1 91).2) (xa i (by omega) (by omega)) _
    · by_cases hb : len1 ≤ i
      · exact leave ρ1 w nt i _ a w' hC1 (bdL_ok hG1.1 (show Int.ofNat i + 1 ≤ ρ1 90 by rw [x90]; show ((i : Nat) : Int) + 1 ≤ _; omega) (hG1.1 90).2 (by omega) (show ρ1 91 ≤ Int.ofNat i by rw [x91]; exact Int.ofNat_le.2 hb)) (xb i (by omega) (by omega)) _
      · have : i = 24 := by omega
        subst this
        exact leave ρ1 w nt 24 _ a w' hC1 (bdL_ok hG1.1 (by omega) (hG1.1 90).2 (by omega) (hG1.1 91).2) xc _
end Go.Proofs.Ytmbimlnanfholaa.meterCountsRun
