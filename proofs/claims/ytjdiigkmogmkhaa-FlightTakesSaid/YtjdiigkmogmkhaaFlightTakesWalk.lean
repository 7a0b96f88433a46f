/- The law FlightTakes returns true for every input, and leaves what was there as it was. -/
import Derived.Test.YtjdiigkmogmkhaaFlightTakesRun
import Derived.Test.YtjdiigkmogmkhaaFlightTakesIn
import Derived.WalkKit
import Derived.ProofKit
namespace Go.Proofs.Ytjdiigkmogmkhaa.flightTakesRun
open Go.Vm Go.RowKit
set_option linter.unusedVariables false
set_option linter.unusedSimpArgs false
set_option maxRecDepth 1000000
def In (x : Int) : Prop := -9223372036854775808 ≤ x ∧ x ≤ 9223372036854775807
theorem wr {x : Int} (h : In x) : IntKind.i64.wrap x = x := wrap_in (k := .i64) h.1 h.2
theorem irs {ρ : Nat → Int} {i : Nat} {v : Int} (h : ρ i = v) (hb : In v) : IR ρ .i64 (.s [(i, 1)] 0) v := ir_sym (by rw [h, wr hb])
theorem irv {ρ : Nat → Int} {i : Nat} {X v : Int} (h : IR ρ .i64 (.s [(i, 1)] 0) X) (hv : ρ i = v) (hb : In v) : X = v := by rw [ir_inv h, hv, wr hb]
theorem tm (x m : Int) (hm : 0 < m) : (0 ≤ x ∧ x.tmod m = x % m) ∨ (x < 0 ∧ x.tmod m = -((-x) % m)) := by
  rcases Int.lt_or_le x 0 with h | h
  · right
    refine ⟨h, ?_⟩
    have := Int.neg_tmod x m
    rw [Int.tmod_eq_emod_of_nonneg (by omega)] at this
    omega
  · exact .inl ⟨h, Int.tmod_eq_emod_of_nonneg h⟩
/-- what the signs stand for -/
def rho (a1 : Int) (len0 : Nat) (z0 : List Int) : Nat → Int := fun x =>
  if 400 ≤ x then 0 else if 300 ≤ x then (z0.getD (x - 300) 0).tmod 3 else if 100 ≤ x then z0.getD (x - 100) 0 else if x = 90 then (if len0 = 0 then 1 else (len0 : Int)) else if x = 1 then a1 else 0
section
variable {a1 : Int} {len0 : Nat} {z0 : List Int}
theorem rho_3 {i : Nat} (h : i < 100) : rho a1 len0 z0 (300 + i) = (z0.getD i 0).tmod 3 := by
  unfold rho; rw [if_neg (by omega), if_pos (by omega), show 300 + i - 300 = i by omega]
theorem rho_1 {i : Nat} (h : i < 100) : rho a1 len0 z0 (100 + i) = z0.getD i 0 := by
  unfold rho; rw [if_neg (by omega), if_neg (by omega), if_pos (by omega), show 100 + i - 100 = i by omega]
theorem rho_in (c1 : In a1) (h0 : ∀ i, In (z0.getD i 0)) (hl0 : len0 ≤ 9223372036854775807) (x : Nat) : In (rho a1 len0 z0 x) := by
  unfold rho
  by_cases g400 : 400 ≤ x
  · rw [if_pos g400]; exact ⟨by omega, by omega⟩
  rw [if_neg g400]
  by_cases g300 : 300 ≤ x
  · rw [if_pos g300]
    obtain ⟨p1, p2⟩ := h0 (x - 300)
    have t := tm (z0.getD (x - 300) 0) 3 (by omega)
    generalize z0.getD (x - 300) 0 = v at *
    exact ⟨by omega, by omega⟩
  rw [if_neg g300]
  by_cases g100 : 100 ≤ x
  · rw [if_pos g100]; exact h0 _
  rw [if_neg g100]
  by_cases g90 : x = 90
  · rw [if_pos g90]; split <;> exact ⟨by omega, by omega⟩
  rw [if_neg g90]
  by_cases g1 : x = 1
  · rw [if_pos g1]; exact c1
  · rw [if_neg g1]; exact ⟨by omega, by omega⟩
end
/-- the signs are as they were, beside what is out; the numbers that are out are unlike, and none is 1 -/
def Good (ρ0 ρ : Nat → Int) (L : Nat) : Prop := (∀ x, In (ρ x)) ∧ (∀ x, ¬ (400 ≤ x ∧ x < 432) → ρ x = ρ0 x) ∧ ∀ j, j < L → ρ (400 + 4 * j) ≠ 1 ∧ ∀ j', j' < L → j' ≠ j → ρ (400 + 4 * j) ≠ ρ (400 + 4 * j')
theorem tabL (h : VF) : (tab h).get 3 = some (.code 2 lawV lawC lawR) := by kernel_rfl
theorem hkn {ρ : Nat → Int} {i m v : Nat} {x : Int} (hx : In x) (e : ρ i = x) (h1 : 1 ≤ m) (h2 : m ≤ 100) (hv : x % (m : Int) = (v : Int)) : EntryOk ρ Try.prog 7 (.hook (hookW [(i, Int.ofNat m, .c (Int.ofNat v))])) := by
  have wx : (Lit.int .i64 x).wf = true := by simpa [Lit.wf, IntKind.min, IntKind.max, IntKind.signed, IntKind.bits, In] using hx
  refine hook_ok (fn := Try.f7) Try.func7 rfl rfl ?_
  intro p hp w
  simp only [List.mem_cons, List.not_mem_nil, or_false] at hp
  subst hp
  have g := within x (Int.ofNat m) wx (by show (1 : Int) ≤ (m : Int); omega) (by show (m : Int) ≤ _; omega) w
  exact ⟨x % (m : Int), hv, by dsimp only; rw [e, wr hx]; exact g⟩
theorem hk0 (ρ : Nat → Int) : EntryOk ρ Try.prog 7 (.hook (hookW [])) := hook_ok (fn := Try.f7) Try.func7 rfl rfl (by intro p hp; cases hp)
theorem unl_ok {ρ : Nat → Int} {L j : Nat} (hρ : ∀ x, In (ρ x)) (hj : ρ (400 + 4 * j) ≠ 1 ∧ ∀ j', j' < L → j' ≠ j → ρ (400 + 4 * j) ≠ ρ (400 + 4 * j')) : ∀ m, m ≤ L → ∀ e ∈ unl j m, OrcOk ρ e := by
  intro m
  induction m with
  | zero =>
    intro _ e he
    simp only [unl, List.mem_cons, List.not_mem_nil, or_false] at he
    subst he
    intro X Y hX hY
    have hY : Y = 1 := hY
    have hX := irv hX rfl (hρ _)
    subst hX; subst hY
    show (ρ (400 + 4 * j) == 1) = false
    simpa using hj.1
  | succ m ih =>
    intro hm e he
    simp only [unl] at he
    rw [cnd_eq] at he
    split at he
    · exact ih (by omega) e he
    · rename_i hb
      rcases List.mem_cons.1 he with rfl | he
      · intro X Y hX hY
        have hX := irv hX rfl (hρ _)
        have hY := irv hY rfl (hρ _)
        subst hX; subst hY
        show (ρ (400 + 4 * j) == ρ (400 + 4 * m)) = false
        have hne : m ≠ j := fun h => hb (by rw [h]; exact Nat.beq_refl j)
        simpa using hj.2 m (by omega) hne
      · exact ih (by omega) e he
theorem nums_ok {ρ0 ρ : Nat → Int} {L : Nat} (hG : Good ρ0 ρ L) (k : Nat) : ∀ e ∈ nums L k, OrcOk ρ e := by
  intro e he
  unfold nums at he
  rw [cnd_eq] at he
  split at he
  · rename_i hb
    simp only [Bool.and_eq_true, Nat.ble_eq, Nat.blt_eq] at hb
    exact unl_ok hG.1 (hG.2.2 _ hb.2) L (Nat.le_refl L) e he
  · cases he
theorem bdL_ok {ρ0 ρ : Nat → Int} {L : Nat} (hG : Good ρ0 ρ L) {a b : Int} (h1 : a ≤ ρ 90) (h2 : ρ 90 ≤ b) : BdOk ρ (bdL L a b) := by
  refine ⟨bO_ok hG.1 fun p hp => ?_, fun k => nums_ok hG k⟩
  simp only [List.mem_cons, List.not_mem_nil, or_false] at hp
  subst hp
  exact ⟨h1, h2⟩
theorem bdR_ok {ρ0 ρ : Nat → Int} {i L : Nat} {re : Bool} {x : Int} (hG : Good ρ0 ρ L) (h1 : Int.ofNat i + 1 ≤ ρ 90) (hx : In x) (e1 : ρ (100 + i) = x) (e3 : ρ (300 + i) = x.tmod 3) (hre : re = decide (x.tmod 3 = 0)) : BdOk ρ (bdR i L re) := by
  refine ⟨bO_ok hG.1 fun p hp => ?_, fun k e he => ?_⟩
  · simp only [List.mem_cons, List.not_mem_nil, or_false] at hp
    subst hp
    exact ⟨h1, (hG.1 90).2⟩
  · replace he : e ∈ cnd (Nat.ble 400 k) (nums L k) (ors i re) := he
    rw [cnd_eq] at he
    split at he
    · exact nums_ok hG k e he
    · have t := tm x 3 (by omega)
      simp only [ors, List.mem_cons] at he
      rcases he with rfl | he
      · intro X Y hX hY
        have hY : Y = 3 := hY
        have hX := irv hX e1 hx
        subst hX; subst hY
        refine ⟨by omega, ?_⟩
        dsimp only
        rw [cnd_eq]
        split
        · rename_i hb
          rw [hre] at hb
          have hb := of_decide_eq_true hb
          exact hb
        · exact irs e3 ⟨by omega, by omega⟩
      · rw [cnd_eq] at he
        split at he
        · cases he
        · rename_i hb
          simp only [List.mem_cons, List.not_mem_nil, or_false] at he
          subst he
          intro X Y hX hY
          have hY : Y = 0 := hY
          have hX := irv hX e3 ⟨by omega, by omega⟩
          subst hX; subst hY
          show (x.tmod 3 == 0) = false
          rw [hre] at hb
          have : ¬ x.tmod 3 = 0 := fun h => hb (decide_eq_true h)
          simpa using this
theorem ms_top (L : Nat) : ∀ b, 4 ≤ b → (ms L).heap.get b = none := by
  intro b hb
  show (ms L).m.g b = none
  unfold ms
  rw [cnd_eq]
  split
  · unfold ms1
    simp only [St.m_put]
    rw [if_neg (by omega), if_neg (by omega)]
    rfl
  · unfold ms1
    simp only [St.m_put]
    rw [if_neg (by omega), if_neg (by omega), if_neg (by omega), if_neg (by omega)]
    rfl
theorem taus_ok {k L' : Nat} {re : Bool} {σ : List (Nat × IntKind × AI)} : ∀ {n : Nat}, taus k L' re σ n = true → ∀ j, j < n → isS σ (400 + 4 * j) (.s [(400 + 4 * tau k L' re j, 1)] 0) = true := by
  intro n
  induction n with
  | zero => intro _ j hj; omega
  | succ n ih =>
    intro h j hj
    simp only [taus, Bool.and_eq_true] at h
    by_cases e : j = n
    · subst e; exact h.1
    · exact ih h.2 j (by omega)
theorem begs_ok {σ : List (Nat × IntKind × AI)} : ∀ {n : Nat}, begs σ n = true → ∀ j, j < n → isS σ (400 + 4 * j) (.c (3 * Int.ofNat j)) = true := by
  intro n
  induction n with
  | zero => intro _ j hj; omega
  | succ n ih =>
    intro h j hj
    simp only [begs, Bool.and_eq_true] at h
    by_cases e : j = n
    · subst e; exact h.1
    · exact ih h.2 j (by omega)
theorem tau_lt {k L : Nat} {re : Bool} (hk : k < L) {j : Nat} (hj : j < nxL L re) : tau k (nxL L re) re j < L := by
  unfold tau nxL at *
  simp only [cnd_eq, Nat.blt_eq, Bool.and_eq_true, Nat.beq_eq] at *
  cases re <;> simp at * <;> (repeat' split) <;> omega
theorem tau_inj {k L : Nat} {re : Bool} (hk : k < L) {j j' : Nat} (hj : j < nxL L re) (hj' : j' < nxL L re) (h : tau k (nxL L re) re j = tau k (nxL L re) re j') : j = j' := by
  unfold tau nxL at *
  simp only [cnd_eq, Nat.blt_eq, Bool.and_eq_true, Nat.beq_eq] at *
  cases re <;> simp at * <;> (repeat' split at h) <;> omega
theorem good_rnd {ρ0 ρ : Nat → Int} {L k : Nat} {re : Bool} (hk : k < L) (hG : Good ρ0 ρ L) {σ : List (Nat × IntKind × AI)} (hs : okS 400 432 σ = true) (ht : taus k (nxL L re) re σ (nxL L re) = true) : Good ρ0 (rhoW σ ρ) (nxL L re) := by
  obtain ⟨h1, h2⟩ := okS_ok hG.1 hs
  have key : ∀ j, j < nxL L re → rhoW σ ρ (400 + 4 * j) = ρ (400 + 4 * tau k (nxL L re) re j) := by
    intro j hj
    rw [isS_ok (taus_ok ht j hj) ρ]
    show IntKind.i64.wrap (lin ρ [(_, 1)] + 0) = _
    simp only [lin]
    rw [show ∀ y : Int, 1 * y + 0 + 0 = y from fun y => by omega]
    exact wr (hG.1 _)
  refine ⟨h1, fun x hx => (h2 x hx).trans (hG.2.1 x hx), fun j hj => ?_⟩
  obtain ⟨g1, g2⟩ := hG.2.2 _ (tau_lt hk hj)
  refine ⟨by rw [key j hj]; exact g1, fun j' hj' hne => ?_⟩
  rw [key j hj, key j' hj']
  exact g2 _ (tau_lt hk hj') fun e => hne (tau_inj hk hj' hj e)
theorem good_beg {ρ0 ρ : Nat → Int} {n : Nat} (hG : Good ρ0 ρ 0) {σ : List (Nat × IntKind × AI)} (hs : okS 400 432 σ = true) (ht : begs σ n = true) : Good ρ0 (rhoW σ ρ) n := by
  obtain ⟨h1, h2⟩ := okS_ok hG.1 hs
  have key : ∀ j, j < n → rhoW σ ρ (400 + 4 * j) = 3 * (j : Int) := fun j hj => isS_ok (begs_ok ht j hj) ρ
  refine ⟨h1, fun x hx => (h2 x hx).trans (hG.2.1 x hx), fun j hj => ?_⟩
  refine ⟨by rw [key j hj]; omega, fun j' hj' hne => ?_⟩
  rw [key j hj, key j' hj']
  omega
/-- between rounds -/
def Inv (K : List (Nat × Nat × Nat × Nat)) (nt : Nat) (w0 : World) (ρ0 : Nat → Int) (i : Nat) (a : Act) (w : World) : Prop := i ≤ 16 ∧ ∃ ρ L, L < 9 ∧ Good ρ0 ρ L ∧ Cfg K lawV nt (fun _ => False) w0 ρ (fr i L) (ms L) a w
theorem round (a1 : Int) (len0 : Nat) (z0 : List Int) (h0 : ∀ i, In (z0.getD i 0)) (hl0 : len0 ≤ 9223372036854775807) (w0 : World) (nt : Nat) {B δ z : Nat} {cs : Array Value} {t : TypeId} {fz : Nat × Nat} (hB : w0.heap[B]? = some (.cells cs t fz)) (hc : ∀ i, i < len0 → cs[i + δ]? = some (.int .i64 (z0.getD i 0)))
    (hd : len0 + δ ≤ z) (i L : Nat) (hi : i < 16) (hi0 : i < len0) (hL : L < 9) (hL0 : 0 < L) (ρ : Nat → Int) (hG : Good (rho a1 len0 z0) ρ L) (a : Act) (w : World) (hC : Cfg [(0, B, δ, z)] lawV nt (fun _ => False) w0 ρ (fr i L) (ms L) a w) (Q : Exit → Act → World → Prop) :
    W Try.prog lawV nt body (Exit.then (Inv [(0, B, δ, z)] nt w0 (rho a1 len0 z0) (i + 1)) Q) a w := by
  have e1 : ∀ j, j < i + 1 → ρ (100 + j) = z0.getD j 0 := fun j hj => (hG.2.1 _ (by omega)).trans (rho_1 (by omega))
  have e3 : ρ (300 + i) = (z0.getD i 0).tmod 3 := (hG.2.1 _ (by omega)).trans (rho_3 (by omega))
  have e90 : ρ 90 = (len0 : Int) := (hG.2.1 _ (by omega)).trans (by show (if len0 = 0 then (1 : Int) else _) = _; rw [if_neg (by omega)])
  have lt : ∀ {b : Nat} {o : Obj}, w0.heap[b]? = some o → b < w0.heap.size := fun {b o} h => by
    rcases Nat.lt_or_ge b w0.heap.size with h' | h'
    · exact h'
    · rw [Array.getElem?_eq_none h'] at h; cases h
  have g0 : (ms L).heap.get 0 = some (.cells [] .ro) := by
    show (ms L).m.g 0 = _
    unfold ms
    rw [cnd_eq]
    split <;> rfl
  have f1 := hC.fill (b := 0) (i := 0) (n := i + 1) (base := 100) (x := .s [(90, 1)] 0) List.mem_cons_self g0 rfl (lt hB) (fun h => h) hB (fun j hj => ⟨_, hc j (by omega), by rw [e1 j hj, wr (h0 j)]⟩) (by omega)
    (fun len hlen => by have := irv hlen e90 ⟨by omega, by omega⟩; omega)
  obtain ⟨k, hk⟩ : ∃ k : Nat, z0.getD i 0 % (L : Int) = k := ⟨(z0.getD i 0 % (L : Int)).toNat, (Int.toNat_of_nonneg (Int.emod_nonneg _ (by omega))).symm⟩
  have hkL : k < L := by have := Int.emod_lt_of_pos (z0.getD i 0) (show (0 : Int) < (L : Int) by omega); omega
  obtain ⟨re, hre⟩ : ∃ re, re = decide ((z0.getD i 0).tmod 3 = 0) := ⟨_, rfl⟩
  have hb : BdOk ρ (bdR i L re) := bdR_ok hG (by rw [e90]; show ((i : Nat) : Int) + 1 ≤ _; omega) (h0 i) (e1 i (by omega)) e3 hre
  have hh := hkn (ρ := ρ) (h0 i) (e1 i (by omega)) hL0 (by omega) hk
  obtain ⟨F, s, σ, π, g1, g2, g3, g4, g5⟩ := toX_ok (ra i re L k hi hL0 hL hkL)
  refine W_run hb mixed (calls_ok hb mixed (tab := (tab (.hook (hookW [(100 + i, Int.ofNat L, .c (Int.ofNat k))]))).get) (tab_all ρ _ hh).get 5000 60) f1 g1 fun a' w' hC' => ?_
  exact ⟨by omega, _, nxL L re, by unfold nxL; rw [cnd_eq]; split <;> omega, good_rnd hkL hG g4 g5, hC'.weak Try.prog g2 g3 (ms_top _)⟩
theorem leave (ρ0 ρ : Nat → Int) (w0 : World) (nt i L : Nat) (hG : Good ρ0 ρ L) (K : List (Nat × Nat × Nat × Nat)) (a : Act) (w : World) (hC : Cfg K lawV nt (fun _ => False) w0 ρ (fr i L) (ms L) a w) {p q : Int} (h1 : p ≤ ρ 90) (h2 : ρ 90 ≤ q) (hx : exi i L p q = true) (J : Act → World → Prop) :
    W Try.prog lawV nt body (Exit.then J (Exit.inBlock 2 (Exit.then (WL Try.prog lawV nt post (endQ K lawV nt w0 lawR)) (endQ K lawV nt w0 lawR)))) a w := by
  have hb := bdL_ok hG h1 h2
  have call0 : CallsOk ρ Try.prog (callF (bdL L p q) tb0.get 5000 60) := calls_ok hb mixed (tab := tb0.get) (tab_all ρ _ (hk0 ρ)).get 5000 60
  obtain ⟨F, s, g1, g2⟩ := exT_ok hx
  refine W_run hb mixed call0 hC g1 fun a' w' hC' => ?_
  show (if (2 : Nat) = 2 then WL Try.prog lawV nt post (endQ K lawV nt w0 lawR) a' w' else (Exit.then (WL Try.prog lawV nt post (endQ K lawV nt w0 lawR)) (endQ K lawV nt w0 lawR)) (.exit 2) a' w')
  rw [if_pos rfl]
  obtain ⟨e, F', s', g3, g4, g5⟩ := endT_ok g2
  exact WL_end hb mixed call0 hC' g3 fun a'' w'' hC'' => ⟨g4, ρ, F', s', hC'', g5⟩
theorem walk (a0 : Option Addr) (len0 cap0 : Nat) (z0 : List Int) (a1 : Int) (w : World) (w1 : (Lit.int .i64 a1).wf = true) (hq : IsRowI w a0 len0 cap0 z0) : Calls Try.prog 3 #[.slice a0 len0 cap0, .int .i64 a1] w fun e w' => e = .returned (.bool true) ∧ Below w.heap.size w w' := by
  have c1 : In a1 := by simpa [Lit.wf, IntKind.min, IntKind.max, IntKind.signed, IntKind.bits, In] using w1
  have h0 : ∀ i, In (z0.getD i 0) := rowI_nums hq
  have hm0 := rowI_len hq
  have hl0 : len0 ≤ cap0 := by
    rcases hq with ⟨_, h1, h2, _⟩ | ⟨_, _, h, _⟩
    · omega
    · exact h
  have hm : len0 ≤ 9223372036854775807 := by omega
  obtain ⟨n, hn⟩ : ∃ n : Nat, a1 % ((8 : Nat) : Int) = n := ⟨(a1 % 8).toNat, by omega⟩
  have hn8 : n < 8 := by omega
  obtain ⟨ρ, hρ⟩ : ∃ ρ, ρ = rho a1 len0 z0 := ⟨_, rfl⟩
  have hI : ∀ x, In (ρ x) := fun x => by rw [hρ]; exact rho_in c1 h0 hm x
  have e90 : ρ 90 = if len0 = 0 then (1 : Int) else (len0 : Int) := by rw [hρ]; rfl
  have er : ρ 1 = a1 := by rw [hρ]; rfl
  have b90 : 1 ≤ ρ 90 := by rw [e90]; split <;> omega
  have hG : Good (rho a1 len0 z0) ρ 0 := ⟨hI, fun x _ => by rw [hρ], fun j hj => absurd hj (by omega)⟩
  have hb0 : BdOk ρ (bdL 0 1 9223372036854775807) := bdL_ok hG b90 (hI 90).2
  have hh := hkn (ρ := ρ) c1 er (show 1 ≤ 8 by omega) (by omega) hn
  have v1 : ∀ E, VR ρ E (.int .i64 (.s [(1, 1)] 0)) (.int .i64 a1) := fun E => .int (irs er c1)
  by_cases hz : len0 = 0
  · subst hz
    rcases hq with ⟨rfl, _, rfl, _⟩ | ⟨x, rfl, _⟩
    · exact law_okE hb0 mixed (tab_all ρ _ hh) (tabL _) (Go.Vm.hr0 ρ w) own0 (show VRs ρ env0 _ _ from .cons .nils (.cons (v1 _) .nil)) (sn n hn8)
    · exact law_okE hb0 mixed (tab_all ρ _ hh) (tabL _) (Go.Vm.hr0 ρ w) own0 (show VRs ρ env0 _ _ from .cons .emp (.cons (v1 _) .nil)) (se n hn8)
  have blk : ∃ B δ cs t fz, a0 = some ⟨B, δ, none⟩ ∧ w.heap[B]? = some (.cells cs t fz) ∧ δ + cap0 ≤ cs.size ∧ ∀ i, i < len0 → cs[i + δ]? = some (.int .i64 (z0.getD i 0)) := by
    rcases hq with ⟨_, h, _⟩ | ⟨x, rfl, h2, _, h3, h4, _⟩
    · exact absurd h hz
    · obtain ⟨B, δ, cs, t, fz, rfl, g1, g2, g3⟩ := row_blockI (by omega) h4
      exact ⟨B, δ, cs, t, fz, rfl, g1, by omega, fun i hi => g3 i (by omega)⟩
  obtain ⟨B, δ, cs, t, fz, rfl, hB, hd, hc⟩ := blk
  have hE := (tab_all ρ _ hh).get 3 _ (tabL _)
  refine law_W (K := [(0, B, δ, cs.size)]) hE (hrAI (n := 0) (b := 100) hB rfl (by omega) (fun i hi => absurd hi (by omega))) ownAI (show VRs ρ (envA B δ cs.size) [markV 0 0 (.s [(90, 1)] 0) 1, .int .i64 (.s [(1, 1)] 0)] _ from
    .cons (.arg rfl (irs (by rw [e90, if_neg hz]) ⟨by omega, by omega⟩) (by omega) hl0 (by omega)) (.cons (v1 _) .nil)) rfl (fun p hp => ?_) (fun nt a hC => ?_)
  · simp only [List.mem_cons, List.not_mem_nil, or_false] at hp
    subst hp
    exact ⟨rfl, by show 0 < 1; omega⟩
  refine W_flat lawC ?_
  rw [lawL]
  obtain ⟨F, s, σ, π, g1, g2, g3, g4, g5⟩ := toX_ok (bg n hn8)
  refine WL_run hb0 mixed (calls_ok hb0 mixed (tab := (tbn n).get) (tab_all ρ _ hh).get 5000 60) hC g1 fun a' w' hC' => ?_
  refine W_block (W_loop (Inv [(0, B, δ, cs.size)] nt w (rho a1 len0 z0)) 16 ⟨by omega, _, n + 1, by omega, good_beg hG g4 g5, hC'.weak Try.prog g2 g3 (ms_top _)⟩ (fun i a w' hi hI => ?_) (fun a w h => by have := h.1; omega))
  obtain ⟨_, ρ1, L, hL, hG1, hC1⟩ := hI
  have x90 : ρ1 90 = (len0 : Int) := (hG1.2.1 _ (by omega)).trans (by show (if len0 = 0 then (1 : Int) else _) = _; rw [if_neg (by omega)])
  by_cases ha : len0 ≤ i
  · exact leave _ ρ1 w nt i L hG1 _ a w' hC1 (by omega) (show ρ1 90 ≤ Int.ofNat i by rw [x90]; exact Int.ofNat_le.2 ha) (xa i L (by omega) (by omega) hL) _
  · by_cases h16 : i = 16
    · subst h16
      exact leave _ ρ1 w nt 16 L hG1 _ a w' hC1 (by omega) (hG1.1 90).2 (xc L hL) _
    · by_cases hL0 : L = 0
      · subst hL0
        exact leave _ ρ1 w nt i 0 hG1 _ a w' hC1 (show Int.ofNat i + 1 ≤ ρ1 90 by rw [x90]; show ((i : Nat) : Int) + 1 ≤ _; omega) (hG1.1 90).2 (xz i (by omega)) _
      · exact round a1 len0 z0 h0 hm w nt hB hc (by omega) i L (by omega) (by omega) hL (by omega) ρ1 hG1 a w' hC1 _
end Go.Proofs.Ytjdiigkmogmkhaa.flightTakesRun
