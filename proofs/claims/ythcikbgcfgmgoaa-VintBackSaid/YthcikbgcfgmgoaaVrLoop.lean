/- What is known of a run may be forgotten in part, and told anew; so a loop is proved round by round, from states of few shapes. -/
import Derived.Test.YthcikbgcfgmgoaaVrLaw
set_option linter.unusedSectionVars false
set_option linter.unusedVariables false
set_option linter.unusedSimpArgs false
namespace Go.Vm
open Go.RowKit
set_option linter.unusedVariables false
set_option linter.unusedSimpArgs false
set_option linter.unusedSectionVars false
/-! ## forgetting: signs named anew, blocks numbered anew, what is not needed dropped -/
noncomputable def lkS : List (Nat × IntKind × AI) → Nat → Option (IntKind × AI)
  | [], _ => none
  | p :: r, x => cnd (Nat.beq p.1 x) (some p.2) (lkS r x)
noncomputable def lkB : List (Nat × Nat) → Nat → Option Nat
  | [], _ => none
  | p :: r, x => cnd (Nat.beq p.1 x) (some p.2) (lkB r x)
/-- a number, as it is written anew -/
noncomputable def wAI (σ : List (Nat × IntKind × AI)) (k : IntKind) (new old : AI) : Bool := match new with
  | .c n => match old with
    | .c m => decide (n = m)
    | .s _ _ => false
  | .s ts d => match ts with
    | [p] => Option.casesOn (lkS σ p.1) false fun q => decide (p.2 = 1) && decide (d = 0) && Nat.beq (ik q.1) (ik k) && sameAI q.2 old && (AI.casesOn q.2 (fun n => inK k n n) fun _ _ => true)
    | _ => false
noncomputable def wB1 (π : List (Nat × Nat)) (b b' : Nat) : Bool := Option.casesOn (lkB π b) false fun c => Nat.beq c b'
noncomputable def wAIs (σ : List (Nat × IntKind × AI)) : List AI → List AI → Bool
  | [], [] => true
  | x :: a, y :: b => wAI σ .u8 x y && wAIs σ a b
  | _, _ => false
/-- a value that is no struct -/
noncomputable def wS (σ : List (Nat × IntKind × AI)) (π : List (Nat × Nat)) (x y : AV) : Bool := match x, y with
  | .bool a, .bool b => a == b
  | .int j a, .int k b => Nat.beq (ik j) (ik k) && wAI σ j a b
  | .str a, .str b => wAIs σ a b
  | .nilp, .nilp => true
  | .ptr a b, .ptr c d => wB1 π a c && Nat.beq b d
  | .nils, .nils => true
  | .sl a b c d e f, .sl a' b' c' d' e' f' => wB1 π a a' && Nat.beq b b' && Nat.beq c c' && Nat.beq f f' && ((Nat.beq d d' && (e == e')) || (!e && Nat.ble c d && Nat.ble d d'))
  | .emp, .sl _ _ c _ _ _ => Nat.beq c 0
  | .emp, .emp => true
  | .nilm, .nilm => true
  | .nilf, .nilf => true
  | .nili, .nili => true
  | .fn f [] [], .fn g [] [] => Nat.beq f g
  | .iface 0 (.agg [.tup [.ptr b n, .int .i64 x, .int .u64 (.c (Int.ofNat sz))]]), .iface 0 (.agg [.tup [.ptr b' n', .int .i64 x', .int .u64 (.c (Int.ofNat sz'))]]) => wB1 π b b' && Nat.ble n n' && wAI σ .i64 x x' && Nat.beq sz sz'
  | _, _ => false
noncomputable def wSs (σ : List (Nat × IntKind × AI)) (π : List (Nat × Nat)) : List AV → List AV → Bool
  | [], [] => true
  | x :: a, y :: b => wS σ π x y && wSs σ π a b
  | _, _ => false
noncomputable def wV (σ : List (Nat × IntKind × AI)) (π : List (Nat × Nat)) (x y : AV) : Bool := match x, y with
  | .agg a, .agg b => wSs σ π a b
  | .tup a, .tup b => wSs σ π a b
  | x, y => wS σ π x y
/-- the cells of a block: as many as are wanted, each no struct -/
noncomputable def wCs (σ : List (Nat × IntKind × AI)) (π : List (Nat × Nat)) : List AV → List AV → Bool
  | [], _ => true
  | x :: a, y :: b => wS σ π x y && x.scalar && wCs σ π a b
  | _, _ => false
noncomputable def wF (σ : List (Nat × IntKind × AI)) (π : List (Nat × Nat)) : LF → LF → Bool
  | [], _ => true
  | none :: a, _ :: b => wF σ π a b
  | some x :: a, some y :: b => wV σ π x y && wF σ π a b
  | _, _ => false
noncomputable def noB : List (Nat × Nat) → Nat → Bool
  | [], _ => true
  | p :: r, x => cnd (Nat.beq p.2 x) false (noB r x)
noncomputable def wK (π : List (Nat × Nat)) (k k' : BK) : Bool := match k, k' with
  | .own, .own => true
  | .own, .mate m => noB π m
  | .ro, .ro => true
  | _, _ => false
noncomputable def wAB (σ : List (Nat × IntKind × AI)) (π : List (Nat × Nat)) (x y : AB) : Bool := match x, y with
  | .cells c k, .cells c' k' => wCs σ π c c' && wK π k k'
  | _, _ => false
noncomputable def inj : List (Nat × Nat) → Bool
  | [] => true
  | p :: r => noB r p.2 && inj r
/-- blocks, one by one: numbers, what they are, what they were -/
noncomputable def mkH (σ : List (Nat × IntKind × AI)) (π : List (Nat × Nat)) (s' s : St) : List (Nat × Nat) → Bool
  | [] => true
  | p :: r => Option.casesOn (s'.heap.get p.1) false (fun x => Option.casesOn (s.heap.get p.2) false fun y => wAB σ π x y) && Nat.blt p.1 s'.next && mkH σ π s' s r
/-- no block beside those of π -/
noncomputable def only (π : List (Nat × Nat)) (s' : St) : Nat → Bool
  | 0 => true
  | n + 1 => Option.casesOn (s'.heap.get n) (Option.casesOn (lkB π n) true fun _ => false) (fun _ => Option.casesOn (lkB π n) false fun _ => true) && only π s' n
/-! what it means -/
noncomputable def valA (ρ : Nat → Int) (k : IntKind) (a : AI) : Int := match a with
  | .c n => n
  | .s ts d => k.wrap (lin ρ ts + d)
noncomputable def rhoW (σ : List (Nat × IntKind × AI)) (ρ : Nat → Int) (x : Nat) : Int := match lkS σ x with
  | some q => valA ρ q.1 q.2
  | none => ρ x
noncomputable def envW (π : List (Nat × Nat)) (E : Env) : Env := ⟨fun b => (lkB π b).bind E.blk, fun _ => none⟩
theorem wrap_wrap (k : IntKind) (n : Int) : k.wrap (k.wrap n) = k.wrap n := by
  have := wrap_add k n 0
  simpa using this
section
variable {ρ ρ' : Nat → Int} {E : Env} {σ : List (Nat × IntKind × AI)} {π : List (Nat × Nat)} (hσ : ∀ x q, lkS σ x = some q → ρ' x = valA ρ q.1 q.2)
include hσ in
theorem wAI_ok {k : IntKind} {new old : AI} (h : wAI σ k new old = true) {v : Int} (hv : IR ρ k old v) : IR (ρ') k new v := by
  unfold wAI at h
  split at h
  · rename_i n
    split at h
    · rename_i m
      simp only [decide_eq_true_eq] at h
      subst h; exact hv
    · cases h
  · rename_i ts d
    split at h
    · rename_i p
      cases hl : lkS σ p.1 with
      | none => rw [hl] at h; cases h
      | some q =>
        rw [hl] at h
        simp only [Bool.and_eq_true, decide_eq_true_eq] at h
        obtain ⟨⟨⟨⟨h1, rfl⟩, h3⟩, h4⟩, h5⟩ := h
        obtain ⟨x, f⟩ := p
        simp only at h1 hl
        subst h1
        obtain ⟨qk, qa⟩ := q
        simp only at h3 h4 h5
        obtain rfl := ik_inj h3
        obtain rfl := sameAI_eq h4
        show v = qk.wrap (lin (ρ') [(x, 1)] + 0)
        have e : ρ' x = valA ρ qk qa := hσ x _ hl
        simp only [lin, e]
        cases qa with
        | c n =>
          have hv : v = n := hv
          subst hv
          simp only [inK, Bool.and_eq_true, decide_eq_true_eq] at h5
          show v = qk.wrap (1 * v + 0 + 0)
          rw [show 1 * v + 0 + 0 = v by omega, wrap_in h5.1 h5.2]
        | s ts d =>
          have hv : v = qk.wrap (lin ρ ts + d) := hv
          show v = qk.wrap (1 * qk.wrap (lin ρ ts + d) + 0 + 0)
          rw [show 1 * qk.wrap (lin ρ ts + d) + 0 + 0 = qk.wrap (lin ρ ts + d) by omega, wrap_wrap, hv]
    · cases h
theorem wB1_ok {b b' : Nat} (h : wB1 π b b' = true) : lkB π b = some b' := by
  unfold wB1 at h
  cases hl : lkB π b with
  | none => rw [hl] at h; cases h
  | some c => rw [hl] at h; rw [Nat.eq_of_beq_eq_true h]
theorem wB1_blk {b b' : Nat} (h : wB1 π b b' = true) : (envW π E).blk b = E.blk b' := by
  show (lkB π b).bind E.blk = _
  rw [wB1_ok h]; rfl
include hσ in
theorem wAIs_ok : ∀ {a b : List AI}, wAIs σ a b = true → ∀ {m : List UInt8}, SR ρ b m → SR (ρ') a m := by
  intro a
  induction a with
  | nil => intro b h m hm; cases b with | nil => cases hm; exact .nil | cons => cases h
  | cons x a ih =>
    intro b h m hm
    cases b with
    | nil => cases h
    | cons y b =>
      simp only [wAIs, Bool.and_eq_true] at h
      cases hm with | cons h1 h2 => exact .cons (wAI_ok hσ h.1 h1) (ih h.2 h2)
include hσ in
theorem wS_ok {x y : AV} (h : wS σ π x y = true) {v : Value} (hv : VR ρ E y v) : VR (ρ') (envW π E) x v := by
  unfold wS at h
  split at h
  · simp only [beq_iff_eq] at h; subst h; cases hv; exact .bool _
  · simp only [Bool.and_eq_true] at h
    obtain rfl := ik_inj h.1
    cases hv with | int hi => exact .int (wAI_ok hσ h.2 hi)
  · cases hv with | str hs => exact .str (wAIs_ok hσ h hs)
  · cases hv; exact .nilp
  · simp only [Bool.and_eq_true] at h
    obtain ⟨h1, h2⟩ := h
    obtain rfl := Nat.eq_of_beq_eq_true h2
    cases hv with | ptr hb => exact .ptr (by rw [wB1_blk h1]; exact hb)
  · cases hv; exact .nils
  · simp only [Bool.and_eq_true, Bool.or_eq_true, beq_iff_eq] at h
    obtain ⟨⟨⟨⟨h1, h2⟩, h3⟩, h6⟩, h4⟩ := h
    obtain rfl := Nat.eq_of_beq_eq_true h2
    obtain rfl := Nat.eq_of_beq_eq_true h3
    obtain rfl := Nat.eq_of_beq_eq_true h6
    cases hv with | sl hb a1 a2 a3 a4 =>
    rcases h4 with ⟨h4, rfl⟩ | ⟨⟨h4, h5⟩, h7⟩
    · obtain rfl := Nat.eq_of_beq_eq_true h4
      exact .sl (by rw [wB1_blk h1]; exact hb) a1 a2 a3 a4
    · have h5 := Nat.le_of_ble_eq_true h5
      have h7 := Nat.le_of_ble_eq_true h7
      exact .sl (by rw [wB1_blk h1]; exact hb) h5 (by omega) (fun he => by rw [he] at h4; cases h4) a4
  · obtain rfl := Nat.eq_of_beq_eq_true h
    cases hv with | sl hb a1 a2 a3 a4 => exact .emp
  · cases hv; exact .emp
  · cases hv; exact .nilm
  · cases hv; exact .nilf
  · cases hv; exact .nili
  · obtain rfl := Nat.eq_of_beq_eq_true h
    cases hv with | fn h1 h2 =>
    cases h1; cases h2
    exact .fn .nil .nil
  · simp only [Bool.and_eq_true] at h
    obtain ⟨⟨⟨h1, h2⟩, h3⟩, h4⟩ := h
    have h2 := Nat.le_of_ble_eq_true h2
    obtain rfl := Nat.eq_of_beq_eq_true h4
    obtain ⟨B, δ, z, len, cap, rfl, hb, hi, l1, l2, l3⟩ := mark_inv hv
    exact .arg (by rw [wB1_blk h1]; exact hb) (wAI_ok hσ h3 hi) (Nat.le_trans h2 l1) l2 l3
  · cases h
include hσ in
theorem wSs_ok : ∀ {a b : List AV}, wSs σ π a b = true → ∀ {vs : List Value}, VRs ρ E b vs → VRs (ρ') (envW π E) a vs := by
  intro a
  induction a with
  | nil => intro b h vs hm; cases b with | nil => cases hm; exact .nil | cons => cases h
  | cons x a ih =>
    intro b h vs hm
    cases b with
    | nil => cases h
    | cons y b =>
      simp only [wSs, Bool.and_eq_true] at h
      cases hm with | cons h1 h2 => exact .cons (wS_ok hσ h.1 h1) (ih h.2 h2)
theorem wS_scalar {x y : AV} (h : wS σ π x y = true) : x.scalar = true := by
  unfold wS at h
  split at h <;> first | rfl | cases h
theorem wSs_scalar : ∀ {a b : List AV}, wSs σ π a b = true → ∀ c ∈ a, c.scalar = true := by
  intro a
  induction a with
  | nil => intro b h c hc; cases hc
  | cons x a ih =>
    intro b h c hc
    cases b with
    | nil => cases h
    | cons y b =>
      simp only [wSs, Bool.and_eq_true] at h
      rcases List.mem_cons.1 hc with rfl | hc
      · exact wS_scalar h.1
      · exact ih h.2 c hc
include hσ in
theorem wV_ok {x y : AV} (h : wV σ π x y = true) {v : Value} (hv : VR ρ E y v) : VR (ρ') (envW π E) x v := by
  unfold wV at h
  split at h
  · cases hv with | agg hs _ => exact .agg (wSs_ok hσ h hs) (wSs_scalar h)
  · cases hv with | tup hs => exact .tup (wSs_ok hσ h hs)
  · exact wS_ok hσ h hv
theorem wCs_ok : ∀ {a b : List AV}, wCs σ π a b = true → a.length ≤ b.length ∧ ∀ (i : Nat) (x : AV), a[i]? = some x → x.scalar = true ∧ ∃ y, b[i]? = some y ∧ wS σ π x y = true := by
  intro a
  induction a with
  | nil => intro b h; exact ⟨Nat.zero_le _, fun i x hx => by simp at hx⟩
  | cons x a ih =>
    intro b h
    cases b with
    | nil => cases h
    | cons y b =>
      simp only [wCs, Bool.and_eq_true] at h
      obtain ⟨h1, h2⟩ := ih h.2
      refine ⟨by simp; omega, fun i z hz => ?_⟩
      cases i with
      | zero => simp at hz; subst hz; exact ⟨h.1.2, y, rfl, h.1.1⟩
      | succ i => simpa using h2 i z (by simpa using hz)
theorem wF_ok : ∀ {F' F : LF}, wF σ π F' F = true → ∀ (i : Nat) (x : AV), nthO F' i = some x → ∃ y, nthO F i = some y ∧ wV σ π x y = true := by
  intro F'
  induction F' with
  | nil => intro F h i x hx; rw [nthO_eq] at hx; simp at hx
  | cons o F' ih =>
    intro F h i x hx
    rw [nthO_eq] at hx
    cases F with
    | nil =>
      cases o with
      | none => cases h
      | some _ => cases h
    | cons p F =>
      rw [nthO_eq]
      cases o with
      | none =>
        have h : wF σ π F' F = true := h
        cases i with
        | zero => simp at hx
        | succ i => have := ih h i x (by rw [nthO_eq]; simpa using hx); rw [nthO_eq] at this; simpa using this
      | some x0 =>
        cases p with
        | none => cases h
        | some y0 =>
          have h : (wV σ π x0 y0 && wF σ π F' F) = true := h
          simp only [Bool.and_eq_true] at h
          cases i with
          | zero => simp at hx; subst hx; exact ⟨y0, by simp, h.1⟩
          | succ i => have := ih h.2 i x (by rw [nthO_eq]; simpa using hx); rw [nthO_eq] at this; simpa using this
theorem lkB_mem : ∀ {π : List (Nat × Nat)} {b c : Nat}, lkB π b = some c → (b, c) ∈ π := by
  intro π
  induction π with
  | nil => intro b c h; cases h
  | cons p r ih =>
    intro b c h
    simp only [lkB] at h
    rw [cnd_eq] at h
    split at h
    · rename_i hc; cases h; rw [← Nat.eq_of_beq_eq_true hc]; exact List.mem_cons_self
    · exact List.mem_cons_of_mem _ (ih h)
theorem noB_ok : ∀ {π : List (Nat × Nat)} {x : Nat}, noB π x = true → ∀ p ∈ π, p.2 ≠ x := by
  intro π
  induction π with
  | nil => intro x h p hp; cases hp
  | cons q r ih =>
    intro x h p hp
    simp only [noB] at h
    rw [cnd_eq] at h
    split at h
    · cases h
    · rename_i hc
      rcases List.mem_cons.1 hp with rfl | hp
      · intro he; exact hc (by rw [he]; exact Nat.beq_refl _)
      · exact ih h p hp
theorem inj_ok : ∀ {π : List (Nat × Nat)}, inj π = true → ∀ b b' c, (b, c) ∈ π → (b', c) ∈ π → lkB π b = some c → lkB π b' = some c → b = b' := by
  intro π
  induction π with
  | nil => intro _ b b' c h; cases h
  | cons p r ih =>
    intro h b b' c h1 h2 h3 h4
    simp only [inj, Bool.and_eq_true] at h
    have hn := noB_ok h.1
    rcases List.mem_cons.1 h1 with e1 | m1
    · rcases List.mem_cons.1 h2 with e2 | m2
      · rw [← e1] at e2; exact (Prod.mk.inj e2).1.symm
      · subst e1; exact (hn _ m2 rfl).elim
    · rcases List.mem_cons.1 h2 with e2 | m2
      · subst e2; exact (hn _ m1 rfl).elim
      · have drop : ∀ x, (x, c) ∈ r → lkB (p :: r) x = some c → lkB r x = some c := by
          intro x hx hl
          simp only [lkB] at hl
          rw [cnd_eq] at hl
          split at hl
          · cases hl; exact (hn _ hx rfl).elim
          · exact hl
        exact ih h.2 b b' c m1 m2 (drop b m1 h3) (drop b' m2 h4)
theorem mkH_ok {s' s : St} : ∀ {l : List (Nat × Nat)}, mkH σ π s' s l = true → ∀ p ∈ l, p.1 < s'.next ∧ ∃ x y, s'.heap.get p.1 = some x ∧ s.heap.get p.2 = some y ∧ wAB σ π x y = true := by
  intro l
  induction l with
  | nil => intro _ p hp; cases hp
  | cons q r ih =>
    intro h p hp
    simp only [mkH, Bool.and_eq_true] at h
    obtain ⟨⟨h1, h2⟩, h3⟩ := h
    rcases List.mem_cons.1 hp with rfl | hp
    · refine ⟨by simpa [Nat.blt_eq] using h2, ?_⟩
      cases hx : s'.heap.get p.1 with
      | none => rw [hx] at h1; cases h1
      | some x =>
        rw [hx] at h1
        cases hy : s.heap.get p.2 with
        | none => rw [hy] at h1; cases h1
        | some y => rw [hy] at h1; exact ⟨x, y, rfl, rfl, h1⟩
    · exact ih h3 p hp
theorem only_ok {s' : St} : ∀ {n : Nat}, only π s' n = true → ∀ b, b < n → ∀ x, s'.heap.get b = some x → ∃ c, lkB π b = some c := by
  intro n
  induction n with
  | zero => intro _ b hb; omega
  | succ n ih =>
    intro h b hb x hx
    simp only [only, Bool.and_eq_true] at h
    by_cases he : b = n
    · subst he
      rw [hx] at h
      cases hl : lkB π b with
      | none => rw [hl] at h; cases h.1
      | some c => exact ⟨c, rfl⟩
    · exact ih h.2 b (by omega) x hx
/-- all of it -/
noncomputable def weak (σ : List (Nat × IntKind × AI)) (π : List (Nat × Nat)) (top : Nat) (F' F : LF) (s' s : St) : Bool := wF σ π F' F && inj π && mkH σ π s' s π && only π s' top && Nat.ble s'.next top
include hσ in
theorem weak_ok {top : Nat} {F' F : LF} {s' s : St} (h : weak σ π top F' F s' s = true) (htop : ∀ b, top ≤ b → s'.heap.get b = none) {P : Program} {vars : List Nat} {nt : Nat} {a : Act} {w : World} (hF : FrOk ρ E vars nt F a) (hH : HR ρ E s.m w) :
    FrOk (ρ') (envW π E) vars nt F' a ∧ HR (ρ') (envW π E) s'.m w ∧ ∀ B, Own (envW π E) s'.m B → Own E s.m B := by
  simp only [weak, Bool.and_eq_true] at h
  obtain ⟨⟨⟨⟨h1, h2⟩, h3⟩, h4⟩, h5⟩ := h
  have hon : ∀ b x, s'.heap.get b = some x → ∃ c, lkB π b = some c := fun b x hx => by
    by_cases hb : b < top
    · exact only_ok h4 b hb x hx
    · rw [htop b (by omega)] at hx; cases hx
  -- a block of the new memory, and what it was
  have blk : ∀ b c k, s'.m.g b = some (.cells c k) → ∃ o c' k', lkB π b = some o ∧ s.m.g o = some (.cells c' k') ∧ wCs σ π c c' = true ∧ ((k = .own ∧ k' ≠ .ro ∧ ∀ m, k' = .mate m → noB π m = true) ∨ (k = .ro ∧ k' = .ro)) := by
    intro b c k hb
    obtain ⟨o, ho⟩ := hon b _ hb
    obtain ⟨_, x, y, hx, hy, hw⟩ := mkH_ok h3 _ (lkB_mem ho)
    have hb : s'.heap.get b = some (.cells c k) := hb
    rw [hb] at hx
    cases hx
    cases y with
    | map es => cases hw
    | cells c' k' =>
      have hw : (wCs σ π c c' && wK π k k') = true := hw
      simp only [Bool.and_eq_true] at hw
      obtain ⟨hw1, hw2⟩ := hw
      refine ⟨o, c', k', ho, hy, hw1, ?_⟩
      cases k with
      | own => cases k' with
        | own => exact .inl ⟨rfl, by simp, fun m hm => by cases hm⟩
        | mate m0 => exact .inl ⟨rfl, by simp, fun m hm => by cases hm; exact hw2⟩
        | ro => cases hw2
      | mate m0 => cases k' <;> cases hw2
      | ro => cases k' with
        | ro => exact .inr ⟨rfl, rfl⟩
        | own => cases hw2
        | mate m0 => cases hw2
  have env : ∀ b o, lkB π b = some o → (envW π E).blk b = E.blk o := fun b o ho => by
    show (lkB π b).bind E.blk = _
    rw [ho]; rfl
  refine ⟨⟨fun k i v hi hv => ?_, hF.size, hF.defers⟩, ⟨fun b c k hb => ?_, fun b es hb => ?_, fun b b' c c' k k' B δ z δ' z' hne hb hb' he he' hk => ?_, fun b b' es es' B _ hb => ?_, fun b hb => ⟨?_, rfl⟩⟩, fun B hB => ?_⟩
  · obtain ⟨y, hy, hw⟩ := wF_ok h1 i v hv
    exact wV_ok hσ hw (hF.ok k i y hi hy)
  · obtain ⟨o, c', k', ho, hg, hw, hk⟩ := blk b c k hb
    obtain ⟨B, δ, z, cs, t, fz, q1, q2, q3, q4, q5, q6⟩ := hH.cells o c' k' hg
    have q4 : k = .ro ∨ fz.1 = fz.2 ∨ z ≤ fz.1 := by
      rcases hk with ⟨_, hk, _⟩ | ⟨hk, _⟩
      · exact .inr (q4.resolve_left hk)
      · exact .inl hk
    obtain ⟨l1, l2⟩ := wCs_ok hw
    refine ⟨B, δ, z, cs, t, fz, by rw [env b o ho]; exact q1, q2, q3, q4, by omega, fun i v hv => ?_⟩
    obtain ⟨sc, y, hy, hwy⟩ := l2 i v hv
    obtain ⟨x, x1, x2, _⟩ := q6 i y hy
    exact ⟨x, x1, wS_ok hσ hwy x2, sc⟩
  · obtain ⟨o, ho⟩ := hon b _ hb
    obtain ⟨_, x, y, hx, hy, hw⟩ := mkH_ok h3 _ (lkB_mem ho)
    have hb : s'.heap.get b = some (.map es) := hb
    rw [hb] at hx
    cases hx
    cases y <;> cases hw
  · obtain ⟨o, d, ko, ho, hg, _, hk1⟩ := blk b c k hb
    obtain ⟨o', d', ko', ho', hg', _, hk2⟩ := blk b' c' k' hb'
    rw [env b o ho] at he
    rw [env b' o' ho'] at he'
    have hoo : o ≠ o' := by
      intro e
      subst e
      exact hne (inj_ok h2 b b' o (lkB_mem ho) (lkB_mem ho') ho ho')
    have hko : ko ≠ .ro := by
      rcases hk1 with ⟨_, h, _⟩ | ⟨h, _⟩
      · exact h
      · exact absurd h hk
    obtain ⟨e1, _⟩ := hH.apart o o' d d' ko ko' B δ z δ' z' hoo hg hg' he he' hko
    rcases hk1 with ⟨_, _, h⟩ | ⟨_, h⟩
    · exact absurd rfl (noB_ok (h o' e1) _ (lkB_mem ho'))
    · exact absurd h hko
  · obtain ⟨o, ho⟩ := hon b _ hb
    obtain ⟨_, x, y, hx, hy, hw⟩ := mkH_ok h3 _ (lkB_mem ho)
    have hb : s'.heap.get b = some (.map es) := hb
    rw [hb] at hx
    cases hx
    cases y <;> cases hw
  · show (lkB π b).bind E.blk = none
    cases hl : lkB π b with
    | none => rfl
    | some o =>
      obtain ⟨hlt, _⟩ := mkH_ok h3 _ (lkB_mem hl)
      have : s'.m.n = s'.next := rfl
      exact absurd hlt (by simp only at hb ⊢; omega)
  · obtain ⟨b, ⟨c, k, δ, z, hb, hk, he⟩ | ⟨es, hb, he⟩⟩ := hB
    · obtain ⟨o, d, ko, ho, hg, _, hk1⟩ := blk b c k hb
      rw [env b o ho] at he
      refine ⟨o, .inl ⟨d, ko, δ, z, hg, ?_, he⟩⟩
      rcases hk1 with ⟨_, h, _⟩ | ⟨h, _⟩
      · exact h
      · exact absurd h hk
    · cases he
end
end Go.Vm

namespace Go.Vm
open Go.RowKit
set_option linter.unusedVariables false
set_option linter.unusedSimpArgs false
set_option linter.unusedSectionVars false
/-! ## code by its compiled form: what follows what, loops by their rounds -/
section
variable {P : Program} {vars : List Nat} {nt : Nat}
theorem coR_form {id : Nat} {ops : Array Oper} : (∃ a b d e, coC P vars nt (.region id ops true) = .drw a b d e) ∨ (∃ x y, coC P vars nt (.region id ops true) = .two x y) ∨ coC P vars nt (.region id ops true) = VC.no := by
  simp only [coC]
  split
  · rename_i c hc
    exact .inl ⟨_, _, _, _, (coD_some hc).1⟩
  · split
    · split
      · exact .inr (.inl ⟨_, _, rfl⟩)
      · exact .inr (.inr rfl)
    · exact .inr (.inr rfl)
theorem coC_seq {c : Code} {x y : VC} (h : coC P vars nt c = .seq x y) : ∃ c1 c2, c = .seq c1 c2 ∧ coC P vars nt c1 = x ∧ coC P vars nt c2 = y := by
  cases c with
  | seq c1 c2 => simp only [coC, VC.seq.injEq] at h; exact ⟨c1, c2, rfl, h.1, h.2⟩
  | region id0 ops b =>
    cases b with
    | true =>
      rcases coR_form (vars := vars) (P := P) (nt := nt) (id := id0) (ops := ops) with ⟨_, _, _, _, e⟩ | ⟨_, _, e⟩ | e <;> (rw [e] at h; cases h)
    | false => simp only [coC] at h; cases h
  | cond o c1 c2 =>
    simp only [coC] at h
    split at h
    · cases h
    · cases h
  | _ => simp only [coC] at h; cases h
theorem coC_block {c : Code} {id : Nat} {x : VC} (h : coC P vars nt c = .block id x) : ∃ c1, c = .block id c1 ∧ coC P vars nt c1 = x := by
  cases c with
  | block id' c1 => simp only [coC, VC.block.injEq] at h; obtain ⟨rfl, h⟩ := h; exact ⟨c1, rfl, h⟩
  | region id0 ops b =>
    cases b with
    | true =>
      rcases coR_form (vars := vars) (P := P) (nt := nt) (id := id0) (ops := ops) with ⟨_, _, _, _, e⟩ | ⟨_, _, e⟩ | e <;> (rw [e] at h; cases h)
    | false => simp only [coC] at h; cases h
  | cond o c1 c2 =>
    simp only [coC] at h
    split at h
    · cases h
    · cases h
  | _ => simp only [coC] at h; cases h
theorem coC_loop {c : Code} {x : VC} (h : coC P vars nt c = .loop x) : ∃ c1, c = .loop c1 ∧ coC P vars nt c1 = x := by
  cases c with
  | loop c1 => simp only [coC, VC.loop.injEq] at h; exact ⟨c1, rfl, h⟩
  | region id0 ops b =>
    cases b with
    | true =>
      rcases coR_form (vars := vars) (P := P) (nt := nt) (id := id0) (ops := ops) with ⟨_, _, _, _, e⟩ | ⟨_, _, e⟩ | e <;> (rw [e] at h; cases h)
    | false => simp only [coC] at h; cases h
  | cond o c1 c2 =>
    simp only [coC] at h
    split at h
    · cases h
    · cases h
  | _ => simp only [coC] at h; cases h
/-- what is asked of code that is compiled to v -/
def W (P : Program) (vars : List Nat) (nt : Nat) (v : VC) (Q : Exit → Act → World → Prop) (a : Act) (w : World) : Prop := ∀ c, coC P vars nt c = v → c.wp P Q a w
theorem W_mono {v : VC} {Q Q' : Exit → Act → World → Prop} {a : Act} {w : World} (h : W P vars nt v Q a w) (hq : ∀ e a w, Q e a w → Q' e a w) : W P vars nt v Q' a w := fun c hc => wp_mono (h c hc) hq
theorem W_seq {x y : VC} {Q : Exit → Act → World → Prop} {a : Act} {w : World} (h : W P vars nt x (Exit.then (W P vars nt y Q) Q) a w) : W P vars nt (.seq x y) Q a w := by
  intro c hc
  obtain ⟨c1, c2, rfl, h1, h2⟩ := coC_seq hc
  refine wp_seq (wp_mono (h c1 h1) fun e a w hq => ?_)
  cases e with
  | normal => exact hq c2 h2
  | _ => exact hq
theorem W_block {id : Nat} {v : VC} {Q : Exit → Act → World → Prop} {a : Act} {w : World} (h : W P vars nt v (Exit.inBlock id Q) a w) : W P vars nt (.block id v) Q a w := by
  intro c hc
  obtain ⟨c1, rfl, h1⟩ := coC_block hc
  exact wp_block (h c1 h1)
/-- a loop of at most n + 1 rounds -/
theorem W_loop {v : VC} {Q : Exit → Act → World → Prop} {a : Act} {w : World} (I : Nat → Act → World → Prop) (n : Nat) (h0 : I 0 a w) (hr : ∀ i a w, i ≤ n → I i a w → W P vars nt v (Exit.then (I (i + 1)) Q) a w) (hn : ∀ a w, ¬ I (n + 1) a w) : W P vars nt (.loop v) Q a w := by
  intro c hc
  obtain ⟨c1, rfl, h1⟩ := coC_loop hc
  refine wp_loop_rounds (n + 2) ?_
  have key : ∀ (m i : Nat) (a : Act) (w : World), i + m = n + 1 → I i a w → Code.rounds P c1 Q (m + 1) a w := by
    intro m
    induction m with
    | zero => intro i a w hi hI; exact absurd (show I (n + 1) a w by rw [← hi]; exact hI) (hn a w)
    | succ m ih =>
      intro i a w hi hI
      show c1.wp P (Exit.then (Code.rounds P c1 Q (m + 1)) Q) a w
      refine wp_mono (hr i a w (by omega) hI c1 h1) fun e a w hq => ?_
      cases e with
      | normal => exact ih (i + 1) a w (by omega) hq
      | _ => exact hq
  exact key (n + 1) 0 a w (by omega) h0
/-! ## what is known of a run: from its start on -/
structure Rch (O : Nat → Prop) (w0 : World) (E : Env) (s : M) (w : World) : Prop where
  frame : ∀ B, B < w0.heap.size → ¬ O B → w.heap[B]? = w0.heap[B]?
  own : ∀ B, Own E s B → O B ∨ w0.heap.size ≤ B
  os : w.os = w0.os
  tape : w.tape = w0.tape
  output : w.output = w0.output
  size : w0.heap.size ≤ w.heap.size
theorem Rch.refl {E : Env} {s : M} {w : World} : Rch (Own E s) w E s w := ⟨fun _ _ _ => rfl, fun _ h => .inl h, rfl, rfl, rfl, Nat.le_refl _⟩
theorem Rch.step {ρ : Nat → Int} {O : Nat → Prop} {w0 : World} {E E' : Env} {s s' : M} {w w' : World} (h : Rch O w0 E s w) (k : Step ρ E s w E' s' w') : Rch O w0 E' s' w' where
  frame := fun B hB hO => by
    rw [k.frame B (Nat.lt_of_lt_of_le hB h.size) (fun ho => by
      rcases h.own B ho with h' | h'
      · exact hO h'
      · omega)]
    exact h.frame B hB hO
  own := fun B hB => by
    rcases k.own B hB with h' | h'
    · exact h.own B h'
    · exact .inr (Nat.le_trans h.size h')
  os := k.os.trans h.os
  tape := k.tape.trans h.tape
  output := k.output.trans h.output
  size := Nat.le_trans h.size k.size
/-- what is known of frame and memory; K: blocks whose places are kept in mind -/
def Cfg (K : List (Nat × Nat × Nat × Nat)) (vars : List Nat) (nt : Nat) (O : Nat → Prop) (w0 : World) (ρ : Nat → Int) (F : LF) (s : St) (a : Act) (w : World) : Prop := ∃ E, FrOk ρ E vars nt F a ∧ HR ρ E s.m w ∧ Rch O w0 E s.m w ∧ ∀ p ∈ K, E.blk p.1 = some p.2 ∧ p.1 < s.next
/-- the blocks that are kept in mind keep their numbers -/
noncomputable def pinB (π : List (Nat × Nat)) (s' : St) : List Nat → Bool
  | [] => true
  | p :: r => wB1 π p p && Nat.blt p s'.next && pinB π s' r
theorem pinB_ok {π : List (Nat × Nat)} {s' : St} {E : Env} : ∀ {K : List (Nat × Nat × Nat × Nat)}, pinB π s' (K.map (·.1)) = true → ∀ p ∈ K, (envW π E).blk p.1 = E.blk p.1 ∧ p.1 < s'.next := by
  intro K
  induction K with
  | nil => intro _ p hp; cases hp
  | cons q r ih =>
    intro h p hp
    simp only [List.map_cons, pinB, Bool.and_eq_true] at h
    rcases List.mem_cons.1 hp with rfl | hp
    · exact ⟨wB1_blk h.1.1, blt_t h.1.2⟩
    · exact ih h.2 p hp
theorem Cfg.weakA (P : Program) {K : List (Nat × Nat × Nat × Nat)} {O : Nat → Prop} {w0 : World} {ρ : Nat → Int} {σ : List (Nat × IntKind × AI)} {π : List (Nat × Nat)} {top : Nat} {F' F : LF} {s' s : St} {a : Act} {w : World} (h : Cfg K vars nt O w0 ρ F s a w) (hw : Vm.weak σ π top F' F s' s = true) (hk : pinB π s' (K.map (·.1)) = true) (htop : ∀ b, top ≤ b → s'.heap.get b = none) {ρ' : Nat → Int} (hσ : ∀ x q, lkS σ x = some q → ρ' x = valA ρ q.1 q.2) : Cfg K vars nt O w0 ρ' F' s' a w := by
  obtain ⟨E, hF, hH, hR, hK⟩ := h
  obtain ⟨h1, h2, h3⟩ := weak_ok hσ (P := P) hw htop hF hH
  refine ⟨_, h1, h2, ⟨hR.frame, fun B hB => hR.own B (h3 B hB), hR.os, hR.tape, hR.output, hR.size⟩, fun p hp => ?_⟩
  obtain ⟨g1, g2⟩ := pinB_ok (E := E) hk p hp
  exact ⟨g1.trans (hK p hp).1, g2⟩
theorem rhoW_is {σ : List (Nat × IntKind × AI)} {ρ : Nat → Int} : ∀ x q, lkS σ x = some q → rhoW σ ρ x = valA ρ q.1 q.2 := fun x q h => by unfold rhoW; rw [h]
theorem Cfg.weak (P : Program) {K : List (Nat × Nat × Nat × Nat)} {O : Nat → Prop} {w0 : World} {ρ : Nat → Int} {σ : List (Nat × IntKind × AI)} {π : List (Nat × Nat)} {top : Nat} {F' F : LF} {s' s : St} {a : Act} {w : World} (h : Cfg K vars nt O w0 ρ F s a w) (hw : Vm.weak σ π top F' F s' s = true) (hk : pinB π s' (K.map (·.1)) = true) (htop : ∀ b, top ≤ b → s'.heap.get b = none) : Cfg K vars nt O w0 (rhoW σ ρ) F' s' a w := h.weakA P hw hk htop rhoW_is
/-- a piece that is run -/
theorem W_run {ρ : Nat → Int} {bd : Bd} (hbd : BdOk ρ bd) {call : FuncId → List AV → St → Out} (hm : P.follows .mixedOrders = true) (hcall : CallsOk ρ P call) {K : List (Nat × Nat × Nat × Nat)} {O : Nat → Prop} {w0 : World} {fu : Nat} {v : VC} {Q : Exit → Act → World → Prop} {F F' : LF} {a : Act} {s s' : St} {w : World} {e : Ex} (hC : Cfg K vars nt O w0 ρ F s a w)
    (hex : exec bd call fu v F s = .ok e F' s') (hQ : ∀ a' w', Cfg K vars nt O w0 ρ F' s' a' w' → Q e.on a' w') : W P vars nt v Q a w := by
  intro c hc
  obtain ⟨E, hF, hH, hR, hK⟩ := hC
  refine exec_ok hbd hcall (draw_ok hbd hcall hm) fu c Q F F' E a s s' w e hF hH (by rw [hc]; exact hex) fun E' a' w' hS hF' => hQ a' w' ⟨E', hF', hS.hr, hR.step hS, fun p hp => ?_⟩
  obtain ⟨g1, g2⟩ := hK p hp
  exact ⟨(hS.old p.1 g2).1.trans g1, Nat.lt_of_lt_of_le g2 hS.next⟩
/-! ## what follows one by one -/
noncomputable def flat : VC → List VC
  | .seq a b => flat a ++ flat b
  | v => [v]
noncomputable def execL (bd : Bd) (call : FuncId → List AV → St → Out) (fu : Nat) : List VC → LF → St → Rs
  | [], F, s => .ok .normal F s
  | v :: r, F, s => (exec bd call fu v F s).norm (execL bd call fu r)
def WL (P : Program) (vars : List Nat) (nt : Nat) : List VC → (Exit → Act → World → Prop) → Act → World → Prop
  | [], Q, a, w => Q .normal a w
  | v :: r, Q, a, w => W P vars nt v (Exit.then (WL P vars nt r Q) Q) a w
theorem WL_app {l1 l2 : List VC} {Q : Exit → Act → World → Prop} : ∀ {a : Act} {w : World}, WL P vars nt (l1 ++ l2) Q a w → WL P vars nt l1 (Exit.then (WL P vars nt l2 Q) Q) a w := by
  induction l1 with
  | nil => intro a w h; exact h
  | cons v r ih =>
    intro a w h
    refine W_mono (show W P vars nt v _ a w from h) fun e a w hq => ?_
    cases e with
    | normal => exact ih hq
    | _ => exact hq
theorem WL_mono {l : List VC} {Q Q' : Exit → Act → World → Prop} : ∀ {a : Act} {w : World}, WL P vars nt l Q a w → (∀ e a w, Q e a w → Q' e a w) → WL P vars nt l Q' a w := by
  induction l with
  | nil => intro a w h hq; exact hq _ _ _ h
  | cons v r ih =>
    intro a w h hq
    refine W_mono (show W P vars nt v _ a w from h) fun e a w hq' => ?_
    cases e with
    | normal => exact ih hq' hq
    | _ => exact hq _ _ _ hq'
theorem W_flat : ∀ (v : VC) {Q : Exit → Act → World → Prop} {a : Act} {w : World}, WL P vars nt (flat v) Q a w → W P vars nt v Q a w := by
  have one : ∀ {v : VC} {Q : Exit → Act → World → Prop} {a : Act} {w : World}, WL P vars nt [v] Q a w → W P vars nt v Q a w := by
    intro v Q a w h
    refine W_mono (show W P vars nt v _ a w from h) fun e a w hq => ?_
    cases e <;> exact hq
  intro v
  induction v with
  | seq x y ihx ihy =>
    intro Q a w h
    refine W_seq (ihx (WL_mono (WL_app h) fun e a w hq => ?_))
    cases e with
    | normal => exact ihy hq
    | _ => exact hq
  | _ => intro Q a w h; exact one h
theorem WL_run {ρ : Nat → Int} {bd : Bd} (hbd : BdOk ρ bd) {call : FuncId → List AV → St → Out} (hm : P.follows .mixedOrders = true) (hcall : CallsOk ρ P call) {K : List (Nat × Nat × Nat × Nat)} {O : Nat → Prop} {w0 : World} {fu : Nat} {Q : Exit → Act → World → Prop} {l2 : List VC} : ∀ {l1 : List VC} {F F' : LF} {a : Act} {s s' : St} {w : World}, Cfg K vars nt O w0 ρ F s a w →
    execL bd call fu l1 F s = .ok .normal F' s' → (∀ a' w', Cfg K vars nt O w0 ρ F' s' a' w' → WL P vars nt l2 Q a' w') → WL P vars nt (l1 ++ l2) Q a w := by
  intro l1
  induction l1 with
  | nil => intro F F' a s s' w hC hex hQ; cases hex; exact hQ a w hC
  | cons v r ih =>
    intro F F' a s s' w hC hex hQ
    rcases norm_ok (show (exec bd call fu v F s).norm (execL bd call fu r) = .ok .normal F' s' from hex) with ⟨F1, s1, h1, h2⟩ | ⟨h1, _⟩
    · show W P vars nt v _ a w
      exact W_run hbd hm hcall hC h1 fun a' w' hC' => ih hC' h2 hQ
    · exact absurd rfl h1
theorem WL_end {ρ : Nat → Int} {bd : Bd} (hbd : BdOk ρ bd) {call : FuncId → List AV → St → Out} (hm : P.follows .mixedOrders = true) (hcall : CallsOk ρ P call) {K : List (Nat × Nat × Nat × Nat)} {O : Nat → Prop} {w0 : World} {fu : Nat} {Q : Exit → Act → World → Prop} : ∀ {l : List VC} {F F' : LF} {a : Act} {s s' : St} {w : World} {e : Ex}, Cfg K vars nt O w0 ρ F s a w →
    execL bd call fu l F s = .ok e F' s' → (∀ a' w', Cfg K vars nt O w0 ρ F' s' a' w' → Q e.on a' w') → WL P vars nt l Q a w := by
  intro l
  induction l with
  | nil => intro F F' a s s' w e hC hex hQ; cases hex; exact hQ a w hC
  | cons v r ih =>
    intro F F' a s s' w e hC hex hQ
    show W P vars nt v _ a w
    rcases norm_ok (show (exec bd call fu v F s).norm (execL bd call fu r) = .ok e F' s' from hex) with ⟨F1, s1, h1, h2⟩ | ⟨h1, h2⟩
    · exact W_run hbd hm hcall hC h1 fun a' w' hC' => ih hC' h2 hQ
    · refine W_run hbd hm hcall hC h2 fun a' w' hC' => ?_
      have := hQ a' w' hC'
      cases e with
      | normal => exact absurd rfl h1
      | exit id => exact this
      | ret => exact this
/-- the elements of an argument, as far as they are wanted: told anew -/
theorem Cfg.fill {K : List (Nat × Nat × Nat × Nat)} {O : Nat → Prop} {w0 : World} {ρ : Nat → Int} {F : LF} {s : St} {a : Act} {w : World} (h : Cfg K vars nt O w0 ρ F s a w) {b B δ z i n base : Nat} {x : AI} (hp : (b, B, δ, z) ∈ K) (hg : s.heap.get b = some (.cells [] .ro)) (hi : nthO F i = some (markV b 0 x 1))
    (hB : B < w0.heap.size) (hO : ¬ O B) {cs : Array Value} {t : TypeId} {fz : Nat × Nat} (hw : w0.heap[B]? = some (.cells cs t fz)) (hx : ∀ i, i < n → ∃ x, cs[i + δ]? = some (.int .i64 x) ∧ x = IntKind.i64.wrap (ρ (base + i))) (hn : n + δ ≤ z) (hlen : ∀ len : Nat, IR ρ .i64 x (len : Int) → n ≤ len) :
    Cfg K vars nt O w0 ρ (setN F i (some (markV b n x 1))) (s.put b (some (.cells (symLI n base) .ro))) a w := by
  obtain ⟨E, hF, hH, hR, hK⟩ := h
  obtain ⟨hE, hlt⟩ := hK _ hp
  refine ⟨E, ⟨fun k j v hj hv => ?_, hF.size, hF.defers⟩, ⟨fun b' c k hb => ?_, fun b' es hb => ?_, fun b1 b2 c c' k k' B' δ1 z1 δ2 z2 hne hb1 hb2 he1 he2 hk => ?_, fun b1 b2 es es' B' hne hb1 hb2 => ?_, fun b' hb => hH.dom b' hb⟩, ⟨hR.frame, fun B' hB' => hR.own B' ?_, hR.os, hR.tape, hR.output, hR.size⟩, hK⟩
  · rw [nthO_eq, setN_eq, List.getElem?_set] at hv
    by_cases hij : i = j
    · subst hij
      simp only [if_true] at hv
      split at hv
      · simp at hv
        subst hv
        have := hF.ok k i _ hj hi
        obtain ⟨B1, δ1, z1, len, cap, e1, e2, e3, e4, e5, e6⟩ := mark_inv this
        rw [e1]
        exact .arg e2 e3 (hlen len e3) e5 e6
      · cases hv
    · rw [if_neg hij] at hv
      exact hF.ok k j v hj (by rw [nthO_eq]; exact hv)
  · rw [St.m_put] at hb
    split at hb
    · rename_i hbb
      subst hbb
      cases hb
      obtain ⟨B1, δ1, z1, cs1, t1, fz1, q1, q2, q3, q4, q5, q6⟩ := hH.cells b' [] .ro hg
      have hq : some (B1, δ1, z1) = some (B, δ, z) := q1.symm.trans hE
      cases hq
      have hww : w.heap[B]? = some (.cells cs t fz) := (hR.frame B hB hO).trans hw
      rw [hww] at q2
      cases q2
      refine ⟨B, δ, z, cs, t, fz, hE, hww, q3, .inl rfl, by rw [symLI_length]; omega, fun j v hj => ?_⟩
      obtain ⟨g1, rfl⟩ := symLI_get _ _ _ _ hj
      obtain ⟨y, y1, y2⟩ := hx j g1
      exact ⟨_, y1, .int (ir_sym y2), rfl⟩
    · exact hH.cells b' c k hb
  · rw [St.m_put] at hb
    split at hb
    · cases hb
    · exact hH.maps b' es hb
  · rw [St.m_put] at hb1 hb2
    by_cases h1 : b1 = b
    · rw [if_pos h1] at hb1
      cases hb1
      exact absurd rfl hk
    · rw [if_neg h1] at hb1
      by_cases h2 : b2 = b
      · rw [if_pos h2] at hb2
        cases hb2
        subst h2
        have := (hH.apart b1 b2 c [] k .ro B' δ1 z1 δ2 z2 hne hb1 hg he1 he2 hk).2
        cases this
      · rw [if_neg h2] at hb2
        exact hH.apart b1 b2 c c' k k' B' δ1 z1 δ2 z2 hne hb1 hb2 he1 he2 hk
  · rw [St.m_put] at hb1 hb2
    split at hb1
    · cases hb1
    · split at hb2
      · cases hb2
      · exact hH.mapart b1 b2 es es' B' hne hb1 hb2
  · obtain ⟨b', ⟨c, k, δ', z', hb, hk, he⟩ | ⟨es, hb, he⟩⟩ := hB'
    · rw [St.m_put] at hb
      split at hb
      · cases hb; exact absurd rfl hk
      · exact ⟨b', .inl ⟨c, k, δ', z', hb, hk, he⟩⟩
    · rw [St.m_put] at hb
      split at hb
      · cases hb
      · exact ⟨b', .inr ⟨es, hb, he⟩⟩
end
/-- a law's end: true -/
def endQ (K : List (Nat × Nat × Nat × Nat)) (vs : List Nat) (nt : Nat) (w : World) (r : List RV) : Exit → Act → World → Prop := fun e a' w' => (e = .normal ∨ e = .ret) ∧ ∃ ρ' F' s', Cfg K vs nt (fun _ => False) w ρ' F' s' a' w' ∧ results s' F' r = some [.bool true]
/-- A LAW, piece by piece -/
theorem law_W {ρ : Nat → Int} {P : Program} {f : Nat} {np : Nat} {vs : List Nat} {c : VC} {r : List RV} (hE : EntryOk ρ P f (.code np vs c r)) {args : List AV} {vals : List Value} {E0 : Env} {s0 : St} {w : World} (hH : HR ρ E0 s0.m w) (hO : ∀ B, ¬ Own E0 s0.m B) (hv : VRs ρ E0 args vals) (hlen : args.length = np) {K : List (Nat × Nat × Nat × Nat)} (hK : ∀ p ∈ K, E0.blk p.1 = some p.2 ∧ p.1 < s0.next)
    (hW : ∀ nt a, Cfg K vs nt (fun _ => False) w ρ (frame args vs) s0 a w → W P vs nt c (endQ K vs nt w r) a w) :
    Calls P f vals.toArray w fun e w' => e = .returned (.bool true) ∧ Below w.heap.size w w' := by
  obtain ⟨fn, hf, hco⟩ := hE
  have hvl := hv.length
  unfold coFn at hco
  split at hco
  case h_2 => cases hco
  case h_1 body hb =>
  dsimp only at hco
  split at hco
  case isFalse => cases hco
  case isTrue hchk =>
  split at hco
  case h_2 => cases hco
  case h_1 rs hres =>
  simp only [Option.some.injEq, VF.code.injEq] at hco
  obtain ⟨hnp, _, rfl, rfl⟩ := hco
  simp only [Bool.and_eq_true, beq_iff_eq, Bool.not_eq_true'] at hchk
  obtain ⟨⟨⟨hk1, hk2⟩, hk3⟩, hk4⟩ := hchk
  have hk2' := Nat.le_of_ble_eq_true hk2
  have hfr : FrOk ρ E0 vs fn.ntmps (frame args vs) { tmps := vals.toArray ++ Array.replicate (fn.ntmps - vals.toArray.size) undef, defers := [] } := by
    refine ⟨fun k i v hi hv' => ?_, ?_, rfl⟩
    · obtain ⟨g1, g2⟩ := frame_get args vs i v hv'
      obtain ⟨x, x1, x2⟩ := hv.get i v g1
      have hi' := lt_of_getL g1
      have hki := idxV_get hi
      have : k = i := by
        have e : (vs.take (fn.params.size + fn.nfree))[i]? = some k := by rw [List.getElem?_take, if_pos (by omega)]; exact hki
        rw [hk1, List.getElem?_range (by omega)] at e
        cases e; rfl
      subst this
      have hkl : k < vals.length := by omega
      have e : (vals.toArray ++ Array.replicate (fn.ntmps - vals.toArray.size) undef)[k]? = some x := by
        rw [Array.getElem?_append_left (by simpa using hkl)]; simpa using x1
      show VR ρ E0 v ((vals.toArray ++ Array.replicate (fn.ntmps - vals.toArray.size) undef).getD k undef)
      rw [Array.getD_eq_getD_getElem?, e]
      exact x2
    · simp; omega
  refine calls_of_wp hf hb ?_
  refine wp_mono (hW fn.ntmps _ ⟨E0, hfr, hH, ⟨fun _ _ _ => rfl, fun B hB => absurd hB (hO B), rfl, rfl, rfl, Nat.le_refl _⟩, hK⟩ body rfl) ?_
  rintro e a' w' ⟨he, ρ', F', s', ⟨E', hF', hH', hR, _⟩, hr⟩
  obtain ⟨x, x1, x2⟩ := results_ok hF' hH' hres hr
  cases x1
  have hb' : Below w.heap.size w w' := ⟨hR.os, hR.tape, hR.output, hR.size, fun k hk => hR.frame k hk (fun h => h)⟩
  rcases he with rfl | rfl
  · exact ⟨hF'.defers, .bool true, x2, rfl, hb'⟩
  · exact ⟨hF'.defers, .bool true, x2, rfl, hb'⟩
/-! ## what stands anew for what: by looking -/
noncomputable def addσ (p : Nat × IntKind × AI) (σ : List (Nat × IntKind × AI)) : List (Nat × IntKind × AI) := Option.casesOn (lkS σ p.1) (p :: σ) fun _ => σ
noncomputable def addπ (p : Nat × Nat) (π : List (Nat × Nat)) : List (Nat × Nat) := Option.casesOn (lkB π p.1) (p :: π) fun _ => π
noncomputable def uAI (k : IntKind) (new old : AI) (σ : List (Nat × IntKind × AI)) : List (Nat × IntKind × AI) := match new with
  | .s [p] _ => addσ (p.1, k, old) σ
  | _ => σ
noncomputable def uS (x y : AV) (u : List (Nat × IntKind × AI) × List (Nat × Nat)) : List (Nat × IntKind × AI) × List (Nat × Nat) := match x, y with
  | .int k a, .int _ b => (uAI k a b u.1, u.2)
  | .ptr a _, .ptr c _ => (u.1, addπ (a, c) u.2)
  | .sl a _ _ _ _ _, .sl a' _ _ _ _ _ => (u.1, addπ (a, a') u.2)
  | .iface 0 (.agg [.tup [.ptr b _, .int .i64 x, _]]), .iface 0 (.agg [.tup [.ptr b' _, .int .i64 x', _]]) => (uAI .i64 x x' u.1, addπ (b, b') u.2)
  | _, _ => u
noncomputable def uSs : List AV → List AV → List (Nat × IntKind × AI) × List (Nat × Nat) → List (Nat × IntKind × AI) × List (Nat × Nat)
  | x :: a, y :: b, u => uSs a b (uS x y u)
  | _, _, u => u
noncomputable def uV (x y : AV) (u : List (Nat × IntKind × AI) × List (Nat × Nat)) : List (Nat × IntKind × AI) × List (Nat × Nat) := match x, y with
  | .agg a, .agg b => uSs a b u
  | .tup a, .tup b => uSs a b u
  | x, y => uS x y u
noncomputable def uF : LF → LF → List (Nat × IntKind × AI) × List (Nat × Nat) → List (Nat × IntKind × AI) × List (Nat × Nat)
  | some x :: a, some y :: b, u => uF a b (uV x y u)
  | _ :: a, _ :: b, u => uF a b u
  | _, _, u => u
/-- the blocks, in order of their new numbers (n of them): those that are known by then -/
noncomputable def uH (s' s : St) : Nat → Nat → List (Nat × IntKind × AI) × List (Nat × Nat) → List (Nat × IntKind × AI) × List (Nat × Nat)
  | 0, _, u => u
  | n + 1, b, u => uH s' s n (b + 1) (Option.casesOn (lkB u.2 b) u fun c => match s'.heap.get b, s.heap.get c with
    | some (.cells x _), some (.cells y _) => uSs x y u
    | _, _ => u)
/-- signs from lo to hi are new, the others stand for themselves -/
noncomputable def okS (lo hi : Nat) : List (Nat × IntKind × AI) → Bool
  | [] => true
  | p :: r => cnd (Nat.ble lo p.1 && Nat.blt p.1 hi) (Nat.beq (ik p.2.1) 3 && AI.casesOn p.2.2 (fun n => inK .i64 n n) fun _ _ => true) (Nat.beq (ik p.2.1) 3 && sameAI p.2.2 (.s [(p.1, 1)] 0)) && okS lo hi r
theorem wrapI (n : Int) : -9223372036854775808 ≤ IntKind.i64.wrap n ∧ IntKind.i64.wrap n ≤ 9223372036854775807 := by
  simp [IntKind.wrap, IntKind.signed, IntKind.bits]
  refine ⟨?_, ?_⟩ <;> (try split) <;> omega
theorem okS_ok {lo hi : Nat} {ρ : Nat → Int} (hρ : ∀ x, -9223372036854775808 ≤ ρ x ∧ ρ x ≤ 9223372036854775807) : ∀ {σ : List (Nat × IntKind × AI)}, okS lo hi σ = true → (∀ x, -9223372036854775808 ≤ rhoW σ ρ x ∧ rhoW σ ρ x ≤ 9223372036854775807) ∧ ∀ x, ¬ (lo ≤ x ∧ x < hi) → rhoW σ ρ x = ρ x := by
  intro σ h
  have key : ∀ {σ : List (Nat × IntKind × AI)}, okS lo hi σ = true → ∀ x q, lkS σ x = some q → q.1 = .i64 ∧ (-9223372036854775808 ≤ valA ρ q.1 q.2 ∧ valA ρ q.1 q.2 ≤ 9223372036854775807) ∧ (¬ (lo ≤ x ∧ x < hi) → valA ρ q.1 q.2 = ρ x) := by
    intro σ
    induction σ with
    | nil => intro _ x q hq; cases hq
    | cons p r ih =>
      intro h x q hq
      simp only [okS, Bool.and_eq_true] at h
      simp only [lkS] at hq
      rw [cnd_eq] at hq
      split at hq
      · rename_i hpx
        have hpx := Nat.eq_of_beq_eq_true hpx
        cases hq
        obtain ⟨py, pk, pa⟩ := p
        simp only at hpx
        subst hpx
        obtain ⟨h1, _⟩ := h
        rw [cnd_eq] at h1
        split at h1
        · rename_i hr
          simp only [Bool.and_eq_true, Nat.ble_eq, Nat.blt_eq] at hr
          simp only [Bool.and_eq_true] at h1
          have hk : pk = .i64 := ik_inj (k := .i64) h1.1
          subst hk
          refine ⟨rfl, ?_, fun hn => absurd hr hn⟩
          cases pa with
          | c n =>
            have h2 := h1.2
            simp only [inK, Bool.and_eq_true, decide_eq_true_eq] at h2
            exact h2
          | s ts d => exact wrapI _
        · simp only [Bool.and_eq_true] at h1
          have hk : pk = .i64 := ik_inj (k := .i64) h1.1
          subst hk
          have ha := sameAI_eq h1.2
          subst ha
          refine ⟨rfl, wrapI _, fun _ => ?_⟩
          show IntKind.i64.wrap (lin ρ [(py, 1)] + 0) = ρ py
          simp only [lin]
          rw [show 1 * ρ py + 0 + 0 = ρ py by omega]
          exact wrap_in (k := .i64) (hρ py).1 (hρ py).2
      · exact ih h.2 x q hq
  refine ⟨fun x => ?_, fun x hx => ?_⟩
  · unfold rhoW
    cases hl : lkS σ x with
    | none => exact hρ x
    | some q => exact (key h x q hl).2.1
  · unfold rhoW
    cases hl : lkS σ x with
    | none => rfl
    | some q => exact (key h x q hl).2.2 hx
/-- does a run come to this frame and memory, forgetting the rest? -/
noncomputable def toC (lo hi top : Nat) (F' : LF) (s' : St) (K : List Nat) (r : Rs) : Bool := match r with
  | .ok .normal F s => (fun u => weak u.1 u.2 top F' F s' s && pinB u.2 s' K && okS lo hi u.1) (uH s' s top 0 (uF F' F ([], [])))
  | _ => false
theorem toC_ok {lo hi top : Nat} {F' : LF} {s' : St} {K : List Nat} {r : Rs} (h : toC lo hi top F' s' K r = true) : ∃ F s σ π, r = .ok .normal F s ∧ weak σ π top F' F s' s = true ∧ pinB π s' K = true ∧ okS lo hi σ = true := by
  unfold toC at h
  split at h
  · rename_i F s
    simp only [Bool.and_eq_true] at h
    exact ⟨F, s, _, _, rfl, h.1.1, h.1.2, h.2⟩
  · cases h
/-- the like, where more is asked of what stands for what -/
noncomputable def toX (lo hi top : Nat) (F' : LF) (s' : St) (K : List Nat) (chk : List (Nat × IntKind × AI) → Bool) (r : Rs) : Bool := match r with
  | .ok .normal F s => (fun u => weak u.1 u.2 top F' F s' s && pinB u.2 s' K && okS lo hi u.1 && chk u.1) (uH s' s top 0 (uF F' F ([], [])))
  | _ => false
theorem toX_ok {lo hi top : Nat} {F' : LF} {s' : St} {K : List Nat} {chk : List (Nat × IntKind × AI) → Bool} {r : Rs} (h : toX lo hi top F' s' K chk r = true) : ∃ F s σ π, r = .ok .normal F s ∧ weak σ π top F' F s' s = true ∧ pinB π s' K = true ∧ okS lo hi σ = true ∧ chk σ = true := by
  unfold toX at h
  split at h
  · rename_i F s
    simp only [Bool.and_eq_true] at h
    exact ⟨F, s, _, _, rfl, h.1.1.1, h.1.1.2, h.1.2, h.2⟩
  · cases h
/-- a sign that stands for nothing that is told: it may be chosen anew -/
noncomputable def noS (σ : List (Nat × IntKind × AI)) (x : Nat) : Bool := Option.casesOn (lkS σ x) true fun _ => false
theorem noS_ok {σ : List (Nat × IntKind × AI)} {x : Nat} (h : noS σ x = true) : lkS σ x = none := by
  unfold noS at h
  cases hl : lkS σ x with
  | none => rfl
  | some q => rw [hl] at h; cases h
/-- signs that may be chosen anew, chosen -/
theorem upd_is {σ : List (Nat × IntKind × AI)} {ρ ρ' : Nat → Int} (h : ∀ x, lkS σ x = none ∨ ρ' x = rhoW σ ρ x) : ∀ x q, lkS σ x = some q → ρ' x = valA ρ q.1 q.2 := fun x q hq => by
  rcases h x with h | h
  · rw [h] at hq; cases hq
  · rw [h]; exact rhoW_is x q hq
/-- what a sign stands for -/
noncomputable def isS (σ : List (Nat × IntKind × AI)) (x : Nat) (a : AI) : Bool := Option.casesOn (lkS σ x) false fun q => Nat.beq (ik q.1) 3 && sameAI q.2 a
theorem isS_ok {σ : List (Nat × IntKind × AI)} {x : Nat} {a : AI} (h : isS σ x a = true) (ρ : Nat → Int) : rhoW σ ρ x = valA ρ .i64 a := by
  unfold isS at h
  unfold rhoW
  cases hl : lkS σ x with
  | none => rw [hl] at h; cases h
  | some q =>
    rw [hl] at h
    simp only [Bool.and_eq_true] at h
    obtain ⟨k, b⟩ := q
    have hk : k = .i64 := ik_inj (k := .i64) h.1
    subst hk
    have := sameAI_eq h.2
    simp only at this
    subst this
    rfl
/-- does it end with true? -/
noncomputable def endT (res : List RV) (r : Rs) : Bool := match r with
  | .ok e F s => Ex.casesOn (motive := fun _ => Bool) e true (fun _ => false) true && (match results s F res with
    | some [.bool b] => b
    | _ => false)
  | _ => false
theorem endT_ok {res : List RV} {r : Rs} (h : endT res r = true) : ∃ e F s, r = .ok e F s ∧ (e.on = .normal ∨ e.on = .ret) ∧ results s F res = some [.bool true] := by
  unfold endT at h
  split at h
  · rename_i e F s
    simp only [Bool.and_eq_true] at h
    refine ⟨e, F, s, rfl, ?_, ?_⟩
    · cases e with
      | normal => exact .inl rfl
      | ret => exact .inr rfl
      | exit id => exact absurd h.1 (by intro h'; cases h')
    · have h2 := h.2
      split at h2
      · rename_i b hb; subst h2; exact hb
      · cases h2
  · cases h
/-- out of a block by its exit, then to the end -/
noncomputable def exT (id : Nat) (res : List RV) (bd : Bd) (call : FuncId → List AV → St → Out) (fu : Nat) (post : List VC) (r : Rs) : Bool := match r with
  | .ok (.exit j) F s => Nat.beq j id && endT res (execL bd call fu post F s)
  | _ => false
theorem exT_ok {id : Nat} {res : List RV} {bd : Bd} {call : FuncId → List AV → St → Out} {fu : Nat} {post : List VC} {r : Rs} (h : exT id res bd call fu post r = true) : ∃ F s, r = .ok (.exit id) F s ∧ endT res (execL bd call fu post F s) = true := by
  unfold exT at h
  split at h
  · rename_i j F s
    simp only [Bool.and_eq_true] at h
    obtain rfl := Nat.eq_of_beq_eq_true h.1
    exact ⟨F, s, rfl, h.2⟩
  · cases h
/-- out of a block by its exit, and on -/
noncomputable def exN (id : Nat) (bd : Bd) (call : FuncId → List AV → St → Out) (fu : Nat) (mid : List VC) (r : Rs) : Rs := match r with
  | .ok (.exit j) F s => cnd (Nat.beq j id) (execL bd call fu mid F s) (.bad 0 [])
  | _ => .bad 0 []
theorem exN_ok {id : Nat} {bd : Bd} {call : FuncId → List AV → St → Out} {fu : Nat} {mid : List VC} {r : Rs} {e : Ex} {F' : LF} {s' : St} (h : exN id bd call fu mid r = .ok e F' s') : ∃ F s, r = .ok (.exit id) F s ∧ execL bd call fu mid F s = .ok e F' s' := by
  unfold exN at h
  split at h
  · rename_i j F s
    rw [cnd_eq] at h
    split at h
    · rename_i hj
      obtain rfl := Nat.eq_of_beq_eq_true hj
      exact ⟨F, s, rfl, h⟩
    · cases h
  · cases h
/-- bounds: some signs', told one by one; else any -/
noncomputable def bO (ov : List (Nat × Int × Int)) (x : Nat) : Int × Int := match ov with
  | [] => (-9223372036854775808, 9223372036854775807)
  | p :: r => cnd (Nat.beq p.1 x) p.2 (bO r x)
theorem bO_ok {ρ : Nat → Int} (hρ : ∀ x, -9223372036854775808 ≤ ρ x ∧ ρ x ≤ 9223372036854775807) : ∀ {ov : List (Nat × Int × Int)}, (∀ p ∈ ov, p.2.1 ≤ ρ p.1 ∧ ρ p.1 ≤ p.2.2) → ∀ x, (bO ov x).1 ≤ ρ x ∧ ρ x ≤ (bO ov x).2 := by
  intro ov
  induction ov with
  | nil => intro _ x; exact hρ x
  | cons p r ih =>
    intro h x
    simp only [bO, cnd_eq]
    split
    · rename_i hp
      have hp := Nat.eq_of_beq_eq_true hp
      rw [← hp]; exact h p List.mem_cons_self
    · exact ih (fun q hq => h q (List.mem_cons_of_mem _ hq)) x
/-- two arguments: blocks whose cells are not looked at yet -/
def env2 (B δ z B' δ' z' : Nat) : Env := ⟨fun b => if b = 0 then some (B, δ, z) else if b = 1 then some (B', δ', z') else none, fun _ => none⟩
noncomputable def st2 : St := ⟨.n (.n .e (some (.cells [] .ro)) .e) (some (.cells [] .ro)) .e, 2⟩
theorem st2_get (j : Nat) : st2.m.g j = if j < 2 then some (.cells [] .ro) else none := by
  match j with
  | 0 => rfl
  | 1 => rfl
  | j + 2 =>
    rw [if_neg (by omega)]
    show Tr.get (Tr.n (Tr.n Tr.e (some (AB.cells [] .ro)) Tr.e) (some (AB.cells [] .ro)) Tr.e) (j + 1 + 1) = none
    rw [Tr.get_succ]
    split
    · have : ∃ m, (j + 1) / 2 = m + 1 ∨ (j + 1) / 2 = 0 := ⟨(j + 1) / 2 - 1, by omega⟩
      obtain ⟨m, hm | hm⟩ := this
      · rw [hm, Tr.get_succ]; split <;> rfl
      · exfalso; omega
    · rfl
theorem hr2 {ρ : Nat → Int} {B δ z B' δ' z' : Nat} {w : World} {cs cs' : Array Value} {t t' : TypeId} {fz fz' : Nat × Nat} (hw : w.heap[B]? = some (.cells cs t fz)) (hz : cs.size = z) (hn : δ ≤ z) (hw' : w.heap[B']? = some (.cells cs' t' fz')) (hz' : cs'.size = z') (hn' : δ' ≤ z') : HR ρ (env2 B δ z B' δ' z') st2.m w := by
  refine ⟨fun b c k hb => ?_, fun b es hb => ?_, fun b1 b2 c c' k k' B1 δ1 z1 δ2 z2 hne hb1 hb2 _ _ hk => ?_, fun b1 b2 es es' B1 _ hb1 => ?_, fun b hb => ?_⟩
  · rw [st2_get] at hb
    split at hb
    · rename_i hlt
      cases hb
      rcases (show b = 0 ∨ b = 1 by omega) with rfl | rfl
      · exact ⟨B, δ, z, cs, t, fz, rfl, hw, hz, .inl rfl, by simp; omega, fun i v hi => by simp at hi⟩
      · exact ⟨B', δ', z', cs', t', fz', rfl, hw', hz', .inl rfl, by simp; omega, fun i v hi => by simp at hi⟩
    · cases hb
  · rw [st2_get] at hb
    split at hb <;> cases hb
  · rw [st2_get] at hb1
    split at hb1
    · cases hb1; exact absurd rfl hk
    · cases hb1
  · rw [st2_get] at hb1
    split at hb1 <;> cases hb1
  · have : 2 ≤ b := hb
    exact ⟨by show (if b = 0 then _ else if b = 1 then _ else none) = none; rw [if_neg (by omega), if_neg (by omega)], rfl⟩
theorem own2 {B δ z B' δ' z' : Nat} (k : Nat) : ¬ Own (env2 B δ z B' δ' z') st2.m k := by
  rintro ⟨j, ⟨c, kd, δ1, z1, h, h2, _⟩ | ⟨es, h, _⟩⟩
  · rw [st2_get] at h
    split at h
    · cases h; exact h2 rfl
    · cases h
  · rw [st2_get] at h
    split at h <;> cases h
end Go.Vm
