/- The law VintZigs returns true for every input, and leaves what was there as it was. -/
import Derived.Test.YtmbimlnanfholaaVintZigsRun
import Derived.Test.YtmbimlnanfholaaVintZigsIn
import Derived.WalkKit
import Derived.ProofKit
namespace Go.Proofs.Ytmbimlnanfholaa.vintZigsRun
open Go.Vm Go.RowKit
set_option linter.unusedVariables false
set_option linter.unusedSimpArgs false
set_option maxRecDepth 1000000
def zigN (n : Int) : Int := if n < 0 then -2 * n - 1 else 2 * n
theorem outI_some {o : Out} {n : AI} (h : outI o = some n) : ∃ s, o = .v (.int .i64 n) s := by
  cases o with
  | v x s =>
    cases x <;> simp only [outI, AV.onInt, reduceCtorEq] at h
    obtain ⟨h1, h2⟩ := cnd_some h
    cases h2
    rename_i k
    have : k = .i64 := by cases k <;> first | rfl | exact absurd h1 (by decide)
    subst this
    exact ⟨s, rfl⟩
  | u s => cases h
  | bad n t => cases h
theorem wr (x : Int) (h1 : -9223372036854775808 ≤ x) (h2 : x ≤ 9223372036854775807) : IntKind.i64.wrap x = x := wrap_in (k := .i64) h1 h2
theorem zig_ok (n : Int) (h1 : -2305843009213693952 ≤ n) (h2 : n < 2305843009213693952) (w : World) : Calls Try.prog 32 #[.int .i64 n] w fun e w' => e = .returned (.int .i64 (zigN n)) ∧ Below w.heap.size w w' := by
  let ρ : Nat → Int := fun i => if i = 10 then n + 2305843009213693952 else 0
  have q : ρ 10 = n + 2305843009213693952 := rfl
  have hh : EntryOk ρ Try.prog 13 (.hook (hookG [])) := hookG_entry (fn := Try.f13) Try.func13 rfl rfl (by intro p hp; cases hp)
  have hv : VRs ρ env0 [.int .i64 (.s [(10, 1)] (-2305843009213693952))] [.int .i64 n] := .cons (.int (by
    show n = IntKind.i64.wrap (lin ρ [(10, 1)] + (-2305843009213693952))
    simp only [lin, q]
    rw [wr _ (by omega) (by omega)]; omega)) .nil
  have main : ∀ (lo hi : Int) (x : AI), lo ≤ n + 2305843009213693952 → n + 2305843009213693952 ≤ hi → runZ lo hi = some x → (∀ y, IR ρ .i64 x y → y = zigN n) → Calls Try.prog 32 #[.int .i64 n] w fun e w' => e = .returned (.int .i64 (zigN n)) ∧ Below w.heap.size w w' := by
    intro lo hi x hlo hhi hx hy
    have hb : ∀ i, (bdz lo hi i).1 ≤ ρ i ∧ ρ i ≤ (bdz lo hi i).2 := by
      intro i
      simp only [bdz, cnd_eq, Nat.beq_eq, ρ]
      (repeat' split) <;> (try dsimp only) <;> omega
    obtain ⟨s', hs⟩ := outI_some hx
    have hG := calls_ok hb mixed (tab := (tab (.hook (hookG []))).get) (tab_all ρ _ hh).get 100 10 env0 32 _ _ st0 w (hr0 ρ w) hv
    rw [hs] at hG
    rcases hG with ⟨_, h⟩ | ⟨x, E', w', h, _⟩
    · refine h.mono ?_
      rintro e w' ⟨x, E', rfl, hx', hS⟩
      cases hx' with | int hx' =>
      rw [hy _ hx']
      exact ⟨rfl, hS.os, hS.tape, hS.output, hS.size, fun k hk => hS.frame k hk (own0 k)⟩
    · rw [enter_ok (fn := Try.f32) Try.func32 rfl rfl] at h; cases h
  by_cases h0 : n < 0
  · refine main _ _ _ (by omega) (by omega) zn fun y hy => ?_
    simp only [IR, lin, q] at hy
    rw [wr _ (by omega) (by omega)] at hy
    unfold zigN; rw [if_pos h0]; omega
  · refine main _ _ _ (by omega) (by omega) zp fun y hy => ?_
    simp only [IR, lin, q] at hy
    rw [wr _ (by omega) (by omega)] at hy
    unfold zigN; rw [if_neg h0]; omega
theorem hookZ_ok {ρ : Nat → Int} {call : FuncId → List AV → St → Out} (hc : CallsOk ρ Try.prog call) {Y B : AI} {n : Int} (h1 : -2305843009213693952 ≤ n) (h2 : n < 2305843009213693952) (hY : ∀ y, IR ρ .i64 Y y → y = n) (hB : IR ρ .i64 B (zigN n)) : EntryOk ρ Try.prog 32 (.act (hookZ call Y B)) := by
  intro E vs vals s w hH hv
  unfold hookZ
  split
  · rename_i y
    rw [cnd_eq]
    split
    · rename_i he
      obtain rfl := eqAI_eq he
      cases hv with | cons a1 a2 =>
      cases a2
      cases a1 with | int a1 =>
      obtain rfl := hY _ a1
      refine .inl ⟨enter_ok (fn := Try.f32) Try.func32 rfl rfl _ _, (zig_ok _ h1 h2 w).mono ?_⟩
      rintro e w' ⟨rfl, hB'⟩
      have kept : ∀ (B : Nat) (o : Obj), w.heap[B]? = some o → w'.heap[B]? = some o := fun B o ho => by
        rw [hB'.block B (lt_of_get ho)]; exact ho
      refine ⟨_, E, rfl, .int hB, .refl _, ⟨fun b c k hb => ?_, fun b es hb => ?_, hH.apart, hH.mapart, hH.dom⟩, fun B hB1 _ => hB'.block B hB1, fun B h => .inl h, hB'.os, hB'.tape, hB'.output, hB'.size, Nat.le_refl _, fun _ _ => ⟨rfl, rfl⟩, fun _ _ h => h, fun _ _ h => h⟩
      · obtain ⟨B, δ, z, cs, t, fz, q1, q2, q3⟩ := hH.cells b c k hb
        exact ⟨B, δ, z, cs, t, fz, q1, kept _ _ q2, q3⟩
      · obtain ⟨R, en, cl, q1, q2, q3⟩ := hH.maps b es hb
        exact ⟨R, en, cl, q1, kept _ _ q2, q3⟩
    · exact hc E 32 _ vals s w hH hv
  · exact hc E 32 _ vals s w hH hv
theorem walk (a0 a1 : Int) (w : World) (w0 : (Lit.int .i64 a0).wf = true) (w1 : (Lit.int .i64 a1).wf = true) : Calls Try.prog 8 #[.int .i64 a0, .int .i64 a1] w fun e w' => e = .returned (.bool true) ∧ Below w.heap.size w w' := by
  have c0 : -9223372036854775808 ≤ a0 ∧ a0 ≤ 9223372036854775807 := by simpa [Lit.wf, IntKind.min, IntKind.max, IntKind.signed, IntKind.bits] using w0
  have c1 : -9223372036854775808 ≤ a1 ∧ a1 ≤ 9223372036854775807 := by simpa [Lit.wf, IntKind.min, IntKind.max, IntKind.signed, IntKind.bits] using w1
  have hW0 := fun w => within a0 4611686018427387904 w0 (by omega) (by omega) w
  have hW1 := fun w => within a1 4611686018427387904 w1 (by omega) (by omega) w
  have b0 : 0 ≤ a0 % 4611686018427387904 ∧ a0 % 4611686018427387904 < 4611686018427387904 := by omega
  have b1 : 0 ≤ a1 % 4611686018427387904 ∧ a1 % 4611686018427387904 < 4611686018427387904 := by omega
  generalize a0 % 4611686018427387904 = r0 at hW0 b0
  generalize a1 % 4611686018427387904 = r1 at hW1 b1
  generalize hzn : zigN (r0 - 2305843009213693952) = za
  generalize hzm : zigN (r1 - 2305843009213693952) = zb
  have hza : r0 - 2305843009213693952 < 0 ∧ za = -2 * (r0 - 2305843009213693952) - 1 ∨ 0 ≤ r0 - 2305843009213693952 ∧ za = 2 * (r0 - 2305843009213693952) := by
    rw [← hzn]; unfold zigN; split <;> omega
  have hzb : r1 - 2305843009213693952 < 0 ∧ zb = -2 * (r1 - 2305843009213693952) - 1 ∨ 0 ≤ r1 - 2305843009213693952 ∧ zb = 2 * (r1 - 2305843009213693952) := by
    rw [← hzm]; unfold zigN; split <;> omega
  let ρ : Nat → Int := fun i => if i = 0 then a0 else if i = 1 then a1 else if i = 10 then r0 else if i = 11 then (if r0 < r1 then r1 - r0 - 1 else if r1 < r0 then r0 - r1 - 1 else 0) else if i = 12 then (if za < zb then zb - za - 1 else if zb < za then za - zb - 1 else 0) else 0
  have v0 : IntKind.i64.wrap a0 = a0 := wr _ c0.1 c0.2
  have v1 : IntKind.i64.wrap a1 = a1 := wr _ c1.1 c1.2
  have q0 : ρ 0 = a0 := rfl
  have q1 : ρ 1 = a1 := rfl
  have q10 : ρ 10 = r0 := rfl
  have q11 : ρ 11 = (if r0 < r1 then r1 - r0 - 1 else if r1 < r0 then r0 - r1 - 1 else 0) := rfl
  have q12 : ρ 12 = (if za < zb then zb - za - 1 else if zb < za then za - zb - 1 else 0) := rfl
  have hv : VRs ρ env0 [.int .i64 (.s [(0, 1)] 0), .int .i64 (.s [(1, 1)] 0)] [.int .i64 a0, .int .i64 a1] := .cons (.int (ir_sym (show a0 = IntKind.i64.wrap (ρ 0) from v0.symm))) (.cons (.int (ir_sym (show a1 = IntKind.i64.wrap (ρ 1) from v1.symm))) .nil)
  have fin : ∀ (X Y B : AI) (lo hi : Int), lo ≤ r0 → r0 ≤ hi → IR ρ .i64 X r1 → (∀ y, IR ρ .i64 Y y → y = r1 - 2305843009213693952) → IR ρ .i64 B zb → runz X Y B lo hi = true → Calls Try.prog 8 #[.int .i64 a0, .int .i64 a1] w fun e w' => e = .returned (.bool true) ∧ Below w.heap.size w w' := by
    intro X Y B lo hi hlo hhi hX hY hB hr
    have hb : ∀ i, (bdz lo hi i).1 ≤ ρ i ∧ ρ i ≤ (bdz lo hi i).2 := by
      intro i
      simp only [bdz, cnd_eq, Nat.beq_eq]
      by_cases i10 : i = 10
      · subst i10; rw [if_pos rfl]; exact ⟨hlo, hhi⟩
      · rw [if_neg i10]
        by_cases i11 : i = 11
        · subst i11; rw [if_pos rfl, q11]; dsimp only; (repeat' split) <;> omega
        · rw [if_neg i11]
          by_cases i12 : i = 12
          · subst i12; rw [if_pos rfl, q12]; dsimp only; (repeat' split) <;> omega
          · rw [if_neg i12]; simp only [ρ, i10, i11, i12, if_false]; (repeat' split) <;> (try dsimp only) <;> omega
    have hh : EntryOk ρ Try.prog 13 (.hook (hookG (hkz X))) := by
      refine hookG_entry (fn := Try.f13) Try.func13 rfl rfl ?_
      intro p hp x y hx hy w
      simp only [hkz, List.mem_cons, List.not_mem_nil, or_false] at hp
      rcases hp with rfl | rfl <;> (have hx := ir_inv hx) <;> (simp only [IR] at hy) <;> subst hy
      · rw [q0, v0] at hx; subst hx
        exact ⟨_, ir_sym (by rw [q10]; exact (wr _ (by omega) (by omega)).symm), (hW0 w).mono fun e w' h => ⟨h.1, by rw [h.2]; exact Below.refl _ _⟩⟩
      · rw [q1, v1] at hx; subst hx
        exact ⟨_, hX, (hW1 w).mono fun e w' h => ⟨h.1, by rw [h.2]; exact Below.refl _ _⟩⟩
    have hg := hookZ_ok (ρ := ρ) (Y := Y) (B := B) (calls_ok hb mixed (tab := (tab (.hook (hookG (hkz X)))).get) (tab_all ρ _ hh).get 100 10) (n := r1 - 2305843009213693952) (by omega) (by omega) hY (by rw [hzm]; exact hB)
    exact law_ok hb mixed (tab2_all ρ _ hh _ hg) rfl hv hr w
  have ir : ∀ (ts : List (Nat × Int)) (d x : Int), -9223372036854775808 ≤ x → x ≤ 9223372036854775807 → lin ρ ts + d = x → IR ρ .i64 (.s ts d) x := fun ts d x h1 h2 h => by
    show x = IntKind.i64.wrap (lin ρ ts + d)
    rw [h, wr _ h1 h2]
  have ir' : ∀ (ts : List (Nat × Int)) (d x : Int), -9223372036854775808 ≤ x → x ≤ 9223372036854775807 → lin ρ ts + d = x → ∀ y, IR ρ .i64 (.s ts d) y → y = x := fun ts d x h1 h2 h y hy => by
    have hy : y = IntKind.i64.wrap (lin ρ ts + d) := hy
    rw [hy, h, wr _ h1 h2]
  by_cases hs : r0 < 2305843009213693952
  · rcases Int.lt_trichotomy r0 r1 with hc | hc | hc
    · have p11 : ρ 11 = r1 - r0 - 1 := by rw [q11]; rw [if_pos hc]
      rcases Int.lt_trichotomy za zb with hd | hd | hd
      · have p12 : ρ 12 = zb - za - 1 := by rw [q12, if_pos hd]
        exact fin _ _ _ _ _ (by omega) (by omega) (ir _ _ _ (by omega) (by omega) (by simp only [lin, q10, p11]; omega)) (ir' _ _ _ (by omega) (by omega) (by simp only [lin, q10, p11]; omega)) (ir _ _ _ (by omega) (by omega) (by simp only [lin, q10, p12]; omega)) rnll
      · omega
      · have p12 : ρ 12 = za - zb - 1 := by rw [q12, if_neg (by omega), if_pos hd]
        exact fin _ _ _ _ _ (by omega) (by omega) (ir _ _ _ (by omega) (by omega) (by simp only [lin, q10, p11]; omega)) (ir' _ _ _ (by omega) (by omega) (by simp only [lin, q10, p11]; omega)) (ir _ _ _ (by omega) (by omega) (by simp only [lin, q10, p12]; omega)) rnlg
    · subst hc
      exact fin _ _ _ _ _ (by omega) (by omega) (ir _ _ _ (by omega) (by omega) (by simp only [lin, q10]; omega)) (ir' _ _ _ (by omega) (by omega) (by simp only [lin, q10]; omega)) (ir _ _ _ (by omega) (by omega) (by simp only [lin, q10]; omega)) rnee
    · have p11 : ρ 11 = r0 - r1 - 1 := by rw [q11]; rw [if_neg (by omega), if_pos hc]
      rcases Int.lt_trichotomy za zb with hd | hd | hd
      · have p12 : ρ 12 = zb - za - 1 := by rw [q12, if_pos hd]
        exact fin _ _ _ _ _ (by omega) (by omega) (ir _ _ _ (by omega) (by omega) (by simp only [lin, q10, p11]; omega)) (ir' _ _ _ (by omega) (by omega) (by simp only [lin, q10, p11]; omega)) (ir _ _ _ (by omega) (by omega) (by simp only [lin, q10, p12]; omega)) rngl
      · omega
      · have p12 : ρ 12 = za - zb - 1 := by rw [q12, if_neg (by omega), if_pos hd]
        exact fin _ _ _ _ _ (by omega) (by omega) (ir _ _ _ (by omega) (by omega) (by simp only [lin, q10, p11]; omega)) (ir' _ _ _ (by omega) (by omega) (by simp only [lin, q10, p11]; omega)) (ir _ _ _ (by omega) (by omega) (by simp only [lin, q10, p12]; omega)) rngg
  · rcases Int.lt_trichotomy r0 r1 with hc | hc | hc
    · have p11 : ρ 11 = r1 - r0 - 1 := by rw [q11]; rw [if_pos hc]
      rcases Int.lt_trichotomy za zb with hd | hd | hd
      · have p12 : ρ 12 = zb - za - 1 := by rw [q12, if_pos hd]
        exact fin _ _ _ _ _ (by omega) (by omega) (ir _ _ _ (by omega) (by omega) (by simp only [lin, q10, p11]; omega)) (ir' _ _ _ (by omega) (by omega) (by simp only [lin, q10, p11]; omega)) (ir _ _ _ (by omega) (by omega) (by simp only [lin, q10, p12]; omega)) rpll
      · omega
      · have p12 : ρ 12 = za - zb - 1 := by rw [q12, if_neg (by omega), if_pos hd]
        exact fin _ _ _ _ _ (by omega) (by omega) (ir _ _ _ (by omega) (by omega) (by simp only [lin, q10, p11]; omega)) (ir' _ _ _ (by omega) (by omega) (by simp only [lin, q10, p11]; omega)) (ir _ _ _ (by omega) (by omega) (by simp only [lin, q10, p12]; omega)) rplg
    · subst hc
      exact fin _ _ _ _ _ (by omega) (by omega) (ir _ _ _ (by omega) (by omega) (by simp only [lin, q10]; omega)) (ir' _ _ _ (by omega) (by omega) (by simp only [lin, q10]; omega)) (ir _ _ _ (by omega) (by omega) (by simp only [lin, q10]; omega)) rpee
    · have p11 : ρ 11 = r0 - r1 - 1 := by rw [q11]; rw [if_neg (by omega), if_pos hc]
      rcases Int.lt_trichotomy za zb with hd | hd | hd
      · have p12 : ρ 12 = zb - za - 1 := by rw [q12, if_pos hd]
        exact fin _ _ _ _ _ (by omega) (by omega) (ir _ _ _ (by omega) (by omega) (by simp only [lin, q10, p11]; omega)) (ir' _ _ _ (by omega) (by omega) (by simp only [lin, q10, p11]; omega)) (ir _ _ _ (by omega) (by omega) (by simp only [lin, q10, p12]; omega)) rpgl
      · omega
      · have p12 : ρ 12 = za - zb - 1 := by rw [q12, if_neg (by omega), if_pos hd]
        exact fin _ _ _ _ _ (by omega) (by omega) (ir _ _ _ (by omega) (by omega) (by simp only [lin, q10, p11]; omega)) (ir' _ _ _ (by omega) (by omega) (by simp only [lin, q10, p11]; omega)) (ir _ _ _ (by omega) (by omega) (by simp only [lin, q10, p12]; omega)) rpgg
end Go.Proofs.Ytmbimlnanfholaa.vintZigsRun
