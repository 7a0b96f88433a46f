/- Numbers that a function gives, by its two numbers as they are written; how the law is run. -/
import Derived.Test.YtkibmjcooffglaaEndChecksTab
namespace Go.Proofs.Ytkibmjcooffglaa.endChecksRun
open Go.Vm Go.RowKit
set_option linter.unusedVariables false
set_option linter.unusedSimpArgs false
set_option maxRecDepth 1000000
/-- are two numbers one, as they are written? -/
noncomputable def eqAI (x y : AI) : Bool := AI.casesOn x (fun a => AI.casesOn y (fun b => decide (a = b)) fun _ _ => false) fun i d => AI.casesOn y (fun _ => false) fun j e => sameT i j && decide (d = e)
theorem eqAI_eq {x y : AI} (h : eqAI x y = true) : x = y := by
  cases x with
  | c a => cases y with
    | c b => simp only [eqAI, decide_eq_true_eq] at h; rw [h]
    | s j e => cases h
  | s i d => cases y with
    | c b => cases h
    | s j e =>
      simp only [eqAI, Bool.and_eq_true, decide_eq_true_eq] at h
      obtain ⟨h1, rfl⟩ := h
      rw [sameT_eq h1]
/-- numbers that a function of two numbers gives -/
noncomputable def hookG : List (AI × AI × AI) → List AV → Option AV
  | [], _ => none
  | p :: r, args => match args with
    | [.int .i64 x, .int .i64 y] => cnd (eqAI x p.1 && eqAI y p.2.1) (some (.int .i64 p.2.2)) (hookG r args)
    | _ => none
theorem hookG_ok {l : List (AI × AI × AI)} {vs : List AV} {v : AV} (h : hookG l vs = some v) : ∃ p ∈ l, vs = [.int .i64 p.1, .int .i64 p.2.1] ∧ v = .int .i64 p.2.2 := by
  induction l with
  | nil => cases h
  | cons p r ih =>
    unfold hookG at h
    split at h
    · rename_i x y
      rw [cnd_eq] at h
      split at h
      · rename_i hc
        simp only [Bool.and_eq_true] at hc
        cases h
        exact ⟨p, List.mem_cons_self, by rw [eqAI_eq hc.1, eqAI_eq hc.2], rfl⟩
      · obtain ⟨q, q1, q2⟩ := ih h
        exact ⟨q, List.mem_cons_of_mem _ q1, q2⟩
    · cases h
theorem hookG_entry {ρ : Nat → Int} {P : Program} {f : Nat} {fn : Func} (hf : P.funcs[f]? = some fn) (hb : fn.body.isNone = false) (hn : (fn.name == "runtime.NumGoroutine") = false) {l : List (AI × AI × AI)}
    (h : ∀ p ∈ l, ∀ x y, IR ρ .i64 p.1 x → IR ρ .i64 p.2.1 y → ∀ w, ∃ n, IR ρ .i64 p.2.2 n ∧ Calls P f #[.int .i64 x, .int .i64 y] w fun e w' => e = .returned (.int .i64 n) ∧ Below w.heap.size w w') : EntryOk ρ P f (.hook (hookG l)) := by
  intro E vs vals s w v hH hv hh
  obtain ⟨p, hp, rfl, rfl⟩ := hookG_ok hh
  cases hv with | cons h1 h2 =>
  cases h2 with | cons h2 h3 =>
  cases h3
  cases h1 with | int h1 =>
  cases h2 with | int h2 =>
  obtain ⟨n, hn1, hn2⟩ := h p hp _ _ h1 h2 w
  refine .inl ⟨?_, hn2.mono ?_⟩
  · simp only [callFunc, program, Sem.run_bind, Sem.run, Result.andThen_ok, hf, hn, hb, Bool.false_eq_true, if_false]; rfl
  · rintro e w' ⟨rfl, hB⟩
    have kept : ∀ (B : Nat) (o : Obj), w.heap[B]? = some o → w'.heap[B]? = some o := fun B o ho => by
      rw [hB.block B (lt_of_get ho)]; exact ho
    refine ⟨_, E, rfl, .int hn1, .refl _, ⟨fun b c k hb => ?_, fun b es hb => ?_, hH.apart, hH.mapart, hH.dom⟩, fun B hB' _ => hB.block B hB', fun B h => .inl h, hB.os, hB.tape, hB.output, hB.size, Nat.le_refl _, fun _ _ => ⟨rfl, rfl⟩, fun _ _ h => h, fun _ _ h => h⟩
    · obtain ⟨B, δ, z, cs, t, fz, q1, q2, q3⟩ := hH.cells b c k hb
      exact ⟨B, δ, z, cs, t, fz, q1, kept _ _ q2, q3⟩
    · obtain ⟨R, en, cl, q1, q2, q3⟩ := hH.maps b es hb
      exact ⟨R, en, cl, q1, kept _ _ q2, q3⟩
noncomputable def bde (lo hi m0 m1 : Int) : Nat → Int × Int := fun i => cnd (Nat.beq i 8) (lo, hi) (cnd (Nat.beq i 10) (0, 2) (cnd (Nat.beq i 11) (0, 59) (cnd (Nat.beq i 12) (0, 49) (cnd (Nat.beq i 13) (0, 19) (cnd (Nat.beq i 14) (m0, m1) (cnd (Nat.beq i 15) (0, 7) (cnd (Nat.beq i 16) (0, 2) (cnd (Nat.beq i 20) (0, 1844674407370955160) (cnd (Nat.beq i 21) (0, 3) (cnd (Nat.beq i 22) (0, 4) ((-9223372036854775808, 9223372036854775807))))))))))))
noncomputable def hke (PA SA : AI) (w b : Nat) : List (AI × AI × AI) := [(.s [(0, 1)] 0, .c 3, PA), (.s [(1, 1)] 0, .c 60, .s [(11, 1)] 0), (.s [(2, 1)] 0, .c 50, .s [(12, 1)] 0), (.s [(3, 1)] 0, .c 20, .s [(13, 1)] 0), (.s [(4, 1)] 0, .c 6, .s [(14, 1)] 0), (.s [(5, 1)] 0, .c 8, .s [(15, 1)] 0), (.s [(6, 1)] 0, .c 3, .s [(16, 1)] 0), (.s [(7, 1)] 0, .c 9, .c (Int.ofNat w)), (SA, .c 2, .c (Int.ofNat b))]
noncomputable def setup : AV := .agg [.int .i64 (.s [(0, 1)] 0), .int .i64 (.s [(1, 1)] 0), .int .i64 (.s [(2, 1)] 0), .int .i64 (.s [(3, 1)] 0), .int .i64 (.s [(4, 1)] 0), .int .i64 (.s [(5, 1)] 0), .int .i64 (.s [(6, 1)] 0)]
noncomputable def rune (PA VA : AI) (w : Nat) (lo hi m0 m1 : Int) (SA : AI) (b : Nat) : Bool := yes (callF (bde lo hi m0 m1) (tab (.hook (hookG (hke PA SA w b)))).get 5000 60 3 [setup, .int .i64 (.s [(7, 1)] 0), .int .i64 VA, .int .i64 SA] st0)
end Go.Proofs.Ytkibmjcooffglaa.endChecksRun
