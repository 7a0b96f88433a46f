/- Numbers that a function gives, by its two numbers as they are written; how the law is run. -/
import Derived.Test.YtmbimlnanfholaaVintOrderTab
namespace Go.Proofs.Ytmbimlnanfholaa.vintOrderRun
open Go.Vm Go.RowKit
set_option linter.unusedVariables false
set_option linter.unusedSimpArgs false
set_option maxRecDepth 1000000
/-- are two numbers one, as they are written? -/
noncomputable def eqAI (x y : AI) : Bool := AI.casesOn x (fun a => AI.casesOn y (fun b => decide (a = b)) fun _ _ => false) fun i d => AI.casesOn y (fun _ => false) fun j e => sameT i j && decide (d = e)
theorem eqAI_eq {x y : AI} (h : eqAI x y = true) : x = y := by
  cases x with
  | c a => cases y with
    | c b => simp only [eqAI, decide_eq_true_eq] at h; rw [h]
    | s j e => cases h
  | s i d => cases y with
    | c b => cases h
    | s j e =>
      simp only [eqAI, Bool.and_eq_true, decide_eq_true_eq] at h
      obtain ⟨h1, rfl⟩ := h
      rw [sameT_eq h1]
/-- numbers that a function of two numbers gives -/
noncomputable def hookG : List (AI × AI × AI) → List AV → Option AV
  | [], _ => none
  | p :: r, args => match args with
    | [.int .i64 x, .int .i64 y] => cnd (eqAI x p.1 && eqAI y p.2.1) (some (.int .i64 p.2.2)) (hookG r args)
    | _ => none
theorem hookG_ok {l : List (AI × AI × AI)} {vs : List AV} {v : AV} (h : hookG l vs = some v) : ∃ p ∈ l, vs = [.int .i64 p.1, .int .i64 p.2.1] ∧ v = .int .i64 p.2.2 := by
  induction l with
  | nil => cases h
  | cons p r ih =>
    unfold hookG at h
    split at h
    · rename_i x y
      rw [cnd_eq] at h
      split at h
      · rename_i hc
        simp only [Bool.and_eq_true] at hc
        cases h
        exact ⟨p, List.mem_cons_self, by rw [eqAI_eq hc.1, eqAI_eq hc.2], rfl⟩
      · obtain ⟨q, q1, q2⟩ := ih h
        exact ⟨q, List.mem_cons_of_mem _ q1, q2⟩
    · cases h
theorem hookG_entry {ρ : Nat → Int} {P : Program} {f : Nat} {fn : Func} (hf : P.funcs[f]? = some fn) (hb : fn.body.isNone = false) (hn : (fn.name == "runtime.NumGoroutine") = false) {l : List (AI × AI × AI)}
    (h : ∀ p ∈ l, ∀ x y, IR ρ .i64 p.1 x → IR ρ .i64 p.2.1 y → ∀ w, ∃ n, IR ρ .i64 p.2.2 n ∧ Calls P f #[.int .i64 x, .int .i64 y] w fun e w' => e = .returned (.int .i64 n) ∧ Below w.heap.size w w') : EntryOk ρ P f (.hook (hookG l)) := by
  intro E vs vals s w v hH hv hh
  obtain ⟨p, hp, rfl, rfl⟩ := hookG_ok hh
  cases hv with | cons h1 h2 =>
  cases h2 with | cons h2 h3 =>
  cases h3
  cases h1 with | int h1 =>
  cases h2 with | int h2 =>
  obtain ⟨n, hn1, hn2⟩ := h p hp _ _ h1 h2 w
  refine .inl ⟨?_, hn2.mono ?_⟩
  · simp only [callFunc, program, Sem.run_bind, Sem.run, Result.andThen_ok, hf, hn, hb, Bool.false_eq_true, if_false]; rfl
  · rintro e w' ⟨rfl, hB⟩
    have kept : ∀ (B : Nat) (o : Obj), w.heap[B]? = some o → w'.heap[B]? = some o := fun B o ho => by
      rw [hB.block B (lt_of_get ho)]; exact ho
    refine ⟨_, E, rfl, .int hn1, .refl _, ⟨fun b c k hb => ?_, fun b es hb => ?_, hH.apart, hH.mapart, hH.dom⟩, fun B hB' _ => hB.block B hB', fun B h => .inl h, hB.os, hB.tape, hB.output, hB.size, Nat.le_refl _, fun _ _ => ⟨rfl, rfl⟩, fun _ _ h => h, fun _ _ h => h⟩
    · obtain ⟨B, δ, z, cs, t, fz, q1, q2, q3⟩ := hH.cells b c k hb
      exact ⟨B, δ, z, cs, t, fz, q1, kept _ _ q2, q3⟩
    · obtain ⟨R, en, cl, q1, q2, q3⟩ := hH.maps b es hb
      exact ⟨R, en, cl, q1, kept _ _ q2, q3⟩
def tab2 (h g : VF) : Tr VF := (.n (.n (.n (.n (.n (.n .e (some vf31) .e) none .e) (some vf7) .e) none .e) none (.n .e none (.n (.n (.n .e (some vf37) .e) none .e) (some h) (.n .e (some vf29) .e)))) none (.n (.n .e none (.n .e none (.n .e (some g) .e))) none (.n (.n (.n .e none (.n .e (some vf50) .e)) none .e) none (.n .e none (.n .e (some vf30) .e)))))
theorem tab2_all (r : Nat → Int) (h : VF) (hh : EntryOk r Try.prog 13 h) (g : VF) (hg : EntryOk r Try.prog 28 g) : TrAll (tab2 h g) (EntryOk r Try.prog) :=
  (all_0 (all_0 (all_0 (all_1 (ok7 r) (all_0 (all_1 (ok31 r) all_e all_e) all_e) all_e) all_e) (all_0 all_e (all_1 hh (all_0 (all_1 (ok37 r) all_e all_e) all_e) (all_1 (ok29 r) all_e all_e)))) (all_0 (all_0 all_e (all_0 all_e (all_1 hg all_e all_e))) (all_0 (all_0 (all_0 all_e (all_1 (ok50 r) all_e all_e)) all_e) (all_0 all_e (all_1 (ok30 r) all_e all_e)))))

noncomputable def bdo : List (Nat × Int × Int) → Nat → Int × Int
  | [] => fun _ => (-9223372036854775808, 9223372036854775807)
  | p :: r => fun i => cnd (Nat.beq i p.1) p.2 (bdo r i)
noncomputable def hkn (X Y : AI) : List (AI × AI × AI) := [(.s [(0, 1)] 0, .s [(2, 1)] 0, X), (.s [(1, 1)] 0, .s [(3, 1)] 0, Y)]
noncomputable def args : List AV := [.int .i64 (.s [(0, 1)] 0), .int .i64 (.s [(1, 1)] 0), .int .i64 (.s [(2, 1)] 0), .int .i64 (.s [(3, 1)] 0)]
noncomputable def runo (X Y : AI) (L : List (Nat × Int × Int)) : Bool := yes (callF (bdo L) (tab2 (.hook (hookG [])) (.hook (hookG (hkn X Y)))).get 5000 60 7 args st0)
/-- what N is, by the kind and the rest of a number -/
noncomputable def hkN (r d : Nat) : List (AI × AI × AI) := [(.s [(1, 1)] 0, .c 8, .c (Int.ofNat r)), (.s [(0, 1)] 0, .c 70, .s [(11, 1)] 0), (.s [(0, 1)] 0, .c 16389, .s [(12, 1)] 0), (.s [(0, 1)] 0, .c 1073741829, .s [(13, 1)] 0), (.s [(0, 1)] 0, .c 10, .c (Int.ofNat d)), (.s [(0, 1)] 0, .c 4611686018427387903, .s [(14, 1)] 0)]
noncomputable def outI (o : Out) : Option AI := match o with
  | .v x _ => x.onInt (fun k n => cnd (Nat.beq (ik k) 3) (some n) none) none
  | _ => none
noncomputable def runN (r d : Nat) : Option AI := outI (callF (fun _ => (-9223372036854775808, 9223372036854775807)) (tab (.hook (hookG (hkN r d)))).get 5000 60 28 [.int .i64 (.s [(0, 1)] 0), .int .i64 (.s [(1, 1)] 0)] st0)
end Go.Proofs.Ytmbimlnanfholaa.vintOrderRun
