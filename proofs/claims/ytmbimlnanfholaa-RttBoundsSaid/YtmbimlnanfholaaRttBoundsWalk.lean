/- The law RttBounds returns true for every input, and leaves what was there as it was. -/
import Derived.Test.YtmbimlnanfholaaRttBoundsRun
import Derived.Test.YtmbimlnanfholaaRttBoundsIn
import Derived.WalkKit
import Derived.ProofKit
namespace Go.Proofs.Ytmbimlnanfholaa.rttBoundsRun
open Go.Vm Go.RowKit
set_option linter.unusedVariables false
set_option linter.unusedSimpArgs false
set_option maxRecDepth 1000000
def In (x : Int) : Prop := -9223372036854775808 ≤ x ∧ x ≤ 9223372036854775807
theorem wr {x : Int} (h : In x) : IntKind.i64.wrap x = x := wrap_in (k := .i64) h.1 h.2
theorem irs {ρ : Nat → Int} {i : Nat} {v : Int} (h : ρ i = v) (hb : In v) : IR ρ .i64 (.s [(i, 1)] 0) v := ir_sym (by rw [h, wr hb])
theorem irv {ρ : Nat → Int} {ts : List (Nat × Int)} {d X v : Int} (h : IR ρ .i64 (.s ts d) X) (hv : lin ρ ts + d = v) (hb : In v) : X = v := by
  have h : X = IntKind.i64.wrap (lin ρ ts + d) := h
  rw [h, hv, wr hb]
def mx (a b : Int) : Int := if a ≤ b then b else a
def mn (a b : Int) : Int := if a ≤ b then a else b
theorem mx_eq (a b : Int) : (a ≤ b ∧ mx a b = b) ∨ (b ≤ a ∧ mx a b = a) := by unfold mx; split <;> omega
theorem mn_eq (a b : Int) : (a ≤ b ∧ mn a b = a) ∨ (b ≤ a ∧ mn a b = b) := by unfold mn; split <;> omega
/-- mean and spread behind each answer -/
def sq (n : Nat → Int) : Nat → Int × Int
  | 0 => (n 0, n 0 / 2)
  | i + 1 => ((n (i + 1) + 7 * (sq n i).1) / 8, (mx ((sq n i).1 - n (i + 1)) (n (i + 1) - (sq n i).1) + 3 * (sq n i).2) / 4)
theorem sq_in (n : Nat → Int) (hn : ∀ i, 0 ≤ n i ∧ n i ≤ 39) : ∀ i, (0 ≤ (sq n i).1 ∧ (sq n i).1 ≤ 39) ∧ (0 ≤ (sq n i).2 ∧ (sq n i).2 ≤ 39) := by
  intro i
  induction i with
  | zero => have := hn 0; simp only [sq]; omega
  | succ i ih =>
    have := hn (i + 1)
    have hm := mx_eq ((sq n i).1 - n (i + 1)) (n (i + 1) - (sq n i).1)
    simp only [sq]
    omega
def val (n : Nat → Int) (i : Nat) : Nat → Int
  | 0 => (sq n i).1
  | 1 => (sq n i).2
  | 2 => mx ((sq n (i - 1)).1 - n i) (n i - (sq n (i - 1)).1)
  | 3 => mx (sq n (i - 1)).1 (n i)
  | 4 => mn (sq n (i - 1)).1 (n i)
  | 5 => mx 1 (4 * (sq n i).2)
  | 6 => mn (mx 1 (4 * (sq n i).2) + (sq n i).1) 64
  | 7 => 3 * (sq n i).2 / 4
  | 8 => mx 1 (4 * (3 * (sq n i).2 / 4))
  | 9 => mn (mx 1 (4 * (3 * (sq n i).2 / 4)) + (sq n i).1) 64
  | _ => 0
theorem val_in (n : Nat → Int) (hn : ∀ i, 0 ≤ n i ∧ n i ≤ 39) (i j : Nat) : (j = 5 ∨ j = 8 → 1 ≤ val n i j ∧ val n i j ≤ 156) ∧ (j = 6 ∨ j = 9 → 1 ≤ val n i j ∧ val n i j ≤ 64) ∧ (j ≠ 5 → j ≠ 8 → j ≠ 6 → j ≠ 9 → 0 ≤ val n i j ∧ val n i j ≤ 39) := by
  obtain ⟨⟨a1, a2⟩, a3, a4⟩ := sq_in n hn i
  obtain ⟨⟨b1, b2⟩, b3, b4⟩ := sq_in n hn (i - 1)
  have hn := hn i
  have m2 := mx_eq ((sq n (i - 1)).1 - n i) (n i - (sq n (i - 1)).1)
  have m3 := mx_eq (sq n (i - 1)).1 (n i)
  have m4 := mn_eq (sq n (i - 1)).1 (n i)
  have m5 := mx_eq 1 (4 * (sq n i).2)
  have m6 := mn_eq (mx 1 (4 * (sq n i).2) + (sq n i).1) 64
  have m8 := mx_eq 1 (4 * (3 * (sq n i).2 / 4))
  have m9 := mn_eq (mx 1 (4 * (3 * (sq n i).2 / 4)) + (sq n i).1) 64
  match j with
  | 0 => simp only [val]; omega
  | 1 => simp only [val]; omega
  | 2 => simp only [val]; omega
  | 3 => simp only [val]; omega
  | 4 => simp only [val]; omega
  | 5 => simp only [val]; omega
  | 6 => simp only [val]; omega
  | 7 => simp only [val]; omega
  | 8 => simp only [val]; omega
  | 9 => simp only [val]; omega
  | j + 10 => simp only [val]; omega
section
variable {ρ : Nat → Int} {n : Nat → Int} (hn : ∀ i, 0 ≤ n i ∧ n i ≤ 39) (hρ : ∀ i, i < 800 → ρ (200 + i) = n i) (hv : ∀ i j, j < 20 → ρ (bI i j) = val n i j)
include hρ hv in
theorem hM (i : Nat) : ρ (sM i) = (sq n i).1 := by
  cases i with
  | zero => exact hρ 0 (by omega)
  | succ i => exact hv (i + 1) 0 (by omega)
include hn hρ hv in
theorem orW_ok (i : Nat) : ∀ e ∈ orW i, OrcOk ρ e := by
  obtain ⟨⟨a1, a2⟩, a3, a4⟩ := sq_in n hn i
  have m := hM hρ hv i
  have v1 : ρ (bI i 1) = (sq n i).2 := hv i 1 (by omega)
  have v5 : ρ (bI i 5) = mx 1 (4 * (sq n i).2) := hv i 5 (by omega)
  have v6 : ρ (bI i 6) = mn (mx 1 (4 * (sq n i).2) + (sq n i).1) 64 := hv i 6 (by omega)
  have v7 : ρ (bI i 7) = 3 * (sq n i).2 / 4 := hv i 7 (by omega)
  have v8 : ρ (bI i 8) = mx 1 (4 * (3 * (sq n i).2 / 4)) := hv i 8 (by omega)
  have v9 : ρ (bI i 9) = mn (mx 1 (4 * (3 * (sq n i).2 / 4)) + (sq n i).1) 64 := hv i 9 (by omega)
  have m5 := mx_eq 1 (4 * (sq n i).2)
  have m6 := mn_eq (mx 1 (4 * (sq n i).2) + (sq n i).1) 64
  have m8 := mx_eq 1 (4 * (3 * (sq n i).2 / 4))
  have m9 := mn_eq (mx 1 (4 * (3 * (sq n i).2 / 4)) + (sq n i).1) 64
  intro e he
  simp only [orW, List.mem_cons, List.not_mem_nil, or_false] at he
  rcases he with rfl | rfl | rfl | rfl | rfl | rfl <;> intro X Y hX hY
  · have hX : X = 1 := hX
    have hY := irv hY (v := 4 * (sq n i).2) (by simp only [lin, v1]; omega) ⟨by omega, by omega⟩
    subst hX; subst hY
    exact irs v5 ⟨by omega, by omega⟩
  · have hY : Y = 64 := hY
    have hX := irv hX (v := mx 1 (4 * (sq n i).2) + (sq n i).1) (by simp only [lin, v5, m]; omega) ⟨by omega, by omega⟩
    subst hX; subst hY
    exact irs v6 ⟨by omega, by omega⟩
  · have hX := irv hX (v := mn (mx 1 (4 * (sq n i).2) + (sq n i).1) 64) (by simp only [lin, v6]; omega) ⟨by omega, by omega⟩
    have hY := irv hY (v := (sq n i).1 + 1) (by simp only [lin, m]; omega) ⟨by omega, by omega⟩
    subst hX; subst hY
    show decide (_ < _) = false
    simp only [decide_eq_false_iff_not]
    omega
  · have hY : Y = 4 := hY
    have hX := irv hX (v := 3 * (sq n i).2) (by simp only [lin, v1]; omega) ⟨by omega, by omega⟩
    subst hX; subst hY
    refine ⟨by omega, ?_⟩
    rw [Int.tdiv_eq_ediv_of_nonneg (by omega), wr ⟨by omega, by omega⟩]
    exact irs v7 ⟨by omega, by omega⟩
  · have hX : X = 1 := hX
    have hY := irv hY (v := 4 * (3 * (sq n i).2 / 4)) (by simp only [lin, v7]; omega) ⟨by omega, by omega⟩
    subst hX; subst hY
    exact irs v8 ⟨by omega, by omega⟩
  · have hY : Y = 64 := hY
    have hX := irv hX (v := mx 1 (4 * (3 * (sq n i).2 / 4)) + (sq n i).1) (by simp only [lin, v8, m]; omega) ⟨by omega, by omega⟩
    subst hX; subst hY
    exact irs v9 ⟨by omega, by omega⟩
include hn hρ hv in
theorem orS_ok (i : Nat) (hi : i < 700) : ∀ e ∈ orS i, OrcOk ρ e := by
  intro e he
  cases i with
  | zero =>
    have h0 := hn 0
    have r0 : ρ (200 + 0) = n 0 := hρ 0 (by omega)
    have v1 : ρ (bI 0 1) = n 0 / 2 := hv 0 1 (by omega)
    simp only [orS, List.mem_cons, List.not_mem_nil, or_false] at he
    subst he
    intro X Y hX hY
    have hY : Y = 2 := hY
    have hX := irv hX (v := n 0) (by simp only [lin, r0]; omega) ⟨by omega, by omega⟩
    subst hX; subst hY
    refine ⟨by omega, ?_⟩
    rw [Int.tdiv_eq_ediv_of_nonneg (by omega), wr ⟨by omega, by omega⟩]
    exact irs v1 ⟨by omega, by omega⟩
  | succ i =>
    obtain ⟨⟨a1, a2⟩, a3, a4⟩ := sq_in n hn i
    have hn := hn (i + 1)
    have m := hM hρ hv i
    have r := hρ (i + 1) (by omega)
    have v1' : ρ (bI i 1) = (sq n i).2 := hv i 1 (by omega)
    have v0 : ρ (bI (i + 1) 0) = (n (i + 1) + 7 * (sq n i).1) / 8 := hv (i + 1) 0 (by omega)
    have v1 : ρ (bI (i + 1) 1) = (mx ((sq n i).1 - n (i + 1)) (n (i + 1) - (sq n i).1) + 3 * (sq n i).2) / 4 := hv (i + 1) 1 (by omega)
    have v2 : ρ (bI (i + 1) 2) = mx ((sq n i).1 - n (i + 1)) (n (i + 1) - (sq n i).1) := hv (i + 1) 2 (by omega)
    have v3 : ρ (bI (i + 1) 3) = mx (sq n i).1 (n (i + 1)) := hv (i + 1) 3 (by omega)
    have v4 : ρ (bI (i + 1) 4) = mn (sq n i).1 (n (i + 1)) := hv (i + 1) 4 (by omega)
    have m2 := mx_eq ((sq n i).1 - n (i + 1)) (n (i + 1) - (sq n i).1)
    have m3 := mx_eq (sq n i).1 (n (i + 1))
    have m4 := mn_eq (sq n i).1 (n (i + 1))
    simp only [orS, List.mem_cons, List.not_mem_nil, or_false] at he
    rcases he with rfl | rfl | rfl | rfl | rfl | rfl | rfl <;> intro X Y hX hY
    · have hX := irv hX (v := (sq n i).1 - n (i + 1)) (by simp only [lin, m, r]; omega) ⟨by omega, by omega⟩
      have hY := irv hY (v := n (i + 1) - (sq n i).1) (by simp only [lin, m, r]; omega) ⟨by omega, by omega⟩
      subst hX; subst hY
      exact irs v2 ⟨by omega, by omega⟩
    · have hY : Y = 4 := hY
      have hX := irv hX (v := mx ((sq n i).1 - n (i + 1)) (n (i + 1) - (sq n i).1) + 3 * (sq n i).2) (by simp only [lin, v2, v1']; omega) ⟨by omega, by omega⟩
      subst hX; subst hY
      refine ⟨by omega, ?_⟩
      rw [Int.tdiv_eq_ediv_of_nonneg (by omega), wr ⟨by omega, by omega⟩]
      exact irs v1 ⟨by omega, by omega⟩
    · have hY : Y = 8 := hY
      have hX := irv hX (v := n (i + 1) + 7 * (sq n i).1) (by simp only [lin, m, r]; omega) ⟨by omega, by omega⟩
      subst hX; subst hY
      refine ⟨by omega, ?_⟩
      rw [Int.tdiv_eq_ediv_of_nonneg (by omega), wr ⟨by omega, by omega⟩]
      exact irs v0 ⟨by omega, by omega⟩
    · have hX := irv hX (v := (sq n i).1) (by simp only [lin, m]; omega) ⟨by omega, by omega⟩
      have hY := irv hY (v := n (i + 1)) (by simp only [lin, r]; omega) ⟨by omega, by omega⟩
      subst hX; subst hY
      exact irs v3 ⟨by omega, by omega⟩
    · have hX := irv hX (v := mx (sq n i).1 (n (i + 1))) (by simp only [lin, v3]; omega) ⟨by omega, by omega⟩
      have hY := irv hY (v := (n (i + 1) + 7 * (sq n i).1) / 8) (by simp only [lin, v0]; omega) ⟨by omega, by omega⟩
      subst hX; subst hY
      show decide (_ < _) = false
      simp only [decide_eq_false_iff_not]
      omega
    · have hX := irv hX (v := (sq n i).1) (by simp only [lin, m]; omega) ⟨by omega, by omega⟩
      have hY := irv hY (v := n (i + 1)) (by simp only [lin, r]; omega) ⟨by omega, by omega⟩
      subst hX; subst hY
      exact irs v4 ⟨by omega, by omega⟩
    · have hX := irv hX (v := (n (i + 1) + 7 * (sq n i).1) / 8) (by simp only [lin, v0]; omega) ⟨by omega, by omega⟩
      have hY := irv hY (v := mn (sq n i).1 (n (i + 1)) - 1) (by simp only [lin, v4]; omega) ⟨by omega, by omega⟩
      subst hX; subst hY
      show decide (_ < _) = false
      simp only [decide_eq_false_iff_not]
      omega
include hn hρ hv in
theorem orB_ok (i : Nat) (hi : i < 600) : ∀ e ∈ orB i, OrcOk ρ e := by
  intro e he
  simp only [orB, List.mem_append] at he
  rcases he with he | he | he
  · exact orW_ok hn hρ hv i e he
  · exact orS_ok hn hρ hv i (by omega) e he
  · exact orS_ok hn hρ hv (i + 1) (by omega) e he
include hn hρ hv in
theorem orK_ok (hv0 : ∀ x, 13000 ≤ x → True) (x : Nat) : ∀ e ∈ orK x, OrcOk ρ e := by
  intro e he
  simp only [orK, cnd_eq, Nat.ble_eq, Nat.blt_eq] at he
  split at he
  · split at he
    · exact orB_ok hn hρ hv _ (by omega) e he
    · cases he
  · split at he
    · split at he
      · exact orB_ok hn hρ hv _ (by omega) e he
      · cases he
    · cases he
end
theorem bR_ok (ρ : Nat → Int) (n : Nat → Int) (len : Nat) (f : Int) (hn : ∀ i, 0 ≤ n i ∧ n i ≤ 39) (hρ : ∀ x, 200 ≤ x → x < 1000 → ρ x = n (x - 200)) (hv : ∀ x, 1000 ≤ x → ρ x = val n ((x - 1000) / 20) ((x - 1000) % 20)) (h90 : ρ 90 = (len : Int)) (h50 : ρ 50 = f) (hr : ∀ x, In (ρ x))
    (L : Nat) (lo hi flo fhi : Int) (long : Bool) (hlo : lo ≤ val n (L - 1) 6) (hhi : val n (L - 1) 6 ≤ hi) (hf1 : flo ≤ f) (hf2 : f ≤ fhi) (hl : long = true → 21 ≤ len) (hm : (len : Int) ≤ 9223372036854775807) (x : Nat) : (bR L lo hi flo fhi long x).1 ≤ ρ x ∧ ρ x ≤ (bR L lo hi flo fhi long x).2 := by
  simp only [bR, cnd_eq, Nat.ble_eq, Nat.beq_eq, Bool.or_eq_true]
  by_cases h1 : 1000 ≤ x
  · rw [if_pos h1, hv x h1]
    by_cases h2 : x = 1000 + 20 * (L - 1) + 6
    · rw [if_pos h2, show (x - 1000) / 20 = L - 1 by omega, show (x - 1000) % 20 = 6 by omega]
      exact ⟨hlo, hhi⟩
    · rw [if_neg h2]
      obtain ⟨g1, g2, g3⟩ := val_in n hn ((x - 1000) / 20) ((x - 1000) % 20)
      by_cases h3 : (x - 1000) % 20 = 5 ∨ (x - 1000) % 20 = 8
      · rw [if_pos h3]; exact g1 h3
      · rw [if_neg h3]
        by_cases h4 : (x - 1000) % 20 = 6 ∨ (x - 1000) % 20 = 9
        · rw [if_pos h4]; exact g2 h4
        · rw [if_neg h4]; exact g3 (by omega) (by omega) (by omega) (by omega)
  · rw [if_neg h1]
    by_cases h2 : 200 ≤ x
    · rw [if_pos h2, hρ x h2 (by omega)]; exact hn _
    · rw [if_neg h2]
      by_cases h3 : x = 50
      · subst h3; rw [if_pos rfl, h50]; exact ⟨hf1, hf2⟩
      · rw [if_neg h3]
        by_cases h4 : x = 90
        · subst h4; rw [if_pos rfl, h90]
          refine ⟨?_, hm⟩
          dsimp only
          split
          · rename_i hh; have := hl hh; omega
          · omega
        · rw [if_neg h4]; exact hr x
theorem walk (a0 a2 : Int) (a1 : Option Addr) (len1 cap1 : Nat) (z1 : List Int) (w : World) (hr : IsRowI w a1 len1 cap1 z1) (w0 : (Lit.int .i64 a0).wf = true) (w2 : (Lit.int .i64 a2).wf = true) : Calls Try.prog 3 #[.int .i64 a0, .slice a1 len1 cap1, .int .i64 a2] w fun e w' => e = .returned (.bool true) ∧ Below w.heap.size w w' := by
  have c0 : In a0 := by simpa [Lit.wf, IntKind.min, IntKind.max, IntKind.signed, IntKind.bits, In] using w0
  have c2 : In a2 := by simpa [Lit.wf, IntKind.min, IntKind.max, IntKind.signed, IntKind.bits, In] using w2
  obtain ⟨k, hk⟩ : ∃ k : Nat, a2 % 9 = k := ⟨(a2 % 9).toNat, by omega⟩
  have hk9 : k < 9 := by omega
  have hf : 0 ≤ a0 % 64 ∧ a0 % 64 ≤ 63 := by omega
  have hz := rowI_nums hr
  have hm := rowI_len hr
  have hl0 : len1 ≤ cap1 := by
    rcases hr with ⟨_, h1, h2, _⟩ | ⟨_, _, h, _⟩
    · omega
    · exact h
  obtain ⟨n, hn0⟩ : ∃ n : Nat → Int, ∀ i, n i = z1.getD i 0 % 40 := ⟨fun i => z1.getD i 0 % 40, fun _ => rfl⟩
  have hn : ∀ i, 0 ≤ n i ∧ n i ≤ 39 := fun i => by rw [hn0]; omega
  obtain ⟨ρ, r0, r2, r50, r90, r100, r200, r1000, hI⟩ : ∃ ρ : Nat → Int, ρ 0 = a0 ∧ ρ 2 = a2 ∧ ρ 50 = a0 % 64 ∧ ρ 90 = (len1 : Int) ∧ (∀ i, i < 100 → ρ (100 + i) = z1.getD i 0) ∧ (∀ x, 200 ≤ x → x < 1000 → ρ x = n (x - 200)) ∧ (∀ x, 1000 ≤ x → ρ x = val n ((x - 1000) / 20) ((x - 1000) % 20)) ∧ ∀ x, In (ρ x) := by
    refine ⟨fun x => if 1000 ≤ x then val n ((x - 1000) / 20) ((x - 1000) % 20) else if 200 ≤ x then n (x - 200) else if 100 ≤ x then z1.getD (x - 100) 0 else if x = 90 then (len1 : Int) else if x = 50 then a0 % 64 else if x = 0 then a0 else if x = 2 then a2 else 0, rfl, rfl, rfl, rfl, ?_, ?_, ?_, ?_⟩
    · intro i hi; dsimp only; rw [if_neg (by omega), if_neg (by omega), if_pos (by omega), show 100 + i - 100 = i by omega]
    · intro x h1 h2; dsimp only; rw [if_neg (by omega), if_pos h1]
    · intro x h1; dsimp only; rw [if_pos h1]
    · intro x
      dsimp only
      split
      · obtain ⟨g1, g2, g3⟩ := val_in n hn ((x - 1000) / 20) ((x - 1000) % 20)
        by_cases h3 : (x - 1000) % 20 = 5 ∨ (x - 1000) % 20 = 8
        · have := g1 h3; exact ⟨by omega, by omega⟩
        · by_cases h4 : (x - 1000) % 20 = 6 ∨ (x - 1000) % 20 = 9
          · have := g2 h4; exact ⟨by omega, by omega⟩
          · have := g3 (by omega) (by omega) (by omega) (by omega); exact ⟨by omega, by omega⟩
      · split
        · have := hn (x - 200); exact ⟨by omega, by omega⟩
        · split
          · exact hz _
          · split
            · exact ⟨by omega, by omega⟩
            · split
              · exact ⟨by omega, by omega⟩
              · split
                · exact c0
                · split
                  · exact c2
                  · exact ⟨by omega, by omega⟩
  have hv' : ∀ i j, j < 20 → ρ (bI i j) = val n i j := fun i j hj => by
    rw [r1000 (bI i j) (by unfold bI; omega), show (bI i j - 1000) / 20 = i by unfold bI; omega, show (bI i j - 1000) % 20 = j by unfold bI; omega]
  have hρ' : ∀ i, i < 800 → ρ (200 + i) = n i := fun i hi => by rw [r200 _ (by omega) (by omega), show 200 + i - 200 = i by omega]
  have hB : ∀ (L : Nat) (lo hi flo fhi : Int) (long : Bool), L < 100 → lo ≤ val n (L - 1) 6 → val n (L - 1) 6 ≤ hi → flo ≤ a0 % 64 → a0 % 64 ≤ fhi → (long = true → 21 ≤ len1) → BdOk ρ ⟨bR L lo hi flo fhi long, orK⟩ := fun L lo hi flo fhi long hL h1 h2 h3 h4 h5 =>
    ⟨bR_ok ρ n len1 (a0 % 64) hn r200 r1000 r90 r50 hI L lo hi flo fhi long h1 h2 h3 h4 h5 (by omega), fun x => orK_ok hn hρ' hv' (fun _ _ => trivial) x⟩
  have hh : EntryOk ρ Try.prog 13 (.hook (hookW ((0, 64, .s [(50, 1)] 0) :: (2, 9, .c (Int.ofNat k)) :: hkl 20 100))) := by
    refine hook_ok (fn := Try.f13) Try.func13 rfl rfl ?_
    intro p hp w
    simp only [List.mem_cons] at hp
    rcases hp with rfl | rfl | hp
    · have := within a0 64 w0 (by omega) (by omega) w
      exact ⟨_, irs r50 ⟨by omega, by omega⟩, by dsimp only; rw [r0, wr c0]; exact this⟩
    · have := within a2 9 w2 (by omega) (by omega) w
      rw [hk] at this
      exact ⟨_, rfl, by dsimp only; rw [r2, wr c2]; exact this⟩
    · obtain ⟨j, hj, rfl⟩ := hkl_mem _ _ _ hp
      have g := hz j
      have wf : (Lit.int .i64 (z1.getD j 0)).wf = true := by simpa [Lit.wf, IntKind.min, IntKind.max, IntKind.signed, IntKind.bits] using g
      have := within _ 40 wf (by omega) (by omega) w
      rw [← hn0] at this
      have b := hn j
      exact ⟨n j, irs (by rw [show 100 + j + 100 = 200 + j by omega]; exact hρ' j (by omega)) ⟨by omega, by omega⟩, by dsimp only; rw [r100 j (by omega), wr g]; exact this⟩
  have v0 : ∀ E, VR ρ E (.int .i64 (.s [(0, 1)] 0)) (.int .i64 a0) := fun E => .int (irs r0 c0)
  have v2 : ∀ E, VR ρ E (.int .i64 (.s [(2, 1)] 0)) (.int .i64 a2) := fun E => .int (irs r2 c2)
  have h64 : ∀ L, 1 ≤ val n L 6 ∧ val n L 6 ≤ 64 := fun L => (val_in n hn L 6).2.1 (.inl rfl)
  obtain ⟨fl, fh, hfi, f1, f2⟩ := iv (a0 % 64 + 1) (by omega) (by omega)
  rcases rowI_cases hr with ⟨rfl, rfl, rfl⟩ | ⟨x, rfl, rfl⟩ | ⟨B, δ, z, rfl, hlen, hlc, hδ, hH⟩
  · exact law_okE (hB 0 1 64 (fl - 1) (fh - 1) false (by omega) (h64 _).1 (h64 _).2 (by omega) (by omega) (by simp)) mixed (tab_all ρ _ hh) rfl (hr0 ρ w) own0 (show VRs ρ env0 _ _ from .cons (v0 _) (.cons .nils (.cons (v2 _) .nil))) (sn k hk9 fl fh hfi)
  · exact law_okE (hB 0 1 64 (fl - 1) (fh - 1) false (by omega) (h64 _).1 (h64 _).2 (by omega) (by omega) (by simp)) mixed (tab_all ρ _ hh) rfl (hr0 ρ w) own0 (show VRs ρ env0 _ _ from .cons (v0 _) (.cons .emp (.cons (v2 _) .nil))) (se k hk9 fl fh hfi)
  by_cases hc : len1 < 21
  · obtain ⟨lo, hi, hli, l1, l2⟩ := iv (val n (len1 - 1) 6) (h64 _).1 (h64 _).2
    exact law_okE (hB len1 lo hi 0 63 false (by omega) l1 l2 (by omega) (by omega) (by simp)) mixed (tab_all ρ _ hh) rfl (hH ρ 100 len1 (Nat.le_refl _) (fun i hi => r100 i (by omega))) ownAI (show VRs ρ (envA B δ z) _ _ from .cons (v0 _) (.cons (vr_sl0 rfl hlc hδ) (.cons (v2 _) .nil))) (sl k hk9 lo hi hli len1 hlen hc)
  · obtain ⟨lo, hi, hli, l1, l2⟩ := iv (val n (20 - 1) 6) (h64 _).1 (h64 _).2
    exact law_okE (hB 20 lo hi 0 63 true (by omega) l1 l2 (by omega) (by omega) (fun _ => by omega)) mixed (tab_all ρ _ hh) rfl (hH ρ 100 20 (by omega) (fun i hi => r100 i (by omega))) ownAI (show VRs ρ (envA B δ z) _ _ from .cons (v0 _) (.cons (.arg rfl (irs r90 ⟨by omega, by omega⟩) (by omega) hlc (by omega)) (.cons (v2 _) .nil))) (sa k hk9 lo hi hli)
end Go.Proofs.Ytmbimlnanfholaa.rttBoundsRun
