/- What is known of numbers that are left open; how the law RttBounds is run. -/
import Derived.Test.YtmbimlnanfholaaRttBoundsTab
namespace Go.Proofs.Ytmbimlnanfholaa.rttBoundsRun
open Go.Vm Go.RowKit
set_option linter.unusedVariables false
set_option linter.unusedSimpArgs false
set_option maxRecDepth 1000000
noncomputable def aN (i : Nat) : AI := .s [(200 + i, 1)] 0
noncomputable def bI (i j : Nat) : Nat := 1000 + 20 * i + j
noncomputable def aS (i j : Nat) : AI := .s [(bI i j, 1)] 0
noncomputable def aM : Nat → AI
  | 0 => aN 0
  | i + 1 => aS (i + 1) 0
noncomputable def sM : Nat → Nat
  | 0 => 200
  | i + 1 => bI (i + 1) 0
/-- what a wait is: of mean and spread -/
noncomputable def orW (i : Nat) : List Orc := [⟨1, .c 1, .s [(bI i 1, 4)] 0, aS i 5⟩, ⟨2, .s [(bI i 5, 1), (sM i, 1)] 0, .c 64, aS i 6⟩, ⟨3, aS i 6, .s [(sM i, 1)] 1, .c 0⟩,
  ⟨0, .s [(bI i 1, 3)] 0, .c 4, aS i 7⟩, ⟨1, .c 1, .s [(bI i 7, 4)] 0, aS i 8⟩, ⟨2, .s [(bI i 8, 1), (sM i, 1)] 0, .c 64, aS i 9⟩]
/-- a new answer -/
noncomputable def orS : Nat → List Orc
  | 0 => [⟨0, aN 0, .c 2, aS 0 1⟩]
  | i + 1 => [⟨1, .s [(sM i, 1), (200 + (i + 1), -1)] 0, .s [(200 + (i + 1), 1), (sM i, -1)] 0, aS (i + 1) 2⟩, ⟨0, .s [(bI (i + 1) 2, 1), (bI i 1, 3)] 0, .c 4, aS (i + 1) 1⟩, ⟨0, .s [(200 + (i + 1), 1), (sM i, 7)] 0, .c 8, aS (i + 1) 0⟩,
    ⟨1, .s [(sM i, 1)] 0, aN (i + 1), aS (i + 1) 3⟩, ⟨3, aS (i + 1) 3, aS (i + 1) 0, .c 0⟩, ⟨2, .s [(sM i, 1)] 0, aN (i + 1), aS (i + 1) 4⟩, ⟨3, aS (i + 1) 0, .s [(bI (i + 1) 4, 1)] (-1), .c 0⟩]
/-- by the number of the answer -/
noncomputable def orB (i : Nat) : List Orc := orW i ++ (orS i ++ orS (i + 1))
noncomputable def orK (x : Nat) : List Orc := cnd (Nat.ble 1000 x) (cnd (Nat.blt x 10000) (orB ((x - 1000) / 20)) []) (cnd (Nat.ble 200 x) (cnd (Nat.blt x 700) (orB (x - 200)) []) [])
noncomputable def bR (L : Nat) (lo hi flo fhi : Int) (long : Bool) : Nat → Int × Int := fun x => cnd (Nat.ble 1000 x) (cnd (Nat.beq x (1000 + 20 * (L - 1) + 6)) (lo, hi) (cnd (Nat.beq ((x - 1000) % 20) 5 || Nat.beq ((x - 1000) % 20) 8) (1, 156) (cnd (Nat.beq ((x - 1000) % 20) 6 || Nat.beq ((x - 1000) % 20) 9) (1, 64) (0, 39))))
  (cnd (Nat.ble 200 x) (0, 39) (cnd (Nat.beq x 50) (flo, fhi) (cnd (Nat.beq x 90) (cnd long 21 0, 9223372036854775807) (-9223372036854775808, 9223372036854775807))))
/-- each number of the list, brought into the range -/
noncomputable def hkl : Nat → Nat → List (Nat × Int × AI)
  | 0, _ => []
  | n + 1, b => (b, 40, .s [(b + 100, 1)] 0) :: hkl n (b + 1)
theorem hkl_mem : ∀ (n b : Nat) (p : Nat × Int × AI), p ∈ hkl n b → ∃ j, j < n ∧ p = (b + j, 40, .s [(b + j + 100, 1)] 0) := by
  intro n
  induction n with
  | zero => intro b p h; cases h
  | succ n ih =>
    intro b p h
    simp only [hkl, List.mem_cons] at h
    rcases h with rfl | h
    · exact ⟨0, Nat.succ_pos _, rfl⟩
    · obtain ⟨j, h1, h2⟩ := ih _ _ h
      exact ⟨j + 1, by omega, by rw [h2, show b + 1 + j = b + (j + 1) by omega]⟩
noncomputable def runr (k L : Nat) (lo hi flo fhi : Int) (long : Bool) (sa : AV) (st : St) : Bool := yes (callF ⟨bR L lo hi flo fhi long, orK⟩ (tab (.hook (hookW ((0, 64, .s [(50, 1)] 0) :: (2, 9, .c (Int.ofNat k)) :: hkl 20 100)))).get 5000 60 3 [.int .i64 (.s [(0, 1)] 0), sa, .int .i64 (.s [(2, 1)] 0)] st)
noncomputable def rl (L k : Nat) (lo hi : Int) : Bool := runr k L lo hi 0 63 false (.sl 0 0 L L false 1) (stAI L 100)
noncomputable def ra (k : Nat) (lo hi : Int) : Bool := runr k 20 lo hi 0 63 true (markV 0 20 (.s [(90, 1)] 0) 1) (stAI 20 100)
noncomputable def rn (k : Nat) (lo hi : Int) : Bool := runr k 0 1 64 lo hi false .nils st0
noncomputable def re (k : Nat) (lo hi : Int) : Bool := runr k 0 1 64 lo hi false .emp st0
end Go.Proofs.Ytmbimlnanfholaa.rttBoundsRun
