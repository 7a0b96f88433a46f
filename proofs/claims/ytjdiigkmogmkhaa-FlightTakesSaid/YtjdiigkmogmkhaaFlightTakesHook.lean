/- How the law FlightTakes is run, round by round. -/
import Derived.Test.YtjdiigkmogmkhaaFlightTakesTab
namespace Go.Proofs.Ytjdiigkmogmkhaa.flightTakesRun
open Go.Vm Go.RowKit
set_option linter.unusedVariables false
set_option linter.unusedSimpArgs false
set_option maxRecDepth 1000000
noncomputable def lawC : VC := match vf3 with
  | .code _ _ c _ => c
  | _ => .skip
noncomputable def lawV : List Nat := match vf3 with
  | .code _ v _ _ => v
  | _ => []
noncomputable def lawR : List RV := match vf3 with
  | .code _ _ _ r => r
  | _ => []
noncomputable def pre : List VC := (flat lawC).take 9
noncomputable def post : List VC := (flat lawC).drop 10
noncomputable def body : VC := match (flat lawC).drop 9 with
  | .block _ (.loop b) :: _ => b
  | _ => .skip
theorem lawL : flat lawC = pre ++ .block 2 (.loop body) :: post := by kernel_rfl
/-- what is known between rounds: i of them are over, L are there -/
noncomputable def thL (L : Nat) : AV := cnd (Nat.beq L 0) .nils (.sl 3 0 L L false 4)
noncomputable def flL (L : Nat) : AV := cnd (Nat.beq L 0) .emp (.sl 2 0 L L false 4)
noncomputable def fr (i L : Nat) : LF := [some (markV 0 0 (.s [(90, 1)] 0) 1), none, some (.ptr 1 0), some (thL L), none, none, some (.int .i64 (.c (Int.ofNat i))), none, none, none, none, none, none, none, none, none, none, none, none, none, none, none, none, none]
noncomputable def ms1 (L : Nat) : St := ((⟨.e, 4⟩ : St).put 0 (some (.cells [] .ro))).put 1 (some (.cells [flL L] .own))
noncomputable def ms (L : Nat) : St := cnd (Nat.beq L 0) (ms1 L) (((ms1 L).put 2 (some (.cells (symLI (4 * L) 400) .own))).put 3 (some (.cells (symLI (4 * L) 400) .own)))
noncomputable def frI (i L : Nat) : LF := setN (fr i L) 0 (some (markV 0 (i + 1) (.s [(90, 1)] 0) 1))
noncomputable def msI (i L : Nat) : St := (ms L).put 0 (some (.cells (symLI (i + 1) 100) .ro))
/-- unlike numbers -/
noncomputable def unl (j : Nat) : Nat → List Orc
  | 0 => [⟨5, .s [(400 + 4 * j, 1)] 0, .c 1, .c 0⟩]
  | m + 1 => cnd (Nat.beq m j) (unl j m) (⟨5, .s [(400 + 4 * j, 1)] 0, .s [(400 + 4 * m, 1)] 0, .c 0⟩ :: unl j m)
noncomputable def nums (L k : Nat) : List Orc := cnd (Nat.ble 400 k && Nat.beq ((k - 400) % 4) 0 && Nat.blt ((k - 400) / 4) L) (unl ((k - 400) / 4) L) []
noncomputable def ors (i : Nat) (re : Bool) : List Orc := ⟨6, .s [(100 + i, 1)] 0, .c 3, cnd re (.c 0) (.s [(300 + i, 1)] 0)⟩ :: cnd re [] [⟨5, .s [(300 + i, 1)] 0, .c 0, .c 0⟩]
noncomputable def bdR (i L : Nat) (re : Bool) : Bd := ⟨bO [(90, Int.ofNat i + 1, 9223372036854775807)], fun k => cnd (Nat.ble 400 k) (nums L k) (ors i re)⟩
/-- who stands where, behind the round -/
noncomputable def tau (k L' : Nat) (re : Bool) (j : Nat) : Nat := cnd (Nat.blt j k) j (cnd (re && Nat.beq (j + 1) L') k (j + 1))
noncomputable def taus (k L' : Nat) (re : Bool) (σ : List (Nat × IntKind × AI)) : Nat → Bool
  | 0 => true
  | j + 1 => isS σ (400 + 4 * j) (.s [(400 + 4 * tau k L' re j, 1)] 0) && taus k L' re σ j
noncomputable def begs (σ : List (Nat × IntKind × AI)) : Nat → Bool
  | 0 => true
  | j + 1 => isS σ (400 + 4 * j) (.c (3 * Int.ofNat j)) && begs σ j
noncomputable def nxL (L : Nat) (re : Bool) : Nat := cnd re L (L - 1)
noncomputable def rnd (i L k : Nat) (re : Bool) : Bool := toX 400 432 4 (fr (i + 1) (nxL L re)) (ms (nxL L re)) [0] (fun σ => taus k (nxL L re) re σ (nxL L re)) (exec (bdR i L re) (callF (bdR i L re) (tab (.hook (hookW [(100 + i, Int.ofNat L, .c (Int.ofNat k))]))).get 5000 60) 5000 body (frI i L) (msI i L))
/-- the list's length alone, and the numbers -/
noncomputable def bdL (L : Nat) (a b : Int) : Bd := ⟨bO [(90, a, b)], fun k => nums L k⟩
noncomputable def tb0 : Tr VF := tab (.hook (hookW []))
noncomputable def tbn (n : Nat) : Tr VF := tab (.hook (hookW [(1, 8, .c (Int.ofNat n))]))
noncomputable def beg (n : Nat) : Bool := toX 400 432 4 (fr 0 (n + 1)) (ms (n + 1)) [0] (fun σ => begs σ (n + 1)) (execL (bdL 0 1 9223372036854775807) (callF (bdL 0 1 9223372036854775807) (tbn n).get 5000 60) 5000 pre (frame [markV 0 0 (.s [(90, 1)] 0) 1, .int .i64 (.s [(1, 1)] 0)] lawV) (stAI 0 100))
noncomputable def exi (i L : Nat) (a b : Int) : Bool := exT 2 lawR (bdL L a b) (callF (bdL L a b) tb0.get 5000 60) 5000 post (exec (bdL L a b) (callF (bdL L a b) tb0.get 5000 60) 5000 body (fr i L) (ms L))
noncomputable def exA (i L : Nat) : Bool := exi i L 1 (Int.ofNat i)
noncomputable def exC (L : Nat) : Bool := exi 16 L 17 9223372036854775807
noncomputable def exZ (i : Nat) : Bool := exi i 0 (Int.ofNat i + 1) 9223372036854775807
noncomputable def sml (n : Nat) (x : AV) : Bool := yes (callF (bdL 0 1 9223372036854775807) (tbn n).get 5000 60 3 [x, .int .i64 (.s [(1, 1)] 0)] st0)
end Go.Proofs.Ytjdiigkmogmkhaa.flightTakesRun
