/- How the law MeterCounts is run, round by round. -/
import Derived.Test.YtmbimlnanfholaaMeterCountsTab
namespace Go.Proofs.Ytmbimlnanfholaa.meterCountsRun
open Go.Vm Go.RowKit
set_option linter.unusedVariables false
set_option linter.unusedSimpArgs false
set_option maxRecDepth 1000000
noncomputable def lawC : VC := match vf6 with
  | .code _ _ c _ => c
  | _ => .skip
noncomputable def lawV : List Nat := match vf6 with
  | .code _ v _ _ => v
  | _ => []
noncomputable def lawR : List RV := match vf6 with
  | .code _ _ _ r => r
  | _ => []
noncomputable def pre : List VC := (flat lawC).take 6
noncomputable def post : List VC := (flat lawC).drop 7
noncomputable def body : VC := match (flat lawC).drop 6 with
  | .block _ (.loop b) :: _ => b
  | _ => .skip
theorem lawL : flat lawC = pre ++ .block 0 (.loop body) :: post := by kernel_rfl
/-- what is known between rounds -/
noncomputable def fr (i : Nat) : LF := [some (markV 0 0 (.s [(90, 1)] 0) 1), some (markV 1 0 (.s [(91, 1)] 0) 1), some (.int .i64 (.s [(2, 1)] 0)), some (.int .i64 (.c (Int.ofNat i))), none, some (.ptr 2 0), some (.sl 3 0 8 8 true 1), none, none, none, none, none, none, none, none, none, none, none, none, none, none, none, none]
noncomputable def ms : St := ((((⟨.e, 4⟩ : St).put 0 (some (.cells [] .ro))).put 1 (some (.cells [] .ro))).put 2 (some (.cells (symLI 8 300) .own))).put 3 (some (.cells (symLI 8 300) .own))
noncomputable def frI (i : Nat) : LF := setN (setN (fr i) 0 (some (markV 0 (i + 1) (.s [(90, 1)] 0) 1))) 1 (some (markV 1 (i + 1) (.s [(91, 1)] 0) 1))
noncomputable def msI (i : Nat) : St := (ms.put 0 (some (.cells (symLI (i + 1) 100) .ro))).put 1 (some (.cells (symLI (i + 1) 200) .ro))
noncomputable def hkl (i q : Nat) : List (Nat × Int × AI) := [(100 + i, 10, cnd (Nat.blt q 10) (.c (Int.ofNat q)) (.s [(700 + i, 1)] 0)), (200 + i, 1000, .s [(400 + i, 1)] 0), (2, 30, .s [(50, 1)] 0)]
noncomputable def ovw (i q : Nat) : List (Nat × Int × Int) := cnd (Nat.blt q 10) [(600 + i, -12, 11)] [(100 + i, 12, 9223372036854775807), (700 + i, 0, 9)]
noncomputable def ovn (i r : Nat) : List (Nat × Int × Int) := match r with
  | 0 => [(500 + i, -10, 9), (400 + i, 0, 999)]
  | 1 => [(200 + i, 10, 2147483647), (400 + i, 0, 999)]
  | _ => [(200 + i, 2147483648, 9223372036854775807), (400 + i, 0, 999)]
noncomputable def ovt (i : Nat) (t : Bool) : List (Nat × Int × Int) := cnd t [(50, Int.ofNat i, Int.ofNat i)] []
noncomputable def ov (i q r : Nat) (t : Bool) : List (Nat × Int × Int) := (90, Int.ofNat i + 1, 9223372036854775807) :: (91, Int.ofNat i + 1, 9223372036854775807) :: (ovw i q ++ (ovn i r ++ ovt i t))
noncomputable def ors (i q r : Nat) (t : Bool) : List Orc := ⟨6, .s [(100 + i, 1)] 0, .c 13, cnd (Nat.blt q 10) (.s [(600 + i, 1)] 0) (.c 12)⟩ :: ⟨6, .s [(200 + i, 1)] 0, .c 11, cnd (Nat.beq r 0) (.s [(500 + i, 1)] 0) (.c 10)⟩ :: cnd t [] [⟨5, .c (Int.ofNat i), .s [(50, 1)] 0, .c 0⟩]
noncomputable def bdR (i q r : Nat) (t : Bool) : Bd := ⟨bO (ov i q r t), fun _ => ors i q r t⟩
noncomputable def rnd (i q r : Nat) (t : Bool) : Bool := toC 300 308 4 (fr (i + 1)) ms [0, 1] (exec (bdR i q r t) (callF (bdR i q r t) (tab (.hook (hookW (hkl i q)))).get 5000 60) 5000 body (frI i) (msI i))
noncomputable def rnds (i q : Nat) : Bool := rnd i q 0 true && rnd i q 0 false && rnd i q 1 true && rnd i q 1 false && rnd i q 2 true && rnd i q 2 false
/-- bounds of the lists' lengths alone -/
noncomputable def bdL (a b c d : Int) : Bd := ⟨bO [(90, a, b), (91, c, d)], fun _ => []⟩
noncomputable def tb0 : Tr VF := tab (.hook (hookW []))
noncomputable def beg : Bool := toC 300 308 4 (fr 0) ms [0, 1] (execL (bdL 1 9223372036854775807 1 9223372036854775807) (callF (bdL 1 9223372036854775807 1 9223372036854775807) tb0.get 5000 60) 5000 pre (frame [markV 0 0 (.s [(90, 1)] 0) 1, markV 1 0 (.s [(91, 1)] 0) 1, .int .i64 (.s [(2, 1)] 0)] lawV) st2)
noncomputable def exi (i : Nat) (a b c d : Int) : Bool := exT 0 lawR (bdL a b c d) (callF (bdL a b c d) tb0.get 5000 60) 5000 post (exec (bdL a b c d) (callF (bdL a b c d) tb0.get 5000 60) 5000 body (fr i) ms)
noncomputable def exA (i : Nat) : Bool := exi i 1 (Int.ofNat i) 1 9223372036854775807
noncomputable def exB (i : Nat) : Bool := exi i (Int.ofNat i + 1) 9223372036854775807 1 (Int.ofNat i)
noncomputable def exC : Bool := exi 24 25 9223372036854775807 25 9223372036854775807
noncomputable def sml (x y : AV) (st : St) : Bool := yes (callF (bdL 1 9223372036854775807 1 9223372036854775807) tb0.get 5000 60 6 [x, y, .int .i64 (.s [(2, 1)] 0)] st)
end Go.Proofs.Ytmbimlnanfholaa.meterCountsRun
