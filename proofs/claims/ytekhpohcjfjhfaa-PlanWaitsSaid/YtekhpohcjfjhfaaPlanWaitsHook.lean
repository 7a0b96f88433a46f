/- How the law PlanWaits is run, round by round. -/
import Derived.Test.YtekhpohcjfjhfaaPlanWaitsTab
namespace Go.Proofs.Ytekhpohcjfjhfaa.planWaitsRun
open Go.Vm Go.RowKit
set_option linter.unusedVariables false
set_option linter.unusedSimpArgs false
set_option maxRecDepth 1000000
noncomputable def lawC : VC := match vf5 with
  | .code _ _ c _ => c
  | _ => .skip
noncomputable def lawV : List Nat := match vf5 with
  | .code _ v _ _ => v
  | _ => []
noncomputable def lawR : List RV := match vf5 with
  | .code _ _ _ r => r
  | _ => []
noncomputable def loopOf (l : List VC) : VC := match l with
  | .block _ (.loop b) :: _ => b
  | _ => .skip
noncomputable def pre : List VC := (flat lawC).take 8
noncomputable def body1 : VC := loopOf ((flat lawC).drop 8)
noncomputable def mid : List VC := ((flat lawC).drop 9).take 3
noncomputable def body2 : VC := loopOf ((flat lawC).drop 12)
noncomputable def post : List VC := (flat lawC).drop 13
theorem lawL : flat lawC = pre ++ .block 0 (.loop body1) :: (mid ++ .block 2 (.loop body2) :: post) := by kernel_rfl
noncomputable def nones : Nat → LF
  | 0 => []
  | n + 1 => none :: nones n
noncomputable def sg (x : Nat) : AI := .s [(x, 1)] 0
noncomputable def iv (a : AI) : Option AV := some (.int .i64 a)
/-- L bytes are written; 50: the limit, 52: the chunk, 60: what is told, 61: the round -/
noncomputable def fr1 (L : Nat) : LF := some (.sl 4 0 L L false 1) :: iv (sg 50) :: iv (sg 52) :: some (.ptr 2 0) :: some (.ptr 1 0) :: iv (sg 60) :: none :: iv (sg 61) :: nones 13
noncomputable def fr2 (L : Nat) : LF := some (.sl 4 0 L L false 1) :: none :: iv (sg 52) :: some (.ptr 2 0) :: some (.ptr 1 0) :: iv (sg 60) :: iv (sg 61) :: none :: nones 13
noncomputable def ms (L : Nat) : St := (((((⟨.e, 5⟩ : St).put 0 (some (.cells [.nils] .own))).put 1 (some (.cells [.ptr 0 0, .int .i64 (sg 60)] .own))).put 2 (some (.cells [.sl 3 0 L L false 1, .int .i64 (.c 100), .int .i64 (.c 0), .bool true] .own))).put 3 (some (.cells [] .own))).put 4 (some (.cells [] .own))
noncomputable def tb0 : Tr VF := tab (.hook (hookW []))
noncomputable def tbL (L : Nat) : Tr VF := tab (.hook (hookW [(1, Int.ofNat L, sg 50), (2, 60, sg 51)]))
noncomputable def bdB (L : Nat) : Bd := ⟨bO [(50, 0, Int.ofNat L - 1), (51, 0, 59), (90, 50, 9223372036854775807)], fun _ => []⟩
noncomputable def beg (L : Nat) (x : AV) (st : St) : Bool := toX 52 62 5 (fr1 L) (ms L) [] (fun σ => isS σ 52 (.s [(51, 1)] 1) && isS σ 60 (.c 0) && isS σ 61 (.c 0) && noS σ 70) (execL (bdB L) (callF (bdB L) (tbL L).get 5000 60) 5000 pre (frame [x, .int .i64 (sg 1), .int .i64 (sg 2)] lawV) st)
noncomputable def bd1 (L : Nat) : Bd := ⟨bO [(50, 1, Int.ofNat L - 1), (52, 1, 60), (60, 0, Int.ofNat L - 2), (61, 0, 60), (70, 1, Int.ofNat L - 1)], fun _ => [⟨4, sg 50, sg 60, .c 0⟩, ⟨2, sg 50, .s [(52, 1), (60, 1)] 0, sg 70⟩, ⟨3, sg 50, sg 70, .c 0⟩]⟩
noncomputable def r70 (L : Nat) : AI := match L with
  | 2 => sg 50
  | _ => sg 70
noncomputable def rnd1 (L : Nat) : Bool := toX 52 62 5 (fr1 L) (ms L) [] (fun σ => isS σ 52 (sg 52) && isS σ 60 (r70 L) && isS σ 61 (.s [(61, 1)] 1) && noS σ 70) (exec (bd1 L) (callF (bd1 L) tb0.get 5000 60) 5000 body1 (fr1 L) (ms L))
noncomputable def bdX (L : Nat) : Bd := ⟨bO [(50, 0, Int.ofNat L - 1), (52, 1, 60), (60, 0, Int.ofNat L - 1), (61, 0, 60)], fun _ => [⟨4, sg 50, sg 60, .c 1⟩, ⟨5, sg 60, sg 50, .c 1⟩]⟩
noncomputable def ext1 (L : Nat) : Bool := toX 52 62 5 (fr2 L) (ms L) [] (fun σ => isS σ 52 (sg 52) && isS σ 60 (sg 60) && isS σ 61 (.c 0) && noS σ 70) (exN 0 (bdX L) (callF (bdX L) tb0.get 5000 60) 5000 mid (exec (bdX L) (callF (bdX L) tb0.get 5000 60) 5000 body1 (fr1 L) (ms L)))
noncomputable def bd2 (L : Nat) (lo hi : Int) : Bd := ⟨bO [(52, 1, 60), (60, 0, Int.ofNat L - 1), (61, 0, 60), (70, lo, hi)], fun _ => [⟨2, .c (Int.ofNat L + 1), .s [(52, 1), (60, 1)] 0, sg 70⟩]⟩
noncomputable def rnd2 (L : Nat) (lo hi : Int) (r : AI) : Bool := toX 52 62 5 (fr2 L) (ms L) [] (fun σ => isS σ 52 (sg 52) && isS σ 60 r && isS σ 61 (.s [(61, 1)] 1) && noS σ 70) (exec (bd2 L lo hi) (callF (bd2 L lo hi) tb0.get 5000 60) 5000 body2 (fr2 L) (ms L))
noncomputable def rndB (L : Nat) : Bool := rnd2 L 1 (Int.ofNat L - 1) (sg 70)
noncomputable def rndC (L : Nat) : Bool := rnd2 L (Int.ofNat L) (Int.ofNat L) (.s [(70, 1)] 1)
noncomputable def rndD (L : Nat) : Bool := rnd2 L (Int.ofNat L + 1) (Int.ofNat L + 1) (sg 70)
noncomputable def bdY (L : Nat) : Bd := ⟨bO [(52, 1, 60), (60, Int.ofNat L + 1, Int.ofNat L + 1), (61, 0, 60)], fun _ => []⟩
noncomputable def ext2 (L : Nat) : Bool := exT 2 lawR (bdY L) (callF (bdY L) tb0.get 5000 60) 5000 post (exec (bdY L) (callF (bdY L) tb0.get 5000 60) 5000 body2 (fr2 L) (ms L))
end Go.Proofs.Ytekhpohcjfjhfaa.planWaitsRun
