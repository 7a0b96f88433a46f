/- How the law VintLead is run. -/
import Derived.Test.YtmbimlnanfholaaVintLeadTab
namespace Go.Proofs.Ytmbimlnanfholaa.vintLeadRun
open Go.Vm Go.RowKit
set_option linter.unusedVariables false
set_option linter.unusedSimpArgs false
set_option maxRecDepth 1000000
noncomputable def dgB (i : Nat) (lo hi : Int) (m : Nat) : Int × Int := cnd (Nat.blt m i) (0, 0) (cnd (Nat.beq m i) (lo, hi) (cnd (Nat.beq m 0) (0, 63) (0, 255)))
noncomputable def bdl (L i : Nat) (lo hi : Int) : Nat → Int × Int := fun x => cnd (Nat.beq x 50) (dgB i lo hi 0) (cnd (Nat.ble 100 x) (dgB i lo hi (x - 99)) (cnd (Nat.beq x 90) (cnd (Nat.beq L 12) 12 0, 9223372036854775807) (-9223372036854775808, 9223372036854775807)))
noncomputable def runl (L t i : Nat) (lo hi : Int) (sa : AV) (st : St) : Bool := yes (callF (bdl L i lo hi) (tab (.hook (hookW []))).get 5000 60 11 [.int .u8 (.s [(50, 1)] (64 * (t : Int))), sa] st)
/-- the first digits are 0, one lies between two bounds -/
def Dig (dg : Nat → Int) (i : Nat) (lo hi : Int) : Prop := (∀ m, m < i → dg m = 0) ∧ lo ≤ dg i ∧ dg i ≤ hi
end Go.Proofs.Ytmbimlnanfholaa.vintLeadRun
