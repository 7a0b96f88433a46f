/- VintBack, walked. -/
import Derived.Test.YthcikbgcfgmgoaaCtBk
import Derived.WalkKit
import Derived.ProofKit
namespace Go.Proofs.Ythcikbgcfgmgoaa.vintBackRun
open Go.Vm Go.RowKit Go.Proofs.Ythcikbgcfgmgoaa.ctr
set_option linter.unusedVariables false
set_option linter.unusedSimpArgs false
theorem mixed : Try.prog.follows .mixedOrders = true := by kernel_rfl
theorem walk (a0 a1 a2 a3 : Int) (w : World) (w0 : (Lit.int .i64 a0).wf = true) (w1 : (Lit.int .i64 a1).wf = true) (w2 : (Lit.int .u8 a2).wf = true) (w3 : (Lit.int .i64 a3).wf = true) :
    Calls Try.prog 3 #[.int .i64 a0, .int .i64 a1, .int .u8 a2, .int .i64 a3] w fun e w' => e = .returned (.bool true) ∧ Below w.heap.size w w' := by
  have g := Arg0.start w
  have h := back (bd := bd0) (fu := 5000) 40 st0 a0 a1 a2 a3 (wf64 w0) (wf64 w1) (wf8 w2) (wf64 w3) (by omega)
  exact law_okE bd0_ok mixed (tab_all rho0) t3 g.hr g.own (.cons vr_int (.cons vr_int (.cons vr_int (.cons vr_int .nil)))) (yes_of' h fun _ _ h => h)
end Go.Proofs.Ythcikbgcfgmgoaa.vintBackRun
