/- ReplayLive, walked. -/
import Derived.Test.YtlgbkpaihjnjpaaGreatCtii
import Derived.WalkKit
import Derived.ProofKit
set_option linter.unusedVariables false
set_option linter.unusedSimpArgs false
set_option linter.unusedSectionVars false
set_option linter.constructorNameAsVariable false
set_option linter.defProp false
namespace Go.Proofs.YtlgbkpaihjnjpaaGreat.replayLiveRun
open Go.Vm Go.RowKit Go.Proofs.YtlgbkpaihjnjpaaGreat.ctr
theorem mixed:Tryz.prog.follows .mixedOrders=true:=by kernel_rfl
theorem walk (b1 b2 b3 b4 b5 b6 b7 side:Int) (a1:Option Addr) (len1 cap1:Nat) (z1:Nat→Value) (w:World) (w1:(Lit.int .i64 b1).wf=true) (w2:(Lit.int .i64 b2).wf=true) (w3:(Lit.int .i64 b3).wf=true) (w4:(Lit.int .i64 b4).wf=true) (w5:(Lit.int .i64 b5).wf=true) (w6:(Lit.int .i64 b6).wf=true) (w7:(Lit.int .i64 b7).wf=true) (w8:(Lit.int .i64 side).wf=true) (hq1:IsRowV w a1 len1 cap1 13 z1) (hk1:∀ i,i<cap1*13→FkOk w (actK.getD (i%13) .i) (z1 i)) :
  Calls Tryz.prog 3 #[.agg #[.int .i64 b1,.int .i64 b2,.int .i64 b3,.int .i64 b4,.int .i64 b5,.int .i64 b6,.int .i64 b7],.int .i64 side,.slice a1 len1 cap1] w fun e w'=>e = .returned (.bool true)∧Below w.heap.size w w':=by
 obtain ⟨v1,E1,s1,L1,g1,l1,f1,r1,d1,i1⟩:=(Arg0.start w).acts24 hq1 hk1
 have h:=live24 (bd:=bd0) (fu:=2000000) srt_ok 40 s1 b1 b2 b3 b4 b5 b6 b7 side v1 _ d1 i1 (wf64 w1) (wf64 w2) (wf64 w3) (wf64 w4) (wf64 w5) (wf64 w6) (wf64 w7) (wf64 w8) (by omega)
 exact law_okE bd0_ok mixed (tabS_all rho0) (t3 srt) g1.hr g1.own (.cons (.agg (xs:=[.int .i64 b1,.int .i64 b2,.int .i64 b3,.int .i64 b4,.int .i64 b5,.int .i64 b6,.int .i64 b7]) (.cons vr_int (.cons vr_int (.cons vr_int (.cons vr_int (.cons vr_int (.cons vr_int (.cons vr_int .nil))))))) (by intro c hc; simp only[List.mem_cons,List.not_mem_nil,or_false] at hc; rcases hc with rfl | rfl | rfl | rfl | rfl | rfl | rfl <;> rfl)) (.cons vr_int (.cons r1 .nil))) (yes_of' h fun _ _ h=>h)
end Go.Proofs.YtlgbkpaihjnjpaaGreat.replayLiveRun
