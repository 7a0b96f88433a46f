/- The function that brings a number into a range, as it is. -/
import Derived.Test.YtekhpohcjfjhfaaChecked
import Derived.WalkKit
import Derived.ProofKit
namespace Go.Proofs.Ytekhpohcjfjhfaa.planWaitsRun
open Go.RowKit
set_option linter.unusedVariables false
set_option linter.unusedSimpArgs false
set_option maxRecDepth 1000000
theorem mixed : Try.prog.follows .mixedOrders = true := by kernel_rfl
theorem tmod_mod (a m : Int) : a.tmod m % m = a % m := by
  rw [Int.tmod_def]
  exact Int.sub_mul_emod_self_left a m (a.tdiv m)
theorem within_pos {a m : Int} (h1 : 1 ≤ m) (h : 0 ≤ a.tmod m) : a.tmod m = a % m := by
  rw [← tmod_mod, Int.emod_eq_of_lt h (Int.tmod_lt_of_pos a (by omega))]
theorem tmod_gt (a : Int) {m : Int} (h1 : 1 ≤ m) : -m < a.tmod m := by
  have h := Int.tmod_lt_of_pos (-a) (show 0 < m by omega)
  rw [Int.neg_tmod] at h
  omega
theorem within_neg {a m : Int} (h1 : 1 ≤ m) (h2 : m ≤ 4611686018427387904) (h : a.tmod m < 0) : wrap64 (a.tmod m + m) = a % m := by
  have h3 := tmod_gt a h1
  have e : (a.tmod m + m) % m = a % m := by rw [Int.add_emod_right, tmod_mod]
  rw [← e, Int.emod_eq_of_lt (by omega) (by omega)]
  unfold wrap64
  omega
theorem within (a m : Int) (ha : (Lit.int .i64 a).wf = true) (h1 : 1 ≤ m) (h2 : m ≤ 4611686018427387904) (w : World) :
    Calls Try.prog 17 #[.int .i64 a, .int .i64 m] w fun e w' => e = .returned (.int .i64 (a % m)) ∧ w' = w := by
  go_enter Try.func17, Try.ntmps17
  go_wp2
  · rename_i _ h
    exact bodyPost_ret (results_tmp (rfl : Try.f17.results = #[.tmp 4]) _ _ _) rfl ⟨congrArg (fun z => Ending.returned (.int .i64 z)) (within_neg h1 h2 h), rfl⟩
  · rename_i _ h
    exact bodyPost_ret (results_tmp (rfl : Try.f17.results = #[.tmp 4]) _ _ _) rfl ⟨congrArg (fun z => Ending.returned (.int .i64 z)) (within_pos h1 h), rfl⟩
end Go.Proofs.Ytekhpohcjfjhfaa.planWaitsRun
