/- VintTells, walked. -/
import Derived.Test.YtekhpohcjfjhfabCtVi
import Derived.SizedLaws
import Derived.WalkKit
import Derived.ProofKit
namespace Go.Proofs.Ytekhpohcjfjhfab.ctr
open Go Go.Vm Go.RowKit
set_option linter.unusedVariables false
set_option linter.constructorNameAsVariable false
set_option linter.unusedSimpArgs false
def zigV (n : Int) : Int := if n < -2305843009213693952 ∨ 2305843009213693951 < n then -1 else if n < 0 then -2 * n - 1 else 2 * n
def zagV (m : Int) : Int := if m < 0 ∨ 4611686018427387903 < m then 0 else if m.tmod 2 = 1 then (0 - (m + 1)).tdiv 2 else m.tdiv 2
theorem vlt_out {s : St} {v : AV} {fp : List Nat} (h : vlt s v) (hn : Nw s [] fp) : vout fp v := by
  cases v <;> try trivial
  intro hm
  rcases hn _ hm with h1 | h1
  · simp at h1
  · exact absurd h (by show ¬ _ < _; omega)
section
open Go.ChangeShapes Go.WideShapes
variable {H : Type} {enc : TypeId × Value → H} {P : Program} {w : World} {base : Nat} {held : Bool}
/-- what a slice of bytes among the arguments weighs bounds its length -/
theorem weight_len {k : IntKind} {t e : TypeId} {fuel : Nat} {a : Option Addr} {len cap : Nat} {x : DataW H × List MemPlace} (ht : P.underlying t = some (.slice e)) (he : P.underlying e = some (.int k)) (hc : P.cellsOf e = 1) (hb : P.bytesOf e = 1)
    (h : DataW.trod enc P w base (fun _ => true) held fuel t [.slice a len cap] = some x) (hw : (x.1.weights P t).all (· ≤ reachBytes) = true) : len ≤ 140737488355328 := by
  rcases open_ints ht he hc h with ⟨hcs, _⟩ | ⟨y, l, c, zs, hcs, _, hl, hm, hz, rfl, _, _⟩
  · cases hcs; omega
  · cases hcs
    have hzl : zs.length = cap := by simpa using hz
    simp only [DataW.weights, ht, List.all_cons, Bool.and_eq_true, decide_eq_true_eq, hb] at hw
    have h1 := hw.1
    simp [lits] at h1
    have hr : reachBytes = 140737488351232 := rfl
    omega
end
section
variable {bd : Bd} {fu : Nat}
theorem v_zig (n : Nat) (s : St) (x : Int) (hx : In64 x) : OutOk (callF bd tab.get fu (n + 1) 18 [num x] s) (fun y s' => Is y (num (zigV x)) ∧ Is s' s) := by
  refine call_code t18 rfl ?_
  obtain ⟨x1, x2⟩ := hx
  unfold zigV
  by_cases h1 : x < -2305843009213693952
  · simp (disch := omega) only [vm0, vm1, vm2, vm3, vm4, vm5, vm6, vm7, fPick, fBox, fBuild, fBsl, fLd, fLda, fSt, fNilc, fBin, fEq, fUn, fMkf, fFa, fFld, fFlda, fExt, evo, wr, wrC, frame, Bool.not_true, Bool.not_false, beq_self_eq_true, List.cons_append, List.nil_append, Nat.add_zero, Nat.zero_add, Nat.reduceAdd, Nat.reduceMul, Nat.reduceSub, Bool.and_true, Bool.true_and, Bool.and_self, beq_dec, fApp, Int.toNat_natCast, Nat.sub_zero, vmI, vc18]
    exact ⟨by rw [if_pos (.inl h1)]; rfl, rfl⟩
  · by_cases h2 : 2305843009213693951 < x
    · simp (disch := omega) only [vm0, vm1, vm2, vm3, vm4, vm5, vm6, vm7, fPick, fBox, fBuild, fBsl, fLd, fLda, fSt, fNilc, fBin, fEq, fUn, fMkf, fFa, fFld, fFlda, fExt, evo, wr, wrC, frame, Bool.not_true, Bool.not_false, beq_self_eq_true, List.cons_append, List.nil_append, Nat.add_zero, Nat.zero_add, Nat.reduceAdd, Nat.reduceMul, Nat.reduceSub, Bool.and_true, Bool.true_and, Bool.and_self, beq_dec, fApp, Int.toNat_natCast, Nat.sub_zero, vmI, vc18]
      exact ⟨by rw [if_pos (.inr h2)]; rfl, rfl⟩
    · rw [if_neg (by omega)]
      by_cases h3 : x < 0
      · rw [if_pos h3]
        simp (disch := omega) only [vm0, vm1, vm2, vm3, vm4, vm5, vm6, vm7, fPick, fBox, fBuild, fBsl, fLd, fLda, fSt, fNilc, fBin, fEq, fUn, fMkf, fFa, fFld, fFlda, fExt, evo, wr, wrC, frame, Bool.not_true, Bool.not_false, beq_self_eq_true, List.cons_append, List.nil_append, Nat.add_zero, Nat.zero_add, Nat.reduceAdd, Nat.reduceMul, Nat.reduceSub, Bool.and_true, Bool.true_and, Bool.and_self, beq_dec, fApp, Int.toNat_natCast, Nat.sub_zero, vmI, vc18]
        exact ⟨rfl, rfl⟩
      · rw [if_neg h3]
        simp (disch := omega) only [vm0, vm1, vm2, vm3, vm4, vm5, vm6, vm7, fPick, fBox, fBuild, fBsl, fLd, fLda, fSt, fNilc, fBin, fEq, fUn, fMkf, fFa, fFld, fFlda, fExt, evo, wr, wrC, frame, Bool.not_true, Bool.not_false, beq_self_eq_true, List.cons_append, List.nil_append, Nat.add_zero, Nat.zero_add, Nat.reduceAdd, Nat.reduceMul, Nat.reduceSub, Bool.and_true, Bool.true_and, Bool.and_self, beq_dec, fApp, Int.toNat_natCast, Nat.sub_zero, vmI, vc18]
        exact ⟨rfl, rfl⟩
theorem w_zig (n : Nat) (s : St) (x : Int) (hx : In64 x) : OutOk (callF bd tab.get fu (n + 1) 19 [num x] s) (fun y s' => Is y (num (zigV x)) ∧ Is s' s) := by
  refine call_code t19 rfl ?_
  obtain ⟨x1, x2⟩ := hx
  unfold zigV
  by_cases h1 : x < -2305843009213693952
  · simp (disch := omega) only [vm0, vm1, vm2, vm3, vm4, vm5, vm6, vm7, fPick, fBox, fBuild, fBsl, fLd, fLda, fSt, fNilc, fBin, fEq, fUn, fMkf, fFa, fFld, fFlda, fExt, evo, wr, wrC, frame, Bool.not_true, Bool.not_false, beq_self_eq_true, List.cons_append, List.nil_append, Nat.add_zero, Nat.zero_add, Nat.reduceAdd, Nat.reduceMul, Nat.reduceSub, Bool.and_true, Bool.true_and, Bool.and_self, beq_dec, fApp, Int.toNat_natCast, Nat.sub_zero, vmI, vc19]
    exact ⟨by rw [if_pos (.inl h1)]; rfl, rfl⟩
  · by_cases h2 : 2305843009213693951 < x
    · simp (disch := omega) only [vm0, vm1, vm2, vm3, vm4, vm5, vm6, vm7, fPick, fBox, fBuild, fBsl, fLd, fLda, fSt, fNilc, fBin, fEq, fUn, fMkf, fFa, fFld, fFlda, fExt, evo, wr, wrC, frame, Bool.not_true, Bool.not_false, beq_self_eq_true, List.cons_append, List.nil_append, Nat.add_zero, Nat.zero_add, Nat.reduceAdd, Nat.reduceMul, Nat.reduceSub, Bool.and_true, Bool.true_and, Bool.and_self, beq_dec, fApp, Int.toNat_natCast, Nat.sub_zero, vmI, vc19]
      exact ⟨by rw [if_pos (.inr h2)]; rfl, rfl⟩
    · rw [if_neg (by omega)]
      by_cases h3 : x < 0
      · rw [if_pos h3]
        simp (disch := omega) only [vm0, vm1, vm2, vm3, vm4, vm5, vm6, vm7, fPick, fBox, fBuild, fBsl, fLd, fLda, fSt, fNilc, fBin, fEq, fUn, fMkf, fFa, fFld, fFlda, fExt, evo, wr, wrC, frame, Bool.not_true, Bool.not_false, beq_self_eq_true, List.cons_append, List.nil_append, Nat.add_zero, Nat.zero_add, Nat.reduceAdd, Nat.reduceMul, Nat.reduceSub, Bool.and_true, Bool.true_and, Bool.and_self, beq_dec, fApp, Int.toNat_natCast, Nat.sub_zero, vmI, vc19]
        exact ⟨rfl, rfl⟩
      · rw [if_neg h3]
        simp (disch := omega) only [vm0, vm1, vm2, vm3, vm4, vm5, vm6, vm7, fPick, fBox, fBuild, fBsl, fLd, fLda, fSt, fNilc, fBin, fEq, fUn, fMkf, fFa, fFld, fFlda, fExt, evo, wr, wrC, frame, Bool.not_true, Bool.not_false, beq_self_eq_true, List.cons_append, List.nil_append, Nat.add_zero, Nat.zero_add, Nat.reduceAdd, Nat.reduceMul, Nat.reduceSub, Bool.and_true, Bool.true_and, Bool.and_self, beq_dec, fApp, Int.toNat_natCast, Nat.sub_zero, vmI, vc19]
        exact ⟨rfl, rfl⟩
theorem v_zag (n : Nat) (s : St) (x : Int) (hx : In64 x) : OutOk (callF bd tab.get fu (n + 1) 20 [num x] s) (fun y s' => Is y (num (zagV x)) ∧ Is s' s) := by
  refine call_code t20 rfl ?_
  obtain ⟨x1, x2⟩ := hx
  have h20 : (2 : Int) ≠ 0 := by decide
  unfold zagV
  by_cases h1 : x < 0
  · simp (disch := omega) only [vm0, vm1, vm2, vm3, vm4, vm5, vm6, vm7, fPick, fBox, fBuild, fBsl, fLd, fLda, fSt, fNilc, fBin, fEq, fUn, fMkf, fFa, fFld, fFlda, fExt, evo, wr, wrC, frame, Bool.not_true, Bool.not_false, beq_self_eq_true, List.cons_append, List.nil_append, Nat.add_zero, Nat.zero_add, Nat.reduceAdd, Nat.reduceMul, Nat.reduceSub, Bool.and_true, Bool.true_and, Bool.and_self, beq_dec, fApp, Int.toNat_natCast, Nat.sub_zero, vmI, vc20]
    exact ⟨by rw [if_pos (.inl h1)]; rfl, rfl⟩
  · by_cases h2 : 4611686018427387903 < x
    · simp (disch := omega) only [vm0, vm1, vm2, vm3, vm4, vm5, vm6, vm7, fPick, fBox, fBuild, fBsl, fLd, fLda, fSt, fNilc, fBin, fEq, fUn, fMkf, fFa, fFld, fFlda, fExt, evo, wr, wrC, frame, Bool.not_true, Bool.not_false, beq_self_eq_true, List.cons_append, List.nil_append, Nat.add_zero, Nat.zero_add, Nat.reduceAdd, Nat.reduceMul, Nat.reduceSub, Bool.and_true, Bool.true_and, Bool.and_self, beq_dec, fApp, Int.toNat_natCast, Nat.sub_zero, vmI, vc20]
      exact ⟨by rw [if_pos (.inr h2)]; rfl, rfl⟩
    · rw [if_neg (by omega)]
      have q1 : -9223372036854775808 ≤ (0 - (x + 1)).tdiv 2 ∧ (0 - (x + 1)).tdiv 2 ≤ 9223372036854775807 := by
        rw [Int.zero_sub, Int.neg_tdiv, Int.tdiv_eq_ediv_of_nonneg (by omega)]; omega
      have q2 : -9223372036854775808 ≤ x.tdiv 2 ∧ x.tdiv 2 ≤ 9223372036854775807 := by
        rw [Int.tdiv_eq_ediv_of_nonneg (by omega)]; omega
      obtain ⟨A, hA⟩ : ∃ A, (0 - (x + 1)).tdiv 2 = A := ⟨_, rfl⟩
      obtain ⟨B, hB⟩ : ∃ B, x.tdiv 2 = B := ⟨_, rfl⟩
      obtain ⟨r, hr⟩ : ∃ r, x.tmod 2 = r := ⟨_, rfl⟩
      rw [hA] at q1 ⊢
      rw [hB] at q2 ⊢
      rw [hr]
      by_cases h3 : r = 1
      · rw [if_pos h3]
        simp (disch := omega) only [vm0, vm1, vm2, vm3, vm4, vm5, vm6, vm7, fPick, fBox, fBuild, fBsl, fLd, fLda, fSt, fNilc, fBin, fEq, fUn, fMkf, fFa, fFld, fFlda, fExt, evo, wr, wrC, frame, Bool.not_true, Bool.not_false, beq_self_eq_true, List.cons_append, List.nil_append, Nat.add_zero, Nat.zero_add, Nat.reduceAdd, Nat.reduceMul, Nat.reduceSub, Bool.and_true, Bool.true_and, Bool.and_self, beq_dec, fApp, Int.toNat_natCast, Nat.sub_zero, vmI, vc20, b_rem h20, b_quo h20, hr, hA, hB]
        exact ⟨rfl, rfl⟩
      · rw [if_neg h3]
        simp (disch := omega) only [vm0, vm1, vm2, vm3, vm4, vm5, vm6, vm7, fPick, fBox, fBuild, fBsl, fLd, fLda, fSt, fNilc, fBin, fEq, fUn, fMkf, fFa, fFld, fFlda, fExt, evo, wr, wrC, frame, Bool.not_true, Bool.not_false, beq_self_eq_true, List.cons_append, List.nil_append, Nat.add_zero, Nat.zero_add, Nat.reduceAdd, Nat.reduceMul, Nat.reduceSub, Bool.and_true, Bool.true_and, Bool.and_self, beq_dec, fApp, Int.toNat_natCast, Nat.sub_zero, vmI, vc20, b_rem h20, b_quo h20, hr, hA, hB]
        exact ⟨rfl, rfl⟩
theorem w_zag (n : Nat) (s : St) (x : Int) (hx : In64 x) : OutOk (callF bd tab.get fu (n + 1) 21 [num x] s) (fun y s' => Is y (num (zagV x)) ∧ Is s' s) := by
  refine call_code t21 rfl ?_
  obtain ⟨x1, x2⟩ := hx
  have h20 : (2 : Int) ≠ 0 := by decide
  unfold zagV
  by_cases h1 : x < 0
  · simp (disch := omega) only [vm0, vm1, vm2, vm3, vm4, vm5, vm6, vm7, fPick, fBox, fBuild, fBsl, fLd, fLda, fSt, fNilc, fBin, fEq, fUn, fMkf, fFa, fFld, fFlda, fExt, evo, wr, wrC, frame, Bool.not_true, Bool.not_false, beq_self_eq_true, List.cons_append, List.nil_append, Nat.add_zero, Nat.zero_add, Nat.reduceAdd, Nat.reduceMul, Nat.reduceSub, Bool.and_true, Bool.true_and, Bool.and_self, beq_dec, fApp, Int.toNat_natCast, Nat.sub_zero, vmI, vc21]
    exact ⟨by rw [if_pos (.inl h1)]; rfl, rfl⟩
  · by_cases h2 : 4611686018427387903 < x
    · simp (disch := omega) only [vm0, vm1, vm2, vm3, vm4, vm5, vm6, vm7, fPick, fBox, fBuild, fBsl, fLd, fLda, fSt, fNilc, fBin, fEq, fUn, fMkf, fFa, fFld, fFlda, fExt, evo, wr, wrC, frame, Bool.not_true, Bool.not_false, beq_self_eq_true, List.cons_append, List.nil_append, Nat.add_zero, Nat.zero_add, Nat.reduceAdd, Nat.reduceMul, Nat.reduceSub, Bool.and_true, Bool.true_and, Bool.and_self, beq_dec, fApp, Int.toNat_natCast, Nat.sub_zero, vmI, vc21]
      exact ⟨by rw [if_pos (.inr h2)]; rfl, rfl⟩
    · rw [if_neg (by omega)]
      have q1 : -9223372036854775808 ≤ (0 - (x + 1)).tdiv 2 ∧ (0 - (x + 1)).tdiv 2 ≤ 9223372036854775807 := by
        rw [Int.zero_sub, Int.neg_tdiv, Int.tdiv_eq_ediv_of_nonneg (by omega)]; omega
      have q2 : -9223372036854775808 ≤ x.tdiv 2 ∧ x.tdiv 2 ≤ 9223372036854775807 := by
        rw [Int.tdiv_eq_ediv_of_nonneg (by omega)]; omega
      obtain ⟨A, hA⟩ : ∃ A, (0 - (x + 1)).tdiv 2 = A := ⟨_, rfl⟩
      obtain ⟨B, hB⟩ : ∃ B, x.tdiv 2 = B := ⟨_, rfl⟩
      obtain ⟨r, hr⟩ : ∃ r, x.tmod 2 = r := ⟨_, rfl⟩
      rw [hA] at q1 ⊢
      rw [hB] at q2 ⊢
      rw [hr]
      by_cases h3 : r = 1
      · rw [if_pos h3]
        simp (disch := omega) only [vm0, vm1, vm2, vm3, vm4, vm5, vm6, vm7, fPick, fBox, fBuild, fBsl, fLd, fLda, fSt, fNilc, fBin, fEq, fUn, fMkf, fFa, fFld, fFlda, fExt, evo, wr, wrC, frame, Bool.not_true, Bool.not_false, beq_self_eq_true, List.cons_append, List.nil_append, Nat.add_zero, Nat.zero_add, Nat.reduceAdd, Nat.reduceMul, Nat.reduceSub, Bool.and_true, Bool.true_and, Bool.and_self, beq_dec, fApp, Int.toNat_natCast, Nat.sub_zero, vmI, vc21, b_rem h20, b_quo h20, hr, hA, hB]
        exact ⟨rfl, rfl⟩
      · rw [if_neg h3]
        simp (disch := omega) only [vm0, vm1, vm2, vm3, vm4, vm5, vm6, vm7, fPick, fBox, fBuild, fBsl, fLd, fLda, fSt, fNilc, fBin, fEq, fUn, fMkf, fFa, fFld, fFlda, fExt, evo, wr, wrC, frame, Bool.not_true, Bool.not_false, beq_self_eq_true, List.cons_append, List.nil_append, Nat.add_zero, Nat.zero_add, Nat.reduceAdd, Nat.reduceMul, Nat.reduceSub, Bool.and_true, Bool.true_and, Bool.and_self, beq_dec, fApp, Int.toNat_natCast, Nat.sub_zero, vmI, vc21, b_rem h20, b_quo h20, hr, hA, hB]
        exact ⟨rfl, rfl⟩
noncomputable def vc5t : VC := (.seq (.reg [.i (.call (.c (.fn 23 [] [])) [(.w 2)])] [(6, (.t 0))]) (.seq (.reg [.i (.call (.c (.fn 11 [] [])) [(.w 6)]), .i (.ext 0 (.t 0)), .i (.ext 1 (.t 1)), .i (.ext 2 (.t 2))] [(9, (.t 2)), (11, (.t 1)), (13, (.t 0))]) (.seq (.reg [.i (.call (.c (.fn 24 [] [])) [(.w 2)]), .i (.ext 0 (.t 0)), .i (.ext 1 (.t 1)), .i (.ext 2 (.t 2))] [(10, (.t 2)), (12, (.t 1)), (14, (.t 0))]) (.seq (.reg [.i (.bin .eql (.w 9) (.w 10)), .g (.t 0) true (.mv (.w 11)), .g (.t 1) true (.mv (.w 12)), .g (.t 2) true (.bin .eql (.t 1) (.t 0)), .i (.pick (.t 3) (.t 0) (.c (.bool false))), .g (.t 0) true (.mv (.w 13)), .g (.t 1) true (.mv (.w 14)), .g (.t 2) true (.eq false .b (.t 1) (.t 0)), .i (.pick (.t 3) (.t 0) (.c (.bool false))), .g (.t 0) true (.mv (.w 6)), .g (.t 1) true (.mv (.w 2)), .g (.t 2) true (.call (.c (.fn 25 [] [])) [(.t 1), (.t 0)]), .i (.pick (.t 3) (.t 0) (.c (.bool false))), .g (.t 0) true (.call (.c (.fn 12 [] [])) []), .i (.pick (.t 1) (.t 0) (.c (.bool false)))] [(15, (.t 0))]) .ret))))
theorem vc5_eq : vc5 = (.seq (.reg [] [(15, (.c (.bool false)))]) (.seq (.reg [.i (.call (.c (.fn 9 [] [])) [(.w 0), (.w 1)])] [(0, (.t 0))]) (.seq (.reg [.i (.call (.c (.fn 10 [] [])) [(.w 0)])] [(5, (.t 0))]) (.seq (.seq (.reg [.i (.call (.c (.fn 16 [] [])) [(.w 0)]), .i (.call (.c (.fn 15 [] [])) [(.w 5), (.t 0)]), .i (.un .not (.t 0)), .g (.t 0) false (.mv (.w 0)), .g (.t 1) false (.call (.c (.fn 13 [] [])) [(.t 0)]), .g (.t 2) false (.mv (.w 0)), .g (.t 3) false (.call (.c (.fn 17 [] [])) [(.t 0)]), .g (.t 4) false (.bin .neq (.t 2) (.t 0)), .i (.pick (.t 5) (.c (.bool true)) (.t 0)), .g (.t 0) false (.mv (.w 0)), .g (.t 1) false (.call (.c (.fn 18 [] [])) [(.t 0)]), .g (.t 2) false (.mv (.w 0)), .g (.t 3) false (.call (.c (.fn 19 [] [])) [(.t 0)]), .g (.t 4) false (.bin .neq (.t 2) (.t 0)), .i (.pick (.t 5) (.c (.bool true)) (.t 0)), .g (.t 0) false (.mv (.w 0)), .g (.t 1) false (.call (.c (.fn 20 [] [])) [(.t 0)]), .g (.t 2) false (.mv (.w 0)), .g (.t 3) false (.call (.c (.fn 21 [] [])) [(.t 0)]), .g (.t 4) false (.bin .neq (.t 2) (.t 0)), .i (.pick (.t 5) (.c (.bool true)) (.t 0))] [(7, (.t 0))]) (.cond (.w 7) (.seq (.reg [] [(15, (.c (.bool false)))]) .ret) .skip)) (.seq (.seq (.reg [.i (.un .not (.w 4))] [(8, (.t 0))]) (.cond (.w 8) (.reg [.i (.call (.c (.fn 14 [] [])) [(.w 5)]), .i (.bsl [.int .u8 (.c 0)] 1 1 [(0, 1, (.w 3))]), .i (.app 1 1 (.t 1) (.t 0)), .i (.call (.c (.fn 22 [] [])) [(.w 2), (.c (.int .i64 (.c 3)))]), .i (.app 1 1 (.t 1) (.t 0))] [(2, (.t 0))]) .skip)) vc5t))))) := rfl
theorem tells_t (n : Nat) (s : St) (v : AV) (l : List Int) (f0 f1 f3 f4 f5 f7 f8 : Option AV) (hv : RdE s v 1 encB l) (h8 : ∀ x ∈ l, In8 x) (hl : l.length ≤ 140737488355328) (hfu : l.length + 20 < fu) :
    RsOk (exec bd (callF bd tab.get fu (n + 4)) fu vc5t [f0, f1, some v, f3, f4, f5, none, f7, f8, none, none, none, none, none, none, some (.bool false)] s) (retQ [.tmp 15] fun x s' => Is x (.bool true)) := by
  simp (disch := omega) only [vm0, vm1, vm2, vm3, vm4, vm5, vm6, vm7, fPick, fBox, fBuild, fBsl, fLd, fLda, fSt, fNilc, fBin, fEq, fUn, fMkf, fFa, fFld, fFlda, fExt, evo, wr, wrC, frame, Bool.not_true, Bool.not_false, beq_self_eq_true, List.cons_append, List.nil_append, Nat.add_zero, Nat.zero_add, Nat.reduceAdd, Nat.reduceMul, Nat.reduceSub, Bool.and_true, Bool.true_and, Bool.and_self, beq_dec, fApp, Int.toNat_natCast, Nat.sub_zero, vmI, vc5t]
  refine call_ok rfl rfl (lend (n + 3) s v l hv hl (by omega)) ?_
  rintro x s1 ⟨b, rfl, q1, q2, q3, q4⟩
  have k1 := hv.fr0 q4
  simp (disch := omega) only [vm0, vm1, vm2, vm3, vm4, vm5, vm6, vm7, fPick, fBox, fBuild, fBsl, fLd, fLda, fSt, fNilc, fBin, fEq, fUn, fMkf, fFa, fFld, fFlda, fExt, evo, wr, wrC, frame, Bool.not_true, Bool.not_false, beq_self_eq_true, List.cons_append, List.nil_append, Nat.add_zero, Nat.zero_add, Nat.reduceAdd, Nat.reduceMul, Nat.reduceSub, Bool.and_true, Bool.true_and, Bool.and_self, beq_dec, fApp, Int.toNat_natCast, Nat.sub_zero, vmI]
  refine call_ok rfl rfl (v_take (n + 1) s1 _ l (lent_rd q1 q3) h8 (by omega) (by omega)) ?_
  rintro y s2 ⟨rfl, hf⟩
  have q5 := (hf.get q3 (by simp)).trans q1
  have k2 := k1.fr0 hf
  simp (disch := omega) only [vm0, vm1, vm2, vm3, vm4, vm5, vm6, vm7, fPick, fBox, fBuild, fBsl, fLd, fLda, fSt, fNilc, fBin, fEq, fUn, fMkf, fFa, fFld, fFlda, fExt, evo, wr, wrC, frame, Bool.not_true, Bool.not_false, beq_self_eq_true, List.cons_append, List.nil_append, Nat.add_zero, Nat.zero_add, Nat.reduceAdd, Nat.reduceMul, Nat.reduceSub, Bool.and_true, Bool.true_and, Bool.and_self, beq_dec, fApp, Int.toNat_natCast, Nat.sub_zero, vmI]
  refine call_ok rfl rfl (w_take (n + 2) s2 v l k2 h8 (by omega) (by omega)) ?_
  rintro y s3 ⟨rfl, rfl⟩
  generalize takeV l = T at *
  simp (disch := omega) only [vm0, vm1, vm2, vm3, vm4, vm5, vm6, vm7, fPick, fBox, fBuild, fBsl, fLd, fLda, fSt, fNilc, fBin, fEq, fUn, fMkf, fFa, fFld, fFlda, fExt, evo, wr, wrC, frame, Bool.not_true, Bool.not_false, beq_self_eq_true, List.cons_append, List.nil_append, Nat.add_zero, Nat.zero_add, Nat.reduceAdd, Nat.reduceMul, Nat.reduceSub, Bool.and_true, Bool.true_and, Bool.and_self, beq_dec, fApp, Int.toNat_natCast, Nat.sub_zero, vmI]
  refine call_ok rfl rfl (intact (n + 3) s3 v l b k2 hl q5 (Nat.lt_of_lt_of_le q3 hf.1) (by omega)) ?_
  rintro z s4 ⟨rfl, rfl⟩
  simp (disch := omega) only [vm0, vm1, vm2, vm3, vm4, vm5, vm6, vm7, fPick, fBox, fBuild, fBsl, fLd, fLda, fSt, fNilc, fBin, fEq, fUn, fMkf, fFa, fFld, fFlda, fExt, evo, wr, wrC, frame, Bool.not_true, Bool.not_false, beq_self_eq_true, List.cons_append, List.nil_append, Nat.add_zero, Nat.zero_add, Nat.reduceAdd, Nat.reduceMul, Nat.reduceSub, Bool.and_true, Bool.true_and, Bool.and_self, beq_dec, fApp, Int.toNat_natCast, Nat.sub_zero, vmI]
  refine call_ok rfl rfl (wakes01 (n + 1) s4 (by omega)) ?_
  rintro z s5 rfl
  simp (disch := omega) only [vm0, vm1, vm2, vm3, vm4, vm5, vm6, vm7, fPick, fBox, fBuild, fBsl, fLd, fLda, fSt, fNilc, fBin, fEq, fUn, fMkf, fFa, fFld, fFlda, fExt, evo, wr, wrC, frame, Bool.not_true, Bool.not_false, beq_self_eq_true, List.cons_append, List.nil_append, Nat.add_zero, Nat.zero_add, Nat.reduceAdd, Nat.reduceMul, Nat.reduceSub, Bool.and_true, Bool.true_and, Bool.and_self, beq_dec, fApp, Int.toNat_natCast, Nat.sub_zero, vmI]
  rfl
theorem tells (n : Nat) (s : St) (n0 h0 : Int) (v : AV) (c : Int) (raw : Bool) (l : List Int) (hv : RdE s v 1 encB l) (h8 : ∀ x ∈ l, In8 x) (hl : l.length ≤ 140737488355328) (hn : In64 n0) (hh : In64 h0) (hc : In8 c) (hfu : l.length + 5000 ≤ fu) :
    OutOk (callF bd tab.get fu (n + 5) 5 [num n0, num h0, v, byt c, .bool raw] s) (fun x s' => Is x (.bool true)) := by
  refine call_code t5 rfl ?_
  simp (disch := omega) only [vm0, vm1, vm2, vm3, vm4, vm5, vm6, vm7, fPick, fBox, fBuild, fBsl, fLd, fLda, fSt, fNilc, fBin, fEq, fUn, fMkf, fFa, fFld, fFlda, fExt, evo, wr, wrC, frame, Bool.not_true, Bool.not_false, beq_self_eq_true, List.cons_append, List.nil_append, Nat.add_zero, Nat.zero_add, Nat.reduceAdd, Nat.reduceMul, Nat.reduceSub, Bool.and_true, Bool.true_and, Bool.and_self, beq_dec, fApp, Int.toNat_natCast, Nat.sub_zero, vmI, vc5_eq]
  refine call_ok rfl rfl (v_n (n + 2) s n0 h0 hn hh) ?_
  rintro z s1 ⟨m, rfl, hm, hf1⟩
  simp (disch := omega) only [vm0, vm1, vm2, vm3, vm4, vm5, vm6, vm7, fPick, fBox, fBuild, fBsl, fLd, fLda, fSt, fNilc, fBin, fEq, fUn, fMkf, fFa, fFld, fFlda, fExt, evo, wr, wrC, frame, Bool.not_true, Bool.not_false, beq_self_eq_true, List.cons_append, List.nil_append, Nat.add_zero, Nat.zero_add, Nat.reduceAdd, Nat.reduceMul, Nat.reduceSub, Bool.and_true, Bool.true_and, Bool.and_self, beq_dec, fApp, Int.toNat_natCast, Nat.sub_zero, vmI]
  refine call_ok rfl rfl (v_put (n + 2) s1 m hm (by omega)) ?_
  rintro p s2 ⟨fp, q1, q2, q3⟩
  simp (disch := omega) only [vm0, vm1, vm2, vm3, vm4, vm5, vm6, vm7, fPick, fBox, fBuild, fBsl, fLd, fLda, fSt, fNilc, fBin, fEq, fUn, fMkf, fFa, fFld, fFlda, fExt, evo, wr, wrC, frame, Bool.not_true, Bool.not_false, beq_self_eq_true, List.cons_append, List.nil_append, Nat.add_zero, Nat.zero_add, Nat.reduceAdd, Nat.reduceMul, Nat.reduceSub, Bool.and_true, Bool.true_and, Bool.and_self, beq_dec, fApp, Int.toNat_natCast, Nat.sub_zero, vmI]
  refine call_ok rfl rfl (w_put (n + 2) s2 m hm (by omega)) ?_
  rintro p2 s3 ⟨fp2, q4, q5, q6⟩
  simp (disch := omega) only [vm0, vm1, vm2, vm3, vm4, vm5, vm6, vm7, fPick, fBox, fBuild, fBsl, fLd, fLda, fSt, fNilc, fBin, fEq, fUn, fMkf, fFa, fFld, fFlda, fExt, evo, wr, wrC, frame, Bool.not_true, Bool.not_false, beq_self_eq_true, List.cons_append, List.nil_append, Nat.add_zero, Nat.zero_add, Nat.reduceAdd, Nat.reduceMul, Nat.reduceSub, Bool.and_true, Bool.true_and, Bool.and_self, beq_dec, fApp, Int.toNat_natCast, Nat.sub_zero, vmI]
  have hpl := putV_len m
  have hsz : sizeV m ≤ 8 := by rcases sizeV_in m with h | h | h | h | h <;> omega
  refine call_ok rfl rfl (sameB (n + 3) s3 p p2 _ _ (q1.rd.fr0 q5) q4.rd (by omega) (by omega)) ?_
  rintro x s4 ⟨rfl, rfl⟩
  simp (disch := omega) only [vm0, vm1, vm2, vm3, vm4, vm5, vm6, vm7, fPick, fBox, fBuild, fBsl, fLd, fLda, fSt, fNilc, fBin, fEq, fUn, fMkf, fFa, fFld, fFlda, fExt, evo, wr, wrC, frame, Bool.not_true, Bool.not_false, beq_self_eq_true, List.cons_append, List.nil_append, Nat.add_zero, Nat.zero_add, Nat.reduceAdd, Nat.reduceMul, Nat.reduceSub, Bool.and_true, Bool.true_and, Bool.and_self, beq_dec, fApp, Int.toNat_natCast, Nat.sub_zero, vmI]
  refine call_ok rfl rfl (v_size (n + 3) s4 m) ?_
  rintro x s5 ⟨rfl, rfl⟩
  simp (disch := omega) only [vm0, vm1, vm2, vm3, vm4, vm5, vm6, vm7, fPick, fBox, fBuild, fBsl, fLd, fLda, fSt, fNilc, fBin, fEq, fUn, fMkf, fFa, fFld, fFlda, fExt, evo, wr, wrC, frame, Bool.not_true, Bool.not_false, beq_self_eq_true, List.cons_append, List.nil_append, Nat.add_zero, Nat.zero_add, Nat.reduceAdd, Nat.reduceMul, Nat.reduceSub, Bool.and_true, Bool.true_and, Bool.and_self, beq_dec, fApp, Int.toNat_natCast, Nat.sub_zero, vmI]
  refine call_ok rfl rfl (w_size (n + 3) s5 m) ?_
  rintro x s6 ⟨rfl, rfl⟩
  simp (disch := omega) only [vm0, vm1, vm2, vm3, vm4, vm5, vm6, vm7, fPick, fBox, fBuild, fBsl, fLd, fLda, fSt, fNilc, fBin, fEq, fUn, fMkf, fFa, fFld, fFlda, fExt, evo, wr, wrC, frame, Bool.not_true, Bool.not_false, beq_self_eq_true, List.cons_append, List.nil_append, Nat.add_zero, Nat.zero_add, Nat.reduceAdd, Nat.reduceMul, Nat.reduceSub, Bool.and_true, Bool.true_and, Bool.and_self, beq_dec, fApp, Int.toNat_natCast, Nat.sub_zero, vmI]
  refine call_ok rfl rfl (v_zig (n + 3) s6 m hm) ?_
  rintro x s7 ⟨rfl, rfl⟩
  simp (disch := omega) only [vm0, vm1, vm2, vm3, vm4, vm5, vm6, vm7, fPick, fBox, fBuild, fBsl, fLd, fLda, fSt, fNilc, fBin, fEq, fUn, fMkf, fFa, fFld, fFlda, fExt, evo, wr, wrC, frame, Bool.not_true, Bool.not_false, beq_self_eq_true, List.cons_append, List.nil_append, Nat.add_zero, Nat.zero_add, Nat.reduceAdd, Nat.reduceMul, Nat.reduceSub, Bool.and_true, Bool.true_and, Bool.and_self, beq_dec, fApp, Int.toNat_natCast, Nat.sub_zero, vmI]
  refine call_ok rfl rfl (w_zig (n + 3) s7 m hm) ?_
  rintro x s8 ⟨rfl, rfl⟩
  simp (disch := omega) only [vm0, vm1, vm2, vm3, vm4, vm5, vm6, vm7, fPick, fBox, fBuild, fBsl, fLd, fLda, fSt, fNilc, fBin, fEq, fUn, fMkf, fFa, fFld, fFlda, fExt, evo, wr, wrC, frame, Bool.not_true, Bool.not_false, beq_self_eq_true, List.cons_append, List.nil_append, Nat.add_zero, Nat.zero_add, Nat.reduceAdd, Nat.reduceMul, Nat.reduceSub, Bool.and_true, Bool.true_and, Bool.and_self, beq_dec, fApp, Int.toNat_natCast, Nat.sub_zero, vmI]
  refine call_ok rfl rfl (v_zag (n + 3) s8 m hm) ?_
  rintro x s9 ⟨rfl, rfl⟩
  simp (disch := omega) only [vm0, vm1, vm2, vm3, vm4, vm5, vm6, vm7, fPick, fBox, fBuild, fBsl, fLd, fLda, fSt, fNilc, fBin, fEq, fUn, fMkf, fFa, fFld, fFlda, fExt, evo, wr, wrC, frame, Bool.not_true, Bool.not_false, beq_self_eq_true, List.cons_append, List.nil_append, Nat.add_zero, Nat.zero_add, Nat.reduceAdd, Nat.reduceMul, Nat.reduceSub, Bool.and_true, Bool.true_and, Bool.and_self, beq_dec, fApp, Int.toNat_natCast, Nat.sub_zero, vmI]
  refine call_ok rfl rfl (w_zag (n + 3) s9 m hm) ?_
  rintro x s10 ⟨rfl, rfl⟩
  have hv10 := ((hv.fr0 hf1).fr0 q2).fr0 q5
  have hp10 := q1.rd.fr0 q5
  cases raw
  · simp (disch := omega) only [vm0, vm1, vm2, vm3, vm4, vm5, vm6, vm7, fPick, fBox, fBuild, fBsl, fLd, fLda, fSt, fNilc, fBin, fEq, fUn, fMkf, fFa, fFld, fFlda, fExt, evo, wr, wrC, frame, Bool.not_true, Bool.not_false, beq_self_eq_true, List.cons_append, List.nil_append, Nat.add_zero, Nat.zero_add, Nat.reduceAdd, Nat.reduceMul, Nat.reduceSub, Bool.and_true, Bool.true_and, Bool.and_self, beq_dec, fApp, Int.toNat_natCast, Nat.sub_zero, vmI]
    refine call_ok rfl rfl (copyB (n + 3) s10 p _ hp10 (by omega)) ?_
    rintro x s11 ⟨f1, k1, k2, k3⟩
    simp (disch := omega) only [vm0, vm1, vm2, vm3, vm4, vm5, vm6, vm7, fPick, fBox, fBuild, fBsl, fLd, fLda, fSt, fNilc, fBin, fEq, fUn, fMkf, fFa, fFld, fFlda, fExt, evo, wr, wrC, frame, Bool.not_true, Bool.not_false, beq_self_eq_true, List.cons_append, List.nil_append, Nat.add_zero, Nat.zero_add, Nat.reduceAdd, Nat.reduceMul, Nat.reduceSub, Bool.and_true, Bool.true_and, Bool.and_self, beq_dec, fApp, Int.toNat_natCast, Nat.sub_zero, vmI]
    refine op_app1 k1 (by (repeat' (first | exact Fr.refl | assumption | apply Fr.new' | apply Fr.mk' | apply Fr.put')) <;> (first | omega | (left; simp; done) | (right; simp only [next_put, next_new, next_mk]; omega) | (simp only [next_put, next_new, next_mk]; omega))) (x := c) rfl (by omega) ?_
    intro v2 s12 f2 k4 k5 k6
    have hS12 : Fr s11 s12 f1 := k5
    have hv12 : RdE s12 v 1 encB l := (hv10.fr0 k2).fr k5 (vlt_out hv10.lt k3)
    simp (disch := omega) only [vm0, vm1, vm2, vm3, vm4, vm5, vm6, vm7, fPick, fBox, fBuild, fBsl, fLd, fLda, fSt, fNilc, fBin, fEq, fUn, fMkf, fFa, fFld, fFlda, fExt, evo, wr, wrC, frame, Bool.not_true, Bool.not_false, beq_self_eq_true, List.cons_append, List.nil_append, Nat.add_zero, Nat.zero_add, Nat.reduceAdd, Nat.reduceMul, Nat.reduceSub, Bool.and_true, Bool.true_and, Bool.and_self, beq_dec, fApp, Int.toNat_natCast, Nat.sub_zero, vmI]
    refine call_ok rfl rfl (cutB (n + 2) s12 v l 3 (by omega) (by omega) hv12) ?_
    rintro w s13 ⟨f3, k7, k8, k9⟩
    have h3l : (l.take (3 : Int).toNat).length ≤ 3 := List.length_take_le _ _
    have h38 : ∀ x ∈ l.take (3 : Int).toNat, In8 x := fun x hx => h8 x (List.mem_of_mem_take hx)
    generalize l.take (3 : Int).toNat = T at *
    have g1 := k7.rd.lenOf
    have g2 := k7.rd.cellsOf
    have hL : T.length ≤ 1048576 := by omega
    simp (disch := omega) only [vm0, vm1, vm2, vm3, vm4, vm5, vm6, vm7, fPick, fBox, fBuild, fBsl, fLd, fLda, fSt, fNilc, fBin, fEq, fUn, fMkf, fFa, fFld, fFlda, fExt, evo, wr, wrC, frame, Bool.not_true, Bool.not_false, beq_self_eq_true, List.cons_append, List.nil_append, Nat.add_zero, Nat.zero_add, Nat.reduceAdd, Nat.reduceMul, Nat.reduceSub, Bool.and_true, Bool.true_and, Bool.and_self, beq_dec, fApp, Int.toNat_natCast, Nat.sub_zero, vmI, g1, g2]
    refine op_app (k4.fr k8 (by simp)) (by (repeat' (first | exact Fr.refl | assumption | apply Fr.new' | apply Fr.mk' | apply Fr.put')) <;> (first | omega | (left; simp; done) | (right; simp only [next_put, next_new, next_mk]; omega) | (simp only [next_put, next_new, next_mk]; omega))) (new := T) rfl rfl (by simp only [List.length_append, List.length_cons, List.length_nil]; omega) ?_
    intro v3 s14 f4 k10 k11 k12
    simp (disch := omega) only [vm0, vm1, vm2, vm3, vm4, vm5, vm6, vm7, fPick, fBox, fBuild, fBsl, fLd, fLda, fSt, fNilc, fBin, fEq, fUn, fMkf, fFa, fFld, fFlda, fExt, evo, wr, wrC, frame, Bool.not_true, Bool.not_false, beq_self_eq_true, List.cons_append, List.nil_append, Nat.add_zero, Nat.zero_add, Nat.reduceAdd, Nat.reduceMul, Nat.reduceSub, Bool.and_true, Bool.true_and, Bool.and_self, beq_dec, fApp, Int.toNat_natCast, Nat.sub_zero, vmI]
    refine tells_t n s14 v3 _ _ _ _ _ _ _ _ k10.rd ?_ ?_ ?_
    · intro x hx
      rcases List.mem_append.1 hx with hx | hx
      · rcases List.mem_append.1 hx with hx | hx
        · exact putV_in m x hx
        · simp at hx; subst hx; exact hc
      · exact h38 x hx
    · simp only [List.length_append, List.length_cons, List.length_nil]; omega
    · simp only [List.length_append, List.length_cons, List.length_nil]; omega
  · simp (disch := omega) only [vm0, vm1, vm2, vm3, vm4, vm5, vm6, vm7, fPick, fBox, fBuild, fBsl, fLd, fLda, fSt, fNilc, fBin, fEq, fUn, fMkf, fFa, fFld, fFlda, fExt, evo, wr, wrC, frame, Bool.not_true, Bool.not_false, beq_self_eq_true, List.cons_append, List.nil_append, Nat.add_zero, Nat.zero_add, Nat.reduceAdd, Nat.reduceMul, Nat.reduceSub, Bool.and_true, Bool.true_and, Bool.and_self, beq_dec, fApp, Int.toNat_natCast, Nat.sub_zero, vmI]
    exact tells_t n s10 v l _ _ _ _ _ _ _ hv10 h8 hl (by omega)
end
end Go.Proofs.Ytekhpohcjfjhfab.ctr
namespace Go.Proofs.Ytekhpohcjfjhfab.vintTellsRun
open Go.Vm Go.RowKit Go.Proofs.Ytekhpohcjfjhfab.ctr
set_option linter.unusedVariables false
set_option linter.unusedSimpArgs false
theorem mixed : Try.prog.follows .mixedOrders = true := by kernel_rfl
theorem walk (a0 a1 : Int) (a2 : Option Addr) (len2 cap2 : Nat) (z2 : List Int) (a3 : Int) (a4 : Bool) (w : World) (w0 : (Lit.int .i64 a0).wf = true) (w1 : (Lit.int .i64 a1).wf = true) (w3 : (Lit.int .u8 a3).wf = true) (hq2 : IsRow8 w a2 len2 cap2 z2) (hs2 : len2 ≤ 140737488355328) :
    Calls Try.prog 5 #[.int .i64 a0, .int .i64 a1, .slice a2 len2 cap2, .int .u8 a3, .bool a4] w fun e w' => e = .returned (.bool true) ∧ Below w.heap.size w w' := by
  obtain ⟨v2, E2, s2, g2, l2, f2, r2, d2, i2⟩ := (Arg0.start w).bytes hq2
  have hl : (z2.take len2).length ≤ 140737488355328 := by rw [List.length_take]; omega
  have h := tells (bd := bd0) (fu := (z2.take len2).length + 5000) 40 s2 a0 a1 v2 a3 a4 _ d2 i2 hl (wf64 w0) (wf64 w1) (wf8 w3) (by omega)
  exact law_okE bd0_ok mixed (tab_all rho0) t5 g2.hr g2.own (.cons vr_int (.cons vr_int (.cons r2 (.cons vr_int (.cons (.bool _) .nil))))) (yes_of' h fun _ _ h => h)
end Go.Proofs.Ytekhpohcjfjhfab.vintTellsRun
