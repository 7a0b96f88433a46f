/- Contracts: guesses, windows, a path. -/
import Derived.Test.YtgckbcljlkkceaaCtGe
namespace Go.Proofs.Ytgckbcljlkkceaa.ctr
open Go Go.Vm Go.RowKit
set_option linter.unusedVariables false
set_option linter.constructorNameAsVariable false
set_option linter.unusedSimpArgs false
theorem Sep.setC {s0 s : St} {b : Nat} {c : List AV} {Ps : List Obj} (h : Sep s0 s (oC b c :: Ps)) (c' : List AV) : Sep s0 (s.put b (some (.cells c' .own))) (oC b c' :: Ps) := by
  obtain ⟨f, ⟨h1, h2, rfl⟩, up⟩ := h.hd
  exact up (oC b c') ⟨get_put_eq rfl, by rw [next_put]; exact h2, rfl⟩ (.put (.inl (by simp))) (fun z hz => .inl hz)
/-! ## guesses -/
structure GS where
  fi : Int
  me : Int
  sp : Int
  la : Int
  kn : Bool
structure GS.Ok (g : GS) : Prop where
  fi : 1 ≤ g.fi ∧ g.fi ≤ 64
  me : 0 ≤ g.me ∧ g.me ≤ 1048576
  sp : 0 ≤ g.sp ∧ g.sp ≤ 1048576
  la : 0 ≤ g.la ∧ g.la ≤ 6
def GS.cs (g : GS) : List AV := [num g.fi, num g.me, num g.sp, num g.la, .bool g.kn]
def GS.sample (g : GS) (n : Int) : GS :=
  if g.kn then { g with la := 0, sp := (3 * g.sp + max (g.me - min (max n 0) 1048576) (min (max n 0) 1048576 - g.me)) / 4, me := (7 * g.me + min (max n 0) 1048576) / 8 }
  else { g with la := 0, kn := true, me := min (max n 0) 1048576, sp := min (max n 0) 1048576 / 2 }
def GS.late (g : GS) : GS := { g with la := min (g.la + 1) 6 }
def GS.wait0 (g : GS) : Int := if g.kn then min (max (g.me + max 1 (4 * g.sp)) 1) 64 else g.fi
def GS.wait (g : GS) : Int := min (g.wait0 * 2 ^ g.la.toNat) 64
theorem GS.Ok.sample {g : GS} (h : g.Ok) (n : Int) : (g.sample n).Ok := by
  obtain ⟨h1, h2, h3, h4⟩ := h
  unfold GS.sample
  split
  · exact ⟨h1, ⟨by dsimp only; omega, by dsimp only; omega⟩, ⟨by dsimp only; omega, by dsimp only; omega⟩, ⟨by dsimp only; omega, by dsimp only; omega⟩⟩
  · exact ⟨h1, ⟨by dsimp only; omega, by dsimp only; omega⟩, ⟨by dsimp only; omega, by dsimp only; omega⟩, ⟨by dsimp only; omega, by dsimp only; omega⟩⟩
theorem GS.Ok.late {g : GS} (h : g.Ok) : g.late.Ok := ⟨h.fi, h.me, h.sp, by have := h.la; show 0 ≤ min (g.la + 1) 6 ∧ min (g.la + 1) 6 ≤ 6; omega⟩
theorem GS.Ok.wait0 {g : GS} (h : g.Ok) : 1 ≤ g.wait0 ∧ g.wait0 ≤ 64 := by
  have := h.fi
  unfold GS.wait0
  split <;> omega
theorem GS.Ok.wait {g : GS} (h : g.Ok) : 1 ≤ g.wait ∧ g.wait ≤ 64 := by
  have h0 := h.wait0
  obtain ⟨l0, l1⟩ := h.la
  unfold GS.wait
  obtain e | e | e | e | e | e | e : g.la.toNat = 0 ∨ g.la.toNat = 1 ∨ g.la.toNat = 2 ∨ g.la.toNat = 3 ∨ g.la.toNat = 4 ∨ g.la.toNat = 5 ∨ g.la.toNat = 6 := by omega
  all_goals rw [e]; simp only [Int.reducePow]; omega
/-! ## windows -/
structure WS where
  mo : Int
  si : Int
  tu : Int
  co : Int
structure WS.Ok (w : WS) : Prop where
  mo : 1 ≤ w.mo ∧ w.mo ≤ 16
  si : 1 ≤ w.si ∧ w.si ≤ 16
  tu : 1 ≤ w.tu ∧ w.tu ≤ 16
  co : 0 ≤ w.co ∧ w.co ≤ 16
  c0 : w.si < w.tu → w.co = 0
def WS.cs (w : WS) : List AV := [num w.mo, num w.si, num w.tu, num w.co]
def WS.ack (w : WS) : WS := if w.si < w.tu then { w with si := min (w.si + 1) w.mo, co := 0 } else if w.si ≤ w.co + 1 then { w with si := min (w.si + 1) w.mo, co := 0 } else { w with co := w.co + 1 }
def WS.loss (w : WS) : WS := { w with tu := max (w.si / 2) 1, si := max (w.si / 2) 1, co := 0 }
theorem WS.Ok.ack {w : WS} (h : w.Ok) : w.ack.Ok := by
  obtain ⟨h1, h2, h3, h4, h5⟩ := h
  unfold WS.ack
  split
  · exact ⟨h1, by dsimp only; omega, h3, by dsimp only; omega, fun _ => rfl⟩
  · split
    · exact ⟨h1, by dsimp only; omega, h3, by dsimp only; omega, fun _ => rfl⟩
    · exact ⟨h1, h2, h3, by dsimp only; omega, by dsimp only; omega⟩
theorem WS.Ok.loss {w : WS} (h : w.Ok) : w.loss.Ok := by
  obtain ⟨h1, h2, h3, h4, h5⟩ := h
  exact ⟨h1, by simp only [WS.loss]; omega, by simp only [WS.loss]; omega, by simp only [WS.loss]; omega, fun _ => rfl⟩
section
variable {bd : Bd} {fu : Nat}
theorem g_within (n : Nat) (s : St) (a b c : Int) : OutOk (callF bd tab.get fu (n + 1) 119 [num a, num b, num c] s) (fun x s' => Is x (num (min (max a b) c)) ∧ Is s' s) := by
  refine call_code t119 rfl ?_
  simp (disch := omega) only [vm0, vm1, vm2, vm3, vm4, vm5, vm6, vm7, fPick, fBox, fBuild, fBsl, fLd, fLda, fSt, fNilc, fBin, fEq, fUn, fMkf, fFa, fFld, fFlda, fExt, evo, wr, wrC, frame, Bool.not_true, Bool.not_false, beq_self_eq_true, List.cons_append, List.nil_append, Nat.add_zero, Nat.zero_add, Nat.reduceAdd, Nat.reduceMul, Nat.reduceSub, Bool.and_true, Bool.true_and, Bool.and_self, beq_dec, fApp, Int.toNat_natCast, Nat.sub_zero, vmI, vc119]
  exact ⟨rfl, rfl⟩
theorem g_clamp (n : Nat) (s : St) (a b c : Int) : OutOk (callF bd tab.get fu (n + 1) 120 [num a, num b, num c] s) (fun x s' => Is x (num (min (max a b) c)) ∧ Is s' s) := by
  refine call_code t120 rfl ?_
  simp (disch := omega) only [vm0, vm1, vm2, vm3, vm4, vm5, vm6, vm7, fPick, fBox, fBuild, fBsl, fLd, fLda, fSt, fNilc, fBin, fEq, fUn, fMkf, fFa, fFld, fFlda, fExt, evo, wr, wrC, frame, Bool.not_true, Bool.not_false, beq_self_eq_true, List.cons_append, List.nil_append, Nat.add_zero, Nat.zero_add, Nat.reduceAdd, Nat.reduceMul, Nat.reduceSub, Bool.and_true, Bool.true_and, Bool.and_self, beq_dec, fApp, Int.toNat_natCast, Nat.sub_zero, vmI, vc120]
  exact ⟨rfl, rfl⟩
theorem g_sample (n : Nat) {s0 : St} (s : St) (p : Nat) (g : GS) (k : Int) (Ps : List Obj) (hS : Sep s0 s (oC p g.cs :: Ps)) (hg : g.Ok) : OutOk (callF bd tab.get fu (n + 2) 85 [.ptr p 0, num k] s) (fun x s' => Sep s0 s' (oC p (g.sample k).cs :: Ps)) := by
  refine call_code t85 rfl ?_
  obtain ⟨fi, me, sp, la, kn⟩ := g
  obtain ⟨h1, h2, h3, h4⟩ := hg
  dsimp only [GS.cs] at *
  have g1 := hS.getC
  simp (disch := omega) only [vm0, vm1, vm2, vm3, vm4, vm5, vm6, vm7, fPick, fBox, fBuild, fBsl, fLd, fLda, fSt, fNilc, fBin, fEq, fUn, fMkf, fFa, fFld, fFlda, fExt, evo, wr, wrC, frame, Bool.not_true, Bool.not_false, beq_self_eq_true, List.cons_append, List.nil_append, Nat.add_zero, Nat.zero_add, Nat.reduceAdd, Nat.reduceMul, Nat.reduceSub, Bool.and_true, Bool.true_and, Bool.and_self, beq_dec, fApp, Int.toNat_natCast, Nat.sub_zero, vmI, vc85]
  refine call_ok rfl rfl (g_within n s k 0 1048576) ?_
  rintro y s ⟨rfl, rfl⟩
  have h20 : (2 : Int) ≠ 0 := by decide
  have h40 : (4 : Int) ≠ 0 := by decide
  have h80 : (8 : Int) ≠ 0 := by decide
  unfold GS.sample
  dsimp only
  obtain ⟨q, hq⟩ : ∃ q, min (max k 0) 1048576 = q := ⟨_, rfl⟩
  have hq2 : 0 ≤ q ∧ q ≤ 1048576 := by omega
  rw [hq]
  cases kn
  · have e1 : q.tdiv 2 = q / 2 := Int.tdiv_eq_ediv_of_nonneg hq2.1
    simp (disch := omega) only [vm0, vm1, vm2, vm3, vm4, vm5, vm6, vm7, fPick, fBox, fBuild, fBsl, fLd, fLda, fSt, fNilc, fBin, fEq, fUn, fMkf, fFa, fFld, fFlda, fExt, evo, wr, wrC, frame, Bool.not_true, Bool.not_false, beq_self_eq_true, List.cons_append, List.nil_append, Nat.add_zero, Nat.zero_add, Nat.reduceAdd, Nat.reduceMul, Nat.reduceSub, Bool.and_true, Bool.true_and, Bool.and_self, beq_dec, fApp, Int.toNat_natCast, Nat.sub_zero, vmI, g1, b_quo h20, e1]
    rw [if_neg (by simp)]
    exact (((hS.setC _).setC _).setC _).setC _
  · obtain ⟨m, hm⟩ : ∃ m, max (me - q) (q - me) = m := ⟨_, rfl⟩
    have e2 : (3 * sp + m).tdiv 4 = (3 * sp + m) / 4 := Int.tdiv_eq_ediv_of_nonneg (by omega)
    have e3 : (7 * me + q).tdiv 8 = (7 * me + q) / 8 := Int.tdiv_eq_ediv_of_nonneg (by omega)
    rw [if_pos rfl, hm]
    simp (disch := omega) only [vm0, vm1, vm2, vm3, vm4, vm5, vm6, vm7, fPick, fBox, fBuild, fBsl, fLd, fLda, fSt, fNilc, fBin, fEq, fUn, fMkf, fFa, fFld, fFlda, fExt, evo, wr, wrC, frame, Bool.not_true, Bool.not_false, beq_self_eq_true, List.cons_append, List.nil_append, Nat.add_zero, Nat.zero_add, Nat.reduceAdd, Nat.reduceMul, Nat.reduceSub, Bool.and_true, Bool.true_and, Bool.and_self, beq_dec, fApp, Int.toNat_natCast, Nat.sub_zero, vmI, g1, b_quo h40, b_quo h80, e2, e3, hm]
    exact ((hS.setC _).setC _).setC _
theorem w_sample (n : Nat) {s0 : St} (s : St) (p : Nat) (g : GS) (k : Int) (Ps : List Obj) (hS : Sep s0 s (oC p g.cs :: Ps)) (hg : g.Ok) : OutOk (callF bd tab.get fu (n + 2) 88 [.ptr p 0, num k] s) (fun x s' => Sep s0 s' (oC p (g.sample k).cs :: Ps)) := by
  refine call_code t88 rfl ?_
  obtain ⟨fi, me, sp, la, kn⟩ := g
  obtain ⟨h1, h2, h3, h4⟩ := hg
  dsimp only [GS.cs] at *
  have g1 := hS.getC
  simp (disch := omega) only [vm0, vm1, vm2, vm3, vm4, vm5, vm6, vm7, fPick, fBox, fBuild, fBsl, fLd, fLda, fSt, fNilc, fBin, fEq, fUn, fMkf, fFa, fFld, fFlda, fExt, evo, wr, wrC, frame, Bool.not_true, Bool.not_false, beq_self_eq_true, List.cons_append, List.nil_append, Nat.add_zero, Nat.zero_add, Nat.reduceAdd, Nat.reduceMul, Nat.reduceSub, Bool.and_true, Bool.true_and, Bool.and_self, beq_dec, fApp, Int.toNat_natCast, Nat.sub_zero, vmI, vc88]
  refine call_ok rfl rfl (g_clamp n s k 0 1048576) ?_
  rintro y s ⟨rfl, rfl⟩
  have h20 : (2 : Int) ≠ 0 := by decide
  have h40 : (4 : Int) ≠ 0 := by decide
  have h80 : (8 : Int) ≠ 0 := by decide
  unfold GS.sample
  dsimp only
  obtain ⟨q, hq⟩ : ∃ q, min (max k 0) 1048576 = q := ⟨_, rfl⟩
  have hq2 : 0 ≤ q ∧ q ≤ 1048576 := by omega
  rw [hq]
  cases kn
  · have e1 : q.tdiv 2 = q / 2 := Int.tdiv_eq_ediv_of_nonneg hq2.1
    simp (disch := omega) only [vm0, vm1, vm2, vm3, vm4, vm5, vm6, vm7, fPick, fBox, fBuild, fBsl, fLd, fLda, fSt, fNilc, fBin, fEq, fUn, fMkf, fFa, fFld, fFlda, fExt, evo, wr, wrC, frame, Bool.not_true, Bool.not_false, beq_self_eq_true, List.cons_append, List.nil_append, Nat.add_zero, Nat.zero_add, Nat.reduceAdd, Nat.reduceMul, Nat.reduceSub, Bool.and_true, Bool.true_and, Bool.and_self, beq_dec, fApp, Int.toNat_natCast, Nat.sub_zero, vmI, g1, b_quo h20, e1]
    rw [if_neg (by simp)]
    exact (((hS.setC _).setC _).setC _).setC _
  · by_cases hd : me - q < 0
    · have hm : max (me - q) (q - me) = 0 - (me - q) := by omega
      have e2 : (3 * sp + (0 - (me - q))).tdiv 4 = (3 * sp + (0 - (me - q))) / 4 := Int.tdiv_eq_ediv_of_nonneg (by omega)
      have e3 : (7 * me + q).tdiv 8 = (7 * me + q) / 8 := Int.tdiv_eq_ediv_of_nonneg (by omega)
      rw [if_pos rfl, hm]
      simp (disch := omega) only [vm0, vm1, vm2, vm3, vm4, vm5, vm6, vm7, fPick, fBox, fBuild, fBsl, fLd, fLda, fSt, fNilc, fBin, fEq, fUn, fMkf, fFa, fFld, fFlda, fExt, evo, wr, wrC, frame, Bool.not_true, Bool.not_false, beq_self_eq_true, List.cons_append, List.nil_append, Nat.add_zero, Nat.zero_add, Nat.reduceAdd, Nat.reduceMul, Nat.reduceSub, Bool.and_true, Bool.true_and, Bool.and_self, beq_dec, fApp, Int.toNat_natCast, Nat.sub_zero, vmI, g1, b_quo h40, b_quo h80, e2, e3]
      exact ((hS.setC _).setC _).setC _
    · have hm : max (me - q) (q - me) = me - q := by omega
      have e2 : (3 * sp + (me - q)).tdiv 4 = (3 * sp + (me - q)) / 4 := Int.tdiv_eq_ediv_of_nonneg (by omega)
      have e3 : (7 * me + q).tdiv 8 = (7 * me + q) / 8 := Int.tdiv_eq_ediv_of_nonneg (by omega)
      rw [if_pos rfl, hm]
      simp (disch := omega) only [vm0, vm1, vm2, vm3, vm4, vm5, vm6, vm7, fPick, fBox, fBuild, fBsl, fLd, fLda, fSt, fNilc, fBin, fEq, fUn, fMkf, fFa, fFld, fFlda, fExt, evo, wr, wrC, frame, Bool.not_true, Bool.not_false, beq_self_eq_true, List.cons_append, List.nil_append, Nat.add_zero, Nat.zero_add, Nat.reduceAdd, Nat.reduceMul, Nat.reduceSub, Bool.and_true, Bool.true_and, Bool.and_self, beq_dec, fApp, Int.toNat_natCast, Nat.sub_zero, vmI, g1, b_quo h40, b_quo h80, e2, e3]
      exact ((hS.setC _).setC _).setC _
theorem g_late (n : Nat) {s0 : St} (s : St) (p : Nat) (g : GS) (Ps : List Obj) (hS : Sep s0 s (oC p g.cs :: Ps)) (hg : g.Ok) : OutOk (callF bd tab.get fu (n + 1) 92 [.ptr p 0] s) (fun x s' => Sep s0 s' (oC p g.late.cs :: Ps)) := by
  refine call_code t92 rfl ?_
  obtain ⟨fi, me, sp, la, kn⟩ := g
  obtain ⟨h1, h2, h3, h4⟩ := hg
  dsimp only [GS.cs, GS.late] at *
  have g1 := hS.getC
  simp (disch := omega) only [vm0, vm1, vm2, vm3, vm4, vm5, vm6, vm7, fPick, fBox, fBuild, fBsl, fLd, fLda, fSt, fNilc, fBin, fEq, fUn, fMkf, fFa, fFld, fFlda, fExt, evo, wr, wrC, frame, Bool.not_true, Bool.not_false, beq_self_eq_true, List.cons_append, List.nil_append, Nat.add_zero, Nat.zero_add, Nat.reduceAdd, Nat.reduceMul, Nat.reduceSub, Bool.and_true, Bool.true_and, Bool.and_self, beq_dec, fApp, Int.toNat_natCast, Nat.sub_zero, vmI, vc92, g1]
  exact hS.setC _
theorem w_late (n : Nat) {s0 : St} (s : St) (p : Nat) (g : GS) (Ps : List Obj) (hS : Sep s0 s (oC p g.cs :: Ps)) (hg : g.Ok) : OutOk (callF bd tab.get fu (n + 1) 96 [.ptr p 0] s) (fun x s' => Sep s0 s' (oC p g.late.cs :: Ps)) := by
  refine call_code t96 rfl ?_
  obtain ⟨fi, me, sp, la, kn⟩ := g
  obtain ⟨h1, h2, h3, h4⟩ := hg
  dsimp only [GS.cs, GS.late] at *
  have g1 := hS.getC
  simp (disch := omega) only [vm0, vm1, vm2, vm3, vm4, vm5, vm6, vm7, fPick, fBox, fBuild, fBsl, fLd, fLda, fSt, fNilc, fBin, fEq, fUn, fMkf, fFa, fFld, fFlda, fExt, evo, wr, wrC, frame, Bool.not_true, Bool.not_false, beq_self_eq_true, List.cons_append, List.nil_append, Nat.add_zero, Nat.zero_add, Nat.reduceAdd, Nat.reduceMul, Nat.reduceSub, Bool.and_true, Bool.true_and, Bool.and_self, beq_dec, fApp, Int.toNat_natCast, Nat.sub_zero, vmI, vc96, g1]
  exact hS.setC _
theorem g_wait (n : Nat) {s0 : St} (s : St) (p : Nat) (g : GS) (Ps : List Obj) (hS : Sep s0 s (oC p g.cs :: Ps)) (hg : g.Ok) : OutOk (callF bd tab.get fu (n + 2) 91 [.ptr p 0] s) (fun x s' => Is x (num g.wait) ∧ Is s' s) := by
  refine call_code t91 rfl ?_
  have hw0 := hg.wait0
  have hw := hg.wait
  obtain ⟨h1, h2, h3, h4⟩ := hg
  have hsh : ∀ x : Int, 1 ≤ x → x ≤ 64 → binop bd .shl (.int .i64 (.c x)) (.int .i64 (.c g.la)) = some (.int .i64 (.c (x * 2 ^ g.la.toNat))) := fun x a b => by
    rw [b_shl h4.1, show min g.la.toNat IntKind.i64.bits = g.la.toNat by rw [show IntKind.i64.bits = 64 from rfl]; omega]
    have hp : x * 2 ^ g.la.toNat ≤ 4096 ∧ 0 ≤ x * 2 ^ g.la.toNat := by
      obtain e | e | e | e | e | e | e : g.la.toNat = 0 ∨ g.la.toNat = 1 ∨ g.la.toNat = 2 ∨ g.la.toNat = 3 ∨ g.la.toNat = 4 ∨ g.la.toNat = 5 ∨ g.la.toNat = 6 := by omega
      all_goals rw [e]; simp only [Int.reducePow]; omega
    rw [wr64 (by omega) (by omega)]
  unfold GS.wait GS.wait0 at *
  obtain ⟨fi, me, sp, la, kn⟩ := g
  dsimp only [GS.cs] at *
  have g1 := hS.getC
  cases kn
  · rw [if_neg (by simp)] at *
    have hs1 := hsh fi hw0.1 hw0.2
    simp (disch := omega) only [vm0, vm1, vm2, vm3, vm4, vm5, vm6, vm7, fPick, fBox, fBuild, fBsl, fLd, fLda, fSt, fNilc, fBin, fEq, fUn, fMkf, fFa, fFld, fFlda, fExt, evo, wr, wrC, frame, Bool.not_true, Bool.not_false, beq_self_eq_true, List.cons_append, List.nil_append, Nat.add_zero, Nat.zero_add, Nat.reduceAdd, Nat.reduceMul, Nat.reduceSub, Bool.and_true, Bool.true_and, Bool.and_self, beq_dec, fApp, Int.toNat_natCast, Nat.sub_zero, vmI, vc91, g1, hs1]
    exact ⟨rfl, rfl⟩
  · rw [if_pos rfl] at *
    simp (disch := omega) only [vm0, vm1, vm2, vm3, vm4, vm5, vm6, vm7, fPick, fBox, fBuild, fBsl, fLd, fLda, fSt, fNilc, fBin, fEq, fUn, fMkf, fFa, fFld, fFlda, fExt, evo, wr, wrC, frame, Bool.not_true, Bool.not_false, beq_self_eq_true, List.cons_append, List.nil_append, Nat.add_zero, Nat.zero_add, Nat.reduceAdd, Nat.reduceMul, Nat.reduceSub, Bool.and_true, Bool.true_and, Bool.and_self, beq_dec, fApp, Int.toNat_natCast, Nat.sub_zero, vmI, vc91, g1]
    refine call_ok rfl rfl (g_within n s _ 1 64) ?_
    rintro y s ⟨rfl, rfl⟩
    have hs1 := hsh _ hw0.1 hw0.2
    simp (disch := omega) only [vm0, vm1, vm2, vm3, vm4, vm5, vm6, vm7, fPick, fBox, fBuild, fBsl, fLd, fLda, fSt, fNilc, fBin, fEq, fUn, fMkf, fFa, fFld, fFlda, fExt, evo, wr, wrC, frame, Bool.not_true, Bool.not_false, beq_self_eq_true, List.cons_append, List.nil_append, Nat.add_zero, Nat.zero_add, Nat.reduceAdd, Nat.reduceMul, Nat.reduceSub, Bool.and_true, Bool.true_and, Bool.and_self, beq_dec, fApp, Int.toNat_natCast, Nat.sub_zero, vmI, g1, hs1]
    exact ⟨rfl, rfl⟩
theorem w_wait (n : Nat) {s0 : St} (s : St) (p : Nat) (g : GS) (Ps : List Obj) (hS : Sep s0 s (oC p g.cs :: Ps)) (hg : g.Ok) (hfu : 10 < fu) : OutOk (callF bd tab.get fu (n + 2) 95 [.ptr p 0] s) (fun x s' => Is x (num g.wait) ∧ Is s' s) := by
  refine call_code t95 rfl ?_
  have hw0 := hg.wait0
  obtain ⟨h1, h2, h3, h4⟩ := hg
  have hp : ∀ (x : Int) (j : Nat), 1 ≤ x → x ≤ 64 → j ≤ 6 → 0 ≤ x * 2 ^ j ∧ x * 2 ^ j ≤ 4096 := fun x j a b hj => by
    obtain e | e | e | e | e | e | e : j = 0 ∨ j = 1 ∨ j = 2 ∨ j = 3 ∨ j = 4 ∨ j = 5 ∨ j = 6 := by omega
    all_goals subst e; simp only [Int.reducePow]; omega
  have hs : ∀ (x : Int) (j : Nat), x * 2 ^ j * 2 = x * 2 ^ (j + 1) := fun x j => by rw [Int.pow_succ, Int.mul_assoc]
  unfold GS.wait GS.wait0 at *
  obtain ⟨fi, me, sp, la, kn⟩ := g
  dsimp only [GS.cs] at *
  have g1 := hS.getC
  obtain ⟨L, hL⟩ : ∃ L : Nat, la = (L : Int) := ⟨la.toNat, by omega⟩
  subst hL
  rw [Int.toNat_natCast]
  cases kn
  · rw [if_neg (by simp)] at *
    simp (disch := omega) only [vm0, vm1, vm2, vm3, vm4, vm5, vm6, vm7, fPick, fBox, fBuild, fBsl, fLd, fLda, fSt, fNilc, fBin, fEq, fUn, fMkf, fFa, fFld, fFlda, fExt, evo, wr, wrC, frame, Bool.not_true, Bool.not_false, beq_self_eq_true, List.cons_append, List.nil_append, Nat.add_zero, Nat.zero_add, Nat.reduceAdd, Nat.reduceMul, Nat.reduceSub, Bool.and_true, Bool.true_and, Bool.and_self, beq_dec, fApp, Int.toNat_natCast, Nat.sub_zero, vmI, vc95, g1]
    refine x_loop (fun m F s' => ∃ j : Nat, ∃ x4, m = L - j ∧ j ≤ L ∧ F = [some (.ptr p 0), some (num (j : Int)), some (num (fi * 2 ^ j)), some (.bool false), x4, some (num 0)] ∧ s' = s) L (by omega) ?_ ?_
    · exact ⟨0, _, by omega, by omega, by rw [Int.pow_zero, Int.mul_one]; rfl, rfl⟩
    · rintro m F s1 ⟨j, x4, rfl, hj, rfl, rfl⟩ _
      obtain ⟨p1, p2⟩ := hp fi j hw0.1 hw0.2 (by omega)
      by_cases hlt : j < L
      · obtain ⟨p3, p4⟩ := hp fi (j + 1) hw0.1 hw0.2 (by omega)
        have hs1 := hs fi j
        generalize fi * 2 ^ j = A at *
        simp (disch := omega) only [vm0, vm1, vm2, vm3, vm4, vm5, vm6, vm7, fPick, fBox, fBuild, fBsl, fLd, fLda, fSt, fNilc, fBin, fEq, fUn, fMkf, fFa, fFld, fFlda, fExt, evo, wr, wrC, frame, Bool.not_true, Bool.not_false, beq_self_eq_true, List.cons_append, List.nil_append, Nat.add_zero, Nat.zero_add, Nat.reduceAdd, Nat.reduceMul, Nat.reduceSub, Bool.and_true, Bool.true_and, Bool.and_self, beq_dec, fApp, Int.toNat_natCast, Nat.sub_zero, vmI, g1]
        exact ⟨L - (j + 1), by omega, j + 1, _, rfl, by omega, by rw [← hs1]; rfl, rfl⟩
      · obtain rfl : j = L := by omega
        simp (disch := omega) only [vm0, vm1, vm2, vm3, vm4, vm5, vm6, vm7, fPick, fBox, fBuild, fBsl, fLd, fLda, fSt, fNilc, fBin, fEq, fUn, fMkf, fFa, fFld, fFlda, fExt, evo, wr, wrC, frame, Bool.not_true, Bool.not_false, beq_self_eq_true, List.cons_append, List.nil_append, Nat.add_zero, Nat.zero_add, Nat.reduceAdd, Nat.reduceMul, Nat.reduceSub, Bool.and_true, Bool.true_and, Bool.and_self, beq_dec, fApp, Int.toNat_natCast, Nat.sub_zero, vmI, g1]
        exact ⟨rfl, rfl⟩
  · rw [if_pos rfl] at *
    simp (disch := omega) only [vm0, vm1, vm2, vm3, vm4, vm5, vm6, vm7, fPick, fBox, fBuild, fBsl, fLd, fLda, fSt, fNilc, fBin, fEq, fUn, fMkf, fFa, fFld, fFlda, fExt, evo, wr, wrC, frame, Bool.not_true, Bool.not_false, beq_self_eq_true, List.cons_append, List.nil_append, Nat.add_zero, Nat.zero_add, Nat.reduceAdd, Nat.reduceMul, Nat.reduceSub, Bool.and_true, Bool.true_and, Bool.and_self, beq_dec, fApp, Int.toNat_natCast, Nat.sub_zero, vmI, vc95, g1]
    refine call_ok rfl rfl (g_clamp n s _ 1 64) ?_
    rintro y s ⟨rfl, rfl⟩
    generalize min (max (me + max 1 (4 * sp)) 1) 64 = Z at *
    simp (disch := omega) only [vm0, vm1, vm2, vm3, vm4, vm5, vm6, vm7, fPick, fBox, fBuild, fBsl, fLd, fLda, fSt, fNilc, fBin, fEq, fUn, fMkf, fFa, fFld, fFlda, fExt, evo, wr, wrC, frame, Bool.not_true, Bool.not_false, beq_self_eq_true, List.cons_append, List.nil_append, Nat.add_zero, Nat.zero_add, Nat.reduceAdd, Nat.reduceMul, Nat.reduceSub, Bool.and_true, Bool.true_and, Bool.and_self, beq_dec, fApp, Int.toNat_natCast, Nat.sub_zero, vmI, g1]
    refine x_loop (fun m F s' => ∃ j : Nat, ∃ x4, m = L - j ∧ j ≤ L ∧ F = [some (.ptr p 0), some (num (j : Int)), some (num (Z * 2 ^ j)), some (.bool true), x4, some (num 0)] ∧ s' = s) L (by omega) ?_ ?_
    · exact ⟨0, _, by omega, by omega, by rw [Int.pow_zero, Int.mul_one]; rfl, rfl⟩
    · rintro m F s1 ⟨j, x4, rfl, hj, rfl, rfl⟩ _
      obtain ⟨p1, p2⟩ := hp Z j hw0.1 hw0.2 (by omega)
      by_cases hlt : j < L
      · obtain ⟨p3, p4⟩ := hp Z (j + 1) hw0.1 hw0.2 (by omega)
        have hs1 := hs Z j
        generalize Z * 2 ^ j = A at *
        simp (disch := omega) only [vm0, vm1, vm2, vm3, vm4, vm5, vm6, vm7, fPick, fBox, fBuild, fBsl, fLd, fLda, fSt, fNilc, fBin, fEq, fUn, fMkf, fFa, fFld, fFlda, fExt, evo, wr, wrC, frame, Bool.not_true, Bool.not_false, beq_self_eq_true, List.cons_append, List.nil_append, Nat.add_zero, Nat.zero_add, Nat.reduceAdd, Nat.reduceMul, Nat.reduceSub, Bool.and_true, Bool.true_and, Bool.and_self, beq_dec, fApp, Int.toNat_natCast, Nat.sub_zero, vmI, g1]
        exact ⟨L - (j + 1), by omega, j + 1, _, rfl, by omega, by rw [← hs1]; rfl, rfl⟩
      · obtain rfl : j = L := by omega
        simp (disch := omega) only [vm0, vm1, vm2, vm3, vm4, vm5, vm6, vm7, fPick, fBox, fBuild, fBsl, fLd, fLda, fSt, fNilc, fBin, fEq, fUn, fMkf, fFa, fFld, fFlda, fExt, evo, wr, wrC, frame, Bool.not_true, Bool.not_false, beq_self_eq_true, List.cons_append, List.nil_append, Nat.add_zero, Nat.zero_add, Nat.reduceAdd, Nat.reduceMul, Nat.reduceSub, Bool.and_true, Bool.true_and, Bool.and_self, beq_dec, fApp, Int.toNat_natCast, Nat.sub_zero, vmI, g1]
        exact ⟨rfl, rfl⟩
theorem c_loss (n : Nat) {s0 : St} (s : St) (p : Nat) (w : WS) (Ps : List Obj) (hS : Sep s0 s (oC p w.cs :: Ps)) (hw : w.Ok) : OutOk (callF bd tab.get fu (n + 1) 93 [.ptr p 0] s) (fun x s' => Sep s0 s' (oC p w.loss.cs :: Ps)) := by
  refine call_code t93 rfl ?_
  obtain ⟨mo, si, tu, co⟩ := w
  obtain ⟨h1, h2, h3, h4, h5⟩ := hw
  dsimp only [WS.cs, WS.loss] at *
  have g1 := hS.getC
  have h20 : (2 : Int) ≠ 0 := by decide
  have e1 : si.tdiv 2 = si / 2 := Int.tdiv_eq_ediv_of_nonneg (by omega)
  simp (disch := omega) only [vm0, vm1, vm2, vm3, vm4, vm5, vm6, vm7, fPick, fBox, fBuild, fBsl, fLd, fLda, fSt, fNilc, fBin, fEq, fUn, fMkf, fFa, fFld, fFlda, fExt, evo, wr, wrC, frame, Bool.not_true, Bool.not_false, beq_self_eq_true, List.cons_append, List.nil_append, Nat.add_zero, Nat.zero_add, Nat.reduceAdd, Nat.reduceMul, Nat.reduceSub, Bool.and_true, Bool.true_and, Bool.and_self, beq_dec, fApp, Int.toNat_natCast, Nat.sub_zero, vmI, vc93, g1, b_quo h20, e1]
  exact ((hS.setC _).setC _).setC _
theorem w_loss (n : Nat) {s0 : St} (s : St) (p : Nat) (w : WS) (Ps : List Obj) (hS : Sep s0 s (oC p w.cs :: Ps)) (hw : w.Ok) : OutOk (callF bd tab.get fu (n + 1) 97 [.ptr p 0] s) (fun x s' => Sep s0 s' (oC p w.loss.cs :: Ps)) := by
  refine call_code t97 rfl ?_
  obtain ⟨mo, si, tu, co⟩ := w
  obtain ⟨h1, h2, h3, h4, h5⟩ := hw
  dsimp only [WS.cs, WS.loss] at *
  have g1 := hS.getC
  have h20 : (2 : Int) ≠ 0 := by decide
  have e1 : si.tdiv 2 = si / 2 := Int.tdiv_eq_ediv_of_nonneg (by omega)
  simp (disch := omega) only [vm0, vm1, vm2, vm3, vm4, vm5, vm6, vm7, fPick, fBox, fBuild, fBsl, fLd, fLda, fSt, fNilc, fBin, fEq, fUn, fMkf, fFa, fFld, fFlda, fExt, evo, wr, wrC, frame, Bool.not_true, Bool.not_false, beq_self_eq_true, List.cons_append, List.nil_append, Nat.add_zero, Nat.zero_add, Nat.reduceAdd, Nat.reduceMul, Nat.reduceSub, Bool.and_true, Bool.true_and, Bool.and_self, beq_dec, fApp, Int.toNat_natCast, Nat.sub_zero, vmI, vc97, g1, b_quo h20, e1]
  exact ((hS.setC _).setC _).setC _
theorem c_grow (n : Nat) {s0 : St} (s : St) (p : Nat) (w : WS) (Ps : List Obj) (hS : Sep s0 s (oC p w.cs :: Ps)) (hw : 0 ≤ w.si ∧ w.si ≤ 100 ∧ 0 ≤ w.mo ∧ w.mo ≤ 100) : OutOk (callF bd tab.get fu (n + 1) 123 [.ptr p 0] s) (fun x s' => Sep s0 s' (oC p (WS.cs { w with si := min (w.si + 1) w.mo, co := 0 }) :: Ps)) := by
  refine call_code t123 rfl ?_
  obtain ⟨mo, si, tu, co⟩ := w
  dsimp only [WS.cs] at *
  have g1 := hS.getC
  simp (disch := omega) only [vm0, vm1, vm2, vm3, vm4, vm5, vm6, vm7, fPick, fBox, fBuild, fBsl, fLd, fLda, fSt, fNilc, fBin, fEq, fUn, fMkf, fFa, fFld, fFlda, fExt, evo, wr, wrC, frame, Bool.not_true, Bool.not_false, beq_self_eq_true, List.cons_append, List.nil_append, Nat.add_zero, Nat.zero_add, Nat.reduceAdd, Nat.reduceMul, Nat.reduceSub, Bool.and_true, Bool.true_and, Bool.and_self, beq_dec, fApp, Int.toNat_natCast, Nat.sub_zero, vmI, vc123, g1]
  exact (hS.setC _).setC _
theorem c_ack (n : Nat) {s0 : St} (s : St) (p : Nat) (w : WS) (Ps : List Obj) (hS : Sep s0 s (oC p w.cs :: Ps)) (hw : w.Ok) : OutOk (callF bd tab.get fu (n + 2) 86 [.ptr p 0] s) (fun x s' => Sep s0 s' (oC p w.ack.cs :: Ps)) := by
  refine call_code t86 rfl ?_
  obtain ⟨mo, si, tu, co⟩ := w
  obtain ⟨h1, h2, h3, h4, h5⟩ := hw
  dsimp only at h1 h2 h3 h4 h5
  have g1 := hS.getC
  simp only [WS.cs] at g1
  unfold WS.ack
  dsimp only
  by_cases c1 : si < tu
  · rw [if_pos c1]
    simp (disch := omega) only [vm0, vm1, vm2, vm3, vm4, vm5, vm6, vm7, fPick, fBox, fBuild, fBsl, fLd, fLda, fSt, fNilc, fBin, fEq, fUn, fMkf, fFa, fFld, fFlda, fExt, evo, wr, wrC, frame, Bool.not_true, Bool.not_false, beq_self_eq_true, List.cons_append, List.nil_append, Nat.add_zero, Nat.zero_add, Nat.reduceAdd, Nat.reduceMul, Nat.reduceSub, Bool.and_true, Bool.true_and, Bool.and_self, beq_dec, fApp, Int.toNat_natCast, Nat.sub_zero, vmI, vc86, g1]
    refine call_ok rfl rfl (c_grow n s p ⟨mo, si, tu, co⟩ Ps hS ⟨by dsimp only; omega, by dsimp only; omega, by dsimp only; omega, by dsimp only; omega⟩) ?_
    rintro y s1 hS1
    simp (disch := omega) only [vm0, vm1, vm2, vm3, vm4, vm5, vm6, vm7, fPick, fBox, fBuild, fBsl, fLd, fLda, fSt, fNilc, fBin, fEq, fUn, fMkf, fFa, fFld, fFlda, fExt, evo, wr, wrC, frame, Bool.not_true, Bool.not_false, beq_self_eq_true, List.cons_append, List.nil_append, Nat.add_zero, Nat.zero_add, Nat.reduceAdd, Nat.reduceMul, Nat.reduceSub, Bool.and_true, Bool.true_and, Bool.and_self, beq_dec, fApp, Int.toNat_natCast, Nat.sub_zero, vmI]
    exact hS1
  · rw [if_neg c1]
    by_cases c2 : si ≤ co + 1
    · rw [if_pos c2]
      simp (disch := omega) only [vm0, vm1, vm2, vm3, vm4, vm5, vm6, vm7, fPick, fBox, fBuild, fBsl, fLd, fLda, fSt, fNilc, fBin, fEq, fUn, fMkf, fFa, fFld, fFlda, fExt, evo, wr, wrC, frame, Bool.not_true, Bool.not_false, beq_self_eq_true, List.cons_append, List.nil_append, Nat.add_zero, Nat.zero_add, Nat.reduceAdd, Nat.reduceMul, Nat.reduceSub, Bool.and_true, Bool.true_and, Bool.and_self, beq_dec, fApp, Int.toNat_natCast, Nat.sub_zero, vmI, vc86, g1]
      refine call_ok rfl rfl (c_grow n _ p ⟨mo, si, tu, co + 1⟩ Ps (hS.setC _) ⟨by dsimp only; omega, by dsimp only; omega, by dsimp only; omega, by dsimp only; omega⟩) ?_
      rintro y s1 hS1
      simp (disch := omega) only [vm0, vm1, vm2, vm3, vm4, vm5, vm6, vm7, fPick, fBox, fBuild, fBsl, fLd, fLda, fSt, fNilc, fBin, fEq, fUn, fMkf, fFa, fFld, fFlda, fExt, evo, wr, wrC, frame, Bool.not_true, Bool.not_false, beq_self_eq_true, List.cons_append, List.nil_append, Nat.add_zero, Nat.zero_add, Nat.reduceAdd, Nat.reduceMul, Nat.reduceSub, Bool.and_true, Bool.true_and, Bool.and_self, beq_dec, fApp, Int.toNat_natCast, Nat.sub_zero, vmI]
      exact hS1
    · rw [if_neg c2]
      simp (disch := omega) only [vm0, vm1, vm2, vm3, vm4, vm5, vm6, vm7, fPick, fBox, fBuild, fBsl, fLd, fLda, fSt, fNilc, fBin, fEq, fUn, fMkf, fFa, fFld, fFlda, fExt, evo, wr, wrC, frame, Bool.not_true, Bool.not_false, beq_self_eq_true, List.cons_append, List.nil_append, Nat.add_zero, Nat.zero_add, Nat.reduceAdd, Nat.reduceMul, Nat.reduceSub, Bool.and_true, Bool.true_and, Bool.and_self, beq_dec, fApp, Int.toNat_natCast, Nat.sub_zero, vmI, vc86, g1]
      exact hS.setC _
theorem w_ack (n : Nat) {s0 : St} (s : St) (p : Nat) (w : WS) (Ps : List Obj) (hS : Sep s0 s (oC p w.cs :: Ps)) (hw : w.Ok) : OutOk (callF bd tab.get fu (n + 1) 89 [.ptr p 0] s) (fun x s' => Sep s0 s' (oC p w.ack.cs :: Ps)) := by
  refine call_code t89 rfl ?_
  obtain ⟨mo, si, tu, co⟩ := w
  obtain ⟨h1, h2, h3, h4, h5⟩ := hw
  dsimp only at h1 h2 h3 h4 h5
  have g1 := hS.getC
  simp only [WS.cs] at g1
  unfold WS.ack
  dsimp only
  by_cases c1 : si < tu
  · obtain rfl := h5 c1
    rw [if_pos c1]
    simp (disch := omega) only [vm0, vm1, vm2, vm3, vm4, vm5, vm6, vm7, fPick, fBox, fBuild, fBsl, fLd, fLda, fSt, fNilc, fBin, fEq, fUn, fMkf, fFa, fFld, fFlda, fExt, evo, wr, wrC, frame, Bool.not_true, Bool.not_false, beq_self_eq_true, List.cons_append, List.nil_append, Nat.add_zero, Nat.zero_add, Nat.reduceAdd, Nat.reduceMul, Nat.reduceSub, Bool.and_true, Bool.true_and, Bool.and_self, beq_dec, fApp, Int.toNat_natCast, Nat.sub_zero, vmI, vc89, g1]
    exact hS.setC _
  · rw [if_neg c1]
    by_cases c2 : si ≤ co + 1
    · rw [if_pos c2]
      simp (disch := omega) only [vm0, vm1, vm2, vm3, vm4, vm5, vm6, vm7, fPick, fBox, fBuild, fBsl, fLd, fLda, fSt, fNilc, fBin, fEq, fUn, fMkf, fFa, fFld, fFlda, fExt, evo, wr, wrC, frame, Bool.not_true, Bool.not_false, beq_self_eq_true, List.cons_append, List.nil_append, Nat.add_zero, Nat.zero_add, Nat.reduceAdd, Nat.reduceMul, Nat.reduceSub, Bool.and_true, Bool.true_and, Bool.and_self, beq_dec, fApp, Int.toNat_natCast, Nat.sub_zero, vmI, vc89, g1]
      exact ((hS.setC _).setC _).setC _
    · rw [if_neg c2]
      simp (disch := omega) only [vm0, vm1, vm2, vm3, vm4, vm5, vm6, vm7, fPick, fBox, fBuild, fBsl, fLd, fLda, fSt, fNilc, fBin, fEq, fUn, fMkf, fFa, fFld, fFlda, fExt, evo, wr, wrC, frame, Bool.not_true, Bool.not_false, beq_self_eq_true, List.cons_append, List.nil_append, Nat.add_zero, Nat.zero_add, Nat.reduceAdd, Nat.reduceMul, Nat.reduceSub, Bool.and_true, Bool.true_and, Bool.and_self, beq_dec, fApp, Int.toNat_natCast, Nat.sub_zero, vmI, vc89, g1]
      exact hS.setC _
end
end Go.Proofs.Ytgckbcljlkkceaa.ctr
namespace Go.Proofs.Ytgckbcljlkkceaa.ctr
open Go Go.Vm Go.RowKit
set_option linter.unusedVariables false
set_option linter.constructorNameAsVariable false
set_option linter.unusedSimpArgs false
def oF (p : Nat) (l : List O) : Obj := ⟨fun s fp => IsF s p l fp, IsF.fr, IsF.lt⟩
def oU (p : Nat) (a1 a2 a3 : Bool) (sn : Int) (g w : Nat) (l : List O) : Obj := ⟨fun s fp => IsU s p a1 a2 a3 sn g w l fp, IsU.fr, IsU.lt⟩
/-- a path, and the reference's -/
structure PT where
  up : Bool
  jn : Bool
  bh : Bool
  sent : Int
  G : GS
  W : WS
  F : List O
structure PT.Ok (t : PT) (i : Nat) : Prop where
  g : t.G.Ok
  w : t.W.Ok
  s : 0 ≤ t.sent ∧ t.sent ≤ 70000
  f : t.F.length ≤ i
def PT.pc (t : PT) (g w f : Nat) : List AV := [.bool t.up, .bool t.jn, .ptr g 0, .ptr w 0, .ptr f 0, num t.sent, .bool t.bh]
def addF (o : O) (l : List O) : List O := if fst o.1 l 0 < 0 then l ++ [o] else l
def takeF (k : Int) (l : List O) : List O := if fst k l 0 < 0 then l else l.eraseIdx (ixO k l)
def PT.acked (t : PT) (k now : Int) : PT := if fst k t.F 0 < 0 then t else { t with F := takeF k t.F, G := t.G.sample (now - (t.F.getD (ixO k t.F) o0).2.2.2), W := t.W.ack, bh := false }
def PT.lates (t : PT) (now : Int) : List O := t.F.filter (lateO now t.G.wait)
def PT.late (t : PT) (now : Int) : PT := if (t.lates now).length = 0 then { t with F := t.F.filter (fun o => !lateO now t.G.wait o) } else { t with F := t.F.filter (fun o => !lateO now t.G.wait o), G := t.G.late, W := t.W.loss, bh := true }
theorem Sep.getU {s0 s : St} {p : Nat} {a1 a2 a3 : Bool} {sn : Int} {g w : Nat} {l : List O} {Ps : List Obj} (h : Sep s0 s (oU p a1 a2 a3 sn g w l :: Ps)) : ∃ v, s.heap.get p = some (.cells [.bool a1, .bool a2, .bool a3, num sn, .ptr g 0, .ptr w 0, v] .own) ∧ RdE s v 4 encO l := by
  obtain ⟨f, ⟨v, fv, h1, h2, _⟩, up⟩ := h.hd; exact ⟨v, h1, h2.rd⟩
theorem Sep.setU {s0 s : St} {p : Nat} {a1 a2 a3 : Bool} {sn : Int} {g w : Nat} {l : List O} {Ps : List Obj} (h : Sep s0 s (oU p a1 a2 a3 sn g w l :: Ps)) {v : AV} (hv : s.heap.get p = some (.cells [.bool a1, .bool a2, .bool a3, num sn, .ptr g 0, .ptr w 0, v] .own)) (b1 b2 b3 : Bool) (tn : Int) :
    Sep s0 (s.put p (some (.cells [.bool b1, .bool b2, .bool b3, num tn, .ptr g 0, .ptr w 0, v] .own))) (oU p b1 b2 b3 tn g w l :: Ps) := by
  obtain ⟨f, ⟨v', fv, h1, h2, h3, rfl, h5⟩, up⟩ := h.hd
  rw [h1] at hv
  cases hv
  exact up (oU p b1 b2 b3 tn g w l) ⟨v, fv, get_put_eq rfl, h2.fr (fp' := [p]) (.put (.inl (by simp))) (by rintro z hz hm; simp at hm; subst hm; exact h3 hz), h3, rfl, by rw [next_put]; exact h5⟩ (.put (.inl (by simp))) (fun z hz => .inl hz)
section
variable {bd : Bd} {fu : Nat}
theorem d_fadd (n : Nat) {s0 : St} (s : St) (p : Nat) (l : List O) (o : O) (Ps : List Obj) (hS : Sep s0 s (oF p l :: Ps)) (hlen : l.length < fu) (hf : l.length < 1000) : OutOk (callF bd tab.get fu (n + 4) 83 [.ptr p 0, .agg (encO o)] s) (fun x s' => Is x (.bool (decide (fst o.1 l 0 < 0))) ∧ Sep s0 s' (oF p (addF o l) :: Ps)) := by
  obtain ⟨f, k1, up⟩ := hS.hd
  exact (f_add n s p l f o k1 hlen hf).mono fun x s' ⟨f', r1, r2, r3, r4⟩ => ⟨r1, up (oF _ _) r2 r3 r4⟩
theorem d_uadd (n : Nat) {s0 : St} (s : St) (p : Nat) (a1 a2 a3 : Bool) (sn : Int) (g w : Nat) (l : List O) (o : O) (Ps : List Obj) (hS : Sep s0 s (oU p a1 a2 a3 sn g w l :: Ps)) (hlen : l.length < fu) (hf : l.length < 1000) : OutOk (callF bd tab.get fu (n + 1) 35 [.ptr p 6, .agg (encO o)] s) (fun x s' => Is x (.bool (decide (fst o.1 l 0 < 0))) ∧ Sep s0 s' (oU p a1 a2 a3 sn g w (addF o l) :: Ps)) := by
  obtain ⟨f, k1, up⟩ := hS.hd
  exact (u_add n s p a1 a2 a3 sn g w l f o k1 hlen hf).mono fun x s' ⟨f', r1, r2, r3, r4⟩ => ⟨r1, up (oU _ _ _ _ _ _ _ _) r2 r3 r4⟩
theorem d_ftake (n : Nat) {s0 : St} (s : St) (p : Nat) (l : List O) (k : Int) (Ps : List Obj) (hS : Sep s0 s (oF p l :: Ps)) (hlen : l.length < fu) (hf : l.length < 1000) : OutOk (callF bd tab.get fu (n + 4) 84 [.ptr p 0, num k] s) (fun x s' => (if fst k l 0 < 0 then x = .tup [.agg (encO o0), .bool false] else x = .tup [.agg (encO (l.getD (ixO k l) o0)), .bool true]) ∧ Sep s0 s' (oF p (takeF k l) :: Ps)) := by
  obtain ⟨f, k1, up⟩ := hS.hd
  exact (f_take n s p l f k k1 hlen hf).mono fun x s' ⟨f', r1, r2, r3, r4⟩ => ⟨r1, up (oF _ _) r2 r3 r4⟩
theorem d_utake (n : Nat) {s0 : St} (s : St) (p : Nat) (a1 a2 a3 : Bool) (sn : Int) (g w : Nat) (l : List O) (k : Int) (Ps : List Obj) (hS : Sep s0 s (oU p a1 a2 a3 sn g w l :: Ps)) (hlen : l.length < fu) (hf : l.length < 1000) : OutOk (callF bd tab.get fu (n + 1) 87 [.ptr p 6, num k] s) (fun x s' => (if fst k l 0 < 0 then x = .tup [.agg (encO o0), .bool false] else x = .tup [.agg (encO (l.getD (ixO k l) o0)), .bool true]) ∧ Sep s0 s' (oU p a1 a2 a3 sn g w (takeF k l) :: Ps)) := by
  obtain ⟨f, k1, up⟩ := hS.hd
  exact (u_take n s p a1 a2 a3 sn g w l f k k1 hlen hf).mono fun x s' ⟨f', r1, r2, r3, r4⟩ => ⟨r1, up (oU _ _ _ _ _ _ _ _) r2 r3 r4⟩
theorem late_up {s0 s s' : St} {p : Nat} {P P' : Obj} {x : AV} {late : List O} {Ps : List Obj} {f fl fr : List Nat} (hk : p ∈ f) (up : ∀ (P' : Obj) {s' : St} {f' : List Nat}, P'.P s' f' → Fr s s' f → Nw s f f' → Sep s0 s' (P' :: Ps)) (r1 : OwE s' x 4 encO late fl) (r2 : P'.P s' fr) (r3 : Fr s s' [p]) (r4 : Nw s [] fl) (r5 : Nw s [p] fr) (r6 : ∀ b ∈ fl, b ∉ fr) :
    Sep s0 s' (P' :: Ps) ∧ RdE s' x 4 encO late := ⟨up P' r2 (r3.mono (fun b hb _ => by simp at hb; subst hb; exact hk)) (fun b hb => by rcases r5 b hb with h | h; (· left; simp at h; subst h; exact hk); (· exact .inr h)), r1.rd⟩
theorem d_flate (n : Nat) {s0 : St} (s : St) (p : Nat) (l : List O) (now wait : Int) (Ps : List Obj) (hS : Sep s0 s (oF p l :: Ps)) (hlen : l.length < fu) (hf : l.length < 1000) (b1 : -1000000000000 ≤ now) (b2 : now ≤ 1000000000000) (b3 : -1000000000000 ≤ wait) (b4 : wait ≤ 1000000000000) : OutOk (callF bd tab.get fu (n + 2) 90 [.ptr p 0, num now, num wait] s) (fun x s' => Sep s0 s' (oF p (l.filter (fun o => !lateO now wait o)) :: Ps) ∧ RdE s' x 4 encO (l.filter (lateO now wait)) ∧ ∃ fl, OwE s' x 4 encO (l.filter (lateO now wait)) fl ∧ Nw s [] fl) := by
  obtain ⟨f, k1, up⟩ := hS.hd
  have hp : p ∈ f := by obtain ⟨v, fv, h1, h2, h3, rfl, h5⟩ := k1; simp
  exact (f_late n s p l f now wait k1 hlen hf b1 b2 b3 b4).mono fun x s' ⟨fl, fr, r1, r2, r3, r4, r5, r6⟩ => ⟨(late_up (P := oF p l) (P' := oF p _) hp up r1 r2 r3 r4 r5 r6).1, r1.rd, fl, r1, r4⟩
end
end Go.Proofs.Ytgckbcljlkkceaa.ctr
namespace Go.Proofs.Ytgckbcljlkkceaa.ctr
open Go Go.Vm Go.RowKit
set_option linter.unusedVariables false
set_option linter.constructorNameAsVariable false
set_option linter.unusedSimpArgs false
/-- two things, apart, as one -/
def oPair (P Q : Obj) : Obj := ⟨fun s fp => ∃ f g, P.P s f ∧ Q.P s g ∧ (∀ b ∈ f, b ∉ g) ∧ fp = f ++ g,
  fun {s s' fp fp'} ⟨f, g, h1, h2, h3, h4⟩ hf hd => ⟨f, g, P.fr h1 hf fun b hb => hd b (by rw [h4]; simp [hb]), Q.fr h2 hf fun b hb => hd b (by rw [h4]; simp [hb]), h3, h4⟩,
  fun {s fp} ⟨f, g, h1, h2, h3, h4⟩ => by
    intro b hb
    rw [h4] at hb
    rcases List.mem_append.1 hb with hb | hb
    · exact P.lt h1 b hb
    · exact Q.lt h2 b hb⟩
theorem Sep.split {s0 s : St} {P Q : Obj} {Ps : List Obj} (h : Sep s0 s (oPair P Q :: Ps)) : Sep s0 s (P :: Q :: Ps) := by
  obtain ⟨fp, ⟨f, g, ⟨f1, f2, h1, h2, h3, rfl⟩, k2, k3, rfl⟩, k4, k5⟩ := h
  refine ⟨f1 ++ (f2 ++ g), ⟨f1, f2 ++ g, h1, ⟨f2, g, h2, k2, fun b hb hm => k3 b (by simp [hb]) hm, rfl⟩, ?_, rfl⟩, fun b hb => k4 b (by simp only [List.mem_append] at *; rcases hb with h | h | h <;> simp [h]), k5⟩
  intro b hb hm
  rcases List.mem_append.1 hm with hm | hm
  · exact h3 b hb hm
  · exact k3 b (by simp [hb]) hm
section
variable {bd : Bd} {fu : Nat}
theorem d_flate2 (n : Nat) {s0 : St} (s : St) (p : Nat) (l : List O) (now wait : Int) (Ps : List Obj) (hS : Sep s0 s (oF p l :: Ps)) (hlen : l.length < fu) (hf : l.length < 1000) (b1 : -1000000000000 ≤ now) (b2 : now ≤ 1000000000000) (b3 : -1000000000000 ≤ wait) (b4 : wait ≤ 1000000000000) : OutOk (callF bd tab.get fu (n + 2) 90 [.ptr p 0, num now, num wait] s) (fun x s' => Sep s0 s' (oW x 4 encO (l.filter (lateO now wait)) :: oF p (l.filter (fun o => !lateO now wait o)) :: Ps)) := by
  obtain ⟨f, k1, up⟩ := hS.hd
  have hp : p ∈ f := by obtain ⟨v, fv, h1, h2, h3, rfl, h5⟩ := k1; simp
  refine (f_late n s p l f now wait k1 hlen hf b1 b2 b3 b4).mono fun x s' ⟨fl, fr, r1, r2, r3, r4, r5, r6⟩ => ?_
  refine (up (oPair (oW x 4 encO (l.filter (lateO now wait))) (oF p (l.filter (fun o => !lateO now wait o)))) ⟨fl, fr, r1, r2, r6, rfl⟩ (r3.mono (fun b hb _ => by simp at hb; subst hb; exact hp)) ?_).split
  intro b hb
  rcases List.mem_append.1 hb with hb | hb
  · rcases r4 b hb with h | h
    · simp at h
    · exact .inr h
  · rcases r5 b hb with h | h
    · left; simp at h; subst h; exact hp
    · exact .inr h
theorem d_ulate2 (n : Nat) {s0 : St} (s : St) (p : Nat) (a1 a2 a3 : Bool) (sn : Int) (g w : Nat) (l : List O) (now wait : Int) (Ps : List Obj) (hS : Sep s0 s (oU p a1 a2 a3 sn g w l :: Ps)) (hlen : l.length < fu) (hf : l.length < 1000) (b1 : -1000000000000 ≤ now) (b2 : now ≤ 1000000000000) (b3 : -1000000000000 ≤ wait) (b4 : wait ≤ 1000000000000) : OutOk (callF bd tab.get fu (n + 2) 94 [.ptr p 6, num now, num wait] s) (fun x s' => Sep s0 s' (oW x 4 encO (l.filter (lateO now wait)) :: oU p a1 a2 a3 sn g w (l.filter (fun o => !lateO now wait o)) :: Ps)) := by
  obtain ⟨f, k1, up⟩ := hS.hd
  have hp : p ∈ f := by obtain ⟨v, fv, h1, h2, h3, rfl, h5⟩ := k1; simp
  refine (u_late n s p a1 a2 a3 sn g w l f now wait k1 hlen hf b1 b2 b3 b4).mono fun x s' ⟨fl, fr, r1, r2, r3, r4, r5, r6⟩ => ?_
  refine (up (oPair (oW x 4 encO (l.filter (lateO now wait))) (oU p a1 a2 a3 sn g w (l.filter (fun o => !lateO now wait o)))) ⟨fl, fr, r1, r2, r6, rfl⟩ (r3.mono (fun b hb _ => by simp at hb; subst hb; exact hp)) ?_).split
  intro b hb
  rcases List.mem_append.1 hb with hb | hb
  · rcases r4 b hb with h | h
    · simp at h
    · exact .inr h
  · rcases r5 b hb with h | h
    · left; simp at h; subst h; exact hp
    · exact .inr h
theorem d_fdrop (n : Nat) {s0 : St} (s : St) (p : Nat) (l : List O) (Ps : List Obj) (hS : Sep s0 s (oF p l :: Ps)) : OutOk (callF bd tab.get fu (n + 1) 81 [.ptr p 0] s) (fun x s' => Sep s0 s' (oW x 4 encO l :: oF p [] :: Ps)) := by
  obtain ⟨f, k1, up⟩ := hS.hd
  refine (f_drop n s p l f k1).mono fun x s' ⟨fv, r1, r2, r3, r4, r5⟩ => ?_
  refine (up (oPair (oW x 4 encO l) (oF p [])) ⟨fv, [p], r1, r2, by intro b hb hm; simp at hm; subst hm; exact r5 hb, rfl⟩ r3 ?_).split
  intro b hb
  left
  subst r4
  rcases List.mem_append.1 hb with hb | hb
  · simp [hb]
  · simp at hb; simp [hb]
theorem d_udrop (n : Nat) {s0 : St} (s : St) (p : Nat) (a1 a2 a3 : Bool) (sn : Int) (g w : Nat) (l : List O) (Ps : List Obj) (hS : Sep s0 s (oU p a1 a2 a3 sn g w l :: Ps)) : OutOk (callF bd tab.get fu (n + 1) 28 [.ptr p 6] s) (fun x s' => Sep s0 s' (oW x 4 encO l :: oU p a1 a2 a3 sn g w [] :: Ps)) := by
  obtain ⟨f, k1, up⟩ := hS.hd
  refine (u_drop n s p a1 a2 a3 sn g w l f k1).mono fun x s' ⟨fv, r1, r2, r3, r4, r5⟩ => ?_
  refine (up (oPair (oW x 4 encO l) (oU p a1 a2 a3 sn g w [])) ⟨fv, [p], r1, r2, by intro b hb hm; simp at hm; subst hm; exact r5 hb, rfl⟩ r3 ?_).split
  intro b hb
  left
  subst r4
  rcases List.mem_append.1 hb with hb | hb
  · simp [hb]
  · simp at hb; simp [hb]
theorem d_flen (n : Nat) {s0 : St} (s : St) (p : Nat) (l : List O) (Ps : List Obj) (hS : Sep s0 s (oF p l :: Ps)) : OutOk (callF bd tab.get fu (n + 1) 99 [.ptr p 0] s) (fun x s' => Is x (num (l.length : Int)) ∧ Is s' s) := by
  obtain ⟨f, k1, up⟩ := hS.hd
  exact f_len_ n s p l f k1
theorem d_fall (n : Nat) {s0 : St} (s : St) (p : Nat) (l : List O) (Ps : List Obj) (hS : Sep s0 s (oF p l :: Ps)) (hf : l.length < 1000000) : OutOk (callF bd tab.get fu (n + 2) 103 [.ptr p 0] s) (fun x s' => Sep s0 s' (oW x 4 encO l :: oF p l :: Ps)) := by
  obtain ⟨f, k1, up⟩ := hS.hd
  refine (f_all n s p l f k1 hf).mono fun x s' ⟨f', r1, r2, r3⟩ => hS.push (P := oW x 4 encO l) r1 r2 r3
/-! ## the path -/
theorem p_up (n : Nat) {s0 : St} (s : St) (p g w f : Nat) (t : PT) (Ps : List Obj) (hS : Sep s0 s (oC p (t.pc g w f) :: Ps)) : OutOk (callF bd tab.get fu (n + 1) 27 [.ptr p 0] s) (fun x s' => Is x (.bool (!t.up)) ∧ Sep s0 s' (oC p (PT.pc { t with up := true } g w f) :: Ps)) := by
  refine call_code t27 rfl ?_
  obtain ⟨up, jn, bh, sn, G, W, F⟩ := t
  dsimp only [PT.pc] at *
  have g1 := hS.getC
  simp (disch := omega) only [vm0, vm1, vm2, vm3, vm4, vm5, vm6, vm7, fPick, fBox, fBuild, fBsl, fLd, fLda, fSt, fNilc, fBin, fEq, fUn, fMkf, fFa, fFld, fFlda, fExt, evo, wr, wrC, frame, Bool.not_true, Bool.not_false, beq_self_eq_true, List.cons_append, List.nil_append, Nat.add_zero, Nat.zero_add, Nat.reduceAdd, Nat.reduceMul, Nat.reduceSub, Bool.and_true, Bool.true_and, Bool.and_self, beq_dec, fApp, Int.toNat_natCast, Nat.sub_zero, vmI, vc27, g1]
  exact ⟨rfl, hS.setC _⟩
theorem p_join (n : Nat) {s0 : St} (s : St) (p g w f : Nat) (t : PT) (Ps : List Obj) (hS : Sep s0 s (oC p (t.pc g w f) :: Ps)) : OutOk (callF bd tab.get fu (n + 1) 31 [.ptr p 0] s) (fun x s' => Is x (.bool (!t.jn)) ∧ Sep s0 s' (oC p (PT.pc { t with jn := true } g w f) :: Ps)) := by
  refine call_code t31 rfl ?_
  obtain ⟨up, jn, bh, sn, G, W, F⟩ := t
  dsimp only [PT.pc] at *
  have g1 := hS.getC
  simp (disch := omega) only [vm0, vm1, vm2, vm3, vm4, vm5, vm6, vm7, fPick, fBox, fBuild, fBsl, fLd, fLda, fSt, fNilc, fBin, fEq, fUn, fMkf, fFa, fFld, fFlda, fExt, evo, wr, wrC, frame, Bool.not_true, Bool.not_false, beq_self_eq_true, List.cons_append, List.nil_append, Nat.add_zero, Nat.zero_add, Nat.reduceAdd, Nat.reduceMul, Nat.reduceSub, Bool.and_true, Bool.true_and, Bool.and_self, beq_dec, fApp, Int.toNat_natCast, Nat.sub_zero, vmI, vc31, g1]
  exact ⟨rfl, hS.setC _⟩
theorem p_more (n : Nat) {s0 : St} (s : St) (p g w f : Nat) (t : PT) (Ps : List Obj) (hS : Sep s0 s (oC p (t.pc g w f) :: Ps)) (hs : t.sent ≤ 1000) : OutOk (callF bd tab.get fu (n + 1) 82 [.ptr p 0] s) (fun x s' => Is x (.bool true) ∧ Is s' s) := by
  refine call_code t82 rfl ?_
  obtain ⟨up, jn, bh, sn, G, W, F⟩ := t
  dsimp only [PT.pc] at *
  have g1 := hS.getC
  simp (disch := omega) only [vm0, vm1, vm2, vm3, vm4, vm5, vm6, vm7, fPick, fBox, fBuild, fBsl, fLd, fLda, fSt, fNilc, fBin, fEq, fUn, fMkf, fFa, fFld, fFlda, fExt, evo, wr, wrC, frame, Bool.not_true, Bool.not_false, beq_self_eq_true, List.cons_append, List.nil_append, Nat.add_zero, Nat.zero_add, Nat.reduceAdd, Nat.reduceMul, Nat.reduceSub, Bool.and_true, Bool.true_and, Bool.and_self, beq_dec, fApp, Int.toNat_natCast, Nat.sub_zero, vmI, vc82, g1]
  exact ⟨rfl, rfl⟩
theorem p_number (n : Nat) {s0 : St} (s : St) (p g w f : Nat) (t : PT) (Ps : List Obj) (hS : Sep s0 s (oC p (t.pc g w f) :: Ps)) (hs0 : 0 ≤ t.sent) (hs : t.sent ≤ 1000) : OutOk (callF bd tab.get fu (n + 2) 32 [.ptr p 0] s) (fun x s' => Is x (.tup [num t.sent, .bool true]) ∧ Sep s0 s' (oC p (PT.pc { t with sent := t.sent + 1 } g w f) :: Ps)) := by
  refine call_code t32 rfl ?_
  have hm := p_more (bd := bd) (fu := fu)  n s p g w f t Ps hS hs
  obtain ⟨up, jn, bh, sn, G, W, F⟩ := t
  dsimp only [PT.pc] at *
  have g1 := hS.getC
  simp (disch := omega) only [vm0, vm1, vm2, vm3, vm4, vm5, vm6, vm7, fPick, fBox, fBuild, fBsl, fLd, fLda, fSt, fNilc, fBin, fEq, fUn, fMkf, fFa, fFld, fFlda, fExt, evo, wr, wrC, frame, Bool.not_true, Bool.not_false, beq_self_eq_true, List.cons_append, List.nil_append, Nat.add_zero, Nat.zero_add, Nat.reduceAdd, Nat.reduceMul, Nat.reduceSub, Bool.and_true, Bool.true_and, Bool.and_self, beq_dec, fApp, Int.toNat_natCast, Nat.sub_zero, vmI, vc32]
  refine call_ok rfl rfl hm ?_
  rintro y s1 ⟨rfl, rfl⟩
  simp (disch := omega) only [vm0, vm1, vm2, vm3, vm4, vm5, vm6, vm7, fPick, fBox, fBuild, fBsl, fLd, fLda, fSt, fNilc, fBin, fEq, fUn, fMkf, fFa, fFld, fFlda, fExt, evo, wr, wrC, frame, Bool.not_true, Bool.not_false, beq_self_eq_true, List.cons_append, List.nil_append, Nat.add_zero, Nat.zero_add, Nat.reduceAdd, Nat.reduceMul, Nat.reduceSub, Bool.and_true, Bool.true_and, Bool.and_self, beq_dec, fApp, Int.toNat_natCast, Nat.sub_zero, vmI, g1, Int.add_sub_cancel]
  exact ⟨rfl, hS.setC _⟩
theorem u_number (n : Nat) {s0 : St} (s : St) (p : Nat) (a1 a2 a3 : Bool) (sn : Int) (g w : Nat) (l : List O) (Ps : List Obj) (hS : Sep s0 s (oU p a1 a2 a3 sn g w l :: Ps)) (hs0 : 0 ≤ sn) (hs : sn ≤ 1000) : OutOk (callF bd tab.get fu (n + 1) 33 [.ptr p 0] s) (fun x s' => Is x (.tup [num sn, .bool true]) ∧ Sep s0 s' (oU p a1 a2 a3 (sn + 1) g w l :: Ps)) := by
  refine call_code t33 rfl ?_
  obtain ⟨v, g1, _⟩ := hS.getU
  simp (disch := omega) only [vm0, vm1, vm2, vm3, vm4, vm5, vm6, vm7, fPick, fBox, fBuild, fBsl, fLd, fLda, fSt, fNilc, fBin, fEq, fUn, fMkf, fFa, fFld, fFlda, fExt, evo, wr, wrC, frame, Bool.not_true, Bool.not_false, beq_self_eq_true, List.cons_append, List.nil_append, Nat.add_zero, Nat.zero_add, Nat.reduceAdd, Nat.reduceMul, Nat.reduceSub, Bool.and_true, Bool.true_and, Bool.and_self, beq_dec, fApp, Int.toNat_natCast, Nat.sub_zero, vmI, vc33, g1, Int.add_sub_cancel]
  exact ⟨rfl, hS.setU g1 _ _ _ _⟩
theorem p_down (n : Nat) {s0 : St} (s : St) (p g w f : Nat) (t : PT) (Ps : List Obj) (hS : Sep s0 s (oC p (t.pc g w f) :: oF f t.F :: Ps)) : OutOk (callF bd tab.get fu (n + 2) 30 [.ptr p 0] s) (fun x s' => Sep s0 s' (oW x 4 encO (if t.up then t.F else []) :: oC p (PT.pc { t with up := false } g w f) :: oF f (if t.up then [] else t.F) :: Ps)) := by
  refine call_code t30 rfl ?_
  obtain ⟨up, jn, bh, sn, G, W, F⟩ := t
  dsimp only [PT.pc] at *
  have g1 := hS.getC
  cases up
  · simp (disch := omega) only [vm0, vm1, vm2, vm3, vm4, vm5, vm6, vm7, fPick, fBox, fBuild, fBsl, fLd, fLda, fSt, fNilc, fBin, fEq, fUn, fMkf, fFa, fFld, fFlda, fExt, evo, wr, wrC, frame, Bool.not_true, Bool.not_false, beq_self_eq_true, List.cons_append, List.nil_append, Nat.add_zero, Nat.zero_add, Nat.reduceAdd, Nat.reduceMul, Nat.reduceSub, Bool.and_true, Bool.true_and, Bool.and_self, beq_dec, fApp, Int.toNat_natCast, Nat.sub_zero, vmI, vc30, g1]
    rw [if_neg (by simp), if_neg (by simp)]
    exact hS.push (P := oW .nils 4 encO []) (f := []) (OwE.nil (by intro x; rfl) (by omega)) .refl (by simp [Nw])
  · simp (disch := omega) only [vm0, vm1, vm2, vm3, vm4, vm5, vm6, vm7, fPick, fBox, fBuild, fBsl, fLd, fLda, fSt, fNilc, fBin, fEq, fUn, fMkf, fFa, fFld, fFlda, fExt, evo, wr, wrC, frame, Bool.not_true, Bool.not_false, beq_self_eq_true, List.cons_append, List.nil_append, Nat.add_zero, Nat.zero_add, Nat.reduceAdd, Nat.reduceMul, Nat.reduceSub, Bool.and_true, Bool.true_and, Bool.and_self, beq_dec, fApp, Int.toNat_natCast, Nat.sub_zero, vmI, vc30, g1]
    simp only [if_true]
    refine call_ok rfl rfl (d_fdrop n _ f F _ (hS.setC _).swap) ?_
    rintro x s1 hS1
    simp (disch := omega) only [vm0, vm1, vm2, vm3, vm4, vm5, vm6, vm7, fPick, fBox, fBuild, fBsl, fLd, fLda, fSt, fNilc, fBin, fEq, fUn, fMkf, fFa, fFld, fFlda, fExt, evo, wr, wrC, frame, Bool.not_true, Bool.not_false, beq_self_eq_true, List.cons_append, List.nil_append, Nat.add_zero, Nat.zero_add, Nat.reduceAdd, Nat.reduceMul, Nat.reduceSub, Bool.and_true, Bool.true_and, Bool.and_self, beq_dec, fApp, Int.toNat_natCast, Nat.sub_zero, vmI]
    exact (((hS1.re (.cons _ ((List.perm_middle (l₁ := [_])).trans (.cons _ (.refl _)))))))
theorem p_out (n : Nat) {s0 : St} (s : St) (p g w f : Nat) (t : PT) (o : O) (Ps : List Obj) (hS : Sep s0 s (oC p (t.pc g w f) :: oF f t.F :: Ps)) (hlen : t.F.length < fu) (hf : t.F.length < 1000) : OutOk (callF bd tab.get fu (n + 5) 34 [.ptr p 0, .agg (encO o)] s) (fun x s' => Is x (.bool (decide (fst o.1 t.F 0 < 0))) ∧ Sep s0 s' (oC p (t.pc g w f) :: oF f (addF o t.F) :: Ps)) := by
  refine call_code t34 rfl ?_
  obtain ⟨up, jn, bh, sn, G, W, F⟩ := t
  obtain ⟨a, b, c, d⟩ := o
  dsimp only [PT.pc, encO] at *
  have g1 := hS.getC
  simp (disch := omega) only [vm0, vm1, vm2, vm3, vm4, vm5, vm6, vm7, fPick, fBox, fBuild, fBsl, fLd, fLda, fSt, fNilc, fBin, fEq, fUn, fMkf, fFa, fFld, fFlda, fExt, evo, wr, wrC, frame, Bool.not_true, Bool.not_false, beq_self_eq_true, List.cons_append, List.nil_append, Nat.add_zero, Nat.zero_add, Nat.reduceAdd, Nat.reduceMul, Nat.reduceSub, Bool.and_true, Bool.true_and, Bool.and_self, beq_dec, fApp, Int.toNat_natCast, Nat.sub_zero, vmI, vc34, g1]
  have hS1 := hS.fr (s' := s.new (.cells [num a, num b, num c, num d] .own)) (by (repeat' (first | exact Fr.refl | assumption | apply Fr.new' | apply Fr.mk' | apply Fr.put')) <;> (first | omega | (left; simp; done) | (right; simp only [next_put, next_new, next_mk]; omega) | (simp only [next_put, next_new, next_mk]; omega)))
  have g2 := hS1.getC
  have hb : (s.new (.cells [num a, num b, num c, num d] .own)).heap.get s.next = some (.cells [num a, num b, num c, num d] .own) := get_new_eq rfl
  have hC := Sep.push hS (s' := s.new (.cells [num a, num b, num c, num d] .own)) (P := oC s.next [num a, num b, num c, num d]) ⟨hb, by rw [next_new]; omega, rfl⟩ (by (repeat' (first | exact Fr.refl | assumption | apply Fr.new' | apply Fr.mk' | apply Fr.put')) <;> (first | omega | (left; simp; done) | (right; simp only [next_put, next_new, next_mk]; omega) | (simp only [next_put, next_new, next_mk]; omega))) (by intro z hz; simp at hz; right; omega)
  generalize s.new (.cells [num a, num b, num c, num d] .own) = s1 at *
  simp (disch := omega) only [vm0, vm1, vm2, vm3, vm4, vm5, vm6, vm7, fPick, fBox, fBuild, fBsl, fLd, fLda, fSt, fNilc, fBin, fEq, fUn, fMkf, fFa, fFld, fFlda, fExt, evo, wr, wrC, frame, Bool.not_true, Bool.not_false, beq_self_eq_true, List.cons_append, List.nil_append, Nat.add_zero, Nat.zero_add, Nat.reduceAdd, Nat.reduceMul, Nat.reduceSub, Bool.and_true, Bool.true_and, Bool.and_self, beq_dec, fApp, Int.toNat_natCast, Nat.sub_zero, vmI, g2, hb]
  refine call_ok rfl rfl (d_fadd n s1 f F (a, b, c, d) _ (((hC.re ((List.perm_middle (l₁ := [_, _])).trans (.cons _ (.refl _)))))) hlen hf) ?_
  rintro x s2 ⟨rfl, hS2⟩
  have g3 := hS2.swap.getC
  have g4 := (((hS2.re ((List.perm_middle (l₁ := [_, _])).trans (.cons _ (.refl _)))))).getC
  simp (disch := omega) only [vm0, vm1, vm2, vm3, vm4, vm5, vm6, vm7, fPick, fBox, fBuild, fBsl, fLd, fLda, fSt, fNilc, fBin, fEq, fUn, fMkf, fFa, fFld, fFlda, fExt, evo, wr, wrC, frame, Bool.not_true, Bool.not_false, beq_self_eq_true, List.cons_append, List.nil_append, Nat.add_zero, Nat.zero_add, Nat.reduceAdd, Nat.reduceMul, Nat.reduceSub, Bool.and_true, Bool.true_and, Bool.and_self, beq_dec, fApp, Int.toNat_natCast, Nat.sub_zero, vmI, g2, hb, g3, g4]
  exact ⟨rfl, ((hS2.re ((List.perm_middle (l₁ := [_])).trans (.cons _ ((List.perm_middle (l₁ := [_])).trans (.cons _ (.refl _)))))).drop)⟩
end
end Go.Proofs.Ytgckbcljlkkceaa.ctr
namespace Go.Proofs.Ytgckbcljlkkceaa.ctr
open Go Go.Vm Go.RowKit
set_option linter.unusedVariables false
set_option linter.constructorNameAsVariable false
set_option linter.unusedSimpArgs false
theorem Sep.sameW {α : Type} {s0 s : St} {v : AV} {sz : Nat} {enc : α → List AV} {l : List α} {Ps : List Obj} (h : Sep s0 s (oW v sz enc l :: Ps)) : sameA v v = true := by
  obtain ⟨f, k, _⟩ := h.hd
  rcases k.ow with ⟨rfl, _⟩ | ⟨_, _, _, _, _, _, rfl, _⟩
  · exact sm_n
  · exact sm_s
section
variable {bd : Bd} {fu : Nat}
theorem p_late (n : Nat) {s0 : St} (s : St) (p g w f : Nat) (t : PT) (now : Int) (Ps : List Obj) (hS : Sep s0 s (oC p (t.pc g w f) :: oC g t.G.cs :: oC w t.W.cs :: oF f t.F :: Ps)) (hg : t.G.Ok) (hw : t.W.Ok) (hlen : t.F.length < fu) (hf : t.F.length < 1000) (hn : 0 ≤ now ∧ now ≤ 1000) :
    OutOk (callF bd tab.get fu (n + 3) 38 [.ptr p 0, num now] s) (fun x s' => Sep s0 s' (oW x 4 encO (t.lates now) :: oC p ((t.late now).pc g w f) :: oC g (t.late now).G.cs :: oC w (t.late now).W.cs :: oF f (t.late now).F :: Ps)) := by
  refine call_code t38 rfl ?_
  have hwt := hg.wait
  obtain ⟨up, jn, bh, sn, G, W, F⟩ := t
  dsimp only [PT.pc, PT.lates] at *
  have g1 := hS.getC
  simp (disch := omega) only [vm0, vm1, vm2, vm3, vm4, vm5, vm6, vm7, fPick, fBox, fBuild, fBsl, fLd, fLda, fSt, fNilc, fBin, fEq, fUn, fMkf, fFa, fFld, fFlda, fExt, evo, wr, wrC, frame, Bool.not_true, Bool.not_false, beq_self_eq_true, List.cons_append, List.nil_append, Nat.add_zero, Nat.zero_add, Nat.reduceAdd, Nat.reduceMul, Nat.reduceSub, Bool.and_true, Bool.true_and, Bool.and_self, beq_dec, fApp, Int.toNat_natCast, Nat.sub_zero, vmI, vc38, g1]
  refine call_ok rfl rfl (g_wait n s g G _ (((hS.re ((List.perm_middle (l₁ := [_])).trans (.cons _ (.refl _)))))) hg) ?_
  rintro y s1 ⟨rfl, rfl⟩
  simp (disch := omega) only [vm0, vm1, vm2, vm3, vm4, vm5, vm6, vm7, fPick, fBox, fBuild, fBsl, fLd, fLda, fSt, fNilc, fBin, fEq, fUn, fMkf, fFa, fFld, fFlda, fExt, evo, wr, wrC, frame, Bool.not_true, Bool.not_false, beq_self_eq_true, List.cons_append, List.nil_append, Nat.add_zero, Nat.zero_add, Nat.reduceAdd, Nat.reduceMul, Nat.reduceSub, Bool.and_true, Bool.true_and, Bool.and_self, beq_dec, fApp, Int.toNat_natCast, Nat.sub_zero, vmI, g1]
  refine call_ok rfl rfl (d_flate2 n s1 f F now G.wait _ (((hS.re ((List.perm_middle (l₁ := [_, _, _])).trans (.cons _ (.refl _)))))) hlen hf (by omega) (by omega) (by omega) (by omega)) ?_
  rintro x s2 hS2
  have g2 := (((hS2.re ((List.perm_middle (l₁ := [_, _])).trans (.cons _ (.refl _)))))).getC
  have hx := hS2.rdW
  have hxl := hx.lenV
  have hsx := hS2.sameW
  by_cases hl : (F.filter (lateO now G.wait)).length = 0
  · have e : PT.late ⟨up, jn, bh, sn, G, W, F⟩ now = ⟨up, jn, bh, sn, G, W, F.filter (fun o => !lateO now G.wait o)⟩ := if_pos hl
    rw [e]
    dsimp only
    rw [hl] at hxl
    simp (disch := omega) only [vm0, vm1, vm2, vm3, vm4, vm5, vm6, vm7, fPick, fBox, fBuild, fBsl, fLd, fLda, fSt, fNilc, fBin, fEq, fUn, fMkf, fFa, fFld, fFlda, fExt, evo, wr, wrC, frame, Bool.not_true, Bool.not_false, beq_self_eq_true, List.cons_append, List.nil_append, Nat.add_zero, Nat.zero_add, Nat.reduceAdd, Nat.reduceMul, Nat.reduceSub, Bool.and_true, Bool.true_and, Bool.and_self, beq_dec, fApp, Int.toNat_natCast, Nat.sub_zero, vmI, g1, g2, hsx, hxl]
    exact ((hS2.re (.cons _ ((List.perm_middle (l₁ := [_])).trans (.cons _ ((List.perm_middle (l₁ := [_])).trans (.cons _ ((List.perm_middle (l₁ := [_])).trans (.cons _ (.refl _))))))))))
  · have e : PT.late ⟨up, jn, bh, sn, G, W, F⟩ now = ⟨up, jn, true, sn, G.late, W.loss, F.filter (fun o => !lateO now G.wait o)⟩ := if_neg hl
    rw [e]
    dsimp only
    have hl2 : (0 : Int) < ((F.filter (lateO now G.wait)).length : Int) := by omega
    simp (disch := omega) only [vm0, vm1, vm2, vm3, vm4, vm5, vm6, vm7, fPick, fBox, fBuild, fBsl, fLd, fLda, fSt, fNilc, fBin, fEq, fUn, fMkf, fFa, fFld, fFlda, fExt, evo, wr, wrC, frame, Bool.not_true, Bool.not_false, beq_self_eq_true, List.cons_append, List.nil_append, Nat.add_zero, Nat.zero_add, Nat.reduceAdd, Nat.reduceMul, Nat.reduceSub, Bool.and_true, Bool.true_and, Bool.and_self, beq_dec, fApp, Int.toNat_natCast, Nat.sub_zero, vmI, g1, g2, hsx, hxl]
    refine call_ok rfl rfl (g_late (n + 1) s2 g G _ (((hS2.re ((List.perm_middle (l₁ := [_, _, _])).trans (.cons _ (.refl _)))))) hg) ?_
    rintro y s3 hS3
    have g3 := (((hS3.re ((List.perm_middle (l₁ := [_, _, _])).trans (.cons _ (.refl _)))))).getC
    simp (disch := omega) only [vm0, vm1, vm2, vm3, vm4, vm5, vm6, vm7, fPick, fBox, fBuild, fBsl, fLd, fLda, fSt, fNilc, fBin, fEq, fUn, fMkf, fFa, fFld, fFlda, fExt, evo, wr, wrC, frame, Bool.not_true, Bool.not_false, beq_self_eq_true, List.cons_append, List.nil_append, Nat.add_zero, Nat.zero_add, Nat.reduceAdd, Nat.reduceMul, Nat.reduceSub, Bool.and_true, Bool.true_and, Bool.and_self, beq_dec, fApp, Int.toNat_natCast, Nat.sub_zero, vmI, g3]
    refine call_ok rfl rfl (c_loss (n + 1) s3 w W _ (((hS3.re ((List.perm_middle (l₁ := [_, _, _, _])).trans (.cons _ (.refl _)))))) hw) ?_
    rintro y s4 hS4
    have hS5 := ((hS4.re ((List.perm_middle (l₁ := [_, _, _, _])).trans (.cons _ (.refl _)))))
    have g4 := hS5.getC
    simp (disch := omega) only [vm0, vm1, vm2, vm3, vm4, vm5, vm6, vm7, fPick, fBox, fBuild, fBsl, fLd, fLda, fSt, fNilc, fBin, fEq, fUn, fMkf, fFa, fFld, fFlda, fExt, evo, wr, wrC, frame, Bool.not_true, Bool.not_false, beq_self_eq_true, List.cons_append, List.nil_append, Nat.add_zero, Nat.zero_add, Nat.reduceAdd, Nat.reduceMul, Nat.reduceSub, Bool.and_true, Bool.true_and, Bool.and_self, beq_dec, fApp, Int.toNat_natCast, Nat.sub_zero, vmI, g4]
    have hS6 := Sep.setC hS5 [.bool up, .bool jn, .ptr g 0, .ptr w 0, .ptr f 0, num sn, .bool true]
    exact ((hS6.re ((List.perm_middle (l₁ := [_, _, _])).trans (.cons _ (.cons _ ((List.perm_middle (l₁ := [_])).trans (.cons _ (.refl _))))))))
theorem q_late (n : Nat) {s0 : St} (s : St) (r g w : Nat) (t : PT) (now : Int) (Ps : List Obj) (hS : Sep s0 s (oU r t.up t.jn t.bh t.sent g w t.F :: oC g t.G.cs :: oC w t.W.cs :: Ps)) (hg : t.G.Ok) (hw : t.W.Ok) (hlen : t.F.length < fu) (hf : t.F.length < 1000) (hfu : 10 < fu) (hn : 0 ≤ now ∧ now ≤ 1000) :
    OutOk (callF bd tab.get fu (n + 3) 39 [.ptr r 0, num now] s) (fun x s' => Sep s0 s' (oW x 4 encO (t.lates now) :: oU r (t.late now).up (t.late now).jn (t.late now).bh (t.late now).sent g w (t.late now).F :: oC g (t.late now).G.cs :: oC w (t.late now).W.cs :: Ps)) := by
  refine call_code t39 rfl ?_
  have hwt := hg.wait
  obtain ⟨up, jn, bh, sn, G, W, F⟩ := t
  dsimp only [PT.lates] at *
  obtain ⟨v, g1, _⟩ := hS.getU
  simp (disch := omega) only [vm0, vm1, vm2, vm3, vm4, vm5, vm6, vm7, fPick, fBox, fBuild, fBsl, fLd, fLda, fSt, fNilc, fBin, fEq, fUn, fMkf, fFa, fFld, fFlda, fExt, evo, wr, wrC, frame, Bool.not_true, Bool.not_false, beq_self_eq_true, List.cons_append, List.nil_append, Nat.add_zero, Nat.zero_add, Nat.reduceAdd, Nat.reduceMul, Nat.reduceSub, Bool.and_true, Bool.true_and, Bool.and_self, beq_dec, fApp, Int.toNat_natCast, Nat.sub_zero, vmI, vc39, g1]
  refine call_ok rfl rfl (w_wait n s g G _ (((hS.re ((List.perm_middle (l₁ := [_])).trans (.cons _ (.refl _)))))) hg hfu) ?_
  rintro y s1 ⟨rfl, rfl⟩
  simp (disch := omega) only [vm0, vm1, vm2, vm3, vm4, vm5, vm6, vm7, fPick, fBox, fBuild, fBsl, fLd, fLda, fSt, fNilc, fBin, fEq, fUn, fMkf, fFa, fFld, fFlda, fExt, evo, wr, wrC, frame, Bool.not_true, Bool.not_false, beq_self_eq_true, List.cons_append, List.nil_append, Nat.add_zero, Nat.zero_add, Nat.reduceAdd, Nat.reduceMul, Nat.reduceSub, Bool.and_true, Bool.true_and, Bool.and_self, beq_dec, fApp, Int.toNat_natCast, Nat.sub_zero, vmI, g1]
  refine call_ok rfl rfl (d_ulate2 n s1 r up jn bh sn g w F now G.wait _ hS hlen hf (by omega) (by omega) (by omega) (by omega)) ?_
  rintro x s2 hS2
  obtain ⟨v2, g2, _⟩ := hS2.swap.getU
  have hx := hS2.rdW
  have hxl := hx.lenV
  have hsx := hS2.sameW
  by_cases hl : (F.filter (lateO now G.wait)).length = 0
  · have e : PT.late ⟨up, jn, bh, sn, G, W, F⟩ now = ⟨up, jn, bh, sn, G, W, F.filter (fun o => !lateO now G.wait o)⟩ := if_pos hl
    rw [e]
    dsimp only
    rw [hl] at hxl
    simp (disch := omega) only [vm0, vm1, vm2, vm3, vm4, vm5, vm6, vm7, fPick, fBox, fBuild, fBsl, fLd, fLda, fSt, fNilc, fBin, fEq, fUn, fMkf, fFa, fFld, fFlda, fExt, evo, wr, wrC, frame, Bool.not_true, Bool.not_false, beq_self_eq_true, List.cons_append, List.nil_append, Nat.add_zero, Nat.zero_add, Nat.reduceAdd, Nat.reduceMul, Nat.reduceSub, Bool.and_true, Bool.true_and, Bool.and_self, beq_dec, fApp, Int.toNat_natCast, Nat.sub_zero, vmI, g1, g2, hsx, hxl]
    exact hS2
  · have e : PT.late ⟨up, jn, bh, sn, G, W, F⟩ now = ⟨up, jn, true, sn, G.late, W.loss, F.filter (fun o => !lateO now G.wait o)⟩ := if_neg hl
    rw [e]
    dsimp only
    have hl2 : (0 : Int) < ((F.filter (lateO now G.wait)).length : Int) := by omega
    simp (disch := omega) only [vm0, vm1, vm2, vm3, vm4, vm5, vm6, vm7, fPick, fBox, fBuild, fBsl, fLd, fLda, fSt, fNilc, fBin, fEq, fUn, fMkf, fFa, fFld, fFlda, fExt, evo, wr, wrC, frame, Bool.not_true, Bool.not_false, beq_self_eq_true, List.cons_append, List.nil_append, Nat.add_zero, Nat.zero_add, Nat.reduceAdd, Nat.reduceMul, Nat.reduceSub, Bool.and_true, Bool.true_and, Bool.and_self, beq_dec, fApp, Int.toNat_natCast, Nat.sub_zero, vmI, g1, g2, hsx, hxl]
    refine call_ok rfl rfl (w_late (n + 1) s2 g G _ (((hS2.re ((List.perm_middle (l₁ := [_, _])).trans (.cons _ (.refl _)))))) hg) ?_
    rintro y s3 hS3
    obtain ⟨v3, g3, _⟩ := (((hS3.re ((List.perm_middle (l₁ := [_, _])).trans (.cons _ (.refl _)))))).getU
    simp (disch := omega) only [vm0, vm1, vm2, vm3, vm4, vm5, vm6, vm7, fPick, fBox, fBuild, fBsl, fLd, fLda, fSt, fNilc, fBin, fEq, fUn, fMkf, fFa, fFld, fFlda, fExt, evo, wr, wrC, frame, Bool.not_true, Bool.not_false, beq_self_eq_true, List.cons_append, List.nil_append, Nat.add_zero, Nat.zero_add, Nat.reduceAdd, Nat.reduceMul, Nat.reduceSub, Bool.and_true, Bool.true_and, Bool.and_self, beq_dec, fApp, Int.toNat_natCast, Nat.sub_zero, vmI, g3]
    refine call_ok rfl rfl (w_loss (n + 1) s3 w W _ (((hS3.re ((List.perm_middle (l₁ := [_, _, _])).trans (.cons _ (.refl _)))))) hw) ?_
    rintro y s4 hS4
    have hS5 := ((hS4.re ((List.perm_middle (l₁ := [_, _, _])).trans (.cons _ (.refl _)))))
    obtain ⟨v4, g4, _⟩ := hS5.getU
    simp (disch := omega) only [vm0, vm1, vm2, vm3, vm4, vm5, vm6, vm7, fPick, fBox, fBuild, fBsl, fLd, fLda, fSt, fNilc, fBin, fEq, fUn, fMkf, fFa, fFld, fFlda, fExt, evo, wr, wrC, frame, Bool.not_true, Bool.not_false, beq_self_eq_true, List.cons_append, List.nil_append, Nat.add_zero, Nat.zero_add, Nat.reduceAdd, Nat.reduceMul, Nat.reduceSub, Bool.and_true, Bool.true_and, Bool.and_self, beq_dec, fApp, Int.toNat_natCast, Nat.sub_zero, vmI, g4]
    have hS6 := hS5.setU g4 up jn true sn
    exact ((hS6.re ((List.perm_middle (l₁ := [_, _, _])).trans (.cons _ (.cons _ ((List.perm_middle (l₁ := [_])).trans (.cons _ (.refl _))))))))
theorem p_acked (n : Nat) {s0 : St} (s : St) (p g w f : Nat) (t : PT) (k now : Int) (Ps : List Obj) (hS : Sep s0 s (oC p (t.pc g w f) :: oC g t.G.cs :: oC w t.W.cs :: oF f t.F :: Ps)) (hg : t.G.Ok) (hw : t.W.Ok) (hlen : t.F.length < fu) (hf : t.F.length < 1000) (hn : 0 ≤ now ∧ now ≤ 1000) (ha : ∀ o ∈ t.F, 0 ≤ o.2.2.2 ∧ o.2.2.2 ≤ 1000) :
    OutOk (callF bd tab.get fu (n + 5) 36 [.ptr p 0, num k, num now] s) (fun x s' => Is x (.bool (decide (¬ fst k t.F 0 < 0))) ∧ Sep s0 s' (oC p ((t.acked k now).pc g w f) :: oC g (t.acked k now).G.cs :: oC w (t.acked k now).W.cs :: oF f (t.acked k now).F :: Ps)) := by
  refine call_code t36 rfl ?_
  obtain ⟨up, jn, bh, sn, G, W, F⟩ := t
  dsimp only [PT.pc] at *
  have g1 := hS.getC
  simp (disch := omega) only [vm0, vm1, vm2, vm3, vm4, vm5, vm6, vm7, fPick, fBox, fBuild, fBsl, fLd, fLda, fSt, fNilc, fBin, fEq, fUn, fMkf, fFa, fFld, fFlda, fExt, evo, wr, wrC, frame, Bool.not_true, Bool.not_false, beq_self_eq_true, List.cons_append, List.nil_append, Nat.add_zero, Nat.zero_add, Nat.reduceAdd, Nat.reduceMul, Nat.reduceSub, Bool.and_true, Bool.true_and, Bool.and_self, beq_dec, fApp, Int.toNat_natCast, Nat.sub_zero, vmI, vc36, g1]
  refine call_ok rfl rfl (d_ftake n s f F k _ (((hS.re ((List.perm_middle (l₁ := [_, _, _])).trans (.cons _ (.refl _)))))) hlen hf) ?_
  rintro y s1 ⟨hy, hS1⟩
  by_cases hl : fst k F 0 < 0
  · rw [if_pos hl] at hy
    subst hy
    have e : PT.acked ⟨up, jn, bh, sn, G, W, F⟩ k now = ⟨up, jn, bh, sn, G, W, F⟩ := if_pos hl
    have e2 : takeF k F = F := if_pos hl
    rw [e]
    rw [e2] at hS1
    dsimp only
    have hS2 := hS1.cell [num 0, num 0, num 0, num 0] (encO o0)
    dsimp only [encO] at *
    simp (disch := omega) only [vm0, vm1, vm2, vm3, vm4, vm5, vm6, vm7, fPick, fBox, fBuild, fBsl, fLd, fLda, fSt, fNilc, fBin, fEq, fUn, fMkf, fFa, fFld, fFlda, fExt, evo, wr, wrC, frame, Bool.not_true, Bool.not_false, beq_self_eq_true, List.cons_append, List.nil_append, Nat.add_zero, Nat.zero_add, Nat.reduceAdd, Nat.reduceMul, Nat.reduceSub, Bool.and_true, Bool.true_and, Bool.and_self, beq_dec, fApp, Int.toNat_natCast, Nat.sub_zero, vmI]
    exact ⟨rfl, ((hS2.re (.cons _ ((List.perm_middle (l₁ := [_])).trans (.cons _ ((List.perm_middle (l₁ := [_])).trans (.cons _ ((List.perm_middle (l₁ := [_])).trans (.cons _ (.refl _))))))))).drop)⟩
  · rw [if_neg hl] at hy
    subst hy
    have e : PT.acked ⟨up, jn, bh, sn, G, W, F⟩ k now = ⟨up, jn, false, sn, G.sample (now - (F.getD (ixO k F) o0).2.2.2), W.ack, takeF k F⟩ := if_neg hl
    rw [e]
    dsimp only
    have hat : 0 ≤ (F.getD (ixO k F) o0).2.2.2 ∧ (F.getD (ixO k F) o0).2.2.2 ≤ 1000 := by
      rw [List.getD_eq_getElem?_getD]
      cases hq : F[ixO k F]? with
      | none => exact ⟨by decide, by decide⟩
      | some o => exact ha o (List.mem_of_getElem? hq)
    generalize F.getD (ixO k F) o0 = o at *
    obtain ⟨oa, ob', oc, od⟩ := o
    dsimp only at hat
    have hS2 := hS1.cell [num 0, num 0, num 0, num 0] (encO (oa, ob', oc, od))
    have g2 := (((hS2.re ((List.perm_middle (l₁ := [_, _])).trans (.cons _ (.refl _)))))).getC
    have g3 := hS2.getC
    dsimp only [encO] at *
    simp (disch := omega) only [vm0, vm1, vm2, vm3, vm4, vm5, vm6, vm7, fPick, fBox, fBuild, fBsl, fLd, fLda, fSt, fNilc, fBin, fEq, fUn, fMkf, fFa, fFld, fFlda, fExt, evo, wr, wrC, frame, Bool.not_true, Bool.not_false, beq_self_eq_true, List.cons_append, List.nil_append, Nat.add_zero, Nat.zero_add, Nat.reduceAdd, Nat.reduceMul, Nat.reduceSub, Bool.and_true, Bool.true_and, Bool.and_self, beq_dec, fApp, Int.toNat_natCast, Nat.sub_zero, vmI]
    generalize (s1.new (.cells [num 0, num 0, num 0, num 0] .own)).put s1.next (some (.cells [num oa, num ob', num oc, num od] .own)) = s2 at *
    simp (disch := omega) only [vm0, vm1, vm2, vm3, vm4, vm5, vm6, vm7, fPick, fBox, fBuild, fBsl, fLd, fLda, fSt, fNilc, fBin, fEq, fUn, fMkf, fFa, fFld, fFlda, fExt, evo, wr, wrC, frame, Bool.not_true, Bool.not_false, beq_self_eq_true, List.cons_append, List.nil_append, Nat.add_zero, Nat.zero_add, Nat.reduceAdd, Nat.reduceMul, Nat.reduceSub, Bool.and_true, Bool.true_and, Bool.and_self, beq_dec, fApp, Int.toNat_natCast, Nat.sub_zero, vmI, g2, g3]
    refine call_ok rfl rfl (g_sample (n + 2) s2 g G (now - od) _ (((hS2.re ((List.perm_middle (l₁ := [_, _, _])).trans (.cons _ (.refl _)))))) hg) ?_
    rintro y s3 hS3
    have g4 := (((hS3.re ((List.perm_middle (l₁ := [_, _, _])).trans (.cons _ (.refl _)))))).getC
    have g5 := (((hS3.re ((List.perm_middle (l₁ := [_])).trans (.cons _ (.refl _)))))).getC
    simp (disch := omega) only [vm0, vm1, vm2, vm3, vm4, vm5, vm6, vm7, fPick, fBox, fBuild, fBsl, fLd, fLda, fSt, fNilc, fBin, fEq, fUn, fMkf, fFa, fFld, fFlda, fExt, evo, wr, wrC, frame, Bool.not_true, Bool.not_false, beq_self_eq_true, List.cons_append, List.nil_append, Nat.add_zero, Nat.zero_add, Nat.reduceAdd, Nat.reduceMul, Nat.reduceSub, Bool.and_true, Bool.true_and, Bool.and_self, beq_dec, fApp, Int.toNat_natCast, Nat.sub_zero, vmI, g2, g3, g4, g5]
    refine call_ok rfl rfl (c_ack (n + 2) s3 w W _ (((hS3.re ((List.perm_middle (l₁ := [_, _, _, _])).trans (.cons _ (.refl _)))))) hw) ?_
    rintro y s4 hS4
    have hS5 := ((hS4.re ((List.perm_middle (l₁ := [_, _, _, _])).trans (.cons _ (.refl _)))))
    have g6 := hS5.getC
    simp (disch := omega) only [vm0, vm1, vm2, vm3, vm4, vm5, vm6, vm7, fPick, fBox, fBuild, fBsl, fLd, fLda, fSt, fNilc, fBin, fEq, fUn, fMkf, fFa, fFld, fFlda, fExt, evo, wr, wrC, frame, Bool.not_true, Bool.not_false, beq_self_eq_true, List.cons_append, List.nil_append, Nat.add_zero, Nat.zero_add, Nat.reduceAdd, Nat.reduceMul, Nat.reduceSub, Bool.and_true, Bool.true_and, Bool.and_self, beq_dec, fApp, Int.toNat_natCast, Nat.sub_zero, vmI, g6]
    have hS6 := Sep.setC hS5 [.bool up, .bool jn, .ptr g 0, .ptr w 0, .ptr f 0, num sn, .bool false]
    exact ⟨rfl, ((hS6.re ((List.perm_middle (l₁ := [_, _, _])).trans (.cons _ (.cons _ ((List.perm_middle (l₁ := [_])).trans (.cons _ (.refl _))))))).drop)⟩
theorem q_acked (n : Nat) {s0 : St} (s : St) (r g w : Nat) (t : PT) (k now : Int) (Ps : List Obj) (hS : Sep s0 s (oU r t.up t.jn t.bh t.sent g w t.F :: oC g t.G.cs :: oC w t.W.cs :: Ps)) (hg : t.G.Ok) (hw : t.W.Ok) (hlen : t.F.length < fu) (hf : t.F.length < 1000) (hn : 0 ≤ now ∧ now ≤ 1000) (ha : ∀ o ∈ t.F, 0 ≤ o.2.2.2 ∧ o.2.2.2 ≤ 1000) :
    OutOk (callF bd tab.get fu (n + 3) 37 [.ptr r 0, num k, num now] s) (fun x s' => Is x (.bool (decide (¬ fst k t.F 0 < 0))) ∧ Sep s0 s' (oU r (t.acked k now).up (t.acked k now).jn (t.acked k now).bh (t.acked k now).sent g w (t.acked k now).F :: oC g (t.acked k now).G.cs :: oC w (t.acked k now).W.cs :: Ps)) := by
  refine call_code t37 rfl ?_
  obtain ⟨up, jn, bh, sn, G, W, F⟩ := t
  dsimp only at *
  obtain ⟨v, g1, _⟩ := hS.getU
  simp (disch := omega) only [vm0, vm1, vm2, vm3, vm4, vm5, vm6, vm7, fPick, fBox, fBuild, fBsl, fLd, fLda, fSt, fNilc, fBin, fEq, fUn, fMkf, fFa, fFld, fFlda, fExt, evo, wr, wrC, frame, Bool.not_true, Bool.not_false, beq_self_eq_true, List.cons_append, List.nil_append, Nat.add_zero, Nat.zero_add, Nat.reduceAdd, Nat.reduceMul, Nat.reduceSub, Bool.and_true, Bool.true_and, Bool.and_self, beq_dec, fApp, Int.toNat_natCast, Nat.sub_zero, vmI, vc37, g1]
  refine call_ok rfl rfl (d_utake (n + 1) s r up jn bh sn g w F k _ hS hlen hf) ?_
  rintro y s1 ⟨hy, hS1⟩
  by_cases hl : fst k F 0 < 0
  · rw [if_pos hl] at hy
    subst hy
    have e : PT.acked ⟨up, jn, bh, sn, G, W, F⟩ k now = ⟨up, jn, bh, sn, G, W, F⟩ := if_pos hl
    have e2 : takeF k F = F := if_pos hl
    rw [e]
    rw [e2] at hS1
    dsimp only
    have hS2 := hS1.cell [num 0, num 0, num 0, num 0] (encO o0)
    dsimp only [encO] at *
    simp (disch := omega) only [vm0, vm1, vm2, vm3, vm4, vm5, vm6, vm7, fPick, fBox, fBuild, fBsl, fLd, fLda, fSt, fNilc, fBin, fEq, fUn, fMkf, fFa, fFld, fFlda, fExt, evo, wr, wrC, frame, Bool.not_true, Bool.not_false, beq_self_eq_true, List.cons_append, List.nil_append, Nat.add_zero, Nat.zero_add, Nat.reduceAdd, Nat.reduceMul, Nat.reduceSub, Bool.and_true, Bool.true_and, Bool.and_self, beq_dec, fApp, Int.toNat_natCast, Nat.sub_zero, vmI]
    exact ⟨rfl, hS2.drop⟩
  · rw [if_neg hl] at hy
    subst hy
    have e : PT.acked ⟨up, jn, bh, sn, G, W, F⟩ k now = ⟨up, jn, false, sn, G.sample (now - (F.getD (ixO k F) o0).2.2.2), W.ack, takeF k F⟩ := if_neg hl
    rw [e]
    dsimp only
    have hat : 0 ≤ (F.getD (ixO k F) o0).2.2.2 ∧ (F.getD (ixO k F) o0).2.2.2 ≤ 1000 := by
      rw [List.getD_eq_getElem?_getD]
      cases hq : F[ixO k F]? with
      | none => exact ⟨by decide, by decide⟩
      | some o => exact ha o (List.mem_of_getElem? hq)
    generalize F.getD (ixO k F) o0 = o at *
    obtain ⟨oa, ob', oc, od⟩ := o
    dsimp only at hat
    have hS2 := hS1.cell [num 0, num 0, num 0, num 0] (encO (oa, ob', oc, od))
    obtain ⟨v2, g2, _⟩ := hS2.swap.getU
    have g3 := hS2.getC
    dsimp only [encO] at *
    simp (disch := omega) only [vm0, vm1, vm2, vm3, vm4, vm5, vm6, vm7, fPick, fBox, fBuild, fBsl, fLd, fLda, fSt, fNilc, fBin, fEq, fUn, fMkf, fFa, fFld, fFlda, fExt, evo, wr, wrC, frame, Bool.not_true, Bool.not_false, beq_self_eq_true, List.cons_append, List.nil_append, Nat.add_zero, Nat.zero_add, Nat.reduceAdd, Nat.reduceMul, Nat.reduceSub, Bool.and_true, Bool.true_and, Bool.and_self, beq_dec, fApp, Int.toNat_natCast, Nat.sub_zero, vmI]
    generalize (s1.new (.cells [num 0, num 0, num 0, num 0] .own)).put s1.next (some (.cells [num oa, num ob', num oc, num od] .own)) = s2 at *
    simp (disch := omega) only [vm0, vm1, vm2, vm3, vm4, vm5, vm6, vm7, fPick, fBox, fBuild, fBsl, fLd, fLda, fSt, fNilc, fBin, fEq, fUn, fMkf, fFa, fFld, fFlda, fExt, evo, wr, wrC, frame, Bool.not_true, Bool.not_false, beq_self_eq_true, List.cons_append, List.nil_append, Nat.add_zero, Nat.zero_add, Nat.reduceAdd, Nat.reduceMul, Nat.reduceSub, Bool.and_true, Bool.true_and, Bool.and_self, beq_dec, fApp, Int.toNat_natCast, Nat.sub_zero, vmI, g2, g3]
    refine call_ok rfl rfl (w_sample n s2 g G (now - od) _ (((hS2.re ((List.perm_middle (l₁ := [_, _])).trans (.cons _ (.refl _)))))) hg) ?_
    rintro y s3 hS3
    obtain ⟨v4, g4, _⟩ := (((hS3.re ((List.perm_middle (l₁ := [_, _])).trans (.cons _ (.refl _)))))).getU
    have g5 := (((hS3.re ((List.perm_middle (l₁ := [_])).trans (.cons _ (.refl _)))))).getC
    simp (disch := omega) only [vm0, vm1, vm2, vm3, vm4, vm5, vm6, vm7, fPick, fBox, fBuild, fBsl, fLd, fLda, fSt, fNilc, fBin, fEq, fUn, fMkf, fFa, fFld, fFlda, fExt, evo, wr, wrC, frame, Bool.not_true, Bool.not_false, beq_self_eq_true, List.cons_append, List.nil_append, Nat.add_zero, Nat.zero_add, Nat.reduceAdd, Nat.reduceMul, Nat.reduceSub, Bool.and_true, Bool.true_and, Bool.and_self, beq_dec, fApp, Int.toNat_natCast, Nat.sub_zero, vmI, g2, g3, g4, g5]
    refine call_ok rfl rfl (w_ack (n + 1) s3 w W _ (((hS3.re ((List.perm_middle (l₁ := [_, _, _])).trans (.cons _ (.refl _)))))) hw) ?_
    rintro y s4 hS4
    have hS5 := ((hS4.re ((List.perm_middle (l₁ := [_, _, _])).trans (.cons _ (.refl _)))))
    obtain ⟨v6, g6, _⟩ := hS5.getU
    simp (disch := omega) only [vm0, vm1, vm2, vm3, vm4, vm5, vm6, vm7, fPick, fBox, fBuild, fBsl, fLd, fLda, fSt, fNilc, fBin, fEq, fUn, fMkf, fFa, fFld, fFlda, fExt, evo, wr, wrC, frame, Bool.not_true, Bool.not_false, beq_self_eq_true, List.cons_append, List.nil_append, Nat.add_zero, Nat.zero_add, Nat.reduceAdd, Nat.reduceMul, Nat.reduceSub, Bool.and_true, Bool.true_and, Bool.and_self, beq_dec, fApp, Int.toNat_natCast, Nat.sub_zero, vmI, g6]
    have hS6 := hS5.setU g6 up jn false sn
    exact ⟨rfl, ((hS6.re ((List.perm_middle (l₁ := [_, _, _])).trans (.cons _ (.cons _ ((List.perm_middle (l₁ := [_])).trans (.cons _ (.refl _))))))).drop)⟩
end
end Go.Proofs.Ytgckbcljlkkceaa.ctr
namespace Go.Proofs.Ytgckbcljlkkceaa.ctr
open Go Go.Vm Go.RowKit
set_option linter.unusedVariables false
set_option linter.constructorNameAsVariable false
set_option linter.unusedSimpArgs false
def b2i (b : Bool) : Int := if b then 1 else 0
def PT.usable (t : PT) : Bool := t.up && t.jn && decide ((t.F.length : Int) < t.W.si)
def PT.hdS (t : PT) : List Int := [b2i t.up, b2i t.jn, b2i t.bh, t.sent, t.G.me, t.G.wait, t.W.si, t.F.length]
def o4 (o : O) : List Int := [o.1, o.2.1, o.2.2.1, o.2.2.2]
def PT.state (t : PT) : List Int := t.hdS ++ t.F.flatMap o4
theorem o4_len (l : List O) : (l.flatMap o4).length = 4 * l.length := by
  induction l with
  | nil => rfl
  | cons a l ih => rw [List.flatMap_cons, List.length_append, ih, List.length_cons]; show 4 + _ = _; omega
theorem Sep.getU2 {s0 s : St} {p : Nat} {a1 a2 a3 : Bool} {sn : Int} {g w : Nat} {l : List O} {Ps : List Obj} (h : Sep s0 s (oU p a1 a2 a3 sn g w l :: Ps)) : ∃ v, s.heap.get p = some (.cells [.bool a1, .bool a2, .bool a3, num sn, .ptr g 0, .ptr w 0, v] .own) ∧ RdE s v 4 encO l ∧ sameA v v = true := by
  obtain ⟨f, ⟨v, fv, h1, h2, _⟩, up⟩ := h.hd
  refine ⟨v, h1, h2.rd, ?_⟩
  rcases h2.ow with ⟨rfl, _⟩ | ⟨_, _, _, _, _, _, rfl, _⟩
  · exact sm_n
  · exact sm_s
section
variable {bd : Bd} {fu : Nat}
theorem p_truth (n : Nat) (s : St) (b : Bool) : OutOk (callF bd tab.get fu (n + 1) 101 [.bool b] s) (fun x s' => Is x (num (b2i b)) ∧ Is s' s) := by
  refine call_code t101 rfl ?_
  cases b
  · simp (disch := omega) only [vm0, vm1, vm2, vm3, vm4, vm5, vm6, vm7, fPick, fBox, fBuild, fBsl, fLd, fLda, fSt, fNilc, fBin, fEq, fUn, fMkf, fFa, fFld, fFlda, fExt, evo, wr, wrC, frame, Bool.not_true, Bool.not_false, beq_self_eq_true, List.cons_append, List.nil_append, Nat.add_zero, Nat.zero_add, Nat.reduceAdd, Nat.reduceMul, Nat.reduceSub, Bool.and_true, Bool.true_and, Bool.and_self, beq_dec, fApp, Int.toNat_natCast, Nat.sub_zero, vmI, vc101]
    exact ⟨rfl, rfl⟩
  · simp (disch := omega) only [vm0, vm1, vm2, vm3, vm4, vm5, vm6, vm7, fPick, fBox, fBuild, fBsl, fLd, fLda, fSt, fNilc, fBin, fEq, fUn, fMkf, fFa, fFld, fFlda, fExt, evo, wr, wrC, frame, Bool.not_true, Bool.not_false, beq_self_eq_true, List.cons_append, List.nil_append, Nat.add_zero, Nat.zero_add, Nat.reduceAdd, Nat.reduceMul, Nat.reduceSub, Bool.and_true, Bool.true_and, Bool.and_self, beq_dec, fApp, Int.toNat_natCast, Nat.sub_zero, vmI, vc101]
    exact ⟨rfl, rfl⟩
theorem u_one (n : Nat) (s : St) (b : Bool) : OutOk (callF bd tab.get fu (n + 1) 104 [.bool b] s) (fun x s' => Is x (num (b2i b)) ∧ Is s' s) := by
  refine call_code t104 rfl ?_
  cases b
  · simp (disch := omega) only [vm0, vm1, vm2, vm3, vm4, vm5, vm6, vm7, fPick, fBox, fBuild, fBsl, fLd, fLda, fSt, fNilc, fBin, fEq, fUn, fMkf, fFa, fFld, fFlda, fExt, evo, wr, wrC, frame, Bool.not_true, Bool.not_false, beq_self_eq_true, List.cons_append, List.nil_append, Nat.add_zero, Nat.zero_add, Nat.reduceAdd, Nat.reduceMul, Nat.reduceSub, Bool.and_true, Bool.true_and, Bool.and_self, beq_dec, fApp, Int.toNat_natCast, Nat.sub_zero, vmI, vc104]
    exact ⟨rfl, rfl⟩
  · simp (disch := omega) only [vm0, vm1, vm2, vm3, vm4, vm5, vm6, vm7, fPick, fBox, fBuild, fBsl, fLd, fLda, fSt, fNilc, fBin, fEq, fUn, fMkf, fFa, fFld, fFlda, fExt, evo, wr, wrC, frame, Bool.not_true, Bool.not_false, beq_self_eq_true, List.cons_append, List.nil_append, Nat.add_zero, Nat.zero_add, Nat.reduceAdd, Nat.reduceMul, Nat.reduceSub, Bool.and_true, Bool.true_and, Bool.and_self, beq_dec, fApp, Int.toNat_natCast, Nat.sub_zero, vmI, vc104]
    exact ⟨rfl, rfl⟩
theorem g_mean (n : Nat) {s0 : St} (s : St) (p : Nat) (g : GS) (Ps : List Obj) (hS : Sep s0 s (oC p g.cs :: Ps)) : OutOk (callF bd tab.get fu (n + 1) 100 [.ptr p 0] s) (fun x s' => Is x (num g.me) ∧ Is s' s) := by
  refine call_code t100 rfl ?_
  obtain ⟨fi, me, sp, la, kn⟩ := g
  dsimp only [GS.cs] at *
  have g1 := hS.getC
  simp (disch := omega) only [vm0, vm1, vm2, vm3, vm4, vm5, vm6, vm7, fPick, fBox, fBuild, fBsl, fLd, fLda, fSt, fNilc, fBin, fEq, fUn, fMkf, fFa, fFld, fFlda, fExt, evo, wr, wrC, frame, Bool.not_true, Bool.not_false, beq_self_eq_true, List.cons_append, List.nil_append, Nat.add_zero, Nat.zero_add, Nat.reduceAdd, Nat.reduceMul, Nat.reduceSub, Bool.and_true, Bool.true_and, Bool.and_self, beq_dec, fApp, Int.toNat_natCast, Nat.sub_zero, vmI, vc100, g1]
  exact ⟨rfl, rfl⟩
theorem c_size (n : Nat) {s0 : St} (s : St) (p : Nat) (w : WS) (Ps : List Obj) (hS : Sep s0 s (oC p w.cs :: Ps)) : OutOk (callF bd tab.get fu (n + 1) 102 [.ptr p 0] s) (fun x s' => Is x (num w.si) ∧ Is s' s) := by
  refine call_code t102 rfl ?_
  obtain ⟨mo, si, tu, co⟩ := w
  dsimp only [WS.cs] at *
  have g1 := hS.getC
  simp (disch := omega) only [vm0, vm1, vm2, vm3, vm4, vm5, vm6, vm7, fPick, fBox, fBuild, fBsl, fLd, fLda, fSt, fNilc, fBin, fEq, fUn, fMkf, fFa, fFld, fFlda, fExt, evo, wr, wrC, frame, Bool.not_true, Bool.not_false, beq_self_eq_true, List.cons_append, List.nil_append, Nat.add_zero, Nat.zero_add, Nat.reduceAdd, Nat.reduceMul, Nat.reduceSub, Bool.and_true, Bool.true_and, Bool.and_self, beq_dec, fApp, Int.toNat_natCast, Nat.sub_zero, vmI, vc102, g1]
  exact ⟨rfl, rfl⟩
theorem c_room (n : Nat) {s0 : St} (s : St) (p : Nat) (w : WS) (k : Int) (Ps : List Obj) (hS : Sep s0 s (oC p w.cs :: Ps)) : OutOk (callF bd tab.get fu (n + 1) 98 [.ptr p 0, num k] s) (fun x s' => Is x (.bool (decide (k < w.si))) ∧ Is s' s) := by
  refine call_code t98 rfl ?_
  obtain ⟨mo, si, tu, co⟩ := w
  dsimp only [WS.cs] at *
  have g1 := hS.getC
  by_cases hk : k < si
  · simp (disch := omega) only [vm0, vm1, vm2, vm3, vm4, vm5, vm6, vm7, fPick, fBox, fBuild, fBsl, fLd, fLda, fSt, fNilc, fBin, fEq, fUn, fMkf, fFa, fFld, fFlda, fExt, evo, wr, wrC, frame, Bool.not_true, Bool.not_false, beq_self_eq_true, List.cons_append, List.nil_append, Nat.add_zero, Nat.zero_add, Nat.reduceAdd, Nat.reduceMul, Nat.reduceSub, Bool.and_true, Bool.true_and, Bool.and_self, beq_dec, fApp, Int.toNat_natCast, Nat.sub_zero, vmI, vc98, g1]
    exact ⟨rfl, rfl⟩
  · simp (disch := omega) only [vm0, vm1, vm2, vm3, vm4, vm5, vm6, vm7, fPick, fBox, fBuild, fBsl, fLd, fLda, fSt, fNilc, fBin, fEq, fUn, fMkf, fFa, fFld, fFlda, fExt, evo, wr, wrC, frame, Bool.not_true, Bool.not_false, beq_self_eq_true, List.cons_append, List.nil_append, Nat.add_zero, Nat.zero_add, Nat.reduceAdd, Nat.reduceMul, Nat.reduceSub, Bool.and_true, Bool.true_and, Bool.and_self, beq_dec, fApp, Int.toNat_natCast, Nat.sub_zero, vmI, vc98, g1]
    exact ⟨rfl, rfl⟩
theorem p_isup (n : Nat) {s0 : St} (s : St) (p g w f : Nat) (t : PT) (Ps : List Obj) (hS : Sep s0 s (oC p (t.pc g w f) :: Ps)) : OutOk (callF bd tab.get fu (n + 1) 40 [.ptr p 0] s) (fun x s' => Is x (.bool t.up) ∧ Is s' s) := by
  refine call_code t40 rfl ?_
  obtain ⟨up, jn, bh, sn, G, W, F⟩ := t
  dsimp only [PT.pc] at *
  have g1 := hS.getC
  simp (disch := omega) only [vm0, vm1, vm2, vm3, vm4, vm5, vm6, vm7, fPick, fBox, fBuild, fBsl, fLd, fLda, fSt, fNilc, fBin, fEq, fUn, fMkf, fFa, fFld, fFlda, fExt, evo, wr, wrC, frame, Bool.not_true, Bool.not_false, beq_self_eq_true, List.cons_append, List.nil_append, Nat.add_zero, Nat.zero_add, Nat.reduceAdd, Nat.reduceMul, Nat.reduceSub, Bool.and_true, Bool.true_and, Bool.and_self, beq_dec, fApp, Int.toNat_natCast, Nat.sub_zero, vmI, vc40, g1]
  exact ⟨rfl, rfl⟩
theorem p_joined (n : Nat) {s0 : St} (s : St) (p g w f : Nat) (t : PT) (Ps : List Obj) (hS : Sep s0 s (oC p (t.pc g w f) :: Ps)) : OutOk (callF bd tab.get fu (n + 1) 41 [.ptr p 0] s) (fun x s' => Is x (.bool t.jn) ∧ Is s' s) := by
  refine call_code t41 rfl ?_
  obtain ⟨up, jn, bh, sn, G, W, F⟩ := t
  dsimp only [PT.pc] at *
  have g1 := hS.getC
  simp (disch := omega) only [vm0, vm1, vm2, vm3, vm4, vm5, vm6, vm7, fPick, fBox, fBuild, fBsl, fLd, fLda, fSt, fNilc, fBin, fEq, fUn, fMkf, fFa, fFld, fFlda, fExt, evo, wr, wrC, frame, Bool.not_true, Bool.not_false, beq_self_eq_true, List.cons_append, List.nil_append, Nat.add_zero, Nat.zero_add, Nat.reduceAdd, Nat.reduceMul, Nat.reduceSub, Bool.and_true, Bool.true_and, Bool.and_self, beq_dec, fApp, Int.toNat_natCast, Nat.sub_zero, vmI, vc41, g1]
  exact ⟨rfl, rfl⟩
theorem p_behind (n : Nat) {s0 : St} (s : St) (p g w f : Nat) (t : PT) (Ps : List Obj) (hS : Sep s0 s (oC p (t.pc g w f) :: Ps)) : OutOk (callF bd tab.get fu (n + 1) 44 [.ptr p 0] s) (fun x s' => Is x (.bool t.bh) ∧ Is s' s) := by
  refine call_code t44 rfl ?_
  obtain ⟨up, jn, bh, sn, G, W, F⟩ := t
  dsimp only [PT.pc] at *
  have g1 := hS.getC
  simp (disch := omega) only [vm0, vm1, vm2, vm3, vm4, vm5, vm6, vm7, fPick, fBox, fBuild, fBsl, fLd, fLda, fSt, fNilc, fBin, fEq, fUn, fMkf, fFa, fFld, fFlda, fExt, evo, wr, wrC, frame, Bool.not_true, Bool.not_false, beq_self_eq_true, List.cons_append, List.nil_append, Nat.add_zero, Nat.zero_add, Nat.reduceAdd, Nat.reduceMul, Nat.reduceSub, Bool.and_true, Bool.true_and, Bool.and_self, beq_dec, fApp, Int.toNat_natCast, Nat.sub_zero, vmI, vc44, g1]
  exact ⟨rfl, rfl⟩
theorem p_sent (n : Nat) {s0 : St} (s : St) (p g w f : Nat) (t : PT) (Ps : List Obj) (hS : Sep s0 s (oC p (t.pc g w f) :: Ps)) : OutOk (callF bd tab.get fu (n + 1) 47 [.ptr p 0] s) (fun x s' => Is x (num t.sent) ∧ Is s' s) := by
  refine call_code t47 rfl ?_
  obtain ⟨up, jn, bh, sn, G, W, F⟩ := t
  dsimp only [PT.pc] at *
  have g1 := hS.getC
  simp (disch := omega) only [vm0, vm1, vm2, vm3, vm4, vm5, vm6, vm7, fPick, fBox, fBuild, fBsl, fLd, fLda, fSt, fNilc, fBin, fEq, fUn, fMkf, fFa, fFld, fFlda, fExt, evo, wr, wrC, frame, Bool.not_true, Bool.not_false, beq_self_eq_true, List.cons_append, List.nil_append, Nat.add_zero, Nat.zero_add, Nat.reduceAdd, Nat.reduceMul, Nat.reduceSub, Bool.and_true, Bool.true_and, Bool.and_self, beq_dec, fApp, Int.toNat_natCast, Nat.sub_zero, vmI, vc47, g1]
  exact ⟨rfl, rfl⟩
theorem p_mean (n : Nat) {s0 : St} (s : St) (p g w f : Nat) (t : PT) (Ps : List Obj) (hS : Sep s0 s (oC p (t.pc g w f) :: oC g t.G.cs :: Ps)) : OutOk (callF bd tab.get fu (n + 2) 45 [.ptr p 0] s) (fun x s' => Is x (num t.G.me) ∧ Is s' s) := by
  refine call_code t45 rfl ?_
  obtain ⟨up, jn, bh, sn, G, W, F⟩ := t
  dsimp only [PT.pc] at *
  have g1 := hS.getC
  simp (disch := omega) only [vm0, vm1, vm2, vm3, vm4, vm5, vm6, vm7, fPick, fBox, fBuild, fBsl, fLd, fLda, fSt, fNilc, fBin, fEq, fUn, fMkf, fFa, fFld, fFlda, fExt, evo, wr, wrC, frame, Bool.not_true, Bool.not_false, beq_self_eq_true, List.cons_append, List.nil_append, Nat.add_zero, Nat.zero_add, Nat.reduceAdd, Nat.reduceMul, Nat.reduceSub, Bool.and_true, Bool.true_and, Bool.and_self, beq_dec, fApp, Int.toNat_natCast, Nat.sub_zero, vmI, vc45, g1]
  refine call_ok rfl rfl (g_mean n s g G _ hS.swap) ?_
  rintro y s1 ⟨rfl, rfl⟩
  simp (disch := omega) only [vm0, vm1, vm2, vm3, vm4, vm5, vm6, vm7, fPick, fBox, fBuild, fBsl, fLd, fLda, fSt, fNilc, fBin, fEq, fUn, fMkf, fFa, fFld, fFlda, fExt, evo, wr, wrC, frame, Bool.not_true, Bool.not_false, beq_self_eq_true, List.cons_append, List.nil_append, Nat.add_zero, Nat.zero_add, Nat.reduceAdd, Nat.reduceMul, Nat.reduceSub, Bool.and_true, Bool.true_and, Bool.and_self, beq_dec, fApp, Int.toNat_natCast, Nat.sub_zero, vmI]
  exact ⟨rfl, rfl⟩
theorem p_len (n : Nat) {s0 : St} (s : St) (p g w f : Nat) (t : PT) (Ps : List Obj) (hS : Sep s0 s (oC p (t.pc g w f) :: oF f t.F :: Ps)) : OutOk (callF bd tab.get fu (n + 2) 46 [.ptr p 0] s) (fun x s' => Is x (num (t.F.length : Int)) ∧ Is s' s) := by
  refine call_code t46 rfl ?_
  obtain ⟨up, jn, bh, sn, G, W, F⟩ := t
  dsimp only [PT.pc] at *
  have g1 := hS.getC
  simp (disch := omega) only [vm0, vm1, vm2, vm3, vm4, vm5, vm6, vm7, fPick, fBox, fBuild, fBsl, fLd, fLda, fSt, fNilc, fBin, fEq, fUn, fMkf, fFa, fFld, fFlda, fExt, evo, wr, wrC, frame, Bool.not_true, Bool.not_false, beq_self_eq_true, List.cons_append, List.nil_append, Nat.add_zero, Nat.zero_add, Nat.reduceAdd, Nat.reduceMul, Nat.reduceSub, Bool.and_true, Bool.true_and, Bool.and_self, beq_dec, fApp, Int.toNat_natCast, Nat.sub_zero, vmI, vc46, g1]
  refine call_ok rfl rfl (d_flen n s f F _ hS.swap) ?_
  rintro y s1 ⟨rfl, rfl⟩
  simp (disch := omega) only [vm0, vm1, vm2, vm3, vm4, vm5, vm6, vm7, fPick, fBox, fBuild, fBsl, fLd, fLda, fSt, fNilc, fBin, fEq, fUn, fMkf, fFa, fFld, fFlda, fExt, evo, wr, wrC, frame, Bool.not_true, Bool.not_false, beq_self_eq_true, List.cons_append, List.nil_append, Nat.add_zero, Nat.zero_add, Nat.reduceAdd, Nat.reduceMul, Nat.reduceSub, Bool.and_true, Bool.true_and, Bool.and_self, beq_dec, fApp, Int.toNat_natCast, Nat.sub_zero, vmI]
  exact ⟨rfl, rfl⟩
theorem p_usable (n : Nat) {s0 : St} (s : St) (p g w f : Nat) (t : PT) (Ps : List Obj) (hS : Sep s0 s (oC p (t.pc g w f) :: oC g t.G.cs :: oC w t.W.cs :: oF f t.F :: Ps)) (hs : t.sent ≤ 1000) : OutOk (callF bd tab.get fu (n + 2) 42 [.ptr p 0] s) (fun x s' => Is x (.bool t.usable) ∧ Is s' s) := by
  refine call_code t42 rfl ?_
  have hm := p_more (bd := bd) (fu := fu)  n s p g w f t _ hS hs
  obtain ⟨up, jn, bh, sn, G, W, F⟩ := t
  dsimp only [PT.pc, PT.usable] at *
  have g1 := hS.getC
  cases up
  · simp (disch := omega) only [vm0, vm1, vm2, vm3, vm4, vm5, vm6, vm7, fPick, fBox, fBuild, fBsl, fLd, fLda, fSt, fNilc, fBin, fEq, fUn, fMkf, fFa, fFld, fFlda, fExt, evo, wr, wrC, frame, Bool.not_true, Bool.not_false, beq_self_eq_true, List.cons_append, List.nil_append, Nat.add_zero, Nat.zero_add, Nat.reduceAdd, Nat.reduceMul, Nat.reduceSub, Bool.and_true, Bool.true_and, Bool.and_self, beq_dec, fApp, Int.toNat_natCast, Nat.sub_zero, vmI, vc42, vmU, g1]
    exact ⟨rfl, rfl⟩
  cases jn
  · simp (disch := omega) only [vm0, vm1, vm2, vm3, vm4, vm5, vm6, vm7, fPick, fBox, fBuild, fBsl, fLd, fLda, fSt, fNilc, fBin, fEq, fUn, fMkf, fFa, fFld, fFlda, fExt, evo, wr, wrC, frame, Bool.not_true, Bool.not_false, beq_self_eq_true, List.cons_append, List.nil_append, Nat.add_zero, Nat.zero_add, Nat.reduceAdd, Nat.reduceMul, Nat.reduceSub, Bool.and_true, Bool.true_and, Bool.and_self, beq_dec, fApp, Int.toNat_natCast, Nat.sub_zero, vmI, vc42, vmU, g1]
    exact ⟨rfl, rfl⟩
  simp (disch := omega) only [vm0, vm1, vm2, vm3, vm4, vm5, vm6, vm7, fPick, fBox, fBuild, fBsl, fLd, fLda, fSt, fNilc, fBin, fEq, fUn, fMkf, fFa, fFld, fFlda, fExt, evo, wr, wrC, frame, Bool.not_true, Bool.not_false, beq_self_eq_true, List.cons_append, List.nil_append, Nat.add_zero, Nat.zero_add, Nat.reduceAdd, Nat.reduceMul, Nat.reduceSub, Bool.and_true, Bool.true_and, Bool.and_self, beq_dec, fApp, Int.toNat_natCast, Nat.sub_zero, vmI, vc42, vmU, g1]
  refine call_ok rfl rfl (d_flen n s f F _ (((hS.re ((List.perm_middle (l₁ := [_, _, _])).trans (.cons _ (.refl _))))))) ?_
  rintro y s1 ⟨rfl, rfl⟩
  simp (disch := omega) only [vm0, vm1, vm2, vm3, vm4, vm5, vm6, vm7, fPick, fBox, fBuild, fBsl, fLd, fLda, fSt, fNilc, fBin, fEq, fUn, fMkf, fFa, fFld, fFlda, fExt, evo, wr, wrC, frame, Bool.not_true, Bool.not_false, beq_self_eq_true, List.cons_append, List.nil_append, Nat.add_zero, Nat.zero_add, Nat.reduceAdd, Nat.reduceMul, Nat.reduceSub, Bool.and_true, Bool.true_and, Bool.and_self, beq_dec, fApp, Int.toNat_natCast, Nat.sub_zero, vmI, vmU, g1]
  refine call_ok rfl rfl (c_room n s1 w W _ _ (((hS.re ((List.perm_middle (l₁ := [_, _])).trans (.cons _ (.refl _))))))) ?_
  rintro y s1 ⟨rfl, rfl⟩
  by_cases hk : (F.length : Int) < W.si
  · simp (disch := omega) only [vm0, vm1, vm2, vm3, vm4, vm5, vm6, vm7, fPick, fBox, fBuild, fBsl, fLd, fLda, fSt, fNilc, fBin, fEq, fUn, fMkf, fFa, fFld, fFlda, fExt, evo, wr, wrC, frame, Bool.not_true, Bool.not_false, beq_self_eq_true, List.cons_append, List.nil_append, Nat.add_zero, Nat.zero_add, Nat.reduceAdd, Nat.reduceMul, Nat.reduceSub, Bool.and_true, Bool.true_and, Bool.and_self, beq_dec, fApp, Int.toNat_natCast, Nat.sub_zero, vmI, vmU, g1]
    refine call_ok rfl rfl hm ?_
    rintro y s1 ⟨rfl, rfl⟩
    simp (disch := omega) only [vm0, vm1, vm2, vm3, vm4, vm5, vm6, vm7, fPick, fBox, fBuild, fBsl, fLd, fLda, fSt, fNilc, fBin, fEq, fUn, fMkf, fFa, fFld, fFlda, fExt, evo, wr, wrC, frame, Bool.not_true, Bool.not_false, beq_self_eq_true, List.cons_append, List.nil_append, Nat.add_zero, Nat.zero_add, Nat.reduceAdd, Nat.reduceMul, Nat.reduceSub, Bool.and_true, Bool.true_and, Bool.and_self, beq_dec, fApp, Int.toNat_natCast, Nat.sub_zero, vmI, vmU, g1]
    exact ⟨rfl, rfl⟩
  · simp (disch := omega) only [vm0, vm1, vm2, vm3, vm4, vm5, vm6, vm7, fPick, fBox, fBuild, fBsl, fLd, fLda, fSt, fNilc, fBin, fEq, fUn, fMkf, fFa, fFld, fFlda, fExt, evo, wr, wrC, frame, Bool.not_true, Bool.not_false, beq_self_eq_true, List.cons_append, List.nil_append, Nat.add_zero, Nat.zero_add, Nat.reduceAdd, Nat.reduceMul, Nat.reduceSub, Bool.and_true, Bool.true_and, Bool.and_self, beq_dec, fApp, Int.toNat_natCast, Nat.sub_zero, vmI, vmU, g1]
    exact ⟨rfl, rfl⟩
theorem q_usable (n : Nat) {s0 : St} (s : St) (r g w : Nat) (t : PT) (Ps : List Obj) (hS : Sep s0 s (oU r t.up t.jn t.bh t.sent g w t.F :: oC g t.G.cs :: oC w t.W.cs :: Ps)) (hs : t.sent ≤ 1000) : OutOk (callF bd tab.get fu (n + 1) 43 [.ptr r 0] s) (fun x s' => Is x (.bool t.usable) ∧ Is s' s) := by
  refine call_code t43 rfl ?_
  obtain ⟨up, jn, bh, sn, G, W, F⟩ := t
  dsimp only [PT.usable] at *
  obtain ⟨v, g1, hv, hsm⟩ := hS.getU2
  have g2 := (((hS.re ((List.perm_middle (l₁ := [_, _])).trans (.cons _ (.refl _)))))).getC
  obtain ⟨mo, si, tu, co⟩ := W
  dsimp only [WS.cs] at *
  have hl := hv.lenV
  cases up
  · simp (disch := omega) only [vm0, vm1, vm2, vm3, vm4, vm5, vm6, vm7, fPick, fBox, fBuild, fBsl, fLd, fLda, fSt, fNilc, fBin, fEq, fUn, fMkf, fFa, fFld, fFlda, fExt, evo, wr, wrC, frame, Bool.not_true, Bool.not_false, beq_self_eq_true, List.cons_append, List.nil_append, Nat.add_zero, Nat.zero_add, Nat.reduceAdd, Nat.reduceMul, Nat.reduceSub, Bool.and_true, Bool.true_and, Bool.and_self, beq_dec, fApp, Int.toNat_natCast, Nat.sub_zero, vmI, vc43, vmU, g1]
    exact ⟨rfl, rfl⟩
  cases jn
  · simp (disch := omega) only [vm0, vm1, vm2, vm3, vm4, vm5, vm6, vm7, fPick, fBox, fBuild, fBsl, fLd, fLda, fSt, fNilc, fBin, fEq, fUn, fMkf, fFa, fFld, fFlda, fExt, evo, wr, wrC, frame, Bool.not_true, Bool.not_false, beq_self_eq_true, List.cons_append, List.nil_append, Nat.add_zero, Nat.zero_add, Nat.reduceAdd, Nat.reduceMul, Nat.reduceSub, Bool.and_true, Bool.true_and, Bool.and_self, beq_dec, fApp, Int.toNat_natCast, Nat.sub_zero, vmI, vc43, vmU, g1]
    exact ⟨rfl, rfl⟩
  by_cases hk : (F.length : Int) < si
  · simp (disch := omega) only [vm0, vm1, vm2, vm3, vm4, vm5, vm6, vm7, fPick, fBox, fBuild, fBsl, fLd, fLda, fSt, fNilc, fBin, fEq, fUn, fMkf, fFa, fFld, fFlda, fExt, evo, wr, wrC, frame, Bool.not_true, Bool.not_false, beq_self_eq_true, List.cons_append, List.nil_append, Nat.add_zero, Nat.zero_add, Nat.reduceAdd, Nat.reduceMul, Nat.reduceSub, Bool.and_true, Bool.true_and, Bool.and_self, beq_dec, fApp, Int.toNat_natCast, Nat.sub_zero, vmI, vc43, vmU, g1, g2, hl, hsm]
    exact ⟨rfl, rfl⟩
  · simp (disch := omega) only [vm0, vm1, vm2, vm3, vm4, vm5, vm6, vm7, fPick, fBox, fBuild, fBsl, fLd, fLda, fSt, fNilc, fBin, fEq, fUn, fMkf, fFa, fFld, fFlda, fExt, evo, wr, wrC, frame, Bool.not_true, Bool.not_false, beq_self_eq_true, List.cons_append, List.nil_append, Nat.add_zero, Nat.zero_add, Nat.reduceAdd, Nat.reduceMul, Nat.reduceSub, Bool.and_true, Bool.true_and, Bool.and_self, beq_dec, fApp, Int.toNat_natCast, Nat.sub_zero, vmI, vc43, vmU, g1, g2, hl, hsm]
    exact ⟨rfl, rfl⟩
end
end Go.Proofs.Ytgckbcljlkkceaa.ctr
