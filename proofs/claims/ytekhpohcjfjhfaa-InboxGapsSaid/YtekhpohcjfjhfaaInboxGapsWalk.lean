/- InboxGaps, walked. -/
import Derived.Test.YtekhpohcjfjhfaaCtIn
import Derived.WalkKit
import Derived.ProofKit
namespace Go.Proofs.Ytekhpohcjfjhfaa.ctr
open Go.Vm Go.RowKit Go.Ranges
set_option linter.unusedVariables false
set_option linter.constructorNameAsVariable false
set_option linter.unusedSimpArgs false
section
variable {bd : Bd} {h : VF} {fu : Nat}
set_option maxHeartbeats 1000000 in
theorem gaps (hs : SortOk h) (n : Nat) (s : St) (a0 z0 : Int) (v : AV) (b : List Int) (hv : RdE s v 1 encB b) (ha : In64 a0) (hz : In64 z0) (hfu : 4000 < fu) :
    OutOk (callF bd (tab h).get fu (n + 9) 12 [num a0, num z0, v] s) (fun x s' => Is x (.bool true)) := by
  refine call_code (t12 h) rfl ?_
  simp (disch := omega) only [vm0, vm1, vm2, vm3, vm4, vm5, vm6, vm7, fPick, fBox, fBuild, fBsl, fLd, fLda, fSt, fNilc, fBin, fEq, fUn, fMkf, fFa, fFld, fFlda, fExt, evo, wr, wrC, frame, Bool.not_true, Bool.not_false, beq_self_eq_true, List.cons_append, List.nil_append, Nat.add_zero, Nat.zero_add, Nat.reduceAdd, Nat.reduceMul, Nat.reduceSub, Bool.and_true, Bool.true_and, Bool.and_self, beq_dec, fApp, Int.toNat_natCast, Nat.sub_zero, vmI, vc12]
  refine call_ok rfl rfl (cutB (n + 6) s v b 30 (by omega) (by omega) hv) ?_
  rintro x s1 ⟨f1, q1, q2, q3⟩
  obtain ⟨b1, hb1⟩ : ∃ b1, b.take (Int.toNat 30) = b1 := ⟨_, rfl⟩
  have hbl : b1.length ≤ 30 := by rw [← hb1]; exact List.length_take_le _ _
  rw [hb1] at q1
  simp (disch := omega) only [vm0, vm1, vm2, vm3, vm4, vm5, vm6, vm7, fPick, fBox, fBuild, fBsl, fLd, fLda, fSt, fNilc, fBin, fEq, fUn, fMkf, fFa, fFld, fFlda, fExt, evo, wr, wrC, frame, Bool.not_true, Bool.not_false, beq_self_eq_true, List.cons_append, List.nil_append, Nat.add_zero, Nat.zero_add, Nat.reduceAdd, Nat.reduceMul, Nat.reduceSub, Bool.and_true, Bool.true_and, Bool.and_self, beq_dec, fApp, Int.toNat_natCast, Nat.sub_zero, vmI]
  refine op_app q1 (by (repeat' (first | exact Fr.refl | assumption | apply Fr.new' | apply Fr.mk' | apply Fr.put')) <;> (first | omega | (left; simp; done) | (right; simp only [next_put, next_new, next_mk]; omega) | (simp only [next_put, next_new, next_mk]; omega))) (new := [1, 2, 3]) rfl rfl (by omega) ?_
  intro v2 s2 f2 q4 q5 q6
  obtain ⟨B, hB⟩ : ∃ B, b1 ++ [1, 2, 3] = B := ⟨_, rfl⟩
  obtain ⟨N, hN⟩ : ∃ N : Int, (B.length : Int) = N := ⟨_, rfl⟩
  have hN2 : 3 ≤ N ∧ N ≤ 33 := by rw [← hN, ← hB]; simp; omega
  rw [hB] at q4
  have hrd := q4.rd
  clear hB hb1 q1
  have hS0 : Sep s2 s2 [] := .nil
  have e2 := hrd.lenV
  rw [hN] at e2
  simp (disch := omega) only [vm0, vm1, vm2, vm3, vm4, vm5, vm6, vm7, fPick, fBox, fBuild, fBsl, fLd, fLda, fSt, fNilc, fBin, fEq, fUn, fMkf, fFa, fFld, fFlda, fExt, evo, wr, wrC, frame, Bool.not_true, Bool.not_false, beq_self_eq_true, List.cons_append, List.nil_append, Nat.add_zero, Nat.zero_add, Nat.reduceAdd, Nat.reduceMul, Nat.reduceSub, Bool.and_true, Bool.true_and, Bool.and_self, beq_dec, fApp, Int.toNat_natCast, Nat.sub_zero, vmI, e2]
  refine call_ok rfl rfl (withinP (n + 7) s2 a0 (N - 1) ha (by omega) (by omega)) ?_
  rintro x s2 ⟨rfl, rfl⟩
  have hA0 := Int.emod_nonneg a0 (show N - 1 ≠ 0 by omega)
  have hA1 := Int.emod_lt_of_pos a0 (show 0 < N - 1 by omega)
  obtain ⟨A, hA⟩ : ∃ A, a0 % (N - 1) = A := ⟨_, rfl⟩
  rw [hA] at hA0 hA1 ⊢
  simp (disch := omega) only [vm0, vm1, vm2, vm3, vm4, vm5, vm6, vm7, fPick, fBox, fBuild, fBsl, fLd, fLda, fSt, fNilc, fBin, fEq, fUn, fMkf, fFa, fFld, fFlda, fExt, evo, wr, wrC, frame, Bool.not_true, Bool.not_false, beq_self_eq_true, List.cons_append, List.nil_append, Nat.add_zero, Nat.zero_add, Nat.reduceAdd, Nat.reduceMul, Nat.reduceSub, Bool.and_true, Bool.true_and, Bool.and_self, beq_dec, fApp, Int.toNat_natCast, Nat.sub_zero, vmI, e2]
  refine call_ok rfl rfl (withinP (n + 7) s2 z0 (N - A - 1) hz (by omega) (by omega)) ?_
  rintro x s2 ⟨rfl, rfl⟩
  have hZ0 := Int.emod_nonneg z0 (show N - A - 1 ≠ 0 by omega)
  have hZ1 := Int.emod_lt_of_pos z0 (show 0 < N - A - 1 by omega)
  obtain ⟨Z, hZ⟩ : ∃ Z, 1 + z0 % (N - A - 1) = Z := ⟨_, rfl⟩
  have hZ2 : 1 ≤ Z ∧ A + Z < N := by omega
  clear hA hZ0 hZ1
  simp (disch := omega) only [vm0, vm1, vm2, vm3, vm4, vm5, vm6, vm7, fPick, fBox, fBuild, fBsl, fLd, fLda, fSt, fNilc, fBin, fEq, fUn, fMkf, fFa, fFld, fFlda, fExt, evo, wr, wrC, frame, Bool.not_true, Bool.not_false, beq_self_eq_true, List.cons_append, List.nil_append, Nat.add_zero, Nat.zero_add, Nat.reduceAdd, Nat.reduceMul, Nat.reduceSub, Bool.and_true, Bool.true_and, Bool.and_self, beq_dec, fApp, Int.toNat_natCast, Nat.sub_zero, vmI, hZ]
  refine call_ok rfl rfl (i_new (n + 6) s2 100) ?_
  rintro x s3 ⟨p, fp, rfl, r1, r2, r3⟩
  have hS3 := hS0.push (P := oI p _) r1 r2 r3
  have H0 := Has.new B 100
  rw [show min (max (100 : Int) 1) 400 = 100 by omega] at H0 hS3
  generalize (⟨[], [], 100, 0, 0, false⟩ : IB) = i0 at H0 hS3
  obtain ⟨u1, g1, k1⟩ := hrd.sliL (a := A + Z) (by omega) (by omega)
  have e3 := (hrd.fr0 hS3.frm).lenV
  rw [hN] at e3
  simp (disch := omega) only [vm0, vm1, vm2, vm3, vm4, vm5, vm6, vm7, fPick, fBox, fBuild, fBsl, fLd, fLda, fSt, fNilc, fBin, fEq, fUn, fMkf, fFa, fFld, fFlda, fExt, evo, wr, wrC, frame, Bool.not_true, Bool.not_false, beq_self_eq_true, List.cons_append, List.nil_append, Nat.add_zero, Nat.zero_add, Nat.reduceAdd, Nat.reduceMul, Nat.reduceSub, Bool.and_true, Bool.true_and, Bool.and_self, beq_dec, fApp, Int.toNat_natCast, Nat.sub_zero, vmI, e2, g1]
  have l1 : ((B.drop (A + Z).toNat).length : Int) = N - (A + Z) := by simp; omega
  refine call_ok rfl rfl (e_put hs (n + 2) s3 p i0 [] (A + Z) u1 _ true hS3 H0.g (by omega) k1 (by omega) hfu) ?_
  rintro x s4 ⟨rfl, hS4⟩
  have H1 := H0.putF (piece_drop (T := B) (a := A + Z) (by omega)) (by omega) (by omega) (fun p h => h.elim)
  have n1 := H0.new_all (f := A + Z) (l := B.drop (A + Z).toNat) (fun p h1 h2 => ⟨⟨by omega, by omega, by simp⟩, fun h => h⟩)
  rw [n1, l1]
  rw [l1] at H1
  generalize i0.put (A + Z) (B.drop (A + Z).toNat) true = i1 at H1 hS4
  rw [show A + Z + (N - (A + Z)) = N by omega] at H1
  replace H1 := H1.congr (Q := fun p => A + Z ≤ p ∧ p < N) (fun p => ⟨fun h => by rcases h with h | h; (· exact h.elim); (· omega), fun h => .inr ⟨by omega, by omega, by omega, by omega, by simp⟩⟩)
  obtain ⟨u2, g2, k2⟩ := hrd.sliH (b := A) (by omega) (by omega)
  simp (disch := omega) only [vm0, vm1, vm2, vm3, vm4, vm5, vm6, vm7, fPick, fBox, fBuild, fBsl, fLd, fLda, fSt, fNilc, fBin, fEq, fUn, fMkf, fFa, fFld, fFlda, fExt, evo, wr, wrC, frame, Bool.not_true, Bool.not_false, beq_self_eq_true, List.cons_append, List.nil_append, Nat.add_zero, Nat.zero_add, Nat.reduceAdd, Nat.reduceMul, Nat.reduceSub, Bool.and_true, Bool.true_and, Bool.and_self, beq_dec, fApp, Int.toNat_natCast, Nat.sub_zero, vmI, e2, show N - A - Z = N - (A + Z) by omega, g2]
  have l2 : ((B.take A.toNat).length : Int) = A := by simp; omega
  refine call_ok rfl rfl (e_put hs (n + 2) s4 p i1 [] 0 u2 _ false hS4 H1.g (by omega) k2 (by omega) hfu) ?_
  rintro x s5 ⟨rfl, hS5⟩
  have H2 := H1.put (piece_take (T := B) (b := A))
  have n2 := H1.new_all (f := 0) (l := B.take A.toNat) (fun p h1 h2 => ⟨⟨by omega, by omega, fun _ => by omega⟩, fun h => by omega⟩)
  rw [n2, l2]
  rw [l2] at H2
  generalize i1.put 0 (B.take A.toNat) false = i2 at H2 hS5
  replace H2 := H2.congr (Q := fun p => (0 ≤ p ∧ p < A) ∨ (A + Z ≤ p ∧ p < N)) (fun p => ⟨fun h => by rcases h with h | h; (· exact .inr h); (· exact .inl (by omega)), fun h => by rcases h with h | h; (· exact .inr ⟨by omega, by omega, by omega, by omega, fun _ => by omega⟩); (· exact .inl h)⟩)
  have f2 := H2.front (n := A) (by omega) (fun p h1 h2 => .inl ⟨h1, h2⟩) (by omega)
  have se2 : i2.seen = A := by rw [H2.seen f2, if_neg (by omega)]
  have re2 : i2.ready = A := by rw [H2.ready f2]; omega
  have do2 : i2.done = false := by rw [H2.done]; simp; omega
  simp (disch := omega) only [vm0, vm1, vm2, vm3, vm4, vm5, vm6, vm7, fPick, fBox, fBuild, fBsl, fLd, fLda, fSt, fNilc, fBin, fEq, fUn, fMkf, fFa, fFld, fFlda, fExt, evo, wr, wrC, frame, Bool.not_true, Bool.not_false, beq_self_eq_true, List.cons_append, List.nil_append, Nat.add_zero, Nat.zero_add, Nat.reduceAdd, Nat.reduceMul, Nat.reduceSub, Bool.and_true, Bool.true_and, Bool.and_self, beq_dec, fApp, Int.toNat_natCast, Nat.sub_zero, vmI]
  refine call_ok rfl rfl (e_seen (n + 4) s5 p i2 [] hS5 H2.g) ?_
  rintro x s6 ⟨rfl, hS6⟩
  rw [se2]
  simp (disch := omega) only [vm0, vm1, vm2, vm3, vm4, vm5, vm6, vm7, fPick, fBox, fBuild, fBsl, fLd, fLda, fSt, fNilc, fBin, fEq, fUn, fMkf, fFa, fFld, fFlda, fExt, evo, wr, wrC, frame, Bool.not_true, Bool.not_false, beq_self_eq_true, List.cons_append, List.nil_append, Nat.add_zero, Nat.zero_add, Nat.reduceAdd, Nat.reduceMul, Nat.reduceSub, Bool.and_true, Bool.true_and, Bool.and_self, beq_dec, fApp, Int.toNat_natCast, Nat.sub_zero, vmI]
  refine call_ok rfl rfl (e_ready (n + 4) s6 p i2 [] hS6 H2.g) ?_
  rintro x s7 ⟨rfl, hS7⟩
  rw [re2]
  simp (disch := omega) only [vm0, vm1, vm2, vm3, vm4, vm5, vm6, vm7, fPick, fBox, fBuild, fBsl, fLd, fLda, fSt, fNilc, fBin, fEq, fUn, fMkf, fFa, fFld, fFlda, fExt, evo, wr, wrC, frame, Bool.not_true, Bool.not_false, beq_self_eq_true, List.cons_append, List.nil_append, Nat.add_zero, Nat.zero_add, Nat.reduceAdd, Nat.reduceMul, Nat.reduceSub, Bool.and_true, Bool.true_and, Bool.and_self, beq_dec, fApp, Int.toNat_natCast, Nat.sub_zero, vmI]
  refine call_ok rfl rfl (e_done (n + 7) s7 p i2 [] hS7) ?_
  rintro x s7 ⟨rfl, rfl⟩
  rw [do2]
  simp (disch := omega) only [vm0, vm1, vm2, vm3, vm4, vm5, vm6, vm7, fPick, fBox, fBuild, fBsl, fLd, fLda, fSt, fNilc, fBin, fEq, fUn, fMkf, fFa, fFld, fFlda, fExt, evo, wr, wrC, frame, Bool.not_true, Bool.not_false, beq_self_eq_true, List.cons_append, List.nil_append, Nat.add_zero, Nat.zero_add, Nat.reduceAdd, Nat.reduceMul, Nat.reduceSub, Bool.and_true, Bool.true_and, Bool.and_self, beq_dec, fApp, Int.toNat_natCast, Nat.sub_zero, vmI]
  refine call_ok rfl rfl (e_put hs (n + 2) s7 p i2 [] 0 .nils [] false hS7 H2.g (by omega) (.nil encB_w (by omega)) (by simp) hfu) ?_
  rintro x s8 ⟨rfl, hS8⟩
  have H3 := H2.put (piece_nil (T := B) (f := 0))
  have n3 := H2.new_none (f := 0) (l := []) (fun p h1 h2 => by simp at h2; omega)
  rw [n3]
  generalize i2.put 0 [] false = i3 at H3 hS8
  replace H3 := H3.congr (Q := fun p => (0 ≤ p ∧ p < A) ∨ (A + Z ≤ p ∧ p < N)) (fun p => ⟨fun h => by rcases h with h | h; (· exact h); (· simp at h; omega), fun h => .inl h⟩)
  have f3 := H3.front (n := A) (by omega) (fun p h1 h2 => .inl ⟨h1, h2⟩) (by omega)
  have se3 : i3.seen = A := by rw [H3.seen f3, if_neg (by omega)]
  simp (disch := omega) only [vm0, vm1, vm2, vm3, vm4, vm5, vm6, vm7, fPick, fBox, fBuild, fBsl, fLd, fLda, fSt, fNilc, fBin, fEq, fUn, fMkf, fFa, fFld, fFlda, fExt, evo, wr, wrC, frame, Bool.not_true, Bool.not_false, beq_self_eq_true, List.cons_append, List.nil_append, Nat.add_zero, Nat.zero_add, Nat.reduceAdd, Nat.reduceMul, Nat.reduceSub, Bool.and_true, Bool.true_and, Bool.and_self, beq_dec, fApp, Int.toNat_natCast, Nat.sub_zero, vmI]
  refine call_ok rfl rfl (e_seen (n + 4) s8 p i3 [] hS8 H3.g) ?_
  rintro x s9 ⟨rfl, hS9⟩
  rw [se3]
  obtain ⟨u3, g3, k3⟩ := hrd.sli' (a := A) (b := A + Z) (by omega) (by omega) (by omega)
  simp (disch := omega) only [vm0, vm1, vm2, vm3, vm4, vm5, vm6, vm7, fPick, fBox, fBuild, fBsl, fLd, fLda, fSt, fNilc, fBin, fEq, fUn, fMkf, fFa, fFld, fFlda, fExt, evo, wr, wrC, frame, Bool.not_true, Bool.not_false, beq_self_eq_true, List.cons_append, List.nil_append, Nat.add_zero, Nat.zero_add, Nat.reduceAdd, Nat.reduceMul, Nat.reduceSub, Bool.and_true, Bool.true_and, Bool.and_self, beq_dec, fApp, Int.toNat_natCast, Nat.sub_zero, vmI, g3]
  have l3 : (((B.take (A + Z).toNat).drop A.toNat).length : Int) = Z := by simp; omega
  refine call_ok rfl rfl (e_put hs (n + 2) s9 p i3 [] A u3 _ false hS9 H3.g (by omega) k3 (by omega) hfu) ?_
  rintro x s10 ⟨rfl, hS10⟩
  have H4 := H3.put (piece_sub (T := B) (a := A) (b := A + Z) (by omega))
  have n4 := H3.new_all (f := A) (l := (B.take (A + Z).toNat).drop A.toNat) (fun p h1 h2 => ⟨⟨by omega, by omega, fun _ => by omega⟩, fun h => by omega⟩)
  rw [n4, l3]
  rw [l3] at H4
  generalize i3.put A ((B.take (A + Z).toNat).drop A.toNat) false = i4 at H4 hS10
  replace H4 := H4.congr (Q := fun p => 0 ≤ p ∧ p < N) (fun p => ⟨fun h => by rcases h with h | h <;> omega, fun h => by
    by_cases hh : A ≤ p ∧ p < A + Z
    · exact .inr ⟨by omega, by omega, by omega, by omega, fun _ => by omega⟩
    · exact .inl (by omega)⟩)
  have f4 := H4.front (n := N) (by omega) (fun p h1 h2 => ⟨h1, h2⟩) (by omega)
  have se4 : i4.seen = N + 1 := by rw [H4.seen f4, if_pos ⟨rfl, rfl⟩]
  have re4 : i4.ready = N := by rw [H4.ready f4]; omega
  have do4 : i4.done = false := by rw [H4.done]; simp; omega
  simp (disch := omega) only [vm0, vm1, vm2, vm3, vm4, vm5, vm6, vm7, fPick, fBox, fBuild, fBsl, fLd, fLda, fSt, fNilc, fBin, fEq, fUn, fMkf, fFa, fFld, fFlda, fExt, evo, wr, wrC, frame, Bool.not_true, Bool.not_false, beq_self_eq_true, List.cons_append, List.nil_append, Nat.add_zero, Nat.zero_add, Nat.reduceAdd, Nat.reduceMul, Nat.reduceSub, Bool.and_true, Bool.true_and, Bool.and_self, beq_dec, fApp, Int.toNat_natCast, Nat.sub_zero, vmI]
  refine call_ok rfl rfl (e_seen (n + 4) s10 p i4 [] hS10 H4.g) ?_
  rintro x s11 ⟨rfl, hS11⟩
  rw [se4]
  simp (disch := omega) only [vm0, vm1, vm2, vm3, vm4, vm5, vm6, vm7, fPick, fBox, fBuild, fBsl, fLd, fLda, fSt, fNilc, fBin, fEq, fUn, fMkf, fFa, fFld, fFlda, fExt, evo, wr, wrC, frame, Bool.not_true, Bool.not_false, beq_self_eq_true, List.cons_append, List.nil_append, Nat.add_zero, Nat.zero_add, Nat.reduceAdd, Nat.reduceMul, Nat.reduceSub, Bool.and_true, Bool.true_and, Bool.and_self, beq_dec, fApp, Int.toNat_natCast, Nat.sub_zero, vmI, e2]
  refine call_ok rfl rfl (e_ready (n + 4) s11 p i4 [] hS11 H4.g) ?_
  rintro x s12 ⟨rfl, hS12⟩
  rw [re4]
  simp (disch := omega) only [vm0, vm1, vm2, vm3, vm4, vm5, vm6, vm7, fPick, fBox, fBuild, fBsl, fLd, fLda, fSt, fNilc, fBin, fEq, fUn, fMkf, fFa, fFld, fFlda, fExt, evo, wr, wrC, frame, Bool.not_true, Bool.not_false, beq_self_eq_true, List.cons_append, List.nil_append, Nat.add_zero, Nat.zero_add, Nat.reduceAdd, Nat.reduceMul, Nat.reduceSub, Bool.and_true, Bool.true_and, Bool.and_self, beq_dec, fApp, Int.toNat_natCast, Nat.sub_zero, vmI, e2]
  refine call_ok rfl rfl (e_done (n + 7) s12 p i4 [] hS12) ?_
  rintro x s12 ⟨rfl, rfl⟩
  rw [do4]
  simp (disch := omega) only [vm0, vm1, vm2, vm3, vm4, vm5, vm6, vm7, fPick, fBox, fBuild, fBsl, fLd, fLda, fSt, fNilc, fBin, fEq, fUn, fMkf, fFa, fFld, fFlda, fExt, evo, wr, wrC, frame, Bool.not_true, Bool.not_false, beq_self_eq_true, List.cons_append, List.nil_append, Nat.add_zero, Nat.zero_add, Nat.reduceAdd, Nat.reduceMul, Nat.reduceSub, Bool.and_true, Bool.true_and, Bool.and_self, beq_dec, fApp, Int.toNat_natCast, Nat.sub_zero, vmI]
  refine call_ok rfl rfl (e_read (n + 3) s12 p i4 [] 1000 hS12 H4.g) ?_
  rintro x s13 ⟨k4, hS13⟩
  have hn4 : i4.n_ 1000 = N := by rw [H4.n_ f4]; omega
  have H5 := H4.read hn4 (by omega)
  have ho4 : i4.out 1000 = B := by rw [H4.out hn4, show ((0 : Int) + N).toNat = B.length by omega, List.take_length]; rfl
  rw [ho4] at k4
  replace hS13 := hS13.drop
  generalize i4.read 1000 = i5 at H5 hS13
  have f5 := H5.front (n := N) (by omega) (fun p h1 h2 => ⟨h1, h2⟩) (by omega)
  have se5 : i5.seen = N + 1 := by rw [H5.seen f5, if_pos ⟨rfl, rfl⟩]
  have do5 : i5.done = true := by rw [H5.done]; simp
  have li5 : i5.limit = N + 100 := by rw [H5.limit]; omega
  simp (disch := omega) only [vm0, vm1, vm2, vm3, vm4, vm5, vm6, vm7, fPick, fBox, fBuild, fBsl, fLd, fLda, fSt, fNilc, fBin, fEq, fUn, fMkf, fFa, fFld, fFlda, fExt, evo, wr, wrC, frame, Bool.not_true, Bool.not_false, beq_self_eq_true, List.cons_append, List.nil_append, Nat.add_zero, Nat.zero_add, Nat.reduceAdd, Nat.reduceMul, Nat.reduceSub, Bool.and_true, Bool.true_and, Bool.and_self, beq_dec, fApp, Int.toNat_natCast, Nat.sub_zero, vmI]
  refine call_ok rfl rfl (sameB (n + 7) s13 _ v2 B B k4 (hrd.fr0 hS13.frm) (by omega) (by omega)) ?_
  rintro x s13 ⟨rfl, rfl⟩
  simp (disch := omega) only [vm0, vm1, vm2, vm3, vm4, vm5, vm6, vm7, fPick, fBox, fBuild, fBsl, fLd, fLda, fSt, fNilc, fBin, fEq, fUn, fMkf, fFa, fFld, fFlda, fExt, evo, wr, wrC, frame, Bool.not_true, Bool.not_false, beq_self_eq_true, List.cons_append, List.nil_append, Nat.add_zero, Nat.zero_add, Nat.reduceAdd, Nat.reduceMul, Nat.reduceSub, Bool.and_true, Bool.true_and, Bool.and_self, beq_dec, fApp, Int.toNat_natCast, Nat.sub_zero, vmI, decide_true]
  refine call_ok rfl rfl (e_done (n + 7) s13 p i5 [] hS13) ?_
  rintro x s13 ⟨rfl, rfl⟩
  rw [do5]
  simp (disch := omega) only [vm0, vm1, vm2, vm3, vm4, vm5, vm6, vm7, fPick, fBox, fBuild, fBsl, fLd, fLda, fSt, fNilc, fBin, fEq, fUn, fMkf, fFa, fFld, fFlda, fExt, evo, wr, wrC, frame, Bool.not_true, Bool.not_false, beq_self_eq_true, List.cons_append, List.nil_append, Nat.add_zero, Nat.zero_add, Nat.reduceAdd, Nat.reduceMul, Nat.reduceSub, Bool.and_true, Bool.true_and, Bool.and_self, beq_dec, fApp, Int.toNat_natCast, Nat.sub_zero, vmI]
  refine call_ok rfl rfl (e_seen (n + 4) s13 p i5 [] hS13 H5.g) ?_
  rintro x s14 ⟨rfl, hS14⟩
  rw [se5]
  simp (disch := omega) only [vm0, vm1, vm2, vm3, vm4, vm5, vm6, vm7, fPick, fBox, fBuild, fBsl, fLd, fLda, fSt, fNilc, fBin, fEq, fUn, fMkf, fFa, fFld, fFlda, fExt, evo, wr, wrC, frame, Bool.not_true, Bool.not_false, beq_self_eq_true, List.cons_append, List.nil_append, Nat.add_zero, Nat.zero_add, Nat.reduceAdd, Nat.reduceMul, Nat.reduceSub, Bool.and_true, Bool.true_and, Bool.and_self, beq_dec, fApp, Int.toNat_natCast, Nat.sub_zero, vmI, e2]
  refine call_ok rfl rfl (e_limit (n + 7) s14 p i5 [] hS14 H5.g) ?_
  rintro x s14 ⟨rfl, rfl⟩
  rw [li5]
  simp (disch := omega) only [vm0, vm1, vm2, vm3, vm4, vm5, vm6, vm7, fPick, fBox, fBuild, fBsl, fLd, fLda, fSt, fNilc, fBin, fEq, fUn, fMkf, fFa, fFld, fFlda, fExt, evo, wr, wrC, frame, Bool.not_true, Bool.not_false, beq_self_eq_true, List.cons_append, List.nil_append, Nat.add_zero, Nat.zero_add, Nat.reduceAdd, Nat.reduceMul, Nat.reduceSub, Bool.and_true, Bool.true_and, Bool.and_self, beq_dec, fApp, Int.toNat_natCast, Nat.sub_zero, vmI, e2]
  refine call_ok rfl rfl (wakes16 hs (n + 1) s14 hfu) ?_
  rintro x s15 rfl
  simp (disch := omega) only [vm0, vm1, vm2, vm3, vm4, vm5, vm6, vm7, fPick, fBox, fBuild, fBsl, fLd, fLda, fSt, fNilc, fBin, fEq, fUn, fMkf, fFa, fFld, fFlda, fExt, evo, wr, wrC, frame, Bool.not_true, Bool.not_false, beq_self_eq_true, List.cons_append, List.nil_append, Nat.add_zero, Nat.zero_add, Nat.reduceAdd, Nat.reduceMul, Nat.reduceSub, Bool.and_true, Bool.true_and, Bool.and_self, beq_dec, fApp, Int.toNat_natCast, Nat.sub_zero, vmI]
  exact rfl
end
end Go.Proofs.Ytekhpohcjfjhfaa.ctr
namespace Go.Proofs.Ytekhpohcjfjhfaa.inboxGapsRun
open Go.Vm Go.RowKit Go.Proofs.Ytekhpohcjfjhfaa.ctr
set_option linter.unusedVariables false
set_option linter.unusedSimpArgs false
theorem mixed : Try.prog.follows .mixedOrders = true := by kernel_rfl
theorem walk (a0 : Int) (a1 : Int) (a2 : Option Addr) (len2 cap2 : Nat) (z2 : List Int) (w : World) (w0 : (Lit.int .i64 a0).wf = true) (w1 : (Lit.int .i64 a1).wf = true) (hq2 : IsRow8 w a2 len2 cap2 z2) :
    Calls Try.prog 12 #[.int .i64 a0, .int .i64 a1, .slice a2 len2 cap2] w fun e w' => e = .returned (.bool true) ∧ Below w.heap.size w w' := by
  obtain ⟨v2, E2, s2, g2, l2, f2, r2, d2, i2⟩ := (Arg0.start w).bytes hq2
  have h := gaps srt_ok (bd := bd0) (h := srt) (fu := 5000) 40 s2 a0 a1 v2 _ d2  (wf64 w0) (wf64 w1) (by omega)
  exact law_okE bd0_ok mixed (tabS_all rho0) (t12 srt) g2.hr g2.own (.cons vr_int (.cons vr_int (.cons r2 .nil))) (yes_of' h fun _ _ h => h)
end Go.Proofs.Ytekhpohcjfjhfaa.inboxGapsRun
