/- PlanAgain, walked. -/
import Derived.Test.YtekhpohcjfjhfaaCtOu
import Derived.WalkKit
import Derived.ProofKit
namespace Go.Proofs.Ytekhpohcjfjhfaa.ctr
open Go.Vm Go.RowKit Go.Ranges
set_option linter.unusedVariables false
set_option linter.unusedSimpArgs false
theorem cutC_nil {f t : Int} : cutC f t [] = [] := by unfold cutC cutR; split <;> rfl
theorem next_new_ {o : OB} {limit chunk t : Int} (h : t < o.open_ limit) : nextP o limit chunk [] t = ⟨[], pieceM o.b.length o.closed t (o.open_ limit) (clampC chunk), t, pieceM o.b.length o.closed t (o.open_ limit) (clampC chunk), true⟩ := by
  unfold nextP
  rw [cutC_nil, if_pos rfl, if_neg (by omega)]
theorem addC_eq {f t : Int} {l : List R} (h0 : 0 ≤ f) (h1 : f < t) (h2 : t ≤ far) : addC f t l = Ranges.addR f t l := by
  unfold addC
  rw [show max 0 f = f by omega, show min t far = t by omega, if_pos h1]
theorem cutC_eq {f t : Int} {l : List R} (h0 : 0 ≤ f) (h1 : f < t) (h2 : t ≤ far) : cutC f t l = cutR f t l := by
  unfold cutC
  rw [show max 0 f = f by omega, show min t far = t by omega, if_pos h1]
theorem cutC_no {f t : Int} {l : List R} (h : t ≤ f ∨ t ≤ 0) : cutC f t l = l := by
  unfold cutC
  rw [if_neg (by omega)]
theorem add_two {e c : Int} (he : 0 ≤ e) (hc : 1 ≤ c) (hm : e + 2 * c ≤ 72) : addC (e + c) (e + 2 * c) [] = [(e + c, e + 2 * c)] ∧ addC e (e + c) [(e + c, e + 2 * c)] = [(e, e + 2 * c)] := by
  have hf : far = 1099511627776 := rfl
  rw [addC_eq (by omega) (by omega) (by omega), addC_eq (by omega) (by omega) (by omega)]
  have h5 : min e (e + c) = e := by omega
  have h6 : max (e + c) (e + 2 * c) = e + 2 * c := by omega
  refine ⟨rfl, ?_⟩
  unfold Ranges.addR
  dsimp only
  rw [if_neg (by omega), if_neg (by omega), h5, h6]; rfl
theorem next_two {o : OB} {e c T N : Int} (he : 0 ≤ e) (hc : 1 ≤ c) (hc6 : c ≤ 6) (hm : e + 2 * c ≤ 72) (h0 : o.acked = 0) (h1 : o.closed = false) : nextP o N 60 [(e, e + 2 * c)] T = ⟨[], T, e, e + 2 * c, true⟩ := by
  have k0 : cutC 0 0 [(e, e + 2 * c)] = [(e, e + 2 * c)] := cutC_no (by omega)
  have k1 : clampC 60 = 60 := rfl
  have k2 : pieceM o.b.length false e (e + 2 * c) 60 = e + 2 * c := by simp only [pieceM, Bool.false_eq_true, false_and, if_false]; omega
  have hf : far = 1099511627776 := rfl
  have k3 : cutC e (e + 2 * c) [(e, e + 2 * c)] = [] := by
    rw [cutC_eq (by omega) (by omega) (by omega)]
    unfold cutR cut1
    simp
  unfold nextP
  rw [h0, h1, k0, if_neg (by simp)]
  simp only [List.headD_cons, k1, k2, k3]
section
variable {bd : Bd} {h : VF} {fu : Nat}
theorem d_next (n : Nat) {s0 : St} (s : St) (p q : Nat) (l : List R) (t : Int) (o : OB) (Ps : List Obj) (limit chunk : Int) (hS : Sep s0 s (oP p l t :: oO q o :: Ps)) (hw : WFr 0 l) (hlen : 2 * l.length < fu) (hfu : 10 < fu) (hl : l.length < 40000) (hb : o.b.length < 1000000) (hL : -1000000000 ≤ limit ∧ limit ≤ 1000000000) (ht : 0 ≤ t ∧ t ≤ 1000000000) :
    OutOk (callF bd (tab h).get fu (n + 3) 36 [.ptr p 0, .ptr q 0, num limit, num chunk] s) (fun x s' => Is x (.tup [num (nextP o limit chunk l t).a, num (nextP o limit chunk l t).b, .bool (nextP o limit chunk l t).ok]) ∧ Sep s0 s' (oP p (nextP o limit chunk l t).l (nextP o limit chunk l t).t :: oO q o :: Ps)) := by
  obtain ⟨f, g, k1, k2, k3, up⟩ := hS.hd2
  exact (p_next n s p q l t o f g limit chunk k1 k2 k3 hw hlen hfu hl hb hL ht).mono fun x s' ⟨f', r1, r2, r3, r4⟩ => ⟨r1, up (oP _ _ _) r2 r3 r4⟩
theorem d_lost (hs : SortOk h) (n : Nat) {s0 : St} (s : St) (p : Nat) (l : List R) (t : Int) (Ps : List Obj) (a b : Int) (hS : Sep s0 s (oP p l t :: Ps)) (hw : WFr 0 l) (hlen : l.length < fu) (hl : l.length < 100000) : OutOk (callF bd (tab h).get fu (n + 3) 39 [.ptr p 0, num a, num b] s) (fun x s' => Sep s0 s' (oP p (addC a b l) t :: Ps)) := by
  obtain ⟨f, k1, up⟩ := hS.hd
  exact (p_lost hs n s p l t f a b k1 hw hlen hl).mono fun x s' ⟨f', r2, r3, r4⟩ => up (oP _ _ _) r2 r3 r4
theorem d_missing (n : Nat) {s0 : St} (s : St) (p : Nat) (l : List R) (t : Int) (Ps : List Obj) (hS : Sep s0 s (oP p l t :: Ps)) (hl : l.length < 1000000) : OutOk (callF bd (tab h).get fu (n + 3) 40 [.ptr p 0] s) (fun x s' => RdE s' x 2 encR l ∧ Sep s0 s' (oP p l t :: Ps)) := by
  obtain ⟨f, k1, up⟩ := hS.hd
  exact (p_missing n s p l t f k1 hl).mono fun x s' ⟨f', r2, r3, r4⟩ => ⟨r2.rd, hS.fr r3⟩
theorem d_sent (n : Nat) {s0 : St} (s : St) (p : Nat) (l : List R) (t : Int) (Ps : List Obj) (hS : Sep s0 s (oP p l t :: Ps)) : OutOk (callF bd (tab h).get fu (n + 1) 37 [.ptr p 0] s) (fun x s' => Is x (num t) ∧ Is s' s) := by
  obtain ⟨f, k1, up⟩ := hS.hd
  exact p_sent n s p l t f k1
theorem again (hs : SortOk h) (n : Nat) (s : St) (v : AV) (k0 f0 n0 : Int) (b : List Int) (hv : RdE s v 1 encB b) (hk : In64 k0) (hf : In64 f0) (hn : In64 n0) (hfu : 1000 < fu) :
    OutOk (callF bd (tab h).get fu (n + 6) 6 [v, num k0, num f0, num n0] s) (fun x s' => Is x (.bool true)) := by
  refine call_code (t6 h) rfl ?_
  simp (disch := omega) only [vm0, vm1, vm2, vm3, vm4, vm5, vm6, vm7, fPick, fBox, fBuild, fBsl, fLd, fLda, fSt, fNilc, fBin, fEq, fUn, fMkf, fFa, fFld, fFlda, fExt, evo, wr, wrC, frame, Bool.not_true, Bool.not_false, beq_self_eq_true, List.cons_append, List.nil_append, Nat.add_zero, Nat.zero_add, Nat.reduceAdd, Nat.reduceMul, Nat.reduceSub, Bool.and_true, Bool.true_and, Bool.and_self, beq_dec, fApp, Int.toNat_natCast, Nat.sub_zero, vmI, vc6]
  refine call_ok rfl rfl (cutB (n + 3) s v b 60 (by omega) (by omega) hv) ?_
  rintro x s1 ⟨f1, q1, q2, q3⟩
  obtain ⟨b1, hb1⟩ : ∃ b1, b.take 60 = b1 := ⟨_, rfl⟩
  have hbl : b1.length ≤ 60 := by rw [← hb1]; exact List.length_take_le _ _
  have hq1 : OwE s1 x 1 encB b1 f1 := by rw [← hb1]; exact q1
  simp (disch := omega) only [vm0, vm1, vm2, vm3, vm4, vm5, vm6, vm7, fPick, fBox, fBuild, fBsl, fLd, fLda, fSt, fNilc, fBin, fEq, fUn, fMkf, fFa, fFld, fFlda, fExt, evo, wr, wrC, frame, Bool.not_true, Bool.not_false, beq_self_eq_true, List.cons_append, List.nil_append, Nat.add_zero, Nat.zero_add, Nat.reduceAdd, Nat.reduceMul, Nat.reduceSub, Bool.and_true, Bool.true_and, Bool.and_self, beq_dec, fApp, Int.toNat_natCast, Nat.sub_zero, vmI, fApz, rep_flat]
  refine op_app hq1 (by (repeat' (first | exact Fr.refl | assumption | apply Fr.new' | apply Fr.mk' | apply Fr.put')) <;> (first | omega | (left; simp; done) | (right; simp only [next_put, next_new, next_mk]; omega) | (simp only [next_put, next_new, next_mk]; omega))) (new := List.replicate 12 (0 : Int)) rfl (by simp) (by simp; omega) ?_
  intro v2 s2 f2 q4 q5 q6
  obtain ⟨B, hB⟩ : ∃ B, b1 ++ List.replicate 12 (0 : Int) = B := ⟨_, rfl⟩
  obtain ⟨N, hN⟩ : ∃ N : Int, (B.length : Int) = N := ⟨_, rfl⟩
  have hN2 : 12 ≤ N ∧ N ≤ 72 := by rw [← hN, ← hB]; simp; omega
  rw [hB] at q4
  have hrd := q4.rd
  clear hB hb1 q1
  have hS0 : Sep s2 s2 [] := .nil
  simp (disch := omega) only [vm0, vm1, vm2, vm3, vm4, vm5, vm6, vm7, fPick, fBox, fBuild, fBsl, fLd, fLda, fSt, fNilc, fBin, fEq, fUn, fMkf, fFa, fFld, fFlda, fExt, evo, wr, wrC, frame, Bool.not_true, Bool.not_false, beq_self_eq_true, List.cons_append, List.nil_append, Nat.add_zero, Nat.zero_add, Nat.reduceAdd, Nat.reduceMul, Nat.reduceSub, Bool.and_true, Bool.true_and, Bool.and_self, beq_dec, fApp, Int.toNat_natCast, Nat.sub_zero, vmI]
  refine call_ok rfl rfl (withinP (n + 4) s2 k0 6 hk (by omega) (by omega)) ?_
  rintro x s2 ⟨rfl, rfl⟩
  obtain ⟨c, hc⟩ : ∃ c, 1 + k0 % 6 = c := ⟨_, rfl⟩
  have hc2 : 1 ≤ c ∧ c ≤ 6 := by omega
  simp (disch := omega) only [vm0, vm1, vm2, vm3, vm4, vm5, vm6, vm7, fPick, fBox, fBuild, fBsl, fLd, fLda, fSt, fNilc, fBin, fEq, fUn, fMkf, fFa, fFld, fFlda, fExt, evo, wr, wrC, frame, Bool.not_true, Bool.not_false, beq_self_eq_true, List.cons_append, List.nil_append, Nat.add_zero, Nat.zero_add, Nat.reduceAdd, Nat.reduceMul, Nat.reduceSub, Bool.and_true, Bool.true_and, Bool.and_self, beq_dec, fApp, Int.toNat_natCast, Nat.sub_zero, vmI, hc]
  refine call_ok rfl rfl (p_new (n + 3) s2) ?_
  rintro x s3 ⟨p, fp, rfl, r1, r2, r3⟩
  have hS1 := hS0.push (P := oP p [] 0) r1 r2 r3
  simp (disch := omega) only [vm0, vm1, vm2, vm3, vm4, vm5, vm6, vm7, fPick, fBox, fBuild, fBsl, fLd, fLda, fSt, fNilc, fBin, fEq, fUn, fMkf, fFa, fFld, fFlda, fExt, evo, wr, wrC, frame, Bool.not_true, Bool.not_false, beq_self_eq_true, List.cons_append, List.nil_append, Nat.add_zero, Nat.zero_add, Nat.reduceAdd, Nat.reduceMul, Nat.reduceSub, Bool.and_true, Bool.true_and, Bool.and_self, beq_dec, fApp, Int.toNat_natCast, Nat.sub_zero, vmI]
  refine call_ok rfl rfl (o_new (n + 4) s3 100) ?_
  rintro x s4 ⟨q, rfl, r4, r5, r6⟩
  have hS2 := hS1.push (P := oO q _) r6 r5 (Nw.one r4)
  have hrd4 := (hrd.fr0 r2).fr0 r5
  simp (disch := omega) only [vm0, vm1, vm2, vm3, vm4, vm5, vm6, vm7, fPick, fBox, fBuild, fBsl, fLd, fLda, fSt, fNilc, fBin, fEq, fUn, fMkf, fFa, fFld, fFlda, fExt, evo, wr, wrC, frame, Bool.not_true, Bool.not_false, beq_self_eq_true, List.cons_append, List.nil_append, Nat.add_zero, Nat.zero_add, Nat.reduceAdd, Nat.reduceMul, Nat.reduceSub, Bool.and_true, Bool.true_and, Bool.and_self, beq_dec, fApp, Int.toNat_natCast, Nat.sub_zero, vmI]
  obtain ⟨fo, k1, up⟩ := hS2.hd
  refine call_ok rfl rfl (o_write (n + 2) s4 q _ fo _ B k1 hrd4 (by simp) (by omega) (by decide) (by decide) (by omega)) ?_
  rintro x s5 ⟨f5, rfl, r7, r8, r9⟩
  have hroom : (⟨[], min (max 100 1) 400, 0, false⟩ : OB).room (B.length : Int) = N := by
    rw [hN]; simp [OB.room]; omega
  have hW : (⟨[], min (max 100 1) 400, 0, false⟩ : OB).write B = ⟨B, 100, 0, false⟩ := by
    rw [OB.write, hroom, List.take_of_length_le (by omega)]; rfl
  rw [hW] at r7
  rw [hroom]
  have hS5 := (up (oO q ⟨B, 100, 0, false⟩) r7 r8 r9).swap
  have hrd5 : RdE s5 v2 1 encB B := hrd.fr0 hS5.frm
  have e5 := hrd5.lenV
  rw [hN] at e5
  have hcz : c ≠ 0 := by omega
  obtain ⟨m, hm⟩ : ∃ m, N / c = m := ⟨_, rfl⟩
  have hqm : N.tdiv c = m := by rw [Int.tdiv_eq_ediv_of_nonneg (by omega), hm]
  have hm1 : m * c ≤ N := by rw [← hm]; exact Int.ediv_mul_le N hcz
  have hm2 : 2 ≤ m := by rw [← hm]; exact (Int.le_ediv_iff_mul_le (by omega)).2 (by omega)
  have hm3 : m ≤ 72 := by
    have : m * 1 ≤ m * c := Int.mul_le_mul_of_nonneg_left hc2.1 (by omega)
    omega
  have hS5' := hS5
  simp (disch := omega) only [vm0, vm1, vm2, vm3, vm4, vm5, vm6, vm7, fPick, fBox, fBuild, fBsl, fLd, fLda, fSt, fNilc, fBin, fEq, fUn, fMkf, fFa, fFld, fFlda, fExt, evo, wr, wrC, frame, Bool.not_true, Bool.not_false, beq_self_eq_true, List.cons_append, List.nil_append, Nat.add_zero, Nat.zero_add, Nat.reduceAdd, Nat.reduceMul, Nat.reduceSub, Bool.and_true, Bool.true_and, Bool.and_self, beq_dec, fApp, Int.toNat_natCast, Nat.sub_zero, vmI, e5, b_quo hcz, hqm]
  refine call_ok rfl rfl (withinP (n + 4) s5 n0 (m - 1) hn (by omega) (by omega)) ?_
  rintro x s5 ⟨rfl, rfl⟩
  have hnm := Int.emod_nonneg n0 (show m - 1 ≠ 0 by omega)
  have hnm2 := Int.emod_lt_of_pos n0 (show 0 < m - 1 by omega)
  obtain ⟨y, hy⟩ : ∃ y, 2 + n0 % (m - 1) = y := ⟨_, rfl⟩
  have hy2 : 2 ≤ y ∧ y ≤ m := by omega
  have hyc : y * c ≤ N := Int.le_trans (Int.mul_le_mul_of_nonneg_right hy2.2 (by omega)) hm1
  simp (disch := omega) only [vm0, vm1, vm2, vm3, vm4, vm5, vm6, vm7, fPick, fBox, fBuild, fBsl, fLd, fLda, fSt, fNilc, fBin, fEq, fUn, fMkf, fFa, fFld, fFlda, fExt, evo, wr, wrC, frame, Bool.not_true, Bool.not_false, beq_self_eq_true, List.cons_append, List.nil_append, Nat.add_zero, Nat.zero_add, Nat.reduceAdd, Nat.reduceMul, Nat.reduceSub, Bool.and_true, Bool.true_and, Bool.and_self, beq_dec, fApp, Int.toNat_natCast, Nat.sub_zero, vmI, hy]
  obtain ⟨o, ho⟩ : ∃ o : OB, (⟨B, 100, 0, false⟩ : OB) = o := ⟨_, rfl⟩
  have ho1 : (o.b.length : Int) = N := by rw [← ho]; exact hN
  have ho2 : o.closed = false := by rw [← ho]
  have ho3 : o.acked = 0 := by rw [← ho]
  have ho4 : o.open_ N = N := by unfold OB.open_ OB.places; rw [ho1, ho2, if_pos (by omega)]; simp
  rw [ho] at hS5
  clear hS5' hS2 hS1 k1 up
  refine x_loop (fun m' F s' => ∃ i : Nat, ∃ z x12 x13 x14 x15 x16, m' = y.toNat - i ∧ (i : Int) ≤ y ∧ z = (i : Int) ∧ F = [some v2, some (num c), some (num f0), some (num y), some (.ptr p 0), some (.ptr q 0), some (num z), none, none, none, none, some (.bool false), x12, x13, x14, x15, x16, none, none, none, none, none, none, none, some (.bool false)] ∧ Sep s2 s' [oP p [] (z * c), oO q o]) y.toNat (by omega) ?_ ?_
  · exact ⟨0, _, _, _, _, _, _, by omega, by omega, rfl, rfl, by rw [Int.natCast_zero, Int.zero_mul]; exact hS5⟩
  · rintro m' F s6 ⟨i, _, x12, x13, x14, x15, x16, rfl, hi, rfl, rfl, hS⟩ hm'
    obtain ⟨z, hz⟩ : ∃ z : Int, (i : Int) = z := ⟨_, rfl⟩
    have e6 := (hrd.fr0 hS.frm).lenV
    rw [hN] at e6
    rw [hz] at hi hS ⊢
    have hzc : (z + 1) * c = z * c + c := by rw [Int.add_mul, Int.one_mul]
    by_cases hlt : z < y
    · have hzy : (z + 1) * c ≤ y * c := Int.mul_le_mul_of_nonneg_right (by omega) (by omega)
      have hz0 : 0 ≤ z * c := Int.mul_nonneg (by omega) (by omega)
      have hmin : min (z * c + c) N = z * c + c := by omega
      have hpm : pieceM N false (z * c) N c = z * c + c := by simp only [pieceM, Bool.false_eq_true, false_and, if_false]; omega
      have hnx : nextP o N c [] (z * c) = ⟨[], z * c + c, z * c, z * c + c, true⟩ := by
        rw [next_new_ (by rw [ho4]; omega), ho1, ho2, ho4, show clampC c = c by unfold clampC; omega, hpm]
      simp (disch := omega) only [vm0, vm1, vm2, vm3, vm4, vm5, vm6, vm7, fPick, fBox, fBuild, fBsl, fLd, fLda, fSt, fNilc, fBin, fEq, fUn, fMkf, fFa, fFld, fFlda, fExt, evo, wr, wrC, frame, Bool.not_true, Bool.not_false, beq_self_eq_true, List.cons_append, List.nil_append, Nat.add_zero, Nat.zero_add, Nat.reduceAdd, Nat.reduceMul, Nat.reduceSub, Bool.and_true, Bool.true_and, Bool.and_self, beq_dec, fApp, Int.toNat_natCast, Nat.sub_zero, vmI, vc6_1, vc6_0, e6]
      refine call_ok rfl rfl (d_next (n + 2) s6 p q [] (z * c) o [] N c hS trivial (by simp; omega) (by omega) (by simp) (by omega) (by omega) (by omega)) ?_
      rintro x s7 ⟨rfl, hS7⟩
      rw [hnx] at hS7 ⊢
      have e7 := (hrd.fr0 hS7.frm).lenV
      rw [hN] at e7
      simp (disch := omega) only [vm0, vm1, vm2, vm3, vm4, vm5, vm6, vm7, fPick, fBox, fBuild, fBsl, fLd, fLda, fSt, fNilc, fBin, fEq, fUn, fMkf, fFa, fFld, fFlda, fExt, evo, wr, wrC, frame, Bool.not_true, Bool.not_false, beq_self_eq_true, List.cons_append, List.nil_append, Nat.add_zero, Nat.zero_add, Nat.reduceAdd, Nat.reduceMul, Nat.reduceSub, Bool.and_true, Bool.true_and, Bool.and_self, beq_dec, fApp, Int.toNat_natCast, Nat.sub_zero, vmI, e7, hzc, hmin]
      exact ⟨y.toNat - (i + 1), by omega, i + 1, z + 1, _, _, _, _, _, rfl, by omega, by omega, rfl, by rw [hzc]; exact hS7⟩
    · obtain rfl : z = y := by omega
      simp (disch := omega) only [vm0, vm1, vm2, vm3, vm4, vm5, vm6, vm7, fPick, fBox, fBuild, fBsl, fLd, fLda, fSt, fNilc, fBin, fEq, fUn, fMkf, fFa, fFld, fFlda, fExt, evo, wr, wrC, frame, Bool.not_true, Bool.not_false, beq_self_eq_true, List.cons_append, List.nil_append, Nat.add_zero, Nat.zero_add, Nat.reduceAdd, Nat.reduceMul, Nat.reduceSub, Bool.and_true, Bool.true_and, Bool.and_self, beq_dec, fApp, Int.toNat_natCast, Nat.sub_zero, vmI, vc6_1, vc6_5]
      refine call_ok rfl rfl (d_sent (n + 4) s6 p [] (z * c) [oO q o] hS) ?_
      rintro x s6 ⟨rfl, rfl⟩
      simp (disch := omega) only [vm0, vm1, vm2, vm3, vm4, vm5, vm6, vm7, fPick, fBox, fBuild, fBsl, fLd, fLda, fSt, fNilc, fBin, fEq, fUn, fMkf, fFa, fFld, fFlda, fExt, evo, wr, wrC, frame, Bool.not_true, Bool.not_false, beq_self_eq_true, List.cons_append, List.nil_append, Nat.add_zero, Nat.zero_add, Nat.reduceAdd, Nat.reduceMul, Nat.reduceSub, Bool.and_true, Bool.true_and, Bool.and_self, beq_dec, fApp, Int.toNat_natCast, Nat.sub_zero, vmI]
      refine call_ok rfl rfl (withinP (n + 4) s6 f0 (z - 1) hf (by omega) (by omega)) ?_
      rintro x s6 ⟨rfl, rfl⟩
      have hfn := Int.emod_nonneg f0 (show z - 1 ≠ 0 by omega)
      have hfn2 := Int.emod_lt_of_pos f0 (show 0 < z - 1 by omega)
      obtain ⟨g, hg⟩ : ∃ g, f0 % (z - 1) = g := ⟨_, rfl⟩
      rw [hg] at hfn hfn2 ⊢
      simp (disch := omega) only [vm0, vm1, vm2, vm3, vm4, vm5, vm6, vm7, fPick, fBox, fBuild, fBsl, fLd, fLda, fSt, fNilc, fBin, fEq, fUn, fMkf, fFa, fFld, fFlda, fExt, evo, wr, wrC, frame, Bool.not_true, Bool.not_false, beq_self_eq_true, List.cons_append, List.nil_append, Nat.add_zero, Nat.zero_add, Nat.reduceAdd, Nat.reduceMul, Nat.reduceSub, Bool.and_true, Bool.true_and, Bool.and_self, beq_dec, fApp, Int.toNat_natCast, Nat.sub_zero, vmI]
      refine x_loop (fun m' F s' => ∃ i : Nat, ∃ w x7 x17 x18 x19 x20 x21 x22, m' = 2 - i ∧ i ≤ 2 ∧ w = (i : Int) ∧ F = [some v2, some (num c), some (num g), some (num z), some (.ptr p 0), some (.ptr q 0), some (num z), x7, some (num (z * c)), some (num w), none, some (.bool false), some (.bool false), x13, x14, x15, x16, x17, x18, x19, x20, x21, x22, none, some (.bool false)] ∧ Sep s2 s' [oP p [] (z * c), oO q o]) 2 (by omega) ?_ ?_
      · exact ⟨0, _, _, _, _, _, _, _, _, by omega, by omega, rfl, rfl, hS⟩
      · rintro m' F s7 ⟨j, _, x7, x17, x18, x19, x20, x21, x22, rfl, hj, rfl, rfl, hS⟩ hm'
        have e7 := (hrd.fr0 hS.frm).lenV
        rw [hN] at e7
        have hg1 : (g + 1) * c = g * c + c := by rw [Int.add_mul, Int.one_mul]
        have hg2 : (g + 2) * c = g * c + 2 * c := by rw [Int.add_mul]
        have hg0 : 0 ≤ g * c := Int.mul_nonneg (by omega) (by omega)
        have hgz : (g + 2) * c ≤ z * c := Int.mul_le_mul_of_nonneg_right (by omega) (by omega)
        obtain ⟨e, he⟩ : ∃ e, g * c = e := ⟨_, rfl⟩
        rw [he] at hg1 hg2 hg0
        rw [hg2] at hgz
        have hmin2 : min (e + 2 * c) N = e + 2 * c := by omega
        obtain ⟨A1, A2⟩ := add_two (c := c) hg0 hc2.1 (by omega)
        have A3 := next_two (T := z * c) (N := N) hg0 hc2.1 hc2.2 (by omega) ho3 ho2
        have w0 : WFr 0 [(e + c, e + 2 * c)] := ⟨by omega, by omega, by simp only [far]; omega, trivial⟩
        have w1 : WFr 0 [(e, e + 2 * c)] := ⟨by omega, by omega, by simp only [far]; omega, trivial⟩
        by_cases hlt : j < 2
        · simp (disch := omega) only [vm0, vm1, vm2, vm3, vm4, vm5, vm6, vm7, fPick, fBox, fBuild, fBsl, fLd, fLda, fSt, fNilc, fBin, fEq, fUn, fMkf, fFa, fFld, fFlda, fExt, evo, wr, wrC, frame, Bool.not_true, Bool.not_false, beq_self_eq_true, List.cons_append, List.nil_append, Nat.add_zero, Nat.zero_add, Nat.reduceAdd, Nat.reduceMul, Nat.reduceSub, Bool.and_true, Bool.true_and, Bool.and_self, beq_dec, fApp, Int.toNat_natCast, Nat.sub_zero, vmI, vc6_3, vc6_2, e7, hg1, hg2, he, hmin2]
          refine call_ok rfl rfl (d_lost hs (n + 2) s7 p [] (z * c) [oO q o] (e + c) (e + 2 * c) hS trivial (by simp; omega) (by simp)) ?_
          rintro x s8 hS8
          rw [A1] at hS8
          simp (disch := omega) only [vm0, vm1, vm2, vm3, vm4, vm5, vm6, vm7, fPick, fBox, fBuild, fBsl, fLd, fLda, fSt, fNilc, fBin, fEq, fUn, fMkf, fFa, fFld, fFlda, fExt, evo, wr, wrC, frame, Bool.not_true, Bool.not_false, beq_self_eq_true, List.cons_append, List.nil_append, Nat.add_zero, Nat.zero_add, Nat.reduceAdd, Nat.reduceMul, Nat.reduceSub, Bool.and_true, Bool.true_and, Bool.and_self, beq_dec, fApp, Int.toNat_natCast, Nat.sub_zero, vmI, he, hg1]
          refine call_ok rfl rfl (d_lost hs (n + 2) s8 p _ (z * c) [oO q o] e (e + c) hS8 w0 (by simp; omega) (by simp)) ?_
          rintro x s9 hS9
          rw [A2] at hS9
          simp (disch := omega) only [vm0, vm1, vm2, vm3, vm4, vm5, vm6, vm7, fPick, fBox, fBuild, fBsl, fLd, fLda, fSt, fNilc, fBin, fEq, fUn, fMkf, fFa, fFld, fFlda, fExt, evo, wr, wrC, frame, Bool.not_true, Bool.not_false, beq_self_eq_true, List.cons_append, List.nil_append, Nat.add_zero, Nat.zero_add, Nat.reduceAdd, Nat.reduceMul, Nat.reduceSub, Bool.and_true, Bool.true_and, Bool.and_self, beq_dec, fApp, Int.toNat_natCast, Nat.sub_zero, vmI]
          refine call_ok rfl rfl (d_missing (n + 2) s9 p _ (z * c) [oO q o] hS9 (by simp)) ?_
          rintro x s10 ⟨k1, hS10⟩
          have hx : [(e, e + 2 * c)][0]? = some (e, e + 2 * c) := rfl
          have y1 := k1.ia hx
          have y3 := RdE.f0 k1 hx
          have y4 := RdE.f1 k1 hx
          have yb := k1.blk' hx
          have y5 := k1.lenV
          have e10 := (hrd.fr0 hS10.frm).lenV
          rw [hN] at e10
          simp only [Int.natCast_zero, Nat.zero_mul, Nat.add_zero, List.length_cons, List.length_nil, Nat.zero_add, Int.natCast_one] at y1 y3 y4 y5
          simp (disch := omega) only [vm0, vm1, vm2, vm3, vm4, vm5, vm6, vm7, fPick, fBox, fBuild, fBsl, fLd, fLda, fSt, fNilc, fBin, fEq, fUn, fMkf, fFa, fFld, fFlda, fExt, evo, wr, wrC, frame, Bool.not_true, Bool.not_false, beq_self_eq_true, List.cons_append, List.nil_append, Nat.add_zero, Nat.zero_add, Nat.reduceAdd, Nat.reduceMul, Nat.reduceSub, Bool.and_true, Bool.true_and, Bool.and_self, beq_dec, fApp, Int.toNat_natCast, Nat.sub_zero, vmI, y1, y3, y4, y5, e10, he, hg2, hmin2]
          have hzc0 : 0 ≤ z * c := Int.mul_nonneg (by omega) (by omega)
          refine call_ok rfl rfl (d_next (n + 2) s10 p q _ (z * c) o [] N 60 hS10 w1 (by simp; omega) (by omega) (by simp) (by omega) (by omega) (by omega)) ?_
          rintro x s11 ⟨rfl, hS11⟩
          rw [A3] at hS11 ⊢
          have e11 := (hrd.fr0 hS11.frm).lenV
          rw [hN] at e11
          simp (disch := omega) only [vm0, vm1, vm2, vm3, vm4, vm5, vm6, vm7, fPick, fBox, fBuild, fBsl, fLd, fLda, fSt, fNilc, fBin, fEq, fUn, fMkf, fFa, fFld, fFlda, fExt, evo, wr, wrC, frame, Bool.not_true, Bool.not_false, beq_self_eq_true, List.cons_append, List.nil_append, Nat.add_zero, Nat.zero_add, Nat.reduceAdd, Nat.reduceMul, Nat.reduceSub, Bool.and_true, Bool.true_and, Bool.and_self, beq_dec, fApp, Int.toNat_natCast, Nat.sub_zero, vmI, he, hg2, e11, hmin2]
          refine call_ok rfl rfl (d_missing (n + 2) s11 p _ (z * c) [oO q o] hS11 (by simp)) ?_
          rintro x s12 ⟨k2, hS12⟩
          have y6 := k2.lenV
          simp only [List.length_nil, Int.natCast_zero] at y6
          simp (disch := omega) only [vm0, vm1, vm2, vm3, vm4, vm5, vm6, vm7, fPick, fBox, fBuild, fBsl, fLd, fLda, fSt, fNilc, fBin, fEq, fUn, fMkf, fFa, fFld, fFlda, fExt, evo, wr, wrC, frame, Bool.not_true, Bool.not_false, beq_self_eq_true, List.cons_append, List.nil_append, Nat.add_zero, Nat.zero_add, Nat.reduceAdd, Nat.reduceMul, Nat.reduceSub, Bool.and_true, Bool.true_and, Bool.and_self, beq_dec, fApp, Int.toNat_natCast, Nat.sub_zero, vmI, y6]
          refine call_ok rfl rfl (d_sent (n + 4) s12 p _ (z * c) [oO q o] hS12) ?_
          rintro x s12 ⟨rfl, rfl⟩
          simp (disch := omega) only [vm0, vm1, vm2, vm3, vm4, vm5, vm6, vm7, fPick, fBox, fBuild, fBsl, fLd, fLda, fSt, fNilc, fBin, fEq, fUn, fMkf, fFa, fFld, fFlda, fExt, evo, wr, wrC, frame, Bool.not_true, Bool.not_false, beq_self_eq_true, List.cons_append, List.nil_append, Nat.add_zero, Nat.zero_add, Nat.reduceAdd, Nat.reduceMul, Nat.reduceSub, Bool.and_true, Bool.true_and, Bool.and_self, beq_dec, fApp, Int.toNat_natCast, Nat.sub_zero, vmI]
          exact ⟨2 - (j + 1), by omega, j + 1, (j : Int) + 1, _, _, _, _, _, _, _, rfl, by omega, by omega, rfl, hS12⟩
        · have hzc0 : 0 ≤ z * c := Int.mul_nonneg (by omega) (by omega)
          simp (disch := omega) only [vm0, vm1, vm2, vm3, vm4, vm5, vm6, vm7, fPick, fBox, fBuild, fBsl, fLd, fLda, fSt, fNilc, fBin, fEq, fUn, fMkf, fFa, fFld, fFlda, fExt, evo, wr, wrC, frame, Bool.not_true, Bool.not_false, beq_self_eq_true, List.cons_append, List.nil_append, Nat.add_zero, Nat.zero_add, Nat.reduceAdd, Nat.reduceMul, Nat.reduceSub, Bool.and_true, Bool.true_and, Bool.and_self, beq_dec, fApp, Int.toNat_natCast, Nat.sub_zero, vmI, vc6_3, vc6_4, e7]
          by_cases hlt2 : z * c < N
          · have hop : z * c < o.open_ N := by omega
            have hnx := next_new_ (chunk := c) hop
            refine call_ok rfl rfl (d_next (n + 2) s7 p q _ (z * c) o [] N c hS trivial (by simp; omega) (by omega) (by simp) (by omega) (by omega) (by omega)) ?_
            rintro x s11 ⟨rfl, hS11⟩
            rw [hnx] at hS11 ⊢
            have e11 := (hrd.fr0 hS11.frm).lenV
            rw [hN] at e11
            simp (disch := omega) only [vm0, vm1, vm2, vm3, vm4, vm5, vm6, vm7, fPick, fBox, fBuild, fBsl, fLd, fLda, fSt, fNilc, fBin, fEq, fUn, fMkf, fFa, fFld, fFlda, fExt, evo, wr, wrC, frame, Bool.not_true, Bool.not_false, beq_self_eq_true, List.cons_append, List.nil_append, Nat.add_zero, Nat.zero_add, Nat.reduceAdd, Nat.reduceMul, Nat.reduceSub, Bool.and_true, Bool.true_and, Bool.and_self, beq_dec, fApp, Int.toNat_natCast, Nat.sub_zero, vmI, e11]
            refine call_ok rfl rfl (wakes14 (n + 1) s11 (by omega)) ?_
            rintro x s13 ⟨rfl, _⟩
            simp (disch := omega) only [vm0, vm1, vm2, vm3, vm4, vm5, vm6, vm7, fPick, fBox, fBuild, fBsl, fLd, fLda, fSt, fNilc, fBin, fEq, fUn, fMkf, fFa, fFld, fFlda, fExt, evo, wr, wrC, frame, Bool.not_true, Bool.not_false, beq_self_eq_true, List.cons_append, List.nil_append, Nat.add_zero, Nat.zero_add, Nat.reduceAdd, Nat.reduceMul, Nat.reduceSub, Bool.and_true, Bool.true_and, Bool.and_self, beq_dec, fApp, Int.toNat_natCast, Nat.sub_zero, vmI]
            exact rfl
          · have hnx : nextP o N c [] (z * c) = ⟨[], z * c, 0, 0, false⟩ := by unfold nextP; rw [cutC_nil, if_pos rfl, if_pos (by omega)]
            refine call_ok rfl rfl (d_next (n + 2) s7 p q _ (z * c) o [] N c hS trivial (by simp; omega) (by omega) (by simp) (by omega) (by omega) (by omega)) ?_
            rintro x s11 ⟨rfl, hS11⟩
            rw [hnx] at hS11 ⊢
            have e11 := (hrd.fr0 hS11.frm).lenV
            rw [hN] at e11
            simp (disch := omega) only [vm0, vm1, vm2, vm3, vm4, vm5, vm6, vm7, fPick, fBox, fBuild, fBsl, fLd, fLda, fSt, fNilc, fBin, fEq, fUn, fMkf, fFa, fFld, fFlda, fExt, evo, wr, wrC, frame, Bool.not_true, Bool.not_false, beq_self_eq_true, List.cons_append, List.nil_append, Nat.add_zero, Nat.zero_add, Nat.reduceAdd, Nat.reduceMul, Nat.reduceSub, Bool.and_true, Bool.true_and, Bool.and_self, beq_dec, fApp, Int.toNat_natCast, Nat.sub_zero, vmI, e11]
            refine call_ok rfl rfl (wakes14 (n + 1) s11 (by omega)) ?_
            rintro x s13 ⟨rfl, _⟩
            simp (disch := omega) only [vm0, vm1, vm2, vm3, vm4, vm5, vm6, vm7, fPick, fBox, fBuild, fBsl, fLd, fLda, fSt, fNilc, fBin, fEq, fUn, fMkf, fFa, fFld, fFlda, fExt, evo, wr, wrC, frame, Bool.not_true, Bool.not_false, beq_self_eq_true, List.cons_append, List.nil_append, Nat.add_zero, Nat.zero_add, Nat.reduceAdd, Nat.reduceMul, Nat.reduceSub, Bool.and_true, Bool.true_and, Bool.and_self, beq_dec, fApp, Int.toNat_natCast, Nat.sub_zero, vmI]
            exact rfl
end
end Go.Proofs.Ytekhpohcjfjhfaa.ctr
namespace Go.Proofs.Ytekhpohcjfjhfaa.planAgainRun
open Go.Vm Go.RowKit Go.Proofs.Ytekhpohcjfjhfaa.ctr
set_option linter.unusedVariables false
set_option linter.unusedSimpArgs false
theorem mixed : Try.prog.follows .mixedOrders = true := by kernel_rfl
theorem walk (a0 : Option Addr) (len0 cap0 : Nat) (z0 : List Int) (a1 : Int) (a2 : Int) (a3 : Int) (w : World) (w1 : (Lit.int .i64 a1).wf = true) (w2 : (Lit.int .i64 a2).wf = true) (w3 : (Lit.int .i64 a3).wf = true) (hq0 : IsRow8 w a0 len0 cap0 z0) :
    Calls Try.prog 6 #[.slice a0 len0 cap0, .int .i64 a1, .int .i64 a2, .int .i64 a3] w fun e w' => e = .returned (.bool true) ∧ Below w.heap.size w w' := by
  obtain ⟨v0, E0, s0, g0, l0, f0, r0, d0, i0⟩ := (Arg0.start w).bytes hq0
  have h := again srt_ok (bd := bd0) (h := srt) (fu := 5000) 40 s0 v0 a1 a2 a3 _ d0  (wf64 w1) (wf64 w2) (wf64 w3) (by omega)
  exact law_okE bd0_ok mixed (tabS_all rho0) (t6 srt) g0.hr g0.own (.cons r0 (.cons vr_int (.cons vr_int (.cons vr_int .nil)))) (yes_of' h fun _ _ h => h)
end Go.Proofs.Ytekhpohcjfjhfaa.planAgainRun
