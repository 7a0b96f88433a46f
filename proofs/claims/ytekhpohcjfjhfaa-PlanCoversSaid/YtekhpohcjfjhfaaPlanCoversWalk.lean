/- PlanCovers, walked. -/
import Derived.Test.YtekhpohcjfjhfaaCtOu
import Derived.WalkKit
import Derived.ProofKit
namespace Go.Proofs.Ytekhpohcjfjhfaa.ctr
open Go.Vm Go.RowKit Go.Ranges
set_option linter.unusedVariables false
set_option linter.unusedSimpArgs false
theorem cutC_nil {f t : Int} : cutC f t [] = [] := by unfold cutC cutR; split <;> rfl
theorem next_new_ {o : OB} {limit chunk t : Int} (h : t < o.open_ limit) : nextP o limit chunk [] t = ⟨[], pieceM o.b.length o.closed t (o.open_ limit) (clampC chunk), t, pieceM o.b.length o.closed t (o.open_ limit) (clampC chunk), true⟩ := by
  unfold nextP
  rw [cutC_nil, if_pos rfl, if_neg (by omega)]
theorem addC_eq {f t : Int} {l : List R} (h0 : 0 ≤ f) (h1 : f < t) (h2 : t ≤ far) : addC f t l = Ranges.addR f t l := by
  unfold addC
  rw [show max 0 f = f by omega, show min t far = t by omega, if_pos h1]
theorem cutC_eq {f t : Int} {l : List R} (h0 : 0 ≤ f) (h1 : f < t) (h2 : t ≤ far) : cutC f t l = cutR f t l := by
  unfold cutC
  rw [show max 0 f = f by omega, show min t far = t by omega, if_pos h1]
theorem cutC_no {f t : Int} {l : List R} (h : t ≤ f ∨ t ≤ 0) : cutC f t l = l := by
  unfold cutC
  rw [if_neg (by omega)]
theorem add_two {e c : Int} (he : 0 ≤ e) (hc : 1 ≤ c) (hm : e + 2 * c ≤ 72) : addC (e + c) (e + 2 * c) [] = [(e + c, e + 2 * c)] ∧ addC e (e + c) [(e + c, e + 2 * c)] = [(e, e + 2 * c)] := by
  have hf : far = 1099511627776 := rfl
  rw [addC_eq (by omega) (by omega) (by omega), addC_eq (by omega) (by omega) (by omega)]
  have h5 : min e (e + c) = e := by omega
  have h6 : max (e + c) (e + 2 * c) = e + 2 * c := by omega
  refine ⟨rfl, ?_⟩
  unfold Ranges.addR
  dsimp only
  rw [if_neg (by omega), if_neg (by omega), h5, h6]; rfl
theorem next_two {o : OB} {e c T N : Int} (he : 0 ≤ e) (hc : 1 ≤ c) (hc6 : c ≤ 6) (hm : e + 2 * c ≤ 72) (h0 : o.acked = 0) (h1 : o.closed = false) : nextP o N 60 [(e, e + 2 * c)] T = ⟨[], T, e, e + 2 * c, true⟩ := by
  have k0 : cutC 0 0 [(e, e + 2 * c)] = [(e, e + 2 * c)] := cutC_no (by omega)
  have k1 : clampC 60 = 60 := rfl
  have k2 : pieceM o.b.length false e (e + 2 * c) 60 = e + 2 * c := by simp only [pieceM, Bool.false_eq_true, false_and, if_false]; omega
  have hf : far = 1099511627776 := rfl
  have k3 : cutC e (e + 2 * c) [(e, e + 2 * c)] = [] := by
    rw [cutC_eq (by omega) (by omega) (by omega)]
    unfold cutR cut1
    simp
  unfold nextP
  rw [h0, h1, k0, if_neg (by simp)]
  simp only [List.headD_cons, k1, k2, k3]
section
variable {bd : Bd} {h : VF} {fu : Nat}
theorem d_next (n : Nat) {s0 : St} (s : St) (p q : Nat) (l : List R) (t : Int) (o : OB) (Ps : List Obj) (limit chunk : Int) (hS : Sep s0 s (oP p l t :: oO q o :: Ps)) (hw : WFr 0 l) (hlen : 2 * l.length < fu) (hfu : 10 < fu) (hl : l.length < 40000) (hb : o.b.length < 1000000) (hL : -1000000000 ≤ limit ∧ limit ≤ 1000000000) (ht : 0 ≤ t ∧ t ≤ 1000000000) :
    OutOk (callF bd (tab h).get fu (n + 3) 36 [.ptr p 0, .ptr q 0, num limit, num chunk] s) (fun x s' => Is x (.tup [num (nextP o limit chunk l t).a, num (nextP o limit chunk l t).b, .bool (nextP o limit chunk l t).ok]) ∧ Sep s0 s' (oP p (nextP o limit chunk l t).l (nextP o limit chunk l t).t :: oO q o :: Ps)) := by
  obtain ⟨f, g, k1, k2, k3, up⟩ := hS.hd2
  exact (p_next n s p q l t o f g limit chunk k1 k2 k3 hw hlen hfu hl hb hL ht).mono fun x s' ⟨f', r1, r2, r3, r4⟩ => ⟨r1, up (oP _ _ _) r2 r3 r4⟩
theorem d_lost (hs : SortOk h) (n : Nat) {s0 : St} (s : St) (p : Nat) (l : List R) (t : Int) (Ps : List Obj) (a b : Int) (hS : Sep s0 s (oP p l t :: Ps)) (hw : WFr 0 l) (hlen : l.length < fu) (hl : l.length < 100000) : OutOk (callF bd (tab h).get fu (n + 3) 39 [.ptr p 0, num a, num b] s) (fun x s' => Sep s0 s' (oP p (addC a b l) t :: Ps)) := by
  obtain ⟨f, k1, up⟩ := hS.hd
  exact (p_lost hs n s p l t f a b k1 hw hlen hl).mono fun x s' ⟨f', r2, r3, r4⟩ => up (oP _ _ _) r2 r3 r4
theorem d_missing (n : Nat) {s0 : St} (s : St) (p : Nat) (l : List R) (t : Int) (Ps : List Obj) (hS : Sep s0 s (oP p l t :: Ps)) (hl : l.length < 1000000) : OutOk (callF bd (tab h).get fu (n + 3) 40 [.ptr p 0] s) (fun x s' => RdE s' x 2 encR l ∧ Sep s0 s' (oP p l t :: Ps)) := by
  obtain ⟨f, k1, up⟩ := hS.hd
  exact (p_missing n s p l t f k1 hl).mono fun x s' ⟨f', r2, r3, r4⟩ => ⟨r2.rd, hS.fr r3⟩
theorem d_sent (n : Nat) {s0 : St} (s : St) (p : Nat) (l : List R) (t : Int) (Ps : List Obj) (hS : Sep s0 s (oP p l t :: Ps)) : OutOk (callF bd (tab h).get fu (n + 1) 37 [.ptr p 0] s) (fun x s' => Is x (num t) ∧ Is s' s) := by
  obtain ⟨f, k1, up⟩ := hS.hd
  exact p_sent n s p l t f k1
theorem again (hs : SortOk h) (n : Nat) (s : St) (v : AV) (k0 f0 n0 : Int) (b : List Int) (hv : RdE s v 1 encB b) (hk : In64 k0) (hf : In64 f0) (hn : In64 n0) (hfu : 1000 < fu) :
    OutOk (callF bd (tab h).get fu (n + 6) 6 [v, num k0, num f0, num n0] s) (fun x s' => Is x (.bool true)) := by
  refine call_code (t6 h) rfl ?_
  simp (disch := omega) only [vm0, vm1, vm2, vm3, vm4, vm5, vm6, vm7, fPick, fBox, fBuild, fBsl, fLd, fLda, fSt, fNilc, fBin, fEq, fUn, fMkf, fFa, fFld, fFlda, fExt, evo, wr, wrC, frame, Bool.not_true, Bool.not_false, beq_self_eq_true, List.cons_append, List.nil_append, Nat.add_zero, Nat.zero_add, Nat.reduceAdd, Nat.reduceMul, Nat.reduceSub, Bool.and_true, Bool.true_and, Bool.and_self, beq_dec, fApp, Int.toNat_natCast, Nat.sub_zero, vmI, vc6]
  refine call_ok rfl rfl (cutB (n + 3) s v b 60 (by omega) (by omega) hv) ?_
  rintro x s1 ⟨f1, q1, q2, q3⟩
  obtain ⟨b1, hb1⟩ : ∃ b1, b.take 60 = b1 := ⟨_, rfl⟩
  have hbl : b1.length ≤ 60 := by rw [← hb1]; exact List.length_take_le _ _
  have hq1 : OwE s1 x 1 encB b1 f1 := by rw [← hb1]; exact q1
  simp (disch := omega) only [vm0, vm1, vm2, vm3, vm4, vm5, vm6, vm7, fPick, fBox, fBuild, fBsl, fLd, fLda, fSt, fNilc, fBin, fEq, fUn, fMkf, fFa, fFld, fFlda, fExt, evo, wr, wrC, frame, Bool.not_true, Bool.not_false, beq_self_eq_true, List.cons_append, List.nil_append, Nat.add_zero, Nat.zero_add, Nat.reduceAdd, Nat.reduceMul, Nat.reduceSub, Bool.and_true, Bool.true_and, Bool.and_self, beq_dec, fApp, Int.toNat_natCast, Nat.sub_zero, vmI, fApz, rep_flat]
  refine op_app hq1 (by (repeat' (first | exact Fr.refl | assumption | apply Fr.new' | apply Fr.mk' | apply Fr.put')) <;> (first | omega | (left; simp; done) | (right; simp only [next_put, next_new, next_mk]; omega) | (simp only [next_put, next_new, next_mk]; omega))) (new := List.replicate 12 (0 : Int)) rfl (by simp) (by simp; omega) ?_
  intro v2 s2 f2 q4 q5 q6
  obtain ⟨B, hB⟩ : ∃ B, b1 ++ List.replicate 12 (0 : Int) = B := ⟨_, rfl⟩
  obtain ⟨N, hN⟩ : ∃ N : Int, (B.length : Int) = N := ⟨_, rfl⟩
  have hN2 : 12 ≤ N ∧ N ≤ 72 := by rw [← hN, ← hB]; simp; omega
  rw [hB] at q4
  have hrd := q4.rd
  clear hB hb1 q1
  have hS0 : Sep s2 s2 [] := .nil
  simp (disch := omega) only [vm0, vm1, vm2, vm3, vm4, vm5, vm6, vm7, fPick, fBox, fBuild, fBsl, fLd, fLda, fSt, fNilc, fBin, fEq, fUn, fMkf, fFa, fFld, fFlda, fExt, evo, wr, wrC, frame, Bool.not_true, Bool.not_false, beq_self_eq_true, List.cons_append, List.nil_append, Nat.add_zero, Nat.zero_add, Nat.reduceAdd, Nat.reduceMul, Nat.reduceSub, Bool.and_true, Bool.true_and, Bool.and_self, beq_dec, fApp, Int.toNat_natCast, Nat.sub_zero, vmI]
  refine call_ok rfl rfl (withinP (n + 4) s2 k0 6 hk (by omega) (by omega)) ?_
  rintro x s2 ⟨rfl, rfl⟩
  obtain ⟨c, hc⟩ : ∃ c, 1 + k0 % 6 = c := ⟨_, rfl⟩
  have hc2 : 1 ≤ c ∧ c ≤ 6 := by omega
  simp (disch := omega) only [vm0, vm1, vm2, vm3, vm4, vm5, vm6, vm7, fPick, fBox, fBuild, fBsl, fLd, fLda, fSt, fNilc, fBin, fEq, fUn, fMkf, fFa, fFld, fFlda, fExt, evo, wr, wrC, frame, Bool.not_true, Bool.not_false, beq_self_eq_true, List.cons_append, List.nil_append, Nat.add_zero, Nat.zero_add, Nat.reduceAdd, Nat.reduceMul, Nat.reduceSub, Bool.and_true, Bool.true_and, Bool.and_self, beq_dec, fApp, Int.toNat_natCast, Nat.sub_zero, vmI, hc]
  refine call_ok rfl rfl (p_new (n + 3) s2) ?_
  rintro x s3 ⟨p, fp, rfl, r1, r2, r3⟩
  have hS1 := hS0.push (P := oP p [] 0) r1 r2 r3
  simp (disch := omega) only [vm0, vm1, vm2, vm3, vm4, vm5, vm6, vm7, fPick, fBox, fBuild, fBsl, fLd, fLda, fSt, fNilc, fBin, fEq, fUn, fMkf, fFa, fFld, fFlda, fExt, evo, wr, wrC, frame, Bool.not_true, Bool.not_false, beq_self_eq_true, List.cons_append, List.nil_append, Nat.add_zero, Nat.zero_add, Nat.reduceAdd, Nat.reduceMul, Nat.reduceSub, Bool.and_true, Bool.true_and, Bool.and_self, beq_dec, fApp, Int.toNat_natCast, Nat.sub_zero, vmI]
  refine call_ok rfl rfl (o_new (n + 4) s3 100) ?_
  rintro x s4 ⟨q, rfl, r4, r5, r6⟩
  have hS2 := hS1.push (P := oO q _) r6 r5 (Nw.one r4)
  have hrd4 := (hrd.fr0 r2).fr0 r5
  simp (disch := omega) only [vm0, vm1, vm2, vm3, vm4, vm5, vm6, vm7, fPick, fBox, fBuild, fBsl, fLd, fLda, fSt, fNilc, fBin, fEq, fUn, fMkf, fFa, fFld, fFlda, fExt, evo, wr, wrC, frame, Bool.not_true, Bool.not_false, beq_self_eq_true, List.cons_append, List.nil_append, Nat.add_zero, Nat.zero_add, Nat.reduceAdd, Nat.reduceMul, Nat.reduceSub, Bool.and_true, Bool.true_and, Bool.and_self, beq_dec, fApp, Int.toNat_natCast, Nat.sub_zero, vmI]
  obtain ⟨fo, k1, up⟩ := hS2.hd
  refine call_ok rfl rfl (o_write (n + 2) s4 q _ fo _ B k1 hrd4 (by simp) (by omega) (by decide) (by decide) (by omega)) ?_
  rintro x s5 ⟨f5, rfl, r7, r8, r9⟩
  have hroom : (⟨[], min (max 100 1) 400, 0, false⟩ : OB).room (B.length : Int) = N := by
    rw [hN]; simp [OB.room]; omega
  have hW : (⟨[], min (max 100 1) 400, 0, false⟩ : OB).write B = ⟨B, 100, 0, false⟩ := by
    rw [OB.write, hroom, List.take_of_length_le (by omega)]; rfl
  rw [hW] at r7
  rw [hroom]
  have hS5 := (up (oO q ⟨B, 100, 0, false⟩) r7 r8 r9).swap
  have hrd5 : RdE s5 v2 1 encB B := hrd.fr0 hS5.frm
  have e5 := hrd5.lenV
  rw [hN] at e5
  have hcz : c ≠ 0 := by omega
  obtain ⟨m, hm⟩ : ∃ m, N / c = m := ⟨_, rfl⟩
  have hqm : N.tdiv c = m := by rw [Int.tdiv_eq_ediv_of_nonneg (by omega), hm]
  have hm1 : m * c ≤ N := by rw [← hm]; exact Int.ediv_mul_le N hcz
  have hm2 : 2 ≤ m := by rw [← hm]; exact (Int.le_ediv_iff_mul_le (by omega)).2 (by omega)
  have hm3 : m ≤ 72 := by
    have : m * 1 ≤ m * c := Int.mul_le_mul_of_nonneg_left hc2.1 (by omega)
    omega
  have hS5' := hS5
  simp (disch := omega) only [vm0, vm1, vm2, vm3, vm4, vm5, vm6, vm7, fPick, fBox, fBuild, fBsl, fLd, fLda, fSt, fNilc, fBin, fEq, fUn, fMkf, fFa, fFld, fFlda, fExt, evo, wr, wrC, frame, Bool.not_true, Bool.not_false, beq_self_eq_true, List.cons_append, List.nil_append, Nat.add_zero, Nat.zero_add, Nat.reduceAdd, Nat.reduceMul, Nat.reduceSub, Bool.and_true, Bool.true_and, Bool.and_self, beq_dec, fApp, Int.toNat_natCast, Nat.sub_zero, vmI, e5, b_quo hcz, hqm]
  refine call_ok rfl rfl (withinP (n + 4) s5 n0 (m - 1) hn (by omega) (by omega)) ?_
  rintro x s5 ⟨rfl, rfl⟩
  have hnm := Int.emod_nonneg n0 (show m - 1 ≠ 0 by omega)
  have hnm2 := Int.emod_lt_of_pos n0 (show 0 < m - 1 by omega)
  obtain ⟨y, hy⟩ : ∃ y, 2 + n0 % (m - 1) = y := ⟨_, rfl⟩
  have hy2 : 2 ≤ y ∧ y ≤ m := by omega
  have hyc : y * c ≤ N := Int.le_trans (Int.mul_le_mul_of_nonneg_right hy2.2 (by omega)) hm1
  simp (disch := omega) only [vm0, vm1, vm2, vm3, vm4, vm5, vm6, vm7, fPick, fBox, fBuild, fBsl, fLd, fLda, fSt, fNilc, fBin, fEq, fUn, fMkf, fFa, fFld, fFlda, fExt, evo, wr, wrC, frame, Bool.not_true, Bool.not_false, beq_self_eq_true, List.cons_append, List.nil_append, Nat.add_zero, Nat.zero_add, Nat.reduceAdd, Nat.reduceMul, Nat.reduceSub, Bool.and_true, Bool.true_and, Bool.and_self, beq_dec, fApp, Int.toNat_natCast, Nat.sub_zero, vmI, hy]
  obtain ⟨o, ho⟩ : ∃ o : OB, (⟨B, 100, 0, false⟩ : OB) = o := ⟨_, rfl⟩
  have ho1 : (o.b.length : Int) = N := by rw [← ho]; exact hN
  have ho2 : o.closed = false := by rw [← ho]
  have ho3 : o.acked = 0 := by rw [← ho]
  have ho4 : o.open_ N = N := by unfold OB.open_ OB.places; rw [ho1, ho2, if_pos (by omega)]; simp
  rw [ho] at hS5
  clear hS5' hS2 hS1 k1 up
  refine x_loop (fun m' F s' => ∃ i : Nat, ∃ z x12 x13 x14 x15 x16, m' = y.toNat - i ∧ (i : Int) ≤ y ∧ z = (i : Int) ∧ F = [some v2, some (num c), some (num f0), some (num y), some (.ptr p 0), some (.ptr q 0), some (num z), none, none, none, none, some (.bool false), x12, x13, x14, x15, x16, none, none, none, none, none, none, none, some (.bool false)] ∧ Sep s2 s' [oP p [] (z * c), oO q o]) y.toNat (by omega) ?_ ?_
  · exact ⟨0, _, _, _, _, _, _, by omega, by omega, rfl, rfl, by rw [Int.natCast_zero, Int.zero_mul]; exact hS5⟩
  · rintro m' F s6 ⟨i, _, x12, x13, x14, x15, x16, rfl, hi, rfl, rfl, hS⟩ hm'
    obtain ⟨z, hz⟩ : ∃ z : Int, (i : Int) = z := ⟨_, rfl⟩
    have e6 := (hrd.fr0 hS.frm).lenV
    rw [hN] at e6
    rw [hz] at hi hS ⊢
    have hzc : (z + 1) * c = z * c + c := by rw [Int.add_mul, Int.one_mul]
    by_cases hlt : z < y
    · have hzy : (z + 1) * c ≤ y * c := Int.mul_le_mul_of_nonneg_right (by omega) (by omega)
      have hz0 : 0 ≤ z * c := Int.mul_nonneg (by omega) (by omega)
      have hmin : min (z * c + c) N = z * c + c := by omega
      have hpm : pieceM N false (z * c) N c = z * c + c := by simp only [pieceM, Bool.false_eq_true, false_and, if_false]; omega
      have hnx : nextP o N c [] (z * c) = ⟨[], z * c + c, z * c, z * c + c, true⟩ := by
        rw [next_new_ (by rw [ho4]; omega), ho1, ho2, ho4, show clampC c = c by unfold clampC; omega, hpm]
      simp (disch := omega) only [vm0, vm1, vm2, vm3, vm4, vm5, vm6, vm7, fPick, fBox, fBuild, fBsl, fLd, fLda, fSt, fNilc, fBin, fEq, fUn, fMkf, fFa, fFld, fFlda, fExt, evo, wr, wrC, frame, Bool.not_true, Bool.not_false, beq_self_eq_true, List.cons_append, List.nil_append, Nat.add_zero, Nat.zero_add, Nat.reduceAdd, Nat.reduceMul, Nat.reduceSub, Bool.and_true, Bool.true_and, Bool.and_self, beq_dec, fApp, Int.toNat_natCast, Nat.sub_zero, vmI, vc6_1, vc6_0, e6]
      refine call_ok rfl rfl (d_next (n + 2) s6 p q [] (z * c) o [] N c hS trivial (by simp; omega) (by omega) (by simp) (by omega) (by omega) (by omega)) ?_
      rintro x s7 ⟨rfl, hS7⟩
      rw [hnx] at hS7 ⊢
      have e7 := (hrd.fr0 hS7.frm).lenV
      rw [hN] at e7
      simp (disch := omega) only [vm0, vm1, vm2, vm3, vm4, vm5, vm6, vm7, fPick, fBox, fBuild, fBsl, fLd, fLda, fSt, fNilc, fBin, fEq, fUn, fMkf, fFa, fFld, fFlda, fExt, evo, wr, wrC, frame, Bool.not_true, Bool.not_false, beq_self_eq_true, List.cons_append, List.nil_append, Nat.add_zero, Nat.zero_add, Nat.reduceAdd, Nat.reduceMul, Nat.reduceSub, Bool.and_true, Bool.true_and, Bool.and_self, beq_dec, fApp, Int.toNat_natCast, Nat.sub_zero, vmI, e7, hzc, hmin]
      exact ⟨y.toNat - (i + 1), by omega, i + 1, z + 1, _, _, _, _, _, rfl, by omega, by omega, rfl, by rw [hzc]; exact hS7⟩
    · obtain rfl : z = y := by omega
      simp (disch := omega) only [vm0, vm1, vm2, vm3, vm4, vm5, vm6, vm7, fPick, fBox, fBuild, fBsl, fLd, fLda, fSt, fNilc, fBin, fEq, fUn, fMkf, fFa, fFld, fFlda, fExt, evo, wr, wrC, frame, Bool.not_true, Bool.not_false, beq_self_eq_true, List.cons_append, List.nil_append, Nat.add_zero, Nat.zero_add, Nat.reduceAdd, Nat.reduceMul, Nat.reduceSub, Bool.and_true, Bool.true_and, Bool.and_self, beq_dec, fApp, Int.toNat_natCast, Nat.sub_zero, vmI, vc6_1, vc6_5]
      refine call_ok rfl rfl (d_sent (n + 4) s6 p [] (z * c) [oO q o] hS) ?_
      rintro x s6 ⟨rfl, rfl⟩
      simp (disch := omega) only [vm0, vm1, vm2, vm3, vm4, vm5, vm6, vm7, fPick, fBox, fBuild, fBsl, fLd, fLda, fSt, fNilc, fBin, fEq, fUn, fMkf, fFa, fFld, fFlda, fExt, evo, wr, wrC, frame, Bool.not_true, Bool.not_false, beq_self_eq_true, List.cons_append, List.nil_append, Nat.add_zero, Nat.zero_add, Nat.reduceAdd, Nat.reduceMul, Nat.reduceSub, Bool.and_true, Bool.true_and, Bool.and_self, beq_dec, fApp, Int.toNat_natCast, Nat.sub_zero, vmI]
      refine call_ok rfl rfl (withinP (n + 4) s6 f0 (z - 1) hf (by omega) (by omega)) ?_
      rintro x s6 ⟨rfl, rfl⟩
      have hfn := Int.emod_nonneg f0 (show z - 1 ≠ 0 by omega)
      have hfn2 := Int.emod_lt_of_pos f0 (show 0 < z - 1 by omega)
      obtain ⟨g, hg⟩ : ∃ g, f0 % (z - 1) = g := ⟨_, rfl⟩
      rw [hg] at hfn hfn2 ⊢
      simp (disch := omega) only [vm0, vm1, vm2, vm3, vm4, vm5, vm6, vm7, fPick, fBox, fBuild, fBsl, fLd, fLda, fSt, fNilc, fBin, fEq, fUn, fMkf, fFa, fFld, fFlda, fExt, evo, wr, wrC, frame, Bool.not_true, Bool.not_false, beq_self_eq_true, List.cons_append, List.nil_append, Nat.add_zero, Nat.zero_add, Nat.reduceAdd, Nat.reduceMul, Nat.reduceSub, Bool.and_true, Bool.true_and, Bool.and_self, beq_dec, fApp, Int.toNat_natCast, Nat.sub_zero, vmI]
      refine x_loop (fun m' F s' => ∃ i : Nat, ∃ w x7 x17 x18 x19 x20 x21 x22, m' = 2 - i ∧ i ≤ 2 ∧ w = (i : Int) ∧ F = [some v2, some (num c), some (num g), some (num z), some (.ptr p 0), some (.ptr q 0), some (num z), x7, some (num (z * c)), some (num w), none, some (.bool false), some (.bool false), x13, x14, x15, x16, x17, x18, x19, x20, x21, x22, none, some (.bool false)] ∧ Sep s2 s' [oP p [] (z * c), oO q o]) 2 (by omega) ?_ ?_
      · exact ⟨0, _, _, _, _, _, _, _, _, by omega, by omega, rfl, rfl, hS⟩
      · rintro m' F s7 ⟨j, _, x7, x17, x18, x19, x20, x21, x22, rfl, hj, rfl, rfl, hS⟩ hm'
        have e7 := (hrd.fr0 hS.frm).lenV
        rw [hN] at e7
        have hg1 : (g + 1) * c = g * c + c := by rw [Int.add_mul, Int.one_mul]
        have hg2 : (g + 2) * c = g * c + 2 * c := by rw [Int.add_mul]
        have hg0 : 0 ≤ g * c := Int.mul_nonneg (by omega) (by omega)
        have hgz : (g + 2) * c ≤ z * c := Int.mul_le_mul_of_nonneg_right (by omega) (by omega)
        obtain ⟨e, he⟩ : ∃ e, g * c = e := ⟨_, rfl⟩
        rw [he] at hg1 hg2 hg0
        rw [hg2] at hgz
        have hmin2 : min (e + 2 * c) N = e + 2 * c := by omega
        obtain ⟨A1, A2⟩ := add_two (c := c) hg0 hc2.1 (by omega)
        have A3 := next_two (T := z * c) (N := N) hg0 hc2.1 hc2.2 (by omega) ho3 ho2
        have w0 : WFr 0 [(e + c, e + 2 * c)] := ⟨by omega, by omega, by simp only [far]; omega, trivial⟩
        have w1 : WFr 0 [(e, e + 2 * c)] := ⟨by omega, by omega, by simp only [far]; omega, trivial⟩
        by_cases hlt : j < 2
        · simp (disch := omega) only [vm0, vm1, vm2, vm3, vm4, vm5, vm6, vm7, fPick, fBox, fBuild, fBsl, fLd, fLda, fSt, fNilc, fBin, fEq, fUn, fMkf, fFa, fFld, fFlda, fExt, evo, wr, wrC, frame, Bool.not_true, Bool.not_false, beq_self_eq_true, List.cons_append, List.nil_append, Nat.add_zero, Nat.zero_add, Nat.reduceAdd, Nat.reduceMul, Nat.reduceSub, Bool.and_true, Bool.true_and, Bool.and_self, beq_dec, fApp, Int.toNat_natCast, Nat.sub_zero, vmI, vc6_3, vc6_2, e7, hg1, hg2, he, hmin2]
          refine call_ok rfl rfl (d_lost hs (n + 2) s7 p [] (z * c) [oO q o] (e + c) (e + 2 * c) hS trivial (by simp; omega) (by simp)) ?_
          rintro x s8 hS8
          rw [A1] at hS8
          simp (disch := omega) only [vm0, vm1, vm2, vm3, vm4, vm5, vm6, vm7, fPick, fBox, fBuild, fBsl, fLd, fLda, fSt, fNilc, fBin, fEq, fUn, fMkf, fFa, fFld, fFlda, fExt, evo, wr, wrC, frame, Bool.not_true, Bool.not_false, beq_self_eq_true, List.cons_append, List.nil_append, Nat.add_zero, Nat.zero_add, Nat.reduceAdd, Nat.reduceMul, Nat.reduceSub, Bool.and_true, Bool.true_and, Bool.and_self, beq_dec, fApp, Int.toNat_natCast, Nat.sub_zero, vmI, he, hg1]
          refine call_ok rfl rfl (d_lost hs (n + 2) s8 p _ (z * c) [oO q o] e (e + c) hS8 w0 (by simp; omega) (by simp)) ?_
          rintro x s9 hS9
          rw [A2] at hS9
          simp (disch := omega) only [vm0, vm1, vm2, vm3, vm4, vm5, vm6, vm7, fPick, fBox, fBuild, fBsl, fLd, fLda, fSt, fNilc, fBin, fEq, fUn, fMkf, fFa, fFld, fFlda, fExt, evo, wr, wrC, frame, Bool.not_true, Bool.not_false, beq_self_eq_true, List.cons_append, List.nil_append, Nat.add_zero, Nat.zero_add, Nat.reduceAdd, Nat.reduceMul, Nat.reduceSub, Bool.and_true, Bool.true_and, Bool.and_self, beq_dec, fApp, Int.toNat_natCast, Nat.sub_zero, vmI]
          refine call_ok rfl rfl (d_missing (n + 2) s9 p _ (z * c) [oO q o] hS9 (by simp)) ?_
          rintro x s10 ⟨k1, hS10⟩
          have hx : [(e, e + 2 * c)][0]? = some (e, e + 2 * c) := rfl
          have y1 := k1.ia hx
          have y3 := RdE.f0 k1 hx
          have y4 := RdE.f1 k1 hx
          have yb := k1.blk' hx
          have y5 := k1.lenV
          have e10 := (hrd.fr0 hS10.frm).lenV
          rw [hN] at e10
          simp only [Int.natCast_zero, Nat.zero_mul, Nat.add_zero, List.length_cons, List.length_nil, Nat.zero_add, Int.natCast_one] at y1 y3 y4 y5
          simp (disch := omega) only [vm0, vm1, vm2, vm3, vm4, vm5, vm6, vm7, fPick, fBox, fBuild, fBsl, fLd, fLda, fSt, fNilc, fBin, fEq, fUn, fMkf, fFa, fFld, fFlda, fExt, evo, wr, wrC, frame, Bool.not_true, Bool.not_false, beq_self_eq_true, List.cons_append, List.nil_append, Nat.add_zero, Nat.zero_add, Nat.reduceAdd, Nat.reduceMul, Nat.reduceSub, Bool.and_true, Bool.true_and, Bool.and_self, beq_dec, fApp, Int.toNat_natCast, Nat.sub_zero, vmI, y1, y3, y4, y5, e10, he, hg2, hmin2]
          have hzc0 : 0 ≤ z * c := Int.mul_nonneg (by omega) (by omega)
          refine call_ok rfl rfl (d_next (n + 2) s10 p q _ (z * c) o [] N 60 hS10 w1 (by simp; omega) (by omega) (by simp) (by omega) (by omega) (by omega)) ?_
          rintro x s11 ⟨rfl, hS11⟩
          rw [A3] at hS11 ⊢
          have e11 := (hrd.fr0 hS11.frm).lenV
          rw [hN] at e11
          simp (disch := omega) only [vm0, vm1, vm2, vm3, vm4, vm5, vm6, vm7, fPick, fBox, fBuild, fBsl, fLd, fLda, fSt, fNilc, fBin, fEq, fUn, fMkf, fFa, fFld, fFlda, fExt, evo, wr, wrC, frame, Bool.not_true, Bool.not_false, beq_self_eq_true, List.cons_append, List.nil_append, Nat.add_zero, Nat.zero_add, Nat.reduceAdd, Nat.reduceMul, Nat.reduceSub, Bool.and_true, Bool.true_and, Bool.and_self, beq_dec, fApp, Int.toNat_natCast, Nat.sub_zero, vmI, he, hg2, e11, hmin2]
          refine call_ok rfl rfl (d_missing (n + 2) s11 p _ (z * c) [oO q o] hS11 (by simp)) ?_
          rintro x s12 ⟨k2, hS12⟩
          have y6 := k2.lenV
          simp only [List.length_nil, Int.natCast_zero] at y6
          simp (disch := omega) only [vm0, vm1, vm2, vm3, vm4, vm5, vm6, vm7, fPick, fBox, fBuild, fBsl, fLd, fLda, fSt, fNilc, fBin, fEq, fUn, fMkf, fFa, fFld, fFlda, fExt, evo, wr, wrC, frame, Bool.not_true, Bool.not_false, beq_self_eq_true, List.cons_append, List.nil_append, Nat.add_zero, Nat.zero_add, Nat.reduceAdd, Nat.reduceMul, Nat.reduceSub, Bool.and_true, Bool.true_and, Bool.and_self, beq_dec, fApp, Int.toNat_natCast, Nat.sub_zero, vmI, y6]
          refine call_ok rfl rfl (d_sent (n + 4) s12 p _ (z * c) [oO q o] hS12) ?_
          rintro x s12 ⟨rfl, rfl⟩
          simp (disch := omega) only [vm0, vm1, vm2, vm3, vm4, vm5, vm6, vm7, fPick, fBox, fBuild, fBsl, fLd, fLda, fSt, fNilc, fBin, fEq, fUn, fMkf, fFa, fFld, fFlda, fExt, evo, wr, wrC, frame, Bool.not_true, Bool.not_false, beq_self_eq_true, List.cons_append, List.nil_append, Nat.add_zero, Nat.zero_add, Nat.reduceAdd, Nat.reduceMul, Nat.reduceSub, Bool.and_true, Bool.true_and, Bool.and_self, beq_dec, fApp, Int.toNat_natCast, Nat.sub_zero, vmI]
          exact ⟨2 - (j + 1), by omega, j + 1, (j : Int) + 1, _, _, _, _, _, _, _, rfl, by omega, by omega, rfl, hS12⟩
        · have hzc0 : 0 ≤ z * c := Int.mul_nonneg (by omega) (by omega)
          simp (disch := omega) only [vm0, vm1, vm2, vm3, vm4, vm5, vm6, vm7, fPick, fBox, fBuild, fBsl, fLd, fLda, fSt, fNilc, fBin, fEq, fUn, fMkf, fFa, fFld, fFlda, fExt, evo, wr, wrC, frame, Bool.not_true, Bool.not_false, beq_self_eq_true, List.cons_append, List.nil_append, Nat.add_zero, Nat.zero_add, Nat.reduceAdd, Nat.reduceMul, Nat.reduceSub, Bool.and_true, Bool.true_and, Bool.and_self, beq_dec, fApp, Int.toNat_natCast, Nat.sub_zero, vmI, vc6_3, vc6_4, e7]
          by_cases hlt2 : z * c < N
          · have hop : z * c < o.open_ N := by omega
            have hnx := next_new_ (chunk := c) hop
            refine call_ok rfl rfl (d_next (n + 2) s7 p q _ (z * c) o [] N c hS trivial (by simp; omega) (by omega) (by simp) (by omega) (by omega) (by omega)) ?_
            rintro x s11 ⟨rfl, hS11⟩
            rw [hnx] at hS11 ⊢
            have e11 := (hrd.fr0 hS11.frm).lenV
            rw [hN] at e11
            simp (disch := omega) only [vm0, vm1, vm2, vm3, vm4, vm5, vm6, vm7, fPick, fBox, fBuild, fBsl, fLd, fLda, fSt, fNilc, fBin, fEq, fUn, fMkf, fFa, fFld, fFlda, fExt, evo, wr, wrC, frame, Bool.not_true, Bool.not_false, beq_self_eq_true, List.cons_append, List.nil_append, Nat.add_zero, Nat.zero_add, Nat.reduceAdd, Nat.reduceMul, Nat.reduceSub, Bool.and_true, Bool.true_and, Bool.and_self, beq_dec, fApp, Int.toNat_natCast, Nat.sub_zero, vmI, e11]
            refine call_ok rfl rfl (wakes14 (n + 1) s11 (by omega)) ?_
            rintro x s13 ⟨rfl, _⟩
            simp (disch := omega) only [vm0, vm1, vm2, vm3, vm4, vm5, vm6, vm7, fPick, fBox, fBuild, fBsl, fLd, fLda, fSt, fNilc, fBin, fEq, fUn, fMkf, fFa, fFld, fFlda, fExt, evo, wr, wrC, frame, Bool.not_true, Bool.not_false, beq_self_eq_true, List.cons_append, List.nil_append, Nat.add_zero, Nat.zero_add, Nat.reduceAdd, Nat.reduceMul, Nat.reduceSub, Bool.and_true, Bool.true_and, Bool.and_self, beq_dec, fApp, Int.toNat_natCast, Nat.sub_zero, vmI]
            exact rfl
          · have hnx : nextP o N c [] (z * c) = ⟨[], z * c, 0, 0, false⟩ := by unfold nextP; rw [cutC_nil, if_pos rfl, if_pos (by omega)]
            refine call_ok rfl rfl (d_next (n + 2) s7 p q _ (z * c) o [] N c hS trivial (by simp; omega) (by omega) (by simp) (by omega) (by omega) (by omega)) ?_
            rintro x s11 ⟨rfl, hS11⟩
            rw [hnx] at hS11 ⊢
            have e11 := (hrd.fr0 hS11.frm).lenV
            rw [hN] at e11
            simp (disch := omega) only [vm0, vm1, vm2, vm3, vm4, vm5, vm6, vm7, fPick, fBox, fBuild, fBsl, fLd, fLda, fSt, fNilc, fBin, fEq, fUn, fMkf, fFa, fFld, fFlda, fExt, evo, wr, wrC, frame, Bool.not_true, Bool.not_false, beq_self_eq_true, List.cons_append, List.nil_append, Nat.add_zero, Nat.zero_add, Nat.reduceAdd, Nat.reduceMul, Nat.reduceSub, Bool.and_true, Bool.true_and, Bool.and_self, beq_dec, fApp, Int.toNat_natCast, Nat.sub_zero, vmI, e11]
            refine call_ok rfl rfl (wakes14 (n + 1) s11 (by omega)) ?_
            rintro x s13 ⟨rfl, _⟩
            simp (disch := omega) only [vm0, vm1, vm2, vm3, vm4, vm5, vm6, vm7, fPick, fBox, fBuild, fBsl, fLd, fLda, fSt, fNilc, fBin, fEq, fUn, fMkf, fFa, fFld, fFlda, fExt, evo, wr, wrC, frame, Bool.not_true, Bool.not_false, beq_self_eq_true, List.cons_append, List.nil_append, Nat.add_zero, Nat.zero_add, Nat.reduceAdd, Nat.reduceMul, Nat.reduceSub, Bool.and_true, Bool.true_and, Bool.and_self, beq_dec, fApp, Int.toNat_natCast, Nat.sub_zero, vmI]
            exact rfl
end
end Go.Proofs.Ytekhpohcjfjhfaa.ctr
namespace Go.Proofs.Ytekhpohcjfjhfaa.ctr
open Go.Vm Go.RowKit Go.Ranges
set_option linter.unusedVariables false
set_option linter.unusedSimpArgs false
/-- a piece that is told of N bytes and their end -/
def G (N c : Int) (r : R) : Prop := 0 ≤ r.1 ∧ r.1 < r.2 ∧ r.1 ≤ N ∧ (r.2 = r.1 + c ∧ r.2 < N ∨ r.2 = N + 1 ∧ N ≤ r.1 + c)
def nxt (N c T : Int) : Int := if N ≤ T + c then N + 1 else T + c
/-- how far the telling is, after i pieces -/
def J (N c : Int) (i : Nat) (T : Int) : Prop := (T = i * c ∧ (i = 0 ∨ T < N)) ∨ (T = N + 1 ∧ 1 ≤ i ∧ (i = 1 ∨ ((i : Int) - 1) * c < N) ∧ N ≤ i * c)
theorem J.next {N c T : Int} {i : Nat} (hc : 1 ≤ c) (hN : 0 ≤ N) (h : J N c i T) (ht : T ≤ N) : J N c (i + 1) (nxt N c T) ∧ G N c (T, nxt N c T) := by
  rcases h with ⟨h1, h2⟩ | ⟨h1, _⟩
  · have e : ((i + 1 : Nat) : Int) * c = T + c := by rw [h1, Int.natCast_add, Int.natCast_one, Int.add_mul, Int.one_mul]
    have hT : 0 ≤ T := by rw [h1]; exact Int.mul_nonneg (by omega) (by omega)
    unfold nxt
    split
    · refine ⟨.inr ⟨rfl, by omega, ?_, by omega⟩, ?_⟩
      · rcases h2 with h2 | h2
        · exact .inl (by omega)
        · right
          rw [Int.natCast_add, Int.natCast_one, show (i : Int) + 1 - 1 = i by omega, ← h1]
          exact h2
      · exact ⟨hT, by dsimp only; omega, ht, .inr ⟨rfl, by dsimp only; omega⟩⟩
    · exact ⟨.inl ⟨e.symm, .inr (by omega)⟩, hT, by dsimp only; omega, ht, .inl ⟨rfl, by dsimp only; omega⟩⟩
  · omega
theorem J.end_ {N c : Int} {i : Nat} (hc : 1 ≤ c) (hN : 0 ≤ N) (h : J N c i (N + 1)) : max ((N + c - 1).tdiv c) 1 = (i : Int) := by
  rw [Int.tdiv_eq_ediv_of_nonneg (by omega)]
  rcases h with ⟨h1, h2⟩ | ⟨_, h1, h2, h3⟩
  · rcases h2 with rfl | h2
    · rw [Int.natCast_zero, Int.zero_mul] at h1; omega
    · omega
  · have e : ((i : Int) + 1) * c = i * c + c := by rw [Int.add_mul, Int.one_mul]
    have d1 : (N + c - 1) / c < i + 1 := Int.ediv_lt_of_lt_mul (by omega) (by omega)
    rcases h2 with h2 | h2
    · omega
    · have e2 : ((i : Int) - 1) * c = i * c - c := by rw [Int.sub_mul, Int.one_mul]
      have d2 : (i : Int) ≤ (N + c - 1) / c := (Int.le_ediv_iff_mul_le (by omega)).2 (by omega)
      omega
theorem J.lt {N c T : Int} {i : Nat} (hc : 1 ≤ c) (h : J N c i T) (ht : T ≤ N) : (i : Int) ≤ max N 0 := by
  rcases h with ⟨h1, h2⟩ | ⟨h1, _⟩
  · have : (i : Int) * 1 ≤ i * c := Int.mul_le_mul_of_nonneg_left hc (by omega)
    omega
  · omega
theorem pm_new {N c T : Int} (hc : 1 ≤ c) (hN : 0 ≤ N) (hT : 0 ≤ T) (h : T ≤ N) (h2 : T < N ∨ N = 0) : pieceM N true T (N + 1) c = nxt N c T := by
  unfold pieceM nxt
  simp only [true_and]
  split <;> split <;> (try split) <;> omega
theorem pm_lost {N c a e k : Int} (hc : 1 ≤ c) (hG : G N c (a, e)) (hk : k < e) : pieceM N true (max a k) e c = e := by
  obtain ⟨h0, h1, h2, h3⟩ := hG
  dsimp only at *
  unfold pieceM
  simp only [true_and]
  split <;> (try split) <;> omega
theorem cut_ack {a e k : Int} (h0 : 0 ≤ a) (h1 : a < e) (h2 : e ≤ 1000) (hk : 0 ≤ k) (hk2 : k ≤ 1000) : cutC 0 k [(a, e)] = if k < e then [(max a k, e)] else [] := by
  have hf : far = 1099511627776 := rfl
  rcases Int.lt_or_eq_of_le hk with h | h
  · rw [cutC_eq (by omega) h (by omega)]
    unfold cutR cut1
    simp only [List.flatMap_cons, List.flatMap_nil, List.append_nil]
    rw [if_neg (by omega)]
    rfl
  · rw [cutC_no (by omega), if_pos (by omega), show max a k = a by omega]
theorem cut_all {a e : Int} (h0 : 0 ≤ a) (h1 : a < e) (h2 : e ≤ 1000) : cutC a e [(a, e)] = [] := by
  have hf : far = 1099511627776 := rfl
  rw [cutC_eq h0 h1 (by omega)]
  unfold cutR cut1
  simp
theorem add_one {a e : Int} (h0 : 0 ≤ a) (h1 : a < e) (h2 : e ≤ 1000) : addC a e [] = [(a, e)] := by
  have hf : far = 1099511627776 := rfl
  rw [addC_eq h0 h1 (by omega)]; rfl
end Go.Proofs.Ytekhpohcjfjhfaa.ctr
namespace Go.Proofs.Ytekhpohcjfjhfaa.ctr
open Go.Vm Go.RowKit Go.Ranges
set_option linter.unusedVariables false
set_option linter.unusedSimpArgs false
theorem J.le_ {N c : Int} {i : Nat} (hc : 1 ≤ c) (h : J N c i (N + 1)) : (i : Int) ≤ max N 0 + 1 := by
  rcases h with ⟨h1, h2⟩ | ⟨_, h1, h2, h3⟩
  · rcases h2 with rfl | h2 <;> omega
  · rcases h2 with h2 | h2
    · omega
    · have : ((i : Int) - 1) * 1 ≤ ((i : Int) - 1) * c := Int.mul_le_mul_of_nonneg_left hc (by omega)
      omega
theorem iar0 {L F : LF} {x : Od} : fIar L F 2 1 x (.c (.int .i64 (.c 0))) = ob (ev L F x) fun v => v.onPtr (fun b o => some (.ptr b o)) none := rfl
theorem iar1 {L F : LF} {x : Od} : fIar L F 2 1 x (.c (.int .i64 (.c 1))) = ob (ev L F x) fun v => v.onPtr (fun b o => some (.ptr b (o + 1))) none := rfl
section
variable {bd : Bd} {h : VF} {fu : Nat}
theorem covers (hs : SortOk h) (n : Nat) (s : St) (v : AV) (k0 l0 a0 : Int) (b : List Int) (hv : RdE s v 1 encB b) (hk : In64 k0) (hl : In64 l0) (ha : In64 a0) (hfu : 1000 < fu) :
    OutOk (callF bd (tab h).get fu (n + 6) 7 [v, num k0, num l0, num a0] s) (fun x s' => Is x (.bool true)) := by
  refine call_code (t7 h) rfl ?_
  simp (disch := omega) only [vm0, vm1, vm2, vm3, vm4, vm5, vm6, vm7, fPick, fBox, fBuild, fBsl, fLd, fLda, fSt, fNilc, fBin, fEq, fUn, fMkf, fFa, fFld, fFlda, fExt, evo, wr, wrC, frame, Bool.not_true, Bool.not_false, beq_self_eq_true, List.cons_append, List.nil_append, Nat.add_zero, Nat.zero_add, Nat.reduceAdd, Nat.reduceMul, Nat.reduceSub, Bool.and_true, Bool.true_and, Bool.and_self, beq_dec, fApp, Int.toNat_natCast, Nat.sub_zero, vmI, vc7]
  refine call_ok rfl rfl (cutB (n + 3) s v b 80 (by omega) (by omega) hv) ?_
  rintro v2 s2 ⟨f2, q4, q2, q3⟩
  obtain ⟨B, hB⟩ : ∃ B, b.take (Int.toNat 80) = B := ⟨_, rfl⟩
  obtain ⟨N, hN⟩ : ∃ N : Int, (B.length : Int) = N := ⟨_, rfl⟩
  have hN2 : 0 ≤ N ∧ N ≤ 80 := by rw [← hN, ← hB]; have := List.length_take_le (Int.toNat 80) b; omega
  rw [hB] at q4
  have hrd := q4.rd
  clear hB
  have hS0 : Sep s2 s2 [] := .nil
  simp (disch := omega) only [vm0, vm1, vm2, vm3, vm4, vm5, vm6, vm7, fPick, fBox, fBuild, fBsl, fLd, fLda, fSt, fNilc, fBin, fEq, fUn, fMkf, fFa, fFld, fFlda, fExt, evo, wr, wrC, frame, Bool.not_true, Bool.not_false, beq_self_eq_true, List.cons_append, List.nil_append, Nat.add_zero, Nat.zero_add, Nat.reduceAdd, Nat.reduceMul, Nat.reduceSub, Bool.and_true, Bool.true_and, Bool.and_self, beq_dec, fApp, Int.toNat_natCast, Nat.sub_zero, vmI]
  refine call_ok rfl rfl (withinP (n + 4) s2 k0 20 hk (by omega) (by omega)) ?_
  rintro x s2 ⟨rfl, rfl⟩
  obtain ⟨c, hc⟩ : ∃ c, 1 + k0 % 20 = c := ⟨_, rfl⟩
  have hc2 : 1 ≤ c ∧ c ≤ 20 := by omega
  simp (disch := omega) only [vm0, vm1, vm2, vm3, vm4, vm5, vm6, vm7, fPick, fBox, fBuild, fBsl, fLd, fLda, fSt, fNilc, fBin, fEq, fUn, fMkf, fFa, fFld, fFlda, fExt, evo, wr, wrC, frame, Bool.not_true, Bool.not_false, beq_self_eq_true, List.cons_append, List.nil_append, Nat.add_zero, Nat.zero_add, Nat.reduceAdd, Nat.reduceMul, Nat.reduceSub, Bool.and_true, Bool.true_and, Bool.and_self, beq_dec, fApp, Int.toNat_natCast, Nat.sub_zero, vmI, hc]
  refine call_ok rfl rfl (p_new (n + 3) s2) ?_
  rintro x s3 ⟨p, fp, rfl, r1, r2, r3⟩
  have hS1 := hS0.push (P := oP p [] 0) r1 r2 r3
  simp (disch := omega) only [vm0, vm1, vm2, vm3, vm4, vm5, vm6, vm7, fPick, fBox, fBuild, fBsl, fLd, fLda, fSt, fNilc, fBin, fEq, fUn, fMkf, fFa, fFld, fFlda, fExt, evo, wr, wrC, frame, Bool.not_true, Bool.not_false, beq_self_eq_true, List.cons_append, List.nil_append, Nat.add_zero, Nat.zero_add, Nat.reduceAdd, Nat.reduceMul, Nat.reduceSub, Bool.and_true, Bool.true_and, Bool.and_self, beq_dec, fApp, Int.toNat_natCast, Nat.sub_zero, vmI]
  refine call_ok rfl rfl (o_new (n + 4) s3 100) ?_
  rintro x s4 ⟨q, rfl, r4, r5, r6⟩
  have hS2 := hS1.push (P := oO q _) r6 r5 (Nw.one r4)
  have hrd4 := (hrd.fr0 r2).fr0 r5
  simp (disch := omega) only [vm0, vm1, vm2, vm3, vm4, vm5, vm6, vm7, fPick, fBox, fBuild, fBsl, fLd, fLda, fSt, fNilc, fBin, fEq, fUn, fMkf, fFa, fFld, fFlda, fExt, evo, wr, wrC, frame, Bool.not_true, Bool.not_false, beq_self_eq_true, List.cons_append, List.nil_append, Nat.add_zero, Nat.zero_add, Nat.reduceAdd, Nat.reduceMul, Nat.reduceSub, Bool.and_true, Bool.true_and, Bool.and_self, beq_dec, fApp, Int.toNat_natCast, Nat.sub_zero, vmI]
  obtain ⟨fo, k1, up⟩ := hS2.hd
  refine call_ok rfl rfl (o_write (n + 2) s4 q _ fo _ B k1 hrd4 (by simp) (by omega) (by decide) (by decide) (by omega)) ?_
  rintro x s5 ⟨f5, rfl, r7, r8, r9⟩
  have hroom : (⟨[], min (max 100 1) 400, 0, false⟩ : OB).room (B.length : Int) = N := by
    rw [hN]; simp [OB.room]; omega
  have hW : (⟨[], min (max 100 1) 400, 0, false⟩ : OB).write B = ⟨B, 100, 0, false⟩ := by
    rw [OB.write, hroom, List.take_of_length_le (by omega)]; rfl
  rw [hW] at r7
  rw [hroom]
  have hS5 := up (oO q ⟨B, 100, 0, false⟩) r7 r8 r9
  have hrd5 : RdE s5 v2 1 encB B := hrd.fr0 hS5.frm
  have e5 := hrd5.lenV
  rw [hN] at e5
  simp (disch := omega) only [vm0, vm1, vm2, vm3, vm4, vm5, vm6, vm7, fPick, fBox, fBuild, fBsl, fLd, fLda, fSt, fNilc, fBin, fEq, fUn, fMkf, fFa, fFld, fFlda, fExt, evo, wr, wrC, frame, Bool.not_true, Bool.not_false, beq_self_eq_true, List.cons_append, List.nil_append, Nat.add_zero, Nat.zero_add, Nat.reduceAdd, Nat.reduceMul, Nat.reduceSub, Bool.and_true, Bool.true_and, Bool.and_self, beq_dec, fApp, Int.toNat_natCast, Nat.sub_zero, vmI, e5]
  obtain ⟨fo2, k2, up2⟩ := hS5.hd
  refine call_ok rfl rfl (o_close (n + 4) s5 q _ fo2 k2) ?_
  rintro x s6 ⟨rfl, r10, r11, r12⟩
  obtain ⟨o, ho⟩ : ∃ o : OB, (⟨B, 100, 0, true⟩ : OB) = o := ⟨_, rfl⟩
  rw [ho] at r10
  have hS6 := (up2 (oO q o) r10 r11 .refl).swap
  have hb1 : (o.b.length : Int) = N := by rw [← ho]; exact hN
  have hcl : o.closed = true := by rw [← ho]
  have hac : o.acked = 0 := by rw [← ho]
  have hop : o.open_ N = N + 1 := by unfold OB.open_ OB.places; rw [hb1, hcl, if_pos (by omega)]; simp
  clear hS5 hS2 hS1 k1 k2 up up2
  have e6 := (hrd.fr0 hS6.frm).lenV
  rw [hN] at e6
  simp (disch := omega) only [vm0, vm1, vm2, vm3, vm4, vm5, vm6, vm7, fPick, fBox, fBuild, fBsl, fLd, fLda, fSt, fNilc, fBin, fEq, fUn, fMkf, fFa, fFld, fFlda, fExt, evo, wr, wrC, frame, Bool.not_true, Bool.not_false, beq_self_eq_true, List.cons_append, List.nil_append, Nat.add_zero, Nat.zero_add, Nat.reduceAdd, Nat.reduceMul, Nat.reduceSub, Bool.and_true, Bool.true_and, Bool.and_self, beq_dec, fApp, Int.toNat_natCast, Nat.sub_zero, vmI, e6]
  refine x_loop (fun m' F s' => ∃ i : Nat, ∃ z T x6 x8 vo x15 x16 x17 x18, ∃ L : List R, m' = 100 - i ∧ i ≤ 100 ∧ z = (i : Int) ∧ F = [some v2, some (num c), some (num l0), some (num a0), some (.ptr p 0), some (.ptr q 0), x6, none, x8, some vo, none, some (num z), some (num T), none, some (.bool false), x15, x16, x17, x18, none, none, none, none, none, none, some (.bool false)] ∧ J N c i T ∧ 0 ≤ T ∧ L.length = i ∧ (∀ r ∈ L, G N c r) ∧ Sep s2 s' [oP p [] T, oO q o, oW vo 2 encR L]) 100 (by omega) ?_ ?_
  · exact ⟨0, _, _, _, _, _, _, _, _, _, [], by omega, by omega, rfl, rfl, .inl ⟨by simp, .inl rfl⟩, by omega, rfl, by simp, (hS6.push (P := oW .nils 2 encR []) (f := []) (.nil encR_w (by omega)) .refl (by simp [Nw])).dn2⟩
  · rintro m' F s7 ⟨i, _, T, x6, x8, vo, x15, x16, x17, x18, L, rfl, hi, rfl, rfl, hJ, hT, hL, hG, hS⟩ hm'
    have e7 := (hrd.fr0 hS.frm).lenV
    rw [hN] at e7
    by_cases hlt : T ≤ N
    · have hiN := hJ.lt hc2.1 hlt
      obtain ⟨hJ2, hG2⟩ := hJ.next hc2.1 hN2.1 hlt
      have hTN : T < N ∨ N = 0 := by
        rcases hJ with ⟨j1, rfl | j2⟩ | ⟨j1, _⟩
        · simp at j1; omega
        · omega
        · omega
      have hnx : nextP o N c [] T = ⟨[], nxt N c T, T, nxt N c T, true⟩ := by
        rw [next_new_ (by rw [hop]; omega), hb1, hcl, hop, show clampC c = c by unfold clampC; omega, pm_new hc2.1 hN2.1 hT hlt hTN]
      obtain ⟨T', hT'⟩ : ∃ T', nxt N c T = T' := ⟨_, rfl⟩
      rw [hT'] at hnx hJ2 hG2
      simp (disch := omega) only [vm0, vm1, vm2, vm3, vm4, vm5, vm6, vm7, fPick, fBox, fBuild, fBsl, fLd, fLda, fSt, fNilc, fBin, fEq, fUn, fMkf, fFa, fFld, fFlda, fExt, evo, wr, wrC, frame, Bool.not_true, Bool.not_false, beq_self_eq_true, List.cons_append, List.nil_append, Nat.add_zero, Nat.zero_add, Nat.reduceAdd, Nat.reduceMul, Nat.reduceSub, Bool.and_true, Bool.true_and, Bool.and_self, beq_dec, fApp, Int.toNat_natCast, Nat.sub_zero, vmI, vc7_1, vc7_0, e7]
      refine call_ok rfl rfl (d_next (n + 2) s7 p q [] T o _ N c hS trivial (by simp; omega) (by omega) (by simp) (by omega) (by omega) (by omega)) ?_
      rintro x s8 ⟨rfl, hS8⟩
      rw [hnx] at hS8 ⊢
      have e8 := (hrd.fr0 hS8.frm).lenV
      rw [hN] at e8
      obtain ⟨g0, g1, g2, g3⟩ := id hG2
      dsimp only at g0 g1 g2 g3
      by_cases g4 : N ≤ T'
      · simp (disch := omega) only [vm0, vm1, vm2, vm3, vm4, vm5, vm6, vm7, fPick, fBox, fBuild, fBsl, fLd, fLda, fSt, fNilc, fBin, fEq, fUn, fMkf, fFa, fFld, fFlda, fExt, evo, wr, wrC, frame, Bool.not_true, Bool.not_false, beq_self_eq_true, List.cons_append, List.nil_append, Nat.add_zero, Nat.zero_add, Nat.reduceAdd, Nat.reduceMul, Nat.reduceSub, Bool.and_true, Bool.true_and, Bool.and_self, beq_dec, fApp, Int.toNat_natCast, Nat.sub_zero, vmI, e8]
        obtain ⟨fo3, ho3, up⟩ := hS8.up2.hd
        refine op_app1 ho3 (by (repeat' (first | exact Fr.refl | assumption | apply Fr.new' | apply Fr.mk' | apply Fr.put')) <;> (first | omega | (left; simp; done) | (right; simp only [next_put, next_new, next_mk]; omega) | (simp only [next_put, next_new, next_mk]; omega))) (x := (T, T')) rfl (by omega) ?_
        intro v' s9 fp' q1 q2 q3
        have hS9 := (up (oW v' 2 encR (L ++ [(T, T')])) q1 q2 q3).dn2
        simp (disch := omega) only [vm0, vm1, vm2, vm3, vm4, vm5, vm6, vm7, fPick, fBox, fBuild, fBsl, fLd, fLda, fSt, fNilc, fBin, fEq, fUn, fMkf, fFa, fFld, fFlda, fExt, evo, wr, wrC, frame, Bool.not_true, Bool.not_false, beq_self_eq_true, List.cons_append, List.nil_append, Nat.add_zero, Nat.zero_add, Nat.reduceAdd, Nat.reduceMul, Nat.reduceSub, Bool.and_true, Bool.true_and, Bool.and_self, beq_dec, fApp, Int.toNat_natCast, Nat.sub_zero, vmI]
        exact ⟨100 - (i + 1), by omega, i + 1, (i : Int) + 1, T', _, _, _, _, _, _, _, _, rfl, by omega, by omega, rfl, hJ2, by omega, by simp [hL], by
          intro r hr
          rcases List.mem_append.1 hr with hr | hr
          · exact hG r hr
          · simp at hr; subst hr; exact hG2, hS9⟩
      · simp (disch := omega) only [vm0, vm1, vm2, vm3, vm4, vm5, vm6, vm7, fPick, fBox, fBuild, fBsl, fLd, fLda, fSt, fNilc, fBin, fEq, fUn, fMkf, fFa, fFld, fFlda, fExt, evo, wr, wrC, frame, Bool.not_true, Bool.not_false, beq_self_eq_true, List.cons_append, List.nil_append, Nat.add_zero, Nat.zero_add, Nat.reduceAdd, Nat.reduceMul, Nat.reduceSub, Bool.and_true, Bool.true_and, Bool.and_self, beq_dec, fApp, Int.toNat_natCast, Nat.sub_zero, vmI, e8]
        obtain ⟨fo3, ho3, up⟩ := hS8.up2.hd
        refine op_app1 ho3 (by (repeat' (first | exact Fr.refl | assumption | apply Fr.new' | apply Fr.mk' | apply Fr.put')) <;> (first | omega | (left; simp; done) | (right; simp only [next_put, next_new, next_mk]; omega) | (simp only [next_put, next_new, next_mk]; omega))) (x := (T, T')) rfl (by omega) ?_
        intro v' s9 fp' q1 q2 q3
        have hS9 := (up (oW v' 2 encR (L ++ [(T, T')])) q1 q2 q3).dn2
        simp (disch := omega) only [vm0, vm1, vm2, vm3, vm4, vm5, vm6, vm7, fPick, fBox, fBuild, fBsl, fLd, fLda, fSt, fNilc, fBin, fEq, fUn, fMkf, fFa, fFld, fFlda, fExt, evo, wr, wrC, frame, Bool.not_true, Bool.not_false, beq_self_eq_true, List.cons_append, List.nil_append, Nat.add_zero, Nat.zero_add, Nat.reduceAdd, Nat.reduceMul, Nat.reduceSub, Bool.and_true, Bool.true_and, Bool.and_self, beq_dec, fApp, Int.toNat_natCast, Nat.sub_zero, vmI]
        exact ⟨100 - (i + 1), by omega, i + 1, (i : Int) + 1, T', _, _, _, _, _, _, _, _, rfl, by omega, by omega, rfl, hJ2, by omega, by simp [hL], by
          intro r hr
          rcases List.mem_append.1 hr with hr | hr
          · exact hG r hr
          · simp at hr; subst hr; exact hG2, hS9⟩
    · have hT1 : T = N + 1 := by rcases hJ with ⟨j1, rfl | j2⟩ | ⟨j1, _⟩; (· simp at j1; omega); (· omega); (· omega)
      subst hT1
      have hK := hJ.end_ hc2.1 hN2.1
      have hi1 : 1 ≤ i := by rcases hJ with ⟨j1, rfl | j2⟩ | ⟨_, j1, _⟩; (· simp at j1; omega); (· omega); (· omega)
      have hnx : nextP o N c [] (N + 1) = ⟨[], N + 1, 0, 0, false⟩ := by unfold nextP; rw [cutC_nil, if_pos rfl, if_pos (by omega)]
      have hb01 : ∀ {Q : Ex → LF → St → Prop} {F : LF} {s : St}, blkQ 1 Q (.exit 0) F s = Q (.exit 0) F s := q_blky (by omega)
      have hcz : c ≠ 0 := by omega
      have hD0 : 0 ≤ (N + c - 1).tdiv c := by rw [Int.tdiv_eq_ediv_of_nonneg (by omega)]; exact Int.ediv_nonneg (by omega) (by omega)
      obtain ⟨D, hD⟩ : ∃ D, (N + c - 1).tdiv c = D := ⟨_, rfl⟩
      rw [hD] at hK hD0
      have hi100 : i < 100 := by have := hJ.le_ hc2.1; omega
      · simp (disch := omega) only [vm0, vm1, vm2, vm3, vm4, vm5, vm6, vm7, fPick, fBox, fBuild, fBsl, fLd, fLda, fSt, fNilc, fBin, fEq, fUn, fMkf, fFa, fFld, fFlda, fExt, evo, wr, wrC, frame, Bool.not_true, Bool.not_false, beq_self_eq_true, List.cons_append, List.nil_append, Nat.add_zero, Nat.zero_add, Nat.reduceAdd, Nat.reduceMul, Nat.reduceSub, Bool.and_true, Bool.true_and, Bool.and_self, beq_dec, fApp, Int.toNat_natCast, Nat.sub_zero, vmI, vc7_1, vc7_0, e7]
        refine call_ok rfl rfl (d_next (n + 2) s7 p q [] (N + 1) o _ N c hS trivial (by simp; omega) (by omega) (by simp) (by omega) (by omega) (by omega)) ?_
        rintro x s8 ⟨rfl, hS8⟩
        rw [hnx] at hS8 ⊢
        have e8 := (hrd.fr0 hS8.frm).lenV
        rw [hN] at e8
        obtain ⟨fo3, ho3, up⟩ := hS8.up2.hd
        have e9 := (show OwE s8 vo 2 encR L fo3 from ho3).rd.lenV
        simp (disch := omega) only [vm0, vm1, vm2, vm3, vm4, vm5, vm6, vm7, fPick, fBox, fBuild, fBsl, fLd, fLda, fSt, fNilc, fBin, fEq, fUn, fMkf, fFa, fFld, fFlda, fExt, evo, wr, wrC, frame, Bool.not_true, Bool.not_false, beq_self_eq_true, List.cons_append, List.nil_append, Nat.add_zero, Nat.zero_add, Nat.reduceAdd, Nat.reduceMul, Nat.reduceSub, Bool.and_true, Bool.true_and, Bool.and_self, beq_dec, fApp, Int.toNat_natCast, Nat.sub_zero, vmI, vc7_2, e8, e9, hb01, b_quo hcz, hD, hK, hL]
        refine call_ok rfl rfl (withinP (n + 4) s8 l0 i hl (by omega) (by omega)) ?_
        rintro x s8 ⟨rfl, rfl⟩
        have hw0 := Int.emod_nonneg l0 (show (i : Int) ≠ 0 by omega)
        have hw1 := Int.emod_lt_of_pos l0 (show (0 : Int) < i by omega)
        obtain ⟨w, hw⟩ : ∃ w : Nat, l0 % (i : Int) = (w : Int) := ⟨(l0 % (i : Int)).toNat, by omega⟩
        rw [hw] at hw0 hw1 ⊢
        obtain ⟨⟨a, e⟩, hx⟩ : ∃ r, L[w]? = some r := ⟨_, List.getElem?_eq_getElem (by omega)⟩
        have hGx := hG _ (List.mem_of_getElem? hx)
        obtain ⟨g0, g1, g2, g3⟩ := id hGx
        dsimp only at g0 g1 g2 g3
        have hrL := (show OwE s8 vo 2 encR L fo3 from ho3).rd
        have y1 := hrL.ia hx
        have y2 := hrL.at hx
        have y3 := hrL.blk' hx
        simp (disch := omega) only [vm0, vm1, vm2, vm3, vm4, vm5, vm6, vm7, fPick, fBox, fBuild, fBsl, fLd, fLda, fSt, fNilc, fBin, fEq, fUn, fMkf, fFa, fFld, fFlda, fExt, evo, wr, wrC, frame, Bool.not_true, Bool.not_false, beq_self_eq_true, List.cons_append, List.nil_append, Nat.add_zero, Nat.zero_add, Nat.reduceAdd, Nat.reduceMul, Nat.reduceSub, Bool.and_true, Bool.true_and, Bool.and_self, beq_dec, fApp, Int.toNat_natCast, Nat.sub_zero, vmI, y1, y2, encR]
        obtain ⟨s9, e9⟩ : ∃ s9, (s8.new (.cells [.int .i64 (.c 0), .int .i64 (.c 0)] .own)).put s8.next (some (.cells [num a, num e] .own)) = s9 := ⟨_, rfl⟩
        have f9 : Fr s8 s9 [] := by rw [← e9]; exact (by (repeat' (first | exact Fr.refl | assumption | apply Fr.new' | apply Fr.mk' | apply Fr.put')) <;> (first | omega | (left; simp; done) | (right; simp only [next_put, next_new, next_mk]; omega) | (simp only [next_put, next_new, next_mk]; omega)))
        have c9 : s9.heap.get s8.next = some (.cells [num a, num e] .own) := by rw [← e9]; exact get_put_eq rfl
        have n9 : s9.next = s8.next + 1 := by rw [← e9, next_put, next_new]
        rw [e9]
        clear up ho3
        have hS9 := (hS8.push (P := oC s8.next [num a, num e]) ⟨c9, by omega, rfl⟩ f9 (Nw.one (Nat.le_refl _))).dn3
        clear hS8 hS hS6
        simp (disch := omega) only [vm0, vm1, vm2, vm3, vm4, vm5, vm6, vm7, fPick, fBox, fBuild, fBsl, fLd, fLda, fSt, fNilc, fBin, fEq, fUn, fMkf, fFa, fFld, fFlda, fExt, evo, wr, wrC, frame, Bool.not_true, Bool.not_false, beq_self_eq_true, List.cons_append, List.nil_append, Nat.add_zero, Nat.zero_add, Nat.reduceAdd, Nat.reduceMul, Nat.reduceSub, Bool.and_true, Bool.true_and, Bool.and_self, beq_dec, fApp, Int.toNat_natCast, Nat.sub_zero, vmI, iar0, iar1, c9]
        refine call_ok rfl rfl (d_lost hs (n + 2) s9 p [] (N + 1) _ a e hS9 trivial (by simp; omega) (by simp)) ?_
        rintro x s10 hS10
        rw [add_one g0 g1 (by omega)] at hS10
        have e10 := (hrd.fr0 hS10.frm).lenV
        rw [hN] at e10
        simp (disch := omega) only [vm0, vm1, vm2, vm3, vm4, vm5, vm6, vm7, fPick, fBox, fBuild, fBsl, fLd, fLda, fSt, fNilc, fBin, fEq, fUn, fMkf, fFa, fFld, fFlda, fExt, evo, wr, wrC, frame, Bool.not_true, Bool.not_false, beq_self_eq_true, List.cons_append, List.nil_append, Nat.add_zero, Nat.zero_add, Nat.reduceAdd, Nat.reduceMul, Nat.reduceSub, Bool.and_true, Bool.true_and, Bool.and_self, beq_dec, fApp, Int.toNat_natCast, Nat.sub_zero, vmI, e10]
        refine call_ok rfl rfl (withinP (n + 4) s10 a0 (N + 2) ha (by omega) (by omega)) ?_
        rintro x s10 ⟨rfl, rfl⟩
        have hk0 := Int.emod_nonneg a0 (show N + 2 ≠ 0 by omega)
        have hk1 := Int.emod_lt_of_pos a0 (show 0 < N + 2 by omega)
        obtain ⟨k, hk⟩ : ∃ k, a0 % (N + 2) = k := ⟨_, rfl⟩
        rw [hk] at hk0 hk1 ⊢
        simp (disch := omega) only [vm0, vm1, vm2, vm3, vm4, vm5, vm6, vm7, fPick, fBox, fBuild, fBsl, fLd, fLda, fSt, fNilc, fBin, fEq, fUn, fMkf, fFa, fFld, fFlda, fExt, evo, wr, wrC, frame, Bool.not_true, Bool.not_false, beq_self_eq_true, List.cons_append, List.nil_append, Nat.add_zero, Nat.zero_add, Nat.reduceAdd, Nat.reduceMul, Nat.reduceSub, Bool.and_true, Bool.true_and, Bool.and_self, beq_dec, fApp, Int.toNat_natCast, Nat.sub_zero, vmI]
        obtain ⟨fo4, ho4, up4⟩ := hS10.swap.hd
        refine call_ok rfl rfl (o_ack (n + 3) s10 q o fo4 k ho4 (by omega)) ?_
        rintro x s11 ⟨rfl, t1, t2, t3⟩
        have hak : o.ackOk k = true := by simp [OB.ackOk, OB.places, hb1, hcl]; omega
        obtain ⟨o', ho'⟩ : ∃ o', o.ack k = o' := ⟨_, rfl⟩
        have ho'2 : o' = { o with acked := k } := by rw [← ho', OB.ack, hak, if_pos rfl, hac, show max 0 k = k by omega]
        rw [ho'] at t1
        rw [hak]
        have hS11 := (up4 (oO q o') t1 t2 (fun b hb => .inl hb)).swap
        have hb1' : (o'.b.length : Int) = N := by rw [ho'2]; exact hb1
        have hcl' : o'.closed = true := by rw [ho'2]; exact hcl
        have hac' : o'.acked = k := by rw [ho'2]
        have hop' : o'.open_ N = N + 1 := by unfold OB.open_ OB.places; rw [hb1', hcl', if_pos (by omega)]; simp
        clear up4 hS10 hS9 ho4
        have e11 := (hrd.fr0 hS11.frm).lenV
        rw [hN] at e11
        simp (disch := omega) only [vm0, vm1, vm2, vm3, vm4, vm5, vm6, vm7, fPick, fBox, fBuild, fBsl, fLd, fLda, fSt, fNilc, fBin, fEq, fUn, fMkf, fFa, fFld, fFlda, fExt, evo, wr, wrC, frame, Bool.not_true, Bool.not_false, beq_self_eq_true, List.cons_append, List.nil_append, Nat.add_zero, Nat.zero_add, Nat.reduceAdd, Nat.reduceMul, Nat.reduceSub, Bool.and_true, Bool.true_and, Bool.and_self, beq_dec, fApp, Int.toNat_natCast, Nat.sub_zero, vmI, e11]
        have w1 : WFr 0 [(a, e)] := ⟨by omega, by omega, by simp only [far]; omega, trivial⟩
        refine call_ok rfl rfl (d_next (n + 2) s11 p q _ (N + 1) o' _ N c hS11 w1 (by simp; omega) (by omega) (by simp) (by omega) (by omega) (by omega)) ?_
        rintro x s12 ⟨rfl, hS12⟩
        have hca := cut_ack g0 g1 (by omega) hk0 (by omega)
        by_cases hke : k < e
        · have hnx2 : nextP o' N c [(a, e)] (N + 1) = ⟨[], N + 1, max a k, e, true⟩ := by
            unfold nextP
            rw [hac', hca, if_pos hke, if_neg (by simp)]
            simp only [List.headD_cons, hb1', hcl', show clampC c = c by unfold clampC; omega, pm_lost hc2.1 hGx hke, cut_all (show 0 ≤ max a k by omega) (show max a k < e by omega) (by omega)]
          have hnx3 : nextP o' N c [] (N + 1) = ⟨[], N + 1, 0, 0, false⟩ := by unfold nextP; rw [cutC_nil, if_pos rfl, if_pos (by omega)]
          rw [hnx2] at hS12 ⊢
          have hC12 : s12.heap.get s8.next = some (.cells [num a, num e] .own) := by obtain ⟨_, ⟨hh, _⟩, _⟩ := hS12.up3.hd; exact hh
          simp (disch := omega) only [vm0, vm1, vm2, vm3, vm4, vm5, vm6, vm7, fPick, fBox, fBuild, fBsl, fLd, fLda, fSt, fNilc, fBin, fEq, fUn, fMkf, fFa, fFld, fFlda, fExt, evo, wr, wrC, frame, Bool.not_true, Bool.not_false, beq_self_eq_true, List.cons_append, List.nil_append, Nat.add_zero, Nat.zero_add, Nat.reduceAdd, Nat.reduceMul, Nat.reduceSub, Bool.and_true, Bool.true_and, Bool.and_self, beq_dec, fApp, Int.toNat_natCast, Nat.sub_zero, vmI, iar0, iar1, hC12]
          have e12 := (hrd.fr0 hS12.frm).lenV
          rw [hN] at e12
          simp (disch := omega) only [vm0, vm1, vm2, vm3, vm4, vm5, vm6, vm7, fPick, fBox, fBuild, fBsl, fLd, fLda, fSt, fNilc, fBin, fEq, fUn, fMkf, fFa, fFld, fFlda, fExt, evo, wr, wrC, frame, Bool.not_true, Bool.not_false, beq_self_eq_true, List.cons_append, List.nil_append, Nat.add_zero, Nat.zero_add, Nat.reduceAdd, Nat.reduceMul, Nat.reduceSub, Bool.and_true, Bool.true_and, Bool.and_self, beq_dec, fApp, Int.toNat_natCast, Nat.sub_zero, vmI, e12]
          refine call_ok rfl rfl (d_next (n + 2) s12 p q _ (N + 1) o' _ N c hS12 trivial (by simp; omega) (by omega) (by simp) (by omega) (by omega) (by omega)) ?_
          rintro x s13 ⟨rfl, hS13⟩
          rw [hnx3] at hS13 ⊢
          have hC13 : s13.heap.get s8.next = some (.cells [num a, num e] .own) := by obtain ⟨_, ⟨hh, _⟩, _⟩ := hS13.up3.hd; exact hh
          have e13 := (hrd.fr0 hS13.frm).lenV
          rw [hN] at e13
          simp (disch := omega) only [vm0, vm1, vm2, vm3, vm4, vm5, vm6, vm7, fPick, fBox, fBuild, fBsl, fLd, fLda, fSt, fNilc, fBin, fEq, fUn, fMkf, fFa, fFld, fFlda, fExt, evo, wr, wrC, frame, Bool.not_true, Bool.not_false, beq_self_eq_true, List.cons_append, List.nil_append, Nat.add_zero, Nat.zero_add, Nat.reduceAdd, Nat.reduceMul, Nat.reduceSub, Bool.and_true, Bool.true_and, Bool.and_self, beq_dec, fApp, Int.toNat_natCast, Nat.sub_zero, vmI, iar0, iar1, hC13]
          refine call_ok rfl rfl (d_sent (n + 4) s13 p _ (N + 1) _ hS13) ?_
          rintro x s13 ⟨rfl, rfl⟩
          simp (disch := omega) only [vm0, vm1, vm2, vm3, vm4, vm5, vm6, vm7, fPick, fBox, fBuild, fBsl, fLd, fLda, fSt, fNilc, fBin, fEq, fUn, fMkf, fFa, fFld, fFlda, fExt, evo, wr, wrC, frame, Bool.not_true, Bool.not_false, beq_self_eq_true, List.cons_append, List.nil_append, Nat.add_zero, Nat.zero_add, Nat.reduceAdd, Nat.reduceMul, Nat.reduceSub, Bool.and_true, Bool.true_and, Bool.and_self, beq_dec, fApp, Int.toNat_natCast, Nat.sub_zero, vmI, e13]
          refine call_ok rfl rfl (wakes14 (n + 1) s13 (by omega)) ?_
          rintro x s14 ⟨rfl, _⟩
          simp (disch := omega) only [vm0, vm1, vm2, vm3, vm4, vm5, vm6, vm7, fPick, fBox, fBuild, fBsl, fLd, fLda, fSt, fNilc, fBin, fEq, fUn, fMkf, fFa, fFld, fFlda, fExt, evo, wr, wrC, frame, Bool.not_true, Bool.not_false, beq_self_eq_true, List.cons_append, List.nil_append, Nat.add_zero, Nat.zero_add, Nat.reduceAdd, Nat.reduceMul, Nat.reduceSub, Bool.and_true, Bool.true_and, Bool.and_self, beq_dec, fApp, Int.toNat_natCast, Nat.sub_zero, vmI]
          exact rfl
        · have hnx2 : nextP o' N c [(a, e)] (N + 1) = ⟨[], N + 1, 0, 0, false⟩ := by
            unfold nextP
            rw [hac', hca, if_neg hke, if_pos rfl, if_pos (by omega)]
          rw [hnx2] at hS12 ⊢
          have hC12 : s12.heap.get s8.next = some (.cells [num a, num e] .own) := by obtain ⟨_, ⟨hh, _⟩, _⟩ := hS12.up3.hd; exact hh
          simp (disch := omega) only [vm0, vm1, vm2, vm3, vm4, vm5, vm6, vm7, fPick, fBox, fBuild, fBsl, fLd, fLda, fSt, fNilc, fBin, fEq, fUn, fMkf, fFa, fFld, fFlda, fExt, evo, wr, wrC, frame, Bool.not_true, Bool.not_false, beq_self_eq_true, List.cons_append, List.nil_append, Nat.add_zero, Nat.zero_add, Nat.reduceAdd, Nat.reduceMul, Nat.reduceSub, Bool.and_true, Bool.true_and, Bool.and_self, beq_dec, fApp, Int.toNat_natCast, Nat.sub_zero, vmI, iar0, iar1, hC12]
          refine call_ok rfl rfl (d_missing (n + 2) s12 p _ (N + 1) _ hS12 (by simp)) ?_
          rintro x s13 ⟨k3, hS13⟩
          have y6 := k3.lenV
          simp only [List.length_nil, Int.natCast_zero] at y6
          simp (disch := omega) only [vm0, vm1, vm2, vm3, vm4, vm5, vm6, vm7, fPick, fBox, fBuild, fBsl, fLd, fLda, fSt, fNilc, fBin, fEq, fUn, fMkf, fFa, fFld, fFlda, fExt, evo, wr, wrC, frame, Bool.not_true, Bool.not_false, beq_self_eq_true, List.cons_append, List.nil_append, Nat.add_zero, Nat.zero_add, Nat.reduceAdd, Nat.reduceMul, Nat.reduceSub, Bool.and_true, Bool.true_and, Bool.and_self, beq_dec, fApp, Int.toNat_natCast, Nat.sub_zero, vmI, y6]
          refine call_ok rfl rfl (wakes14 (n + 1) s13 (by omega)) ?_
          rintro x s14 ⟨rfl, _⟩
          simp (disch := omega) only [vm0, vm1, vm2, vm3, vm4, vm5, vm6, vm7, fPick, fBox, fBuild, fBsl, fLd, fLda, fSt, fNilc, fBin, fEq, fUn, fMkf, fFa, fFld, fFlda, fExt, evo, wr, wrC, frame, Bool.not_true, Bool.not_false, beq_self_eq_true, List.cons_append, List.nil_append, Nat.add_zero, Nat.zero_add, Nat.reduceAdd, Nat.reduceMul, Nat.reduceSub, Bool.and_true, Bool.true_and, Bool.and_self, beq_dec, fApp, Int.toNat_natCast, Nat.sub_zero, vmI]
          exact rfl
end
end Go.Proofs.Ytekhpohcjfjhfaa.ctr
namespace Go.Proofs.Ytekhpohcjfjhfaa.planCoversRun
open Go.Vm Go.RowKit Go.Proofs.Ytekhpohcjfjhfaa.ctr
set_option linter.unusedVariables false
set_option linter.unusedSimpArgs false
theorem mixed : Try.prog.follows .mixedOrders = true := by kernel_rfl
theorem walk (a0 : Option Addr) (len0 cap0 : Nat) (z0 : List Int) (a1 : Int) (a2 : Int) (a3 : Int) (w : World) (w1 : (Lit.int .i64 a1).wf = true) (w2 : (Lit.int .i64 a2).wf = true) (w3 : (Lit.int .i64 a3).wf = true) (hq0 : IsRow8 w a0 len0 cap0 z0) :
    Calls Try.prog 7 #[.slice a0 len0 cap0, .int .i64 a1, .int .i64 a2, .int .i64 a3] w fun e w' => e = .returned (.bool true) ∧ Below w.heap.size w w' := by
  obtain ⟨v0, E0, s0, g0, l0, f0, r0, d0, i0⟩ := (Arg0.start w).bytes hq0
  have h := covers srt_ok (bd := bd0) (h := srt) (fu := 5000) 40 s0 v0 a1 a2 a3 _ d0  (wf64 w1) (wf64 w2) (wf64 w3) (by omega)
  exact law_okE bd0_ok mixed (tabS_all rho0) (t7 srt) g0.hr g0.own (.cons r0 (.cons vr_int (.cons vr_int (.cons vr_int .nil)))) (yes_of' h fun _ _ h => h)
end Go.Proofs.Ytekhpohcjfjhfaa.planCoversRun
