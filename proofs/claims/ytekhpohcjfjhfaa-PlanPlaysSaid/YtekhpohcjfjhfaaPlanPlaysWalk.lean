/- PlanPlays, walked. -/
import Derived.Test.YtekhpohcjfjhfaaCtOu
import Derived.Deep.Slices
import Derived.WalkKit
import Derived.ProofKit
namespace Go.Proofs.Ytekhpohcjfjhfaa.ctr
open Go.Vm Go.RowKit Go.Ranges
set_option linter.unusedVariables false
set_option linter.unusedSimpArgs false
theorem cutC_nil {f t : Int} : cutC f t [] = [] := by unfold cutC cutR; split <;> rfl
theorem next_new_ {o : OB} {limit chunk t : Int} (h : t < o.open_ limit) : nextP o limit chunk [] t = ⟨[], pieceM o.b.length o.closed t (o.open_ limit) (clampC chunk), t, pieceM o.b.length o.closed t (o.open_ limit) (clampC chunk), true⟩ := by
  unfold nextP
  rw [cutC_nil, if_pos rfl, if_neg (by omega)]
theorem addC_eq {f t : Int} {l : List R} (h0 : 0 ≤ f) (h1 : f < t) (h2 : t ≤ far) : addC f t l = Ranges.addR f t l := by
  unfold addC
  rw [show max 0 f = f by omega, show min t far = t by omega, if_pos h1]
theorem cutC_eq {f t : Int} {l : List R} (h0 : 0 ≤ f) (h1 : f < t) (h2 : t ≤ far) : cutC f t l = cutR f t l := by
  unfold cutC
  rw [show max 0 f = f by omega, show min t far = t by omega, if_pos h1]
theorem cutC_no {f t : Int} {l : List R} (h : t ≤ f ∨ t ≤ 0) : cutC f t l = l := by
  unfold cutC
  rw [if_neg (by omega)]
theorem add_two {e c : Int} (he : 0 ≤ e) (hc : 1 ≤ c) (hm : e + 2 * c ≤ 72) : addC (e + c) (e + 2 * c) [] = [(e + c, e + 2 * c)] ∧ addC e (e + c) [(e + c, e + 2 * c)] = [(e, e + 2 * c)] := by
  have hf : far = 1099511627776 := rfl
  rw [addC_eq (by omega) (by omega) (by omega), addC_eq (by omega) (by omega) (by omega)]
  have h5 : min e (e + c) = e := by omega
  have h6 : max (e + c) (e + 2 * c) = e + 2 * c := by omega
  refine ⟨rfl, ?_⟩
  unfold Ranges.addR
  dsimp only
  rw [if_neg (by omega), if_neg (by omega), h5, h6]; rfl
theorem next_two {o : OB} {e c T N : Int} (he : 0 ≤ e) (hc : 1 ≤ c) (hc6 : c ≤ 6) (hm : e + 2 * c ≤ 72) (h0 : o.acked = 0) (h1 : o.closed = false) : nextP o N 60 [(e, e + 2 * c)] T = ⟨[], T, e, e + 2 * c, true⟩ := by
  have k0 : cutC 0 0 [(e, e + 2 * c)] = [(e, e + 2 * c)] := cutC_no (by omega)
  have k1 : clampC 60 = 60 := rfl
  have k2 : pieceM o.b.length false e (e + 2 * c) 60 = e + 2 * c := by simp only [pieceM, Bool.false_eq_true, false_and, if_false]; omega
  have hf : far = 1099511627776 := rfl
  have k3 : cutC e (e + 2 * c) [(e, e + 2 * c)] = [] := by
    rw [cutC_eq (by omega) (by omega) (by omega)]
    unfold cutR cut1
    simp
  unfold nextP
  rw [h0, h1, k0, if_neg (by simp)]
  simp only [List.headD_cons, k1, k2, k3]
section
variable {bd : Bd} {h : VF} {fu : Nat}
theorem d_next (n : Nat) {s0 : St} (s : St) (p q : Nat) (l : List R) (t : Int) (o : OB) (Ps : List Obj) (limit chunk : Int) (hS : Sep s0 s (oP p l t :: oO q o :: Ps)) (hw : WFr 0 l) (hlen : 2 * l.length < fu) (hfu : 10 < fu) (hl : l.length < 40000) (hb : o.b.length < 1000000) (hL : -1000000000 ≤ limit ∧ limit ≤ 1000000000) (ht : 0 ≤ t ∧ t ≤ 1000000000) :
    OutOk (callF bd (tab h).get fu (n + 3) 36 [.ptr p 0, .ptr q 0, num limit, num chunk] s) (fun x s' => Is x (.tup [num (nextP o limit chunk l t).a, num (nextP o limit chunk l t).b, .bool (nextP o limit chunk l t).ok]) ∧ Sep s0 s' (oP p (nextP o limit chunk l t).l (nextP o limit chunk l t).t :: oO q o :: Ps)) := by
  obtain ⟨f, g, k1, k2, k3, up⟩ := hS.hd2
  exact (p_next n s p q l t o f g limit chunk k1 k2 k3 hw hlen hfu hl hb hL ht).mono fun x s' ⟨f', r1, r2, r3, r4⟩ => ⟨r1, up (oP _ _ _) r2 r3 r4⟩
theorem d_lost (hs : SortOk h) (n : Nat) {s0 : St} (s : St) (p : Nat) (l : List R) (t : Int) (Ps : List Obj) (a b : Int) (hS : Sep s0 s (oP p l t :: Ps)) (hw : WFr 0 l) (hlen : l.length < fu) (hl : l.length < 100000) : OutOk (callF bd (tab h).get fu (n + 3) 39 [.ptr p 0, num a, num b] s) (fun x s' => Sep s0 s' (oP p (addC a b l) t :: Ps)) := by
  obtain ⟨f, k1, up⟩ := hS.hd
  exact (p_lost hs n s p l t f a b k1 hw hlen hl).mono fun x s' ⟨f', r2, r3, r4⟩ => up (oP _ _ _) r2 r3 r4
theorem d_missing (n : Nat) {s0 : St} (s : St) (p : Nat) (l : List R) (t : Int) (Ps : List Obj) (hS : Sep s0 s (oP p l t :: Ps)) (hl : l.length < 1000000) : OutOk (callF bd (tab h).get fu (n + 3) 40 [.ptr p 0] s) (fun x s' => RdE s' x 2 encR l ∧ Sep s0 s' (oP p l t :: Ps)) := by
  obtain ⟨f, k1, up⟩ := hS.hd
  exact (p_missing n s p l t f k1 hl).mono fun x s' ⟨f', r2, r3, r4⟩ => ⟨r2.rd, hS.fr r3⟩
theorem d_sent (n : Nat) {s0 : St} (s : St) (p : Nat) (l : List R) (t : Int) (Ps : List Obj) (hS : Sep s0 s (oP p l t :: Ps)) : OutOk (callF bd (tab h).get fu (n + 1) 37 [.ptr p 0] s) (fun x s' => Is x (num t) ∧ Is s' s) := by
  obtain ⟨f, k1, up⟩ := hS.hd
  exact p_sent n s p l t f k1
theorem again (hs : SortOk h) (n : Nat) (s : St) (v : AV) (k0 f0 n0 : Int) (b : List Int) (hv : RdE s v 1 encB b) (hk : In64 k0) (hf : In64 f0) (hn : In64 n0) (hfu : 1000 < fu) :
    OutOk (callF bd (tab h).get fu (n + 6) 6 [v, num k0, num f0, num n0] s) (fun x s' => Is x (.bool true)) := by
  refine call_code (t6 h) rfl ?_
  simp (disch := omega) only [vm0, vm1, vm2, vm3, vm4, vm5, vm6, vm7, fPick, fBox, fBuild, fBsl, fLd, fLda, fSt, fNilc, fBin, fEq, fUn, fMkf, fFa, fFld, fFlda, fExt, evo, wr, wrC, frame, Bool.not_true, Bool.not_false, beq_self_eq_true, List.cons_append, List.nil_append, Nat.add_zero, Nat.zero_add, Nat.reduceAdd, Nat.reduceMul, Nat.reduceSub, Bool.and_true, Bool.true_and, Bool.and_self, beq_dec, fApp, Int.toNat_natCast, Nat.sub_zero, vmI, vc6]
  refine call_ok rfl rfl (cutB (n + 3) s v b 60 (by omega) (by omega) hv) ?_
  rintro x s1 ⟨f1, q1, q2, q3⟩
  obtain ⟨b1, hb1⟩ : ∃ b1, b.take 60 = b1 := ⟨_, rfl⟩
  have hbl : b1.length ≤ 60 := by rw [← hb1]; exact List.length_take_le _ _
  have hq1 : OwE s1 x 1 encB b1 f1 := by rw [← hb1]; exact q1
  simp (disch := omega) only [vm0, vm1, vm2, vm3, vm4, vm5, vm6, vm7, fPick, fBox, fBuild, fBsl, fLd, fLda, fSt, fNilc, fBin, fEq, fUn, fMkf, fFa, fFld, fFlda, fExt, evo, wr, wrC, frame, Bool.not_true, Bool.not_false, beq_self_eq_true, List.cons_append, List.nil_append, Nat.add_zero, Nat.zero_add, Nat.reduceAdd, Nat.reduceMul, Nat.reduceSub, Bool.and_true, Bool.true_and, Bool.and_self, beq_dec, fApp, Int.toNat_natCast, Nat.sub_zero, vmI, fApz, rep_flat]
  refine op_app hq1 (by (repeat' (first | exact Fr.refl | assumption | apply Fr.new' | apply Fr.mk' | apply Fr.put')) <;> (first | omega | (left; simp; done) | (right; simp only [next_put, next_new, next_mk]; omega) | (simp only [next_put, next_new, next_mk]; omega))) (new := List.replicate 12 (0 : Int)) rfl (by simp) (by simp; omega) ?_
  intro v2 s2 f2 q4 q5 q6
  obtain ⟨B, hB⟩ : ∃ B, b1 ++ List.replicate 12 (0 : Int) = B := ⟨_, rfl⟩
  obtain ⟨N, hN⟩ : ∃ N : Int, (B.length : Int) = N := ⟨_, rfl⟩
  have hN2 : 12 ≤ N ∧ N ≤ 72 := by rw [← hN, ← hB]; simp; omega
  rw [hB] at q4
  have hrd := q4.rd
  clear hB hb1 q1
  have hS0 : Sep s2 s2 [] := .nil
  simp (disch := omega) only [vm0, vm1, vm2, vm3, vm4, vm5, vm6, vm7, fPick, fBox, fBuild, fBsl, fLd, fLda, fSt, fNilc, fBin, fEq, fUn, fMkf, fFa, fFld, fFlda, fExt, evo, wr, wrC, frame, Bool.not_true, Bool.not_false, beq_self_eq_true, List.cons_append, List.nil_append, Nat.add_zero, Nat.zero_add, Nat.reduceAdd, Nat.reduceMul, Nat.reduceSub, Bool.and_true, Bool.true_and, Bool.and_self, beq_dec, fApp, Int.toNat_natCast, Nat.sub_zero, vmI]
  refine call_ok rfl rfl (withinP (n + 4) s2 k0 6 hk (by omega) (by omega)) ?_
  rintro x s2 ⟨rfl, rfl⟩
  obtain ⟨c, hc⟩ : ∃ c, 1 + k0 % 6 = c := ⟨_, rfl⟩
  have hc2 : 1 ≤ c ∧ c ≤ 6 := by omega
  simp (disch := omega) only [vm0, vm1, vm2, vm3, vm4, vm5, vm6, vm7, fPick, fBox, fBuild, fBsl, fLd, fLda, fSt, fNilc, fBin, fEq, fUn, fMkf, fFa, fFld, fFlda, fExt, evo, wr, wrC, frame, Bool.not_true, Bool.not_false, beq_self_eq_true, List.cons_append, List.nil_append, Nat.add_zero, Nat.zero_add, Nat.reduceAdd, Nat.reduceMul, Nat.reduceSub, Bool.and_true, Bool.true_and, Bool.and_self, beq_dec, fApp, Int.toNat_natCast, Nat.sub_zero, vmI, hc]
  refine call_ok rfl rfl (p_new (n + 3) s2) ?_
  rintro x s3 ⟨p, fp, rfl, r1, r2, r3⟩
  have hS1 := hS0.push (P := oP p [] 0) r1 r2 r3
  simp (disch := omega) only [vm0, vm1, vm2, vm3, vm4, vm5, vm6, vm7, fPick, fBox, fBuild, fBsl, fLd, fLda, fSt, fNilc, fBin, fEq, fUn, fMkf, fFa, fFld, fFlda, fExt, evo, wr, wrC, frame, Bool.not_true, Bool.not_false, beq_self_eq_true, List.cons_append, List.nil_append, Nat.add_zero, Nat.zero_add, Nat.reduceAdd, Nat.reduceMul, Nat.reduceSub, Bool.and_true, Bool.true_and, Bool.and_self, beq_dec, fApp, Int.toNat_natCast, Nat.sub_zero, vmI]
  refine call_ok rfl rfl (o_new (n + 4) s3 100) ?_
  rintro x s4 ⟨q, rfl, r4, r5, r6⟩
  have hS2 := hS1.push (P := oO q _) r6 r5 (Nw.one r4)
  have hrd4 := (hrd.fr0 r2).fr0 r5
  simp (disch := omega) only [vm0, vm1, vm2, vm3, vm4, vm5, vm6, vm7, fPick, fBox, fBuild, fBsl, fLd, fLda, fSt, fNilc, fBin, fEq, fUn, fMkf, fFa, fFld, fFlda, fExt, evo, wr, wrC, frame, Bool.not_true, Bool.not_false, beq_self_eq_true, List.cons_append, List.nil_append, Nat.add_zero, Nat.zero_add, Nat.reduceAdd, Nat.reduceMul, Nat.reduceSub, Bool.and_true, Bool.true_and, Bool.and_self, beq_dec, fApp, Int.toNat_natCast, Nat.sub_zero, vmI]
  obtain ⟨fo, k1, up⟩ := hS2.hd
  refine call_ok rfl rfl (o_write (n + 2) s4 q _ fo _ B k1 hrd4 (by simp) (by omega) (by decide) (by decide) (by omega)) ?_
  rintro x s5 ⟨f5, rfl, r7, r8, r9⟩
  have hroom : (⟨[], min (max 100 1) 400, 0, false⟩ : OB).room (B.length : Int) = N := by
    rw [hN]; simp [OB.room]; omega
  have hW : (⟨[], min (max 100 1) 400, 0, false⟩ : OB).write B = ⟨B, 100, 0, false⟩ := by
    rw [OB.write, hroom, List.take_of_length_le (by omega)]; rfl
  rw [hW] at r7
  rw [hroom]
  have hS5 := (up (oO q ⟨B, 100, 0, false⟩) r7 r8 r9).swap
  have hrd5 : RdE s5 v2 1 encB B := hrd.fr0 hS5.frm
  have e5 := hrd5.lenV
  rw [hN] at e5
  have hcz : c ≠ 0 := by omega
  obtain ⟨m, hm⟩ : ∃ m, N / c = m := ⟨_, rfl⟩
  have hqm : N.tdiv c = m := by rw [Int.tdiv_eq_ediv_of_nonneg (by omega), hm]
  have hm1 : m * c ≤ N := by rw [← hm]; exact Int.ediv_mul_le N hcz
  have hm2 : 2 ≤ m := by rw [← hm]; exact (Int.le_ediv_iff_mul_le (by omega)).2 (by omega)
  have hm3 : m ≤ 72 := by
    have : m * 1 ≤ m * c := Int.mul_le_mul_of_nonneg_left hc2.1 (by omega)
    omega
  have hS5' := hS5
  simp (disch := omega) only [vm0, vm1, vm2, vm3, vm4, vm5, vm6, vm7, fPick, fBox, fBuild, fBsl, fLd, fLda, fSt, fNilc, fBin, fEq, fUn, fMkf, fFa, fFld, fFlda, fExt, evo, wr, wrC, frame, Bool.not_true, Bool.not_false, beq_self_eq_true, List.cons_append, List.nil_append, Nat.add_zero, Nat.zero_add, Nat.reduceAdd, Nat.reduceMul, Nat.reduceSub, Bool.and_true, Bool.true_and, Bool.and_self, beq_dec, fApp, Int.toNat_natCast, Nat.sub_zero, vmI, e5, b_quo hcz, hqm]
  refine call_ok rfl rfl (withinP (n + 4) s5 n0 (m - 1) hn (by omega) (by omega)) ?_
  rintro x s5 ⟨rfl, rfl⟩
  have hnm := Int.emod_nonneg n0 (show m - 1 ≠ 0 by omega)
  have hnm2 := Int.emod_lt_of_pos n0 (show 0 < m - 1 by omega)
  obtain ⟨y, hy⟩ : ∃ y, 2 + n0 % (m - 1) = y := ⟨_, rfl⟩
  have hy2 : 2 ≤ y ∧ y ≤ m := by omega
  have hyc : y * c ≤ N := Int.le_trans (Int.mul_le_mul_of_nonneg_right hy2.2 (by omega)) hm1
  simp (disch := omega) only [vm0, vm1, vm2, vm3, vm4, vm5, vm6, vm7, fPick, fBox, fBuild, fBsl, fLd, fLda, fSt, fNilc, fBin, fEq, fUn, fMkf, fFa, fFld, fFlda, fExt, evo, wr, wrC, frame, Bool.not_true, Bool.not_false, beq_self_eq_true, List.cons_append, List.nil_append, Nat.add_zero, Nat.zero_add, Nat.reduceAdd, Nat.reduceMul, Nat.reduceSub, Bool.and_true, Bool.true_and, Bool.and_self, beq_dec, fApp, Int.toNat_natCast, Nat.sub_zero, vmI, hy]
  obtain ⟨o, ho⟩ : ∃ o : OB, (⟨B, 100, 0, false⟩ : OB) = o := ⟨_, rfl⟩
  have ho1 : (o.b.length : Int) = N := by rw [← ho]; exact hN
  have ho2 : o.closed = false := by rw [← ho]
  have ho3 : o.acked = 0 := by rw [← ho]
  have ho4 : o.open_ N = N := by unfold OB.open_ OB.places; rw [ho1, ho2, if_pos (by omega)]; simp
  rw [ho] at hS5
  clear hS5' hS2 hS1 k1 up
  refine x_loop (fun m' F s' => ∃ i : Nat, ∃ z x12 x13 x14 x15 x16, m' = y.toNat - i ∧ (i : Int) ≤ y ∧ z = (i : Int) ∧ F = [some v2, some (num c), some (num f0), some (num y), some (.ptr p 0), some (.ptr q 0), some (num z), none, none, none, none, some (.bool false), x12, x13, x14, x15, x16, none, none, none, none, none, none, none, some (.bool false)] ∧ Sep s2 s' [oP p [] (z * c), oO q o]) y.toNat (by omega) ?_ ?_
  · exact ⟨0, _, _, _, _, _, _, by omega, by omega, rfl, rfl, by rw [Int.natCast_zero, Int.zero_mul]; exact hS5⟩
  · rintro m' F s6 ⟨i, _, x12, x13, x14, x15, x16, rfl, hi, rfl, rfl, hS⟩ hm'
    obtain ⟨z, hz⟩ : ∃ z : Int, (i : Int) = z := ⟨_, rfl⟩
    have e6 := (hrd.fr0 hS.frm).lenV
    rw [hN] at e6
    rw [hz] at hi hS ⊢
    have hzc : (z + 1) * c = z * c + c := by rw [Int.add_mul, Int.one_mul]
    by_cases hlt : z < y
    · have hzy : (z + 1) * c ≤ y * c := Int.mul_le_mul_of_nonneg_right (by omega) (by omega)
      have hz0 : 0 ≤ z * c := Int.mul_nonneg (by omega) (by omega)
      have hmin : min (z * c + c) N = z * c + c := by omega
      have hpm : pieceM N false (z * c) N c = z * c + c := by simp only [pieceM, Bool.false_eq_true, false_and, if_false]; omega
      have hnx : nextP o N c [] (z * c) = ⟨[], z * c + c, z * c, z * c + c, true⟩ := by
        rw [next_new_ (by rw [ho4]; omega), ho1, ho2, ho4, show clampC c = c by unfold clampC; omega, hpm]
      simp (disch := omega) only [vm0, vm1, vm2, vm3, vm4, vm5, vm6, vm7, fPick, fBox, fBuild, fBsl, fLd, fLda, fSt, fNilc, fBin, fEq, fUn, fMkf, fFa, fFld, fFlda, fExt, evo, wr, wrC, frame, Bool.not_true, Bool.not_false, beq_self_eq_true, List.cons_append, List.nil_append, Nat.add_zero, Nat.zero_add, Nat.reduceAdd, Nat.reduceMul, Nat.reduceSub, Bool.and_true, Bool.true_and, Bool.and_self, beq_dec, fApp, Int.toNat_natCast, Nat.sub_zero, vmI, vc6_1, vc6_0, e6]
      refine call_ok rfl rfl (d_next (n + 2) s6 p q [] (z * c) o [] N c hS trivial (by simp; omega) (by omega) (by simp) (by omega) (by omega) (by omega)) ?_
      rintro x s7 ⟨rfl, hS7⟩
      rw [hnx] at hS7 ⊢
      have e7 := (hrd.fr0 hS7.frm).lenV
      rw [hN] at e7
      simp (disch := omega) only [vm0, vm1, vm2, vm3, vm4, vm5, vm6, vm7, fPick, fBox, fBuild, fBsl, fLd, fLda, fSt, fNilc, fBin, fEq, fUn, fMkf, fFa, fFld, fFlda, fExt, evo, wr, wrC, frame, Bool.not_true, Bool.not_false, beq_self_eq_true, List.cons_append, List.nil_append, Nat.add_zero, Nat.zero_add, Nat.reduceAdd, Nat.reduceMul, Nat.reduceSub, Bool.and_true, Bool.true_and, Bool.and_self, beq_dec, fApp, Int.toNat_natCast, Nat.sub_zero, vmI, e7, hzc, hmin]
      exact ⟨y.toNat - (i + 1), by omega, i + 1, z + 1, _, _, _, _, _, rfl, by omega, by omega, rfl, by rw [hzc]; exact hS7⟩
    · obtain rfl : z = y := by omega
      simp (disch := omega) only [vm0, vm1, vm2, vm3, vm4, vm5, vm6, vm7, fPick, fBox, fBuild, fBsl, fLd, fLda, fSt, fNilc, fBin, fEq, fUn, fMkf, fFa, fFld, fFlda, fExt, evo, wr, wrC, frame, Bool.not_true, Bool.not_false, beq_self_eq_true, List.cons_append, List.nil_append, Nat.add_zero, Nat.zero_add, Nat.reduceAdd, Nat.reduceMul, Nat.reduceSub, Bool.and_true, Bool.true_and, Bool.and_self, beq_dec, fApp, Int.toNat_natCast, Nat.sub_zero, vmI, vc6_1, vc6_5]
      refine call_ok rfl rfl (d_sent (n + 4) s6 p [] (z * c) [oO q o] hS) ?_
      rintro x s6 ⟨rfl, rfl⟩
      simp (disch := omega) only [vm0, vm1, vm2, vm3, vm4, vm5, vm6, vm7, fPick, fBox, fBuild, fBsl, fLd, fLda, fSt, fNilc, fBin, fEq, fUn, fMkf, fFa, fFld, fFlda, fExt, evo, wr, wrC, frame, Bool.not_true, Bool.not_false, beq_self_eq_true, List.cons_append, List.nil_append, Nat.add_zero, Nat.zero_add, Nat.reduceAdd, Nat.reduceMul, Nat.reduceSub, Bool.and_true, Bool.true_and, Bool.and_self, beq_dec, fApp, Int.toNat_natCast, Nat.sub_zero, vmI]
      refine call_ok rfl rfl (withinP (n + 4) s6 f0 (z - 1) hf (by omega) (by omega)) ?_
      rintro x s6 ⟨rfl, rfl⟩
      have hfn := Int.emod_nonneg f0 (show z - 1 ≠ 0 by omega)
      have hfn2 := Int.emod_lt_of_pos f0 (show 0 < z - 1 by omega)
      obtain ⟨g, hg⟩ : ∃ g, f0 % (z - 1) = g := ⟨_, rfl⟩
      rw [hg] at hfn hfn2 ⊢
      simp (disch := omega) only [vm0, vm1, vm2, vm3, vm4, vm5, vm6, vm7, fPick, fBox, fBuild, fBsl, fLd, fLda, fSt, fNilc, fBin, fEq, fUn, fMkf, fFa, fFld, fFlda, fExt, evo, wr, wrC, frame, Bool.not_true, Bool.not_false, beq_self_eq_true, List.cons_append, List.nil_append, Nat.add_zero, Nat.zero_add, Nat.reduceAdd, Nat.reduceMul, Nat.reduceSub, Bool.and_true, Bool.true_and, Bool.and_self, beq_dec, fApp, Int.toNat_natCast, Nat.sub_zero, vmI]
      refine x_loop (fun m' F s' => ∃ i : Nat, ∃ w x7 x17 x18 x19 x20 x21 x22, m' = 2 - i ∧ i ≤ 2 ∧ w = (i : Int) ∧ F = [some v2, some (num c), some (num g), some (num z), some (.ptr p 0), some (.ptr q 0), some (num z), x7, some (num (z * c)), some (num w), none, some (.bool false), some (.bool false), x13, x14, x15, x16, x17, x18, x19, x20, x21, x22, none, some (.bool false)] ∧ Sep s2 s' [oP p [] (z * c), oO q o]) 2 (by omega) ?_ ?_
      · exact ⟨0, _, _, _, _, _, _, _, _, by omega, by omega, rfl, rfl, hS⟩
      · rintro m' F s7 ⟨j, _, x7, x17, x18, x19, x20, x21, x22, rfl, hj, rfl, rfl, hS⟩ hm'
        have e7 := (hrd.fr0 hS.frm).lenV
        rw [hN] at e7
        have hg1 : (g + 1) * c = g * c + c := by rw [Int.add_mul, Int.one_mul]
        have hg2 : (g + 2) * c = g * c + 2 * c := by rw [Int.add_mul]
        have hg0 : 0 ≤ g * c := Int.mul_nonneg (by omega) (by omega)
        have hgz : (g + 2) * c ≤ z * c := Int.mul_le_mul_of_nonneg_right (by omega) (by omega)
        obtain ⟨e, he⟩ : ∃ e, g * c = e := ⟨_, rfl⟩
        rw [he] at hg1 hg2 hg0
        rw [hg2] at hgz
        have hmin2 : min (e + 2 * c) N = e + 2 * c := by omega
        obtain ⟨A1, A2⟩ := add_two (c := c) hg0 hc2.1 (by omega)
        have A3 := next_two (T := z * c) (N := N) hg0 hc2.1 hc2.2 (by omega) ho3 ho2
        have w0 : WFr 0 [(e + c, e + 2 * c)] := ⟨by omega, by omega, by simp only [far]; omega, trivial⟩
        have w1 : WFr 0 [(e, e + 2 * c)] := ⟨by omega, by omega, by simp only [far]; omega, trivial⟩
        by_cases hlt : j < 2
        · simp (disch := omega) only [vm0, vm1, vm2, vm3, vm4, vm5, vm6, vm7, fPick, fBox, fBuild, fBsl, fLd, fLda, fSt, fNilc, fBin, fEq, fUn, fMkf, fFa, fFld, fFlda, fExt, evo, wr, wrC, frame, Bool.not_true, Bool.not_false, beq_self_eq_true, List.cons_append, List.nil_append, Nat.add_zero, Nat.zero_add, Nat.reduceAdd, Nat.reduceMul, Nat.reduceSub, Bool.and_true, Bool.true_and, Bool.and_self, beq_dec, fApp, Int.toNat_natCast, Nat.sub_zero, vmI, vc6_3, vc6_2, e7, hg1, hg2, he, hmin2]
          refine call_ok rfl rfl (d_lost hs (n + 2) s7 p [] (z * c) [oO q o] (e + c) (e + 2 * c) hS trivial (by simp; omega) (by simp)) ?_
          rintro x s8 hS8
          rw [A1] at hS8
          simp (disch := omega) only [vm0, vm1, vm2, vm3, vm4, vm5, vm6, vm7, fPick, fBox, fBuild, fBsl, fLd, fLda, fSt, fNilc, fBin, fEq, fUn, fMkf, fFa, fFld, fFlda, fExt, evo, wr, wrC, frame, Bool.not_true, Bool.not_false, beq_self_eq_true, List.cons_append, List.nil_append, Nat.add_zero, Nat.zero_add, Nat.reduceAdd, Nat.reduceMul, Nat.reduceSub, Bool.and_true, Bool.true_and, Bool.and_self, beq_dec, fApp, Int.toNat_natCast, Nat.sub_zero, vmI, he, hg1]
          refine call_ok rfl rfl (d_lost hs (n + 2) s8 p _ (z * c) [oO q o] e (e + c) hS8 w0 (by simp; omega) (by simp)) ?_
          rintro x s9 hS9
          rw [A2] at hS9
          simp (disch := omega) only [vm0, vm1, vm2, vm3, vm4, vm5, vm6, vm7, fPick, fBox, fBuild, fBsl, fLd, fLda, fSt, fNilc, fBin, fEq, fUn, fMkf, fFa, fFld, fFlda, fExt, evo, wr, wrC, frame, Bool.not_true, Bool.not_false, beq_self_eq_true, List.cons_append, List.nil_append, Nat.add_zero, Nat.zero_add, Nat.reduceAdd, Nat.reduceMul, Nat.reduceSub, Bool.and_true, Bool.true_and, Bool.and_self, beq_dec, fApp, Int.toNat_natCast, Nat.sub_zero, vmI]
          refine call_ok rfl rfl (d_missing (n + 2) s9 p _ (z * c) [oO q o] hS9 (by simp)) ?_
          rintro x s10 ⟨k1, hS10⟩
          have hx : [(e, e + 2 * c)][0]? = some (e, e + 2 * c) := rfl
          have y1 := k1.ia hx
          have y3 := RdE.f0 k1 hx
          have y4 := RdE.f1 k1 hx
          have yb := k1.blk' hx
          have y5 := k1.lenV
          have e10 := (hrd.fr0 hS10.frm).lenV
          rw [hN] at e10
          simp only [Int.natCast_zero, Nat.zero_mul, Nat.add_zero, List.length_cons, List.length_nil, Nat.zero_add, Int.natCast_one] at y1 y3 y4 y5
          simp (disch := omega) only [vm0, vm1, vm2, vm3, vm4, vm5, vm6, vm7, fPick, fBox, fBuild, fBsl, fLd, fLda, fSt, fNilc, fBin, fEq, fUn, fMkf, fFa, fFld, fFlda, fExt, evo, wr, wrC, frame, Bool.not_true, Bool.not_false, beq_self_eq_true, List.cons_append, List.nil_append, Nat.add_zero, Nat.zero_add, Nat.reduceAdd, Nat.reduceMul, Nat.reduceSub, Bool.and_true, Bool.true_and, Bool.and_self, beq_dec, fApp, Int.toNat_natCast, Nat.sub_zero, vmI, y1, y3, y4, y5, e10, he, hg2, hmin2]
          have hzc0 : 0 ≤ z * c := Int.mul_nonneg (by omega) (by omega)
          refine call_ok rfl rfl (d_next (n + 2) s10 p q _ (z * c) o [] N 60 hS10 w1 (by simp; omega) (by omega) (by simp) (by omega) (by omega) (by omega)) ?_
          rintro x s11 ⟨rfl, hS11⟩
          rw [A3] at hS11 ⊢
          have e11 := (hrd.fr0 hS11.frm).lenV
          rw [hN] at e11
          simp (disch := omega) only [vm0, vm1, vm2, vm3, vm4, vm5, vm6, vm7, fPick, fBox, fBuild, fBsl, fLd, fLda, fSt, fNilc, fBin, fEq, fUn, fMkf, fFa, fFld, fFlda, fExt, evo, wr, wrC, frame, Bool.not_true, Bool.not_false, beq_self_eq_true, List.cons_append, List.nil_append, Nat.add_zero, Nat.zero_add, Nat.reduceAdd, Nat.reduceMul, Nat.reduceSub, Bool.and_true, Bool.true_and, Bool.and_self, beq_dec, fApp, Int.toNat_natCast, Nat.sub_zero, vmI, he, hg2, e11, hmin2]
          refine call_ok rfl rfl (d_missing (n + 2) s11 p _ (z * c) [oO q o] hS11 (by simp)) ?_
          rintro x s12 ⟨k2, hS12⟩
          have y6 := k2.lenV
          simp only [List.length_nil, Int.natCast_zero] at y6
          simp (disch := omega) only [vm0, vm1, vm2, vm3, vm4, vm5, vm6, vm7, fPick, fBox, fBuild, fBsl, fLd, fLda, fSt, fNilc, fBin, fEq, fUn, fMkf, fFa, fFld, fFlda, fExt, evo, wr, wrC, frame, Bool.not_true, Bool.not_false, beq_self_eq_true, List.cons_append, List.nil_append, Nat.add_zero, Nat.zero_add, Nat.reduceAdd, Nat.reduceMul, Nat.reduceSub, Bool.and_true, Bool.true_and, Bool.and_self, beq_dec, fApp, Int.toNat_natCast, Nat.sub_zero, vmI, y6]
          refine call_ok rfl rfl (d_sent (n + 4) s12 p _ (z * c) [oO q o] hS12) ?_
          rintro x s12 ⟨rfl, rfl⟩
          simp (disch := omega) only [vm0, vm1, vm2, vm3, vm4, vm5, vm6, vm7, fPick, fBox, fBuild, fBsl, fLd, fLda, fSt, fNilc, fBin, fEq, fUn, fMkf, fFa, fFld, fFlda, fExt, evo, wr, wrC, frame, Bool.not_true, Bool.not_false, beq_self_eq_true, List.cons_append, List.nil_append, Nat.add_zero, Nat.zero_add, Nat.reduceAdd, Nat.reduceMul, Nat.reduceSub, Bool.and_true, Bool.true_and, Bool.and_self, beq_dec, fApp, Int.toNat_natCast, Nat.sub_zero, vmI]
          exact ⟨2 - (j + 1), by omega, j + 1, (j : Int) + 1, _, _, _, _, _, _, _, rfl, by omega, by omega, rfl, hS12⟩
        · have hzc0 : 0 ≤ z * c := Int.mul_nonneg (by omega) (by omega)
          simp (disch := omega) only [vm0, vm1, vm2, vm3, vm4, vm5, vm6, vm7, fPick, fBox, fBuild, fBsl, fLd, fLda, fSt, fNilc, fBin, fEq, fUn, fMkf, fFa, fFld, fFlda, fExt, evo, wr, wrC, frame, Bool.not_true, Bool.not_false, beq_self_eq_true, List.cons_append, List.nil_append, Nat.add_zero, Nat.zero_add, Nat.reduceAdd, Nat.reduceMul, Nat.reduceSub, Bool.and_true, Bool.true_and, Bool.and_self, beq_dec, fApp, Int.toNat_natCast, Nat.sub_zero, vmI, vc6_3, vc6_4, e7]
          by_cases hlt2 : z * c < N
          · have hop : z * c < o.open_ N := by omega
            have hnx := next_new_ (chunk := c) hop
            refine call_ok rfl rfl (d_next (n + 2) s7 p q _ (z * c) o [] N c hS trivial (by simp; omega) (by omega) (by simp) (by omega) (by omega) (by omega)) ?_
            rintro x s11 ⟨rfl, hS11⟩
            rw [hnx] at hS11 ⊢
            have e11 := (hrd.fr0 hS11.frm).lenV
            rw [hN] at e11
            simp (disch := omega) only [vm0, vm1, vm2, vm3, vm4, vm5, vm6, vm7, fPick, fBox, fBuild, fBsl, fLd, fLda, fSt, fNilc, fBin, fEq, fUn, fMkf, fFa, fFld, fFlda, fExt, evo, wr, wrC, frame, Bool.not_true, Bool.not_false, beq_self_eq_true, List.cons_append, List.nil_append, Nat.add_zero, Nat.zero_add, Nat.reduceAdd, Nat.reduceMul, Nat.reduceSub, Bool.and_true, Bool.true_and, Bool.and_self, beq_dec, fApp, Int.toNat_natCast, Nat.sub_zero, vmI, e11]
            refine call_ok rfl rfl (wakes14 (n + 1) s11 (by omega)) ?_
            rintro x s13 ⟨rfl, _⟩
            simp (disch := omega) only [vm0, vm1, vm2, vm3, vm4, vm5, vm6, vm7, fPick, fBox, fBuild, fBsl, fLd, fLda, fSt, fNilc, fBin, fEq, fUn, fMkf, fFa, fFld, fFlda, fExt, evo, wr, wrC, frame, Bool.not_true, Bool.not_false, beq_self_eq_true, List.cons_append, List.nil_append, Nat.add_zero, Nat.zero_add, Nat.reduceAdd, Nat.reduceMul, Nat.reduceSub, Bool.and_true, Bool.true_and, Bool.and_self, beq_dec, fApp, Int.toNat_natCast, Nat.sub_zero, vmI]
            exact rfl
          · have hnx : nextP o N c [] (z * c) = ⟨[], z * c, 0, 0, false⟩ := by unfold nextP; rw [cutC_nil, if_pos rfl, if_pos (by omega)]
            refine call_ok rfl rfl (d_next (n + 2) s7 p q _ (z * c) o [] N c hS trivial (by simp; omega) (by omega) (by simp) (by omega) (by omega) (by omega)) ?_
            rintro x s11 ⟨rfl, hS11⟩
            rw [hnx] at hS11 ⊢
            have e11 := (hrd.fr0 hS11.frm).lenV
            rw [hN] at e11
            simp (disch := omega) only [vm0, vm1, vm2, vm3, vm4, vm5, vm6, vm7, fPick, fBox, fBuild, fBsl, fLd, fLda, fSt, fNilc, fBin, fEq, fUn, fMkf, fFa, fFld, fFlda, fExt, evo, wr, wrC, frame, Bool.not_true, Bool.not_false, beq_self_eq_true, List.cons_append, List.nil_append, Nat.add_zero, Nat.zero_add, Nat.reduceAdd, Nat.reduceMul, Nat.reduceSub, Bool.and_true, Bool.true_and, Bool.and_self, beq_dec, fApp, Int.toNat_natCast, Nat.sub_zero, vmI, e11]
            refine call_ok rfl rfl (wakes14 (n + 1) s11 (by omega)) ?_
            rintro x s13 ⟨rfl, _⟩
            simp (disch := omega) only [vm0, vm1, vm2, vm3, vm4, vm5, vm6, vm7, fPick, fBox, fBuild, fBsl, fLd, fLda, fSt, fNilc, fBin, fEq, fUn, fMkf, fFa, fFld, fFlda, fExt, evo, wr, wrC, frame, Bool.not_true, Bool.not_false, beq_self_eq_true, List.cons_append, List.nil_append, Nat.add_zero, Nat.zero_add, Nat.reduceAdd, Nat.reduceMul, Nat.reduceSub, Bool.and_true, Bool.true_and, Bool.and_self, beq_dec, fApp, Int.toNat_natCast, Nat.sub_zero, vmI]
            exact rfl
end
end Go.Proofs.Ytekhpohcjfjhfaa.ctr
namespace Go.Proofs.Ytekhpohcjfjhfaa.ctr
open Go Go.Vm Go.RowKit Go.ChangeShapes Go.WideShapes
set_option linter.unusedVariables false
set_option linter.constructorNameAsVariable false
set_option linter.unusedSimpArgs false
/-! ## a slice among the arguments whose elements are several cells -/
theorem row_blockV {w : World} {a : Addr} {n : Nat} {V : Nat → Value} (h0 : 0 < n) (hc : ∀ i, i < n → w.cell? (a.add i) = some (V i)) :
    ∃ B δ cs t fz, a = ⟨B, δ, none⟩ ∧ w.heap[B]? = some (.cells cs t fz) ∧ δ + n ≤ cs.size ∧ ∀ i, i < n → cs[i + δ]? = some (V i) := by
  obtain ⟨B, δ, sp⟩ := a
  have hb := hc 0 h0
  unfold World.cell? at hb hc
  have e0 : (Addr.add ⟨B, δ, sp⟩ 0) = ⟨B, δ, sp⟩ := rfl
  rw [e0] at hb
  dsimp only at hb
  split at hb
  · rename_i cs t fz hw
    have hsp : sp = none := by
      cases sp with
      | none => rfl
      | some x => simp at hb
    subst hsp
    have ad : ∀ i, (Addr.add ⟨B, δ, none⟩ i).block = B ∧ (Addr.add ⟨B, δ, none⟩ i).off = δ + i ∧ (Addr.add ⟨B, δ, none⟩ i).spot = none := fun i => by rw [addr_add]; exact ⟨rfl, rfl, rfl⟩
    have hall : ∀ i, i < n → cs[i + δ]? = some (V i) := by
      intro i hi
      have h1 := hc i hi
      rw [(ad i).1, hw] at h1
      simp only [(ad i).2.1, (ad i).2.2, Option.isSome_none, Bool.false_eq_true, if_false] at h1
      rw [Nat.add_comm]; exact h1
    refine ⟨B, δ, cs, t, fz, rfl, hw, ?_, hall⟩
    have := lt_of_get (hall (n - 1) (by omega))
    omega
  · cases hb
/-- a slice of len elements of sz cells, V: its cells, up to its capacity -/
def IsRowV (w : World) (a : Option Addr) (len cap sz : Nat) (V : Nat → Value) : Prop :=
  (a = none ∧ len = 0 ∧ cap = 0) ∨ ∃ x, a = some x ∧ len ≤ cap ∧ cap ≤ maxLen ∧ ∀ i, i < cap * sz → w.cell? (x.add i) = some (V i)
theorem _root_.Go.Vm.Arg0.rows {α : Type} {E : Env} {s : St} {w : World} (h : Arg0 E s w) {a : Option Addr} {len cap sz : Nat} {V : Nat → Value} (hq : IsRowV w a len cap sz V) (hp : 0 < sz) (enc : α → List AV) (hw : ∀ x, (enc x).length = sz) (l : List α) (hl : l.length = len)
    (hc : ∀ i v, (l.flatMap enc)[i]? = some v → VR rho0 E v (V i) ∧ v.scalar = true) :
    ∃ v E' s', Arg0 E' s' w ∧ E.le E' ∧ Fr s s' [] ∧ VR rho0 E' v (.slice a len cap) ∧ RdE s' v sz enc l := by
  rcases hq with ⟨rfl, rfl, rfl⟩ | ⟨x, rfl, h2, h3, h4⟩
  · obtain rfl := List.eq_nil_of_length_eq_zero hl
    exact ⟨.nils, E, s, h, .refl E, .refl, .nils, .nil hw hp⟩
  · by_cases h0 : len = 0
    · subst h0
      obtain rfl := List.eq_nil_of_length_eq_zero hl
      exact ⟨.emp, E, s, h, .refl E, .refl, .emp, .emp hw hp⟩
    · have hpos : 0 < cap * sz := Nat.mul_pos (by omega) hp
      obtain ⟨B, δ, cs, t, fz, rfl, g1, g2, g3⟩ := row_blockV hpos h4
      have hlt : (l.flatMap enc).length = len * sz := by rw [flat_len hw, hl]
      have hle : len * sz ≤ cap * sz := Nat.mul_le_mul_right sz h2
      obtain ⟨k1, k2⟩ := h.add (δ := δ) (c := l.flatMap enc) g1 rfl (by rw [hlt]; omega) (fun i v hi => by
        obtain ⟨q1, q2⟩ := hc i v hi
        have := (List.getElem?_eq_some_iff.1 hi).1
        exact ⟨_, g3 i (by omega), q1, q2⟩)
      have hv := VR.sl (ρ := rho0) (E := envN E s.next (B, δ, cs.size)) (b := s.next) (off := 0) (len := len) (lo := len) (ex := false) (sz := sz) (cap := cap) (if_pos rfl) (Nat.le_refl _) h2 (by simp) (by omega)
      rw [Nat.zero_add] at hv
      refine ⟨.sl s.next 0 len len false sz, _, _, k1, k2, .new, hv, ⟨⟨⟨rfl, Nat.le_refl _⟩, ?_, ?_⟩, hw, hp, by show s.next < _; rw [next_new]; omega⟩⟩
      · rw [hlt]; rfl
      · show ob ((s.new _).heap.get s.next) (rdC 0 (len * sz)) = _
        rw [get_new_eq rfl]
        show sub _ 0 (len * sz) = _
        rw [sub_of (by rw [hlt]; omega)]
        congr 1
        rw [List.drop_zero, List.take_of_length_le (by rw [hlt]; omega)]
/-! ## slices of records: kinds of cells -/
inductive Fk | i | b | S
def FkOk (w : World) : Fk → Value → Prop
  | .i, v => ∃ z, v = .int .i64 z ∧ (Lit.int .i64 z).wf = true
  | .b, v => ∃ x, v = .bool x
  | .S, v => ∃ a len cap zs, v = .slice a len cap ∧ IsRow8 w a len cap zs
def fkTy (P : Program) : Fk → TypeId → Bool
  | .i, t => match P.underlying t with | some (.int .i64) => true | _ => false
  | .b, t => match P.underlying t with | some .bool => true | _ => false
  | .S, t => match P.underlying t with | some (.slice e) => (match P.underlying e with | some (.int .u8) => P.cellsOf e == 1 | _ => false) | _ => false
def fkB (P : Program) (e : TypeId) (ks : List Fk) : Bool := match P.underlying e with
  | some (.struct fs) => P.cellsOf e == ks.length && fs.size == ks.length && (List.range ks.length).all fun j => match fs[j]?, ks[j]? with
    | some f, some k => f.offset == j && P.cellsOf f.type == 1 && fkTy P k f.type
    | _, _ => false
  | _ => ks.length == 1 && P.cellsOf e == 1 && fkTy P (ks.getD 0 .i) e
section
variable {H : Type} {enc : TypeId × Value → H} {P : Program} {w : World} {base : Nat} {held : Bool}
theorem fk_open {k : Fk} {t : TypeId} {fuel : Nat} {v : Value} {x : DataW H × List MemPlace} (ht : fkTy P k t = true) (h : DataW.trod enc P w base (fun _ => true) held fuel t [v] = some x) : FkOk w k v := by
  cases k with
  | i =>
    unfold fkTy at ht; dsimp only at ht; split at ht
    · rename_i hu
      obtain ⟨n, h1, _, h2⟩ := DataW.trod_int hu h
      cases h1; exact ⟨n, rfl, h2⟩
    · cases ht
  | b =>
    unfold fkTy at ht; dsimp only at ht; split at ht
    · rename_i hu
      obtain ⟨n, h1, _⟩ := DataW.trod_bool hu h
      cases h1; exact ⟨n, rfl⟩
    · cases ht
  | S =>
    unfold fkTy at ht; dsimp only at ht; split at ht
    · rename_i e hu
      split at ht
      · rename_i hu2
        rcases open_ints hu hu2 (by simpa using ht) h with ⟨hcs, _⟩ | ⟨x, l, c, zs, hcs, _, hl, hm, hz, _, hcell, hwz⟩
        · cases hcs
          exact ⟨_, _, _, [], rfl, .inl ⟨rfl, rfl, rfl, rfl⟩⟩
        · cases hcs
          exact ⟨_, _, _, zs, rfl, .inr ⟨_, rfl, hl, hm, by simpa using hz, hcell, hwz⟩⟩
      · cases ht
    · cases ht
theorem open_rowV {t e : TypeId} {ks : List Fk} {fuel : Nat} {a : Option Addr} {len cap : Nat} {x : DataW H × List MemPlace} (ht : P.underlying t = some (.slice e)) (hk : fkB P e ks = true) (hp : 0 < ks.length)
    (h : DataW.trod enc P w base (fun _ => true) held fuel t [.slice a len cap] = some x) :
    ∃ V, IsRowV w a len cap ks.length V ∧ ∀ i, i < cap * ks.length → FkOk w (ks.getD (i % ks.length) .i) (V i) := by
  have ce : P.cellsOf e = ks.length := by
    unfold fkB at hk
    split at hk
    · simp only [Bool.and_eq_true, beq_iff_eq] at hk; exact hk.1.1
    · simp only [Bool.and_eq_true, beq_iff_eq] at hk; rw [hk.1.1]; exact hk.1.2
  rcases Go.Deep.open_slice ht h with ⟨h0, _⟩ | ⟨b, l, c, m, n, D, Pl, h0, hb, hl, hm, hmm, rfl, hx⟩
  · cases h0
    exact ⟨fun _ => .int .i64 0, .inl ⟨rfl, rfl, rfl⟩, fun i hi => by simp at hi⟩
  · cases h0
    obtain rfl : m = cap := by simpa using hmm
    rw [ce] at hx
    have key : ∀ q, q < m * ks.length → ∃ v, w.cell? (b.add q) = some v ∧ FkOk w (ks.getD (q % ks.length) .i) v := by
      intro q hq
      have hj : q % ks.length < ks.length := Nat.mod_lt _ hp
      have hi : q / ks.length < m := by rw [Nat.div_lt_iff_lt_mul hp]; exact hq
      have hqe : q / ks.length * ks.length + q % ks.length = q := by rw [Nat.mul_comm]; exact Nat.div_add_mod q ks.length
      obtain ⟨cs', h1, h2⟩ := hx _ hi
      obtain ⟨_, hlen, hcell⟩ := World.cells?_some h1
      have e1 := hcell (q % ks.length) (by omega)
      rw [Go.Deep.add_add, hqe] at e1
      obtain ⟨v, hv⟩ : ∃ v, cs'[q % ks.length]? = some v := ⟨cs'[q % ks.length]'(by omega), List.getElem?_eq_getElem (by omega)⟩
      refine ⟨v, by rw [e1, hv], ?_⟩
      unfold fkB at hk
      split at hk
      · rename_i fs hu
        simp only [Bool.and_eq_true, beq_iff_eq, List.all_eq_true, List.mem_range] at hk
        obtain ⟨⟨_, hsz⟩, hall⟩ := hk
        obtain ⟨xs, k, _, _, _, hxl, hf⟩ := DataW.trod_struct hu h2
        have hj2 := hall _ hj
        split at hj2
        · rename_i f k' hfj hkj
          simp only [Bool.and_eq_true, beq_iff_eq] at hj2
          obtain ⟨⟨o1, c1⟩, ty⟩ := hj2
          have g := hf _ f hfj
          rw [o1, c1] at g
          have hd : (cs'.drop (q % ks.length)).take 1 = [v] := by
            rw [List.take_one, List.head?_drop, hv]; rfl
          rw [hd] at g
          have hlt : q % ks.length < xs.length := by rw [hxl, hsz]; exact hj
          rw [List.getElem?_eq_getElem hlt] at g
          have := fk_open ty g
          rw [List.getD, hkj]; exact this
        · cases hj2
      · rename_i hu
        simp only [Bool.and_eq_true, beq_iff_eq] at hk
        have hl1 : cs'.length = 1 := by rw [hlen]; exact hk.1.1
        have h0 : q % ks.length = 0 := by rw [hk.1.1]; exact Nat.mod_one q
        rw [h0] at hv ⊢
        match cs', hl1, hv, h2 with
        | [y], _, hv, h2 => cases hv; exact fk_open hk.2 h2
    obtain ⟨V, hV⟩ : ∃ V : Nat → Value, ∀ q, q < m * ks.length → w.cell? (b.add q) = some (V q) ∧ FkOk w (ks.getD (q % ks.length) .i) (V q) := by
      haveI : Inhabited Value := ⟨.bool false⟩
      exact Go.Deep.choose_lt key
    exact ⟨V, .inr ⟨_, rfl, hl, hm, fun i hi => (hV i hi).1⟩, fun i hi => (hV i hi).2⟩
end
/-! ## .. in the walk -/
inductive Cl | i (z : Int) | b (x : Bool) | S (u : AV) (l : List Int)
noncomputable def Cl.av : Cl → AV | .i z => num z | .b x => .bool x | .S u _ => u
def Cl.z : Cl → Int | .i z => z | _ => 0
def Cl.x : Cl → Bool | .b x => x | _ => false
def Cl.u : Cl → AV | .S u _ => u | _ => .nils
def Cl.l : Cl → List Int | .S _ l => l | _ => []
/-- a cell of a kind -/
def ClOk (s : St) : Cl → Fk → Prop
  | .i z, .i => In64 z
  | .b _, .b => True
  | .S u l, .S => RdE s u 1 encB l ∧ ∀ x ∈ l, In8 x
  | _, _ => False
theorem ClOk.fr0 {s s' : St} {c : Cl} {k : Fk} (h : ClOk s c k) (f : Fr s s' []) : ClOk s' c k := by
  cases c <;> cases k <;> first | exact h | exact ⟨h.1.fr0 f, h.2⟩ | cases h
theorem _root_.Go.Vm.Arg0.cells {w : World} {V : Nat → Value} {K : Nat → Fk} : ∀ (n : Nat) {E : Env} {s : St}, Arg0 E s w → (∀ i, i < n → FkOk w (K i) (V i)) →
    ∃ (cl : Nat → Cl) (E' : Env) (s' : St), Arg0 E' s' w ∧ E.le E' ∧ Fr s s' [] ∧ ∀ i, i < n → ClOk s' (cl i) (K i) ∧ VR rho0 E' (cl i).av (V i) ∧ (cl i).av.scalar = true
  | 0, E, s, h, _ => ⟨fun _ => .i 0, E, s, h, .refl E, .refl, fun i hi => by omega⟩
  | n + 1, E, s, h, hV => by
    obtain ⟨cl, E1, s1, h1, e1, f1, c1⟩ := Go.Vm.Arg0.cells n h (fun i hi => hV i (by omega))
    have hn := hV n (by omega)
    have put : ∀ (c : Cl) (E' : Env) (s' : St), Arg0 E' s' w → E1.le E' → Fr s1 s' [] → ClOk s' c (K n) → VR rho0 E' c.av (V n) → c.av.scalar = true →
        ∃ (cl : Nat → Cl) (E' : Env) (s' : St), Arg0 E' s' w ∧ E.le E' ∧ Fr s s' [] ∧ ∀ i, i < n + 1 → ClOk s' (cl i) (K i) ∧ VR rho0 E' (cl i).av (V i) ∧ (cl i).av.scalar = true := by
      intro c E' s' a e f k v sc
      refine ⟨fun i => if i = n then c else cl i, E', s', a, e1.trans e, f1.trans f (fp2 := []) (by simp) (by simp), fun i hi => ?_⟩
      dsimp only
      by_cases h : i = n
      · subst h; rw [if_pos rfl]; exact ⟨k, v, sc⟩
      · rw [if_neg h]
        obtain ⟨q1, q2, q3⟩ := c1 i (by omega)
        exact ⟨q1.fr0 f, q2.mono e, q3⟩
    cases hk : K n with
    | i =>
      rw [hk] at hn put
      obtain ⟨z, hz, wz⟩ := hn
      exact put (.i z) E1 s1 h1 (.refl _) .refl (wf64 wz) (by rw [hz]; exact vr_int) rfl
    | b =>
      rw [hk] at hn put
      obtain ⟨z, hz⟩ := hn
      exact put (.b z) E1 s1 h1 (.refl _) .refl trivial (by rw [hz]; exact .bool _) rfl
    | S =>
      rw [hk] at hn put
      obtain ⟨a, len, cap, zs, hv, hq⟩ := hn
      obtain ⟨u, E2, s2, g, l, f, r, d, i8⟩ := h1.bytes hq
      refine put (.S u (zs.take len)) E2 s2 g l f ⟨d, i8⟩ (by rw [hv]; exact r) ?_
      have := d.rd.sl
      show u.scalar = true
      cases u <;> first | rfl | exact this.elim
/-- a slice of records among the arguments -/
theorem _root_.Go.Vm.Arg0.recs {α : Type} {E : Env} {s : St} {w : World} (h : Arg0 E s w) {a : Option Addr} {len cap : Nat} {ks : List Fk} {V : Nat → Value} (hq : IsRowV w a len cap ks.length V)
    (hV : ∀ i, i < cap * ks.length → FkOk w (ks.getD (i % ks.length) .i) (V i)) (hp : 0 < ks.length) (enc : α → List AV) (dec : (Nat → Cl) → α) (hw : ∀ x, (enc x).length = ks.length)
    (hd : ∀ (s : St) (f : Nat → Cl), (∀ j, j < ks.length → ClOk s (f j) (ks.getD j .i)) → ∀ j, j < ks.length → (enc (dec f))[j]? = some (f j).av) :
    ∃ v E' s' l, Arg0 E' s' w ∧ E.le E' ∧ Fr s s' [] ∧ VR rho0 E' v (.slice a len cap) ∧ RdE s' v ks.length enc l ∧ l.length = len ∧ ∀ x ∈ l, ∃ f, x = dec f ∧ ∀ j, j < ks.length → ClOk s' (f j) (ks.getD j .i) := by
  have hlc : len ≤ cap := by rcases hq with ⟨_, rfl, rfl⟩ | ⟨_, _, h, _⟩; exact Nat.le_refl _; exact h
  have hle : len * ks.length ≤ cap * ks.length := Nat.mul_le_mul_right _ hlc
  obtain ⟨cl, E1, s1, h1, e1, f1, c1⟩ := Go.Vm.Arg0.cells (V := V) (K := fun i => ks.getD (i % ks.length) .i) (len * ks.length) h (fun i hi => hV i (by omega))
  have hF : ∀ k, k < len → ∀ j, j < ks.length → k * ks.length + j < len * ks.length := by
    intro k hk j hj
    have : (k + 1) * ks.length ≤ len * ks.length := Nat.mul_le_mul_right _ hk
    rw [Nat.add_mul, Nat.one_mul] at this; omega
  have hmod : ∀ k j, j < ks.length → (k * ks.length + j) % ks.length = j := by
    intro k j hj; rw [Nat.mul_comm, Nat.mul_add_mod, Nat.mod_eq_of_lt hj]
  have hK : ∀ k, k < len → ∀ j, j < ks.length → ClOk s1 (cl (k * ks.length + j)) (ks.getD j .i) := by
    intro k hk j hj
    have := (c1 _ (hF k hk j hj)).1
    rwa [hmod k j hj] at this
  have hlen : ((List.range len).map fun k => dec fun j => cl (k * ks.length + j)).length = len := by simp
  obtain ⟨v, E2, s2, h2, e2, f2, r2, d2⟩ := h1.rows hq hp enc hw ((List.range len).map fun k => dec fun j => cl (k * ks.length + j)) hlen (by
    intro i v hi
    have hil := (List.getElem?_eq_some_iff.1 hi).1
    rw [flat_len hw, hlen] at hil
    have hj : i % ks.length < ks.length := Nat.mod_lt _ hp
    have hk : i / ks.length < len := by rw [Nat.div_lt_iff_lt_mul hp]; exact hil
    have hie : i / ks.length * ks.length + i % ks.length = i := by rw [Nat.mul_comm]; exact Nat.div_add_mod i ks.length
    have hg : ((List.range len).map fun k => dec fun j => cl (k * ks.length + j))[i / ks.length]? = some (dec fun j => cl (i / ks.length * ks.length + j)) := by
      rw [List.getElem?_map, List.getElem?_range hk]; rfl
    have ha := flat_at hw hg
    have hv : (enc (dec fun j => cl (i / ks.length * ks.length + j)))[i % ks.length]? = some v := by
      rw [← ha, List.getElem?_take, if_pos hj, List.getElem?_drop, hie]; exact hi
    rw [hd s1 _ (fun j hj => hK _ hk j hj) _ hj, hie] at hv
    cases hv
    obtain ⟨_, q2, q3⟩ := c1 i (by omega)
    exact ⟨q2, q3⟩)
  refine ⟨v, E2, s2, _, h2, e1.trans e2, f1.trans f2 (fp2 := []) (by simp) (by simp), r2, d2, hlen, fun x hx => ?_⟩
  obtain ⟨k, hk, rfl⟩ := List.mem_map.1 hx
  exact ⟨_, rfl, fun j hj => (hK k (List.mem_range.1 hk) j hj).fr0 f2⟩
end Go.Proofs.Ytekhpohcjfjhfaa.ctr
namespace Go.Proofs.Ytekhpohcjfjhfaa.ctr
open Go.Vm Go.RowKit Go.Ranges
set_option linter.unusedVariables false
set_option linter.unusedSimpArgs false
set_option linter.constructorNameAsVariable false
theorem ClOk.i {s : St} {c : Cl} (h : ClOk s c .i) : c.av = num c.z ∧ In64 c.z := by
  cases c <;> first | exact ⟨rfl, h⟩ | cases h
theorem ClOk.b {s : St} {c : Cl} (h : ClOk s c .b) : c.av = .bool c.x := by
  cases c <;> first | rfl | cases h
theorem ClOk.S {s : St} {c : Cl} (h : ClOk s c .S) : c.av = c.u ∧ RdE s c.u 1 encB c.l ∧ ∀ x ∈ c.l, In8 x := by
  cases c <;> first | exact ⟨rfl, h⟩ | cases h
theorem _root_.Go.Vm.RdE.fld {α : Type} {s : St} {v : AV} {sz : Nat} {enc : α → List AV} {l : List α} (h : RdE s v sz enc l) {i : Nat} {x : α} (hx : l[i]? = some x) {k : Nat} {c : AV} (hk : (enc x)[k]? = some c) :
    ob (s.heap.get (sblk v)) (rd1C (soff v + i * sz + k)) = some c := by
  obtain ⟨c', k', q1, q2⟩ := rd_sub (s := s) (b := sblk v) (o := soff v + i * sz) (n := sz) (h.at hx)
  obtain ⟨q3, q4⟩ := sub_some q2
  have hlt := (List.getElem?_eq_some_iff.1 hk).1
  rw [h.wid] at hlt
  rw [q1]
  show nth c' (soff v + i * sz + k) = _
  rw [nth_eq]
  have : ((c'.drop (soff v + i * sz)).take sz)[k]? = some c := by rw [← q4]; exact hk
  rw [List.getElem?_take, if_pos hlt, List.getElem?_drop] at this
  exact this
theorem _root_.Go.Vm.RdE.fld0 {α : Type} {s : St} {v : AV} {sz : Nat} {enc : α → List AV} {l : List α} (h : RdE s v sz enc l) {i : Nat} {x : α} (hx : l[i]? = some x) {c : AV} (hk : (enc x)[0]? = some c) :
    ob (s.heap.get (sblk v)) (rd1C (soff v + i * sz)) = some c := h.fld hx (k := 0) hk
theorem drop_of {α : Type} {l : List α} {i : Nat} {x : α} (h : l[i]? = some x) : l.drop i = x :: l.drop (i + 1) := by
  obtain ⟨h1, h2⟩ := List.getElem?_eq_some_iff.1 h
  rw [List.drop_eq_getElem_cons h1, h2]
theorem Sep.cell {s0 s : St} {Ps : List Obj} (h : Sep s0 s Ps) (c0 c : List AV) : Sep s0 ((s.new (.cells c0 .own)).put s.next (some (.cells c .own))) (oC s.next c :: Ps) :=
  h.push (P := oC s.next c) ⟨get_put_eq rfl, by rw [next_put, next_new]; omega, rfl⟩ (by (repeat' (first | exact Fr.refl | assumption | apply Fr.new' | apply Fr.mk' | apply Fr.put')) <;> (first | omega | (left; simp; done) | (right; simp only [next_put, next_new, next_mk]; omega) | (simp only [next_put, next_new, next_mk]; omega))) (Nw.one (Nat.le_refl _))
theorem Sep.getC {s0 s : St} {b : Nat} {c : List AV} {Ps : List Obj} (h : Sep s0 s (oC b c :: Ps)) : s.heap.get b = some (.cells c .own) := by
  obtain ⟨f, k, up⟩ := h.hd; exact k.1
theorem Sep.re {s0 s : St} {Ps Qs : List Obj} (h : Sep s0 s Ps) (hp : Ps.Perm Qs) : Sep s0 s Qs := h.perm hp
theorem Sep.rdW {α : Type} {s0 s : St} {v : AV} {sz : Nat} {enc : α → List AV} {l : List α} {Ps : List Obj} (h : Sep s0 s (oW v sz enc l :: Ps)) : RdE s v sz enc l := by
  obtain ⟨f, k, up⟩ := h.hd; exact k.rd
theorem sep_test {s0 s : St} {A B C D E F G : Obj} {Ps : List Obj} (h : Sep s0 s (A :: B :: C :: D :: E :: F :: G :: Ps)) : Sep s0 s (E :: B :: F :: A :: G :: Ps) := ((h.re ((List.perm_middle (l₁ := [_, _])).trans (.cons _ ((List.perm_middle (l₁ := [_, _])).trans (.cons _ ((List.perm_middle (l₁ := [_, _])).trans (.cons _ ((List.perm_middle (l₁ := [_])).trans (.cons _ ((List.perm_middle (l₁ := [_])).trans (.cons _ (.refl _)))))))))))).drop.drop)
theorem sv_bool (b : Bool) : sameV (.bool b) (.bool b) = true := by cases b <;> rfl
end Go.Proofs.Ytekhpohcjfjhfaa.ctr
namespace Go.Proofs.Ytekhpohcjfjhfaa.ctr
open Go.Vm Go.RowKit Go.Ranges
set_option linter.unusedVariables false
set_option linter.unusedSimpArgs false
set_option linter.constructorNameAsVariable false
/-! ## ranges whose ends lie below a place -/
def Ends (M : Int) (l : List R) : Prop := ∀ r ∈ l, r.2 ≤ M
theorem Ends.mono {M N : Int} {l : List R} (h : Ends M l) (hm : M ≤ N) : Ends N l := fun r hr => Int.le_trans (h r hr) hm
theorem ends_cut {M f t : Int} {l : List R} (h : Ends M l) : Ends M (cutC f t l) := by
  unfold cutC
  split
  · intro r hr
    obtain ⟨q, hq, hc⟩ := List.mem_flatMap.1 hr
    have hq2 := h q hq
    unfold cut1 at hc
    rw [List.mem_append] at hc
    rcases hc with hc | hc
    · split at hc
      · simp at hc; subst hc; simp only; omega
      · simp at hc
    · split at hc
      · simp at hc; subst hc; simp only; omega
      · simp at hc
  · exact h
theorem ends_addR {M : Int} : ∀ {l : List R} {f t : Int}, Ends M l → t ≤ M → Ends M (Ranges.addR f t l)
  | [], f, t, _, h2 => by intro r hr; simp [Ranges.addR] at hr; subst hr; exact h2
  | q :: l, f, t, h1, h2 => by
    have hq := h1 q (by simp)
    have hl : Ends M l := fun r hr => h1 r (by simp [hr])
    unfold Ranges.addR
    split
    · intro r hr
      rcases List.mem_cons.1 hr with rfl | hr
      · exact hq
      · exact ends_addR hl h2 r hr
    · split
      · intro r hr
        rcases List.mem_cons.1 hr with rfl | hr
        · exact h2
        · exact h1 r hr
      · exact ends_addR hl (by omega)
theorem ends_add {M a b : Int} {l : List R} (h : Ends M l) (hb : b ≤ M) : Ends M (addC a b l) := by
  unfold addC
  split
  · exact ends_addR h (by omega)
  · exact h
theorem ends_len {M : Int} : ∀ {l : List R} {b : Int}, WFr b l → Ends M l → b ≤ M → (l.length : Int) ≤ M - b
  | [], b, _, _, h => by simp; omega
  | [q], b, ⟨h1, h2, h3, h4⟩, he, h => by have := he q (by simp); simp; omega
  | q :: r :: l, b, ⟨h1, h2, h3, h4⟩, he, h => by
    have hr : q.2 + 1 ≤ r.1 ∧ r.1 < r.2 := ⟨h4.1, h4.2.1⟩
    have := he r (by simp)
    have := ends_len h4 (fun x hx => he x (by simp only [List.mem_cons] at *; exact .inr hx)) (by omega)
    rw [List.length_cons]; omega
theorem ends_len0 {M : Int} {l : List R} (hw : WFr 0 l) (he : Ends M l) (h : 0 ≤ M) : (l.length : Int) ≤ M := by
  have := ends_len hw he h; omega
theorem pieceM_le {len f t c : Int} {cl : Bool} : pieceM len cl f t c ≤ t := by
  unfold pieceM
  split
  · omega
  · split <;> omega
theorem pieceM_ge {len f t c : Int} {cl : Bool} (hc : 0 ≤ c) : min t f ≤ pieceM len cl f t c := by
  unfold pieceM
  split
  · omega
  · split <;> omega
theorem open_le (o : OB) (limit : Int) : o.open_ limit ≤ o.places ∧ 0 ≤ o.open_ limit := by
  have := o.places_bd
  unfold OB.open_
  split
  · omega
  · have : (o.b.length : Int) ≤ o.places := by unfold OB.places; split <;> omega
    omega
/-- what Next leaves -/
theorem next_inv {o : OB} {limit chunk t : Int} {l : List R} (hw : WFr 0 l) (he : Ends o.places l) (ht : 0 ≤ t ∧ t ≤ o.places) :
    WFr 0 (nextP o limit chunk l t).l ∧ Ends o.places (nextP o limit chunk l t).l ∧ (0 ≤ (nextP o limit chunk l t).t ∧ (nextP o limit chunk l t).t ≤ o.places) ∧ (nextP o limit chunk l t).b ≤ o.places := by
  have hp := o.places_bd
  obtain ⟨q1, q2⟩ := open_le o limit
  have hc : 1 ≤ clampC chunk := by unfold clampC; omega
  unfold nextP
  split
  · split
    · exact ⟨trivial, fun r hr => by simp at hr, ht, by simp only; omega⟩
    · have h1 := pieceM_le (len := o.b.length) (cl := o.closed) (f := t) (t := o.open_ limit) (c := clampC chunk)
      have h2 := pieceM_ge (len := o.b.length) (cl := o.closed) (f := t) (t := o.open_ limit) (c := clampC chunk) (by omega)
      exact ⟨trivial, fun r hr => by simp at hr, ⟨by simp only; omega, by simp only; omega⟩, by simp only; omega⟩
  · rename_i hne
    have hw1 : WFr 0 (cutC 0 o.acked l) := cutC_wf hw
    have he1 : Ends o.places (cutC 0 o.acked l) := ends_cut he
    refine ⟨cutC_wf hw1, ends_cut he1, ht, ?_⟩
    have h1 := pieceM_le (len := o.b.length) (cl := o.closed) (f := ((cutC 0 o.acked l).headD (0, 0)).1) (t := ((cutC 0 o.acked l).headD (0, 0)).2) (c := clampC chunk)
    refine Int.le_trans h1 ?_
    generalize cutC 0 o.acked l = m at *
    cases m with
    | nil => exact absurd rfl hne
    | cons r m => exact he1 r (by simp)
/-! ## the outboxes, the reference's plan, as things that stand apart -/
section
variable {bd : Bd} {h : VF} {fu : Nat}
theorem d_write (n : Nat) {s0 : St} (s : St) (p : Nat) (o : OB) (v : AV) (l : List Int) (Ps : List Obj) (hS : Sep s0 s (oO p o :: Ps)) (hv : RdE s v 1 encB l) (hl : o.b.length < 100000) (hl2 : (l.length : Int) < 4611686018427387904) (hb : -1000000000 ≤ o.buffer ∧ o.buffer ≤ 1000000000) (ha : -1000000000 ≤ o.acked ∧ o.acked ≤ 1000000000) (hfu : 10 < fu) :
    OutOk (callF bd (tab h).get fu (n + 3) 34 [.ptr p 0, v] s) (fun x s' => Is x (num (o.room l.length)) ∧ Sep s0 s' (oO p (o.write l) :: Ps)) := by
  obtain ⟨f, k1, up⟩ := hS.hd
  exact (o_write n s p o f v l k1 hv hl hl2 hb ha hfu).mono fun x s' ⟨f', r1, r2, r3, r4⟩ => ⟨r1, up (oO p _) r2 r3 r4⟩
theorem y_write (n : Nat) {s0 : St} (s : St) (p : Nat) (o : OB) (v : AV) (l : List Int) (Ps : List Obj) (hS : Sep s0 s (oX p o :: Ps)) (hv : RdE s v 1 encB l) (hok : o.ok) (hl : o.b.length < 100000) (hl2 : (l.length : Int) < 4611686018427387904) (hb : -1000000000 ≤ o.buffer ∧ o.buffer ≤ 1000000000) (ha : -1000000000 ≤ o.acked ∧ o.acked ≤ 1000000000) :
    OutOk (callF bd (tab h).get fu (n + 1) 43 [.ptr p 0, v] s) (fun x s' => Is x (num (o.room l.length)) ∧ Sep s0 s' (oX p (o.write l) :: Ps)) := by
  obtain ⟨f, k1, up⟩ := hS.hd
  exact (x_write n s p o f v l k1 hv hok hl hl2 hb ha).mono fun x s' ⟨f', r1, r2, r3, r4⟩ => ⟨r1, up (oX p _) r2 r3 r4⟩
theorem d_close (n : Nat) {s0 : St} (s : St) (p : Nat) (o : OB) (Ps : List Obj) (hS : Sep s0 s (oO p o :: Ps)) : OutOk (callF bd (tab h).get fu (n + 1) 35 [.ptr p 0] s) (fun x s' => Is x (.bool (!o.closed)) ∧ Sep s0 s' (oO p { o with closed := true } :: Ps)) := by
  obtain ⟨f, k1, up⟩ := hS.hd
  exact (o_close n s p o f k1).mono fun x s' ⟨r1, r2, r3, r4⟩ => ⟨r1, up (oO p _) r2 r3 (fun b hb => .inl hb)⟩
theorem d_ack (n : Nat) {s0 : St} (s : St) (p : Nat) (o : OB) (k : Int) (Ps : List Obj) (hS : Sep s0 s (oO p o :: Ps)) (hl : o.b.length < 1000000) : OutOk (callF bd (tab h).get fu (n + 2) 41 [.ptr p 0, num k] s) (fun x s' => Is x (.bool (o.ackOk k)) ∧ Sep s0 s' (oO p (o.ack k) :: Ps)) := by
  obtain ⟨f, k1, up⟩ := hS.hd
  exact (o_ack n s p o f k k1 hl).mono fun x s' ⟨r1, r2, r3, r4⟩ => ⟨r1, up (oO p _) r2 r3 (fun b hb => .inl hb)⟩
theorem y_ack (n : Nat) {s0 : St} (s : St) (p : Nat) (o : OB) (k : Int) (Ps : List Obj) (hS : Sep s0 s (oX p o :: Ps)) (hl : o.b.length < 1000000) : OutOk (callF bd (tab h).get fu (n + 2) 44 [.ptr p 0, num k] s) (fun x s' => Is x (.bool (o.ackOk k)) ∧ Sep s0 s' (oX p (o.ack k) :: Ps)) := by
  obtain ⟨f, k1, up⟩ := hS.hd
  exact (x_ack n s p o f k k1 hl).mono fun x s' ⟨r1, r2, r3, r4⟩ => ⟨r1, up (oX p _) r2 r3 (fun b hb => .inl hb)⟩
theorem y_next (n : Nat) {s0 : St} (s : St) (p q : Nat) (l : List R) (t : Int) (o : OB) (Ps : List Obj) (limit chunk : Int) (hS : Sep s0 s (oQ p t l :: oX q o :: Ps)) (hw : WFr 0 l) (hlen : 2 * l.length < fu) (hfu : 10 < fu) (hl : l.length < 40000) (hb : o.b.length < 1000000) (hL : -1000000000 ≤ limit ∧ limit ≤ 1000000000) (ht : 0 ≤ t ∧ t ≤ 1000000000) (he : Ends o.places l) :
    OutOk (callF bd (tab h).get fu (n + 3) 46 [.ptr p 0, .ptr q 0, num limit, num chunk] s) (fun x s' => Is x (.tup [num (nextP o limit chunk l t).a, num (nextP o limit chunk l t).b, .bool (nextP o limit chunk l t).ok]) ∧ Sep s0 s' (oQ p (nextP o limit chunk l t).t (nextP o limit chunk l t).l :: oX q o :: Ps)) := by
  obtain ⟨f, g, k1, k2, k3, up⟩ := hS.hd2
  exact (r_next n s p q l t o f g limit chunk k1 k2 k3 hw hlen hfu hl hb hL ht (ends_cut he)).mono fun x s' ⟨f', r1, r2, r3, r4⟩ => ⟨r1, up (oQ _ _ _) r2 r3 r4⟩
theorem y_lost (n : Nat) {s0 : St} (s : St) (p : Nat) (l : List R) (t : Int) (Ps : List Obj) (a b : Int) (hS : Sep s0 s (oQ p t l :: Ps)) (hw : WFr 0 l) (hlen : l.length < fu) (hl : l.length < 100000) : OutOk (callF bd (tab h).get fu (n + 3) 45 [.ptr p 0, num a, num b] s) (fun x s' => Sep s0 s' (oQ p t (addC a b l) :: Ps)) := by
  obtain ⟨f, k1, up⟩ := hS.hd
  exact (r_lost n s p l t f a b k1 hw hlen hl).mono fun x s' ⟨f', r2, r3, r4⟩ => up (oQ _ _ _) r2 r3 r4
theorem y_missing (n : Nat) {s0 : St} (s : St) (p : Nat) (l : List R) (t : Int) (Ps : List Obj) (hS : Sep s0 s (oQ p t l :: Ps)) : OutOk (callF bd (tab h).get fu (n + 1) 93 [.ptr p 0] s) (fun x s' => RdE s x 2 encR l ∧ Is s' s) := by
  obtain ⟨f, k1, up⟩ := hS.hd
  exact r_missing n s p l t f k1
theorem Sep.getQ {s0 s : St} {p : Nat} {t : Int} {l : List R} {Ps : List Obj} (hS : Sep s0 s (oQ p t l :: Ps)) : ∃ v, s.heap.get p = some (.cells [num t, v] .own) := by
  obtain ⟨f, ⟨v, fv, h1, _⟩, up⟩ := hS.hd; exact ⟨v, h1⟩
/-- the two plans are the same -/
theorem same14 (n : Nat) {s0 : St} (s : St) (p q : Nat) (l : List R) (t : Int) (Ps : List Obj) (hS : Sep s0 s (oP p l t :: oQ q t l :: Ps)) (hl : l.length < fu) (hl2 : l.length < 1000000) :
    OutOk (callF bd (tab h).get fu (n + 4) 47 [.ptr p 0, .ptr q 0] s) (fun x s' => Is x (.bool true) ∧ Sep s0 s' (oP p l t :: oQ q t l :: Ps)) := by
  refine call_code (t47 h) rfl ?_
  simp (disch := omega) only [vm0, vm1, vm2, vm3, vm4, vm5, vm6, vm7, fPick, fBox, fBuild, fBsl, fLd, fLda, fSt, fNilc, fBin, fEq, fUn, fMkf, fFa, fFld, fFlda, fExt, evo, wr, wrC, frame, Bool.not_true, Bool.not_false, beq_self_eq_true, List.cons_append, List.nil_append, Nat.add_zero, Nat.zero_add, Nat.reduceAdd, Nat.reduceMul, Nat.reduceSub, Bool.and_true, Bool.true_and, Bool.and_self, beq_dec, fApp, Int.toNat_natCast, Nat.sub_zero, vmI, vc47]
  refine call_ok rfl rfl (d_missing n s p l t _ hS hl2) ?_
  rintro x s1 ⟨k1, hS1⟩
  have e1 := k1.lenV
  simp (disch := omega) only [vm0, vm1, vm2, vm3, vm4, vm5, vm6, vm7, fPick, fBox, fBuild, fBsl, fLd, fLda, fSt, fNilc, fBin, fEq, fUn, fMkf, fFa, fFld, fFlda, fExt, evo, wr, wrC, frame, Bool.not_true, Bool.not_false, beq_self_eq_true, List.cons_append, List.nil_append, Nat.add_zero, Nat.zero_add, Nat.reduceAdd, Nat.reduceMul, Nat.reduceSub, Bool.and_true, Bool.true_and, Bool.and_self, beq_dec, fApp, Int.toNat_natCast, Nat.sub_zero, vmI]
  refine call_ok rfl rfl (d_sent (n + 2) s1 p l t _ hS1) ?_
  rintro y s2 ⟨rfl, rfl⟩
  obtain ⟨v, hv⟩ := hS1.swap.getQ
  simp (disch := omega) only [vm0, vm1, vm2, vm3, vm4, vm5, vm6, vm7, fPick, fBox, fBuild, fBsl, fLd, fLda, fSt, fNilc, fBin, fEq, fUn, fMkf, fFa, fFld, fFlda, fExt, evo, wr, wrC, frame, Bool.not_true, Bool.not_false, beq_self_eq_true, List.cons_append, List.nil_append, Nat.add_zero, Nat.zero_add, Nat.reduceAdd, Nat.reduceMul, Nat.reduceSub, Bool.and_true, Bool.true_and, Bool.and_self, beq_dec, fApp, Int.toNat_natCast, Nat.sub_zero, vmI, hv, e1]
  refine call_ok rfl rfl (y_missing (n + 2) s2 q l t _ hS1.swap) ?_
  rintro y s3 ⟨k2, rfl⟩
  have e2 := k2.lenV
  simp (disch := omega) only [vm0, vm1, vm2, vm3, vm4, vm5, vm6, vm7, fPick, fBox, fBuild, fBsl, fLd, fLda, fSt, fNilc, fBin, fEq, fUn, fMkf, fFa, fFld, fFlda, fExt, evo, wr, wrC, frame, Bool.not_true, Bool.not_false, beq_self_eq_true, List.cons_append, List.nil_append, Nat.add_zero, Nat.zero_add, Nat.reduceAdd, Nat.reduceMul, Nat.reduceSub, Bool.and_true, Bool.true_and, Bool.and_self, beq_dec, fApp, Int.toNat_natCast, Nat.sub_zero, vmI, hv, e1, e2]
  refine x_loop (fun m F s' => ∃ i : Nat, ∃ y7 y9 y10 y11, m = l.length - i ∧ i ≤ l.length ∧ F = [some (.ptr p 0), some (.ptr q 0), some (num (i : Int)), some x, some (.bool false), some (.bool false), some (num (l.length : Int)), y7, some x, y9, y10, y11, some (.bool false)] ∧ Fr s3 s' []) l.length (by omega) ?_ ?_
  · exact ⟨0, _, _, _, _, by omega, by omega, rfl, .refl⟩
  · rintro m F s4 ⟨i, y7, y9, y10, y11, rfl, hi, rfl, hfr⟩ hm
    have kx := k1.fr0 hfr
    have ky := k2.fr0 hfr
    by_cases hlt : i < l.length
    · obtain ⟨r, hr⟩ : ∃ r, l[i]? = some r := ⟨_, List.getElem?_eq_getElem hlt⟩
      have g1 := kx.ia hr
      have g2 := kx.at hr
      obtain ⟨a, b⟩ := r
      simp (disch := omega) only [vm0, vm1, vm2, vm3, vm4, vm5, vm6, vm7, fPick, fBox, fBuild, fBsl, fLd, fLda, fSt, fNilc, fBin, fEq, fUn, fMkf, fFa, fFld, fFlda, fExt, evo, wr, wrC, frame, Bool.not_true, Bool.not_false, beq_self_eq_true, List.cons_append, List.nil_append, Nat.add_zero, Nat.zero_add, Nat.reduceAdd, Nat.reduceMul, Nat.reduceSub, Bool.and_true, Bool.true_and, Bool.and_self, beq_dec, fApp, Int.toNat_natCast, Nat.sub_zero, vmI, g1, g2, encR]
      have hS5 := (hS1.fr hfr).cell [num 0, num 0] [num a, num b]
      have hf5 : Fr s4 ((s4.new (.cells [num 0, num 0] .own)).put s4.next (some (.cells [num a, num b] .own))) [] := (by (repeat' (first | exact Fr.refl | assumption | apply Fr.new' | apply Fr.mk' | apply Fr.put')) <;> (first | omega | (left; simp; done) | (right; simp only [next_put, next_new, next_mk]; omega) | (simp only [next_put, next_new, next_mk]; omega)))
      have hnx : s4.next < ((s4.new (.cells [num 0, num 0] .own)).put s4.next (some (.cells [num a, num b] .own))).next := by rw [next_put, next_new]; omega
      generalize (s4.new (.cells [.int .i64 (.c 0), .int .i64 (.c 0)] .own)).put s4.next (some (.cells [num a, num b] .own)) = s5 at *
      have gc := hS5.getC
      generalize s4.next = c at *
      refine call_ok rfl rfl (y_missing (n + 2) s5 q l t _ hS5.up2) ?_
      rintro y2 s6 ⟨k3, rfl⟩
      have g3 := k3.ia hr
      have g4 := k3.at hr
      simp (disch := omega) only [vm0, vm1, vm2, vm3, vm4, vm5, vm6, vm7, fPick, fBox, fBuild, fBsl, fLd, fLda, fSt, fNilc, fBin, fEq, fUn, fMkf, fFa, fFld, fFlda, fExt, evo, wr, wrC, frame, Bool.not_true, Bool.not_false, beq_self_eq_true, List.cons_append, List.nil_append, Nat.add_zero, Nat.zero_add, Nat.reduceAdd, Nat.reduceMul, Nat.reduceSub, Bool.and_true, Bool.true_and, Bool.and_self, beq_dec, fApp, Int.toNat_natCast, Nat.sub_zero, vmI, gc, g3, g4, encR]
      refine ⟨l.length - (i + 1), by omega, i + 1, _, _, _, _, rfl, by omega, rfl, hfr.trans hf5 (fp2 := []) (by simp) (by simp)⟩
    · simp (disch := omega) only [vm0, vm1, vm2, vm3, vm4, vm5, vm6, vm7, fPick, fBox, fBuild, fBsl, fLd, fLda, fSt, fNilc, fBin, fEq, fUn, fMkf, fFa, fFld, fFlda, fExt, evo, wr, wrC, frame, Bool.not_true, Bool.not_false, beq_self_eq_true, List.cons_append, List.nil_append, Nat.add_zero, Nat.zero_add, Nat.reduceAdd, Nat.reduceMul, Nat.reduceSub, Bool.and_true, Bool.true_and, Bool.and_self, beq_dec, fApp, Int.toNat_natCast, Nat.sub_zero, vmI]
      exact ⟨rfl, hS1.fr hfr⟩
end
end Go.Proofs.Ytekhpohcjfjhfaa.ctr
namespace Go.Proofs.Ytekhpohcjfjhfaa.ctr
open Go.Vm Go.RowKit Go.Ranges
set_option linter.unusedVariables false
set_option linter.unusedSimpArgs false
set_option linter.constructorNameAsVariable false
/-! ## the plan and its reference, step by step -/
structure PS where
  L : List R
  t : Int
  o : OB
  T : List R
  lim : Int
structure PS.Ok (S : PS) (i : Nat) : Prop where
  w : WFr 0 S.L
  e : Ends S.o.places S.L
  t0 : 0 ≤ S.t ∧ S.t ≤ S.o.places
  ok : S.o.ok
  len : S.o.b.length ≤ 30 * i
  bf : 0 ≤ S.o.buffer ∧ S.o.buffer ≤ 400
  ac : 0 ≤ S.o.acked ∧ S.o.acked ≤ S.o.places
  T : Ends S.o.places S.T
  Tl : S.T.length ≤ i
  lm : 0 ≤ S.lim ∧ S.lim ≤ 5 + 9 * i
def PS.objs (S : PS) (p q x r : Nat) (u : AV) : List Obj := [oP p S.L S.t, oO q S.o, oQ r S.t S.L, oX x S.o, oW u 2 encR S.T]
theorem write_inv {o : OB} {l : List Int} {m : Nat} (hl : l.length ≤ m) (hok : o.ok) : (o.write l).ok ∧ (o.write l).b.length ≤ o.b.length + m ∧ o.places ≤ (o.write l).places ∧ (o.write l).buffer = o.buffer ∧ (o.write l).acked = o.acked := by
  have h1 : (o.write l).b.length = o.b.length + (l.take (o.room l.length).toNat).length := by unfold OB.write; simp
  have h3 := List.length_take_le' (o.room l.length).toNat l
  have h4 : (o.write l).closed = o.closed := rfl
  have h5 : (o.write l).acked = o.acked := rfl
  refine ⟨fun hc => ?_, by omega, ?_, rfl, rfl⟩
  · have := hok (h4 ▸ hc); rw [h5, h1]; omega
  · unfold OB.places; rw [h4, h1]; split <;> omega
theorem PS.Ok.mono {S : PS} {i : Nat} (h : S.Ok i) : S.Ok (i + 1) := ⟨h.w, h.e, h.t0, h.ok, by have := h.len; omega, h.bf, h.ac, h.T, by have := h.Tl; omega, by have := h.lm; omega⟩
theorem Sep.closeX {s0 s : St} {x : Nat} {o : OB} {Ps : List Obj} (hS : Sep s0 s (oX x o :: Ps)) : ∃ v, s.heap.get x = some (.cells [num o.buffer, num o.acked, v, .bool o.closed] .own) ∧ Sep s0 (s.put x (some (.cells [num o.buffer, num o.acked, v, .bool true] .own))) (oX x { o with closed := true } :: Ps) := by
  obtain ⟨f, ⟨v, fv, h1, h2, h3, rfl, h5⟩, up⟩ := hS.hd
  exact ⟨v, h1, up (oX x _) ⟨v, fv, get_put_eq rfl, h2.fr (fp' := [x]) (.put (.inl (by simp))) (by rintro b hb hm; simp at hm; subst hm; exact h3 hb), h3, rfl, by rw [next_put]; exact h5⟩ (.put (.inl (by simp))) (fun b hb => .inl hb)⟩
theorem iar0 {L F : LF} {x : Od} : fIar L F 2 1 x (.c (.int .i64 (.c 0))) = ob (ev L F x) fun v => v.onPtr (fun b o => some (.ptr b o)) none := rfl
theorem iar1 {L F : LF} {x : Od} : fIar L F 2 1 x (.c (.int .i64 (.c 1))) = ob (ev L F x) fun v => v.onPtr (fun b o => some (.ptr b (o + 1))) none := rfl
section
variable {bd : Bd} {h : VF} {fu : Nat}
def PPost (s0 : St) (buf ck : Int) (v : AV) (a q p x r i : Nat) (d : Int) (e : Ex) (F : LF) (s : St) : Prop :=
  e = .normal ∧ ∃ (S : PS) (u : AV), S.Ok (i + 1) ∧ Sep s0 s (S.objs p q x r u) ∧ ∃ z11 z12 z14 z15 z16 z17 z18 z19 z20 z21 z22 z23 z24 z25 z26 z27 z28 z29 z30 z31 z32 z33 z34 z35, F = [some (num buf), some (num ck), some v, some (num d), some (.ptr a 0), some (.ptr q 0), some (.ptr p 0), some (num (i : Int)), some (.ptr x 0), some (.ptr r 0), some u, z11, z12, some (num S.lim), z14, z15, z16, z17, z18, z19, z20, z21, z22, z23, z24, z25, z26, z27, z28, z29, z30, z31, z32, z33, z34, z35, some (.bool false)]
theorem pp_switch (hs : SortOk h) (n : Nat) {s0 : St} (s : St) (S : PS) (i : Nat) (buf ck : Int) (v u : AV) (a q p x r : Nat) (d d0 N : Int) (bu : AV) (bl : List Int) (z11 z12 z14 z15 z16 z17 z18 z19 z20 z21 z22 z23 z24 z25 z26 z27 z28 z29 z30 z31 z32 z33 z34 z35 : Option AV) (hk : S.Ok i) (hi : i < 40) (hd : 0 ≤ d ∧ d < 12) (hN : In64 N)
    (hS : Sep s0 s (oC a [num d0, num N, bu] :: S.objs p q x r u)) (hb : RdE s0 bu 1 encB bl) (hfu : 4000 < fu) :
    RsOk (exec bd (callF bd (tab h).get fu (n + 5)) fu vc8_0 [some (num buf), some (num ck), some v, some (num d), some (.ptr a 0), some (.ptr q 0), some (.ptr p 0), some (num (i : Int)), some (.ptr x 0), some (.ptr r 0), some u, z11, z12, some (num S.lim), z14, z15, z16, z17, z18, z19, z20, z21, z22, z23, z24, z25, z26, z27, z28, z29, z30, z31, z32, z33, z34, z35, some (.bool false)] s) (PPost s0 buf ck v a q p x r i d) := by
  have hla : ((S.o.b.length : Nat) : Int) ≤ 1200 := by have := hk.len; omega
  have hpl := S.o.places_bd
  have hLl := ends_len0 hk.w hk.e hpl.1
  have ga := hS.getC
  obtain ⟨L, t, o, T, lim⟩ := S
  have hk2 := hk
  obtain ⟨k1, k2, k3, k4, k5, k6, k7, k8, k9, k10⟩ := hk
  unfold PS.objs at hS
  dsimp only at *
  have hc : d = 0 ∨ d = 1 ∨ d = 2 ∨ d = 3 ∨ d = 4 ∨ d = 5 ∨ d = 6 ∨ d = 7 ∨ 8 ≤ d := by omega
  rcases hc with rfl | rfl | rfl | rfl | rfl | rfl | hc | hc | hc
  iterate 3
    · simp (disch := omega) only [vm0, vm1, vm2, vm3, vm4, vm5, vm6, vm7, fPick, fBox, fBuild, fBsl, fLd, fLda, fSt, fNilc, fBin, fEq, fUn, fMkf, fFa, fFld, fFlda, fExt, evo, wr, wrC, frame, Bool.not_true, Bool.not_false, beq_self_eq_true, List.cons_append, List.nil_append, Nat.add_zero, Nat.zero_add, Nat.reduceAdd, Nat.reduceMul, Nat.reduceSub, Bool.and_true, Bool.true_and, Bool.and_self, beq_dec, fApp, Int.toNat_natCast, Nat.sub_zero, vmI, vc8_0, ga]
      have hb1 := hb.fr0 hS.frm
      refine call_ok rfl rfl (cutB (n + 3) s bu bl 30 (by omega) (by omega) hb1) ?_
      rintro b2 s2 ⟨f2, w4, w2, w3⟩
      have hS2 := hS.push (P := oW b2 1 encB (bl.take (Int.toNat 30))) w4 w2 w3
      have hlB : (bl.take (Int.toNat 30)).length ≤ 30 := List.length_take_le _ _
      generalize bl.take (Int.toNat 30) = B at *
      obtain ⟨i1, i2, i3, i4, i5⟩ := write_inv hlB k4
      simp (disch := omega) only [vm0, vm1, vm2, vm3, vm4, vm5, vm6, vm7, fPick, fBox, fBuild, fBsl, fLd, fLda, fSt, fNilc, fBin, fEq, fUn, fMkf, fFa, fFld, fFlda, fExt, evo, wr, wrC, frame, Bool.not_true, Bool.not_false, beq_self_eq_true, List.cons_append, List.nil_append, Nat.add_zero, Nat.zero_add, Nat.reduceAdd, Nat.reduceMul, Nat.reduceSub, Bool.and_true, Bool.true_and, Bool.and_self, beq_dec, fApp, Int.toNat_natCast, Nat.sub_zero, vmI]
      refine call_ok rfl rfl (d_write (n + 2) s2 q o b2 B _ ((hS2.re ((List.perm_middle (l₁ := [_, _, _])).trans (.cons _ (.refl _))))) hS2.rdW (by omega) (by omega) (by omega) (by omega) (by omega)) ?_
      rintro y s3 ⟨rfl, hS3⟩
      simp (disch := omega) only [vm0, vm1, vm2, vm3, vm4, vm5, vm6, vm7, fPick, fBox, fBuild, fBsl, fLd, fLda, fSt, fNilc, fBin, fEq, fUn, fMkf, fFa, fFld, fFlda, fExt, evo, wr, wrC, frame, Bool.not_true, Bool.not_false, beq_self_eq_true, List.cons_append, List.nil_append, Nat.add_zero, Nat.zero_add, Nat.reduceAdd, Nat.reduceMul, Nat.reduceSub, Bool.and_true, Bool.true_and, Bool.and_self, beq_dec, fApp, Int.toNat_natCast, Nat.sub_zero, vmI]
      refine call_ok rfl rfl (y_write (n + 4) s3 x o b2 B _ ((hS3.re ((List.perm_middle (l₁ := [_, _, _, _, _])).trans (.cons _ (.refl _))))) hS3.swap.rdW k4 (by omega) (by omega) (by omega) (by omega)) ?_
      rintro y s4 ⟨rfl, hS4⟩
      simp (disch := omega) only [vm0, vm1, vm2, vm3, vm4, vm5, vm6, vm7, fPick, fBox, fBuild, fBsl, fLd, fLda, fSt, fNilc, fBin, fEq, fUn, fMkf, fFa, fFld, fFlda, fExt, evo, wr, wrC, frame, Bool.not_true, Bool.not_false, beq_self_eq_true, List.cons_append, List.nil_append, Nat.add_zero, Nat.zero_add, Nat.reduceAdd, Nat.reduceMul, Nat.reduceSub, Bool.and_true, Bool.true_and, Bool.and_self, beq_dec, fApp, Int.toNat_natCast, Nat.sub_zero, vmI]
      exact ⟨rfl, ⟨L, t, o.write B, T, lim⟩, u, ⟨k1, k2.mono i3, ⟨k3.1, Int.le_trans k3.2 i3⟩, i1, by dsimp only; omega, by dsimp only; rw [i4]; exact k6, by dsimp only; rw [i5]; omega, k8.mono i3, by dsimp only; omega, by dsimp only; omega⟩, ((hS4.re ((List.perm_middle (l₁ := [_, _])).trans (.cons _ ((List.perm_middle (l₁ := [_, _])).trans (.cons _ ((List.perm_middle (l₁ := [_, _])).trans (.cons _ ((List.perm_middle (l₁ := [_])).trans (.cons _ ((List.perm_middle (l₁ := [_])).trans (.cons _ (.refl _)))))))))))).drop.drop), _, _, _, _, _, _, _, _, _, _, _, _, _, _, _, _, _, _, _, _, _, _, _, _, rfl⟩
  · obtain ⟨m, hm⟩ : ∃ m, N.tmod 5 = m := ⟨_, rfl⟩
    have h50 : (5 : Int) ≠ 0 := by decide
    by_cases hm0 : m = 0
    · subst hm0
      simp (disch := omega) only [vm0, vm1, vm2, vm3, vm4, vm5, vm6, vm7, fPick, fBox, fBuild, fBsl, fLd, fLda, fSt, fNilc, fBin, fEq, fUn, fMkf, fFa, fFld, fFlda, fExt, evo, wr, wrC, frame, Bool.not_true, Bool.not_false, beq_self_eq_true, List.cons_append, List.nil_append, Nat.add_zero, Nat.zero_add, Nat.reduceAdd, Nat.reduceMul, Nat.reduceSub, Bool.and_true, Bool.true_and, Bool.and_self, beq_dec, fApp, Int.toNat_natCast, Nat.sub_zero, vmI, vc8_0, ga, b_rem h50, hm]
      refine call_ok rfl rfl (d_close (n + 4) s q o _ ((hS.re ((List.perm_middle (l₁ := [_, _])).trans (.cons _ (.refl _)))))) ?_
      rintro y s2 ⟨rfl, hS2⟩
      obtain ⟨w, gx, hS3⟩ := Sep.closeX ((hS2.re ((List.perm_middle (l₁ := [_, _, _, _])).trans (.cons _ (.refl _)))))
      simp (disch := omega) only [vm0, vm1, vm2, vm3, vm4, vm5, vm6, vm7, fPick, fBox, fBuild, fBsl, fLd, fLda, fSt, fNilc, fBin, fEq, fUn, fMkf, fFa, fFld, fFlda, fExt, evo, wr, wrC, frame, Bool.not_true, Bool.not_false, beq_self_eq_true, List.cons_append, List.nil_append, Nat.add_zero, Nat.zero_add, Nat.reduceAdd, Nat.reduceMul, Nat.reduceSub, Bool.and_true, Bool.true_and, Bool.and_self, beq_dec, fApp, Int.toNat_natCast, Nat.sub_zero, vmI, gx]
      have hpc : o.places ≤ ({ o with closed := true } : OB).places := by unfold OB.places; simp only; split <;> simp <;> omega
      exact ⟨rfl, ⟨L, t, { o with closed := true }, T, lim⟩, u, ⟨k1, k2.mono hpc, ⟨k3.1, Int.le_trans k3.2 hpc⟩, fun hc => (by cases hc), by dsimp only; omega, k6, ⟨k7.1, Int.le_trans k7.2 hpc⟩, k8.mono hpc, by dsimp only; omega, by dsimp only; omega⟩, ((hS3.re ((List.perm_middle (l₁ := [_, _])).trans (.cons _ ((List.perm_middle (l₁ := [_, _])).trans (.cons _ ((List.perm_middle (l₁ := [_])).trans (.cons _ ((List.perm_middle (l₁ := [_])).trans (.cons _ (.refl _)))))))))).drop), _, _, _, _, _, _, _, _, _, _, _, _, _, _, _, _, _, _, _, _, _, _, _, _, rfl⟩
    · simp (disch := omega) only [vm0, vm1, vm2, vm3, vm4, vm5, vm6, vm7, fPick, fBox, fBuild, fBsl, fLd, fLda, fSt, fNilc, fBin, fEq, fUn, fMkf, fFa, fFld, fFlda, fExt, evo, wr, wrC, frame, Bool.not_true, Bool.not_false, beq_self_eq_true, List.cons_append, List.nil_append, Nat.add_zero, Nat.zero_add, Nat.reduceAdd, Nat.reduceMul, Nat.reduceSub, Bool.and_true, Bool.true_and, Bool.and_self, beq_dec, fApp, Int.toNat_natCast, Nat.sub_zero, vmI, vc8_0, ga, b_rem h50, hm]
      exact ⟨rfl, ⟨L, t, o, T, lim⟩, u, hk2.mono, hS.drop, _, _, _, _, _, _, _, _, _, _, _, _, _, _, _, _, _, _, _, _, _, _, _, _, rfl⟩
  · obtain ⟨w, gq⟩ := Sep.getQ ((hS.re ((List.perm_middle (l₁ := [_, _, _])).trans (.cons _ (.refl _)))))
    obtain ⟨t1, ht1⟩ : ∃ t1, t + 1 = t1 := ⟨_, rfl⟩
    simp (disch := omega) only [vm0, vm1, vm2, vm3, vm4, vm5, vm6, vm7, fPick, fBox, fBuild, fBsl, fLd, fLda, fSt, fNilc, fBin, fEq, fUn, fMkf, fFa, fFld, fFlda, fExt, evo, wr, wrC, frame, Bool.not_true, Bool.not_false, beq_self_eq_true, List.cons_append, List.nil_append, Nat.add_zero, Nat.zero_add, Nat.reduceAdd, Nat.reduceMul, Nat.reduceSub, Bool.and_true, Bool.true_and, Bool.and_self, beq_dec, fApp, Int.toNat_natCast, Nat.sub_zero, vmI, vc8_0, ga, gq, ht1]
    refine call_ok rfl rfl (withinP (n + 4) s N t1 hN (by omega) (by omega)) ?_
    rintro y s2 ⟨rfl, rfl⟩
    obtain ⟨k, hk'⟩ : ∃ k, N % t1 = k := ⟨_, rfl⟩
    have hkb : 0 ≤ k ∧ k < t1 := by rw [← hk']; exact ⟨Int.emod_nonneg _ (by omega), Int.emod_lt_of_pos _ (by omega)⟩
    rw [hk']
    simp (disch := omega) only [vm0, vm1, vm2, vm3, vm4, vm5, vm6, vm7, fPick, fBox, fBuild, fBsl, fLd, fLda, fSt, fNilc, fBin, fEq, fUn, fMkf, fFa, fFld, fFlda, fExt, evo, wr, wrC, frame, Bool.not_true, Bool.not_false, beq_self_eq_true, List.cons_append, List.nil_append, Nat.add_zero, Nat.zero_add, Nat.reduceAdd, Nat.reduceMul, Nat.reduceSub, Bool.and_true, Bool.true_and, Bool.and_self, beq_dec, fApp, Int.toNat_natCast, Nat.sub_zero, vmI, ga, gq]
    have hok : o.ackOk k = true := by simp [OB.ackOk]; omega
    have hack : o.ack k = { o with acked := max o.acked k } := by unfold OB.ack; rw [if_pos hok]
    refine call_ok rfl rfl (d_ack (n + 3) s2 q o k _ ((hS.re ((List.perm_middle (l₁ := [_, _])).trans (.cons _ (.refl _))))) (by omega)) ?_
    rintro y s3 ⟨rfl, hS3⟩
    simp (disch := omega) only [vm0, vm1, vm2, vm3, vm4, vm5, vm6, vm7, fPick, fBox, fBuild, fBsl, fLd, fLda, fSt, fNilc, fBin, fEq, fUn, fMkf, fFa, fFld, fFlda, fExt, evo, wr, wrC, frame, Bool.not_true, Bool.not_false, beq_self_eq_true, List.cons_append, List.nil_append, Nat.add_zero, Nat.zero_add, Nat.reduceAdd, Nat.reduceMul, Nat.reduceSub, Bool.and_true, Bool.true_and, Bool.and_self, beq_dec, fApp, Int.toNat_natCast, Nat.sub_zero, vmI]
    refine call_ok rfl rfl (y_ack (n + 3) s3 x o k _ ((hS3.re ((List.perm_middle (l₁ := [_, _, _, _])).trans (.cons _ (.refl _))))) (by omega)) ?_
    rintro y s4 ⟨rfl, hS4⟩
    rw [hok]
    simp (disch := omega) only [vm0, vm1, vm2, vm3, vm4, vm5, vm6, vm7, fPick, fBox, fBuild, fBsl, fLd, fLda, fSt, fNilc, fBin, fEq, fUn, fMkf, fFa, fFld, fFlda, fExt, evo, wr, wrC, frame, Bool.not_true, Bool.not_false, beq_self_eq_true, List.cons_append, List.nil_append, Nat.add_zero, Nat.zero_add, Nat.reduceAdd, Nat.reduceMul, Nat.reduceSub, Bool.and_true, Bool.true_and, Bool.and_self, beq_dec, fApp, Int.toNat_natCast, Nat.sub_zero, vmI]
    rw [hack] at hS4
    have hpn : o.closed = false → o.places = (o.b.length : Int) := fun hc => by
      unfold OB.places; rw [if_neg (by rw [hc]; simp)]; omega
    exact ⟨rfl, ⟨L, t, { o with acked := max o.acked k }, T, lim⟩, u, ⟨k1, k2, k3, fun hc => by have h1 := k4 hc; have h2 := hpn hc; dsimp only; omega, by dsimp only; omega, k6, ⟨by dsimp only; omega, by show max o.acked k ≤ o.places; omega⟩, k8, by dsimp only; omega, by dsimp only; omega⟩, ((hS4.re ((List.perm_middle (l₁ := [_, _])).trans (.cons _ ((List.perm_middle (l₁ := [_, _])).trans (.cons _ ((List.perm_middle (l₁ := [_])).trans (.cons _ ((List.perm_middle (l₁ := [_])).trans (.cons _ (.refl _)))))))))).drop), _, _, _, _, _, _, _, _, _, _, _, _, _, _, _, _, _, _, _, _, _, _, _, _, rfl⟩
  · simp (disch := omega) only [vm0, vm1, vm2, vm3, vm4, vm5, vm6, vm7, fPick, fBox, fBuild, fBsl, fLd, fLda, fSt, fNilc, fBin, fEq, fUn, fMkf, fFa, fFld, fFlda, fExt, evo, wr, wrC, frame, Bool.not_true, Bool.not_false, beq_self_eq_true, List.cons_append, List.nil_append, Nat.add_zero, Nat.zero_add, Nat.reduceAdd, Nat.reduceMul, Nat.reduceSub, Bool.and_true, Bool.true_and, Bool.and_self, beq_dec, fApp, Int.toNat_natCast, Nat.sub_zero, vmI, vc8_0, ga]
    refine call_ok rfl rfl (withinP (n + 4) s N 9 hN (by omega) (by omega)) ?_
    rintro y s2 ⟨rfl, rfl⟩
    simp (disch := omega) only [vm0, vm1, vm2, vm3, vm4, vm5, vm6, vm7, fPick, fBox, fBuild, fBsl, fLd, fLda, fSt, fNilc, fBin, fEq, fUn, fMkf, fFa, fFld, fFlda, fExt, evo, wr, wrC, frame, Bool.not_true, Bool.not_false, beq_self_eq_true, List.cons_append, List.nil_append, Nat.add_zero, Nat.zero_add, Nat.reduceAdd, Nat.reduceMul, Nat.reduceSub, Bool.and_true, Bool.true_and, Bool.and_self, beq_dec, fApp, Int.toNat_natCast, Nat.sub_zero, vmI]
    exact ⟨rfl, ⟨L, t, o, T, lim + N % 9⟩, u, ⟨k1, k2, k3, k4, by dsimp only; omega, k6, k7, k8, by dsimp only; omega, by dsimp only; omega⟩, hS.drop, _, _, _, _, _, _, _, _, _, _, _, _, _, _, _, _, _, _, _, _, _, _, _, _, rfl⟩
  · subst hc
    have hu := (((hS.re ((List.perm_middle (l₁ := [_, _, _, _, _])).trans (.cons _ (.refl _)))))).rdW
    have eu := hu.lenV
    by_cases hT : 0 < T.length
    · simp (disch := omega) only [vm0, vm1, vm2, vm3, vm4, vm5, vm6, vm7, fPick, fBox, fBuild, fBsl, fLd, fLda, fSt, fNilc, fBin, fEq, fUn, fMkf, fFa, fFld, fFlda, fExt, evo, wr, wrC, frame, Bool.not_true, Bool.not_false, beq_self_eq_true, List.cons_append, List.nil_append, Nat.add_zero, Nat.zero_add, Nat.reduceAdd, Nat.reduceMul, Nat.reduceSub, Bool.and_true, Bool.true_and, Bool.and_self, beq_dec, fApp, Int.toNat_natCast, Nat.sub_zero, vmI, vc8_0, ga, eu]
      refine call_ok rfl rfl (withinP (n + 4) s N (T.length : Int) hN (by omega) (by omega)) ?_
      rintro y s2 ⟨rfl, rfl⟩
      obtain ⟨k, hk'⟩ : ∃ k : Nat, N % (T.length : Int) = (k : Int) := ⟨(N % (T.length : Int)).toNat, by rw [Int.toNat_of_nonneg (Int.emod_nonneg _ (by omega))]⟩
      have hkb : (k : Int) < T.length := by rw [← hk']; exact Int.emod_lt_of_pos _ (by omega)
      obtain ⟨e, he⟩ : ∃ e, T[k]? = some e := ⟨_, List.getElem?_eq_getElem (by omega)⟩
      have he2 := k8 e (List.mem_of_getElem? he)
      have g1 := hu.ia he
      have g2 := hu.at he
      obtain ⟨ea, eb⟩ := e
      dsimp only at he2
      rw [hk']
      simp (disch := omega) only [vm0, vm1, vm2, vm3, vm4, vm5, vm6, vm7, fPick, fBox, fBuild, fBsl, fLd, fLda, fSt, fNilc, fBin, fEq, fUn, fMkf, fFa, fFld, fFlda, fExt, evo, wr, wrC, frame, Bool.not_true, Bool.not_false, beq_self_eq_true, List.cons_append, List.nil_append, Nat.add_zero, Nat.zero_add, Nat.reduceAdd, Nat.reduceMul, Nat.reduceSub, Bool.and_true, Bool.true_and, Bool.and_self, beq_dec, fApp, Int.toNat_natCast, Nat.sub_zero, vmI, g1, g2, encR]
      have hS3 := hS.cell [num 0, num 0] [num ea, num eb]
      generalize (s2.new (.cells [.int .i64 (.c 0), .int .i64 (.c 0)] .own)).put s2.next (some (.cells [num ea, num eb] .own)) = s3 at *
      have g3 := hS3.getC
      generalize s2.next = b at *
      simp (disch := omega) only [vm0, vm1, vm2, vm3, vm4, vm5, vm6, vm7, fPick, fBox, fBuild, fBsl, fLd, fLda, fSt, fNilc, fBin, fEq, fUn, fMkf, fFa, fFld, fFlda, fExt, evo, wr, wrC, frame, Bool.not_true, Bool.not_false, beq_self_eq_true, List.cons_append, List.nil_append, Nat.add_zero, Nat.zero_add, Nat.reduceAdd, Nat.reduceMul, Nat.reduceSub, Bool.and_true, Bool.true_and, Bool.and_self, beq_dec, fApp, Int.toNat_natCast, Nat.sub_zero, vmI, iar0, iar1, g3]
      refine call_ok rfl rfl (d_lost hs (n + 2) s3 p L t _ ea eb ((hS3.re ((List.perm_middle (l₁ := [_, _])).trans (.cons _ (.refl _))))) k1 (by omega) (by omega)) ?_
      rintro y s4 hS4
      have g4 := hS4.swap.getC
      simp (disch := omega) only [vm0, vm1, vm2, vm3, vm4, vm5, vm6, vm7, fPick, fBox, fBuild, fBsl, fLd, fLda, fSt, fNilc, fBin, fEq, fUn, fMkf, fFa, fFld, fFlda, fExt, evo, wr, wrC, frame, Bool.not_true, Bool.not_false, beq_self_eq_true, List.cons_append, List.nil_append, Nat.add_zero, Nat.zero_add, Nat.reduceAdd, Nat.reduceMul, Nat.reduceSub, Bool.and_true, Bool.true_and, Bool.and_self, beq_dec, fApp, Int.toNat_natCast, Nat.sub_zero, vmI, iar0, iar1, g4]
      refine call_ok rfl rfl (y_lost (n + 2) s4 r L t _ ea eb ((hS4.re ((List.perm_middle (l₁ := [_, _, _, _])).trans (.cons _ (.refl _))))) k1 (by omega) (by omega)) ?_
      rintro y s5 hS5
      simp (disch := omega) only [vm0, vm1, vm2, vm3, vm4, vm5, vm6, vm7, fPick, fBox, fBuild, fBsl, fLd, fLda, fSt, fNilc, fBin, fEq, fUn, fMkf, fFa, fFld, fFlda, fExt, evo, wr, wrC, frame, Bool.not_true, Bool.not_false, beq_self_eq_true, List.cons_append, List.nil_append, Nat.add_zero, Nat.zero_add, Nat.reduceAdd, Nat.reduceMul, Nat.reduceSub, Bool.and_true, Bool.true_and, Bool.and_self, beq_dec, fApp, Int.toNat_natCast, Nat.sub_zero, vmI]
      exact ⟨rfl, ⟨addC ea eb L, t, o, T, lim⟩, u, ⟨addC_wf k1, ends_add k2 he2, k3, k4, by dsimp only; omega, k6, k7, k8, by dsimp only; omega, by dsimp only; omega⟩, ((hS5.re ((List.perm_middle (l₁ := [_, _])).trans (.cons _ ((List.perm_middle (l₁ := [_, _])).trans (.cons _ ((List.perm_middle (l₁ := [_])).trans (.cons _ ((List.perm_middle (l₁ := [_])).trans (.cons _ (.refl _)))))))))).drop.drop), _, _, _, _, _, _, _, _, _, _, _, _, _, _, _, _, _, _, _, _, _, _, _, _, rfl⟩
    · simp (disch := omega) only [vm0, vm1, vm2, vm3, vm4, vm5, vm6, vm7, fPick, fBox, fBuild, fBsl, fLd, fLda, fSt, fNilc, fBin, fEq, fUn, fMkf, fFa, fFld, fFlda, fExt, evo, wr, wrC, frame, Bool.not_true, Bool.not_false, beq_self_eq_true, List.cons_append, List.nil_append, Nat.add_zero, Nat.zero_add, Nat.reduceAdd, Nat.reduceMul, Nat.reduceSub, Bool.and_true, Bool.true_and, Bool.and_self, beq_dec, fApp, Int.toNat_natCast, Nat.sub_zero, vmI, vc8_0, ga, eu]
      exact ⟨rfl, ⟨L, t, o, T, lim⟩, u, hk2.mono, hS.drop, _, _, _, _, _, _, _, _, _, _, _, _, _, _, _, _, _, _, _, _, _, _, _, _, rfl⟩
  · subst hc
    have hu := (((hS.re ((List.perm_middle (l₁ := [_, _, _, _, _])).trans (.cons _ (.refl _)))))).rdW
    have eu := hu.lenV
    by_cases hT : 0 < T.length
    · simp (disch := omega) only [vm0, vm1, vm2, vm3, vm4, vm5, vm6, vm7, fPick, fBox, fBuild, fBsl, fLd, fLda, fSt, fNilc, fBin, fEq, fUn, fMkf, fFa, fFld, fFlda, fExt, evo, wr, wrC, frame, Bool.not_true, Bool.not_false, beq_self_eq_true, List.cons_append, List.nil_append, Nat.add_zero, Nat.zero_add, Nat.reduceAdd, Nat.reduceMul, Nat.reduceSub, Bool.and_true, Bool.true_and, Bool.and_self, beq_dec, fApp, Int.toNat_natCast, Nat.sub_zero, vmI, vc8_0, ga, eu]
      refine call_ok rfl rfl (withinP (n + 4) s N (T.length : Int) hN (by omega) (by omega)) ?_
      rintro y s2 ⟨rfl, rfl⟩
      obtain ⟨k, hk'⟩ : ∃ k : Nat, N % (T.length : Int) = (k : Int) := ⟨(N % (T.length : Int)).toNat, by rw [Int.toNat_of_nonneg (Int.emod_nonneg _ (by omega))]⟩
      have hkb : (k : Int) < T.length := by rw [← hk']; exact Int.emod_lt_of_pos _ (by omega)
      obtain ⟨e, he⟩ : ∃ e, T[k]? = some e := ⟨_, List.getElem?_eq_getElem (by omega)⟩
      have he2 := k8 e (List.mem_of_getElem? he)
      have g1 := hu.ia he
      have g2 := hu.at he
      obtain ⟨ea, eb⟩ := e
      dsimp only at he2
      rw [hk']
      simp (disch := omega) only [vm0, vm1, vm2, vm3, vm4, vm5, vm6, vm7, fPick, fBox, fBuild, fBsl, fLd, fLda, fSt, fNilc, fBin, fEq, fUn, fMkf, fFa, fFld, fFlda, fExt, evo, wr, wrC, frame, Bool.not_true, Bool.not_false, beq_self_eq_true, List.cons_append, List.nil_append, Nat.add_zero, Nat.zero_add, Nat.reduceAdd, Nat.reduceMul, Nat.reduceSub, Bool.and_true, Bool.true_and, Bool.and_self, beq_dec, fApp, Int.toNat_natCast, Nat.sub_zero, vmI, g1, g2, encR]
      have hS3 := hS.cell [num 0, num 0] [num ea, num eb]
      generalize (s2.new (.cells [.int .i64 (.c 0), .int .i64 (.c 0)] .own)).put s2.next (some (.cells [num ea, num eb] .own)) = s3 at *
      have g3 := hS3.getC
      generalize s2.next = b at *
      simp (disch := omega) only [vm0, vm1, vm2, vm3, vm4, vm5, vm6, vm7, fPick, fBox, fBuild, fBsl, fLd, fLda, fSt, fNilc, fBin, fEq, fUn, fMkf, fFa, fFld, fFlda, fExt, evo, wr, wrC, frame, Bool.not_true, Bool.not_false, beq_self_eq_true, List.cons_append, List.nil_append, Nat.add_zero, Nat.zero_add, Nat.reduceAdd, Nat.reduceMul, Nat.reduceSub, Bool.and_true, Bool.true_and, Bool.and_self, beq_dec, fApp, Int.toNat_natCast, Nat.sub_zero, vmI, iar0, iar1, g3]
      refine call_ok rfl rfl (d_lost hs (n + 2) s3 p L t _ ea eb ((hS3.re ((List.perm_middle (l₁ := [_, _])).trans (.cons _ (.refl _))))) k1 (by omega) (by omega)) ?_
      rintro y s4 hS4
      have g4 := hS4.swap.getC
      simp (disch := omega) only [vm0, vm1, vm2, vm3, vm4, vm5, vm6, vm7, fPick, fBox, fBuild, fBsl, fLd, fLda, fSt, fNilc, fBin, fEq, fUn, fMkf, fFa, fFld, fFlda, fExt, evo, wr, wrC, frame, Bool.not_true, Bool.not_false, beq_self_eq_true, List.cons_append, List.nil_append, Nat.add_zero, Nat.zero_add, Nat.reduceAdd, Nat.reduceMul, Nat.reduceSub, Bool.and_true, Bool.true_and, Bool.and_self, beq_dec, fApp, Int.toNat_natCast, Nat.sub_zero, vmI, iar0, iar1, g4]
      refine call_ok rfl rfl (y_lost (n + 2) s4 r L t _ ea eb ((hS4.re ((List.perm_middle (l₁ := [_, _, _, _])).trans (.cons _ (.refl _))))) k1 (by omega) (by omega)) ?_
      rintro y s5 hS5
      simp (disch := omega) only [vm0, vm1, vm2, vm3, vm4, vm5, vm6, vm7, fPick, fBox, fBuild, fBsl, fLd, fLda, fSt, fNilc, fBin, fEq, fUn, fMkf, fFa, fFld, fFlda, fExt, evo, wr, wrC, frame, Bool.not_true, Bool.not_false, beq_self_eq_true, List.cons_append, List.nil_append, Nat.add_zero, Nat.zero_add, Nat.reduceAdd, Nat.reduceMul, Nat.reduceSub, Bool.and_true, Bool.true_and, Bool.and_self, beq_dec, fApp, Int.toNat_natCast, Nat.sub_zero, vmI]
      exact ⟨rfl, ⟨addC ea eb L, t, o, T, lim⟩, u, ⟨addC_wf k1, ends_add k2 he2, k3, k4, by dsimp only; omega, k6, k7, k8, by dsimp only; omega, by dsimp only; omega⟩, ((hS5.re ((List.perm_middle (l₁ := [_, _])).trans (.cons _ ((List.perm_middle (l₁ := [_, _])).trans (.cons _ ((List.perm_middle (l₁ := [_])).trans (.cons _ ((List.perm_middle (l₁ := [_])).trans (.cons _ (.refl _)))))))))).drop.drop), _, _, _, _, _, _, _, _, _, _, _, _, _, _, _, _, _, _, _, _, _, _, _, _, rfl⟩
    · simp (disch := omega) only [vm0, vm1, vm2, vm3, vm4, vm5, vm6, vm7, fPick, fBox, fBuild, fBsl, fLd, fLda, fSt, fNilc, fBin, fEq, fUn, fMkf, fFa, fFld, fFlda, fExt, evo, wr, wrC, frame, Bool.not_true, Bool.not_false, beq_self_eq_true, List.cons_append, List.nil_append, Nat.add_zero, Nat.zero_add, Nat.reduceAdd, Nat.reduceMul, Nat.reduceSub, Bool.and_true, Bool.true_and, Bool.and_self, beq_dec, fApp, Int.toNat_natCast, Nat.sub_zero, vmI, vc8_0, ga, eu]
      exact ⟨rfl, ⟨L, t, o, T, lim⟩, u, hk2.mono, hS.drop, _, _, _, _, _, _, _, _, _, _, _, _, _, _, _, _, _, _, _, _, _, _, _, _, rfl⟩
  · simp (disch := omega) only [vm0, vm1, vm2, vm3, vm4, vm5, vm6, vm7, fPick, fBox, fBuild, fBsl, fLd, fLda, fSt, fNilc, fBin, fEq, fUn, fMkf, fFa, fFld, fFlda, fExt, evo, wr, wrC, frame, Bool.not_true, Bool.not_false, beq_self_eq_true, List.cons_append, List.nil_append, Nat.add_zero, Nat.zero_add, Nat.reduceAdd, Nat.reduceMul, Nat.reduceSub, Bool.and_true, Bool.true_and, Bool.and_self, beq_dec, fApp, Int.toNat_natCast, Nat.sub_zero, vmI, vc8_0, ga]
    refine call_ok rfl rfl (d_next (n + 2) s p q L t o _ lim ck hS.swap.up2.swap (by exact k1) (by omega) (by omega) (by omega) (by omega) (by omega) (by omega)) ?_
    rintro y s2 ⟨rfl, hS2⟩
    simp (disch := omega) only [vm0, vm1, vm2, vm3, vm4, vm5, vm6, vm7, fPick, fBox, fBuild, fBsl, fLd, fLda, fSt, fNilc, fBin, fEq, fUn, fMkf, fFa, fFld, fFlda, fExt, evo, wr, wrC, frame, Bool.not_true, Bool.not_false, beq_self_eq_true, List.cons_append, List.nil_append, Nat.add_zero, Nat.zero_add, Nat.reduceAdd, Nat.reduceMul, Nat.reduceSub, Bool.and_true, Bool.true_and, Bool.and_self, beq_dec, fApp, Int.toNat_natCast, Nat.sub_zero, vmI]
    refine call_ok rfl rfl (y_next (n + 2) s2 r x L t o _ lim ck ((hS2.re ((List.perm_middle (l₁ := [_, _, _])).trans (.cons _ ((List.perm_middle (l₁ := [_, _, _])).trans (.cons _ (.refl _))))))) k1 (by omega) (by omega) (by omega) (by omega) (by omega) (by omega) k2) ?_
    rintro y s3 ⟨rfl, hS3⟩
    obtain ⟨j1, j2, j3, j4⟩ := next_inv (limit := lim) (chunk := ck) k1 k2 k3
    obtain ⟨⟨L', t', ea, eb, ok⟩, hnx⟩ : ∃ w, nextP o lim ck L t = w := ⟨_, rfl⟩
    rw [hnx] at j1 j2 j3 j4 hS3 ⊢
    dsimp only at j1 j2 j3 j4 hS3 ⊢
    cases ok
    · simp (disch := omega) only [vm0, vm1, vm2, vm3, vm4, vm5, vm6, vm7, fPick, fBox, fBuild, fBsl, fLd, fLda, fSt, fNilc, fBin, fEq, fUn, fMkf, fFa, fFld, fFlda, fExt, evo, wr, wrC, frame, Bool.not_true, Bool.not_false, beq_self_eq_true, List.cons_append, List.nil_append, Nat.add_zero, Nat.zero_add, Nat.reduceAdd, Nat.reduceMul, Nat.reduceSub, Bool.and_true, Bool.true_and, Bool.and_self, beq_dec, fApp, Int.toNat_natCast, Nat.sub_zero, vmI]
      exact ⟨rfl, ⟨L', t', o, T, lim⟩, u, ⟨j1, j2, j3, k4, by dsimp only; omega, k6, k7, k8, by dsimp only; omega, by dsimp only; omega⟩, ((hS3.re ((List.perm_middle (l₁ := [_, _, _, _])).trans (.cons _ ((List.perm_middle (l₁ := [_, _])).trans (.cons _ ((List.perm_middle (l₁ := [_, _])).trans (.cons _ (.refl _)))))))).drop), _, _, _, _, _, _, _, _, _, _, _, _, _, _, _, _, _, _, _, _, _, _, _, _, rfl⟩
    · simp (disch := omega) only [vm0, vm1, vm2, vm3, vm4, vm5, vm6, vm7, fPick, fBox, fBuild, fBsl, fLd, fLda, fSt, fNilc, fBin, fEq, fUn, fMkf, fFa, fFld, fFlda, fExt, evo, wr, wrC, frame, Bool.not_true, Bool.not_false, beq_self_eq_true, List.cons_append, List.nil_append, Nat.add_zero, Nat.zero_add, Nat.reduceAdd, Nat.reduceMul, Nat.reduceSub, Bool.and_true, Bool.true_and, Bool.and_self, beq_dec, fApp, Int.toNat_natCast, Nat.sub_zero, vmI]
      obtain ⟨fo3, ho3, up⟩ := (((hS3.re ((List.perm_middle (l₁ := [_, _, _, _])).trans (.cons _ ((List.perm_middle (l₁ := [_, _, _, _])).trans (.cons _ ((List.perm_middle (l₁ := [_, _])).trans (.cons _ ((List.perm_middle (l₁ := [_, _])).trans (.cons _ (.refl _)))))))))).drop)).hd
      refine op_app1 ho3 (by (repeat' (first | exact Fr.refl | assumption | apply Fr.new' | apply Fr.mk' | apply Fr.put')) <;> (first | omega | (left; simp; done) | (right; simp only [next_put, next_new, next_mk]; omega) | (simp only [next_put, next_new, next_mk]; omega))) (x := (ea, eb)) rfl (by omega) ?_
      intro v' s9 fp' q1 q2 q3
      have hS9 := up (oW v' 2 encR (T ++ [(ea, eb)])) q1 q2 q3
      simp (disch := omega) only [vm0, vm1, vm2, vm3, vm4, vm5, vm6, vm7, fPick, fBox, fBuild, fBsl, fLd, fLda, fSt, fNilc, fBin, fEq, fUn, fMkf, fFa, fFld, fFlda, fExt, evo, wr, wrC, frame, Bool.not_true, Bool.not_false, beq_self_eq_true, List.cons_append, List.nil_append, Nat.add_zero, Nat.zero_add, Nat.reduceAdd, Nat.reduceMul, Nat.reduceSub, Bool.and_true, Bool.true_and, Bool.and_self, beq_dec, fApp, Int.toNat_natCast, Nat.sub_zero, vmI]
      exact ⟨rfl, ⟨L', t', o, T ++ [(ea, eb)], lim⟩, v', ⟨j1, j2, j3, k4, by dsimp only; omega, k6, k7, by
        intro z hz
        rcases List.mem_append.1 hz with hz | hz
        · exact k8 z hz
        · simp at hz; subst hz; exact j4, by simp; omega, by dsimp only; omega⟩, ((hS9.re ((List.perm_middle (l₁ := [_])).trans (.cons _ ((List.perm_middle (l₁ := [_])).trans (.cons _ ((List.perm_middle (l₁ := [_])).trans (.cons _ ((List.perm_middle (l₁ := [_])).trans (.cons _ (.refl _))))))))))), _, _, _, _, _, _, _, _, _, _, _, _, _, _, _, _, _, _, _, _, _, _, _, _, rfl⟩
end
end Go.Proofs.Ytekhpohcjfjhfaa.ctr
namespace Go.Proofs.Ytekhpohcjfjhfaa.ctr
open Go.Vm Go.RowKit Go.Ranges
set_option linter.unusedVariables false
set_option linter.unusedSimpArgs false
set_option linter.constructorNameAsVariable false
/-! ## acts of the law of chapter 14 -/
structure A14 where
  d : Int
  n : Int
  u : AV
  b : List Int
def encK (x : A14) : List AV := [num x.d, num x.n, x.u]
theorem encK_w : ∀ x, (encK x).length = 3 := fun _ => rfl
theorem _root_.Go.Vm.Arg0.acts14 {E : Env} {s : St} {w : World} (h : Arg0 E s w) {a : Option Addr} {len cap : Nat} {V : Nat → Value} (hq : IsRowV w a len cap 3 V) (hk : ∀ i, i < cap * 3 → FkOk w (([.i, .i, .S] : List Fk).getD (i % 3) .i) (V i)) :
    ∃ v E' s' l, Arg0 E' s' w ∧ E.le E' ∧ Fr s s' [] ∧ VR rho0 E' v (.slice a len cap) ∧ RdE s' v 3 encK l ∧ ∀ x ∈ l, In64 x.d ∧ In64 x.n ∧ RdE s' x.u 1 encB x.b := by
  obtain ⟨v, E', s', l, h1, h2, h3, h4, h5, _, h6⟩ := h.recs (ks := [.i, .i, .S]) hq hk (by decide) encK (fun f => ⟨(f 0).z, (f 1).z, (f 2).u, (f 2).l⟩) encK_w (by
    intro s f hf j hj
    have hj : j < 3 := hj
    have k0 : ClOk s (f 0) .i := hf 0 (by decide)
    have k1 : ClOk s (f 1) .i := hf 1 (by decide)
    have k2 : ClOk s (f 2) .S := hf 2 (by decide)
    rcases j with _ | _ | _ | j
    · rw [k0.i.1]; rfl
    · rw [k1.i.1]; rfl
    · rw [k2.S.1]; rfl
    · omega)
  refine ⟨v, E', s', l, h1, h2, h3, h4, h5, fun x hx => ?_⟩
  obtain ⟨f, rfl, hf⟩ := h6 x hx
  have k0 : ClOk s' (f 0) .i := hf 0 (by decide)
  have k1 : ClOk s' (f 1) .i := hf 1 (by decide)
  have k2 : ClOk s' (f 2) .S := hf 2 (by decide)
  exact ⟨k0.i.2, k1.i.2, k2.S.2.1⟩
noncomputable def vc8b : VC := (.seq (.reg [.i (.call (.c (.fn 32 [] [])) []), .i (.build [.int .i64 (.c 0), .nils] []), .i (.box (.t 0))] [(6, (.t 2)), (9, (.t 0))]) (.seq (.reg [.i (.call (.c (.fn 33 [] [])) [(.w 0)]), .i (.call (.c (.fn 42 [] [])) [(.w 0)])] [(5, (.t 1)), (8, (.t 0))]) (.seq (.seq (.reg [.i (.eq false .p (.w 6) (.c (.nilp))), .g (.t 0) false (.mv (.w 5)), .g (.t 1) false (.eq false .p (.t 0) (.c (.nilp))), .i (.pick (.t 2) (.c (.bool true)) (.t 0))] [(21, (.t 0))]) (.cond (.w 21) (.seq (.reg [] [(36, (.c (.bool false)))]) .ret) .skip)) (.seq (.reg [] [(13, (.c (.int .i64 (.c 5))))]) (.seq (.reg [] [(10, (.c (.nils)))]) (.seq (.seq (.reg [] [(7, (.c (.int .i64 (.c 0))))]) (.block 0 (.loop vc8_2))) (.seq (.reg [.i (.call (.c (.fn 38 [] [])) [])] [(36, (.t 0))]) .ret)))))))
theorem vc8_eq : vc8 = (.seq (.reg [] [(36, (.c (.bool false)))]) (.seq (.reg [.i (.call (.c (.fn 17 [] [])) [(.w 0), (.c (.int .i64 (.c 60)))]), .i (.bin .add (.c (.int .i64 (.c 10))) (.t 0))] [(0, (.t 0))]) (.seq (.seq (.reg [.i (.bin .rem (.w 1) (.c (.int .i64 (.c 7)))), .i (.bin .neq (.t 0) (.c (.int .i64 (.c 6))))] [(20, (.t 0))]) (.cond (.w 20) (.reg [.i (.call (.c (.fn 17 [] [])) [(.w 1), (.c (.int .i64 (.c 20)))])] [(1, (.t 0))]) .skip)) vc8b))) := rfl
section
variable {bd : Bd} {h : VF} {fu : Nat}
theorem pp_loop (hs : SortOk h) (n : Nat) (s : St) (v : AV) (buf ck : Int) (l : List A14) (z20 : Option AV) (hv : RdE s v 3 encK l) (ha : ∀ x ∈ l, In64 x.d ∧ In64 x.n ∧ RdE s x.u 1 encB x.b) (hB : 10 ≤ buf ∧ buf < 70) (hfu : 4000 < fu) :
    RsOk (exec bd (callF bd (tab h).get fu (n + 5)) fu vc8b [some (num buf), some (num ck), some v, none, none, none, none, none, none, none, none, none, none, none, none, none, none, none, none, none, z20, none, none, none, none, none, none, none, none, none, none, none, none, none, none, none, some (.bool false)] s) (retQ [.tmp 36] fun x s' => Is x (.bool true)) := by
  have hS0 : Sep s s [] := .nil
  simp (disch := omega) only [vm0, vm1, vm2, vm3, vm4, vm5, vm6, vm7, fPick, fBox, fBuild, fBsl, fLd, fLda, fSt, fNilc, fBin, fEq, fUn, fMkf, fFa, fFld, fFlda, fExt, evo, wr, wrC, frame, Bool.not_true, Bool.not_false, beq_self_eq_true, List.cons_append, List.nil_append, Nat.add_zero, Nat.zero_add, Nat.reduceAdd, Nat.reduceMul, Nat.reduceSub, Bool.and_true, Bool.true_and, Bool.and_self, beq_dec, fApp, Int.toNat_natCast, Nat.sub_zero, vmI, vc8b]
  refine call_ok rfl rfl (p_new (n + 3) s) ?_
  rintro x s1 ⟨p, fp, rfl, r1, r2, r3⟩
  have hS1 := hS0.push (P := oP p [] 0) r1 r2 r3
  simp (disch := omega) only [vm0, vm1, vm2, vm3, vm4, vm5, vm6, vm7, fPick, fBox, fBuild, fBsl, fLd, fLda, fSt, fNilc, fBin, fEq, fUn, fMkf, fFa, fFld, fFlda, fExt, evo, wr, wrC, frame, Bool.not_true, Bool.not_false, beq_self_eq_true, List.cons_append, List.nil_append, Nat.add_zero, Nat.zero_add, Nat.reduceAdd, Nat.reduceMul, Nat.reduceSub, Bool.and_true, Bool.true_and, Bool.and_self, beq_dec, fApp, Int.toNat_natCast, Nat.sub_zero, vmI]
  have hS2 := hS1.push (s' := s1.new (.cells [num 0, .nils] .own)) (P := oQ s1.next 0 []) (f := [s1.next]) ⟨.nils, [], get_new_eq rfl, .nil encR_w (by omega), by simp, rfl, by rw [next_new]; omega⟩ (by (repeat' (first | exact Fr.refl | assumption | apply Fr.new' | apply Fr.mk' | apply Fr.put')) <;> (first | omega | (left; simp; done) | (right; simp only [next_put, next_new, next_mk]; omega) | (simp only [next_put, next_new, next_mk]; omega))) (Nw.one (Nat.le_refl _))
  generalize s1.new (.cells [.int .i64 (.c 0), .nils] .own) = s2 at *
  generalize s1.next = r at *
  refine call_ok rfl rfl (o_new (n + 4) s2 buf) ?_
  rintro x s3 ⟨q, rfl, r4, r5, r6⟩
  rw [show min (max buf 1) 400 = buf by omega] at r6
  have hS3 := hS2.push (P := oO q _) r6 r5 (Nw.one r4)
  simp (disch := omega) only [vm0, vm1, vm2, vm3, vm4, vm5, vm6, vm7, fPick, fBox, fBuild, fBsl, fLd, fLda, fSt, fNilc, fBin, fEq, fUn, fMkf, fFa, fFld, fFlda, fExt, evo, wr, wrC, frame, Bool.not_true, Bool.not_false, beq_self_eq_true, List.cons_append, List.nil_append, Nat.add_zero, Nat.zero_add, Nat.reduceAdd, Nat.reduceMul, Nat.reduceSub, Bool.and_true, Bool.true_and, Bool.and_self, beq_dec, fApp, Int.toNat_natCast, Nat.sub_zero, vmI]
  refine call_ok rfl rfl (x_new (n + 3) s3 buf) ?_
  rintro y s4 ⟨x, rfl, r7, r8, r9⟩
  rw [show min (max buf 1) 400 = buf by omega] at r9
  have hS4 := hS3.push (P := oX x _) r9 r8 (Nw.one r7)
  have hS5 := hS4.push (P := oW .nils 2 encR ([] : List R)) (f := []) (.nil encR_w (by omega)) .refl (by simp [Nw])
  simp (disch := omega) only [vm0, vm1, vm2, vm3, vm4, vm5, vm6, vm7, fPick, fBox, fBuild, fBsl, fLd, fLda, fSt, fNilc, fBin, fEq, fUn, fMkf, fFa, fFld, fFlda, fExt, evo, wr, wrC, frame, Bool.not_true, Bool.not_false, beq_self_eq_true, List.cons_append, List.nil_append, Nat.add_zero, Nat.zero_add, Nat.reduceAdd, Nat.reduceMul, Nat.reduceSub, Bool.and_true, Bool.true_and, Bool.and_self, beq_dec, fApp, Int.toNat_natCast, Nat.sub_zero, vmI]
  refine x_loop (fun m F s' => ∃ (i : Nat) (S : PS) (u : AV), m = 40 - i ∧ i ≤ 40 ∧ S.Ok i ∧ Sep s s' (S.objs p q x r u) ∧ ∃ z3 z4 z11 z12 z14 z15 z16 z17 z18 z19 z20 z21 z22 z23 z24 z25 z26 z27 z28 z29 z30 z31 z32 z33 z34 z35, F = [some (num buf), some (num ck), some v, z3, z4, some (.ptr q 0), some (.ptr p 0), some (num (i : Int)), some (.ptr x 0), some (.ptr r 0), some u, z11, z12, some (num S.lim), z14, z15, z16, z17, z18, z19, z20, z21, z22, z23, z24, z25, z26, z27, z28, z29, z30, z31, z32, z33, z34, z35, some (.bool false)]) 40 (by omega) ?_ ?_
  · exact ⟨0, ⟨[], 0, ⟨[], buf, 0, false⟩, [], 5⟩, .nils, by omega, by omega, ⟨trivial, fun r hr => by simp at hr, ⟨Int.le_refl _, OB.places_bd.1⟩, fun _ => by simp, by simp, ⟨by dsimp only; omega, by dsimp only; omega⟩, ⟨Int.le_refl _, OB.places_bd.1⟩, fun r hr => by simp at hr, by simp, ⟨by show (0 : Int) ≤ 5; decide, by show (5 : Int) ≤ 5 + 9 * ((0 : Nat) : Int); decide⟩⟩, ((hS5.re ((List.perm_middle (l₁ := [_, _, _, _])).trans (.cons _ ((List.perm_middle (l₁ := [_, _])).trans (.cons _ ((List.perm_middle (l₁ := [_, _])).trans (.cons _ ((List.perm_middle (l₁ := [_])).trans (.cons _ (.refl _))))))))))), _, _, _, _, _, _, _, _, _, _, _, _, _, _, _, _, _, _, _, _, _, _, _, _, _, _, rfl⟩
  · rintro m F s5 ⟨i, S, u, rfl, hi, hk, hS6, z3, z4, z11, z12, z14, z15, z16, z17, z18, z19, z20, z21, z22, z23, z24, z25, z26, z27, z28, z29, z30, z31, z32, z33, z34, z35, rfl⟩ hm
    have hv5 := hv.fr0 hS6.frm
    have e0 := hv5.lenV
    by_cases hlt : i < l.length
    · by_cases hi4 : i < 40
      · obtain ⟨A, hA⟩ : ∃ A, l[i]? = some A := ⟨_, List.getElem?_eq_getElem hlt⟩
        obtain ⟨a1, a2, a3⟩ := ha A (List.mem_of_getElem? hA)
        have e1 := hv5.ia hA
        have e2 := hv5.at hA
        simp (disch := omega) only [vm0, vm1, vm2, vm3, vm4, vm5, vm6, vm7, fPick, fBox, fBuild, fBsl, fLd, fLda, fSt, fNilc, fBin, fEq, fUn, fMkf, fFa, fFld, fFlda, fExt, evo, wr, wrC, frame, Bool.not_true, Bool.not_false, beq_self_eq_true, List.cons_append, List.nil_append, Nat.add_zero, Nat.zero_add, Nat.reduceAdd, Nat.reduceMul, Nat.reduceSub, Bool.and_true, Bool.true_and, Bool.and_self, beq_dec, fApp, Int.toNat_natCast, Nat.sub_zero, vmI, vc8_2, vc8_1, e0, e1, e2, encK]
        have hS7 := hS6.cell [num 0, num 0, .nils] [num A.d, num A.n, A.u]
        generalize (s5.new (.cells [.int .i64 (.c 0), .int .i64 (.c 0), .nils] .own)).put s5.next (some (.cells [num A.d, num A.n, A.u] .own)) = s6 at *
        generalize s5.next = a at *
        refine call_ok rfl rfl (withinP (n + 4) s6 A.d 12 a1 (by omega) (by omega)) ?_
        rintro y s7 ⟨rfl, rfl⟩
        simp (disch := omega) only [vm0, vm1, vm2, vm3, vm4, vm5, vm6, vm7, fPick, fBox, fBuild, fBsl, fLd, fLda, fSt, fNilc, fBin, fEq, fUn, fMkf, fFa, fFld, fFlda, fExt, evo, wr, wrC, frame, Bool.not_true, Bool.not_false, beq_self_eq_true, List.cons_append, List.nil_append, Nat.add_zero, Nat.zero_add, Nat.reduceAdd, Nat.reduceMul, Nat.reduceSub, Bool.and_true, Bool.true_and, Bool.and_self, beq_dec, fApp, Int.toNat_natCast, Nat.sub_zero, vmI]
        refine (pp_switch hs n s7 S i buf ck v u a q p x r (A.d % 12) A.d A.n A.u A.b _ _ _ _ _ _ _ _ _ _ _ _ _ _ _ _ _ _ _ _ _ _ _ _ hk hi4 (by omega) a2 hS7 a3 hfu).mono ?_
        rintro e F s8 ⟨rfl, S', u', hk', hS8, z11, z12, z14, z15, z16, z17, z18, z19, z20, z21, z22, z23, z24, z25, z26, z27, z28, z29, z30, z31, z32, z33, z34, z35, rfl⟩
        simp (disch := omega) only [vm0, vm1, vm2, vm3, vm4, vm5, vm6, vm7, fPick, fBox, fBuild, fBsl, fLd, fLda, fSt, fNilc, fBin, fEq, fUn, fMkf, fFa, fFld, fFlda, fExt, evo, wr, wrC, frame, Bool.not_true, Bool.not_false, beq_self_eq_true, List.cons_append, List.nil_append, Nat.add_zero, Nat.zero_add, Nat.reduceAdd, Nat.reduceMul, Nat.reduceSub, Bool.and_true, Bool.true_and, Bool.and_self, beq_dec, fApp, Int.toNat_natCast, Nat.sub_zero, vmI]
        have hk3 := ends_len0 hk'.w hk'.e S'.o.places_bd.1
        have hk4 := S'.o.places_bd
        have hk5 := hk'.len
        refine call_ok rfl rfl (same14 (n + 1) s8 p r S'.L S'.t _ (show Sep s s8 (oP p S'.L S'.t :: oQ r S'.t S'.L :: [oO q S'.o, oX x S'.o, oW u' 2 encR S'.T]) from ((hS8.re (.cons _ ((List.perm_middle (l₁ := [_])).trans (.cons _ (.refl _))))))) (by omega) (by omega)) ?_
        rintro y s9 ⟨rfl, hS9⟩
        simp (disch := omega) only [vm0, vm1, vm2, vm3, vm4, vm5, vm6, vm7, fPick, fBox, fBuild, fBsl, fLd, fLda, fSt, fNilc, fBin, fEq, fUn, fMkf, fFa, fFld, fFlda, fExt, evo, wr, wrC, frame, Bool.not_true, Bool.not_false, beq_self_eq_true, List.cons_append, List.nil_append, Nat.add_zero, Nat.zero_add, Nat.reduceAdd, Nat.reduceMul, Nat.reduceSub, Bool.and_true, Bool.true_and, Bool.and_self, beq_dec, fApp, Int.toNat_natCast, Nat.sub_zero, vmI]
        exact ⟨40 - (i + 1), by omega, i + 1, S', u', rfl, by omega, hk', ((hS9.re (.cons _ ((List.perm_middle (l₁ := [_])).trans (.cons _ (.refl _)))))), _, _, _, _, _, _, _, _, _, _, _, _, _, _, _, _, _, _, _, _, _, _, _, _, _, _, rfl⟩
      · simp (disch := omega) only [vm0, vm1, vm2, vm3, vm4, vm5, vm6, vm7, fPick, fBox, fBuild, fBsl, fLd, fLda, fSt, fNilc, fBin, fEq, fUn, fMkf, fFa, fFld, fFlda, fExt, evo, wr, wrC, frame, Bool.not_true, Bool.not_false, beq_self_eq_true, List.cons_append, List.nil_append, Nat.add_zero, Nat.zero_add, Nat.reduceAdd, Nat.reduceMul, Nat.reduceSub, Bool.and_true, Bool.true_and, Bool.and_self, beq_dec, fApp, Int.toNat_natCast, Nat.sub_zero, vmI, vc8_2, vc8_1, e0]
        refine call_ok rfl rfl (wakes14 (n + 1) s5 (by omega)) ?_
        rintro y s6 ⟨rfl, _⟩
        simp (disch := omega) only [vm0, vm1, vm2, vm3, vm4, vm5, vm6, vm7, fPick, fBox, fBuild, fBsl, fLd, fLda, fSt, fNilc, fBin, fEq, fUn, fMkf, fFa, fFld, fFlda, fExt, evo, wr, wrC, frame, Bool.not_true, Bool.not_false, beq_self_eq_true, List.cons_append, List.nil_append, Nat.add_zero, Nat.zero_add, Nat.reduceAdd, Nat.reduceMul, Nat.reduceSub, Bool.and_true, Bool.true_and, Bool.and_self, beq_dec, fApp, Int.toNat_natCast, Nat.sub_zero, vmI]
        rfl
    · simp (disch := omega) only [vm0, vm1, vm2, vm3, vm4, vm5, vm6, vm7, fPick, fBox, fBuild, fBsl, fLd, fLda, fSt, fNilc, fBin, fEq, fUn, fMkf, fFa, fFld, fFlda, fExt, evo, wr, wrC, frame, Bool.not_true, Bool.not_false, beq_self_eq_true, List.cons_append, List.nil_append, Nat.add_zero, Nat.zero_add, Nat.reduceAdd, Nat.reduceMul, Nat.reduceSub, Bool.and_true, Bool.true_and, Bool.and_self, beq_dec, fApp, Int.toNat_natCast, Nat.sub_zero, vmI, vc8_2, vc8_1, e0]
      refine call_ok rfl rfl (wakes14 (n + 1) s5 (by omega)) ?_
      rintro y s6 ⟨rfl, _⟩
      simp (disch := omega) only [vm0, vm1, vm2, vm3, vm4, vm5, vm6, vm7, fPick, fBox, fBuild, fBsl, fLd, fLda, fSt, fNilc, fBin, fEq, fUn, fMkf, fFa, fFld, fFlda, fExt, evo, wr, wrC, frame, Bool.not_true, Bool.not_false, beq_self_eq_true, List.cons_append, List.nil_append, Nat.add_zero, Nat.zero_add, Nat.reduceAdd, Nat.reduceMul, Nat.reduceSub, Bool.and_true, Bool.true_and, Bool.and_self, beq_dec, fApp, Int.toNat_natCast, Nat.sub_zero, vmI]
      rfl
theorem plays14 (hs : SortOk h) (n : Nat) (s : St) (a0 c0 : Int) (v : AV) (l : List A14) (hv : RdE s v 3 encK l) (ha : ∀ x ∈ l, In64 x.d ∧ In64 x.n ∧ RdE s x.u 1 encB x.b) (hA : In64 a0) (hC : In64 c0) (hfu : 4000 < fu) :
    OutOk (callF bd (tab h).get fu (n + 6) 8 [num a0, num c0, v] s) (fun x s' => Is x (.bool true)) := by
  refine call_code (t8 h) rfl ?_
  simp (disch := omega) only [vm0, vm1, vm2, vm3, vm4, vm5, vm6, vm7, fPick, fBox, fBuild, fBsl, fLd, fLda, fSt, fNilc, fBin, fEq, fUn, fMkf, fFa, fFld, fFlda, fExt, evo, wr, wrC, frame, Bool.not_true, Bool.not_false, beq_self_eq_true, List.cons_append, List.nil_append, Nat.add_zero, Nat.zero_add, Nat.reduceAdd, Nat.reduceMul, Nat.reduceSub, Bool.and_true, Bool.true_and, Bool.and_self, beq_dec, fApp, Int.toNat_natCast, Nat.sub_zero, vmI, vc8_eq]
  refine call_ok rfl rfl (withinP (n + 4) s a0 60 hA (by omega) (by omega)) ?_
  rintro y s2 ⟨rfl, rfl⟩
  obtain ⟨m, hm⟩ : ∃ m, c0.tmod 7 = m := ⟨_, rfl⟩
  have h70 : (7 : Int) ≠ 0 := by decide
  by_cases hm6 : m = 6
  · subst hm6
    simp (disch := omega) only [vm0, vm1, vm2, vm3, vm4, vm5, vm6, vm7, fPick, fBox, fBuild, fBsl, fLd, fLda, fSt, fNilc, fBin, fEq, fUn, fMkf, fFa, fFld, fFlda, fExt, evo, wr, wrC, frame, Bool.not_true, Bool.not_false, beq_self_eq_true, List.cons_append, List.nil_append, Nat.add_zero, Nat.zero_add, Nat.reduceAdd, Nat.reduceMul, Nat.reduceSub, Bool.and_true, Bool.true_and, Bool.and_self, beq_dec, fApp, Int.toNat_natCast, Nat.sub_zero, vmI, b_rem h70, hm]
    exact pp_loop hs n s2 v (10 + a0 % 60) c0 l _ hv ha (by omega) hfu
  · simp (disch := omega) only [vm0, vm1, vm2, vm3, vm4, vm5, vm6, vm7, fPick, fBox, fBuild, fBsl, fLd, fLda, fSt, fNilc, fBin, fEq, fUn, fMkf, fFa, fFld, fFlda, fExt, evo, wr, wrC, frame, Bool.not_true, Bool.not_false, beq_self_eq_true, List.cons_append, List.nil_append, Nat.add_zero, Nat.zero_add, Nat.reduceAdd, Nat.reduceMul, Nat.reduceSub, Bool.and_true, Bool.true_and, Bool.and_self, beq_dec, fApp, Int.toNat_natCast, Nat.sub_zero, vmI, b_rem h70, hm]
    refine call_ok rfl rfl (withinP (n + 4) s2 c0 20 hC (by omega) (by omega)) ?_
    rintro y s3 ⟨rfl, rfl⟩
    simp (disch := omega) only [vm0, vm1, vm2, vm3, vm4, vm5, vm6, vm7, fPick, fBox, fBuild, fBsl, fLd, fLda, fSt, fNilc, fBin, fEq, fUn, fMkf, fFa, fFld, fFlda, fExt, evo, wr, wrC, frame, Bool.not_true, Bool.not_false, beq_self_eq_true, List.cons_append, List.nil_append, Nat.add_zero, Nat.zero_add, Nat.reduceAdd, Nat.reduceMul, Nat.reduceSub, Bool.and_true, Bool.true_and, Bool.and_self, beq_dec, fApp, Int.toNat_natCast, Nat.sub_zero, vmI]
    exact pp_loop hs n s3 v (10 + a0 % 60) (c0 % 20) l _ hv ha (by omega) hfu
end
end Go.Proofs.Ytekhpohcjfjhfaa.ctr
namespace Go.Proofs.Ytekhpohcjfjhfaa.planPlaysRun
open Go.Vm Go.RowKit Go.Proofs.Ytekhpohcjfjhfaa.ctr
set_option linter.unusedVariables false
set_option linter.unusedSimpArgs false
theorem mixed : Try.prog.follows .mixedOrders = true := by kernel_rfl
theorem walk (a0 : Int) (a1 : Int) (a2 : Option Addr) (len2 cap2 : Nat) (z2 : Nat → Value) (w : World) (w0 : (Lit.int .i64 a0).wf = true) (w1 : (Lit.int .i64 a1).wf = true) (hq2 : IsRowV w a2 len2 cap2 3 z2) (hk2 : ∀ i, i < cap2 * 3 → FkOk w (([.i, .i, .S] : List Fk).getD (i % 3) .i) (z2 i)) :
    Calls Try.prog 8 #[.int .i64 a0, .int .i64 a1, .slice a2 len2 cap2] w fun e w' => e = .returned (.bool true) ∧ Below w.heap.size w w' := by
  obtain ⟨v2, E2, s2, L2, g2, l2, f2, r2, d2, i2⟩ := (Arg0.start w).acts14 hq2 hk2
  have h := plays14 srt_ok (bd := bd0) (h := srt) (fu := 5000) 40 s2 a0 a1 v2 _ d2 i2 (wf64 w0) (wf64 w1) (by omega)
  exact law_okE bd0_ok mixed (tabS_all rho0) (t8 srt) g2.hr g2.own (.cons vr_int (.cons vr_int (.cons r2 .nil))) (yes_of' h fun _ _ h => h)
end Go.Proofs.Ytekhpohcjfjhfaa.planPlaysRun
