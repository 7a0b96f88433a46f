/- The law FlightAges returns true for every input, and leaves what was there as it was. -/
import Derived.Test.YtekhpohcjfjhfaaCtFl
import Derived.Test.YtekhpohcjfjhfaaCt1
import Derived.WalkKit
import Derived.ProofKit
namespace Go.Proofs.Ytekhpohcjfjhfaa.ctr
open Go.Vm Go.RowKit
set_option linter.unusedVariables false
set_option linter.unusedSimpArgs false
/-- what goes out in turn -/
def outO (la : List Int) (i : Nat) : O := (5 * (i : Int), (i : Int), (i : Int) + 1, la.getD i 0 % 40)
def outs (la : List Int) (n : Nat) : List O := (List.range n).map (outO la)
theorem outs_succ (la : List Int) (n : Nat) : outs la (n + 1) = outs la n ++ [outO la n] := by simp [outs, List.range_succ]
theorem outs_len (la : List Int) (n : Nat) : (outs la n).length = n := by simp [outs]
theorem outs_get (la : List Int) {n i : Nat} (h : i < n) : (outs la n)[i]? = some (outO la i) := by simp [outs, h]
theorem outs_mem {la : List Int} {n : Nat} {o : O} (h : o ∈ outs la n) : ∃ i, i < n ∧ o = outO la i := by
  simp only [outs, List.mem_map, List.mem_range] at h
  obtain ⟨i, h1, rfl⟩ := h
  exact ⟨i, h1, rfl⟩
theorem outs_none (la : List Int) (n : Nat) (k : Int) (h : ∀ i : Nat, i < n → 5 * (i : Int) ≠ k) : fst k (outs la n) 0 = -1 := fst_none fun o ho => by
  obtain ⟨i, hi, rfl⟩ := outs_mem ho
  exact h i hi
theorem outs_some (la : List Int) (n k : Nat) (h : k < n) : fst (5 * (k : Int)) (outs la n) 0 = k := by
  refine (fst_some (outs_get la h) rfl ?_).trans ?_
  rotate_left
  · omega
  · intro o ho
    have : (outs la n).take k = outs la k := by simp [outs, List.take_range, Nat.min_eq_left (Nat.le_of_lt h), ← List.map_take]
    rw [this] at ho
    obtain ⟨i, hi, rfl⟩ := outs_mem ho
    show 5 * (i : Int) ≠ 5 * (k : Int)
    omega
section
variable {bd : Bd} {h : VF} {fu : Nat}
/-- behind all of it: nobody of that number; what stays is dropped -/
theorem ages_end (n : Nat) (s0 s : St) (f : Nat) (l : List O) (X : List Nat) (hfr : Fr s0 s []) (hF : IsF s f l X) (hX : Nw s0 [] X) (hl : l.length < 900) (hfu : 1000 < fu) (vs : AV) (hvs : RdE s vs 4 encO l) (hvo : vout X vs) (hno : ∀ o ∈ l, o.1 ≠ 99)
    (x0 x1 x2 x3 x5 x6 x7 x9 x10 x11 x12 x13 x14 x15 x16 x17 x18 x19 x20 x21 x22 x23 x24 x25 x26 x27 x28 x29 x30 : Option AV) :
    RsOk (exec bd (callF bd (tab h).get fu (n + 10)) fu vc3_6 [x0, x1, x2, x3, some (.ptr f 0), x5, x6, x7, some vs, x9, x10, x11, x12, x13, x14, x15, x16, x17, x18, x19, x20, x21, x22, x23, x24, x25, x26, x27, x28, x29, x30] s) (retQ [.tmp 30] fun x s' => Is x (.bool true)) := by
  have hm1 : fst 99 l 0 = -1 := fst_none hno
  simp (disch := omega) only [vm0, vm1, vm2, vm3, vm4, vm5, vm6, vm7, fPick, fBox, fBuild, fBsl, fLd, fLda, fSt, fNilc, fBin, fEq, fUn, fMkf, fFa, fFld, fFlda, fExt, evo, wr, wrC, frame, Bool.not_true, Bool.not_false, beq_self_eq_true, List.cons_append, List.nil_append, Nat.add_zero, Nat.zero_add, Nat.reduceAdd, Nat.reduceMul, Nat.reduceSub, Bool.and_true, Bool.true_and, Bool.and_self, beq_dec, fApp, Int.toNat_natCast, Nat.sub_zero, vc3_6]
  refine call_ok rfl rfl (f_take (n + 6) s f l X 99 hF (by omega) (by omega)) ?_
  rintro x s1 ⟨X1, hx, hF1, hf1, hn1⟩
  rw [hm1, if_pos (by omega)] at hx hF1
  subst hx
  have hv1 := hvs.fr hf1 hvo
  simp (disch := omega) only [vm0, vm1, vm2, vm3, vm4, vm5, vm6, vm7, fPick, fBox, fBuild, fBsl, fLd, fLda, fSt, fNilc, fBin, fEq, fUn, fMkf, fFa, fFld, fFlda, fExt, evo, wr, wrC, frame, Bool.not_true, Bool.not_false, beq_self_eq_true, List.cons_append, List.nil_append, Nat.add_zero, Nat.zero_add, Nat.reduceAdd, Nat.reduceMul, Nat.reduceSub, Bool.and_true, Bool.true_and, Bool.and_self, beq_dec, fApp, Int.toNat_natCast, Nat.sub_zero, encO, o0]
  have hfa : Fr s1 ((s1.new (.cells [num 0, num 0, num 0, num 0] .own)).put s1.next (some (.cells [num 0, num 0, num 0, num 0] .own))) [] := (by (repeat' (first | exact Fr.refl | assumption | apply Fr.new' | apply Fr.mk' | apply Fr.put')) <;> (first | omega | (left; simp; done) | (right; simp only [next_put, next_new, next_mk]; omega) | (simp only [next_put, next_new, next_mk]; omega)))
  generalize (s1.new (.cells [num 0, num 0, num 0, num 0] .own)).put s1.next (some (.cells [num 0, num 0, num 0, num 0] .own)) = s2 at *
  have hF2 := hF1.fr hfa (by simp)
  have hv2 := hv1.fr0 hfa
  refine call_ok rfl rfl (f_drop (n + 9) s2 f l X1 hF2) ?_
  rintro x s3 ⟨fv, ho3, hF3, hf3, rfl, hd3⟩
  have hvo1 : vout (f :: fv) vs := by
    cases vs with
    | sl b o len lo ex z =>
      intro hm
      rcases hn1 b hm with h | h
      · exact hvo h
      · have := hvs.lt; have : b < s.next := this; omega
    | _ => trivial
  have hv3 := hv2.fr hf3 hvo1
  simp (disch := omega) only [vm0, vm1, vm2, vm3, vm4, vm5, vm6, vm7, fPick, fBox, fBuild, fBsl, fLd, fLda, fSt, fNilc, fBin, fEq, fUn, fMkf, fFa, fFld, fFlda, fExt, evo, wr, wrC, frame, Bool.not_true, Bool.not_false, beq_self_eq_true, List.cons_append, List.nil_append, Nat.add_zero, Nat.zero_add, Nat.reduceAdd, Nat.reduceMul, Nat.reduceSub, Bool.and_true, Bool.true_and, Bool.and_self, beq_dec, fApp, Int.toNat_natCast, Nat.sub_zero]
  refine call_ok rfl rfl (sameO (n + 9) s3 x vs l l ho3.rd hv3 (by omega) (by omega)) ?_
  rintro x s4 ⟨rfl, rfl⟩
  simp (disch := omega) only [vm0, vm1, vm2, vm3, vm4, vm5, vm6, vm7, fPick, fBox, fBuild, fBsl, fLd, fLda, fSt, fNilc, fBin, fEq, fUn, fMkf, fFa, fFld, fFlda, fExt, evo, wr, wrC, frame, Bool.not_true, Bool.not_false, beq_self_eq_true, List.cons_append, List.nil_append, Nat.add_zero, Nat.zero_add, Nat.reduceAdd, Nat.reduceMul, Nat.reduceSub, Bool.and_true, Bool.true_and, Bool.and_self, beq_dec, fApp, Int.toNat_natCast, Nat.sub_zero, decide_true]
  refine call_ok rfl rfl (f_len_ (n + 9) s4 f [] _ hF3) ?_
  rintro x s5 ⟨rfl, rfl⟩
  simp (disch := omega) only [vm0, vm1, vm2, vm3, vm4, vm5, vm6, vm7, fPick, fBox, fBuild, fBsl, fLd, fLda, fSt, fNilc, fBin, fEq, fUn, fMkf, fFa, fFld, fFlda, fExt, evo, wr, wrC, frame, Bool.not_true, Bool.not_false, beq_self_eq_true, List.cons_append, List.nil_append, Nat.add_zero, Nat.zero_add, Nat.reduceAdd, Nat.reduceMul, Nat.reduceSub, Bool.and_true, Bool.true_and, Bool.and_self, beq_dec, fApp, Int.toNat_natCast, Nat.sub_zero, List.length_nil]
  refine call_ok rfl rfl (f_drop (n + 9) s5 f [] _ hF3) ?_
  rintro x s6 ⟨fv6, ho6, hF6, hf6, hX6, hd6⟩
  have l6 := ho6.rd.lenV
  simp only [List.length_nil] at l6
  simp (disch := omega) only [vm0, vm1, vm2, vm3, vm4, vm5, vm6, vm7, fPick, fBox, fBuild, fBsl, fLd, fLda, fSt, fNilc, fBin, fEq, fUn, fMkf, fFa, fFld, fFlda, fExt, evo, wr, wrC, frame, Bool.not_true, Bool.not_false, beq_self_eq_true, List.cons_append, List.nil_append, Nat.add_zero, Nat.zero_add, Nat.reduceAdd, Nat.reduceMul, Nat.reduceSub, Bool.and_true, Bool.true_and, Bool.and_self, beq_dec, fApp, Int.toNat_natCast, Nat.sub_zero, l6]
  refine call_ok rfl rfl (wakes15 n s6 hfu) ?_
  rintro x s7 ⟨rfl, _⟩
  simp (disch := omega) only [vm0, vm1, vm2, vm3, vm4, vm5, vm6, vm7, fPick, fBox, fBuild, fBsl, fLd, fLda, fSt, fNilc, fBin, fEq, fUn, fMkf, fFa, fFld, fFlda, fExt, evo, wr, wrC, frame, Bool.not_true, Bool.not_false, beq_self_eq_true, List.cons_append, List.nil_append, Nat.add_zero, Nat.zero_add, Nat.reduceAdd, Nat.reduceMul, Nat.reduceSub, Bool.and_true, Bool.true_and, Bool.and_self, beq_dec, fApp, Int.toNat_natCast, Nat.sub_zero]
  exact rfl
theorem vout_new {s0 s : St} {X X' : List Nat} {v : AV} {l : List O} (hv : RdE s v 4 encO l) (ho : vout X v) (hn : Nw s X X') : vout X' v := by
  cases v with
  | sl b o len lo ex z =>
    intro hm
    rcases hn b hm with h | h
    · exact ho h
    · have : b < s.next := hv.lt; omega
  | _ => trivial
theorem late_late {now wait : Int} (l : List O) : (l.filter (fun o => !lateO now wait o)).filter (lateO now wait) = [] := by
  rw [List.filter_filter, List.filter_eq_nil_iff]
  intro o _
  cases lateO now wait o <;> simp
theorem late_stay {now wait : Int} (l : List O) : (l.filter (fun o => !lateO now wait o)).filter (fun o => !lateO now wait o) = l.filter (fun o => !lateO now wait o) := by
  rw [List.filter_filter]
  congr 1
  funext o
  cases lateO now wait o <;> rfl
theorem late_count {now wait : Int} (l : List O) : (l.filter (lateO now wait)).length + (l.filter (fun o => !lateO now wait o)).length = l.length := by
  induction l with
  | nil => rfl
  | cons o l ih =>
    simp only [List.filter_cons]
    cases lateO now wait o <;> simp <;> omega
theorem ages_tail (n : Nat) (s0 s : St) (f m : Nat) (l : List O) (X : List Nat) (now wait : Int) (hfr : Fr s0 s []) (hF : IsF s f l X) (hX : Nw s0 [] X) (hl : l.length < 900) (hlm : l.length = m - min m 1) (hm : m ≤ 10) (hfu : 1000 < fu) (b1 : -1000000000000 ≤ now) (b2 : now ≤ 1000000000000) (b3 : -1000000000000 ≤ wait) (b4 : wait ≤ 1000000000000)
    (vl vs : AV) (hvl : RdE s vl 4 encO (l.filter (lateO now wait))) (hvs : RdE s vs 4 encO (l.filter (fun o => !lateO now wait o))) (hlo : vout X vl) (hso : vout X vs) (hno : ∀ o ∈ l, o.1 ≠ 99)
    (x0 x3 x5 x7 x9 x10 x11 x13 x14 x15 x16 x17 x18 x19 x20 x21 x22 x23 x24 x25 x26 x27 x28 x29 x30 : Option AV) :
    RsOk (exec bd (callF bd (tab h).get fu (n + 10)) fu vc3_7 [x0, some (num now), some (num wait), x3, some (.ptr f 0), x5, some (num (m : Int)), x7, some vs, x9, x10, x11, some vl, x13, x14, x15, x16, x17, x18, x19, x20, x21, x22, x23, x24, x25, x26, x27, x28, x29, x30] s) (retQ [.tmp 30] fun x s' => Is x (.bool true)) := by
  have hc := late_count (now := now) (wait := wait) l
  have hfX : f ∈ X := by obtain ⟨v, fv, _, _, _, rfl, _⟩ := hF; simp
  simp (disch := omega) only [vm0, vm1, vm2, vm3, vm4, vm5, vm6, vm7, fPick, fBox, fBuild, fBsl, fLd, fLda, fSt, fNilc, fBin, fEq, fUn, fMkf, fFa, fFld, fFlda, fExt, evo, wr, wrC, frame, Bool.not_true, Bool.not_false, beq_self_eq_true, List.cons_append, List.nil_append, Nat.add_zero, Nat.zero_add, Nat.reduceAdd, Nat.reduceMul, Nat.reduceSub, Bool.and_true, Bool.true_and, Bool.and_self, beq_dec, fApp, Int.toNat_natCast, Nat.sub_zero, vc3_7]
  refine call_ok rfl rfl (f_late (n + 8) s f l X now wait hF (by omega) (by omega) b1 b2 b3 b4) ?_
  rintro x s1 ⟨fl, fr, ho1, hF1, hf1, hn1, hm1, hd1⟩
  have hw1 : Nw s X fr := fun b hb => (hm1 b hb).imp (fun h => by simp at h; rw [h]; exact hfX) id
  have hf1' : Fr s s1 X := hf1.mono fun b hb _ => by simp at hb; rw [hb]; exact hfX
  have vl1 := hvl.fr hf1' hlo
  have vs1 := hvs.fr hf1' hso
  have lo1 := vout_new (s0 := s) hvl hlo hw1
  have so1 := vout_new (s0 := s) hvs hso hw1
  simp (disch := omega) only [vm0, vm1, vm2, vm3, vm4, vm5, vm6, vm7, fPick, fBox, fBuild, fBsl, fLd, fLda, fSt, fNilc, fBin, fEq, fUn, fMkf, fFa, fFld, fFlda, fExt, evo, wr, wrC, frame, Bool.not_true, Bool.not_false, beq_self_eq_true, List.cons_append, List.nil_append, Nat.add_zero, Nat.zero_add, Nat.reduceAdd, Nat.reduceMul, Nat.reduceSub, Bool.and_true, Bool.true_and, Bool.and_self, beq_dec, fApp, Int.toNat_natCast, Nat.sub_zero]
  refine call_ok rfl rfl (sameO (n + 9) s1 x vl _ _ ho1.rd vl1 (by omega) (by omega)) ?_
  rintro x s2 ⟨rfl, rfl⟩
  simp (disch := omega) only [vm0, vm1, vm2, vm3, vm4, vm5, vm6, vm7, fPick, fBox, fBuild, fBsl, fLd, fLda, fSt, fNilc, fBin, fEq, fUn, fMkf, fFa, fFld, fFlda, fExt, evo, wr, wrC, frame, Bool.not_true, Bool.not_false, beq_self_eq_true, List.cons_append, List.nil_append, Nat.add_zero, Nat.zero_add, Nat.reduceAdd, Nat.reduceMul, Nat.reduceSub, Bool.and_true, Bool.true_and, Bool.and_self, beq_dec, fApp, Int.toNat_natCast, Nat.sub_zero, decide_true]
  refine call_ok rfl rfl (f_all (n + 8) s2 f _ fr hF1 (by omega)) ?_
  rintro x s3 ⟨fa, ho3, hf3, hn3⟩
  simp (disch := omega) only [vm0, vm1, vm2, vm3, vm4, vm5, vm6, vm7, fPick, fBox, fBuild, fBsl, fLd, fLda, fSt, fNilc, fBin, fEq, fUn, fMkf, fFa, fFld, fFlda, fExt, evo, wr, wrC, frame, Bool.not_true, Bool.not_false, beq_self_eq_true, List.cons_append, List.nil_append, Nat.add_zero, Nat.zero_add, Nat.reduceAdd, Nat.reduceMul, Nat.reduceSub, Bool.and_true, Bool.true_and, Bool.and_self, beq_dec, fApp, Int.toNat_natCast, Nat.sub_zero]
  refine call_ok rfl rfl (sameO (n + 9) s3 x vs _ _ ho3.rd (vs1.fr0 hf3) (by omega) (by omega)) ?_
  rintro x s4 ⟨rfl, rfl⟩
  simp (disch := omega) only [vm0, vm1, vm2, vm3, vm4, vm5, vm6, vm7, fPick, fBox, fBuild, fBsl, fLd, fLda, fSt, fNilc, fBin, fEq, fUn, fMkf, fFa, fFld, fFlda, fExt, evo, wr, wrC, frame, Bool.not_true, Bool.not_false, beq_self_eq_true, List.cons_append, List.nil_append, Nat.add_zero, Nat.zero_add, Nat.reduceAdd, Nat.reduceMul, Nat.reduceSub, Bool.and_true, Bool.true_and, Bool.and_self, beq_dec, fApp, Int.toNat_natCast, Nat.sub_zero, decide_true]
  have hF3 := hF1.fr hf3 (by simp)
  refine call_ok rfl rfl (f_late (n + 8) s4 f _ fr now wait hF3 (by omega) (by omega) b1 b2 b3 b4) ?_
  rintro x s5 ⟨fl5, fr5, ho5, hF5, hf5, hn5, hm5, hd5⟩
  have hff : f ∈ fr := by obtain ⟨v, fv, _, _, _, h, _⟩ := hF3; rw [h]; simp
  have hw5 : Nw s4 fr fr5 := fun b hb => (hm5 b hb).imp (fun h => by simp at h; rw [h]; exact hff) id
  have hf5' : Fr s4 s5 fr := hf5.mono fun b hb _ => by simp at hb; rw [hb]; exact hff
  have vl5 := (vl1.fr0 hf3).fr hf5' lo1
  have vs5 := (vs1.fr0 hf3).fr hf5' so1
  have so5 := vout_new (s0 := s) (vs1.fr0 hf3) so1 hw5
  have l5 := ho5.rd.lenV
  rw [late_late] at l5
  rw [late_stay] at hF5
  simp only [List.length_nil, Int.natCast_zero] at l5
  have hmm : min (m : Int) 1 = ((min m 1 : Nat) : Int) := by omega
  have hX5 : Nw s0 [] fr5 := (hX.nn hw1 hfr.1).nn hw5 (Nat.le_trans hfr.1 (Nat.le_trans hf1.1 hf3.1))
  have hfr5 : Fr s0 s5 [] := ((hfr.nn hf1' hX).trans hf3 (by simp) (by simp)).nn hf5' (hX.nn hw1 hfr.1)
  simp (disch := omega) only [vm0, vm1, vm2, vm3, vm4, vm5, vm6, vm7, fPick, fBox, fBuild, fBsl, fLd, fLda, fSt, fNilc, fBin, fEq, fUn, fMkf, fFa, fFld, fFlda, fExt, evo, wr, wrC, frame, Bool.not_true, Bool.not_false, beq_self_eq_true, List.cons_append, List.nil_append, Nat.add_zero, Nat.zero_add, Nat.reduceAdd, Nat.reduceMul, Nat.reduceSub, Bool.and_true, Bool.true_and, Bool.and_self, beq_dec, fApp, Int.toNat_natCast, Nat.sub_zero, vmI, l5, vl5.lenV, vs5.lenV]
  refine call_ok rfl rfl (f_all (n + 8) s5 f _ fr5 hF5 (by omega)) ?_
  rintro y s6 ⟨fy, ho6, hf6, hn6⟩
  have hF6 := hF5.fr hf6 (by simp)
  have vs6 := vs5.fr0 hf6
  have hlt5 := vs5.lt
  have hno5 : ∀ o ∈ l.filter (fun o => !lateO now wait o), o.1 ≠ 99 := fun o ho => hno o (List.mem_filter.1 ho).1
  have hsl : (l.filter (fun o => !lateO now wait o)).length ≤ l.length := List.length_filter_le _ _
  generalize l.filter (fun o => !lateO now wait o) = ls at *
  simp (disch := omega) only [vm0, vm1, vm2, vm3, vm4, vm5, vm6, vm7, fPick, fBox, fBuild, fBsl, fLd, fLda, fSt, fNilc, fBin, fEq, fUn, fMkf, fFa, fFld, fFlda, fExt, evo, wr, wrC, frame, Bool.not_true, Bool.not_false, beq_self_eq_true, List.cons_append, List.nil_append, Nat.add_zero, Nat.zero_add, Nat.reduceAdd, Nat.reduceMul, Nat.reduceSub, Bool.and_true, Bool.true_and, Bool.and_self, beq_dec, fApp, Int.toNat_natCast, Nat.sub_zero, ho6.rd.lenV]
  refine x_loop (fun k F s' => ∃ i : Nat, ∃ z x27 x28 l' fy', k = ls.length - i ∧ i ≤ ls.length ∧ z = (i : Int) ∧ F = [x0, some (num now), some (num wait), x3, some (.ptr f 0), x5, some (num (m : Int)), x7, some vs, x9, x10, x11, some vl, some (num z), some y, x15, x16, x17, x18, x19, x20, x21, x22, x23, x24, some (.bool false), some (num (ls.length : Int)), x27, x28, x29, x30] ∧
    Fr s5 s' [] ∧ l'.length = ls.length ∧ OwE s' y 4 encO l' fy' ∧ (∀ b ∈ fy', s5.next ≤ b)) ls.length (by omega) ?_ ?_
  · exact ⟨0, _, _, _, ls, fy, by omega, by omega, rfl, rfl, hf6, rfl, ho6, fun b hb => by have := hn6 b hb; simpa using this⟩
  · rintro k F s7 ⟨i, _, x27, x28, l', fy', rfl, hi, rfl, rfl, hf7, hl', ho7, hn7⟩ hk
    by_cases hlt : i < ls.length
    · obtain ⟨⟨a, b, c, d⟩, hx⟩ : ∃ x, l'[i]? = some x := ⟨_, List.getElem?_eq_getElem (by omega)⟩
      have e1 := ho7.rd.ia hx
      obtain ⟨s8, f8, w1, w2, w3, w4, w5⟩ := ho7.set hx (j := 0) (y := num 99) (x' := (99, b, c, d)) (by omega) rfl
      rw [Nat.add_zero] at w1
      simp (disch := omega) only [vm0, vm1, vm2, vm3, vm4, vm5, vm6, vm7, fPick, fBox, fBuild, fBsl, fLd, fLda, fSt, fNilc, fBin, fEq, fUn, fMkf, fFa, fFld, fFlda, fExt, evo, frame, Bool.not_true, Bool.not_false, beq_self_eq_true, List.cons_append, List.nil_append, Nat.add_zero, Nat.zero_add, Nat.reduceAdd, Nat.reduceMul, Nat.reduceSub, Bool.and_true, Bool.true_and, Bool.and_self, beq_dec, fApp, Int.toNat_natCast, Nat.sub_zero, vc3_5, vc3_4, e1, w1, wr64]
      refine ⟨ls.length - (i + 1), by omega, i + 1, _, _, _, l'.set i (99, b, c, d), f8, rfl, by omega, by omega, rfl, ?_, by simpa using hl', w2, fun b hb => hn7 b (w5 b hb)⟩
      exact hf7.trans w3 (by simp) (fun b hb hl => by have := hn7 b hb; omega)
    · simp (disch := omega) only [vm0, vm1, vm2, vm3, vm4, vm5, vm6, vm7, fPick, fBox, fBuild, fBsl, fLd, fLda, fSt, fNilc, fBin, fEq, fUn, fMkf, fFa, fFld, fFlda, fExt, evo, wr, wrC, frame, Bool.not_true, Bool.not_false, beq_self_eq_true, List.cons_append, List.nil_append, Nat.add_zero, Nat.zero_add, Nat.reduceAdd, Nat.reduceMul, Nat.reduceSub, Bool.and_true, Bool.true_and, Bool.and_self, beq_dec, fApp, Int.toNat_natCast, Nat.sub_zero, vc3_5]
      exact ages_end n s0 s7 f ls fr5 (hfr5.trans hf7 (by simp) (by simp)) (hF5.fr hf7 (by simp)) hX5 (by omega) hfu vs (vs5.fr0 hf7) so5 hno5 _ _ _ _ _ _ _ _ _ _ _ _ _ _ _ _ _ _ _ _ _ _ _ _ _ _ _ _ _
/-- late ones and the others, told apart -/
theorem ages_mid (n : Nat) (s0 s : St) (f m : Nat) (l : List O) (X : List Nat) (now wait : Int) (hfr : Fr s0 s []) (hF : IsF s f l X) (hX : Nw s0 [] X) (hl : l.length < 900) (hlm : l.length = m - min m 1) (hm : m ≤ 10) (hfu : 1000 < fu) (b1 : 0 ≤ now) (b2 : now ≤ 1000) (b3 : 0 ≤ wait) (b4 : wait ≤ 1000)
    (hno : ∀ o ∈ l, o.1 ≠ 99 ∧ 0 ≤ o.2.2.2 ∧ o.2.2.2 ≤ 1000)
    (x0 x3 x5 x7 x8 x9 x10 x11 x12 x13 x14 x15 x16 x17 x18 x19 x20 x21 x22 x23 x24 x25 x26 x27 x28 x29 x30 : Option AV) :
    RsOk (exec bd (callF bd (tab h).get fu (n + 10)) fu (.seq (.reg [] [(8, (.c (.nils))), (12, (.c (.nils)))]) (.seq (.seq (.reg [.i (.call (.c (.fn 20 [] [])) [(.w 4)]), .i (.len (.t 0))] [(10, (.c (.int .i64 (.c 0)))), (21, (.t 0)), (23, (.t 1))]) (.block 2 (.loop vc3_3))) vc3_7)) [x0, some (num now), some (num wait), x3, some (.ptr f 0), x5, some (num (m : Int)), x7, x8, x9, x10, x11, x12, x13, x14, x15, x16, x17, x18, x19, x20, x21, x22, x23, x24, x25, x26, x27, x28, x29, x30] s) (retQ [.tmp 30] fun x s' => Is x (.bool true)) := by
  simp (disch := omega) only [vm0, vm1, vm2, vm3, vm4, vm5, vm6, vm7, fPick, fBox, fBuild, fBsl, fLd, fLda, fSt, fNilc, fBin, fEq, fUn, fMkf, fFa, fFld, fFlda, fExt, evo, wr, wrC, frame, Bool.not_true, Bool.not_false, beq_self_eq_true, List.cons_append, List.nil_append, Nat.add_zero, Nat.zero_add, Nat.reduceAdd, Nat.reduceMul, Nat.reduceSub, Bool.and_true, Bool.true_and, Bool.and_self, beq_dec, fApp, Int.toNat_natCast, Nat.sub_zero]
  refine call_ok rfl rfl (f_all (n + 8) s f l X hF (by omega)) ?_
  rintro v s1 ⟨fa, ho1, hf1, hn1⟩
  simp (disch := omega) only [vm0, vm1, vm2, vm3, vm4, vm5, vm6, vm7, fPick, fBox, fBuild, fBsl, fLd, fLda, fSt, fNilc, fBin, fEq, fUn, fMkf, fFa, fFld, fFlda, fExt, evo, wr, wrC, frame, Bool.not_true, Bool.not_false, beq_self_eq_true, List.cons_append, List.nil_append, Nat.add_zero, Nat.zero_add, Nat.reduceAdd, Nat.reduceMul, Nat.reduceSub, Bool.and_true, Bool.true_and, Bool.and_self, beq_dec, fApp, Int.toNat_natCast, Nat.sub_zero, ho1.rd.lenV]
  refine x_loop (fun k F s' => ∃ i : Nat, ∃ z x11 x22 x24 vl vs fl fs, k = l.length - i ∧ i ≤ l.length ∧ z = (i : Int) ∧ F = [x0, some (num now), some (num wait), x3, some (.ptr f 0), x5, some (num (m : Int)), x7, some vs, x9, some (num z), x11, some vl, x13, x14, x15, x16, x17, x18, x19, x20, some (num (l.length : Int)), x22, some v, x24, x25, x26, x27, x28, x29, x30] ∧
    Fr s1 s' [] ∧ OwE s' vl 4 encO ((l.take i).filter (lateO now wait)) fl ∧ OwE s' vs 4 encO ((l.take i).filter (fun o => !lateO now wait o)) fs ∧ Nw s1 [] fl ∧ Nw s1 [] fs ∧ (∀ b ∈ fl, b ∉ fs)) l.length (by omega) ?_ ?_
  · exact ⟨0, _, _, _, _, _, _, [], [], by omega, by omega, rfl, rfl, .refl, .nil (by intro x; rfl) (by omega), .nil (by intro x; rfl) (by omega), by simp [Nw], by simp [Nw], by simp⟩
  · rintro k F s2 ⟨i, _, x11, x22, x24, vl, vs, fl, fs, rfl, hi, rfl, rfl, hf2, ol, os, nl, ns, hd⟩ hk
    have hv2 := ho1.fr0 hf2
    by_cases hlt : i < l.length
    · obtain ⟨⟨a, b, c, d⟩, hx⟩ : ∃ x, l[i]? = some x := ⟨_, List.getElem?_eq_getElem hlt⟩
      have hxb := (hno _ (List.mem_of_getElem? hx)).2
      simp only at hxb
      have e1 := hv2.rd.ia hx
      have e2 := hv2.rd.at hx
      have hbl := hv2.rd.blk' hx
      have ht : l.take (i + 1) = l.take i ++ [(a, b, c, d)] := by rw [List.take_add_one, hx]; rfl
      have hll : ((l.take i).filter (lateO now wait)).length ≤ i := Nat.le_trans (List.length_filter_le _ _) (by simp; omega)
      have hls : ((l.take i).filter (fun o => !lateO now wait o)).length ≤ i := Nat.le_trans (List.length_filter_le _ _) (by simp; omega)
      simp (disch := omega) only [vm0, vm1, vm2, vm3, vm4, vm5, vm6, vm7, fPick, fBox, fBuild, fBsl, fLd, fLda, fSt, fNilc, fBin, fEq, fUn, fMkf, fFa, fFld, fFlda, fExt, evo, wr, wrC, frame, Bool.not_true, Bool.not_false, beq_self_eq_true, List.cons_append, List.nil_append, Nat.add_zero, Nat.zero_add, Nat.reduceAdd, Nat.reduceMul, Nat.reduceSub, Bool.and_true, Bool.true_and, Bool.and_self, beq_dec, fApp, Int.toNat_natCast, Nat.sub_zero, vc3_3, vc3_2, e1, e2, encO, wr64]
      have hfa : Fr s2 ((s2.new (.cells [num 0, num 0, num 0, num 0] .own)).put s2.next (some (.cells [num a, num b, num c, num d] .own))) [] := (by (repeat' (first | exact Fr.refl | assumption | apply Fr.new' | apply Fr.mk' | apply Fr.put')) <;> (first | omega | (left; simp; done) | (right; simp only [next_put, next_new, next_mk]; omega) | (simp only [next_put, next_new, next_mk]; omega)))
      have hg : ((s2.new (.cells [num 0, num 0, num 0, num 0] .own)).put s2.next (some (.cells [num a, num b, num c, num d] .own))).heap.get s2.next = some (.cells [num a, num b, num c, num d] .own) := get_put_eq rfl
      generalize (s2.new (.cells [num 0, num 0, num 0, num 0] .own)).put s2.next (some (.cells [num a, num b, num c, num d] .own)) = s3 at *
      have ol3 := ol.fr0 hfa
      have os3 := os.fr0 hfa
      rw [show decide (d + wait ≤ now) = lateO now wait (a, b, c, d) from decide_eq_decide.2 ⟨fun h => by show d ≤ now - wait; omega, fun h => by have : d ≤ now - wait := h; omega⟩]
      cases hlate : lateO now wait (a, b, c, d)
      · simp (disch := omega) only [vm0, vm1, vm2, vm3, vm4, vm5, vm6, vm7, fPick, fBox, fBuild, fBsl, fLd, fLda, fSt, fNilc, fBin, fEq, fUn, fMkf, fFa, fFld, fFlda, fExt, evo, wr, wrC, frame, Bool.not_true, Bool.not_false, beq_self_eq_true, List.cons_append, List.nil_append, Nat.add_zero, Nat.zero_add, Nat.reduceAdd, Nat.reduceMul, Nat.reduceSub, Bool.and_true, Bool.true_and, Bool.and_self, beq_dec, fApp, Int.toNat_natCast, Nat.sub_zero, hg]
        refine op_app1 os3 (by (repeat' (first | exact Fr.refl | assumption | apply Fr.new' | apply Fr.mk' | apply Fr.put')) <;> (first | omega | (left; simp; done) | (right; simp only [next_put, next_new, next_mk]; omega) | (simp only [next_put, next_new, next_mk]; omega))) (x := (a, b, c, d)) rfl (by omega) ?_
        intro v' s4 fs' ho hf4 hnw
        simp (disch := omega) only [vm0, vm1, vm2, vm3, vm4, vm5, vm6, vm7, fPick, fBox, fBuild, fBsl, fLd, fLda, fSt, fNilc, fBin, fEq, fUn, fMkf, fFa, fFld, fFlda, fExt, evo, wr, wrC, frame, Bool.not_true, Bool.not_false, beq_self_eq_true, List.cons_append, List.nil_append, Nat.add_zero, Nat.zero_add, Nat.reduceAdd, Nat.reduceMul, Nat.reduceSub, Bool.and_true, Bool.true_and, Bool.and_self, beq_dec, fApp, Int.toNat_natCast, Nat.sub_zero, wr64]
        refine ⟨l.length - (i + 1), by omega, i + 1, _, _, _, _, _, _, fl, fs', rfl, by omega, by omega, rfl, ?_, ?_, ?_, nl, ?_, ?_⟩
        · exact (hf2.trans hfa (fp2 := []) (by simp) (by simp)).nn hf4 ns
        · rw [ht, List.filter_append]; simp only [List.filter_cons, List.filter_nil, hlate]; simpa using ol3.fr hf4 hd
        · rw [ht, List.filter_append]; simp only [List.filter_cons, List.filter_nil, hlate]; simpa using ho
        · exact ns.nn hnw (Nat.le_trans hf2.1 hfa.1)
        · intro b hb hb'
          rcases hnw b hb' with h | h
          · exact hd b hb h
          · have := ol.lt b hb; have := hfa.1; omega
      · simp (disch := omega) only [vm0, vm1, vm2, vm3, vm4, vm5, vm6, vm7, fPick, fBox, fBuild, fBsl, fLd, fLda, fSt, fNilc, fBin, fEq, fUn, fMkf, fFa, fFld, fFlda, fExt, evo, wr, wrC, frame, Bool.not_true, Bool.not_false, beq_self_eq_true, List.cons_append, List.nil_append, Nat.add_zero, Nat.zero_add, Nat.reduceAdd, Nat.reduceMul, Nat.reduceSub, Bool.and_true, Bool.true_and, Bool.and_self, beq_dec, fApp, Int.toNat_natCast, Nat.sub_zero, hg]
        refine op_app1 ol3 (by (repeat' (first | exact Fr.refl | assumption | apply Fr.new' | apply Fr.mk' | apply Fr.put')) <;> (first | omega | (left; simp; done) | (right; simp only [next_put, next_new, next_mk]; omega) | (simp only [next_put, next_new, next_mk]; omega))) (x := (a, b, c, d)) rfl (by omega) ?_
        intro v' s4 fl' ho hf4 hnw
        simp (disch := omega) only [vm0, vm1, vm2, vm3, vm4, vm5, vm6, vm7, fPick, fBox, fBuild, fBsl, fLd, fLda, fSt, fNilc, fBin, fEq, fUn, fMkf, fFa, fFld, fFlda, fExt, evo, wr, wrC, frame, Bool.not_true, Bool.not_false, beq_self_eq_true, List.cons_append, List.nil_append, Nat.add_zero, Nat.zero_add, Nat.reduceAdd, Nat.reduceMul, Nat.reduceSub, Bool.and_true, Bool.true_and, Bool.and_self, beq_dec, fApp, Int.toNat_natCast, Nat.sub_zero, wr64]
        refine ⟨l.length - (i + 1), by omega, i + 1, _, _, _, _, _, _, fl', fs, rfl, by omega, by omega, rfl, ?_, ?_, ?_, ?_, ns, ?_⟩
        · exact (hf2.trans hfa (fp2 := []) (by simp) (by simp)).nn hf4 nl
        · rw [ht, List.filter_append]; simp only [List.filter_cons, List.filter_nil, hlate]; simpa using ho
        · rw [ht, List.filter_append]; simp only [List.filter_cons, List.filter_nil, hlate]; simpa using os3.fr hf4 (fun b hb hb' => hd b hb' hb)
        · exact nl.nn hnw (Nat.le_trans hf2.1 hfa.1)
        · intro b hb hb'
          rcases hnw b hb with h | h
          · exact hd b h hb'
          · have := os.lt b hb'; have := hfa.1; omega
    · simp (disch := omega) only [vm0, vm1, vm2, vm3, vm4, vm5, vm6, vm7, fPick, fBox, fBuild, fBsl, fLd, fLda, fSt, fNilc, fBin, fEq, fUn, fMkf, fFa, fFld, fFlda, fExt, evo, wr, wrC, frame, Bool.not_true, Bool.not_false, beq_self_eq_true, List.cons_append, List.nil_append, Nat.add_zero, Nat.zero_add, Nat.reduceAdd, Nat.reduceMul, Nat.reduceSub, Bool.and_true, Bool.true_and, Bool.and_self, beq_dec, fApp, Int.toNat_natCast, Nat.sub_zero, vc3_3]
      have htk : l.take i = l := List.take_of_length_le (by omega)
      rw [htk] at ol os
      have hF1 := hF.fr hf1 (by simp)
      have ho : ∀ (v : AV) (fl : List Nat) (l1 : List O), OwE s2 v 4 encO l1 fl → Nw s1 [] fl → vout X v := by
        intro v fl l1 h1 h2
        rcases h1.ow with ⟨rfl, _, _⟩ | ⟨b, len, lo, ex, k, J, rfl, _, _, _, h5⟩
        · trivial
        · intro hm
          have hb : b ∈ fl := by rcases h5 with ⟨_, rfl⟩ | ⟨m, _, _, rfl⟩ <;> simp
          have := h2 b hb
          have := hF1.lt b hm
          simp at *; omega
      exact ages_tail n s0 s2 f m l X now wait ((hfr.trans hf1 (fp2 := []) (by simp) (by simp)).trans hf2 (fp2 := []) (by simp) (by simp)) (hF1.fr hf2 (by simp)) hX hl hlm hm hfu (by omega) (by omega) (by omega) (by omega) vl vs ol.rd os.rd (ho _ _ _ ol nl) (ho _ _ _ os ns) (fun o ho => (hno o ho).1) _ _ _ _ _ _ _ _ _ _ _ _ _ _ _ _ _ _ _ _ _ _ _ _ _
theorem eraseIdx_mem {l : List O} {i : Nat} {o : O} (h : o ∈ l.eraseIdx i) : o ∈ l := List.mem_of_mem_eraseIdx h
theorem ages (n : Nat) (s : St) (va : AV) (a1 a2 a3 : Int) (la : List Int) (ha : RdE s va 1 encI la) (ba : ∀ x ∈ la, In64 x) (c1 : In64 a1) (c2 : In64 a2) (c3 : In64 a3) (hfu : 1000 < fu) :
    OutOk (callF bd (tab h).get fu (n + 11) 3 [va, num a1, num a2, num a3] s) (fun x s' => Is x (.bool true)) := by
  have m1 := Int.emod_nonneg a1 (show (40 : Int) ≠ 0 by omega)
  have m2 := Int.emod_lt_of_pos a1 (show (0 : Int) < 40 by omega)
  have m3 := Int.emod_nonneg a2 (show (20 : Int) ≠ 0 by omega)
  have m4 := Int.emod_lt_of_pos a2 (show (0 : Int) < 20 by omega)
  refine call_code (t3 h) rfl ?_
  simp (disch := omega) only [vm0, vm1, vm2, vm3, vm4, vm5, vm6, vm7, fPick, fBox, fBuild, fBsl, fLd, fLda, fSt, fNilc, fBin, fEq, fUn, fMkf, fFa, fFld, fFlda, fExt, evo, wr, wrC, frame, Bool.not_true, Bool.not_false, beq_self_eq_true, List.cons_append, List.nil_append, Nat.add_zero, Nat.zero_add, Nat.reduceAdd, Nat.reduceMul, Nat.reduceSub, Bool.and_true, Bool.true_and, Bool.and_self, beq_dec, fApp, Int.toNat_natCast, Nat.sub_zero, vc3]
  refine call_ok rfl rfl (f_new (n + 9) s) ?_
  rintro x s1 ⟨f, rfl, hf0, hf1, hF1⟩
  have ha1 := ha.fr0 hf1
  simp (disch := omega) only [vm0, vm1, vm2, vm3, vm4, vm5, vm6, vm7, fPick, fBox, fBuild, fBsl, fLd, fLda, fSt, fNilc, fBin, fEq, fUn, fMkf, fFa, fFld, fFlda, fExt, evo, wr, wrC, frame, Bool.not_true, Bool.not_false, beq_self_eq_true, List.cons_append, List.nil_append, Nat.add_zero, Nat.zero_add, Nat.reduceAdd, Nat.reduceMul, Nat.reduceSub, Bool.and_true, Bool.true_and, Bool.and_self, beq_dec, fApp, Int.toNat_natCast, Nat.sub_zero]
  refine call_ok rfl rfl (within (n + 9) s1 a1 40 c1 (by omega) (by omega)) ?_
  rintro x s2 ⟨rfl, rfl⟩
  simp (disch := omega) only [vm0, vm1, vm2, vm3, vm4, vm5, vm6, vm7, fPick, fBox, fBuild, fBsl, fLd, fLda, fSt, fNilc, fBin, fEq, fUn, fMkf, fFa, fFld, fFlda, fExt, evo, wr, wrC, frame, Bool.not_true, Bool.not_false, beq_self_eq_true, List.cons_append, List.nil_append, Nat.add_zero, Nat.zero_add, Nat.reduceAdd, Nat.reduceMul, Nat.reduceSub, Bool.and_true, Bool.true_and, Bool.and_self, beq_dec, fApp, Int.toNat_natCast, Nat.sub_zero]
  refine call_ok rfl rfl (within (n + 9) s2 a2 20 c2 (by omega) (by omega)) ?_
  rintro x s3 ⟨rfl, rfl⟩
  obtain ⟨m, hm⟩ : ∃ m : Nat, m = min la.length 10 := ⟨_, rfl⟩
  have hmi : min (la.length : Int) 10 = (m : Int) := by omega
  simp (disch := omega) only [vm0, vm1, vm2, vm3, vm4, vm5, vm6, vm7, fPick, fBox, fBuild, fBsl, fLd, fLda, fSt, fNilc, fBin, fEq, fUn, fMkf, fFa, fFld, fFlda, fExt, evo, wr, wrC, frame, Bool.not_true, Bool.not_false, beq_self_eq_true, List.cons_append, List.nil_append, Nat.add_zero, Nat.zero_add, Nat.reduceAdd, Nat.reduceMul, Nat.reduceSub, Bool.and_true, Bool.true_and, Bool.and_self, beq_dec, fApp, Int.toNat_natCast, Nat.sub_zero, vmI, ha1.lenV, hmi]
  refine x_loop (fun k F s' => ∃ i : Nat, ∃ z x16 x17 X, k = m - i ∧ i ≤ m ∧ z = (i : Int) ∧ F = [some va, some (num (a1 % 40)), some (num (a2 % 20)), some (num a3), some (.ptr f 0), some (num z), some (num (m : Int)), none, none, none, none, none, none, none, none, some (.bool false), x16, x17, none, none, none, none, none, none, none, none, none, none, none, none, some (.bool false)] ∧
    Fr s s' [] ∧ IsF s' f (outs la i) X ∧ Nw s [] X) m (by omega) ?_ ?_
  · exact ⟨0, _, _, _, [f], by omega, by omega, rfl, rfl, hf1, by simpa [outs] using hF1, .one hf0⟩
  · rintro k F s4 ⟨i, _, x16, x17, X, rfl, hi, rfl, rfl, hf4, hF4, hX⟩ hk
    have ha4 := ha.fr0 hf4
    by_cases hlt : i < m
    · obtain ⟨x, hx⟩ : ∃ x, la[i]? = some x := ⟨_, List.getElem?_eq_getElem (by omega)⟩
      have e1 := ha4.ia hx
      have e2 := ha4.at1 hx
      have q1 := Int.emod_nonneg x (show (40 : Int) ≠ 0 by omega)
      have q2 := Int.emod_lt_of_pos x (show (0 : Int) < 40 by omega)
      simp (disch := omega) only [vm0, vm1, vm2, vm3, vm4, vm5, vm6, vm7, fPick, fBox, fBuild, fBsl, fLd, fLda, fSt, fNilc, fBin, fEq, fUn, fMkf, fFa, fFld, fFlda, fExt, evo, wr, wrC, frame, Bool.not_true, Bool.not_false, beq_self_eq_true, List.cons_append, List.nil_append, Nat.add_zero, Nat.zero_add, Nat.reduceAdd, Nat.reduceMul, Nat.reduceSub, Bool.and_true, Bool.true_and, Bool.and_self, beq_dec, fApp, Int.toNat_natCast, Nat.sub_zero, vmI, vc3_1, vc3_0, e1, e2]
      refine call_ok rfl rfl (within (n + 9) s4 x 40 (ba x (List.mem_of_getElem? hx)) (by omega) (by omega)) ?_
      rintro y s5 ⟨rfl, rfl⟩
      simp (disch := omega) only [vm0, vm1, vm2, vm3, vm4, vm5, vm6, vm7, fPick, fBox, fBuild, fBsl, fLd, fLda, fSt, fNilc, fBin, fEq, fUn, fMkf, fFa, fFld, fFlda, fExt, evo, wr, wrC, frame, Bool.not_true, Bool.not_false, beq_self_eq_true, List.cons_append, List.nil_append, Nat.add_zero, Nat.zero_add, Nat.reduceAdd, Nat.reduceMul, Nat.reduceSub, Bool.and_true, Bool.true_and, Bool.and_self, beq_dec, fApp, Int.toNat_natCast, Nat.sub_zero]
      have hxo : outO la i = (5 * (i : Int), (i : Int), (i : Int) + 1, x % 40) := by simp [outO, List.getD, hx]
      refine call_ok rfl rfl (f_add (n + 6) s5 f (outs la i) X (5 * (i : Int), (i : Int), (i : Int) + 1, x % 40) hF4 (by rw [outs_len]; omega) (by rw [outs_len]; omega)) ?_
      rintro y s6 ⟨X6, hy, hF6, hf6, hn6⟩
      rw [← hxo] at hy hF6
      have hnone : fst (outO la i).1 (outs la i) 0 = -1 := outs_none la i _ fun j hj => by show 5 * (j : Int) ≠ 5 * (i : Int); omega
      rw [hnone] at hy hF6
      obtain rfl : y = .bool true := hy
      rw [if_pos (by omega), ← outs_succ] at hF6
      simp (disch := omega) only [vm0, vm1, vm2, vm3, vm4, vm5, vm6, vm7, fPick, fBox, fBuild, fBsl, fLd, fLda, fSt, fNilc, fBin, fEq, fUn, fMkf, fFa, fFld, fFlda, fExt, evo, wr, wrC, frame, Bool.not_true, Bool.not_false, beq_self_eq_true, List.cons_append, List.nil_append, Nat.add_zero, Nat.zero_add, Nat.reduceAdd, Nat.reduceMul, Nat.reduceSub, Bool.and_true, Bool.true_and, Bool.and_self, beq_dec, fApp, Int.toNat_natCast, Nat.sub_zero, wr64]
      exact ⟨m - (i + 1), by omega, i + 1, _, _, _, X6, rfl, by omega, by omega, rfl, hf4.nn hf6 hX, hF6, hX.nn hn6 hf4.1⟩
    · obtain rfl : i = m := by omega
      have hol := outs_len la i
      simp (disch := omega) only [vm0, vm1, vm2, vm3, vm4, vm5, vm6, vm7, fPick, fBox, fBuild, fBsl, fLd, fLda, fSt, fNilc, fBin, fEq, fUn, fMkf, fFa, fFld, fFlda, fExt, evo, wr, wrC, frame, Bool.not_true, Bool.not_false, beq_self_eq_true, List.cons_append, List.nil_append, Nat.add_zero, Nat.zero_add, Nat.reduceAdd, Nat.reduceMul, Nat.reduceSub, Bool.and_true, Bool.true_and, Bool.and_self, beq_dec, fApp, Int.toNat_natCast, Nat.sub_zero, vc3_1]
      unfold vc3_8
      rw [x_seq, x_reg, g_nil, q_end, q_then, x_seq]
      refine RsOk.mono (Q := fun e F' s' => Is e .normal ∧ ∃ l X' x7 x9 x18 x19 x20, F' = [some va, some (num (a1 % 40)), some (num (a2 % 20)), some (num a3), some (.ptr f 0), some (num (i : Int)), some (num (i : Int)), x7, none, x9, none, none, none, none, none, some (.bool false), some (.bool false), x17, x18, x19, x20, none, none, none, none, none, none, none, none, none, some (.bool false)] ∧
        Fr s s' [] ∧ IsF s' f l X' ∧ Nw s [] X' ∧ l.length = i - min i 1 ∧ (∀ o ∈ l, o ∈ outs la i)) ?_ ?_
      · by_cases h0 : i = 0
        · subst h0
          simp (disch := omega) only [vm0, vm1, vm2, vm3, vm4, vm5, vm6, vm7, fPick, fBox, fBuild, fBsl, fLd, fLda, fSt, fNilc, fBin, fEq, fUn, fMkf, fFa, fFld, fFlda, fExt, evo, wr, wrC, frame, Bool.not_true, Bool.not_false, beq_self_eq_true, List.cons_append, List.nil_append, Nat.add_zero, Nat.zero_add, Nat.reduceAdd, Nat.reduceMul, Nat.reduceSub, Bool.and_true, Bool.true_and, Bool.and_self, beq_dec, fApp, Int.toNat_natCast, Nat.sub_zero]
          exact ⟨rfl, _, X, _, _, _, _, _, rfl, hf4, hF4, hX, by simp [hol], fun o ho => ho⟩
        · obtain ⟨kk, hkk⟩ : ∃ k : Nat, a3 % (i : Int) = k := ⟨(a3 % (i : Int)).toNat, (Int.toNat_of_nonneg (Int.emod_nonneg _ (by omega))).symm⟩
          have hki : kk < i := by have := Int.emod_lt_of_pos a3 (show (0 : Int) < (i : Int) by omega); omega
          simp (disch := omega) only [vm0, vm1, vm2, vm3, vm4, vm5, vm6, vm7, fPick, fBox, fBuild, fBsl, fLd, fLda, fSt, fNilc, fBin, fEq, fUn, fMkf, fFa, fFld, fFlda, fExt, evo, wr, wrC, frame, Bool.not_true, Bool.not_false, beq_self_eq_true, List.cons_append, List.nil_append, Nat.add_zero, Nat.zero_add, Nat.reduceAdd, Nat.reduceMul, Nat.reduceSub, Bool.and_true, Bool.true_and, Bool.and_self, beq_dec, fApp, Int.toNat_natCast, Nat.sub_zero]
          refine call_ok rfl rfl (within (n + 9) s4 a3 i c3 (by omega) (by omega)) ?_
          rintro y s5 ⟨rfl, rfl⟩
          rw [hkk]
          simp (disch := omega) only [vm0, vm1, vm2, vm3, vm4, vm5, vm6, vm7, fPick, fBox, fBuild, fBsl, fLd, fLda, fSt, fNilc, fBin, fEq, fUn, fMkf, fFa, fFld, fFlda, fExt, evo, wr, wrC, frame, Bool.not_true, Bool.not_false, beq_self_eq_true, List.cons_append, List.nil_append, Nat.add_zero, Nat.zero_add, Nat.reduceAdd, Nat.reduceMul, Nat.reduceSub, Bool.and_true, Bool.true_and, Bool.and_self, beq_dec, fApp, Int.toNat_natCast, Nat.sub_zero, wr64]
          refine call_ok rfl rfl (f_take (n + 6) s5 f (outs la i) X (5 * (kk : Int)) hF4 (by omega) (by omega)) ?_
          rintro y s6 ⟨X6, hy, hF6, hf6, hn6⟩
          have hfs := outs_some la i kk hki
          have hix : ixO (5 * (kk : Int)) (outs la i) = kk := by unfold ixO; rw [hfs]; simp
          have hgd : (outs la i).getD kk o0 = outO la kk := by rw [List.getD, outs_get la hki]; rfl
          rw [hfs, if_neg (by omega), hix] at hy hF6
          rw [hgd] at hy
          subst hy
          have hf46 := hf4.nn hf6 hX
          obtain ⟨x, hx⟩ : ∃ x, la[kk]? = some x := ⟨_, List.getElem?_eq_getElem (by omega)⟩
          have hxo : outO la kk = (5 * (kk : Int), (kk : Int), (kk : Int) + 1, x % 40) := by simp [outO, List.getD, hx]
          have e1 := (ha.fr0 hf46).ia hx
          have e2 := (ha.fr0 hf46).at1 hx
          have hbl := (ha.fr0 hf46).blk' hx
          rw [hxo]
          simp (disch := omega) only [vm0, vm1, vm2, vm3, vm4, vm5, vm6, vm7, fPick, fBox, fBuild, fBsl, fLd, fLda, fSt, fNilc, fBin, fEq, fUn, fMkf, fFa, fFld, fFlda, fExt, evo, wr, wrC, frame, Bool.not_true, Bool.not_false, beq_self_eq_true, List.cons_append, List.nil_append, Nat.add_zero, Nat.zero_add, Nat.reduceAdd, Nat.reduceMul, Nat.reduceSub, Bool.and_true, Bool.true_and, Bool.and_self, beq_dec, fApp, Int.toNat_natCast, Nat.sub_zero, encO, e1, e2, wr64, decide_true, Bool.not_true]
          refine call_ok rfl rfl (within (n + 9) _ x 40 (ba x (List.mem_of_getElem? hx)) (by omega) (by omega)) ?_
          rintro y s7 ⟨rfl, rfl⟩
          simp (disch := omega) only [vm0, vm1, vm2, vm3, vm4, vm5, vm6, vm7, fPick, fBox, fBuild, fBsl, fLd, fLda, fSt, fNilc, fBin, fEq, fUn, fMkf, fFa, fFld, fFlda, fExt, evo, wr, wrC, frame, Bool.not_true, Bool.not_false, beq_self_eq_true, List.cons_append, List.nil_append, Nat.add_zero, Nat.zero_add, Nat.reduceAdd, Nat.reduceMul, Nat.reduceSub, Bool.and_true, Bool.true_and, Bool.and_self, beq_dec, fApp, Int.toNat_natCast, Nat.sub_zero, decide_true, Bool.not_true]
          refine ⟨rfl, (outs la i).eraseIdx kk, X6, _, _, _, _, _, rfl, hf46.trans (fp1 := []) (by (repeat' (first | exact Fr.refl | assumption | apply Fr.new' | apply Fr.mk' | apply Fr.put')) <;> (first | omega | (left; simp; done) | (right; simp only [next_put, next_new, next_mk]; omega) | (simp only [next_put, next_new, next_mk]; omega))) (by simp) (by simp), hF6.fr (fp' := []) (by (repeat' (first | exact Fr.refl | assumption | apply Fr.new' | apply Fr.mk' | apply Fr.put')) <;> (first | omega | (left; simp; done) | (right; simp only [next_put, next_new, next_mk]; omega) | (simp only [next_put, next_new, next_mk]; omega))) (by simp), hX.nn hn6 hf4.1, ?_, fun o ho => List.mem_of_mem_eraseIdx ho⟩
          rw [List.length_eraseIdx_of_lt (by omega), hol]; omega
      · rintro e F' s5 ⟨rfl, l, X', x7, x9, x18, x19, x20, rfl, hf5, hF5, hX5, hl5, ho5⟩
        rw [q_then]
        exact ages_mid n s s5 f i l X' (a1 % 40) (a2 % 20) hf5 hF5 hX5 (by omega) hl5 (by omega) hfu m1 (by omega) m3 (by omega) (fun o ho => by
          obtain ⟨j, hj, rfl⟩ := outs_mem (ho5 o ho)
          have q1 := Int.emod_nonneg (la.getD j 0) (show (40 : Int) ≠ 0 by omega)
          have q2 := Int.emod_lt_of_pos (la.getD j 0) (show (0 : Int) < 40 by omega)
          exact ⟨by show 5 * (j : Int) ≠ 99; omega, q1, by show la.getD j 0 % 40 ≤ 1000; omega⟩) _ _ _ _ _ _ _ _ _ _ _ _ _ _ _ _ _ _ _ _ _ _ _ _ _ _ _
end
end Go.Proofs.Ytekhpohcjfjhfaa.ctr
namespace Go.Proofs.Ytekhpohcjfjhfaa.flightAgesRun
open Go.Vm Go.RowKit Go.Proofs.Ytekhpohcjfjhfaa.ctr
set_option linter.unusedVariables false
set_option linter.unusedSimpArgs false
theorem mixed : Try.prog.follows .mixedOrders = true := by kernel_rfl
theorem walk (a0 : Option Addr) (len0 cap0 : Nat) (z0 : List Int) (a1 a2 a3 : Int) (w : World) (w1 : (Lit.int .i64 a1).wf = true) (w2 : (Lit.int .i64 a2).wf = true) (w3 : (Lit.int .i64 a3).wf = true) (hq0 : IsRowI w a0 len0 cap0 z0) :
    Calls Try.prog 3 #[.slice a0 len0 cap0, .int .i64 a1, .int .i64 a2, .int .i64 a3] w fun e w' => e = .returned (.bool true) ∧ Below w.heap.size w w' := by
  obtain ⟨v0, E0, s0, g0, l0, f0, r0, d0, i0⟩ := (Arg0.start w).ints hq0
  have h := ages (bd := bd0) (h := vf97) (fu := 5000) 40 s0 v0 a1 a2 a3 _ d0 i0 (wf64 w1) (wf64 w2) (wf64 w3) (by omega)
  exact law_okE bd0_ok mixed (tab_all rho0 vf97 (ok97 rho0)) (t3 vf97) g0.hr g0.own (.cons r0 (.cons vr_int (.cons vr_int (.cons vr_int .nil)))) (yes_of' h fun _ _ h => h)
end Go.Proofs.Ytekhpohcjfjhfaa.flightAgesRun
