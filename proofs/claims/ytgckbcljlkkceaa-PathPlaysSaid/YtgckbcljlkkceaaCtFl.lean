/- Contracts: what is out, and the reference's, within its path. -/
import Derived.Test.YtgckbcljlkkceaaCtTab
namespace Go.Proofs.Ytgckbcljlkkceaa.ctr
open Go.Vm Go.RowKit
set_option linter.unusedVariables false
set_option linter.unusedSimpArgs false
section
variable {bd : Bd} {fu : Nat}
theorem at1 (n : Nat) (s : St) (a b c d k : Int) (q : Nat) (kq : BK) (hq : s.heap.get q = some (.cells [num k] kq)) (hl : q < s.next) :
    OutOk (callF bd tab.get fu (n + 1) 135 [.agg [num a, num b, num c, num d], .ptr q 0] s) (fun x s' => Is x (.bool (decide (a = k))) ∧ Fr s s' []) := by
  refine call_code t135 rfl ?_
  simp (disch := omega) only [vm0, vm1, vm2, vm3, vm4, vm5, vm6, vm7, fPick, fBox, fBuild, fBsl, fLd, fLda, fSt, fNilc, fBin, fEq, fUn, fMkf, fFa, fFld, fFlda, fExt, evo, wr, wrC, frame, Bool.not_true, Bool.not_false, beq_self_eq_true, List.cons_append, List.nil_append, Nat.add_zero, Nat.zero_add, Nat.reduceAdd, Nat.reduceMul, Nat.reduceSub, Bool.and_true, Bool.true_and, Bool.and_self, beq_dec, fApp, Int.toNat_natCast, Nat.sub_zero, vc135, hq]
  exact ⟨rfl, .new⟩
/-- what is out: number, places, tick -/
abbrev O := Int × Int × Int × Int
def encO (o : O) : List AV := [num o.1, num o.2.1, num o.2.2.1, num o.2.2.2]
/-- the place of the first of that number, from i on -/
def fst (k : Int) : List O → Int → Int
  | [], _ => -1
  | o :: l, i => if o.1 = k then i else fst k l (i + 1)
theorem indexFunc (n : Nat) (s : St) (v : AV) (l : List O) (k : Int) (q : Nat) (kq : BK) (hq : s.heap.get q = some (.cells [num k] kq)) (hl : q < s.next) (hv : RdE s v 4 encO l) (hlen : l.length < fu) (hf : l.length < 1000000) :
    OutOk (callF bd tab.get fu (n + 2) 134 [v, .fn 135 [] [.ptr q 0]] s) (fun x s' => Is x (num (fst k l 0)) ∧ Fr s s' []) := by
  refine call_code t134 rfl ?_
  simp (disch := omega) only [vm0, vm1, vm2, vm3, vm4, vm5, vm6, vm7, fPick, fBox, fBuild, fBsl, fLd, fLda, fSt, fNilc, fBin, fEq, fUn, fMkf, fFa, fFld, fFlda, fExt, evo, wr, wrC, frame, Bool.not_true, Bool.not_false, beq_self_eq_true, List.cons_append, List.nil_append, Nat.add_zero, Nat.zero_add, Nat.reduceAdd, Nat.reduceMul, Nat.reduceSub, Bool.and_true, Bool.true_and, Bool.and_self, beq_dec, fApp, Int.toNat_natCast, Nat.sub_zero, vc134, hv.lenV]
  refine x_loop (fun m F s' => ∃ i : Nat, ∃ z x3 x5 x6, m = l.length - i ∧ i ≤ l.length ∧ z = (i : Int) ∧ F = [some v, some (.fn 135 [] [.ptr q 0]), some (num z), x3, some (num (l.length : Int)), x5, x6, some (num 0)] ∧ Fr s s' [] ∧ fst k l 0 = fst k (l.drop i) i) l.length (by omega) ?_ ?_
  · exact ⟨0, _, _, _, _, by omega, by omega, rfl, rfl, .refl, rfl⟩
  · rintro m F s1 ⟨i, _, x3, x5, x6, rfl, hi, rfl, rfl, hfr, hfst⟩ hm
    have hv1 := hv.fr0 hfr
    have hq1 := (hfr.get hl (by simp)).trans hq
    by_cases hlt : i < l.length
    · obtain ⟨⟨a, b, c, d⟩, hx⟩ : ∃ x, l[i]? = some x := ⟨_, List.getElem?_eq_getElem hlt⟩
      have e1 := hv1.ia hx
      have e2 := hv1.at hx
      simp (disch := omega) only [vm0, vm1, vm2, vm3, vm4, vm5, vm6, vm7, fPick, fBox, fBuild, fBsl, fLd, fLda, fSt, fNilc, fBin, fEq, fUn, fMkf, fFa, fFld, fFlda, fExt, evo, wr, wrC, frame, Bool.not_true, Bool.not_false, beq_self_eq_true, List.cons_append, List.nil_append, Nat.add_zero, Nat.zero_add, Nat.reduceAdd, Nat.reduceMul, Nat.reduceSub, Bool.and_true, Bool.true_and, Bool.and_self, beq_dec, fApp, Int.toNat_natCast, Nat.sub_zero, hq1, e1, e2, encO]
      refine call_ok rfl rfl (at1 n s1 a b c d k q kq hq1 (Nat.lt_of_lt_of_le hl hfr.1)) ?_
      rintro x s2 ⟨rfl, hfr2⟩
      rw [List.drop_eq_getElem_cons hlt, (List.getElem?_eq_some_iff.1 hx).2] at hfst
      by_cases hk : a = k
      · simp (disch := omega) only [vm0, vm1, vm2, vm3, vm4, vm5, vm6, vm7, fPick, fBox, fBuild, fBsl, fLd, fLda, fSt, fNilc, fBin, fEq, fUn, fMkf, fFa, fFld, fFlda, fExt, evo, wr, wrC, frame, Bool.not_true, Bool.not_false, beq_self_eq_true, List.cons_append, List.nil_append, Nat.add_zero, Nat.zero_add, Nat.reduceAdd, Nat.reduceMul, Nat.reduceSub, Bool.and_true, Bool.true_and, Bool.and_self, beq_dec, fApp, Int.toNat_natCast, Nat.sub_zero, hk]
        exact ⟨by show num _ = num _; rw [hfst]; simp [fst, hk], hfr.tr hfr2 (by simp [Nw])⟩
      · simp (disch := omega) only [vm0, vm1, vm2, vm3, vm4, vm5, vm6, vm7, fPick, fBox, fBuild, fBsl, fLd, fLda, fSt, fNilc, fBin, fEq, fUn, fMkf, fFa, fFld, fFlda, fExt, evo, wr, wrC, frame, Bool.not_true, Bool.not_false, beq_self_eq_true, List.cons_append, List.nil_append, Nat.add_zero, Nat.zero_add, Nat.reduceAdd, Nat.reduceMul, Nat.reduceSub, Bool.and_true, Bool.true_and, Bool.and_self, beq_dec, fApp, Int.toNat_natCast, Nat.sub_zero, wr64]
        refine ⟨l.length - (i + 1), by omega, i + 1, _, _, _, _, rfl, by omega, by omega, rfl, hfr.tr hfr2 (by simp [Nw]), ?_⟩
        rw [hfst]; simp [fst, hk]
    · simp (disch := omega) only [vm0, vm1, vm2, vm3, vm4, vm5, vm6, vm7, fPick, fBox, fBuild, fBsl, fLd, fLda, fSt, fNilc, fBin, fEq, fUn, fMkf, fFa, fFld, fFlda, fExt, evo, wr, wrC, frame, Bool.not_true, Bool.not_false, beq_self_eq_true, List.cons_append, List.nil_append, Nat.add_zero, Nat.zero_add, Nat.reduceAdd, Nat.reduceMul, Nat.reduceSub, Bool.and_true, Bool.true_and, Bool.and_self, beq_dec, fApp, Int.toNat_natCast, Nat.sub_zero]
      refine ⟨?_, hfr⟩
      rw [hfst, List.drop_eq_nil_of_le (by omega)]; rfl
/-- what is out on a path -/
def IsF (s : St) (p : Nat) (l : List O) (fp : List Nat) : Prop := ∃ v fv, s.heap.get p = some (.cells [v] .own) ∧ OwE s v 4 encO l fv ∧ p ∉ fv ∧ fp = p :: fv ∧ p < s.next
theorem IsF.fr {s s' : St} {p : Nat} {l : List O} {fp fp' : List Nat} (hF : IsF s p l fp) (hf : Fr s s' fp') (hd : ∀ b ∈ fp, b ∉ fp') : IsF s' p l fp := by
  obtain ⟨v, fv, h1, h2, h3, rfl, h5⟩ := hF
  exact ⟨v, fv, (hf.2 p h5 (hd p (by simp))).trans h1, h2.fr hf fun b hb => hd b (by simp [hb]), h3, rfl, Nat.lt_of_lt_of_le h5 hf.1⟩
theorem IsF.lt {s : St} {p : Nat} {l : List O} {fp : List Nat} (hF : IsF s p l fp) : Lt s fp := by
  obtain ⟨v, fv, h1, h2, h3, rfl, h5⟩ := hF
  intro b hb
  rcases List.mem_cons.1 hb with rfl | hb
  · exact h5
  · exact h2.lt b hb
theorem f_at (n : Nat) (s : St) (p : Nat) (l : List O) (fp : List Nat) (k : Int) (hF : IsF s p l fp) (hlen : l.length < fu) (hf : l.length < 1000000) :
    OutOk (callF bd tab.get fu (n + 3) 121 [.ptr p 0, num k] s) (fun x s' => Is x (num (fst k l 0)) ∧ Fr s s' []) := by
  refine call_code t121 rfl ?_
  obtain ⟨v, fv, h1, h2, h3, rfl, h5⟩ := hF
  simp (disch := omega) only [vm0, vm1, vm2, vm3, vm4, vm5, vm6, vm7, fPick, fBox, fBuild, fBsl, fLd, fLda, fSt, fNilc, fBin, fEq, fUn, fMkf, fFa, fFld, fFlda, fExt, evo, wr, wrC, frame, Bool.not_true, Bool.not_false, beq_self_eq_true, List.cons_append, List.nil_append, Nat.add_zero, Nat.zero_add, Nat.reduceAdd, Nat.reduceMul, Nat.reduceSub, Bool.and_true, Bool.true_and, Bool.and_self, beq_dec, fApp, Int.toNat_natCast, Nat.sub_zero, vc121, h1]
  have hfr : Fr s (s.new (.cells [num k] .own)) [] := .new
  refine call_ok rfl rfl (indexFunc n _ v l k s.next .own (get_new_eq rfl) (by rw [next_new]; omega) (h2.fr0 hfr).rd hlen hf) ?_
  rintro x s2 ⟨rfl, hfr2⟩
  simp (disch := omega) only [vm0, vm1, vm2, vm3, vm4, vm5, vm6, vm7, fPick, fBox, fBuild, fBsl, fLd, fLda, fSt, fNilc, fBin, fEq, fUn, fMkf, fFa, fFld, fFlda, fExt, evo, wr, wrC, frame, Bool.not_true, Bool.not_false, beq_self_eq_true, List.cons_append, List.nil_append, Nat.add_zero, Nat.zero_add, Nat.reduceAdd, Nat.reduceMul, Nat.reduceSub, Bool.and_true, Bool.true_and, Bool.and_self, beq_dec, fApp, Int.toNat_natCast, Nat.sub_zero]
  exact ⟨rfl, hfr.tr hfr2 (by simp [Nw])⟩
theorem f_new (n : Nat) (s : St) : OutOk (callF bd tab.get fu (n + 1) 78 [] s) (fun x s' => ∃ p, Is x (.ptr p 0) ∧ s.next ≤ p ∧ Fr s s' [] ∧ IsF s' p [] [p]) := by
  refine call_code t78 rfl ?_
  simp (disch := omega) only [vm0, vm1, vm2, vm3, vm4, vm5, vm6, vm7, fPick, fBox, fBuild, fBsl, fLd, fLda, fSt, fNilc, fBin, fEq, fUn, fMkf, fFa, fFld, fFlda, fExt, evo, wr, wrC, frame, Bool.not_true, Bool.not_false, beq_self_eq_true, List.cons_append, List.nil_append, Nat.add_zero, Nat.zero_add, Nat.reduceAdd, Nat.reduceMul, Nat.reduceSub, Bool.and_true, Bool.true_and, Bool.and_self, beq_dec, fApp, Int.toNat_natCast, Nat.sub_zero, vc78]
  exact ⟨s.next, rfl, by omega, .new, .nils, [], get_new_eq rfl, .nil (by intro x; rfl) (by omega), by simp, rfl, by rw [next_new]; omega⟩
end
end Go.Proofs.Ytgckbcljlkkceaa.ctr
namespace Go.Proofs.Ytgckbcljlkkceaa.ctr
open Go.Vm Go.RowKit
set_option linter.unusedVariables false
set_option linter.unusedSimpArgs false
section
variable {bd : Bd} {fu : Nat}
theorem f_add (n : Nat) (s : St) (p : Nat) (l : List O) (fp : List Nat) (o : O) (hF : IsF s p l fp) (hlen : l.length < fu) (hf : l.length < 1000) :
    OutOk (callF bd tab.get fu (n + 4) 83 [.ptr p 0, .agg (encO o)] s) (fun x s' => ∃ fp', Is x (.bool (decide (fst o.1 l 0 < 0))) ∧ IsF s' p (if fst o.1 l 0 < 0 then l ++ [o] else l) fp' ∧ Fr s s' fp ∧ Nw s fp fp') := by
  refine call_code t83 rfl ?_
  obtain ⟨a, b, c, d⟩ := o
  simp (disch := omega) only [vm0, vm1, vm2, vm3, vm4, vm5, vm6, vm7, fPick, fBox, fBuild, fBsl, fLd, fLda, fSt, fNilc, fBin, fEq, fUn, fMkf, fFa, fFld, fFlda, fExt, evo, wr, wrC, frame, Bool.not_true, Bool.not_false, beq_self_eq_true, List.cons_append, List.nil_append, Nat.add_zero, Nat.zero_add, Nat.reduceAdd, Nat.reduceMul, Nat.reduceSub, Bool.and_true, Bool.true_and, Bool.and_self, beq_dec, fApp, Int.toNat_natCast, Nat.sub_zero, vc83, encO]
  have hfr : Fr s (s.new (.cells [num a, num b, num c, num d] .own)) [] := .new
  have hq : (s.new (.cells [num a, num b, num c, num d] .own)).heap.get s.next = some (.cells [num a, num b, num c, num d] .own) := get_new_eq rfl
  have hn : s.next < (s.new (.cells [num a, num b, num c, num d] .own)).next := by rw [next_new]; omega
  generalize s.new (.cells [num a, num b, num c, num d] .own) = s1 at *
  have hF1 := hF.fr hfr (by simp)
  refine call_ok rfl rfl (f_at n s1 p l fp a hF1 hlen (by omega)) ?_
  rintro x s2 ⟨rfl, hfr2⟩
  have hfr3 := hfr.tr hfr2 (by simp [Nw])
  have hF2 := hF1.fr hfr2 (by simp)
  have hq2 := (hfr2.get hn (by simp)).trans hq
  by_cases hk : fst a l 0 < 0
  · obtain ⟨v, fv, h1, h2, h3, rfl, h5⟩ := hF2
    have hlt := h2.lt
    have hs2 : s.next < s2.next := Nat.lt_of_lt_of_le hn hfr2.1
    simp (disch := omega) only [vm0, vm1, vm2, vm3, vm4, vm5, vm6, vm7, fPick, fBox, fBuild, fBsl, fLd, fLda, fSt, fNilc, fBin, fEq, fUn, fMkf, fFa, fFld, fFlda, fExt, evo, wr, wrC, frame, Bool.not_true, Bool.not_false, beq_self_eq_true, List.cons_append, List.nil_append, Nat.add_zero, Nat.zero_add, Nat.reduceAdd, Nat.reduceMul, Nat.reduceSub, Bool.and_true, Bool.true_and, Bool.and_self, beq_dec, fApp, Int.toNat_natCast, Nat.sub_zero, h1, hq2]
    refine op_app1 h2 (by (repeat' (first | exact Fr.refl | assumption | apply Fr.new' | apply Fr.mk' | apply Fr.put')) <;> (first | omega | (left; simp; done) | (right; simp only [next_put, next_new, next_mk]; omega) | (simp only [next_put, next_new, next_mk]; omega))) (x := (a, b, c, d)) rfl (by omega) ?_
    intro v' s' fp' ho hf' hnw
    have h1' := (hf'.get h5 h3).trans h1
    simp (disch := omega) only [vm0, vm1, vm2, vm3, vm4, vm5, vm6, vm7, fPick, fBox, fBuild, fBsl, fLd, fLda, fSt, fNilc, fBin, fEq, fUn, fMkf, fFa, fFld, fFlda, fExt, evo, wr, wrC, frame, Bool.not_true, Bool.not_false, beq_self_eq_true, List.cons_append, List.nil_append, Nat.add_zero, Nat.zero_add, Nat.reduceAdd, Nat.reduceMul, Nat.reduceSub, Bool.and_true, Bool.true_and, Bool.and_self, beq_dec, fApp, Int.toNat_natCast, Nat.sub_zero, h1', ho.cells]
    have hp : p ∉ fp' := hnw.not h3 h5
    refine ⟨p :: fp', by show AV.bool _ = AV.bool _; simp [hk], ?_, .put' (.inl (by simp)) (hfr3.trans hf' (by simp) (fun b hb _ => by simp [hb])), hnw.cons hfr3.1⟩
    rw [if_pos hk]
    exact ⟨v', fp', get_put_eq rfl, ho.fr (fp' := [p]) (.put (.inl (by simp))) (by rintro b hb hm; simp at hm; subst hm; exact hp hb), hp, rfl, by rw [next_put]; exact Nat.lt_of_lt_of_le h5 hf'.1⟩
  · simp (disch := omega) only [vm0, vm1, vm2, vm3, vm4, vm5, vm6, vm7, fPick, fBox, fBuild, fBsl, fLd, fLda, fSt, fNilc, fBin, fEq, fUn, fMkf, fFa, fFld, fFlda, fExt, evo, wr, wrC, frame, Bool.not_true, Bool.not_false, beq_self_eq_true, List.cons_append, List.nil_append, Nat.add_zero, Nat.zero_add, Nat.reduceAdd, Nat.reduceMul, Nat.reduceSub, Bool.and_true, Bool.true_and, Bool.and_self, beq_dec, fApp, Int.toNat_natCast, Nat.sub_zero]
    exact ⟨fp, by show AV.bool _ = AV.bool _; simp [hk], by simpa [hk] using hF2, hfr3.mono (by simp), fun b hb => .inl hb⟩
end
end Go.Proofs.Ytgckbcljlkkceaa.ctr
namespace Go.Proofs.Ytgckbcljlkkceaa.ctr
open Go.Vm Go.RowKit
set_option linter.unusedVariables false
set_option linter.unusedSimpArgs false
section
variable {bd : Bd} {fu : Nat}
theorem delete (n : Nat) (s : St) (v : AV) (l : List O) (fp : List Nat) (i : Nat) (hO : OwE s v 4 encO l fp) (hi : i < l.length) (hf : l.length < 1000) :
    OutOk (callF bd tab.get fu (n + 1) 122 [v, num (i : Int), num ((i : Int) + 1)] s) (fun x s' => ∃ fp', OwE s' x 4 encO (l.eraseIdx i) fp' ∧ Fr s s' fp ∧ Nw s fp fp') := by
  refine call_code t122 rfl ?_
  rcases hO.ow with ⟨_, h0, _⟩ | ⟨b, len, lo, ex, k, J, rfl, h2, h3, h4, h5⟩
  · have := flat_len hO.wid l
    rw [h0] at this
    simp at this; omega
  have hlen : len = l.length := hO.len
  have ti : ((i : Int) + 1).toNat = i + 1 := by omega
  have e0 : sliceV 4 (.sl b 0 len lo ex 4) (some (num (i : Int))) (some (num ((i : Int) + 1))) (some (num (len : Int))) = some (.sl b (0 + i * 4) (i + 1 - i) (len - i) true 4) := by
    rw [sv_m (by omega) (by omega), bnd_s (by omega), bnd_s (by omega), ob_some, ob_some, ti, Int.toNat_natCast, Int.toNat_natCast, sli_k (by omega) (by omega) (by omega)]
  have e1 : sliceV 4 (.sl b 0 len lo ex 4) none (some (num (i : Int))) none = some (.sl b 0 i lo ex 4) := by
    rw [sv_s, bnd_n, bnd_s (by omega), ob_some, ob_some, Int.toNat_natCast, sli_k (by omega) (by omega) (by omega)]; simp
  obtain ⟨v2, e2, hr2⟩ := hO.rd.sliL (a := (i : Int) + 1) (by omega) (by omega)
  rw [ti] at hr2
  have hl2 := hr2.lenOf
  rw [List.length_drop] at hl2
  have hc2 := hr2.cellsOf
  rw [List.length_drop] at hc2
  simp (disch := omega) only [vm0, vm1, vm2, vm3, vm4, vm5, vm6, vm7, fPick, fBox, fBuild, fBsl, fLd, fLda, fSt, fNilc, fBin, fEq, fUn, fMkf, fFa, fFld, fFlda, fExt, evo, wr, wrC, frame, Bool.not_true, Bool.not_false, beq_self_eq_true, List.cons_append, List.nil_append, Nat.add_zero, Nat.zero_add, Nat.reduceAdd, Nat.reduceMul, Nat.reduceSub, Bool.and_true, Bool.true_and, Bool.and_self, beq_dec, fApp, Int.toNat_natCast, Nat.sub_zero, vc122, e0, e1, e2, hl2, hc2]
  have hsp : l.flatMap encO ++ J = (l.take i).flatMap encO ++ ((l.drop i).flatMap encO ++ J) := by rw [← List.append_assoc, ← List.flatMap_append, List.take_append_drop]
  rw [hsp] at h4
  have hw := hO.wid
  have f1 : ((l.take i).flatMap encO).length = i * 4 := by rw [flat_len hw]; simp; omega
  have f2 : ((l.drop (i + 1)).flatMap encO).length = (l.length - (i + 1)) * 4 := by rw [flat_len hw]; simp
  obtain ⟨s1, k1, fp1, a1, a2, a3, a4, a5, a6⟩ := app_room (s := s) (lo := lo) (ex := ex) f1 h4 h5 (new := (l.drop (i + 1)).flatMap encO) f2 (by omega)
  rw [a1]
  have hnew : (l.take i).flatMap encO ++ (l.drop (i + 1)).flatMap encO = (l.eraseIdx i).flatMap encO := by rw [← List.flatMap_append, List.eraseIdx_eq_take_drop_succ]
  have e3 : i + (l.length - (i + 1)) = len - 1 := by omega
  have e4 : sliceV 4 (.sl b 0 (len - 1) lo ex 4) (some (num ((len - 1 : Nat) : Int))) (some (num (len : Int))) none = some (.sl b (0 + (len - 1) * 4) (len - (len - 1)) (lo - (len - 1)) ex 4) := by
    rw [sv_s, bnd_s (by omega), bnd_s (by omega), ob_some, ob_some, Int.toNat_natCast, Int.toNat_natCast, sli_k (by omega) (by omega) (by omega)]
  have e5 : len - (len - 1) = 1 := by omega
  rw [hnew] at a3
  have f3 : ((l.eraseIdx i).flatMap encO).length = (len - 1) * 4 := by rw [flat_len hw, List.length_eraseIdx_of_lt hi]; congr 1; omega
  have f4 : ((l.drop i).flatMap encO ++ J).length ≥ (len - i) * 4 := by rw [List.length_append, flat_len hw]; simp; omega
  obtain ⟨s2, w1, w2, w3, w4⟩ := wr_in (i := (len - 1) * 4) a3 a4 (ys := [num 0, num 0, num 0, num 0]) (by
    rw [List.length_append, f3, List.length_drop, f2]
    simp only [List.length_cons, List.length_nil]; omega)
  simp (disch := omega) only [vm0, vm1, vm2, vm3, vm4, vm5, vm6, vm7, fPick, fBox, fBuild, fBsl, fLd, fLda, fSt, fNilc, fBin, fEq, fUn, fMkf, fFa, fFld, fFlda, fExt, evo, frame, Bool.not_true, Bool.not_false, beq_self_eq_true, List.cons_append, List.nil_append, Nat.add_zero, Nat.zero_add, Nat.reduceAdd, Nat.reduceMul, Nat.reduceSub, Bool.and_true, Bool.true_and, Bool.and_self, beq_dec, fApp, Int.toNat_natCast, Nat.sub_zero, e3, e4, fClr, e5, rep, List.append_nil, w1]
  refine ⟨[b], ?_, ?_, fun x hx => .inl (by simp at hx; subst hx; exact a6 x (by rcases a4 with ⟨_, rfl⟩ | ⟨m, _, _, rfl⟩ <;> simp))⟩
  · rw [List.append_assoc, List.take_left' f3] at w3
    exact ⟨.inr ⟨b, len - 1, lo, ex, .own, _, rfl, by omega, f3, w3, .inl ⟨rfl, rfl⟩⟩, hw, by omega, fun x hx => by
      simp at hx; subst hx; rw [w2, a2]
      exact hO.lt x (a6 x (by rcases a4 with ⟨_, rfl⟩ | ⟨m, _, _, rfl⟩ <;> simp))⟩
  · exact (show Fr s s1 fp from ⟨by rw [a2]; exact Nat.le_refl _, a5.2⟩).trans w4 (fun _ h _ => h) (fun b hb _ => a6 b hb)
end
end Go.Proofs.Ytgckbcljlkkceaa.ctr
namespace Go.Proofs.Ytgckbcljlkkceaa.ctr
open Go.Vm Go.RowKit
set_option linter.unusedVariables false
set_option linter.unusedSimpArgs false
theorem fst_cases (k : Int) : ∀ (l : List O) (i : Int), 0 ≤ i → fst k l i = -1 ∨ (i ≤ fst k l i ∧ fst k l i < i + l.length) := by
  intro l
  induction l with
  | nil => intro i _; exact .inl rfl
  | cons o l ih =>
    intro i hi
    unfold fst
    split
    · right; simp; omega
    · rcases ih (i + 1) (by omega) with h | h
      · exact .inl h
      · right; simp; omega
def o0 : O := (0, 0, 0, 0)
/-- where it stands -/
def ixO (k : Int) (l : List O) : Nat := (fst k l 0).toNat
section
variable {bd : Bd} {fu : Nat}
theorem f_take (n : Nat) (s : St) (p : Nat) (l : List O) (fp : List Nat) (k : Int) (hF : IsF s p l fp) (hlen : l.length < fu) (hf : l.length < 1000) :
    OutOk (callF bd tab.get fu (n + 4) 84 [.ptr p 0, num k] s) (fun x s' => ∃ fp', (if fst k l 0 < 0 then x = .tup [.agg (encO o0), .bool false] else x = .tup [.agg (encO (l.getD (ixO k l) o0)), .bool true]) ∧ IsF s' p (if fst k l 0 < 0 then l else l.eraseIdx (ixO k l)) fp' ∧ Fr s s' fp ∧ Nw s fp fp') := by
  refine call_code t84 rfl ?_
  simp (disch := omega) only [vm0, vm1, vm2, vm3, vm4, vm5, vm6, vm7, fPick, fBox, fBuild, fBsl, fLd, fLda, fSt, fNilc, fBin, fEq, fUn, fMkf, fFa, fFld, fFlda, fExt, evo, wr, wrC, frame, Bool.not_true, Bool.not_false, beq_self_eq_true, List.cons_append, List.nil_append, Nat.add_zero, Nat.zero_add, Nat.reduceAdd, Nat.reduceMul, Nat.reduceSub, Bool.and_true, Bool.true_and, Bool.and_self, beq_dec, fApp, Int.toNat_natCast, Nat.sub_zero, vc84]
  have hfr : Fr s (s.new (.cells [num 0, num 0, num 0, num 0] .own)) [] := .new
  have hq : (s.new (.cells [num 0, num 0, num 0, num 0] .own)).heap.get s.next = some (.cells [num 0, num 0, num 0, num 0] .own) := get_new_eq rfl
  have hn : s.next < (s.new (.cells [num 0, num 0, num 0, num 0] .own)).next := by rw [next_new]; omega
  generalize s.new (.cells [num 0, num 0, num 0, num 0] .own) = s1 at *
  have hF1 := hF.fr hfr (by simp)
  refine call_ok rfl rfl (f_at n s1 p l fp k hF1 hlen (by omega)) ?_
  rintro x s2 ⟨rfl, hfr2⟩
  have hfr3 := hfr.tr hfr2 (by simp [Nw])
  have hF2 := hF1.fr hfr2 (by simp)
  have hq2 := (hfr2.get hn (by simp)).trans hq
  have hs2 : s.next < s2.next := Nat.lt_of_lt_of_le hn hfr2.1
  by_cases hk : fst k l 0 < 0
  · simp (disch := omega) only [vm0, vm1, vm2, vm3, vm4, vm5, vm6, vm7, fPick, fBox, fBuild, fBsl, fLd, fLda, fSt, fNilc, fBin, fEq, fUn, fMkf, fFa, fFld, fFlda, fExt, evo, wr, wrC, frame, Bool.not_true, Bool.not_false, beq_self_eq_true, List.cons_append, List.nil_append, Nat.add_zero, Nat.zero_add, Nat.reduceAdd, Nat.reduceMul, Nat.reduceSub, Bool.and_true, Bool.true_and, Bool.and_self, beq_dec, fApp, Int.toNat_natCast, Nat.sub_zero, hq2]
    refine ⟨fp, by simp [hk, one, encO, o0], ?_, .put' (.inr (Nat.le_refl _)) (hfr3.mono (by simp)), fun b hb => .inl hb⟩
    have hl := hF.lt
    rw [if_pos hk]
    refine hF2.fr (fp' := [s.next]) (.put (.inl (by simp))) ?_
    intro b hb hm
    have := hl b hb
    simp at hm; omega
  · have hi : ixO k l < l.length ∧ fst k l 0 = (ixO k l : Int) := by
      unfold ixO
      rcases fst_cases k l 0 (by omega) with h | h <;> omega
    obtain ⟨hi, hfi⟩ := hi
    simp only [hk, if_false]
    rw [hfi]
    obtain ⟨v, fv, h1, h2, h3, rfl, h5⟩ := hF2
    have hlt := h2.lt
    obtain ⟨⟨a, b, c, d⟩, hx⟩ : ∃ x, l[ixO k l]? = some x := ⟨_, List.getElem?_eq_getElem hi⟩
    have hpn : p < s.next := hF.lt p (by simp)
    have e1 := h2.rd.ia hx
    have e2 := h2.rd.at hx
    have hb := h2.rd.blk' hx
    generalize hj : ixO k l = j at *
    simp (disch := omega) only [vm0, vm1, vm2, vm3, vm4, vm5, vm6, vm7, fPick, fBox, fBuild, fBsl, fLd, fLda, fSt, fNilc, fBin, fEq, fUn, fMkf, fFa, fFld, fFlda, fExt, evo, wr, wrC, frame, Bool.not_true, Bool.not_false, beq_self_eq_true, List.cons_append, List.nil_append, Nat.add_zero, Nat.zero_add, Nat.reduceAdd, Nat.reduceMul, Nat.reduceSub, Bool.and_true, Bool.true_and, Bool.and_self, beq_dec, fApp, Int.toNat_natCast, Nat.sub_zero, h1, e1, e2, encO, wr64]
    have hfa : Fr s2 ((s2.new (.cells [num 0, num 0, num 0, num 0] .own)).put s2.next (some (.cells [num a, num b, num c, num d] .own))) [] := (by (repeat' (first | exact Fr.refl | assumption | apply Fr.new' | apply Fr.mk' | apply Fr.put')) <;> (first | omega | (left; simp; done) | (right; simp only [next_put, next_new, next_mk]; omega) | (simp only [next_put, next_new, next_mk]; omega)))
    have hg : ((s2.new (.cells [num 0, num 0, num 0, num 0] .own)).put s2.next (some (.cells [num a, num b, num c, num d] .own))).heap.get s2.next = some (.cells [num a, num b, num c, num d] .own) := get_put_eq rfl
    have hgn : s2.next < ((s2.new (.cells [num 0, num 0, num 0, num 0] .own)).put s2.next (some (.cells [num a, num b, num c, num d] .own))).next := by rw [next_put, next_new]; omega
    generalize (s2.new (.cells [num 0, num 0, num 0, num 0] .own)).put s2.next (some (.cells [num a, num b, num c, num d] .own)) = s3 at *
    have hO3 := h2.fr0 hfa
    refine call_ok rfl rfl (delete (n + 2) s3 v l fv j hO3 hi hf) ?_
    rintro x s4 ⟨fp', hO4, hf4, hnw⟩
    have hp4 := (hf4.get (Nat.lt_of_lt_of_le h5 hfa.1) h3).trans ((hfa.get h5 (by simp)).trans h1)
    have hn2 : s2.next ∉ fv := fun hm => by have := hlt _ hm; omega
    have hn1 : s.next ∉ fv := fun hm => by have := hF.lt s.next (by simp [hm]); omega
    have hg4 := (hf4.get hgn hn2).trans hg
    have hq4 := (hf4.get (Nat.lt_of_lt_of_le hs2 hfa.1) hn1).trans ((hfa.get hs2 (by simp)).trans hq2)
    simp (disch := omega) only [vm0, vm1, vm2, vm3, vm4, vm5, vm6, vm7, fPick, fBox, fBuild, fBsl, fLd, fLda, fSt, fNilc, fBin, fEq, fUn, fMkf, fFa, fFld, fFlda, fExt, evo, wr, wrC, frame, Bool.not_true, Bool.not_false, beq_self_eq_true, List.cons_append, List.nil_append, Nat.add_zero, Nat.zero_add, Nat.reduceAdd, Nat.reduceMul, Nat.reduceSub, Bool.and_true, Bool.true_and, Bool.and_self, beq_dec, fApp, Int.toNat_natCast, Nat.sub_zero, hp4, hO4.cells, hg4, hq4]
    have hp' : p ∉ fp' := hnw.not h3 (Nat.lt_of_lt_of_le h5 hfa.1)
    have hq' : s.next ∉ fp' := hnw.not hn1 (Nat.lt_of_lt_of_le hs2 hfa.1)
    refine ⟨p :: fp', ?_, ⟨x, fp', ?_, ?_, hp', rfl, ?_⟩, ?_, ?_⟩
    · simp [one, hx, List.getD, encO]
    · rw [get_put_ne (by omega), get_put_eq rfl]
    · refine hO4.fr (fp' := [p, s.next]) (.put' (.inl (by simp)) (.put (.inl (by simp)))) ?_
      intro z hz hm
      simp at hm
      rcases hm with rfl | rfl
      · exact hp' hz
      · exact hq' hz
    · rw [next_put, next_put]; exact Nat.lt_of_lt_of_le h5 (Nat.le_trans hfa.1 hf4.1)
    · refine .put' (.inr (Nat.le_refl _)) (.put' (.inl (by simp)) ?_)
      exact (hfr3.trans hfa (fp2 := []) (by simp) (by simp)).trans hf4 (by simp) (fun b hb _ => by simp [hb])
    · exact hnw.cons (Nat.le_trans hfr3.1 hfa.1)
end
end Go.Proofs.Ytgckbcljlkkceaa.ctr
namespace Go.Proofs.Ytgckbcljlkkceaa.ctr
open Go.Vm Go.RowKit
set_option linter.unusedVariables false
set_option linter.unusedSimpArgs false
theorem eqO (bd : Bd) (x y : O) : eqFs bd [0, 0, 0, 0] (encO x) (encO y) = some (decide (x = y)) := by
  obtain ⟨a, b, c, d⟩ := x
  obtain ⟨a', b', c', d'⟩ := y
  simp only [encO, e_i, e_0, cnd_eq, Prod.mk.injEq]
  by_cases h1 : a = a' <;> by_cases h2 : b = b' <;> by_cases h3 : c = c' <;> by_cases h4 : d = d' <;> simp [h1, h2, h3, h4]
section
variable {bd : Bd} {fu : Nat}
theorem f_len_ (n : Nat) (s : St) (p : Nat) (l : List O) (fp : List Nat) (hF : IsF s p l fp) : OutOk (callF bd tab.get fu (n + 1) 99 [.ptr p 0] s) (fun x s' => Is x (num (l.length : Int)) ∧ Is s' s) := by
  refine call_code t99 rfl ?_
  obtain ⟨v, fv, h1, h2, h3, rfl, h5⟩ := hF
  simp (disch := omega) only [vm0, vm1, vm2, vm3, vm4, vm5, vm6, vm7, fPick, fBox, fBuild, fBsl, fLd, fLda, fSt, fNilc, fBin, fEq, fUn, fMkf, fFa, fFld, fFlda, fExt, evo, wr, wrC, frame, Bool.not_true, Bool.not_false, beq_self_eq_true, List.cons_append, List.nil_append, Nat.add_zero, Nat.zero_add, Nat.reduceAdd, Nat.reduceMul, Nat.reduceSub, Bool.and_true, Bool.true_and, Bool.and_self, beq_dec, fApp, Int.toNat_natCast, Nat.sub_zero, vc99, h1, h2.rd.lenV]
  exact ⟨rfl, rfl⟩
/-- is it late? -/
def lateO (now wait : Int) (o : O) : Bool := decide (o.2.2.2 ≤ now - wait)
theorem old (n : Nat) (s : St) (o : O) (now wait : Int) (h1 : -1000000000000 ≤ now) (h2 : now ≤ 1000000000000) (h3 : -1000000000000 ≤ wait) (h4 : wait ≤ 1000000000000) :
    OutOk (callF bd tab.get fu (n + 1) 124 [.agg (encO o), num now, num wait] s) (fun x s' => Is x (.bool (lateO now wait o)) ∧ Fr s s' []) := by
  refine call_code t124 rfl ?_
  obtain ⟨a, b, c, d⟩ := o
  rcases Int.lt_trichotomy wait 0 with hw | rfl | hw
  · simp (disch := omega) only [vm0, vm1, vm2, vm3, vm4, vm5, vm6, vm7, fPick, fBox, fBuild, fBsl, fLd, fLda, fSt, fNilc, fBin, fEq, fUn, fMkf, fFa, fFld, fFlda, fExt, evo, wr, wrC, frame, Bool.not_true, Bool.not_false, beq_self_eq_true, List.cons_append, List.nil_append, Nat.add_zero, Nat.zero_add, Nat.reduceAdd, Nat.reduceMul, Nat.reduceSub, Bool.and_true, Bool.true_and, Bool.and_self, beq_dec, fApp, Int.toNat_natCast, Nat.sub_zero, vc124, encO, wr64]
    exact ⟨rfl, (by (repeat' (first | exact Fr.refl | assumption | apply Fr.new' | apply Fr.mk' | apply Fr.put')) <;> (first | omega | (left; simp; done) | (right; simp only [next_put, next_new, next_mk]; omega) | (simp only [next_put, next_new, next_mk]; omega)))⟩
  · simp (disch := omega) only [vm0, vm1, vm2, vm3, vm4, vm5, vm6, vm7, fPick, fBox, fBuild, fBsl, fLd, fLda, fSt, fNilc, fBin, fEq, fUn, fMkf, fFa, fFld, fFlda, fExt, evo, wr, wrC, frame, Bool.not_true, Bool.not_false, beq_self_eq_true, List.cons_append, List.nil_append, Nat.add_zero, Nat.zero_add, Nat.reduceAdd, Nat.reduceMul, Nat.reduceSub, Bool.and_true, Bool.true_and, Bool.and_self, beq_dec, fApp, Int.toNat_natCast, Nat.sub_zero, vc124, encO, wr64]
    exact ⟨rfl, (by (repeat' (first | exact Fr.refl | assumption | apply Fr.new' | apply Fr.mk' | apply Fr.put')) <;> (first | omega | (left; simp; done) | (right; simp only [next_put, next_new, next_mk]; omega) | (simp only [next_put, next_new, next_mk]; omega)))⟩
  · simp (disch := omega) only [vm0, vm1, vm2, vm3, vm4, vm5, vm6, vm7, fPick, fBox, fBuild, fBsl, fLd, fLda, fSt, fNilc, fBin, fEq, fUn, fMkf, fFa, fFld, fFlda, fExt, evo, wr, wrC, frame, Bool.not_true, Bool.not_false, beq_self_eq_true, List.cons_append, List.nil_append, Nat.add_zero, Nat.zero_add, Nat.reduceAdd, Nat.reduceMul, Nat.reduceSub, Bool.and_true, Bool.true_and, Bool.and_self, beq_dec, fApp, Int.toNat_natCast, Nat.sub_zero, vc124, encO, wr64]
    exact ⟨rfl, (by (repeat' (first | exact Fr.refl | assumption | apply Fr.new' | apply Fr.mk' | apply Fr.put')) <;> (first | omega | (left; simp; done) | (right; simp only [next_put, next_new, next_mk]; omega) | (simp only [next_put, next_new, next_mk]; omega)))⟩
theorem cloneO (n : Nat) (s : St) (v : AV) (l : List O) (hv : RdE s v 4 encO l) (hf : l.length < 1000000) :
    OutOk (callF bd tab.get fu (n + 1) 125 [v] s) (fun x s' => ∃ fp, OwE s' x 4 encO l fp ∧ Fr s s' [] ∧ Nw s [] fp ∧ (v = .nils → Is x .nils) ∧ (v ≠ .nils → x ≠ .nils)) :=
  clone_ok t125 (by omega) n s v l hv hf
theorem f_all (n : Nat) (s : St) (p : Nat) (l : List O) (fp : List Nat) (hF : IsF s p l fp) (hf : l.length < 1000000) :
    OutOk (callF bd tab.get fu (n + 2) 103 [.ptr p 0] s) (fun x s' => ∃ fp', OwE s' x 4 encO l fp' ∧ Fr s s' [] ∧ Nw s [] fp') := by
  refine call_code t103 rfl ?_
  obtain ⟨v, fv, h1, h2, h3, rfl, h5⟩ := hF
  simp (disch := omega) only [vm0, vm1, vm2, vm3, vm4, vm5, vm6, vm7, fPick, fBox, fBuild, fBsl, fLd, fLda, fSt, fNilc, fBin, fEq, fUn, fMkf, fFa, fFld, fFlda, fExt, evo, wr, wrC, frame, Bool.not_true, Bool.not_false, beq_self_eq_true, List.cons_append, List.nil_append, Nat.add_zero, Nat.zero_add, Nat.reduceAdd, Nat.reduceMul, Nat.reduceSub, Bool.and_true, Bool.true_and, Bool.and_self, beq_dec, fApp, Int.toNat_natCast, Nat.sub_zero, vc103, h1]
  refine call_ok rfl rfl (cloneO n s v l h2.rd hf) ?_
  rintro x s' ⟨fp', g1, g2, g3, _⟩
  simp (disch := omega) only [vm0, vm1, vm2, vm3, vm4, vm5, vm6, vm7, fPick, fBox, fBuild, fBsl, fLd, fLda, fSt, fNilc, fBin, fEq, fUn, fMkf, fFa, fFld, fFlda, fExt, evo, wr, wrC, frame, Bool.not_true, Bool.not_false, beq_self_eq_true, List.cons_append, List.nil_append, Nat.add_zero, Nat.zero_add, Nat.reduceAdd, Nat.reduceMul, Nat.reduceSub, Bool.and_true, Bool.true_and, Bool.and_self, beq_dec, fApp, Int.toNat_natCast, Nat.sub_zero]
  exact ⟨fp', g1, g2, g3⟩
theorem f_drop (n : Nat) (s : St) (p : Nat) (l : List O) (fp : List Nat) (hF : IsF s p l fp) :
    OutOk (callF bd tab.get fu (n + 1) 81 [.ptr p 0] s) (fun x s' => ∃ fv, OwE s' x 4 encO l fv ∧ IsF s' p [] [p] ∧ Fr s s' fp ∧ fp = p :: fv ∧ p ∉ fv) := by
  refine call_code t81 rfl ?_
  obtain ⟨v, fv, h1, h2, h3, rfl, h5⟩ := hF
  simp (disch := omega) only [vm0, vm1, vm2, vm3, vm4, vm5, vm6, vm7, fPick, fBox, fBuild, fBsl, fLd, fLda, fSt, fNilc, fBin, fEq, fUn, fMkf, fFa, fFld, fFlda, fExt, evo, wr, wrC, frame, Bool.not_true, Bool.not_false, beq_self_eq_true, List.cons_append, List.nil_append, Nat.add_zero, Nat.zero_add, Nat.reduceAdd, Nat.reduceMul, Nat.reduceSub, Bool.and_true, Bool.true_and, Bool.and_self, beq_dec, fApp, Int.toNat_natCast, Nat.sub_zero, vc81, h1]
  exact ⟨fv, h2.fr (fp' := [p]) (.put (.inl (by simp))) (by rintro b hb hm; simp at hm; subst hm; exact h3 hb), ⟨.nils, [], get_put_eq rfl, .nil (by intro x; rfl) (by omega), by simp, rfl, by rw [next_put]; exact h5⟩, .put (.inl (by simp)), rfl, h3⟩
end
end Go.Proofs.Ytgckbcljlkkceaa.ctr
namespace Go.Proofs.Ytgckbcljlkkceaa.ctr
open Go.Vm Go.RowKit
set_option linter.unusedVariables false
set_option linter.unusedSimpArgs false
section
variable {bd : Bd} {fu : Nat}
theorem f_late (n : Nat) (s : St) (p : Nat) (l : List O) (fp : List Nat) (now wait : Int) (hF : IsF s p l fp) (hlen : l.length < fu) (hf : l.length < 1000) (b1 : -1000000000000 ≤ now) (b2 : now ≤ 1000000000000) (b3 : -1000000000000 ≤ wait) (b4 : wait ≤ 1000000000000) :
    OutOk (callF bd tab.get fu (n + 2) 90 [.ptr p 0, num now, num wait] s) (fun x s' => ∃ fl fr, OwE s' x 4 encO (l.filter (lateO now wait)) fl ∧ IsF s' p (l.filter (fun o => !lateO now wait o)) fr ∧ Fr s s' [p] ∧ Nw s [] fl ∧ Nw s [p] fr ∧ (∀ b ∈ fl, b ∉ fr)) := by
  refine call_code t90 rfl ?_
  obtain ⟨v, fv, h1, h2, h3, rfl, h5⟩ := hF
  simp (disch := omega) only [vm0, vm1, vm2, vm3, vm4, vm5, vm6, vm7, fPick, fBox, fBuild, fBsl, fLd, fLda, fSt, fNilc, fBin, fEq, fUn, fMkf, fFa, fFld, fFlda, fExt, evo, wr, wrC, frame, Bool.not_true, Bool.not_false, beq_self_eq_true, List.cons_append, List.nil_append, Nat.add_zero, Nat.zero_add, Nat.reduceAdd, Nat.reduceMul, Nat.reduceSub, Bool.and_true, Bool.true_and, Bool.and_self, beq_dec, fApp, Int.toNat_natCast, Nat.sub_zero, vc90, h1, h2.rd.lenV]
  refine x_loop (fun m F s' => ∃ i : Nat, ∃ z x4 x8 x10 vl vr fl fr, m = l.length - i ∧ i ≤ l.length ∧ z = (i : Int) ∧ F = [some (.ptr p 0), some (num now), some (num wait), some (num z), x4, some vl, some vr, some (num (l.length : Int)), x8, some v, x10, some .nils] ∧ Fr s s' [] ∧
    OwE s' vl 4 encO ((l.take i).filter (lateO now wait)) fl ∧ OwE s' vr 4 encO ((l.take i).filter (fun o => !lateO now wait o)) fr ∧ Nw s [] fl ∧ Nw s [] fr ∧ (∀ b ∈ fl, b ∉ fr)) l.length (by omega) ?_ ?_
  · exact ⟨0, _, _, _, _, _, _, [], [], by omega, by omega, rfl, rfl, .refl, .nil (by intro x; rfl) (by omega), .nil (by intro x; rfl) (by omega), by simp [Nw], by simp [Nw], by simp⟩
  · rintro m F s1 ⟨i, _, x4, x8, x10, vl, vr, fl, fr, rfl, hi, rfl, rfl, hfr, ol, or_, nl, nr, hd⟩ hm
    have hv1 := h2.fr0 hfr
    have hnx := hfr.1
    by_cases hlt : i < l.length
    · obtain ⟨⟨a, b, c, d⟩, hx⟩ : ∃ x, l[i]? = some x := ⟨_, List.getElem?_eq_getElem hlt⟩
      have e1 := hv1.rd.ia hx
      have e2 := hv1.rd.at hx
      have hbl := hv1.rd.blk' hx
      have ht : l.take (i + 1) = l.take i ++ [(a, b, c, d)] := by rw [List.take_add_one, hx]; rfl
      have hll : ((l.take i).filter (lateO now wait)).length ≤ i := Nat.le_trans (List.length_filter_le _ _) (by simp; omega)
      have hlr : ((l.take i).filter (fun o => !lateO now wait o)).length ≤ i := Nat.le_trans (List.length_filter_le _ _) (by simp; omega)
      simp (disch := omega) only [vm0, vm1, vm2, vm3, vm4, vm5, vm6, vm7, fPick, fBox, fBuild, fBsl, fLd, fLda, fSt, fNilc, fBin, fEq, fUn, fMkf, fFa, fFld, fFlda, fExt, evo, wr, wrC, frame, Bool.not_true, Bool.not_false, beq_self_eq_true, List.cons_append, List.nil_append, Nat.add_zero, Nat.zero_add, Nat.reduceAdd, Nat.reduceMul, Nat.reduceSub, Bool.and_true, Bool.true_and, Bool.and_self, beq_dec, fApp, Int.toNat_natCast, Nat.sub_zero, e1, e2, encO, wr64]
      have hfa : Fr s1 ((s1.new (.cells [num 0, num 0, num 0, num 0] .own)).put s1.next (some (.cells [num a, num b, num c, num d] .own))) [] := (by (repeat' (first | exact Fr.refl | assumption | apply Fr.new' | apply Fr.mk' | apply Fr.put')) <;> (first | omega | (left; simp; done) | (right; simp only [next_put, next_new, next_mk]; omega) | (simp only [next_put, next_new, next_mk]; omega)))
      have hg : ((s1.new (.cells [num 0, num 0, num 0, num 0] .own)).put s1.next (some (.cells [num a, num b, num c, num d] .own))).heap.get s1.next = some (.cells [num a, num b, num c, num d] .own) := get_put_eq rfl
      have hgn : s1.next < ((s1.new (.cells [num 0, num 0, num 0, num 0] .own)).put s1.next (some (.cells [num a, num b, num c, num d] .own))).next := by rw [next_put, next_new]; omega
      generalize (s1.new (.cells [num 0, num 0, num 0, num 0] .own)).put s1.next (some (.cells [num a, num b, num c, num d] .own)) = s2 at *
      refine call_ok rfl rfl (old n s2 (a, b, c, d) now wait b1 b2 b3 b4) ?_
      rintro x s3 ⟨rfl, hfr3⟩
      have hfb := hfa.trans hfr3 (fp2 := []) (by simp) (by simp)
      have hq3 := (hfr3.get hgn (by simp)).trans hg
      have ol3 := ol.fr0 hfb
      have or3 := or_.fr0 hfb
      cases hlate : lateO now wait (a, b, c, d)
      · simp (disch := omega) only [vm0, vm1, vm2, vm3, vm4, vm5, vm6, vm7, fPick, fBox, fBuild, fBsl, fLd, fLda, fSt, fNilc, fBin, fEq, fUn, fMkf, fFa, fFld, fFlda, fExt, evo, wr, wrC, frame, Bool.not_true, Bool.not_false, beq_self_eq_true, List.cons_append, List.nil_append, Nat.add_zero, Nat.zero_add, Nat.reduceAdd, Nat.reduceMul, Nat.reduceSub, Bool.and_true, Bool.true_and, Bool.and_self, beq_dec, fApp, Int.toNat_natCast, Nat.sub_zero, hq3]
        refine op_app1 or3 (by (repeat' (first | exact Fr.refl | assumption | apply Fr.new' | apply Fr.mk' | apply Fr.put')) <;> (first | omega | (left; simp; done) | (right; simp only [next_put, next_new, next_mk]; omega) | (simp only [next_put, next_new, next_mk]; omega))) (x := (a, b, c, d)) rfl (by omega) ?_
        intro v' s4 fr' ho hf4 hnw
        simp (disch := omega) only [vm0, vm1, vm2, vm3, vm4, vm5, vm6, vm7, fPick, fBox, fBuild, fBsl, fLd, fLda, fSt, fNilc, fBin, fEq, fUn, fMkf, fFa, fFld, fFlda, fExt, evo, wr, wrC, frame, Bool.not_true, Bool.not_false, beq_self_eq_true, List.cons_append, List.nil_append, Nat.add_zero, Nat.zero_add, Nat.reduceAdd, Nat.reduceMul, Nat.reduceSub, Bool.and_true, Bool.true_and, Bool.and_self, beq_dec, fApp, Int.toNat_natCast, Nat.sub_zero, wr64]
        refine ⟨l.length - (i + 1), by omega, i + 1, _, _, _, _, _, _, fl, fr', rfl, by omega, by omega, rfl, ?_, ?_, ?_, nl, ?_, ?_⟩
        · exact (hfr.trans hfb (fp2 := []) (by simp) (by simp)).trans hf4 (by simp) (fun b hb hl => by have := nr b hb; simp at this; omega)
        · rw [ht, List.filter_append]; simp only [List.filter_cons, List.filter_nil, hlate]; simpa using ol3.fr hf4 hd
        · rw [ht, List.filter_append]; simp only [List.filter_cons, List.filter_nil, hlate]; simpa using ho
        · intro b hb
          rcases hnw b hb with h | h
          · exact nr b h
          · exact .inr (Nat.le_trans hfr.1 (Nat.le_trans hfb.1 h))
        · intro b hb hb'
          rcases hnw b hb' with h | h
          · exact hd b hb h
          · have := ol.lt b hb; have := hfb.1; omega
      · simp (disch := omega) only [vm0, vm1, vm2, vm3, vm4, vm5, vm6, vm7, fPick, fBox, fBuild, fBsl, fLd, fLda, fSt, fNilc, fBin, fEq, fUn, fMkf, fFa, fFld, fFlda, fExt, evo, wr, wrC, frame, Bool.not_true, Bool.not_false, beq_self_eq_true, List.cons_append, List.nil_append, Nat.add_zero, Nat.zero_add, Nat.reduceAdd, Nat.reduceMul, Nat.reduceSub, Bool.and_true, Bool.true_and, Bool.and_self, beq_dec, fApp, Int.toNat_natCast, Nat.sub_zero, hq3]
        refine op_app1 ol3 (by (repeat' (first | exact Fr.refl | assumption | apply Fr.new' | apply Fr.mk' | apply Fr.put')) <;> (first | omega | (left; simp; done) | (right; simp only [next_put, next_new, next_mk]; omega) | (simp only [next_put, next_new, next_mk]; omega))) (x := (a, b, c, d)) rfl (by omega) ?_
        intro v' s4 fl' ho hf4 hnw
        simp (disch := omega) only [vm0, vm1, vm2, vm3, vm4, vm5, vm6, vm7, fPick, fBox, fBuild, fBsl, fLd, fLda, fSt, fNilc, fBin, fEq, fUn, fMkf, fFa, fFld, fFlda, fExt, evo, wr, wrC, frame, Bool.not_true, Bool.not_false, beq_self_eq_true, List.cons_append, List.nil_append, Nat.add_zero, Nat.zero_add, Nat.reduceAdd, Nat.reduceMul, Nat.reduceSub, Bool.and_true, Bool.true_and, Bool.and_self, beq_dec, fApp, Int.toNat_natCast, Nat.sub_zero, wr64]
        refine ⟨l.length - (i + 1), by omega, i + 1, _, _, _, _, _, _, fl', fr, rfl, by omega, by omega, rfl, ?_, ?_, ?_, ?_, nr, ?_⟩
        · exact (hfr.trans hfb (fp2 := []) (by simp) (by simp)).trans hf4 (by simp) (fun b hb hl => by have := nl b hb; simp at this; omega)
        · rw [ht, List.filter_append]; simp only [List.filter_cons, List.filter_nil, hlate]; simpa using ho
        · rw [ht, List.filter_append]; simp only [List.filter_cons, List.filter_nil, hlate]; simpa using or3.fr hf4 (fun b hb hb' => hd b hb' hb)
        · intro b hb
          rcases hnw b hb with h | h
          · exact nl b h
          · exact .inr (Nat.le_trans hfr.1 (Nat.le_trans hfb.1 h))
        · intro b hb hb'
          rcases hnw b hb with h | h
          · exact hd b h hb'
          · have := or_.lt b hb'; have := hfb.1; omega
    · have hp1 := (hfr.get h5 (by simp)).trans h1
      simp (disch := omega) only [vm0, vm1, vm2, vm3, vm4, vm5, vm6, vm7, fPick, fBox, fBuild, fBsl, fLd, fLda, fSt, fNilc, fBin, fEq, fUn, fMkf, fFa, fFld, fFlda, fExt, evo, wr, wrC, frame, Bool.not_true, Bool.not_false, beq_self_eq_true, List.cons_append, List.nil_append, Nat.add_zero, Nat.zero_add, Nat.reduceAdd, Nat.reduceMul, Nat.reduceSub, Bool.and_true, Bool.true_and, Bool.and_self, beq_dec, fApp, Int.toNat_natCast, Nat.sub_zero, hp1, or_.cells]
      have htk : l.take i = l := List.take_of_length_le (by omega)
      rw [htk] at ol or_
      have hpl : p ∉ fl := fun hm => by have := nl p hm; simp at this; omega
      have hpr : p ∉ fr := fun hm => by have := nr p hm; simp at this; omega
      refine ⟨fl, p :: fr, ol.fr (fp' := [p]) (.put (.inl (by simp))) (by rintro b hb hm; simp at hm; subst hm; exact hpl hb), ⟨vr, fr, get_put_eq rfl, or_.fr (fp' := [p]) (.put (.inl (by simp))) (by rintro b hb hm; simp at hm; subst hm; exact hpr hb), hpr, rfl, by rw [next_put]; omega⟩, .put' (.inl (by simp)) (hfr.mono (by simp)), nl, ?_, ?_⟩
      · intro b hb
        rcases List.mem_cons.1 hb with rfl | hb
        · simp
        · have := nr b hb; simp at this; exact .inr this
      · intro b hb hm
        rcases List.mem_cons.1 hm with rfl | hm
        · exact hpl hb
        · exact hd b hb hm
theorem r_late (n : Nat) (s : St) (p : Nat) (l : List O) (fp : List Nat) (now wait : Int) (hF : IsF s p l fp) (hlen : l.length < fu) (hf : l.length < 1000) (b1 : -1000000000000 ≤ now) (b2 : now ≤ 1000000000000) (b3 : -1000000000000 ≤ wait) (b4 : wait ≤ 1000000000000) :
    OutOk (callF bd tab.get fu (n + 2) 94 [.ptr p 0, num now, num wait] s) (fun x s' => ∃ fl fr, OwE s' x 4 encO (l.filter (lateO now wait)) fl ∧ IsF s' p (l.filter (fun o => !lateO now wait o)) fr ∧ Fr s s' [p] ∧ Nw s [] fl ∧ Nw s [p] fr ∧ (∀ b ∈ fl, b ∉ fr)) := by
  refine call_code t94 rfl ?_
  obtain ⟨v, fv, h1, h2, h3, rfl, h5⟩ := hF
  simp (disch := omega) only [vm0, vm1, vm2, vm3, vm4, vm5, vm6, vm7, fPick, fBox, fBuild, fBsl, fLd, fLda, fSt, fNilc, fBin, fEq, fUn, fMkf, fFa, fFld, fFlda, fExt, evo, wr, wrC, frame, Bool.not_true, Bool.not_false, beq_self_eq_true, List.cons_append, List.nil_append, Nat.add_zero, Nat.zero_add, Nat.reduceAdd, Nat.reduceMul, Nat.reduceSub, Bool.and_true, Bool.true_and, Bool.and_self, beq_dec, fApp, Int.toNat_natCast, Nat.sub_zero, vc94, h1, h2.rd.lenV]
  refine x_loop (fun m F s' => ∃ i : Nat, ∃ z x4 x8 x10 vl vr fl fr, m = l.length - i ∧ i ≤ l.length ∧ z = (i : Int) ∧ F = [some (.ptr p 0), some (num now), some (num wait), some (num z), x4, some vl, some vr, some (num (l.length : Int)), x8, some v, x10, some .nils] ∧ Fr s s' [] ∧
    OwE s' vl 4 encO ((l.take i).filter (lateO now wait)) fl ∧ OwE s' vr 4 encO ((l.take i).filter (fun o => !lateO now wait o)) fr ∧ Nw s [] fl ∧ Nw s [] fr ∧ (∀ b ∈ fl, b ∉ fr)) l.length (by omega) ?_ ?_
  · exact ⟨0, _, _, _, _, _, _, [], [], by omega, by omega, rfl, rfl, .refl, .nil (by intro x; rfl) (by omega), .nil (by intro x; rfl) (by omega), by simp [Nw], by simp [Nw], by simp⟩
  · rintro m F s1 ⟨i, _, x4, x8, x10, vl, vr, fl, fr, rfl, hi, rfl, rfl, hfr, ol, or_, nl, nr, hd⟩ hm
    have hv1 := h2.fr0 hfr
    have hnx := hfr.1
    by_cases hlt : i < l.length
    · obtain ⟨⟨a, b, c, d⟩, hx⟩ : ∃ x, l[i]? = some x := ⟨_, List.getElem?_eq_getElem hlt⟩
      have e1 := hv1.rd.ia hx
      have e2 := hv1.rd.at hx
      have hbl := hv1.rd.blk' hx
      have ht : l.take (i + 1) = l.take i ++ [(a, b, c, d)] := by rw [List.take_add_one, hx]; rfl
      have hll : ((l.take i).filter (lateO now wait)).length ≤ i := Nat.le_trans (List.length_filter_le _ _) (by simp; omega)
      have hlr : ((l.take i).filter (fun o => !lateO now wait o)).length ≤ i := Nat.le_trans (List.length_filter_le _ _) (by simp; omega)
      simp (disch := omega) only [vm0, vm1, vm2, vm3, vm4, vm5, vm6, vm7, fPick, fBox, fBuild, fBsl, fLd, fLda, fSt, fNilc, fBin, fEq, fUn, fMkf, fFa, fFld, fFlda, fExt, evo, wr, wrC, frame, Bool.not_true, Bool.not_false, beq_self_eq_true, List.cons_append, List.nil_append, Nat.add_zero, Nat.zero_add, Nat.reduceAdd, Nat.reduceMul, Nat.reduceSub, Bool.and_true, Bool.true_and, Bool.and_self, beq_dec, fApp, Int.toNat_natCast, Nat.sub_zero, e1, e2, encO, wr64]
      have hfa : Fr s1 ((s1.new (.cells [num 0, num 0, num 0, num 0] .own)).put s1.next (some (.cells [num a, num b, num c, num d] .own))) [] := (by (repeat' (first | exact Fr.refl | assumption | apply Fr.new' | apply Fr.mk' | apply Fr.put')) <;> (first | omega | (left; simp; done) | (right; simp only [next_put, next_new, next_mk]; omega) | (simp only [next_put, next_new, next_mk]; omega)))
      have hg : ((s1.new (.cells [num 0, num 0, num 0, num 0] .own)).put s1.next (some (.cells [num a, num b, num c, num d] .own))).heap.get s1.next = some (.cells [num a, num b, num c, num d] .own) := get_put_eq rfl
      have hgn : s1.next < ((s1.new (.cells [num 0, num 0, num 0, num 0] .own)).put s1.next (some (.cells [num a, num b, num c, num d] .own))).next := by rw [next_put, next_new]; omega
      generalize (s1.new (.cells [num 0, num 0, num 0, num 0] .own)).put s1.next (some (.cells [num a, num b, num c, num d] .own)) = s2 at *
      have hfb : Fr s1 s2 [] := hfa
      have hq3 := hg
      rw [show decide (d ≤ now - wait) = lateO now wait (a, b, c, d) from rfl]
      have ol3 := ol.fr0 hfb
      have or3 := or_.fr0 hfb
      cases hlate : lateO now wait (a, b, c, d)
      · simp (disch := omega) only [vm0, vm1, vm2, vm3, vm4, vm5, vm6, vm7, fPick, fBox, fBuild, fBsl, fLd, fLda, fSt, fNilc, fBin, fEq, fUn, fMkf, fFa, fFld, fFlda, fExt, evo, wr, wrC, frame, Bool.not_true, Bool.not_false, beq_self_eq_true, List.cons_append, List.nil_append, Nat.add_zero, Nat.zero_add, Nat.reduceAdd, Nat.reduceMul, Nat.reduceSub, Bool.and_true, Bool.true_and, Bool.and_self, beq_dec, fApp, Int.toNat_natCast, Nat.sub_zero, hq3]
        refine op_app1 or3 (by (repeat' (first | exact Fr.refl | assumption | apply Fr.new' | apply Fr.mk' | apply Fr.put')) <;> (first | omega | (left; simp; done) | (right; simp only [next_put, next_new, next_mk]; omega) | (simp only [next_put, next_new, next_mk]; omega))) (x := (a, b, c, d)) rfl (by omega) ?_
        intro v' s4 fr' ho hf4 hnw
        simp (disch := omega) only [vm0, vm1, vm2, vm3, vm4, vm5, vm6, vm7, fPick, fBox, fBuild, fBsl, fLd, fLda, fSt, fNilc, fBin, fEq, fUn, fMkf, fFa, fFld, fFlda, fExt, evo, wr, wrC, frame, Bool.not_true, Bool.not_false, beq_self_eq_true, List.cons_append, List.nil_append, Nat.add_zero, Nat.zero_add, Nat.reduceAdd, Nat.reduceMul, Nat.reduceSub, Bool.and_true, Bool.true_and, Bool.and_self, beq_dec, fApp, Int.toNat_natCast, Nat.sub_zero, wr64]
        refine ⟨l.length - (i + 1), by omega, i + 1, _, _, _, _, _, _, fl, fr', rfl, by omega, by omega, rfl, ?_, ?_, ?_, nl, ?_, ?_⟩
        · exact (hfr.trans hfb (fp2 := []) (by simp) (by simp)).trans hf4 (by simp) (fun b hb hl => by have := nr b hb; simp at this; omega)
        · rw [ht, List.filter_append]; simp only [List.filter_cons, List.filter_nil, hlate]; simpa using ol3.fr hf4 hd
        · rw [ht, List.filter_append]; simp only [List.filter_cons, List.filter_nil, hlate]; simpa using ho
        · intro b hb
          rcases hnw b hb with h | h
          · exact nr b h
          · exact .inr (Nat.le_trans hfr.1 (Nat.le_trans hfb.1 h))
        · intro b hb hb'
          rcases hnw b hb' with h | h
          · exact hd b hb h
          · have := ol.lt b hb; have := hfb.1; omega
      · simp (disch := omega) only [vm0, vm1, vm2, vm3, vm4, vm5, vm6, vm7, fPick, fBox, fBuild, fBsl, fLd, fLda, fSt, fNilc, fBin, fEq, fUn, fMkf, fFa, fFld, fFlda, fExt, evo, wr, wrC, frame, Bool.not_true, Bool.not_false, beq_self_eq_true, List.cons_append, List.nil_append, Nat.add_zero, Nat.zero_add, Nat.reduceAdd, Nat.reduceMul, Nat.reduceSub, Bool.and_true, Bool.true_and, Bool.and_self, beq_dec, fApp, Int.toNat_natCast, Nat.sub_zero, hq3]
        refine op_app1 ol3 (by (repeat' (first | exact Fr.refl | assumption | apply Fr.new' | apply Fr.mk' | apply Fr.put')) <;> (first | omega | (left; simp; done) | (right; simp only [next_put, next_new, next_mk]; omega) | (simp only [next_put, next_new, next_mk]; omega))) (x := (a, b, c, d)) rfl (by omega) ?_
        intro v' s4 fl' ho hf4 hnw
        simp (disch := omega) only [vm0, vm1, vm2, vm3, vm4, vm5, vm6, vm7, fPick, fBox, fBuild, fBsl, fLd, fLda, fSt, fNilc, fBin, fEq, fUn, fMkf, fFa, fFld, fFlda, fExt, evo, wr, wrC, frame, Bool.not_true, Bool.not_false, beq_self_eq_true, List.cons_append, List.nil_append, Nat.add_zero, Nat.zero_add, Nat.reduceAdd, Nat.reduceMul, Nat.reduceSub, Bool.and_true, Bool.true_and, Bool.and_self, beq_dec, fApp, Int.toNat_natCast, Nat.sub_zero, wr64]
        refine ⟨l.length - (i + 1), by omega, i + 1, _, _, _, _, _, _, fl', fr, rfl, by omega, by omega, rfl, ?_, ?_, ?_, ?_, nr, ?_⟩
        · exact (hfr.trans hfb (fp2 := []) (by simp) (by simp)).trans hf4 (by simp) (fun b hb hl => by have := nl b hb; simp at this; omega)
        · rw [ht, List.filter_append]; simp only [List.filter_cons, List.filter_nil, hlate]; simpa using ho
        · rw [ht, List.filter_append]; simp only [List.filter_cons, List.filter_nil, hlate]; simpa using or3.fr hf4 (fun b hb hb' => hd b hb' hb)
        · intro b hb
          rcases hnw b hb with h | h
          · exact nl b h
          · exact .inr (Nat.le_trans hfr.1 (Nat.le_trans hfb.1 h))
        · intro b hb hb'
          rcases hnw b hb with h | h
          · exact hd b h hb'
          · have := or_.lt b hb'; have := hfb.1; omega
    · have hp1 := (hfr.get h5 (by simp)).trans h1
      simp (disch := omega) only [vm0, vm1, vm2, vm3, vm4, vm5, vm6, vm7, fPick, fBox, fBuild, fBsl, fLd, fLda, fSt, fNilc, fBin, fEq, fUn, fMkf, fFa, fFld, fFlda, fExt, evo, wr, wrC, frame, Bool.not_true, Bool.not_false, beq_self_eq_true, List.cons_append, List.nil_append, Nat.add_zero, Nat.zero_add, Nat.reduceAdd, Nat.reduceMul, Nat.reduceSub, Bool.and_true, Bool.true_and, Bool.and_self, beq_dec, fApp, Int.toNat_natCast, Nat.sub_zero, hp1, or_.cells]
      have htk : l.take i = l := List.take_of_length_le (by omega)
      rw [htk] at ol or_
      have hpl : p ∉ fl := fun hm => by have := nl p hm; simp at this; omega
      have hpr : p ∉ fr := fun hm => by have := nr p hm; simp at this; omega
      refine ⟨fl, p :: fr, ol.fr (fp' := [p]) (.put (.inl (by simp))) (by rintro b hb hm; simp at hm; subst hm; exact hpl hb), ⟨vr, fr, get_put_eq rfl, or_.fr (fp' := [p]) (.put (.inl (by simp))) (by rintro b hb hm; simp at hm; subst hm; exact hpr hb), hpr, rfl, by rw [next_put]; omega⟩, .put' (.inl (by simp)) (hfr.mono (by simp)), nl, ?_, ?_⟩
      · intro b hb
        rcases List.mem_cons.1 hb with rfl | hb
        · simp
        · have := nr b hb; simp at this; exact .inr this
      · intro b hb hm
        rcases List.mem_cons.1 hm with rfl | hm
        · exact hpl hb
        · exact hd b hb hm
end
end Go.Proofs.Ytgckbcljlkkceaa.ctr
namespace Go.Proofs.Ytgckbcljlkkceaa.ctr
open Go.Vm Go.RowKit
set_option linter.unusedVariables false
set_option linter.unusedSimpArgs false
theorem fst_none {k : Int} : ∀ {l : List O} {i : Int}, (∀ o ∈ l, o.1 ≠ k) → fst k l i = -1 := by
  intro l
  induction l with
  | nil => intro i _; rfl
  | cons o l ih => intro i h; unfold fst; rw [if_neg (h o (by simp))]; exact ih fun o ho => h o (by simp [ho])
theorem fst_some {k : Int} : ∀ {l : List O} {j : Int} {i : Nat} {x : O}, l[i]? = some x → x.1 = k → (∀ o ∈ l.take i, o.1 ≠ k) → fst k l j = j + i := by
  intro l
  induction l with
  | nil => intro j i x h; simp at h
  | cons o l ih =>
    intro j i x h1 h2 h3
    unfold fst
    cases i with
    | zero => simp at h1; subst h1; rw [if_pos h2]; simp
    | succ i =>
      rw [if_neg (h3 o (by simp)), ih (by simpa using h1) h2 (fun y hy => h3 y (by simp [hy]))]
      simp; omega
section
variable {bd : Bd} {fu : Nat}
theorem r_add (n : Nat) (s : St) (p : Nat) (l : List O) (fp : List Nat) (o : O) (hF : IsF s p l fp) (hlen : l.length < fu) (hf : l.length < 1000) :
    OutOk (callF bd tab.get fu (n + 1) 35 [.ptr p 0, .agg (encO o)] s) (fun x s' => ∃ fp', Is x (.bool (decide (fst o.1 l 0 < 0))) ∧ IsF s' p (if fst o.1 l 0 < 0 then l ++ [o] else l) fp' ∧ Fr s s' fp ∧ Nw s fp fp') := by
  refine call_code t35 rfl ?_
  obtain ⟨a, b, c, d⟩ := o
  have hF0 := hF
  obtain ⟨v, fv, h1, h2, h3, rfl, h5⟩ := hF
  simp (disch := omega) only [vm0, vm1, vm2, vm3, vm4, vm5, vm6, vm7, fPick, fBox, fBuild, fBsl, fLd, fLda, fSt, fNilc, fBin, fEq, fUn, fMkf, fFa, fFld, fFlda, fExt, evo, wr, wrC, frame, Bool.not_true, Bool.not_false, beq_self_eq_true, List.cons_append, List.nil_append, Nat.add_zero, Nat.zero_add, Nat.reduceAdd, Nat.reduceMul, Nat.reduceSub, Bool.and_true, Bool.true_and, Bool.and_self, beq_dec, fApp, Int.toNat_natCast, Nat.sub_zero, vc35, encO, h1, h2.rd.lenV]
  have hfr : Fr s (s.new (.cells [num a, num b, num c, num d] .own)) [] := .new
  have hq : (s.new (.cells [num a, num b, num c, num d] .own)).heap.get s.next = some (.cells [num a, num b, num c, num d] .own) := get_new_eq rfl
  have hn : s.next < (s.new (.cells [num a, num b, num c, num d] .own)).next := by rw [next_new]; omega
  generalize s.new (.cells [num a, num b, num c, num d] .own) = s1 at *
  refine x_loop (fun m F s' => ∃ i : Nat, ∃ z x5 x7 x8, m = l.length - i ∧ i ≤ l.length ∧ z = (i : Int) ∧ F = [some (.ptr p 0), some (.agg [num a, num b, num c, num d]), some (num z), some (.ptr s.next 0), some (num (l.length : Int)), x5, some v, x7, x8, some (.bool false)] ∧ Fr s1 s' [] ∧ (∀ o ∈ l.take i, o.1 ≠ a)) l.length (by omega) ?_ ?_
  · exact ⟨0, _, _, _, _, by omega, by omega, rfl, rfl, .refl, by simp⟩
  · rintro m F s2 ⟨i, _, x5, x7, x8, rfl, hi, rfl, rfl, hfr2, hno⟩ hm
    have hfr3 := hfr.tr hfr2 (by simp [Nw])
    have hF2 := hF0.fr hfr3 (by simp)
    have hv2 := h2.fr0 hfr3
    have hq2 := (hfr2.get hn (by simp)).trans hq
    have hs2 : s.next < s2.next := Nat.lt_of_lt_of_le hn hfr2.1
    have hp2 := (hfr3.get h5 (by simp)).trans h1
    by_cases hlt : i < l.length
    · obtain ⟨⟨a', b', c', d'⟩, hx⟩ : ∃ x, l[i]? = some x := ⟨_, List.getElem?_eq_getElem hlt⟩
      have e1 := hv2.rd.ia hx
      have e2 := hv2.rd.at hx
      have hbl := hv2.rd.blk' hx
      have ht : l.take (i + 1) = l.take i ++ [(a', b', c', d')] := by rw [List.take_add_one, hx]; rfl
      by_cases hk : a' = a
      · simp (disch := omega) only [vm0, vm1, vm2, vm3, vm4, vm5, vm6, vm7, fPick, fBox, fBuild, fBsl, fLd, fLda, fSt, fNilc, fBin, fEq, fUn, fMkf, fFa, fFld, fFlda, fExt, evo, wr, wrC, frame, Bool.not_true, Bool.not_false, beq_self_eq_true, List.cons_append, List.nil_append, Nat.add_zero, Nat.zero_add, Nat.reduceAdd, Nat.reduceMul, Nat.reduceSub, Bool.and_true, Bool.true_and, Bool.and_self, beq_dec, fApp, Int.toNat_natCast, Nat.sub_zero, e1, e2, encO, wr64, hq2]
        have hfs : fst a l 0 = i := by rw [fst_some hx hk hno]; omega
        refine ⟨p :: fv, by show AV.bool _ = AV.bool _; rw [hfs]; simp, ?_, ?_, .refl⟩
        · rw [hfs, if_neg (by omega)]
          exact hF2.fr (fp' := []) (by (repeat' (first | exact Fr.refl | assumption | apply Fr.new' | apply Fr.mk' | apply Fr.put')) <;> (first | omega | (left; simp; done) | (right; simp only [next_put, next_new, next_mk]; omega) | (simp only [next_put, next_new, next_mk]; omega))) (by simp)
        · exact (hfr3.mono (by simp)).trans (fp1 := []) (by (repeat' (first | exact Fr.refl | assumption | apply Fr.new' | apply Fr.mk' | apply Fr.put')) <;> (first | omega | (left; simp; done) | (right; simp only [next_put, next_new, next_mk]; omega) | (simp only [next_put, next_new, next_mk]; omega))) (fun _ h _ => h) (by simp)
      · simp (disch := omega) only [vm0, vm1, vm2, vm3, vm4, vm5, vm6, vm7, fPick, fBox, fBuild, fBsl, fLd, fLda, fSt, fNilc, fBin, fEq, fUn, fMkf, fFa, fFld, fFlda, fExt, evo, wr, wrC, frame, Bool.not_true, Bool.not_false, beq_self_eq_true, List.cons_append, List.nil_append, Nat.add_zero, Nat.zero_add, Nat.reduceAdd, Nat.reduceMul, Nat.reduceSub, Bool.and_true, Bool.true_and, Bool.and_self, beq_dec, fApp, Int.toNat_natCast, Nat.sub_zero, e1, e2, encO, wr64, hq2]
        refine ⟨l.length - (i + 1), by omega, i + 1, _, _, _, _, rfl, by omega, by omega, rfl, hfr2.trans (fp1 := []) (by (repeat' (first | exact Fr.refl | assumption | apply Fr.new' | apply Fr.mk' | apply Fr.put')) <;> (first | omega | (left; simp; done) | (right; simp only [next_put, next_new, next_mk]; omega) | (simp only [next_put, next_new, next_mk]; omega))) (by simp) (by simp), ?_⟩
        intro o ho
        rw [ht] at ho
        rcases List.mem_append.1 ho with ho | ho
        · exact hno o ho
        · simp at ho; subst ho; exact hk
    · have hlt2 := hv2.lt
      simp (disch := omega) only [vm0, vm1, vm2, vm3, vm4, vm5, vm6, vm7, fPick, fBox, fBuild, fBsl, fLd, fLda, fSt, fNilc, fBin, fEq, fUn, fMkf, fFa, fFld, fFlda, fExt, evo, wr, wrC, frame, Bool.not_true, Bool.not_false, beq_self_eq_true, List.cons_append, List.nil_append, Nat.add_zero, Nat.zero_add, Nat.reduceAdd, Nat.reduceMul, Nat.reduceSub, Bool.and_true, Bool.true_and, Bool.and_self, beq_dec, fApp, Int.toNat_natCast, Nat.sub_zero, hp2, hq2]
      refine op_app1 hv2 (by (repeat' (first | exact Fr.refl | assumption | apply Fr.new' | apply Fr.mk' | apply Fr.put')) <;> (first | omega | (left; simp; done) | (right; simp only [next_put, next_new, next_mk]; omega) | (simp only [next_put, next_new, next_mk]; omega))) (x := (a, b, c, d)) rfl (by omega) ?_
      intro v' s' fp' ho hf' hnw
      have h1' := (hf'.get (Nat.lt_of_lt_of_le h5 hfr3.1) h3).trans hp2
      simp (disch := omega) only [vm0, vm1, vm2, vm3, vm4, vm5, vm6, vm7, fPick, fBox, fBuild, fBsl, fLd, fLda, fSt, fNilc, fBin, fEq, fUn, fMkf, fFa, fFld, fFlda, fExt, evo, wr, wrC, frame, Bool.not_true, Bool.not_false, beq_self_eq_true, List.cons_append, List.nil_append, Nat.add_zero, Nat.zero_add, Nat.reduceAdd, Nat.reduceMul, Nat.reduceSub, Bool.and_true, Bool.true_and, Bool.and_self, beq_dec, fApp, Int.toNat_natCast, Nat.sub_zero, h1', ho.cells]
      have hp : p ∉ fp' := hnw.not h3 (Nat.lt_of_lt_of_le h5 hfr3.1)
      have hfs : fst a l 0 = -1 := fst_none (by rw [List.take_of_length_le (by omega)] at hno; exact hno)
      refine ⟨p :: fp', by show AV.bool _ = AV.bool _; rw [hfs]; simp, ?_, .put' (.inl (by simp)) (hfr3.trans hf' (by simp) (fun b hb _ => by simp [hb])), hnw.cons hfr3.1⟩
      rw [hfs, if_pos (by omega)]
      exact ⟨v', fp', get_put_eq rfl, ho.fr (fp' := [p]) (.put (.inl (by simp))) (by rintro b hb hm; simp at hm; subst hm; exact hp hb), hp, rfl, by rw [next_put]; exact Nat.lt_of_lt_of_le h5 (Nat.le_trans hfr3.1 hf'.1)⟩
theorem r_take (n : Nat) (s : St) (p : Nat) (l : List O) (fp : List Nat) (k : Int) (hF : IsF s p l fp) (hlen : l.length < fu) (hf : l.length < 1000) :
    OutOk (callF bd tab.get fu (n + 1) 87 [.ptr p 0, num k] s) (fun x s' => ∃ fp', (if fst k l 0 < 0 then x = .tup [.agg (encO o0), .bool false] else x = .tup [.agg (encO (l.getD (ixO k l) o0)), .bool true]) ∧ IsF s' p (if fst k l 0 < 0 then l else l.eraseIdx (ixO k l)) fp' ∧ Fr s s' fp ∧ Nw s fp fp') := by
  refine call_code t87 rfl ?_
  have hF0 := hF
  obtain ⟨v, fv, h1, h2, h3, rfl, h5⟩ := hF
  simp (disch := omega) only [vm0, vm1, vm2, vm3, vm4, vm5, vm6, vm7, fPick, fBox, fBuild, fBsl, fLd, fLda, fSt, fNilc, fBin, fEq, fUn, fMkf, fFa, fFld, fFlda, fExt, evo, wr, wrC, frame, Bool.not_true, Bool.not_false, beq_self_eq_true, List.cons_append, List.nil_append, Nat.add_zero, Nat.zero_add, Nat.reduceAdd, Nat.reduceMul, Nat.reduceSub, Bool.and_true, Bool.true_and, Bool.and_self, beq_dec, fApp, Int.toNat_natCast, Nat.sub_zero, vc87, h1, h2.rd.lenV]
  have hfr : Fr s (s.new (.cells [num 0, num 0, num 0, num 0] .own)) [] := .new
  have hq : (s.new (.cells [num 0, num 0, num 0, num 0] .own)).heap.get s.next = some (.cells [num 0, num 0, num 0, num 0] .own) := get_new_eq rfl
  have hn : s.next < (s.new (.cells [num 0, num 0, num 0, num 0] .own)).next := by rw [next_new]; omega
  generalize s.new (.cells [num 0, num 0, num 0, num 0] .own) = s1 at *
  refine x_loop (fun m F s' => ∃ i : Nat, ∃ z x4 x5 x7 x9, m = l.length - i ∧ i ≤ l.length ∧ z = (i : Int) ∧ F = [some (.ptr p 0), some (num k), some (num z), some (.ptr s.next 0), x4, x5, some (num (l.length : Int)), x7, some v, x9, some (.bool false)] ∧ Fr s1 s' [] ∧ (∀ o ∈ l.take i, o.1 ≠ k)) l.length (by omega) ?_ ?_
  · exact ⟨0, _, _, _, _, _, by omega, by omega, rfl, rfl, .refl, by simp⟩
  · rintro m F s2 ⟨i, _, x4, x5, x7, x9, rfl, hi, rfl, rfl, hfr2, hno⟩ hm
    have hfr3 := hfr.tr hfr2 (by simp [Nw])
    have hF2 := hF0.fr hfr3 (by simp)
    have hv2 := h2.fr0 hfr3
    have hq2 := (hfr2.get hn (by simp)).trans hq
    have hs2 : s.next < s2.next := Nat.lt_of_lt_of_le hn hfr2.1
    have hp2 := (hfr3.get h5 (by simp)).trans h1
    have hpn : p < s2.next := Nat.lt_of_lt_of_le h5 hfr3.1
    by_cases hlt : i < l.length
    · obtain ⟨⟨a, b, c, d⟩, hx⟩ : ∃ x, l[i]? = some x := ⟨_, List.getElem?_eq_getElem hlt⟩
      have e1 := hv2.rd.ia hx
      have e2 := hv2.rd.at hx
      have hbl := hv2.rd.blk' hx
      have ht : l.take (i + 1) = l.take i ++ [(a, b, c, d)] := by rw [List.take_add_one, hx]; rfl
      simp (disch := omega) only [vm0, vm1, vm2, vm3, vm4, vm5, vm6, vm7, fPick, fBox, fBuild, fBsl, fLd, fLda, fSt, fNilc, fBin, fEq, fUn, fMkf, fFa, fFld, fFlda, fExt, evo, wr, wrC, frame, Bool.not_true, Bool.not_false, beq_self_eq_true, List.cons_append, List.nil_append, Nat.add_zero, Nat.zero_add, Nat.reduceAdd, Nat.reduceMul, Nat.reduceSub, Bool.and_true, Bool.true_and, Bool.and_self, beq_dec, fApp, Int.toNat_natCast, Nat.sub_zero, e1, e2, encO, wr64]
      have hfa : Fr s2 ((s2.new (.cells [num 0, num 0, num 0, num 0] .own)).put s2.next (some (.cells [num a, num b, num c, num d] .own))) [] := (by (repeat' (first | exact Fr.refl | assumption | apply Fr.new' | apply Fr.mk' | apply Fr.put')) <;> (first | omega | (left; simp; done) | (right; simp only [next_put, next_new, next_mk]; omega) | (simp only [next_put, next_new, next_mk]; omega)))
      have hg : ((s2.new (.cells [num 0, num 0, num 0, num 0] .own)).put s2.next (some (.cells [num a, num b, num c, num d] .own))).heap.get s2.next = some (.cells [num a, num b, num c, num d] .own) := get_put_eq rfl
      have hgn : s2.next < ((s2.new (.cells [num 0, num 0, num 0, num 0] .own)).put s2.next (some (.cells [num a, num b, num c, num d] .own))).next := by rw [next_put, next_new]; omega
      generalize (s2.new (.cells [num 0, num 0, num 0, num 0] .own)).put s2.next (some (.cells [num a, num b, num c, num d] .own)) = s3 at *
      have hv3 := hv2.fr0 hfa
      have hq3 := (hfa.get hs2 (by simp)).trans hq2
      have hp3 := (hfa.get hpn (by simp)).trans hp2
      by_cases hk : a = k
      · obtain ⟨u1, g1, r1⟩ := hv3.rd.sliH (b := (i : Int)) (by omega) (by omega)
        obtain ⟨u2, g2, r2⟩ := hv3.rd.sliL (a := (i : Int) + 1) (by omega) (by omega)
        rw [show ((i : Int)).toNat = i by omega] at r1
        rw [show ((i : Int) + 1).toNat = i + 1 by omega] at r2
        have c1 := r1.cellsOf
        have l1 := r1.lenOf
        have htl : (l.take i).length = i := by simp; omega
        have hne : v ≠ .emp := by
          rintro rfl
          rcases h2.ow with ⟨h, _⟩ | ⟨_, _, _, _, _, _, h, _⟩ <;> cases h
        have hsm := sm_sl h2.rd.rd.sl hne
        rw [htl] at c1 l1
        simp (disch := omega) only [vm0, vm1, vm2, vm3, vm4, vm5, vm6, vm7, fPick, fBox, fBuild, fBsl, fLd, fLda, fSt, fNilc, fBin, fEq, fUn, fMkf, fFa, fFld, fFlda, fExt, evo, wr, wrC, frame, Bool.not_true, Bool.not_false, beq_self_eq_true, List.cons_append, List.nil_append, Nat.add_zero, Nat.zero_add, Nat.reduceAdd, Nat.reduceMul, Nat.reduceSub, Bool.and_true, Bool.true_and, Bool.and_self, beq_dec, fApp, Int.toNat_natCast, Nat.sub_zero, wr64, hq3, hp3, g1, g2, l1, c1]
        refine op_app (.nil (by intro x; rfl) (by omega)) (by (repeat' (first | exact Fr.refl | assumption | apply Fr.new' | apply Fr.mk' | apply Fr.put')) <;> (first | omega | (left; simp; done) | (right; simp only [next_put, next_new, next_mk]; omega) | (simp only [next_put, next_new, next_mk]; omega))) (new := l.take i) rfl htl.symm (by simp; omega) ?_
        intro w1 s4 f1 ho1 hf1 hn1
        have hv4 := hv3.fr0 hf1
        have hp4 := (hf1.get (Nat.lt_of_lt_of_le hpn hfa.1) (by simp)).trans hp3
        have hq4 := (hf1.get (Nat.lt_of_lt_of_le hs2 hfa.1) (by simp)).trans hq3
        have hg4 := (hf1.get hgn (by simp)).trans hg
        have c2 := (r2.fr0 hf1).cellsOf
        have l2 := r2.lenOf
        have htl2 : (l.drop (i + 1)).length = l.length - (i + 1) := by simp
        rw [htl2] at c2 l2
        have hln : s3.next ≤ s4.next := hf1.1
        simp (disch := omega) only [vm0, vm1, vm2, vm3, vm4, vm5, vm6, vm7, fPick, fBox, fBuild, fBsl, fLd, fLda, fSt, fNilc, fBin, fEq, fUn, fMkf, fFa, fFld, fFlda, fExt, evo, wr, wrC, frame, Bool.not_true, Bool.not_false, beq_self_eq_true, List.cons_append, List.nil_append, Nat.add_zero, Nat.zero_add, Nat.reduceAdd, Nat.reduceMul, Nat.reduceSub, Bool.and_true, Bool.true_and, Bool.and_self, beq_dec, fApp, Int.toNat_natCast, Nat.sub_zero, wr64, hp4, g2, l2, c2]
        refine op_app ho1 (by (repeat' (first | exact Fr.refl | assumption | apply Fr.new' | apply Fr.mk' | apply Fr.put')) <;> (first | omega | (left; simp; done) | (right; simp only [next_put, next_new, next_mk]; omega) | (simp only [next_put, next_new, next_mk]; omega))) (new := l.drop (i + 1)) rfl htl2.symm (by simp; omega) ?_
        intro w2 s5 f2 ho2 hf2 hn2
        have hpf : p ∉ f1 := fun hm => by have := hn1 p hm; simp at this; have := hfa.1; omega
        have hqf : s.next ∉ f1 := fun hm => by have := hn1 _ hm; simp at this; have := hfa.1; omega
        have hgf : s2.next ∉ f1 := fun hm => by have := hn1 _ hm; simp at this; omega
        have hp5 := (hf2.get (Nat.lt_of_lt_of_le hpn (Nat.le_trans hfa.1 hln)) hpf).trans hp4
        have hq5 := (hf2.get (Nat.lt_of_lt_of_le hs2 (Nat.le_trans hfa.1 hln)) hqf).trans hq4
        have hg5 := (hf2.get (Nat.lt_of_lt_of_le hgn hln) hgf).trans hg4
        have hpf2 : p ∉ f2 := hn2.not hpf (Nat.lt_of_lt_of_le hpn (Nat.le_trans hfa.1 hln))
        have hqf2 : s.next ∉ f2 := hn2.not hqf (Nat.lt_of_lt_of_le hs2 (Nat.le_trans hfa.1 hln))
        have hpg : p ≠ s2.next := by omega
        have hpq : p ≠ s.next := by omega
        simp (disch := omega) only [vm0, vm1, vm2, vm3, vm4, vm5, vm6, vm7, fPick, fBox, fBuild, fBsl, fLd, fLda, fSt, fNilc, fBin, fEq, fUn, fMkf, fFa, fFld, fFlda, fExt, evo, wr, wrC, frame, Bool.not_true, Bool.not_false, beq_self_eq_true, List.cons_append, List.nil_append, Nat.add_zero, Nat.zero_add, Nat.reduceAdd, Nat.reduceMul, Nat.reduceSub, Bool.and_true, Bool.true_and, Bool.and_self, beq_dec, fApp, Int.toNat_natCast, Nat.sub_zero, hp5, hq5, hg5, ho2.cells, hp4, hp3, hsm]
        have hfs : fst k l 0 = i := by rw [fst_some hx hk hno]; omega
        have hix : ixO k l = i := by unfold ixO; rw [hfs]; simp
        have hfz : Fr s s5 [] := ((hfr3.trans hfa (fp2 := []) (by simp) (by simp)).trans hf1 (fp2 := []) (by simp) (by simp)).trans hf2 (by simp) (fun b hb hl => by have := hn1 b hb; simp at this; have := hfr3.1; have := hfa.1; omega)
        refine ⟨p :: f2, ?_, ?_, .put' (.inr (Nat.le_refl _)) (.put' (.inl (by simp)) (hfz.mono (by simp))), ?_⟩
        · rw [hfs, if_neg (by omega), hix]; simp [hx, List.getD, encO]
        · rw [hfs, if_neg (by omega), hix, List.eraseIdx_eq_take_drop_succ]
          refine ⟨w2, f2, ?_, ?_, hpf2, rfl, ?_⟩
          · rw [get_put_ne hpq, get_put_eq rfl]
          · refine ho2.fr (fp' := [p, s.next]) (.put' (.inl (by simp)) (.put (.inl (by simp)))) ?_
            intro z hz hm
            simp at hm
            rcases hm with rfl | rfl
            · exact hpf2 hz
            · exact hqf2 hz
          · rw [next_put, next_put]; exact Nat.lt_of_lt_of_le h5 hfz.1
        · intro b hb
          rcases List.mem_cons.1 hb with rfl | hb
          · exact .inl (by simp)
          · right
            rcases hn2 b hb with h | h
            · have := hn1 b h; simp at this; have := hfr3.1; have := hfa.1; omega
            · have := hfr3.1; have := hfa.1; omega
      · simp (disch := omega) only [vm0, vm1, vm2, vm3, vm4, vm5, vm6, vm7, fPick, fBox, fBuild, fBsl, fLd, fLda, fSt, fNilc, fBin, fEq, fUn, fMkf, fFa, fFld, fFlda, fExt, evo, wr, wrC, frame, Bool.not_true, Bool.not_false, beq_self_eq_true, List.cons_append, List.nil_append, Nat.add_zero, Nat.zero_add, Nat.reduceAdd, Nat.reduceMul, Nat.reduceSub, Bool.and_true, Bool.true_and, Bool.and_self, beq_dec, fApp, Int.toNat_natCast, Nat.sub_zero, wr64]
        refine ⟨l.length - (i + 1), by omega, i + 1, _, _, _, _, _, rfl, by omega, by omega, rfl, hfr2.trans hfa (by simp) (by simp), ?_⟩
        intro o ho
        rw [ht] at ho
        rcases List.mem_append.1 ho with ho | ho
        · exact hno o ho
        · simp at ho; subst ho; exact hk
    · simp (disch := omega) only [vm0, vm1, vm2, vm3, vm4, vm5, vm6, vm7, fPick, fBox, fBuild, fBsl, fLd, fLda, fSt, fNilc, fBin, fEq, fUn, fMkf, fFa, fFld, fFlda, fExt, evo, wr, wrC, frame, Bool.not_true, Bool.not_false, beq_self_eq_true, List.cons_append, List.nil_append, Nat.add_zero, Nat.zero_add, Nat.reduceAdd, Nat.reduceMul, Nat.reduceSub, Bool.and_true, Bool.true_and, Bool.and_self, beq_dec, fApp, Int.toNat_natCast, Nat.sub_zero, hp2, hq2]
      have hfs : fst k l 0 = -1 := fst_none (by rw [List.take_of_length_le (by omega)] at hno; exact hno)
      refine ⟨p :: fv, by rw [hfs, if_pos (by omega)]; rfl, ?_, .put' (.inr (Nat.le_refl _)) (hfr3.mono (by simp)), .refl⟩
      rw [hfs, if_pos (by omega)]
      refine hF2.fr (fp' := [s.next]) (.put (.inl (by simp))) ?_
      intro b hb hm
      have := hF0.lt b hb
      simp at hm; omega
end
end Go.Proofs.Ytgckbcljlkkceaa.ctr
namespace Go.Proofs.Ytgckbcljlkkceaa.ctr
open Go.Vm Go.RowKit
set_option linter.unusedVariables false
set_option linter.unusedSimpArgs false
section
variable {bd : Bd} {fu : Nat}
theorem r_drop (n : Nat) (s : St) (p : Nat) (l : List O) (fp : List Nat) (hF : IsF s p l fp) :
    OutOk (callF bd tab.get fu (n + 1) 28 [.ptr p 0] s) (fun x s' => ∃ fv, OwE s' x 4 encO l fv ∧ IsF s' p [] [p] ∧ Fr s s' fp ∧ fp = p :: fv ∧ p ∉ fv) := by
  refine call_code t28 rfl ?_
  obtain ⟨v, fv, h1, h2, h3, rfl, h5⟩ := hF
  simp (disch := omega) only [vm0, vm1, vm2, vm3, vm4, vm5, vm6, vm7, fPick, fBox, fBuild, fBsl, fLd, fLda, fSt, fNilc, fBin, fEq, fUn, fMkf, fFa, fFld, fFlda, fExt, evo, wr, wrC, frame, Bool.not_true, Bool.not_false, beq_self_eq_true, List.cons_append, List.nil_append, Nat.add_zero, Nat.zero_add, Nat.reduceAdd, Nat.reduceMul, Nat.reduceSub, Bool.and_true, Bool.true_and, Bool.and_self, beq_dec, fApp, Int.toNat_natCast, Nat.sub_zero, vc28, h1]
  exact ⟨fv, h2.fr (fp' := [p]) (.put (.inl (by simp))) (by rintro b hb hm; simp at hm; subst hm; exact h3 hb), ⟨.nils, [], get_put_eq rfl, .nil (by intro x; rfl) (by omega), by simp, rfl, by rw [next_put]; exact h5⟩, .put (.inl (by simp)), rfl, h3⟩
theorem sameR (n : Nat) (s : St) (v w : AV) (l m : List O) (hv : RdE s v 4 encO l) (hw : RdE s w 4 encO m) (hlen : l.length < fu) (hf : l.length < 4611686018427387904) :
    OutOk (callF bd tab.get fu (n + 1) 29 [v, w] s) (fun x s' => Is x (.bool (decide (l = m))) ∧ Is s' s) := by
  refine call_code t29 rfl ?_
  by_cases hl : l.length = m.length
  · simp (disch := omega) only [vm0, vm1, vm2, vm3, vm4, vm5, vm6, vm7, fPick, fBox, fBuild, fBsl, fLd, fLda, fSt, fNilc, fBin, fEq, fUn, fMkf, fFa, fFld, fFlda, fExt, evo, wr, wrC, frame, Bool.not_true, Bool.not_false, beq_self_eq_true, List.cons_append, List.nil_append, Nat.add_zero, Nat.zero_add, Nat.reduceAdd, Nat.reduceMul, Nat.reduceSub, Bool.and_true, Bool.true_and, Bool.and_self, beq_dec, fApp, Int.toNat_natCast, Nat.sub_zero, vc29, hv.lenV, hw.lenV]
    refine x_loop (fun k F s' => ∃ i : Nat, ∃ z x3 x6 x7, k = l.length - i ∧ i ≤ l.length ∧ z = (i : Int) ∧ F = [some v, some w, some (num z), x3, some (.bool false), some (num (l.length : Int)), x6, x7, some (.bool false)] ∧ s' = s ∧ l.take i = m.take i) l.length (by omega) ?_ ?_
    · exact ⟨0, _, _, _, _, by omega, by omega, rfl, rfl, rfl, by simp⟩
    · rintro k F s1 ⟨i, _, x3, x6, x7, rfl, hi, rfl, rfl, rfl, ht⟩ hm
      by_cases hlt : i < l.length
      · obtain ⟨x, hx⟩ : ∃ x, l[i]? = some x := ⟨_, List.getElem?_eq_getElem hlt⟩
        obtain ⟨y, hy⟩ : ∃ y, m[i]? = some y := ⟨_, List.getElem?_eq_getElem (by omega)⟩
        have e1 := hv.ia hx
        have e2 := hv.at hx
        have e3 := hw.ia hy
        have e4 := hw.at hy
        have ht' : l.take (i + 1) = l.take i ++ [x] := by rw [List.take_add_one, hx]; rfl
        have ht2 : m.take (i + 1) = m.take i ++ [y] := by rw [List.take_add_one, hy]; rfl
        by_cases hxy : x = y
        · subst hxy
          simp (disch := omega) only [vm0, vm1, vm2, vm3, vm4, vm5, vm6, vm7, fPick, fBox, fBuild, fBsl, fLd, fLda, fSt, fNilc, fBin, fEq, fUn, fMkf, fFa, fFld, fFlda, fExt, evo, wr, wrC, frame, Bool.not_true, Bool.not_false, beq_self_eq_true, List.cons_append, List.nil_append, Nat.add_zero, Nat.zero_add, Nat.reduceAdd, Nat.reduceMul, Nat.reduceSub, Bool.and_true, Bool.true_and, Bool.and_self, beq_dec, fApp, Int.toNat_natCast, Nat.sub_zero, e1, e2, e3, e4, eqO, decide_true, wr64]
          exact ⟨l.length - (i + 1), by omega, i + 1, _, _, _, _, rfl, by omega, by omega, rfl, rfl, by rw [ht', ht2, ht]⟩
        · simp (disch := omega) only [vm0, vm1, vm2, vm3, vm4, vm5, vm6, vm7, fPick, fBox, fBuild, fBsl, fLd, fLda, fSt, fNilc, fBin, fEq, fUn, fMkf, fFa, fFld, fFlda, fExt, evo, wr, wrC, frame, Bool.not_true, Bool.not_false, beq_self_eq_true, List.cons_append, List.nil_append, Nat.add_zero, Nat.zero_add, Nat.reduceAdd, Nat.reduceMul, Nat.reduceSub, Bool.and_true, Bool.true_and, Bool.and_self, beq_dec, fApp, Int.toNat_natCast, Nat.sub_zero, e1, e2, e3, e4, eqO, decide_eq_false hxy, Bool.not_false, wr64]
          refine ⟨?_, rfl⟩
          rw [decide_eq_false]; rfl
          rintro rfl
          rw [hx] at hy; cases hy; exact hxy rfl
      · simp (disch := omega) only [vm0, vm1, vm2, vm3, vm4, vm5, vm6, vm7, fPick, fBox, fBuild, fBsl, fLd, fLda, fSt, fNilc, fBin, fEq, fUn, fMkf, fFa, fFld, fFlda, fExt, evo, wr, wrC, frame, Bool.not_true, Bool.not_false, beq_self_eq_true, List.cons_append, List.nil_append, Nat.add_zero, Nat.zero_add, Nat.reduceAdd, Nat.reduceMul, Nat.reduceSub, Bool.and_true, Bool.true_and, Bool.and_self, beq_dec, fApp, Int.toNat_natCast, Nat.sub_zero]
        refine ⟨?_, rfl⟩
        rw [decide_eq_true]; rfl
        rw [List.take_of_length_le (by omega), List.take_of_length_le (by omega)] at ht
        exact ht
  · simp (disch := omega) only [vm0, vm1, vm2, vm3, vm4, vm5, vm6, vm7, fPick, fBox, fBuild, fBsl, fLd, fLda, fSt, fNilc, fBin, fEq, fUn, fMkf, fFa, fFld, fFlda, fExt, evo, wr, wrC, frame, Bool.not_true, Bool.not_false, beq_self_eq_true, List.cons_append, List.nil_append, Nat.add_zero, Nat.zero_add, Nat.reduceAdd, Nat.reduceMul, Nat.reduceSub, Bool.and_true, Bool.true_and, Bool.and_self, beq_dec, fApp, Int.toNat_natCast, Nat.sub_zero, vc29, hv.lenV, hw.lenV]
    refine ⟨?_, rfl⟩
    rw [decide_eq_false]; rfl
    rintro rfl; exact hl rfl
theorem within (n : Nat) (s : St) (v m : Int) (hv : -9223372036854775808 ≤ v ∧ v ≤ 9223372036854775807) (hm : 1 ≤ m) (hm2 : m ≤ 9223372036854775807) :
    OutOk (callF bd tab.get fu (n + 1) 19 [num v, num m] s) (fun x s' => Is x (num (v % m)) ∧ Is s' s) :=
  within_ok t19 n s v m hv hm hm2
end
end Go.Proofs.Ytgckbcljlkkceaa.ctr
namespace Go.Proofs.Ytgckbcljlkkceaa.ctr
open Go.Vm Go.RowKit
set_option linter.unusedVariables false
set_option linter.unusedSimpArgs false
/-- what is out, within a path of the reference -/
def IsU (s : St) (p : Nat) (a1 a2 a3 : Bool) (sn : Int) (g w : Nat) (l : List O) (fp : List Nat) : Prop := ∃ v fv, s.heap.get p = some (.cells [.bool a1, .bool a2, .bool a3, num sn, .ptr g 0, .ptr w 0, v] .own) ∧ OwE s v 4 encO l fv ∧ p ∉ fv ∧ fp = p :: fv ∧ p < s.next
theorem IsU.fr {s s' : St} {p : Nat} {a1 a2 a3 : Bool} {sn : Int} {g w : Nat} {l : List O} {fp fp' : List Nat} (hF : IsU s p a1 a2 a3 sn g w l fp) (hf : Fr s s' fp') (hd : ∀ b ∈ fp, b ∉ fp') : IsU s' p a1 a2 a3 sn g w l fp := by
  obtain ⟨v, fv, h1, h2, h3, rfl, h5⟩ := hF
  exact ⟨v, fv, (hf.2 p h5 (hd p (by simp))).trans h1, h2.fr hf fun b hb => hd b (by simp [hb]), h3, rfl, Nat.lt_of_lt_of_le h5 hf.1⟩
theorem IsU.lt {s : St} {p : Nat} {a1 a2 a3 : Bool} {sn : Int} {g w : Nat} {l : List O} {fp : List Nat} (hF : IsU s p a1 a2 a3 sn g w l fp) : Lt s fp := by
  obtain ⟨v, fv, h1, h2, h3, rfl, h5⟩ := hF
  intro b hb
  rcases List.mem_cons.1 hb with rfl | hb
  · exact h5
  · exact h2.lt b hb
section
variable {bd : Bd} {fu : Nat}
theorem u_add (n : Nat) (s : St) (p : Nat) (a1 a2 a3 : Bool) (sn : Int) (g w : Nat) (l : List O) (fp : List Nat) (o : O) (hF : IsU s p a1 a2 a3 sn g w l fp) (hlen : l.length < fu) (hf : l.length < 1000) :
    OutOk (callF bd tab.get fu (n + 1) 35 [.ptr p 6, .agg (encO o)] s) (fun x s' => ∃ fp', Is x (.bool (decide (fst o.1 l 0 < 0))) ∧ IsU s' p a1 a2 a3 sn g w (if fst o.1 l 0 < 0 then l ++ [o] else l) fp' ∧ Fr s s' fp ∧ Nw s fp fp') := by
  refine call_code t35 rfl ?_
  obtain ⟨a, b, c, d⟩ := o
  have hF0 := hF
  obtain ⟨v, fv, h1, h2, h3, rfl, h5⟩ := hF
  simp (disch := omega) only [vm0, vm1, vm2, vm3, vm4, vm5, vm6, vm7, fPick, fBox, fBuild, fBsl, fLd, fLda, fSt, fNilc, fBin, fEq, fUn, fMkf, fFa, fFld, fFlda, fExt, evo, wr, wrC, frame, Bool.not_true, Bool.not_false, beq_self_eq_true, List.cons_append, List.nil_append, Nat.add_zero, Nat.zero_add, Nat.reduceAdd, Nat.reduceMul, Nat.reduceSub, Bool.and_true, Bool.true_and, Bool.and_self, beq_dec, fApp, Int.toNat_natCast, Nat.sub_zero, vc35, encO, h1, h2.rd.lenV]
  have hfr : Fr s (s.new (.cells [num a, num b, num c, num d] .own)) [] := .new
  have hq : (s.new (.cells [num a, num b, num c, num d] .own)).heap.get s.next = some (.cells [num a, num b, num c, num d] .own) := get_new_eq rfl
  have hn : s.next < (s.new (.cells [num a, num b, num c, num d] .own)).next := by rw [next_new]; omega
  generalize s.new (.cells [num a, num b, num c, num d] .own) = s1 at *
  refine x_loop (fun m F s' => ∃ i : Nat, ∃ z x5 x7 x8, m = l.length - i ∧ i ≤ l.length ∧ z = (i : Int) ∧ F = [some (.ptr p 6), some (.agg [num a, num b, num c, num d]), some (num z), some (.ptr s.next 0), some (num (l.length : Int)), x5, some v, x7, x8, some (.bool false)] ∧ Fr s1 s' [] ∧ (∀ o ∈ l.take i, o.1 ≠ a)) l.length (by omega) ?_ ?_
  · exact ⟨0, _, _, _, _, by omega, by omega, rfl, rfl, .refl, by simp⟩
  · rintro m F s2 ⟨i, _, x5, x7, x8, rfl, hi, rfl, rfl, hfr2, hno⟩ hm
    have hfr3 := hfr.tr hfr2 (by simp [Nw])
    have hF2 := hF0.fr hfr3 (by simp)
    have hv2 := h2.fr0 hfr3
    have hq2 := (hfr2.get hn (by simp)).trans hq
    have hs2 : s.next < s2.next := Nat.lt_of_lt_of_le hn hfr2.1
    have hp2 := (hfr3.get h5 (by simp)).trans h1
    by_cases hlt : i < l.length
    · obtain ⟨⟨a', b', c', d'⟩, hx⟩ : ∃ x, l[i]? = some x := ⟨_, List.getElem?_eq_getElem hlt⟩
      have e1 := hv2.rd.ia hx
      have e2 := hv2.rd.at hx
      have hbl := hv2.rd.blk' hx
      have ht : l.take (i + 1) = l.take i ++ [(a', b', c', d')] := by rw [List.take_add_one, hx]; rfl
      by_cases hk : a' = a
      · simp (disch := omega) only [vm0, vm1, vm2, vm3, vm4, vm5, vm6, vm7, fPick, fBox, fBuild, fBsl, fLd, fLda, fSt, fNilc, fBin, fEq, fUn, fMkf, fFa, fFld, fFlda, fExt, evo, wr, wrC, frame, Bool.not_true, Bool.not_false, beq_self_eq_true, List.cons_append, List.nil_append, Nat.add_zero, Nat.zero_add, Nat.reduceAdd, Nat.reduceMul, Nat.reduceSub, Bool.and_true, Bool.true_and, Bool.and_self, beq_dec, fApp, Int.toNat_natCast, Nat.sub_zero, e1, e2, encO, wr64, hq2]
        have hfs : fst a l 0 = i := by rw [fst_some hx hk hno]; omega
        refine ⟨p :: fv, by show AV.bool _ = AV.bool _; rw [hfs]; simp, ?_, ?_, .refl⟩
        · rw [hfs, if_neg (by omega)]
          exact hF2.fr (fp' := []) (by (repeat' (first | exact Fr.refl | assumption | apply Fr.new' | apply Fr.mk' | apply Fr.put')) <;> (first | omega | (left; simp; done) | (right; simp only [next_put, next_new, next_mk]; omega) | (simp only [next_put, next_new, next_mk]; omega))) (by simp)
        · exact (hfr3.mono (by simp)).trans (fp1 := []) (by (repeat' (first | exact Fr.refl | assumption | apply Fr.new' | apply Fr.mk' | apply Fr.put')) <;> (first | omega | (left; simp; done) | (right; simp only [next_put, next_new, next_mk]; omega) | (simp only [next_put, next_new, next_mk]; omega))) (fun _ h _ => h) (by simp)
      · simp (disch := omega) only [vm0, vm1, vm2, vm3, vm4, vm5, vm6, vm7, fPick, fBox, fBuild, fBsl, fLd, fLda, fSt, fNilc, fBin, fEq, fUn, fMkf, fFa, fFld, fFlda, fExt, evo, wr, wrC, frame, Bool.not_true, Bool.not_false, beq_self_eq_true, List.cons_append, List.nil_append, Nat.add_zero, Nat.zero_add, Nat.reduceAdd, Nat.reduceMul, Nat.reduceSub, Bool.and_true, Bool.true_and, Bool.and_self, beq_dec, fApp, Int.toNat_natCast, Nat.sub_zero, e1, e2, encO, wr64, hq2]
        refine ⟨l.length - (i + 1), by omega, i + 1, _, _, _, _, rfl, by omega, by omega, rfl, hfr2.trans (fp1 := []) (by (repeat' (first | exact Fr.refl | assumption | apply Fr.new' | apply Fr.mk' | apply Fr.put')) <;> (first | omega | (left; simp; done) | (right; simp only [next_put, next_new, next_mk]; omega) | (simp only [next_put, next_new, next_mk]; omega))) (by simp) (by simp), ?_⟩
        intro o ho
        rw [ht] at ho
        rcases List.mem_append.1 ho with ho | ho
        · exact hno o ho
        · simp at ho; subst ho; exact hk
    · have hlt2 := hv2.lt
      simp (disch := omega) only [vm0, vm1, vm2, vm3, vm4, vm5, vm6, vm7, fPick, fBox, fBuild, fBsl, fLd, fLda, fSt, fNilc, fBin, fEq, fUn, fMkf, fFa, fFld, fFlda, fExt, evo, wr, wrC, frame, Bool.not_true, Bool.not_false, beq_self_eq_true, List.cons_append, List.nil_append, Nat.add_zero, Nat.zero_add, Nat.reduceAdd, Nat.reduceMul, Nat.reduceSub, Bool.and_true, Bool.true_and, Bool.and_self, beq_dec, fApp, Int.toNat_natCast, Nat.sub_zero, hp2, hq2]
      refine op_app1 hv2 (by (repeat' (first | exact Fr.refl | assumption | apply Fr.new' | apply Fr.mk' | apply Fr.put')) <;> (first | omega | (left; simp; done) | (right; simp only [next_put, next_new, next_mk]; omega) | (simp only [next_put, next_new, next_mk]; omega))) (x := (a, b, c, d)) rfl (by omega) ?_
      intro v' s' fp' ho hf' hnw
      have h1' := (hf'.get (Nat.lt_of_lt_of_le h5 hfr3.1) h3).trans hp2
      simp (disch := omega) only [vm0, vm1, vm2, vm3, vm4, vm5, vm6, vm7, fPick, fBox, fBuild, fBsl, fLd, fLda, fSt, fNilc, fBin, fEq, fUn, fMkf, fFa, fFld, fFlda, fExt, evo, wr, wrC, frame, Bool.not_true, Bool.not_false, beq_self_eq_true, List.cons_append, List.nil_append, Nat.add_zero, Nat.zero_add, Nat.reduceAdd, Nat.reduceMul, Nat.reduceSub, Bool.and_true, Bool.true_and, Bool.and_self, beq_dec, fApp, Int.toNat_natCast, Nat.sub_zero, h1', ho.cells]
      have hp : p ∉ fp' := hnw.not h3 (Nat.lt_of_lt_of_le h5 hfr3.1)
      have hfs : fst a l 0 = -1 := fst_none (by rw [List.take_of_length_le (by omega)] at hno; exact hno)
      refine ⟨p :: fp', by show AV.bool _ = AV.bool _; rw [hfs]; simp, ?_, .put' (.inl (by simp)) (hfr3.trans hf' (by simp) (fun b hb _ => by simp [hb])), hnw.cons hfr3.1⟩
      rw [hfs, if_pos (by omega)]
      exact ⟨v', fp', get_put_eq rfl, ho.fr (fp' := [p]) (.put (.inl (by simp))) (by rintro b hb hm; simp at hm; subst hm; exact hp hb), hp, rfl, by rw [next_put]; exact Nat.lt_of_lt_of_le h5 (Nat.le_trans hfr3.1 hf'.1)⟩
theorem u_take (n : Nat) (s : St) (p : Nat) (a1 a2 a3 : Bool) (sn : Int) (g w : Nat) (l : List O) (fp : List Nat) (k : Int) (hF : IsU s p a1 a2 a3 sn g w l fp) (hlen : l.length < fu) (hf : l.length < 1000) :
    OutOk (callF bd tab.get fu (n + 1) 87 [.ptr p 6, num k] s) (fun x s' => ∃ fp', (if fst k l 0 < 0 then x = .tup [.agg (encO o0), .bool false] else x = .tup [.agg (encO (l.getD (ixO k l) o0)), .bool true]) ∧ IsU s' p a1 a2 a3 sn g w (if fst k l 0 < 0 then l else l.eraseIdx (ixO k l)) fp' ∧ Fr s s' fp ∧ Nw s fp fp') := by
  refine call_code t87 rfl ?_
  have hF0 := hF
  obtain ⟨v, fv, h1, h2, h3, rfl, h5⟩ := hF
  simp (disch := omega) only [vm0, vm1, vm2, vm3, vm4, vm5, vm6, vm7, fPick, fBox, fBuild, fBsl, fLd, fLda, fSt, fNilc, fBin, fEq, fUn, fMkf, fFa, fFld, fFlda, fExt, evo, wr, wrC, frame, Bool.not_true, Bool.not_false, beq_self_eq_true, List.cons_append, List.nil_append, Nat.add_zero, Nat.zero_add, Nat.reduceAdd, Nat.reduceMul, Nat.reduceSub, Bool.and_true, Bool.true_and, Bool.and_self, beq_dec, fApp, Int.toNat_natCast, Nat.sub_zero, vc87, h1, h2.rd.lenV]
  have hfr : Fr s (s.new (.cells [num 0, num 0, num 0, num 0] .own)) [] := .new
  have hq : (s.new (.cells [num 0, num 0, num 0, num 0] .own)).heap.get s.next = some (.cells [num 0, num 0, num 0, num 0] .own) := get_new_eq rfl
  have hn : s.next < (s.new (.cells [num 0, num 0, num 0, num 0] .own)).next := by rw [next_new]; omega
  generalize s.new (.cells [num 0, num 0, num 0, num 0] .own) = s1 at *
  refine x_loop (fun m F s' => ∃ i : Nat, ∃ z x4 x5 x7 x9, m = l.length - i ∧ i ≤ l.length ∧ z = (i : Int) ∧ F = [some (.ptr p 6), some (num k), some (num z), some (.ptr s.next 0), x4, x5, some (num (l.length : Int)), x7, some v, x9, some (.bool false)] ∧ Fr s1 s' [] ∧ (∀ o ∈ l.take i, o.1 ≠ k)) l.length (by omega) ?_ ?_
  · exact ⟨0, _, _, _, _, _, by omega, by omega, rfl, rfl, .refl, by simp⟩
  · rintro m F s2 ⟨i, _, x4, x5, x7, x9, rfl, hi, rfl, rfl, hfr2, hno⟩ hm
    have hfr3 := hfr.tr hfr2 (by simp [Nw])
    have hF2 := hF0.fr hfr3 (by simp)
    have hv2 := h2.fr0 hfr3
    have hq2 := (hfr2.get hn (by simp)).trans hq
    have hs2 : s.next < s2.next := Nat.lt_of_lt_of_le hn hfr2.1
    have hp2 := (hfr3.get h5 (by simp)).trans h1
    have hpn : p < s2.next := Nat.lt_of_lt_of_le h5 hfr3.1
    by_cases hlt : i < l.length
    · obtain ⟨⟨a, b, c, d⟩, hx⟩ : ∃ x, l[i]? = some x := ⟨_, List.getElem?_eq_getElem hlt⟩
      have e1 := hv2.rd.ia hx
      have e2 := hv2.rd.at hx
      have hbl := hv2.rd.blk' hx
      have ht : l.take (i + 1) = l.take i ++ [(a, b, c, d)] := by rw [List.take_add_one, hx]; rfl
      simp (disch := omega) only [vm0, vm1, vm2, vm3, vm4, vm5, vm6, vm7, fPick, fBox, fBuild, fBsl, fLd, fLda, fSt, fNilc, fBin, fEq, fUn, fMkf, fFa, fFld, fFlda, fExt, evo, wr, wrC, frame, Bool.not_true, Bool.not_false, beq_self_eq_true, List.cons_append, List.nil_append, Nat.add_zero, Nat.zero_add, Nat.reduceAdd, Nat.reduceMul, Nat.reduceSub, Bool.and_true, Bool.true_and, Bool.and_self, beq_dec, fApp, Int.toNat_natCast, Nat.sub_zero, e1, e2, encO, wr64]
      have hfa : Fr s2 ((s2.new (.cells [num 0, num 0, num 0, num 0] .own)).put s2.next (some (.cells [num a, num b, num c, num d] .own))) [] := (by (repeat' (first | exact Fr.refl | assumption | apply Fr.new' | apply Fr.mk' | apply Fr.put')) <;> (first | omega | (left; simp; done) | (right; simp only [next_put, next_new, next_mk]; omega) | (simp only [next_put, next_new, next_mk]; omega)))
      have hg : ((s2.new (.cells [num 0, num 0, num 0, num 0] .own)).put s2.next (some (.cells [num a, num b, num c, num d] .own))).heap.get s2.next = some (.cells [num a, num b, num c, num d] .own) := get_put_eq rfl
      have hgn : s2.next < ((s2.new (.cells [num 0, num 0, num 0, num 0] .own)).put s2.next (some (.cells [num a, num b, num c, num d] .own))).next := by rw [next_put, next_new]; omega
      generalize (s2.new (.cells [num 0, num 0, num 0, num 0] .own)).put s2.next (some (.cells [num a, num b, num c, num d] .own)) = s3 at *
      have hv3 := hv2.fr0 hfa
      have hq3 := (hfa.get hs2 (by simp)).trans hq2
      have hp3 := (hfa.get hpn (by simp)).trans hp2
      by_cases hk : a = k
      · obtain ⟨u1, g1, r1⟩ := hv3.rd.sliH (b := (i : Int)) (by omega) (by omega)
        obtain ⟨u2, g2, r2⟩ := hv3.rd.sliL (a := (i : Int) + 1) (by omega) (by omega)
        rw [show ((i : Int)).toNat = i by omega] at r1
        rw [show ((i : Int) + 1).toNat = i + 1 by omega] at r2
        have c1 := r1.cellsOf
        have l1 := r1.lenOf
        have htl : (l.take i).length = i := by simp; omega
        have hne : v ≠ .emp := by
          rintro rfl
          rcases h2.ow with ⟨h, _⟩ | ⟨_, _, _, _, _, _, h, _⟩ <;> cases h
        have hsm := sm_sl h2.rd.rd.sl hne
        rw [htl] at c1 l1
        simp (disch := omega) only [vm0, vm1, vm2, vm3, vm4, vm5, vm6, vm7, fPick, fBox, fBuild, fBsl, fLd, fLda, fSt, fNilc, fBin, fEq, fUn, fMkf, fFa, fFld, fFlda, fExt, evo, wr, wrC, frame, Bool.not_true, Bool.not_false, beq_self_eq_true, List.cons_append, List.nil_append, Nat.add_zero, Nat.zero_add, Nat.reduceAdd, Nat.reduceMul, Nat.reduceSub, Bool.and_true, Bool.true_and, Bool.and_self, beq_dec, fApp, Int.toNat_natCast, Nat.sub_zero, wr64, hq3, hp3, g1, g2, l1, c1]
        refine op_app (.nil (by intro x; rfl) (by omega)) (by (repeat' (first | exact Fr.refl | assumption | apply Fr.new' | apply Fr.mk' | apply Fr.put')) <;> (first | omega | (left; simp; done) | (right; simp only [next_put, next_new, next_mk]; omega) | (simp only [next_put, next_new, next_mk]; omega))) (new := l.take i) rfl htl.symm (by simp; omega) ?_
        intro w1 s4 f1 ho1 hf1 hn1
        have hv4 := hv3.fr0 hf1
        have hp4 := (hf1.get (Nat.lt_of_lt_of_le hpn hfa.1) (by simp)).trans hp3
        have hq4 := (hf1.get (Nat.lt_of_lt_of_le hs2 hfa.1) (by simp)).trans hq3
        have hg4 := (hf1.get hgn (by simp)).trans hg
        have c2 := (r2.fr0 hf1).cellsOf
        have l2 := r2.lenOf
        have htl2 : (l.drop (i + 1)).length = l.length - (i + 1) := by simp
        rw [htl2] at c2 l2
        have hln : s3.next ≤ s4.next := hf1.1
        simp (disch := omega) only [vm0, vm1, vm2, vm3, vm4, vm5, vm6, vm7, fPick, fBox, fBuild, fBsl, fLd, fLda, fSt, fNilc, fBin, fEq, fUn, fMkf, fFa, fFld, fFlda, fExt, evo, wr, wrC, frame, Bool.not_true, Bool.not_false, beq_self_eq_true, List.cons_append, List.nil_append, Nat.add_zero, Nat.zero_add, Nat.reduceAdd, Nat.reduceMul, Nat.reduceSub, Bool.and_true, Bool.true_and, Bool.and_self, beq_dec, fApp, Int.toNat_natCast, Nat.sub_zero, wr64, hp4, g2, l2, c2]
        refine op_app ho1 (by (repeat' (first | exact Fr.refl | assumption | apply Fr.new' | apply Fr.mk' | apply Fr.put')) <;> (first | omega | (left; simp; done) | (right; simp only [next_put, next_new, next_mk]; omega) | (simp only [next_put, next_new, next_mk]; omega))) (new := l.drop (i + 1)) rfl htl2.symm (by simp; omega) ?_
        intro w2 s5 f2 ho2 hf2 hn2
        have hpf : p ∉ f1 := fun hm => by have := hn1 p hm; simp at this; have := hfa.1; omega
        have hqf : s.next ∉ f1 := fun hm => by have := hn1 _ hm; simp at this; have := hfa.1; omega
        have hgf : s2.next ∉ f1 := fun hm => by have := hn1 _ hm; simp at this; omega
        have hp5 := (hf2.get (Nat.lt_of_lt_of_le hpn (Nat.le_trans hfa.1 hln)) hpf).trans hp4
        have hq5 := (hf2.get (Nat.lt_of_lt_of_le hs2 (Nat.le_trans hfa.1 hln)) hqf).trans hq4
        have hg5 := (hf2.get (Nat.lt_of_lt_of_le hgn hln) hgf).trans hg4
        have hpf2 : p ∉ f2 := hn2.not hpf (Nat.lt_of_lt_of_le hpn (Nat.le_trans hfa.1 hln))
        have hqf2 : s.next ∉ f2 := hn2.not hqf (Nat.lt_of_lt_of_le hs2 (Nat.le_trans hfa.1 hln))
        have hpg : p ≠ s2.next := by omega
        have hpq : p ≠ s.next := by omega
        simp (disch := omega) only [vm0, vm1, vm2, vm3, vm4, vm5, vm6, vm7, fPick, fBox, fBuild, fBsl, fLd, fLda, fSt, fNilc, fBin, fEq, fUn, fMkf, fFa, fFld, fFlda, fExt, evo, wr, wrC, frame, Bool.not_true, Bool.not_false, beq_self_eq_true, List.cons_append, List.nil_append, Nat.add_zero, Nat.zero_add, Nat.reduceAdd, Nat.reduceMul, Nat.reduceSub, Bool.and_true, Bool.true_and, Bool.and_self, beq_dec, fApp, Int.toNat_natCast, Nat.sub_zero, hp5, hq5, hg5, ho2.cells, hp4, hp3, hsm]
        have hfs : fst k l 0 = i := by rw [fst_some hx hk hno]; omega
        have hix : ixO k l = i := by unfold ixO; rw [hfs]; simp
        have hfz : Fr s s5 [] := ((hfr3.trans hfa (fp2 := []) (by simp) (by simp)).trans hf1 (fp2 := []) (by simp) (by simp)).trans hf2 (by simp) (fun b hb hl => by have := hn1 b hb; simp at this; have := hfr3.1; have := hfa.1; omega)
        refine ⟨p :: f2, ?_, ?_, .put' (.inr (Nat.le_refl _)) (.put' (.inl (by simp)) (hfz.mono (by simp))), ?_⟩
        · rw [hfs, if_neg (by omega), hix]; simp [hx, List.getD, encO]
        · rw [hfs, if_neg (by omega), hix, List.eraseIdx_eq_take_drop_succ]
          refine ⟨w2, f2, ?_, ?_, hpf2, rfl, ?_⟩
          · rw [get_put_ne hpq, get_put_eq rfl]
          · refine ho2.fr (fp' := [p, s.next]) (.put' (.inl (by simp)) (.put (.inl (by simp)))) ?_
            intro z hz hm
            simp at hm
            rcases hm with rfl | rfl
            · exact hpf2 hz
            · exact hqf2 hz
          · rw [next_put, next_put]; exact Nat.lt_of_lt_of_le h5 hfz.1
        · intro b hb
          rcases List.mem_cons.1 hb with rfl | hb
          · exact .inl (by simp)
          · right
            rcases hn2 b hb with h | h
            · have := hn1 b h; simp at this; have := hfr3.1; have := hfa.1; omega
            · have := hfr3.1; have := hfa.1; omega
      · simp (disch := omega) only [vm0, vm1, vm2, vm3, vm4, vm5, vm6, vm7, fPick, fBox, fBuild, fBsl, fLd, fLda, fSt, fNilc, fBin, fEq, fUn, fMkf, fFa, fFld, fFlda, fExt, evo, wr, wrC, frame, Bool.not_true, Bool.not_false, beq_self_eq_true, List.cons_append, List.nil_append, Nat.add_zero, Nat.zero_add, Nat.reduceAdd, Nat.reduceMul, Nat.reduceSub, Bool.and_true, Bool.true_and, Bool.and_self, beq_dec, fApp, Int.toNat_natCast, Nat.sub_zero, wr64]
        refine ⟨l.length - (i + 1), by omega, i + 1, _, _, _, _, _, rfl, by omega, by omega, rfl, hfr2.trans hfa (by simp) (by simp), ?_⟩
        intro o ho
        rw [ht] at ho
        rcases List.mem_append.1 ho with ho | ho
        · exact hno o ho
        · simp at ho; subst ho; exact hk
    · simp (disch := omega) only [vm0, vm1, vm2, vm3, vm4, vm5, vm6, vm7, fPick, fBox, fBuild, fBsl, fLd, fLda, fSt, fNilc, fBin, fEq, fUn, fMkf, fFa, fFld, fFlda, fExt, evo, wr, wrC, frame, Bool.not_true, Bool.not_false, beq_self_eq_true, List.cons_append, List.nil_append, Nat.add_zero, Nat.zero_add, Nat.reduceAdd, Nat.reduceMul, Nat.reduceSub, Bool.and_true, Bool.true_and, Bool.and_self, beq_dec, fApp, Int.toNat_natCast, Nat.sub_zero, hp2, hq2]
      have hfs : fst k l 0 = -1 := fst_none (by rw [List.take_of_length_le (by omega)] at hno; exact hno)
      refine ⟨p :: fv, by rw [hfs, if_pos (by omega)]; rfl, ?_, .put' (.inr (Nat.le_refl _)) (hfr3.mono (by simp)), .refl⟩
      rw [hfs, if_pos (by omega)]
      refine hF2.fr (fp' := [s.next]) (.put (.inl (by simp))) ?_
      intro b hb hm
      have := hF0.lt b hb
      simp at hm; omega
theorem u_late (n : Nat) (s : St) (p : Nat) (a1 a2 a3 : Bool) (sn : Int) (g w : Nat) (l : List O) (fp : List Nat) (now wait : Int) (hF : IsU s p a1 a2 a3 sn g w l fp) (hlen : l.length < fu) (hf : l.length < 1000) (b1 : -1000000000000 ≤ now) (b2 : now ≤ 1000000000000) (b3 : -1000000000000 ≤ wait) (b4 : wait ≤ 1000000000000) :
    OutOk (callF bd tab.get fu (n + 2) 94 [.ptr p 6, num now, num wait] s) (fun x s' => ∃ fl fr, OwE s' x 4 encO (l.filter (lateO now wait)) fl ∧ IsU s' p a1 a2 a3 sn g w (l.filter (fun o => !lateO now wait o)) fr ∧ Fr s s' [p] ∧ Nw s [] fl ∧ Nw s [p] fr ∧ (∀ b ∈ fl, b ∉ fr)) := by
  refine call_code t94 rfl ?_
  obtain ⟨v, fv, h1, h2, h3, rfl, h5⟩ := hF
  simp (disch := omega) only [vm0, vm1, vm2, vm3, vm4, vm5, vm6, vm7, fPick, fBox, fBuild, fBsl, fLd, fLda, fSt, fNilc, fBin, fEq, fUn, fMkf, fFa, fFld, fFlda, fExt, evo, wr, wrC, frame, Bool.not_true, Bool.not_false, beq_self_eq_true, List.cons_append, List.nil_append, Nat.add_zero, Nat.zero_add, Nat.reduceAdd, Nat.reduceMul, Nat.reduceSub, Bool.and_true, Bool.true_and, Bool.and_self, beq_dec, fApp, Int.toNat_natCast, Nat.sub_zero, vc94, h1, h2.rd.lenV]
  refine x_loop (fun m F s' => ∃ i : Nat, ∃ z x4 x8 x10 vl vr fl fr, m = l.length - i ∧ i ≤ l.length ∧ z = (i : Int) ∧ F = [some (.ptr p 6), some (num now), some (num wait), some (num z), x4, some vl, some vr, some (num (l.length : Int)), x8, some v, x10, some .nils] ∧ Fr s s' [] ∧
    OwE s' vl 4 encO ((l.take i).filter (lateO now wait)) fl ∧ OwE s' vr 4 encO ((l.take i).filter (fun o => !lateO now wait o)) fr ∧ Nw s [] fl ∧ Nw s [] fr ∧ (∀ b ∈ fl, b ∉ fr)) l.length (by omega) ?_ ?_
  · exact ⟨0, _, _, _, _, _, _, [], [], by omega, by omega, rfl, rfl, .refl, .nil (by intro x; rfl) (by omega), .nil (by intro x; rfl) (by omega), by simp [Nw], by simp [Nw], by simp⟩
  · rintro m F s1 ⟨i, _, x4, x8, x10, vl, vr, fl, fr, rfl, hi, rfl, rfl, hfr, ol, or_, nl, nr, hd⟩ hm
    have hv1 := h2.fr0 hfr
    have hnx := hfr.1
    by_cases hlt : i < l.length
    · obtain ⟨⟨a, b, c, d⟩, hx⟩ : ∃ x, l[i]? = some x := ⟨_, List.getElem?_eq_getElem hlt⟩
      have e1 := hv1.rd.ia hx
      have e2 := hv1.rd.at hx
      have hbl := hv1.rd.blk' hx
      have ht : l.take (i + 1) = l.take i ++ [(a, b, c, d)] := by rw [List.take_add_one, hx]; rfl
      have hll : ((l.take i).filter (lateO now wait)).length ≤ i := Nat.le_trans (List.length_filter_le _ _) (by simp; omega)
      have hlr : ((l.take i).filter (fun o => !lateO now wait o)).length ≤ i := Nat.le_trans (List.length_filter_le _ _) (by simp; omega)
      simp (disch := omega) only [vm0, vm1, vm2, vm3, vm4, vm5, vm6, vm7, fPick, fBox, fBuild, fBsl, fLd, fLda, fSt, fNilc, fBin, fEq, fUn, fMkf, fFa, fFld, fFlda, fExt, evo, wr, wrC, frame, Bool.not_true, Bool.not_false, beq_self_eq_true, List.cons_append, List.nil_append, Nat.add_zero, Nat.zero_add, Nat.reduceAdd, Nat.reduceMul, Nat.reduceSub, Bool.and_true, Bool.true_and, Bool.and_self, beq_dec, fApp, Int.toNat_natCast, Nat.sub_zero, e1, e2, encO, wr64]
      have hfa : Fr s1 ((s1.new (.cells [num 0, num 0, num 0, num 0] .own)).put s1.next (some (.cells [num a, num b, num c, num d] .own))) [] := (by (repeat' (first | exact Fr.refl | assumption | apply Fr.new' | apply Fr.mk' | apply Fr.put')) <;> (first | omega | (left; simp; done) | (right; simp only [next_put, next_new, next_mk]; omega) | (simp only [next_put, next_new, next_mk]; omega)))
      have hg : ((s1.new (.cells [num 0, num 0, num 0, num 0] .own)).put s1.next (some (.cells [num a, num b, num c, num d] .own))).heap.get s1.next = some (.cells [num a, num b, num c, num d] .own) := get_put_eq rfl
      have hgn : s1.next < ((s1.new (.cells [num 0, num 0, num 0, num 0] .own)).put s1.next (some (.cells [num a, num b, num c, num d] .own))).next := by rw [next_put, next_new]; omega
      generalize (s1.new (.cells [num 0, num 0, num 0, num 0] .own)).put s1.next (some (.cells [num a, num b, num c, num d] .own)) = s2 at *
      have hfb : Fr s1 s2 [] := hfa
      have hq3 := hg
      rw [show decide (d ≤ now - wait) = lateO now wait (a, b, c, d) from rfl]
      have ol3 := ol.fr0 hfb
      have or3 := or_.fr0 hfb
      cases hlate : lateO now wait (a, b, c, d)
      · simp (disch := omega) only [vm0, vm1, vm2, vm3, vm4, vm5, vm6, vm7, fPick, fBox, fBuild, fBsl, fLd, fLda, fSt, fNilc, fBin, fEq, fUn, fMkf, fFa, fFld, fFlda, fExt, evo, wr, wrC, frame, Bool.not_true, Bool.not_false, beq_self_eq_true, List.cons_append, List.nil_append, Nat.add_zero, Nat.zero_add, Nat.reduceAdd, Nat.reduceMul, Nat.reduceSub, Bool.and_true, Bool.true_and, Bool.and_self, beq_dec, fApp, Int.toNat_natCast, Nat.sub_zero, hq3]
        refine op_app1 or3 (by (repeat' (first | exact Fr.refl | assumption | apply Fr.new' | apply Fr.mk' | apply Fr.put')) <;> (first | omega | (left; simp; done) | (right; simp only [next_put, next_new, next_mk]; omega) | (simp only [next_put, next_new, next_mk]; omega))) (x := (a, b, c, d)) rfl (by omega) ?_
        intro v' s4 fr' ho hf4 hnw
        simp (disch := omega) only [vm0, vm1, vm2, vm3, vm4, vm5, vm6, vm7, fPick, fBox, fBuild, fBsl, fLd, fLda, fSt, fNilc, fBin, fEq, fUn, fMkf, fFa, fFld, fFlda, fExt, evo, wr, wrC, frame, Bool.not_true, Bool.not_false, beq_self_eq_true, List.cons_append, List.nil_append, Nat.add_zero, Nat.zero_add, Nat.reduceAdd, Nat.reduceMul, Nat.reduceSub, Bool.and_true, Bool.true_and, Bool.and_self, beq_dec, fApp, Int.toNat_natCast, Nat.sub_zero, wr64]
        refine ⟨l.length - (i + 1), by omega, i + 1, _, _, _, _, _, _, fl, fr', rfl, by omega, by omega, rfl, ?_, ?_, ?_, nl, ?_, ?_⟩
        · exact (hfr.trans hfb (fp2 := []) (by simp) (by simp)).trans hf4 (by simp) (fun b hb hl => by have := nr b hb; simp at this; omega)
        · rw [ht, List.filter_append]; simp only [List.filter_cons, List.filter_nil, hlate]; simpa using ol3.fr hf4 hd
        · rw [ht, List.filter_append]; simp only [List.filter_cons, List.filter_nil, hlate]; simpa using ho
        · intro b hb
          rcases hnw b hb with h | h
          · exact nr b h
          · exact .inr (Nat.le_trans hfr.1 (Nat.le_trans hfb.1 h))
        · intro b hb hb'
          rcases hnw b hb' with h | h
          · exact hd b hb h
          · have := ol.lt b hb; have := hfb.1; omega
      · simp (disch := omega) only [vm0, vm1, vm2, vm3, vm4, vm5, vm6, vm7, fPick, fBox, fBuild, fBsl, fLd, fLda, fSt, fNilc, fBin, fEq, fUn, fMkf, fFa, fFld, fFlda, fExt, evo, wr, wrC, frame, Bool.not_true, Bool.not_false, beq_self_eq_true, List.cons_append, List.nil_append, Nat.add_zero, Nat.zero_add, Nat.reduceAdd, Nat.reduceMul, Nat.reduceSub, Bool.and_true, Bool.true_and, Bool.and_self, beq_dec, fApp, Int.toNat_natCast, Nat.sub_zero, hq3]
        refine op_app1 ol3 (by (repeat' (first | exact Fr.refl | assumption | apply Fr.new' | apply Fr.mk' | apply Fr.put')) <;> (first | omega | (left; simp; done) | (right; simp only [next_put, next_new, next_mk]; omega) | (simp only [next_put, next_new, next_mk]; omega))) (x := (a, b, c, d)) rfl (by omega) ?_
        intro v' s4 fl' ho hf4 hnw
        simp (disch := omega) only [vm0, vm1, vm2, vm3, vm4, vm5, vm6, vm7, fPick, fBox, fBuild, fBsl, fLd, fLda, fSt, fNilc, fBin, fEq, fUn, fMkf, fFa, fFld, fFlda, fExt, evo, wr, wrC, frame, Bool.not_true, Bool.not_false, beq_self_eq_true, List.cons_append, List.nil_append, Nat.add_zero, Nat.zero_add, Nat.reduceAdd, Nat.reduceMul, Nat.reduceSub, Bool.and_true, Bool.true_and, Bool.and_self, beq_dec, fApp, Int.toNat_natCast, Nat.sub_zero, wr64]
        refine ⟨l.length - (i + 1), by omega, i + 1, _, _, _, _, _, _, fl', fr, rfl, by omega, by omega, rfl, ?_, ?_, ?_, ?_, nr, ?_⟩
        · exact (hfr.trans hfb (fp2 := []) (by simp) (by simp)).trans hf4 (by simp) (fun b hb hl => by have := nl b hb; simp at this; omega)
        · rw [ht, List.filter_append]; simp only [List.filter_cons, List.filter_nil, hlate]; simpa using ho
        · rw [ht, List.filter_append]; simp only [List.filter_cons, List.filter_nil, hlate]; simpa using or3.fr hf4 (fun b hb hb' => hd b hb' hb)
        · intro b hb
          rcases hnw b hb with h | h
          · exact nl b h
          · exact .inr (Nat.le_trans hfr.1 (Nat.le_trans hfb.1 h))
        · intro b hb hb'
          rcases hnw b hb with h | h
          · exact hd b h hb'
          · have := or_.lt b hb'; have := hfb.1; omega
    · have hp1 := (hfr.get h5 (by simp)).trans h1
      simp (disch := omega) only [vm0, vm1, vm2, vm3, vm4, vm5, vm6, vm7, fPick, fBox, fBuild, fBsl, fLd, fLda, fSt, fNilc, fBin, fEq, fUn, fMkf, fFa, fFld, fFlda, fExt, evo, wr, wrC, frame, Bool.not_true, Bool.not_false, beq_self_eq_true, List.cons_append, List.nil_append, Nat.add_zero, Nat.zero_add, Nat.reduceAdd, Nat.reduceMul, Nat.reduceSub, Bool.and_true, Bool.true_and, Bool.and_self, beq_dec, fApp, Int.toNat_natCast, Nat.sub_zero, hp1, or_.cells]
      have htk : l.take i = l := List.take_of_length_le (by omega)
      rw [htk] at ol or_
      have hpl : p ∉ fl := fun hm => by have := nl p hm; simp at this; omega
      have hpr : p ∉ fr := fun hm => by have := nr p hm; simp at this; omega
      refine ⟨fl, p :: fr, ol.fr (fp' := [p]) (.put (.inl (by simp))) (by rintro b hb hm; simp at hm; subst hm; exact hpl hb), ⟨vr, fr, get_put_eq rfl, or_.fr (fp' := [p]) (.put (.inl (by simp))) (by rintro b hb hm; simp at hm; subst hm; exact hpr hb), hpr, rfl, by rw [next_put]; omega⟩, .put' (.inl (by simp)) (hfr.mono (by simp)), nl, ?_, ?_⟩
      · intro b hb
        rcases List.mem_cons.1 hb with rfl | hb
        · simp
        · have := nr b hb; simp at this; exact .inr this
      · intro b hb hm
        rcases List.mem_cons.1 hm with rfl | hm
        · exact hpl hb
        · exact hd b hb hm
theorem u_drop (n : Nat) (s : St) (p : Nat) (a1 a2 a3 : Bool) (sn : Int) (g w : Nat) (l : List O) (fp : List Nat) (hF : IsU s p a1 a2 a3 sn g w l fp) :
    OutOk (callF bd tab.get fu (n + 1) 28 [.ptr p 6] s) (fun x s' => ∃ fv, OwE s' x 4 encO l fv ∧ IsU s' p a1 a2 a3 sn g w [] [p] ∧ Fr s s' fp ∧ fp = p :: fv ∧ p ∉ fv) := by
  refine call_code t28 rfl ?_
  obtain ⟨v, fv, h1, h2, h3, rfl, h5⟩ := hF
  simp (disch := omega) only [vm0, vm1, vm2, vm3, vm4, vm5, vm6, vm7, fPick, fBox, fBuild, fBsl, fLd, fLda, fSt, fNilc, fBin, fEq, fUn, fMkf, fFa, fFld, fFlda, fExt, evo, wr, wrC, frame, Bool.not_true, Bool.not_false, beq_self_eq_true, List.cons_append, List.nil_append, Nat.add_zero, Nat.zero_add, Nat.reduceAdd, Nat.reduceMul, Nat.reduceSub, Bool.and_true, Bool.true_and, Bool.and_self, beq_dec, fApp, Int.toNat_natCast, Nat.sub_zero, vc28, h1]
  exact ⟨fv, h2.fr (fp' := [p]) (.put (.inl (by simp))) (by rintro b hb hm; simp at hm; subst hm; exact h3 hb), ⟨.nils, [], get_put_eq rfl, .nil (by intro x; rfl) (by omega), by simp, rfl, by rw [next_put]; exact h5⟩, .put (.inl (by simp)), rfl, h3⟩
end
end Go.Proofs.Ytgckbcljlkkceaa.ctr
