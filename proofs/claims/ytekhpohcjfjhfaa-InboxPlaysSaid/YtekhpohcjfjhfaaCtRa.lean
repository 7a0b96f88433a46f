/- Contracts: sets of ranges, the program's and the reference's. -/
import Derived.Test.YtekhpohcjfjhfaaCtTab
import Derived.Test.YtekhpohcjfjhfaaCtSo
import Derived.Shelf.SlicesG.Cmp
import Derived.WalkKit
import Derived.ProofKit
namespace Go.Proofs.Ytekhpohcjfjhfaa.ctr
open Go.Vm Go.RowKit Go.Ranges
set_option linter.unusedVariables false
set_option linter.unusedSimpArgs false
def encR (r : R) : List AV := [num r.1, num r.2]
theorem encR_w : ∀ x : R, (encR x).length = 2 := fun _ => rfl
theorem eqR (bd : Bd) (x y : R) : eqFs bd [0, 0] (encR x) (encR y) = some (decide (x = y)) := by
  obtain ⟨a, b⟩ := x
  obtain ⟨a', b'⟩ := y
  simp only [encR, e_i, e_0, cnd_eq, Prod.mk.injEq]
  by_cases h1 : a = a' <;> by_cases h2 : b = b' <;> simp [h1, h2]
/-- a set, behind its address -/
def IsS (s : St) (p : Nat) (l : List R) (fp : List Nat) : Prop := ∃ v fv, s.heap.get p = some (.cells [v] .own) ∧ OwE s v 2 encR l fv ∧ p ∉ fv ∧ fp = p :: fv ∧ p < s.next
theorem IsS.fr {s s' : St} {p : Nat} {l : List R} {fp fp' : List Nat} (hF : IsS s p l fp) (hf : Fr s s' fp') (hd : ∀ b ∈ fp, b ∉ fp') : IsS s' p l fp := by
  obtain ⟨v, fv, h1, h2, h3, rfl, h5⟩ := hF
  exact ⟨v, fv, (hf.2 p h5 (hd p (by simp))).trans h1, h2.fr hf fun b hb => hd b (by simp [hb]), h3, rfl, Nat.lt_of_lt_of_le h5 hf.1⟩
theorem IsS.lt {s : St} {p : Nat} {l : List R} {fp : List Nat} (hF : IsS s p l fp) : Lt s fp := by
  obtain ⟨v, fv, h1, h2, h3, rfl, h5⟩ := hF
  intro b hb
  rcases List.mem_cons.1 hb with rfl | hb
  · exact h5
  · exact h2.lt b hb
theorem IsS.mem {s : St} {p : Nat} {l : List R} {fp : List Nat} (hF : IsS s p l fp) : p ∈ fp := by
  obtain ⟨v, fv, h1, h2, h3, rfl, h5⟩ := hF; simp
/-- what sorting does to a slice of ranges of which no two begin at one place -/
def SortOk (h : VF) : Prop := ∀ (bd : Bd) (fu n : Nat) (s : St) (v : AV) (l : List R) (fp : List Nat), OwE s v 2 encR l fp → l ≠ [] → l.length < 1000000 → (l.map Prod.fst).Nodup →
  OutOk (callF bd (tab h).get fu (n + 1) 97 [v, .fn 98 [] []] s) (fun x s' => ∃ fp', OwE s' v 2 encR (sortR l) fp' ∧ Fr s s' fp ∧ (∀ b ∈ fp', b ∈ fp))
section
variable {bd : Bd} {h : VF} {fu : Nat}
theorem s_new (n : Nat) (s : St) : OutOk (callF bd (tab h).get fu (n + 1) 54 [] s) (fun x s' => ∃ p, Is x (.ptr p 0) ∧ s.next ≤ p ∧ Fr s s' [] ∧ IsS s' p [] [p]) := by
  refine call_code (t54 h) rfl ?_
  simp (disch := omega) only [vm0, vm1, vm2, vm3, vm4, vm5, vm6, vm7, fPick, fBox, fBuild, fBsl, fLd, fLda, fSt, fNilc, fBin, fEq, fUn, fMkf, fFa, fFld, fFlda, fExt, evo, wr, wrC, frame, Bool.not_true, Bool.not_false, beq_self_eq_true, List.cons_append, List.nil_append, Nat.add_zero, Nat.zero_add, Nat.reduceAdd, Nat.reduceMul, Nat.reduceSub, Bool.and_true, Bool.true_and, Bool.and_self, beq_dec, fApp, Int.toNat_natCast, Nat.sub_zero, vc54]
  exact ⟨s.next, rfl, by omega, .new, .nils, [], get_new_eq rfl, .nil encR_w (by omega), by simp, rfl, by rw [next_new]; omega⟩
theorem s_within (n : Nat) (s : St) (f t : Int) : OutOk (callF bd (tab h).get fu (n + 1) 96 [num f, num t] s) (fun x s' => Is x (.tup [num (max 0 f), num (min t far)]) ∧ Is s' s) := by
  refine call_code (t96 h) rfl ?_
  simp (disch := omega) only [vm0, vm1, vm2, vm3, vm4, vm5, vm6, vm7, fPick, fBox, fBuild, fBsl, fLd, fLda, fSt, fNilc, fBin, fEq, fUn, fMkf, fFa, fFld, fFlda, fExt, evo, wr, wrC, frame, Bool.not_true, Bool.not_false, beq_self_eq_true, List.cons_append, List.nil_append, Nat.add_zero, Nat.zero_add, Nat.reduceAdd, Nat.reduceMul, Nat.reduceSub, Bool.and_true, Bool.true_and, Bool.and_self, beq_dec, fApp, Int.toNat_natCast, Nat.sub_zero, vmI, vc96]
  exact ⟨rfl, rfl⟩
theorem s_clip (n : Nat) (s : St) (f t : Int) : OutOk (callF bd (tab h).get fu (n + 1) 116 [num f, num t] s) (fun x s' => Is x (.tup [num (max f 0), num (min t far), .bool (decide (max f 0 < min t far))]) ∧ Is s' s) := by
  refine call_code (t116 h) rfl ?_
  simp (disch := omega) only [vm0, vm1, vm2, vm3, vm4, vm5, vm6, vm7, fPick, fBox, fBuild, fBsl, fLd, fLda, fSt, fNilc, fBin, fEq, fUn, fMkf, fFa, fFld, fFlda, fExt, evo, wr, wrC, frame, Bool.not_true, Bool.not_false, beq_self_eq_true, List.cons_append, List.nil_append, Nat.add_zero, Nat.zero_add, Nat.reduceAdd, Nat.reduceMul, Nat.reduceSub, Bool.and_true, Bool.true_and, Bool.and_self, beq_dec, fApp, Int.toNat_natCast, Nat.sub_zero, vmI, vc116]
  exact ⟨rfl, rfl⟩
theorem cloneS (n : Nat) (s : St) (v : AV) (l : List R) (hv : RdE s v 2 encR l) (hf : l.length < 1000000) :
    OutOk (callF bd (tab h).get fu (n + 1) 100 [v] s) (fun x s' => ∃ fp, OwE s' x 2 encR l fp ∧ Fr s s' [] ∧ Nw s [] fp ∧ (v = .nils → Is x .nils) ∧ (v ≠ .nils → x ≠ .nils)) :=
  clone_ok (t100 h) (by omega) n s v l hv hf
theorem s_all (n : Nat) (s : St) (p : Nat) (l : List R) (fp : List Nat) (hF : IsS s p l fp) (hf : l.length < 1000000) :
    OutOk (callF bd (tab h).get fu (n + 2) 56 [.ptr p 0] s) (fun x s' => ∃ fp', OwE s' x 2 encR l fp' ∧ Fr s s' [] ∧ Nw s [] fp') := by
  refine call_code (t56 h) rfl ?_
  obtain ⟨v, fv, h1, h2, h3, rfl, h5⟩ := hF
  simp (disch := omega) only [vm0, vm1, vm2, vm3, vm4, vm5, vm6, vm7, fPick, fBox, fBuild, fBsl, fLd, fLda, fSt, fNilc, fBin, fEq, fUn, fMkf, fFa, fFld, fFlda, fExt, evo, wr, wrC, frame, Bool.not_true, Bool.not_false, beq_self_eq_true, List.cons_append, List.nil_append, Nat.add_zero, Nat.zero_add, Nat.reduceAdd, Nat.reduceMul, Nat.reduceSub, Bool.and_true, Bool.true_and, Bool.and_self, beq_dec, fApp, Int.toNat_natCast, Nat.sub_zero, vc56, h1]
  refine call_ok rfl rfl (cloneS n s v l h2.rd hf) ?_
  rintro x s' ⟨fp', g1, g2, g3, _⟩
  simp (disch := omega) only [vm0, vm1, vm2, vm3, vm4, vm5, vm6, vm7, fPick, fBox, fBuild, fBsl, fLd, fLda, fSt, fNilc, fBin, fEq, fUn, fMkf, fFa, fFld, fFlda, fExt, evo, wr, wrC, frame, Bool.not_true, Bool.not_false, beq_self_eq_true, List.cons_append, List.nil_append, Nat.add_zero, Nat.zero_add, Nat.reduceAdd, Nat.reduceMul, Nat.reduceSub, Bool.and_true, Bool.true_and, Bool.and_self, beq_dec, fApp, Int.toNat_natCast, Nat.sub_zero]
  exact ⟨fp', g1, g2, g3⟩
theorem s_first (n : Nat) (s : St) (p : Nat) (l : List R) (fp : List Nat) (hF : IsS s p l fp) :
    OutOk (callF bd (tab h).get fu (n + 1) 58 [.ptr p 0] s) (fun x s' => Is x (.tup [.agg (encR (l.headD (0, 0))), .bool (!l.isEmpty)]) ∧ Fr s s' []) := by
  refine call_code (t58 h) rfl ?_
  obtain ⟨v, fv, h1, h2, h3, rfl, h5⟩ := hF
  cases l with
  | nil =>
    simp (disch := omega) only [vm0, vm1, vm2, vm3, vm4, vm5, vm6, vm7, fPick, fBox, fBuild, fBsl, fLd, fLda, fSt, fNilc, fBin, fEq, fUn, fMkf, fFa, fFld, fFlda, fExt, evo, wr, wrC, frame, Bool.not_true, Bool.not_false, beq_self_eq_true, List.cons_append, List.nil_append, Nat.add_zero, Nat.zero_add, Nat.reduceAdd, Nat.reduceMul, Nat.reduceSub, Bool.and_true, Bool.true_and, Bool.and_self, beq_dec, fApp, Int.toNat_natCast, Nat.sub_zero, vc58, h1, h2.rd.lenV, List.length_nil]
    exact ⟨rfl, (by (repeat' (first | exact Fr.refl | assumption | apply Fr.new' | apply Fr.mk' | apply Fr.put')) <;> (first | omega | (left; simp; done) | (right; simp only [next_put, next_new, next_mk]; omega) | (simp only [next_put, next_new, next_mk]; omega)))⟩
  | cons r l =>
    have hx : (r :: l)[0]? = some r := rfl
    have e1 := h2.rd.ia hx
    have e2 := h2.rd.at hx
    have hb := h2.rd.blk' hx
    obtain ⟨a, b⟩ := r
    have hl : 0 < ((a, b) :: l).length := by simp
    simp (disch := omega) only [vm0, vm1, vm2, vm3, vm4, vm5, vm6, vm7, fPick, fBox, fBuild, fBsl, fLd, fLda, fSt, fNilc, fBin, fEq, fUn, fMkf, fFa, fFld, fFlda, fExt, evo, wr, wrC, frame, Bool.not_true, Bool.not_false, beq_self_eq_true, List.cons_append, List.nil_append, Nat.add_zero, Nat.zero_add, Nat.reduceAdd, Nat.reduceMul, Nat.reduceSub, Bool.and_true, Bool.true_and, Bool.and_self, beq_dec, fApp, Int.toNat_natCast, Nat.sub_zero, vc58, h1, h2.rd.lenV]
    simp only [Int.natCast_zero, Nat.zero_mul, Nat.add_zero] at e1 e2
    simp (disch := omega) only [vm0, vm1, vm2, vm3, vm4, vm5, vm6, vm7, fPick, fBox, fBuild, fBsl, fLd, fLda, fSt, fNilc, fBin, fEq, fUn, fMkf, fFa, fFld, fFlda, fExt, evo, wr, wrC, frame, Bool.not_true, Bool.not_false, beq_self_eq_true, List.cons_append, List.nil_append, Nat.add_zero, Nat.zero_add, Nat.reduceAdd, Nat.reduceMul, Nat.reduceSub, Bool.and_true, Bool.true_and, Bool.and_self, beq_dec, fApp, Int.toNat_natCast, Nat.sub_zero, h1, e1, e2, encR]
    exact ⟨rfl, (by (repeat' (first | exact Fr.refl | assumption | apply Fr.new' | apply Fr.mk' | apply Fr.put')) <;> (first | omega | (left; simp; done) | (right; simp only [next_put, next_new, next_mk]; omega) | (simp only [next_put, next_new, next_mk]; omega)))⟩
theorem s_front (n : Nat) (s : St) (p : Nat) (l : List R) (fp : List Nat) (hF : IsS s p l fp) :
    OutOk (callF bd (tab h).get fu (n + 2) 60 [.ptr p 0] s) (fun x s' => Is x (num (if l ≠ [] ∧ (l.headD (0, 0)).1 = 0 then (l.headD (0, 0)).2 else 0)) ∧ Fr s s' []) := by
  refine call_code (t60 h) rfl ?_
  simp (disch := omega) only [vm0, vm1, vm2, vm3, vm4, vm5, vm6, vm7, fPick, fBox, fBuild, fBsl, fLd, fLda, fSt, fNilc, fBin, fEq, fUn, fMkf, fFa, fFld, fFlda, fExt, evo, wr, wrC, frame, Bool.not_true, Bool.not_false, beq_self_eq_true, List.cons_append, List.nil_append, Nat.add_zero, Nat.zero_add, Nat.reduceAdd, Nat.reduceMul, Nat.reduceSub, Bool.and_true, Bool.true_and, Bool.and_self, beq_dec, fApp, Int.toNat_natCast, Nat.sub_zero, vc60]
  refine call_ok rfl rfl (s_first n s p l fp hF) ?_
  rintro x s1 ⟨rfl, hf1⟩
  have hf2 : Fr s ((s1.new (.cells [num 0, num 0] .own)).put s1.next (some (.cells (encR (l.headD (0, 0))) .own))) [] := (hf1.trans (fp1 := []) (s2 := s1.new _) .new (fp2 := []) (by simp) (by simp)).trans (fp1 := [s1.next]) (.put (.inl (by simp))) (by simp) (fun b hb hl => by simp at hb; subst hb; have := hf1.1; omega)
  generalize hr : l.headD (0, 0) = r at *
  obtain ⟨a, b⟩ := r
  cases l with
  | nil =>
    simp (disch := omega) only [vm0, vm1, vm2, vm3, vm4, vm5, vm6, vm7, fPick, fBox, fBuild, fBsl, fLd, fLda, fSt, fNilc, fBin, fEq, fUn, fMkf, fFa, fFld, fFlda, fExt, evo, wr, wrC, frame, Bool.not_true, Bool.not_false, beq_self_eq_true, List.cons_append, List.nil_append, Nat.add_zero, Nat.zero_add, Nat.reduceAdd, Nat.reduceMul, Nat.reduceSub, Bool.and_true, Bool.true_and, Bool.and_self, beq_dec, fApp, Int.toNat_natCast, Nat.sub_zero, encR, List.isEmpty_nil]
    exact ⟨by show num _ = num _; simp, hf2⟩
  | cons r l =>
    by_cases h0 : a = 0
    · simp (disch := omega) only [vm0, vm1, vm2, vm3, vm4, vm5, vm6, vm7, fPick, fBox, fBuild, fBsl, fLd, fLda, fSt, fNilc, fBin, fEq, fUn, fMkf, fFa, fFld, fFlda, fExt, evo, wr, wrC, frame, Bool.not_true, Bool.not_false, beq_self_eq_true, List.cons_append, List.nil_append, Nat.add_zero, Nat.zero_add, Nat.reduceAdd, Nat.reduceMul, Nat.reduceSub, Bool.and_true, Bool.true_and, Bool.and_self, beq_dec, fApp, Int.toNat_natCast, Nat.sub_zero, encR, List.isEmpty_cons]
      exact ⟨by show num _ = num _; simp [h0], hf2⟩
    · simp (disch := omega) only [vm0, vm1, vm2, vm3, vm4, vm5, vm6, vm7, fPick, fBox, fBuild, fBsl, fLd, fLda, fSt, fNilc, fBin, fEq, fUn, fMkf, fFa, fFld, fFlda, fExt, evo, wr, wrC, frame, Bool.not_true, Bool.not_false, beq_self_eq_true, List.cons_append, List.nil_append, Nat.add_zero, Nat.zero_add, Nat.reduceAdd, Nat.reduceMul, Nat.reduceSub, Bool.and_true, Bool.true_and, Bool.and_self, beq_dec, fApp, Int.toNat_natCast, Nat.sub_zero, encR, List.isEmpty_cons]
      exact ⟨by show num _ = num _; simp [h0], hf2⟩
end
end Go.Proofs.Ytekhpohcjfjhfaa.ctr
namespace Go.Proofs.Ytekhpohcjfjhfaa.ctr
open Go.Vm Go.RowKit Go.Ranges
set_option linter.unusedVariables false
set_option linter.unusedSimpArgs false
theorem pAdd_take {f t : Int} {l : List R} {i : Nat} {x : R} (hx : l[i]? = some x) : pAdd f t (l.take (i + 1)) = pstep (pAdd f t (l.take i)) x := by
  rw [List.take_add_one, hx]; simp [pAdd]
theorem pAdd_len {f t : Int} (l : List R) : (pAdd f t l).1.length ≤ l.length := by
  have key : ∀ (l : List R) (o : List R × Int × Int), (l.foldl pstep o).1.length ≤ o.1.length + l.length := by
    intro l
    induction l with
    | nil => intro o; simp
    | cons r l ih =>
      intro o
      rw [List.foldl_cons]
      have := ih (pstep o r)
      have h2 : (pstep o r).1.length ≤ o.1.length + 1 := by unfold pstep; split <;> simp
      simp only [List.length_cons]; omega
  have := key l ([], f, t)
  simpa [pAdd] using this
theorem pAdd_bd {f t : Int} (l : List R) (hl : ∀ r ∈ l, 0 ≤ r.1 ∧ r.1 < r.2 ∧ r.2 ≤ far) (hf : 0 ≤ f) (ht : t ≤ far) (hft : f < t) : 0 ≤ (pAdd f t l).2.1 ∧ (pAdd f t l).2.2 ≤ far ∧ (pAdd f t l).2.1 < (pAdd f t l).2.2 := by
  have key : ∀ (l : List R) (o : List R × Int × Int), (∀ r ∈ l, 0 ≤ r.1 ∧ r.1 < r.2 ∧ r.2 ≤ far) → 0 ≤ o.2.1 → o.2.2 ≤ far → o.2.1 < o.2.2 → 0 ≤ (l.foldl pstep o).2.1 ∧ (l.foldl pstep o).2.2 ≤ far ∧ (l.foldl pstep o).2.1 < (l.foldl pstep o).2.2 := by
    intro l
    induction l with
    | nil => intro o _ h1 h2 h3; exact ⟨h1, h2, h3⟩
    | cons r l ih =>
      intro o h h1 h2 h3
      have hr := h r (by simp)
      rw [List.foldl_cons]
      refine ih _ (fun q hq => h q (by simp [hq])) ?_ ?_ ?_ <;> (unfold pstep; split <;> simp only <;> omega)
  exact key l _ hl hf ht hft
section
variable {bd : Bd} {h : VF} {fu : Nat}
set_option maxHeartbeats 400000 in
theorem s_add (hs : SortOk h) (n : Nat) (s : St) (p : Nat) (l : List R) (fp : List Nat) (f t : Int) (hF : IsS s p l fp) (hw : WFr 0 l) (hlen : l.length < fu) (hf : l.length < 100000) :
    OutOk (callF bd (tab h).get fu (n + 2) 55 [.ptr p 0, num f, num t] s) (fun x s' => ∃ fp', IsS s' p (if max 0 f < min t far then addR (max 0 f) (min t far) l else l) fp' ∧ Fr s s' fp ∧ Nw s fp fp') := by
  refine call_code (t55 h) rfl ?_
  simp (disch := omega) only [vm0, vm1, vm2, vm3, vm4, vm5, vm6, vm7, fPick, fBox, fBuild, fBsl, fLd, fLda, fSt, fNilc, fBin, fEq, fUn, fMkf, fFa, fFld, fFlda, fExt, evo, wr, wrC, frame, Bool.not_true, Bool.not_false, beq_self_eq_true, List.cons_append, List.nil_append, Nat.add_zero, Nat.zero_add, Nat.reduceAdd, Nat.reduceMul, Nat.reduceSub, Bool.and_true, Bool.true_and, Bool.and_self, beq_dec, fApp, Int.toNat_natCast, Nat.sub_zero, vc55]
  refine call_ok rfl rfl (s_within n s f t) ?_
  rintro x s ⟨rfl, rfl⟩
  have hF0 := hF
  obtain ⟨v, fv, h1, h2, h3, rfl, h5⟩ := hF
  obtain ⟨f', hf'⟩ : ∃ f', max 0 f = f' := ⟨_, rfl⟩
  obtain ⟨t', ht'⟩ : ∃ t', min t far = t' := ⟨_, rfl⟩
  have hfar : far = 1099511627776 := rfl
  rw [hf', ht']
  by_cases hgo : f' < t'
  · rw [if_pos hgo]
    have hlb := hw.lb
    simp (disch := omega) only [vm0, vm1, vm2, vm3, vm4, vm5, vm6, vm7, fPick, fBox, fBuild, fBsl, fLd, fLda, fSt, fNilc, fBin, fEq, fUn, fMkf, fFa, fFld, fFlda, fExt, evo, wr, wrC, frame, Bool.not_true, Bool.not_false, beq_self_eq_true, List.cons_append, List.nil_append, Nat.add_zero, Nat.zero_add, Nat.reduceAdd, Nat.reduceMul, Nat.reduceSub, Bool.and_true, Bool.true_and, Bool.and_self, beq_dec, fApp, Int.toNat_natCast, Nat.sub_zero, h1, h2.rd.lenV]
    refine x_loop (fun m F s' => ∃ i : Nat, ∃ z x3 x8 x10 vo fo, m = l.length - i ∧ i ≤ l.length ∧ z = (i : Int) ∧ F = [some (.ptr p 0), some (num (pAdd f' t' (l.take i)).2.1), some (num (pAdd f' t' (l.take i)).2.2), x3, some vo, some (num z), some (.bool false), some (num (l.length : Int)), x8, some v, x10] ∧
      Fr s s' [] ∧ OwE s' vo 2 encR (pAdd f' t' (l.take i)).1 fo ∧ Nw s [] fo) l.length (by omega) ?_ ?_
    · exact ⟨0, _, _, _, _, _, [], by omega, by omega, rfl, rfl, .refl, .nil encR_w (by omega), by simp [Nw]⟩
    · rintro m F s1 ⟨i, _, x3, x8, x10, vo, fo, rfl, hi, rfl, rfl, hfr, ho, hn⟩ hm
      have hv1 := h2.fr0 hfr
      have hpl := pAdd_len (f := f') (t := t') (l.take i)
      rw [List.length_take, Nat.min_eq_left hi] at hpl
      have hbd := pAdd_bd (f := f') (t := t') (l.take i) (fun r hr => by have := hlb r (List.mem_of_mem_take hr); exact this) (by omega) (by omega) hgo
      by_cases hlt : i < l.length
      · obtain ⟨x, hx⟩ : ∃ x, l[i]? = some x := ⟨_, List.getElem?_eq_getElem hlt⟩
        have hps := pAdd_take (f := f') (t := t') hx
        have hxb := hlb x (List.mem_of_getElem? hx)
        obtain ⟨a, b⟩ := x
        have e1 := hv1.rd.ia hx
        have e2 := hv1.rd.at hx
        have hbl := hv1.rd.blk' hx
        obtain ⟨o, f1, t1, ho1⟩ : ∃ o f1 t1, pAdd f' t' (l.take i) = (o, f1, t1) := ⟨_, _, _, rfl⟩
        rw [ho1] at ho hbd hps hpl
        rw [ho1]
        simp only at ho hbd hpl hxb
        simp (disch := omega) only [vm0, vm1, vm2, vm3, vm4, vm5, vm6, vm7, fPick, fBox, fBuild, fBsl, fLd, fLda, fSt, fNilc, fBin, fEq, fUn, fMkf, fFa, fFld, fFlda, fExt, evo, wr, wrC, frame, Bool.not_true, Bool.not_false, beq_self_eq_true, List.cons_append, List.nil_append, Nat.add_zero, Nat.zero_add, Nat.reduceAdd, Nat.reduceMul, Nat.reduceSub, Bool.and_true, Bool.true_and, Bool.and_self, beq_dec, fApp, Int.toNat_natCast, Nat.sub_zero, vmI, e1, e2, encR]
        have hfa : Fr s1 ((s1.new (.cells [num 0, num 0] .own)).put s1.next (some (.cells [num a, num b] .own))) [] := (by (repeat' (first | exact Fr.refl | assumption | apply Fr.new' | apply Fr.mk' | apply Fr.put')) <;> (first | omega | (left; simp; done) | (right; simp only [next_put, next_new, next_mk]; omega) | (simp only [next_put, next_new, next_mk]; omega)))
        have hg : ((s1.new (.cells [num 0, num 0] .own)).put s1.next (some (.cells [num a, num b] .own))).heap.get s1.next = some (.cells [num a, num b] .own) := get_put_eq rfl
        generalize (s1.new (.cells [num 0, num 0] .own)).put s1.next (some (.cells [num a, num b] .own)) = s2 at *
        have ho2 := ho.fr0 hfa
        have hfr2 := hfr.trans hfa (fp2 := []) (by simp) (by simp)
        by_cases hout : b < f1 ∨ t1 < a
        · have hps' : pAdd f' t' (l.take (i + 1)) = (o ++ [(a, b)], f1, t1) := by rw [hps]; exact if_pos hout
          have fin : ∀ (v' : AV) (s4 : St) (fo' : List Nat), OwE s4 v' 2 encR (o ++ [(a, b)]) fo' → Fr s2 s4 fo → Nw s2 fo fo' → ∀ x3' x8' x10', ∃ j, j < l.length - i ∧ ∃ i' : Nat, ∃ z x3 x8 x10 vo fo, j = l.length - i' ∧ i' ≤ l.length ∧ z = (i' : Int) ∧ [some (.ptr p 0), some (num f1), some (num t1), x3', some v', some (num ((i : Int) + 1)), some (.bool false), some (num (l.length : Int)), x8', some v, x10'] = [some (.ptr p 0), some (num (pAdd f' t' (l.take i')).2.1), some (num (pAdd f' t' (l.take i')).2.2), x3, some vo, some (num z), some (.bool false), some (num (l.length : Int)), x8, some v, x10] ∧
              Fr s s4 [] ∧ OwE s4 vo 2 encR (pAdd f' t' (l.take i')).1 fo ∧ Nw s [] fo := by
            intro v' s4 fo' q1 q2 q3 x3' x8' x10'
            exact ⟨l.length - (i + 1), by omega, i + 1, (i : Int) + 1, _, _, _, _, fo', rfl, by omega, by omega, by rw [hps'], hfr2.nn q2 hn, by rw [hps']; exact q1, hn.nn q3 hfr2.1⟩
          by_cases hb : b < f1
          · simp (disch := omega) only [vm0, vm1, vm2, vm3, vm4, vm5, vm6, vm7, fPick, fBox, fBuild, fBsl, fLd, fLda, fSt, fNilc, fBin, fEq, fUn, fMkf, fFa, fFld, fFlda, fExt, evo, wr, wrC, frame, Bool.not_true, Bool.not_false, beq_self_eq_true, List.cons_append, List.nil_append, Nat.add_zero, Nat.zero_add, Nat.reduceAdd, Nat.reduceMul, Nat.reduceSub, Bool.and_true, Bool.true_and, Bool.and_self, beq_dec, fApp, Int.toNat_natCast, Nat.sub_zero, vmI, hg]
            refine op_app1 ho2 (by (repeat' (first | exact Fr.refl | assumption | apply Fr.new' | apply Fr.mk' | apply Fr.put')) <;> (first | omega | (left; simp; done) | (right; simp only [next_put, next_new, next_mk]; omega) | (simp only [next_put, next_new, next_mk]; omega))) (x := (a, b)) rfl (by omega) ?_
            intro v' s4 fo' q1 q2 q3
            simp (disch := omega) only [vm0, vm1, vm2, vm3, vm4, vm5, vm6, vm7, fPick, fBox, fBuild, fBsl, fLd, fLda, fSt, fNilc, fBin, fEq, fUn, fMkf, fFa, fFld, fFlda, fExt, evo, wr, wrC, frame, Bool.not_true, Bool.not_false, beq_self_eq_true, List.cons_append, List.nil_append, Nat.add_zero, Nat.zero_add, Nat.reduceAdd, Nat.reduceMul, Nat.reduceSub, Bool.and_true, Bool.true_and, Bool.and_self, beq_dec, fApp, Int.toNat_natCast, Nat.sub_zero, vmI, q_blky]
            exact fin v' s4 fo' q1 q2 q3 _ _ _
          · simp (disch := omega) only [vm0, vm1, vm2, vm3, vm4, vm5, vm6, vm7, fPick, fBox, fBuild, fBsl, fLd, fLda, fSt, fNilc, fBin, fEq, fUn, fMkf, fFa, fFld, fFlda, fExt, evo, wr, wrC, frame, Bool.not_true, Bool.not_false, beq_self_eq_true, List.cons_append, List.nil_append, Nat.add_zero, Nat.zero_add, Nat.reduceAdd, Nat.reduceMul, Nat.reduceSub, Bool.and_true, Bool.true_and, Bool.and_self, beq_dec, fApp, Int.toNat_natCast, Nat.sub_zero, vmI, hg]
            refine op_app1 ho2 (by (repeat' (first | exact Fr.refl | assumption | apply Fr.new' | apply Fr.mk' | apply Fr.put')) <;> (first | omega | (left; simp; done) | (right; simp only [next_put, next_new, next_mk]; omega) | (simp only [next_put, next_new, next_mk]; omega))) (x := (a, b)) rfl (by omega) ?_
            intro v' s4 fo' q1 q2 q3
            simp (disch := omega) only [vm0, vm1, vm2, vm3, vm4, vm5, vm6, vm7, fPick, fBox, fBuild, fBsl, fLd, fLda, fSt, fNilc, fBin, fEq, fUn, fMkf, fFa, fFld, fFlda, fExt, evo, wr, wrC, frame, Bool.not_true, Bool.not_false, beq_self_eq_true, List.cons_append, List.nil_append, Nat.add_zero, Nat.zero_add, Nat.reduceAdd, Nat.reduceMul, Nat.reduceSub, Bool.and_true, Bool.true_and, Bool.and_self, beq_dec, fApp, Int.toNat_natCast, Nat.sub_zero, vmI, q_blky]
            exact fin v' s4 fo' q1 q2 q3 _ _ _
        · have hps' : pAdd f' t' (l.take (i + 1)) = (o, min f1 a, max t1 b) := by rw [hps]; exact if_neg hout
          simp (disch := omega) only [vm0, vm1, vm2, vm3, vm4, vm5, vm6, vm7, fPick, fBox, fBuild, fBsl, fLd, fLda, fSt, fNilc, fBin, fEq, fUn, fMkf, fFa, fFld, fFlda, fExt, evo, wr, wrC, frame, Bool.not_true, Bool.not_false, beq_self_eq_true, List.cons_append, List.nil_append, Nat.add_zero, Nat.zero_add, Nat.reduceAdd, Nat.reduceMul, Nat.reduceSub, Bool.and_true, Bool.true_and, Bool.and_self, beq_dec, fApp, Int.toNat_natCast, Nat.sub_zero, vmI, hg]
          exact ⟨l.length - (i + 1), by omega, i + 1, (i : Int) + 1, _, _, _, _, fo, rfl, by omega, by omega, by rw [hps'], hfr2, by rw [hps']; exact ho2, hn⟩
      · have hpa := pAdd_spec (f := f') (t := t') hw (by omega) hgo (by omega)
        have htk : l.take i = l := List.take_of_length_le (by omega)
        rw [htk] at ho hpl ⊢
        obtain ⟨o, f1, t1, ho1⟩ : ∃ o f1 t1, pAdd f' t' l = (o, f1, t1) := ⟨_, _, _, rfl⟩
        rw [ho1] at ho hpa hpl
        rw [ho1]
        dsimp only at ho hpa hpl
        simp (disch := omega) only [vm0, vm1, vm2, vm3, vm4, vm5, vm6, vm7, fPick, fBox, fBuild, fBsl, fLd, fLda, fSt, fNilc, fBin, fEq, fUn, fMkf, fFa, fFld, fFlda, fExt, evo, wr, wrC, frame, Bool.not_true, Bool.not_false, beq_self_eq_true, List.cons_append, List.nil_append, Nat.add_zero, Nat.zero_add, Nat.reduceAdd, Nat.reduceMul, Nat.reduceSub, Bool.and_true, Bool.true_and, Bool.and_self, beq_dec, fApp, Int.toNat_natCast, Nat.sub_zero, vmI]
        refine op_app1 ho (by (repeat' (first | exact Fr.refl | assumption | apply Fr.new' | apply Fr.mk' | apply Fr.put')) <;> (first | omega | (left; simp; done) | (right; simp only [next_put, next_new, next_mk]; omega) | (simp only [next_put, next_new, next_mk]; omega))) (x := (f1, t1)) rfl (by omega) ?_
        intro v' s4 fo' q1 q2 q3
        simp (disch := omega) only [vm0, vm1, vm2, vm3, vm4, vm5, vm6, vm7, fPick, fBox, fBuild, fBsl, fLd, fLda, fSt, fNilc, fBin, fEq, fUn, fMkf, fFa, fFld, fFlda, fExt, evo, wr, wrC, frame, Bool.not_true, Bool.not_false, beq_self_eq_true, List.cons_append, List.nil_append, Nat.add_zero, Nat.zero_add, Nat.reduceAdd, Nat.reduceMul, Nat.reduceSub, Bool.and_true, Bool.true_and, Bool.and_self, beq_dec, fApp, Int.toNat_natCast, Nat.sub_zero, vmI]
        refine call_ok rfl rfl (hs bd fu n s4 v' _ fo' q1 (by simp) (by simp; omega) hpa.2) ?_
        rintro y s5 ⟨f5, q4, q5, q6⟩
        rw [hpa.1] at q4
        have hnn := hn.nn q3 hfr.1
        have hfr5 := (hfr.nn q2 hn).nn q5 hnn
        have hp5 := (hfr5.get h5 (by simp)).trans h1
        simp (disch := omega) only [vm0, vm1, vm2, vm3, vm4, vm5, vm6, vm7, fPick, fBox, fBuild, fBsl, fLd, fLda, fSt, fNilc, fBin, fEq, fUn, fMkf, fFa, fFld, fFlda, fExt, evo, wr, wrC, frame, Bool.not_true, Bool.not_false, beq_self_eq_true, List.cons_append, List.nil_append, Nat.add_zero, Nat.zero_add, Nat.reduceAdd, Nat.reduceMul, Nat.reduceSub, Bool.and_true, Bool.true_and, Bool.and_self, beq_dec, fApp, Int.toNat_natCast, Nat.sub_zero, vmI, hp5, q4.cells]
        have hpf : p ∉ f5 := fun hm => by have := hnn p (q6 p hm); simp at this; omega
        refine ⟨p :: f5, ⟨v', f5, get_put_eq rfl, q4.fr (fp' := [p]) (.put (.inl (by simp))) (by rintro b hb hm; simp at hm; subst hm; exact hpf hb), hpf, rfl, by rw [next_put]; exact Nat.lt_of_lt_of_le h5 hfr5.1⟩, .put' (.inl (by simp)) (hfr5.mono (by simp)), ?_⟩
        intro b hb
        rcases List.mem_cons.1 hb with rfl | hb
        · exact .inl (by simp)
        · right; have := hnn b (q6 b hb); simpa using this
  · rw [if_neg hgo]
    simp (disch := omega) only [vm0, vm1, vm2, vm3, vm4, vm5, vm6, vm7, fPick, fBox, fBuild, fBsl, fLd, fLda, fSt, fNilc, fBin, fEq, fUn, fMkf, fFa, fFld, fFlda, fExt, evo, wr, wrC, frame, Bool.not_true, Bool.not_false, beq_self_eq_true, List.cons_append, List.nil_append, Nat.add_zero, Nat.zero_add, Nat.reduceAdd, Nat.reduceMul, Nat.reduceSub, Bool.and_true, Bool.true_and, Bool.and_self, beq_dec, fApp, Int.toNat_natCast, Nat.sub_zero]
    exact ⟨_, hF0, .refl, .refl⟩
end
end Go.Proofs.Ytekhpohcjfjhfaa.ctr
namespace Go.Proofs.Ytekhpohcjfjhfaa.ctr
open Go.Vm Go.RowKit Go.Ranges
set_option linter.unusedVariables false
set_option linter.unusedSimpArgs false
/-- the ranges of one that are left: one and one -/
def pcs (f t : Int) (r : R) : List R := [(r.1, min r.2 f), (max r.1 t, r.2)]
def keep (x : R) : Bool := decide (x.1 < x.2)
theorem pcs_cut {f t : Int} {r : R} (h : r.1 < r.2) (hf : f < t) : (pcs f t r).filter keep = cut1 f t r := by
  unfold pcs keep cut1
  by_cases h1 : r.1 < f <;> by_cases h2 : t < r.2
  · rw [if_pos h1, if_pos h2, List.filter_cons_of_pos (by simp; omega), List.filter_cons_of_pos (by simp; omega)]; rfl
  · rw [if_pos h1, if_neg h2, List.filter_cons_of_pos (by simp; omega), List.filter_cons_of_neg (by simp; omega)]; rfl
  · rw [if_neg h1, if_pos h2, List.filter_cons_of_neg (by simp; omega), List.filter_cons_of_pos (by simp; omega)]; rfl
  · rw [if_neg h1, if_neg h2, List.filter_cons_of_neg (by simp; omega), List.filter_cons_of_neg (by simp; omega)]; rfl
theorem cutR_take {f t : Int} {l : List R} {i : Nat} {x : R} (hx : l[i]? = some x) : cutR f t (l.take (i + 1)) = cutR f t (l.take i) ++ cut1 f t x := by
  rw [List.take_add_one, hx]; simp [cutR]
theorem cutR_len {f t : Int} (l : List R) : (cutR f t l).length ≤ 2 * l.length := by
  induction l with
  | nil => simp [cutR]
  | cons r l ih =>
    have := cut1_len (f := f) (t := t) (r := r)
    simp only [cutR, List.flatMap_cons, List.length_append, List.length_cons] at ih ⊢; omega
section
variable {bd : Bd} {h : VF} {fu : Nat}
set_option maxHeartbeats 400000 in
theorem s_cut (n : Nat) (s : St) (p : Nat) (l : List R) (fp : List Nat) (f t : Int) (hF : IsS s p l fp) (hw : WFr 0 l) (hlen : l.length < fu) (hfu : 10 < fu) (hf : l.length < 100000) :
    OutOk (callF bd (tab h).get fu (n + 2) 59 [.ptr p 0, num f, num t] s) (fun x s' => ∃ fp', IsS s' p (if max 0 f < min t far then cutR (max 0 f) (min t far) l else l) fp' ∧ Fr s s' fp ∧ Nw s fp fp') := by
  refine call_code (t59 h) rfl ?_
  simp (disch := omega) only [vm0, vm1, vm2, vm3, vm4, vm5, vm6, vm7, fPick, fBox, fBuild, fBsl, fLd, fLda, fSt, fNilc, fBin, fEq, fUn, fMkf, fFa, fFld, fFlda, fExt, evo, wr, wrC, frame, Bool.not_true, Bool.not_false, beq_self_eq_true, List.cons_append, List.nil_append, Nat.add_zero, Nat.zero_add, Nat.reduceAdd, Nat.reduceMul, Nat.reduceSub, Bool.and_true, Bool.true_and, Bool.and_self, beq_dec, fApp, Int.toNat_natCast, Nat.sub_zero, vc59]
  refine call_ok rfl rfl (s_within n s f t) ?_
  rintro x s ⟨rfl, rfl⟩
  have hF0 := hF
  obtain ⟨v, fv, h1, h2, h3, rfl, h5⟩ := hF
  obtain ⟨f', hf'⟩ : ∃ f', max 0 f = f' := ⟨_, rfl⟩
  obtain ⟨t', ht'⟩ : ∃ t', min t far = t' := ⟨_, rfl⟩
  have hfar : far = 1099511627776 := rfl
  rw [hf', ht']
  by_cases hgo : f' < t'
  · rw [if_pos hgo]
    have hlb := hw.lb
    simp (disch := omega) only [vm0, vm1, vm2, vm3, vm4, vm5, vm6, vm7, fPick, fBox, fBuild, fBsl, fLd, fLda, fSt, fNilc, fBin, fEq, fUn, fMkf, fFa, fFld, fFlda, fExt, evo, wr, wrC, frame, Bool.not_true, Bool.not_false, beq_self_eq_true, List.cons_append, List.nil_append, Nat.add_zero, Nat.zero_add, Nat.reduceAdd, Nat.reduceMul, Nat.reduceSub, Bool.and_true, Bool.true_and, Bool.and_self, beq_dec, fApp, Int.toNat_natCast, Nat.sub_zero, h1, h2.rd.lenV]
    refine x_loop (fun m F s' => ∃ i : Nat, ∃ z x3 x5 x6 x10 x12 x13 x14 x15 vo fo, m = l.length - i ∧ i ≤ l.length ∧ z = (i : Int) ∧ F = [some (.ptr p 0), some (num f'), some (num t'), x3, some (num z), x5, x6, some vo, some (.bool false), some (num (l.length : Int)), x10, some v, x12, x13, x14, x15] ∧
      Fr s s' [] ∧ OwE s' vo 2 encR (cutR f' t' (l.take i)) fo ∧ Nw s [] fo) l.length (by omega) ?_ ?_
    · exact ⟨0, _, _, _, _, _, _, _, _, _, _, [], by omega, by omega, rfl, rfl, .refl, .nil encR_w (by omega), by simp [Nw]⟩
    · rintro m F s1 ⟨i, _, x3, x5, x6, x10, x12, x13, x14, x15, vo, fo, rfl, hi, rfl, rfl, hfr, ho, hn⟩ hm
      have hv1 := h2.fr0 hfr
      have hcl := cutR_len (f := f') (t := t') (l.take i)
      rw [List.length_take, Nat.min_eq_left hi] at hcl
      by_cases hlt : i < l.length
      · obtain ⟨x, hx⟩ : ∃ x, l[i]? = some x := ⟨_, List.getElem?_eq_getElem hlt⟩
        have hct := cutR_take (f := f') (t := t') hx
        have hxb := hlb x (List.mem_of_getElem? hx)
        have hpc := pcs_cut (f := f') (t := t') hxb.2.1 hgo
        obtain ⟨a, b⟩ := x
        have e1 := hv1.rd.ia hx
        have e2 := hv1.rd.at hx
        have hbl := hv1.rd.blk' hx
        generalize cutR f' t' (l.take i) = o at *
        simp (disch := omega) only [vm0, vm1, vm2, vm3, vm4, vm5, vm6, vm7, fPick, fBox, fBuild, fBsl, fLd, fLda, fSt, fNilc, fBin, fEq, fUn, fMkf, fFa, fFld, fFlda, fExt, evo, wr, wrC, frame, Bool.not_true, Bool.not_false, beq_self_eq_true, List.cons_append, List.nil_append, Nat.add_zero, Nat.zero_add, Nat.reduceAdd, Nat.reduceMul, Nat.reduceSub, Bool.and_true, Bool.true_and, Bool.and_self, beq_dec, fApp, Int.toNat_natCast, Nat.sub_zero, vmI, e1, e2, encR]
        have hp2 : OwE (((s1.new (.cells [num 0, num 0] .own)).put s1.next (some (.cells [num a, num b] .own))).new (.cells [num a, num (min b f'), num (max a t'), num b] .own)) (.sl (s1.next + 1) 0 2 2 true 2) 2 encR (pcs f' t' (a, b)) [s1.next + 1] :=
          ⟨.mk (J := []) (get_new_eq (by rw [next_put, next_new])) rfl (Nat.le_refl _), encR_w, by omega, by intro z hz; simp at hz; subst hz; rw [next_new, next_put, next_new]; omega⟩
        have hfa : Fr s1 (((s1.new (.cells [num 0, num 0] .own)).put s1.next (some (.cells [num a, num b] .own))).new (.cells [num a, num (min b f'), num (max a t'), num b] .own)) [] := (by (repeat' (first | exact Fr.refl | assumption | apply Fr.new' | apply Fr.mk' | apply Fr.put')) <;> (first | omega | (left; simp; done) | (right; simp only [next_put, next_new, next_mk]; omega) | (simp only [next_put, next_new, next_mk]; omega)))
        generalize ((s1.new (.cells [num 0, num 0] .own)).put s1.next (some (.cells [num a, num b] .own))).new (.cells [num a, num (min b f'), num (max a t'), num b] .own) = s2 at *
        have ho2 := ho.fr0 hfa
        have hfr2 := hfr.trans hfa (fp2 := []) (by simp) (by simp)
        refine x_loop (fun m' F s' => ∃ j : Nat, ∃ z x3 x6 x13 x15 vo fo, m' = 2 - j ∧ j ≤ 2 ∧ z = (j : Int) ∧ F = [some (.ptr p 0), some (num f'), some (num t'), x3, some (num (i : Int)), some (num z), x6, some vo, some (.bool false), some (num (l.length : Int)), some (.bool true), some v, some (num 2), x13, some (.sl (s1.next + 1) 0 2 2 true 2), x15] ∧
          (Fr s s' [] ∧ s2.next ≤ s'.next ∧ OwE s' (.sl (s1.next + 1) 0 2 2 true 2) 2 encR (pcs f' t' (a, b)) [s1.next + 1]) ∧ OwE s' vo 2 encR (o ++ ((pcs f' t' (a, b)).take j).filter keep) fo ∧ Nw s [] fo ∧ s1.next + 1 ∉ fo) 2 (by omega) ?_ ?_
        · refine ⟨0, _, _, _, _, _, _, fo, by omega, by omega, rfl, rfl, ⟨hfr2, Nat.le_refl _, hp2⟩, by simpa using ho2, hn, fun hm => by have := ho.lt _ hm; omega⟩
        · rintro m' F s3 ⟨j, _, y3, y6, y13, y15, vo3, fo3, rfl, hj, rfl, rfl, ⟨hf3, hn2, hv3⟩, ho3, hn3, hnp⟩ hm'
          by_cases hj2 : j < 2
          · obtain ⟨y, hy⟩ : ∃ y, (pcs f' t' (a, b))[j]? = some y := ⟨_, List.getElem?_eq_getElem (by simp [pcs]; omega)⟩
            have g1 := hv3.rd.ia hy
            have g2 := hv3.rd.at hy
            have gb := hv3.rd.blk' hy
            have htk : (pcs f' t' (a, b)).take (j + 1) = (pcs f' t' (a, b)).take j ++ [y] := by rw [List.take_add_one, hy]; rfl
            have hfl : (o ++ ((pcs f' t' (a, b)).take j).filter keep).length ≤ 2 * i + 2 := by
              have h1 := List.length_filter_le keep ((pcs f' t' (a, b)).take j)
              have h2 := List.length_take_le j (pcs f' t' (a, b))
              rw [List.length_append]; omega
            obtain ⟨c, d⟩ := y
            have g0 : sblk (.sl (s1.next + 1) 0 2 2 true 2) = s1.next + 1 := rfl
            have g00 : soff (.sl (s1.next + 1) 0 2 2 true 2) = 0 := rfl
            rw [g0, g00, Nat.zero_add] at g1 g2
            rw [g0] at gb
            have hn1 : s1.next ≤ s2.next := hfa.1
            have hlp := hv3.lt _ (show s1.next + 1 ∈ [s1.next + 1] by simp)
            simp (disch := omega) only [vm0, vm1, vm2, vm3, vm4, vm5, vm6, vm7, fPick, fBox, fBuild, fBsl, fLd, fLda, fSt, fNilc, fBin, fEq, fUn, fMkf, fFa, fFld, fFlda, fExt, evo, wr, wrC, frame, Bool.not_true, Bool.not_false, beq_self_eq_true, List.cons_append, List.nil_append, Nat.add_zero, Nat.zero_add, Nat.reduceAdd, Nat.reduceMul, Nat.reduceSub, Bool.and_true, Bool.true_and, Bool.and_self, beq_dec, fApp, Int.toNat_natCast, Nat.sub_zero, vmI, g1, g2, encR]
            have hfb : Fr s3 ((s3.new (.cells [num 0, num 0] .own)).put s3.next (some (.cells [num c, num d] .own))) [] := (by (repeat' (first | exact Fr.refl | assumption | apply Fr.new' | apply Fr.mk' | apply Fr.put')) <;> (first | omega | (left; simp; done) | (right; simp only [next_put, next_new, next_mk]; omega) | (simp only [next_put, next_new, next_mk]; omega)))
            have hg : ((s3.new (.cells [num 0, num 0] .own)).put s3.next (some (.cells [num c, num d] .own))).heap.get s3.next = some (.cells [num c, num d] .own) := get_put_eq rfl
            generalize (s3.new (.cells [num 0, num 0] .own)).put s3.next (some (.cells [num c, num d] .own)) = s4 at *
            have ho4 := ho3.fr0 hfb
            by_cases hcd : c < d
            · simp (disch := omega) only [vm0, vm1, vm2, vm3, vm4, vm5, vm6, vm7, fPick, fBox, fBuild, fBsl, fLd, fLda, fSt, fNilc, fBin, fEq, fUn, fMkf, fFa, fFld, fFlda, fExt, evo, wr, wrC, frame, Bool.not_true, Bool.not_false, beq_self_eq_true, List.cons_append, List.nil_append, Nat.add_zero, Nat.zero_add, Nat.reduceAdd, Nat.reduceMul, Nat.reduceSub, Bool.and_true, Bool.true_and, Bool.and_self, beq_dec, fApp, Int.toNat_natCast, Nat.sub_zero, vmI, hg]
              refine op_app1 ho4 (by (repeat' (first | exact Fr.refl | assumption | apply Fr.new' | apply Fr.mk' | apply Fr.put')) <;> (first | omega | (left; simp; done) | (right; simp only [next_put, next_new, next_mk]; omega) | (simp only [next_put, next_new, next_mk]; omega))) (x := (c, d)) rfl (by omega) ?_
              intro v' s5 fo' q1 q2 q3
              simp (disch := omega) only [vm0, vm1, vm2, vm3, vm4, vm5, vm6, vm7, fPick, fBox, fBuild, fBsl, fLd, fLda, fSt, fNilc, fBin, fEq, fUn, fMkf, fFa, fFld, fFlda, fExt, evo, wr, wrC, frame, Bool.not_true, Bool.not_false, beq_self_eq_true, List.cons_append, List.nil_append, Nat.add_zero, Nat.zero_add, Nat.reduceAdd, Nat.reduceMul, Nat.reduceSub, Bool.and_true, Bool.true_and, Bool.and_self, beq_dec, fApp, Int.toNat_natCast, Nat.sub_zero, vmI]
              refine ⟨2 - (j + 1), by omega, j + 1, (j : Int) + 1, _, _, _, _, _, fo', rfl, by omega, by omega, rfl, ⟨?_, ?_, ?_⟩, ?_, hn3.nn q3 (Nat.le_trans hf3.1 hfb.1), ?_⟩
              · exact (hf3.trans hfb (fp2 := []) (by simp) (by simp)).nn q2 hn3
              · exact Nat.le_trans hn2 (Nat.le_trans hfb.1 q2.1)
              · exact (hv3.fr0 hfb).fr q2 (by intro z hz hm; simp at hz; subst hz; exact hnp hm)
              · rw [htk, List.filter_append, List.filter_cons_of_pos (by simpa [keep] using hcd)]; simpa using q1
              · exact q3.not hnp (by have := hfb.1; omega)
            · simp (disch := omega) only [vm0, vm1, vm2, vm3, vm4, vm5, vm6, vm7, fPick, fBox, fBuild, fBsl, fLd, fLda, fSt, fNilc, fBin, fEq, fUn, fMkf, fFa, fFld, fFlda, fExt, evo, wr, wrC, frame, Bool.not_true, Bool.not_false, beq_self_eq_true, List.cons_append, List.nil_append, Nat.add_zero, Nat.zero_add, Nat.reduceAdd, Nat.reduceMul, Nat.reduceSub, Bool.and_true, Bool.true_and, Bool.and_self, beq_dec, fApp, Int.toNat_natCast, Nat.sub_zero, vmI, hg]
              refine ⟨2 - (j + 1), by omega, j + 1, (j : Int) + 1, _, _, _, _, _, fo3, rfl, by omega, by omega, rfl, ⟨hf3.trans hfb (by simp) (by simp), Nat.le_trans hn2 hfb.1, hv3.fr0 hfb⟩, ?_, hn3, hnp⟩
              rw [htk, List.filter_append, List.filter_cons_of_neg (by simpa [keep] using hcd)]; simpa using ho4
          · simp (disch := omega) only [vm0, vm1, vm2, vm3, vm4, vm5, vm6, vm7, fPick, fBox, fBuild, fBsl, fLd, fLda, fSt, fNilc, fBin, fEq, fUn, fMkf, fFa, fFld, fFlda, fExt, evo, wr, wrC, frame, Bool.not_true, Bool.not_false, beq_self_eq_true, List.cons_append, List.nil_append, Nat.add_zero, Nat.zero_add, Nat.reduceAdd, Nat.reduceMul, Nat.reduceSub, Bool.and_true, Bool.true_and, Bool.and_self, beq_dec, fApp, Int.toNat_natCast, Nat.sub_zero, vmI]
            have htk : (pcs f' t' (a, b)).take j = pcs f' t' (a, b) := List.take_of_length_le (by simp [pcs]; omega)
            rw [htk, hpc, ← hct] at ho3
            refine ⟨l.length - (i + 1), by omega, i + 1, (i : Int) + 1, _, _, _, _, _, _, _, _, _, fo3, rfl, by omega, by omega, rfl, hf3, ho3, hn3⟩
      · have htk : l.take i = l := List.take_of_length_le (by omega)
        rw [htk] at ho
        have hp5 := (hfr.get h5 (by simp)).trans h1
        simp (disch := omega) only [vm0, vm1, vm2, vm3, vm4, vm5, vm6, vm7, fPick, fBox, fBuild, fBsl, fLd, fLda, fSt, fNilc, fBin, fEq, fUn, fMkf, fFa, fFld, fFlda, fExt, evo, wr, wrC, frame, Bool.not_true, Bool.not_false, beq_self_eq_true, List.cons_append, List.nil_append, Nat.add_zero, Nat.zero_add, Nat.reduceAdd, Nat.reduceMul, Nat.reduceSub, Bool.and_true, Bool.true_and, Bool.and_self, beq_dec, fApp, Int.toNat_natCast, Nat.sub_zero, vmI, hp5, ho.cells]
        have hpf : p ∉ fo := fun hm => by have := hn p hm; simp at this; omega
        refine ⟨p :: fo, ⟨vo, fo, get_put_eq rfl, ho.fr (fp' := [p]) (.put (.inl (by simp))) (by rintro b hb hm; simp at hm; subst hm; exact hpf hb), hpf, rfl, by rw [next_put]; exact Nat.lt_of_lt_of_le h5 hfr.1⟩, .put' (.inl (by simp)) (hfr.mono (by simp)), ?_⟩
        intro b hb
        rcases List.mem_cons.1 hb with rfl | hb
        · exact .inl (by simp)
        · right; have := hn b hb; simpa using this
  · rw [if_neg hgo]
    simp (disch := omega) only [vm0, vm1, vm2, vm3, vm4, vm5, vm6, vm7, fPick, fBox, fBuild, fBsl, fLd, fLda, fSt, fNilc, fBin, fEq, fUn, fMkf, fFa, fFld, fFlda, fExt, evo, wr, wrC, frame, Bool.not_true, Bool.not_false, beq_self_eq_true, List.cons_append, List.nil_append, Nat.add_zero, Nat.zero_add, Nat.reduceAdd, Nat.reduceMul, Nat.reduceSub, Bool.and_true, Bool.true_and, Bool.and_self, beq_dec, fApp, Int.toNat_natCast, Nat.sub_zero]
    exact ⟨_, hF0, .refl, .refl⟩
end
end Go.Proofs.Ytekhpohcjfjhfaa.ctr
namespace Go.Proofs.Ytekhpohcjfjhfaa.ctr
open Go.Vm Go.RowKit Go.Ranges
set_option linter.unusedVariables false
set_option linter.unusedSimpArgs false
def countR (l : List R) : Int := l.foldl (fun n r => n + r.2 - r.1) 0
theorem countR_take {l : List R} {i : Nat} {x : R} (hx : l[i]? = some x) : countR (l.take (i + 1)) = countR (l.take i) + x.2 - x.1 := by
  rw [List.take_add_one, hx]; simp [countR]
theorem countR_bd : ∀ {l : List R} {b n : Int}, WFr b l → n ≤ b → 0 ≤ n → b ≤ far + 1 → 0 ≤ l.foldl (fun n r => n + r.2 - r.1) n ∧ l.foldl (fun n r => n + r.2 - r.1) n ≤ far + 1 := by
  intro l
  induction l with
  | nil => intro b n _ h1 h2 h3; exact ⟨h2, Int.le_trans h1 h3⟩
  | cons r l ih =>
    intro b n hw h1 h2 h3
    obtain ⟨w1, w2, w3, w4⟩ := hw
    rw [List.foldl_cons]
    exact ih w4 (by omega) (by omega) (by omega)
theorem WFr.take {b : Int} : ∀ {l : List R} (i : Nat), WFr b l → WFr b (l.take i)
  | [], i, _ => by simp; trivial
  | r :: l, 0, _ => trivial
  | r :: l, i + 1, ⟨h1, h2, h3, h4⟩ => ⟨h1, h2, h3, WFr.take i h4⟩
def has1 (f t : Int) (r : R) : Bool := decide (r.1 ≤ f) && decide (t ≤ r.2)
def hasR (f t : Int) (l : List R) : Bool := decide (t ≤ f) || l.any (has1 f t)
/-- the place of the first that has it, from i on -/
def fhas (f t : Int) : List R → Int → Int
  | [], _ => -1
  | r :: l, i => if has1 f t r then i else fhas f t l (i + 1)
theorem fhas_any {f t : Int} : ∀ (l : List R) (i : Int), 0 ≤ i → (decide (0 ≤ fhas f t l i)) = l.any (has1 f t) := by
  intro l
  induction l with
  | nil => intro i _; rfl
  | cons r l ih =>
    intro i hi
    unfold fhas
    cases hh : has1 f t r
    · simp only [List.any_cons, hh, Bool.false_or, Bool.false_eq_true, if_false]; exact ih (i + 1) (by omega)
    · simp [hh, hi]
section
variable {bd : Bd} {h : VF} {fu : Nat}
theorem s_count (n : Nat) (s : St) (p : Nat) (l : List R) (fp : List Nat) (hF : IsS s p l fp) (hw : WFr 0 l) (hlen : l.length < fu) (hf : l.length < 100000) :
    OutOk (callF bd (tab h).get fu (n + 1) 57 [.ptr p 0] s) (fun x s' => Is x (num (countR l)) ∧ Fr s s' []) := by
  refine call_code (t57 h) rfl ?_
  obtain ⟨v, fv, h1, h2, h3, rfl, h5⟩ := hF
  have hfar : far = 1099511627776 := rfl
  have hlb := hw.lb
  simp (disch := omega) only [vm0, vm1, vm2, vm3, vm4, vm5, vm6, vm7, fPick, fBox, fBuild, fBsl, fLd, fLda, fSt, fNilc, fBin, fEq, fUn, fMkf, fFa, fFld, fFlda, fExt, evo, wr, wrC, frame, Bool.not_true, Bool.not_false, beq_self_eq_true, List.cons_append, List.nil_append, Nat.add_zero, Nat.zero_add, Nat.reduceAdd, Nat.reduceMul, Nat.reduceSub, Bool.and_true, Bool.true_and, Bool.and_self, beq_dec, fApp, Int.toNat_natCast, Nat.sub_zero, vc57, h1, h2.rd.lenV]
  refine x_loop (fun m F s' => ∃ i : Nat, ∃ z x3 x5, m = l.length - i ∧ i ≤ l.length ∧ z = (i : Int) ∧ F = [some (.ptr p 0), some (num z), some (num (countR (l.take i))), x3, some (num (l.length : Int)), x5, some v, some (num 0)] ∧ Fr s s' []) l.length (by omega) ?_ ?_
  · exact ⟨0, _, _, _, by omega, by omega, rfl, rfl, .refl⟩
  · rintro m F s1 ⟨i, _, x3, x5, rfl, hi, rfl, rfl, hfr⟩ hm
    have hv1 := h2.fr0 hfr
    have hb := countR_bd (WFr.take i hw) (Int.le_refl 0) (Int.le_refl 0) (by omega)
    have hb' : 0 ≤ countR (l.take i) ∧ countR (l.take i) ≤ far + 1 := hb
    by_cases hlt : i < l.length
    · obtain ⟨x, hx⟩ : ∃ x, l[i]? = some x := ⟨_, List.getElem?_eq_getElem hlt⟩
      have hct := countR_take hx
      have hxb := hlb x (List.mem_of_getElem? hx)
      obtain ⟨a, b⟩ := x
      simp only at hxb hct
      have e1 := hv1.rd.ia hx
      have e2 := hv1.rd.at hx
      have hbl := hv1.rd.blk' hx
      simp (disch := omega) only [vm0, vm1, vm2, vm3, vm4, vm5, vm6, vm7, fPick, fBox, fBuild, fBsl, fLd, fLda, fSt, fNilc, fBin, fEq, fUn, fMkf, fFa, fFld, fFlda, fExt, evo, wr, wrC, frame, Bool.not_true, Bool.not_false, beq_self_eq_true, List.cons_append, List.nil_append, Nat.add_zero, Nat.zero_add, Nat.reduceAdd, Nat.reduceMul, Nat.reduceSub, Bool.and_true, Bool.true_and, Bool.and_self, beq_dec, fApp, Int.toNat_natCast, Nat.sub_zero, vmI, e1, e2, encR]
      exact ⟨l.length - (i + 1), by omega, i + 1, (i : Int) + 1, _, _, rfl, by omega, by omega, by rw [hct], hfr.trans (fp1 := []) (by (repeat' (first | exact Fr.refl | assumption | apply Fr.new' | apply Fr.mk' | apply Fr.put')) <;> (first | omega | (left; simp; done) | (right; simp only [next_put, next_new, next_mk]; omega) | (simp only [next_put, next_new, next_mk]; omega))) (by simp) (by simp)⟩
    · have htk : l.take i = l := List.take_of_length_le (by omega)
      rw [htk]
      simp (disch := omega) only [vm0, vm1, vm2, vm3, vm4, vm5, vm6, vm7, fPick, fBox, fBuild, fBsl, fLd, fLda, fSt, fNilc, fBin, fEq, fUn, fMkf, fFa, fFld, fFlda, fExt, evo, wr, wrC, frame, Bool.not_true, Bool.not_false, beq_self_eq_true, List.cons_append, List.nil_append, Nat.add_zero, Nat.zero_add, Nat.reduceAdd, Nat.reduceMul, Nat.reduceSub, Bool.and_true, Bool.true_and, Bool.and_self, beq_dec, fApp, Int.toNat_natCast, Nat.sub_zero, vmI]
      exact ⟨rfl, hfr⟩
theorem has1_ok (n : Nat) (s : St) (a b f t : Int) (q1 q2 : Nat) (k1 k2 : BK) (h1 : s.heap.get q1 = some (.cells [num f] k1)) (h2 : s.heap.get q2 = some (.cells [num t] k2)) (l1 : q1 < s.next) (l2 : q2 < s.next) :
    OutOk (callF bd (tab h).get fu (n + 1) 102 [.agg [num a, num b], .ptr q1 0, .ptr q2 0] s) (fun x s' => Is x (.bool (has1 f t (a, b))) ∧ Fr s s' []) := by
  refine call_code (t102 h) rfl ?_
  by_cases ha : a ≤ f
  · simp (disch := omega) only [vm0, vm1, vm2, vm3, vm4, vm5, vm6, vm7, fPick, fBox, fBuild, fBsl, fLd, fLda, fSt, fNilc, fBin, fEq, fUn, fMkf, fFa, fFld, fFlda, fExt, evo, wr, wrC, frame, Bool.not_true, Bool.not_false, beq_self_eq_true, List.cons_append, List.nil_append, Nat.add_zero, Nat.zero_add, Nat.reduceAdd, Nat.reduceMul, Nat.reduceSub, Bool.and_true, Bool.true_and, Bool.and_self, beq_dec, fApp, Int.toNat_natCast, Nat.sub_zero, vc102, h1, h2]
    exact ⟨by show AV.bool _ = AV.bool _; simp [has1, ha], (by (repeat' (first | exact Fr.refl | assumption | apply Fr.new' | apply Fr.mk' | apply Fr.put')) <;> (first | omega | (left; simp; done) | (right; simp only [next_put, next_new, next_mk]; omega) | (simp only [next_put, next_new, next_mk]; omega)))⟩
  · simp (disch := omega) only [vm0, vm1, vm2, vm3, vm4, vm5, vm6, vm7, fPick, fBox, fBuild, fBsl, fLd, fLda, fSt, fNilc, fBin, fEq, fUn, fMkf, fFa, fFld, fFlda, fExt, evo, wr, wrC, frame, Bool.not_true, Bool.not_false, beq_self_eq_true, List.cons_append, List.nil_append, Nat.add_zero, Nat.zero_add, Nat.reduceAdd, Nat.reduceMul, Nat.reduceSub, Bool.and_true, Bool.true_and, Bool.and_self, beq_dec, fApp, Int.toNat_natCast, Nat.sub_zero, vc102, h1, h2]
    exact ⟨by show AV.bool _ = AV.bool _; simp [has1, ha], (by (repeat' (first | exact Fr.refl | assumption | apply Fr.new' | apply Fr.mk' | apply Fr.put')) <;> (first | omega | (left; simp; done) | (right; simp only [next_put, next_new, next_mk]; omega) | (simp only [next_put, next_new, next_mk]; omega)))⟩
theorem idxR (n : Nat) (s : St) (v : AV) (l : List R) (f t : Int) (q1 q2 : Nat) (k1 k2 : BK) (h1 : s.heap.get q1 = some (.cells [num f] k1)) (h2 : s.heap.get q2 = some (.cells [num t] k2)) (l1 : q1 < s.next) (l2 : q2 < s.next) (hv : RdE s v 2 encR l) (hlen : l.length < fu) (hf : l.length < 1000000) :
    OutOk (callF bd (tab h).get fu (n + 2) 120 [v, .fn 102 [] [.ptr q1 0, .ptr q2 0]] s) (fun x s' => Is x (num (fhas f t l 0)) ∧ Fr s s' []) := by
  refine call_code (t120 h) rfl ?_
  simp (disch := omega) only [vm0, vm1, vm2, vm3, vm4, vm5, vm6, vm7, fPick, fBox, fBuild, fBsl, fLd, fLda, fSt, fNilc, fBin, fEq, fUn, fMkf, fFa, fFld, fFlda, fExt, evo, wr, wrC, frame, Bool.not_true, Bool.not_false, beq_self_eq_true, List.cons_append, List.nil_append, Nat.add_zero, Nat.zero_add, Nat.reduceAdd, Nat.reduceMul, Nat.reduceSub, Bool.and_true, Bool.true_and, Bool.and_self, beq_dec, fApp, Int.toNat_natCast, Nat.sub_zero, vc120, hv.lenV]
  refine x_loop (fun m F s' => ∃ i : Nat, ∃ z x3 x5 x6, m = l.length - i ∧ i ≤ l.length ∧ z = (i : Int) ∧ F = [some v, some (.fn 102 [] [.ptr q1 0, .ptr q2 0]), some (num z), x3, some (num (l.length : Int)), x5, x6, some (num 0)] ∧ Fr s s' [] ∧ fhas f t l 0 = fhas f t (l.drop i) i) l.length (by omega) ?_ ?_
  · exact ⟨0, _, _, _, _, by omega, by omega, rfl, rfl, .refl, rfl⟩
  · rintro m F s1 ⟨i, _, x3, x5, x6, rfl, hi, rfl, rfl, hfr, hfst⟩ hm
    have hv1 := hv.fr0 hfr
    have g1 := (hfr.get l1 (by simp)).trans h1
    have g2 := (hfr.get l2 (by simp)).trans h2
    by_cases hlt : i < l.length
    · obtain ⟨⟨a, b⟩, hx⟩ : ∃ x, l[i]? = some x := ⟨_, List.getElem?_eq_getElem hlt⟩
      have e1 := hv1.ia hx
      have e2 := hv1.at hx
      simp (disch := omega) only [vm0, vm1, vm2, vm3, vm4, vm5, vm6, vm7, fPick, fBox, fBuild, fBsl, fLd, fLda, fSt, fNilc, fBin, fEq, fUn, fMkf, fFa, fFld, fFlda, fExt, evo, wr, wrC, frame, Bool.not_true, Bool.not_false, beq_self_eq_true, List.cons_append, List.nil_append, Nat.add_zero, Nat.zero_add, Nat.reduceAdd, Nat.reduceMul, Nat.reduceSub, Bool.and_true, Bool.true_and, Bool.and_self, beq_dec, fApp, Int.toNat_natCast, Nat.sub_zero, e1, e2, encR]
      refine call_ok rfl rfl (has1_ok n s1 a b f t q1 q2 k1 k2 g1 g2 (Nat.lt_of_lt_of_le l1 hfr.1) (Nat.lt_of_lt_of_le l2 hfr.1)) ?_
      rintro x s2 ⟨rfl, hfr2⟩
      rw [List.drop_eq_getElem_cons hlt, (List.getElem?_eq_some_iff.1 hx).2] at hfst
      cases hh : has1 f t (a, b)
      · simp (disch := omega) only [vm0, vm1, vm2, vm3, vm4, vm5, vm6, vm7, fPick, fBox, fBuild, fBsl, fLd, fLda, fSt, fNilc, fBin, fEq, fUn, fMkf, fFa, fFld, fFlda, fExt, evo, wr, wrC, frame, Bool.not_true, Bool.not_false, beq_self_eq_true, List.cons_append, List.nil_append, Nat.add_zero, Nat.zero_add, Nat.reduceAdd, Nat.reduceMul, Nat.reduceSub, Bool.and_true, Bool.true_and, Bool.and_self, beq_dec, fApp, Int.toNat_natCast, Nat.sub_zero, vmI]
        refine ⟨l.length - (i + 1), by omega, i + 1, (i : Int) + 1, _, _, _, rfl, by omega, by omega, rfl, hfr.tr hfr2 (by simp [Nw]), ?_⟩
        rw [hfst]; simp [fhas, hh]
      · simp (disch := omega) only [vm0, vm1, vm2, vm3, vm4, vm5, vm6, vm7, fPick, fBox, fBuild, fBsl, fLd, fLda, fSt, fNilc, fBin, fEq, fUn, fMkf, fFa, fFld, fFlda, fExt, evo, wr, wrC, frame, Bool.not_true, Bool.not_false, beq_self_eq_true, List.cons_append, List.nil_append, Nat.add_zero, Nat.zero_add, Nat.reduceAdd, Nat.reduceMul, Nat.reduceSub, Bool.and_true, Bool.true_and, Bool.and_self, beq_dec, fApp, Int.toNat_natCast, Nat.sub_zero, vmI]
        exact ⟨by show num _ = num _; rw [hfst]; simp [fhas, hh], hfr.tr hfr2 (by simp [Nw])⟩
    · simp (disch := omega) only [vm0, vm1, vm2, vm3, vm4, vm5, vm6, vm7, fPick, fBox, fBuild, fBsl, fLd, fLda, fSt, fNilc, fBin, fEq, fUn, fMkf, fFa, fFld, fFlda, fExt, evo, wr, wrC, frame, Bool.not_true, Bool.not_false, beq_self_eq_true, List.cons_append, List.nil_append, Nat.add_zero, Nat.zero_add, Nat.reduceAdd, Nat.reduceMul, Nat.reduceSub, Bool.and_true, Bool.true_and, Bool.and_self, beq_dec, fApp, Int.toNat_natCast, Nat.sub_zero]
      refine ⟨?_, hfr⟩
      rw [hfst, List.drop_eq_nil_of_le (by omega)]; rfl
theorem s_has (n : Nat) (s : St) (p : Nat) (l : List R) (fp : List Nat) (f t : Int) (hF : IsS s p l fp) (hlen : l.length < fu) (hf : l.length < 100000) :
    OutOk (callF bd (tab h).get fu (n + 4) 63 [.ptr p 0, num f, num t] s) (fun x s' => Is x (.bool (hasR f t l)) ∧ Fr s s' []) := by
  refine call_code (t63 h) rfl ?_
  obtain ⟨v, fv, h1, h2, h3, rfl, h5⟩ := hF
  have g1 : ((s.new (.cells [num f] .own)).new (.cells [num t] .own)).heap.get s.next = some (.cells [num f] .own) := by rw [get_new_ne (by rw [next_new]; omega), get_new_eq rfl]
  have g2 : ((s.new (.cells [num f] .own)).new (.cells [num t] .own)).heap.get (s.next + 1) = some (.cells [num t] .own) := get_new_eq (by rw [next_new])
  have gp : ((s.new (.cells [num f] .own)).new (.cells [num t] .own)).heap.get p = s.heap.get p := by rw [get_new_ne (by rw [next_new]; omega), get_new_ne (by omega)]
  by_cases hft : t ≤ f
  · simp (disch := omega) only [vm0, vm1, vm2, vm3, vm4, vm5, vm6, vm7, fPick, fBox, fBuild, fBsl, fLd, fLda, fSt, fNilc, fBin, fEq, fUn, fMkf, fFa, fFld, fFlda, fExt, evo, wr, wrC, frame, Bool.not_true, Bool.not_false, beq_self_eq_true, List.cons_append, List.nil_append, Nat.add_zero, Nat.zero_add, Nat.reduceAdd, Nat.reduceMul, Nat.reduceSub, Bool.and_true, Bool.true_and, Bool.and_self, beq_dec, fApp, Int.toNat_natCast, Nat.sub_zero, vmI, vc63, g1, g2]
    exact ⟨by show AV.bool _ = AV.bool _; simp [hasR, hft], (by (repeat' (first | exact Fr.refl | assumption | apply Fr.new' | apply Fr.mk' | apply Fr.put')) <;> (first | omega | (left; simp; done) | (right; simp only [next_put, next_new, next_mk]; omega) | (simp only [next_put, next_new, next_mk]; omega)))⟩
  · simp (disch := omega) only [vm0, vm1, vm2, vm3, vm4, vm5, vm6, vm7, fPick, fBox, fBuild, fBsl, fLd, fLda, fSt, fNilc, fBin, fEq, fUn, fMkf, fFa, fFld, fFlda, fExt, evo, wr, wrC, frame, Bool.not_true, Bool.not_false, beq_self_eq_true, List.cons_append, List.nil_append, Nat.add_zero, Nat.zero_add, Nat.reduceAdd, Nat.reduceMul, Nat.reduceSub, Bool.and_true, Bool.true_and, Bool.and_self, beq_dec, fApp, Int.toNat_natCast, Nat.sub_zero, vmI, vc63, g1, g2, gp, h1]
    have hfa : Fr s ((s.new (.cells [num f] .own)).new (.cells [num t] .own)) [] := (by (repeat' (first | exact Fr.refl | assumption | apply Fr.new' | apply Fr.mk' | apply Fr.put')) <;> (first | omega | (left; simp; done) | (right; simp only [next_put, next_new, next_mk]; omega) | (simp only [next_put, next_new, next_mk]; omega)))
    have gn : s.next + 2 ≤ ((s.new (.cells [num f] .own)).new (.cells [num t] .own)).next := by rw [next_new, next_new]; omega
    generalize (s.new (.cells [num f] .own)).new (.cells [num t] .own) = s1 at *
    have hc : OutOk (callF bd (tab h).get fu (n + 3) 101 [v, .fn 102 [] [.ptr s.next 0, .ptr (s.next + 1) 0]] s1) (fun x s' => Is x (.bool (l.any (has1 f t))) ∧ Fr s1 s' []) := by
      refine call_code (t101 h) rfl ?_
      simp (disch := omega) only [vm0, vm1, vm2, vm3, vm4, vm5, vm6, vm7, fPick, fBox, fBuild, fBsl, fLd, fLda, fSt, fNilc, fBin, fEq, fUn, fMkf, fFa, fFld, fFlda, fExt, evo, wr, wrC, frame, Bool.not_true, Bool.not_false, beq_self_eq_true, List.cons_append, List.nil_append, Nat.add_zero, Nat.zero_add, Nat.reduceAdd, Nat.reduceMul, Nat.reduceSub, Bool.and_true, Bool.true_and, Bool.and_self, beq_dec, fApp, Int.toNat_natCast, Nat.sub_zero, vmI, vc101]
      refine call_ok rfl rfl (idxR n s1 v l f t s.next (s.next + 1) .own .own g1 g2 (by omega) (by omega) (h2.fr0 hfa).rd hlen (by omega)) ?_
      rintro x s2 ⟨rfl, hf2⟩
      have hany := fhas_any (f := f) (t := t) l 0 (Int.le_refl 0)
      simp (disch := omega) only [vm0, vm1, vm2, vm3, vm4, vm5, vm6, vm7, fPick, fBox, fBuild, fBsl, fLd, fLda, fSt, fNilc, fBin, fEq, fUn, fMkf, fFa, fFld, fFlda, fExt, evo, wr, wrC, frame, Bool.not_true, Bool.not_false, beq_self_eq_true, List.cons_append, List.nil_append, Nat.add_zero, Nat.zero_add, Nat.reduceAdd, Nat.reduceMul, Nat.reduceSub, Bool.and_true, Bool.true_and, Bool.and_self, beq_dec, fApp, Int.toNat_natCast, Nat.sub_zero, vmI]
      exact ⟨by show AV.bool _ = AV.bool _; rw [hany], hf2⟩
    refine call_ok rfl rfl hc ?_
    rintro x s2 ⟨rfl, hf2⟩
    simp (disch := omega) only [vm0, vm1, vm2, vm3, vm4, vm5, vm6, vm7, fPick, fBox, fBuild, fBsl, fLd, fLda, fSt, fNilc, fBin, fEq, fUn, fMkf, fFa, fFld, fFlda, fExt, evo, wr, wrC, frame, Bool.not_true, Bool.not_false, beq_self_eq_true, List.cons_append, List.nil_append, Nat.add_zero, Nat.zero_add, Nat.reduceAdd, Nat.reduceMul, Nat.reduceSub, Bool.and_true, Bool.true_and, Bool.and_self, beq_dec, fApp, Int.toNat_natCast, Nat.sub_zero, vmI]
    exact ⟨by show AV.bool _ = AV.bool _; simp [hasR, hft], hfa.trans hf2 (by simp) (by simp)⟩
end
end Go.Proofs.Ytekhpohcjfjhfaa.ctr
namespace Go.Proofs.Ytekhpohcjfjhfaa.ctr
open Go.Vm Go.RowKit Go.Ranges
set_option linter.unusedVariables false
set_option linter.unusedSimpArgs false
structure RS where
  o : List R
  d : Bool
  f : Int
  t : Int
def rstep (q : RS) (r : R) : RS := if r.2 < q.f then { q with o := q.o ++ [r] } else if q.t < r.1 then { q with o := (if q.d then q.o else q.o ++ [(q.f, q.t)]) ++ [r], d := true } else { q with f := min q.f r.1, t := max q.t r.2 }
def rfin (q : RS) : List R := if q.d then q.o else q.o ++ [(q.f, q.t)]
def rAdd (f t : Int) (l : List R) : RS := l.foldl rstep ⟨[], false, f, t⟩
theorem rstep_far {t : Int} : ∀ {l : List R} {b : Int} (o : List R) (f : Int), WFr b l → t < b → f < t → l.foldl rstep ⟨o, true, f, t⟩ = ⟨o ++ l, true, f, t⟩ := by
  intro l
  induction l with
  | nil => intro b o f _ _ _; simp
  | cons r l ih =>
    intro b o f hw ht hf
    obtain ⟨w1, w2, w3, w4⟩ := hw
    have : rstep ⟨o, true, f, t⟩ r = ⟨o ++ [r], true, f, t⟩ := by
      unfold rstep
      rw [if_neg (by show ¬ r.2 < f; omega), if_pos (show t < r.1 by omega)]; rfl
    rw [List.foldl_cons, this, ih _ _ w4 (by omega) hf]
    simp
theorem rstep_spec : ∀ {l : List R} {b f t : Int} (o : List R), WFr b l → f < t → rfin (l.foldl rstep ⟨o, false, f, t⟩) = o ++ addR f t l := by
  intro l
  induction l with
  | nil => intro b f t o _ _; simp [rfin, Ranges.addR]
  | cons r l ih =>
    intro b f t o hw hf
    obtain ⟨w1, w2, w3, w4⟩ := hw
    rw [List.foldl_cons]
    unfold Ranges.addR
    by_cases h1 : r.2 < f
    · have : rstep ⟨o, false, f, t⟩ r = ⟨o ++ [r], false, f, t⟩ := if_pos h1
      rw [this, if_pos h1, ih _ w4 hf]; simp
    · rw [if_neg h1]
      by_cases h2 : t < r.1
      · have : rstep ⟨o, false, f, t⟩ r = ⟨o ++ [(f, t)] ++ [r], true, f, t⟩ := by
          unfold rstep
          rw [if_neg h1, if_pos h2]; rfl
        rw [this, if_pos h2, rstep_far _ _ w4 (by omega) hf]
        simp [rfin]
      · have : rstep ⟨o, false, f, t⟩ r = ⟨o, false, min f r.1, max t r.2⟩ := by
          unfold rstep
          rw [if_neg h1, if_neg h2]
        rw [this, if_neg h2]
        exact ih o w4 (by omega)
theorem rAdd_spec {l : List R} {b f t : Int} (hw : WFr b l) (hf : f < t) : rfin (rAdd f t l) = addR f t l := by
  have := rstep_spec (l := l) [] hw hf
  simpa [rAdd] using this
theorem rAdd_take {f t : Int} {l : List R} {i : Nat} {x : R} (hx : l[i]? = some x) : rAdd f t (l.take (i + 1)) = rstep (rAdd f t (l.take i)) x := by
  rw [List.take_add_one, hx]; simp [rAdd]
theorem rAdd_len {f t : Int} (l : List R) : (rAdd f t l).o.length ≤ 2 * l.length := by
  have key : ∀ (l : List R) (q : RS), (l.foldl rstep q).o.length ≤ q.o.length + 2 * l.length := by
    intro l
    induction l with
    | nil => intro o; simp
    | cons r l ih =>
      intro q
      rw [List.foldl_cons]
      have := ih (rstep q r)
      have h2 : (rstep q r).o.length ≤ q.o.length + 2 := by
        unfold rstep
        split
        · simp
        · split
          · cases q.d <;> simp
          · simp
      simp only [List.length_cons]; omega
  have := key l ⟨[], false, f, t⟩
  simpa [rAdd] using this
section
variable {bd : Bd} {h : VF} {fu : Nat}
set_option maxHeartbeats 400000 in
theorem q_add (n : Nat) (s : St) (p : Nat) (l : List R) (fp : List Nat) (f t : Int) (hF : IsS s p l fp) (hw : WFr 0 l) (hlen : l.length < fu) (hf : l.length < 100000) :
    OutOk (callF bd (tab h).get fu (n + 2) 90 [.ptr p 0, num f, num t] s) (fun x s' => ∃ fp', IsS s' p (if max 0 f < min t far then addR (max 0 f) (min t far) l else l) fp' ∧ Fr s s' fp ∧ Nw s fp fp') := by
  refine call_code (t90 h) rfl ?_
  simp (disch := omega) only [vm0, vm1, vm2, vm3, vm4, vm5, vm6, vm7, fPick, fBox, fBuild, fBsl, fLd, fLda, fSt, fNilc, fBin, fEq, fUn, fMkf, fFa, fFld, fFlda, fExt, evo, wr, wrC, frame, Bool.not_true, Bool.not_false, beq_self_eq_true, List.cons_append, List.nil_append, Nat.add_zero, Nat.zero_add, Nat.reduceAdd, Nat.reduceMul, Nat.reduceSub, Bool.and_true, Bool.true_and, Bool.and_self, beq_dec, fApp, Int.toNat_natCast, Nat.sub_zero, vc90]
  refine call_ok rfl rfl (s_clip n s f t) ?_
  rintro x s ⟨rfl, rfl⟩
  have hF0 := hF
  obtain ⟨v, fv, h1, h2, h3, rfl, h5⟩ := hF
  rw [show max f 0 = max 0 f by omega]
  obtain ⟨f', hf'⟩ : ∃ f', max 0 f = f' := ⟨_, rfl⟩
  obtain ⟨t', ht'⟩ : ∃ t', min t far = t' := ⟨_, rfl⟩
  rw [hf', ht']
  by_cases hgo : f' < t'
  · rw [if_pos hgo]
    simp (disch := omega) only [vm0, vm1, vm2, vm3, vm4, vm5, vm6, vm7, fPick, fBox, fBuild, fBsl, fLd, fLda, fSt, fNilc, fBin, fEq, fUn, fMkf, fFa, fFld, fFlda, fExt, evo, wr, wrC, frame, Bool.not_true, Bool.not_false, beq_self_eq_true, List.cons_append, List.nil_append, Nat.add_zero, Nat.zero_add, Nat.reduceAdd, Nat.reduceMul, Nat.reduceSub, Bool.and_true, Bool.true_and, Bool.and_self, beq_dec, fApp, Int.toNat_natCast, Nat.sub_zero, h1, h2.rd.lenV]
    refine x_loop (fun m F s' => ∃ i : Nat, ∃ z x3 x10 x12 x13 x14 x15 vo fo, m = l.length - i ∧ i ≤ l.length ∧ z = (i : Int) ∧ F = [some (.ptr p 0), some (num (rAdd f' t' (l.take i)).f), some (num (rAdd f' t' (l.take i)).t), x3, some vo, some (num z), some (.bool (rAdd f' t' (l.take i)).d), some (.bool true), some (.bool false), some (num (l.length : Int)), x10, some v, x12, x13, x14, x15] ∧
      Fr s s' [] ∧ OwE s' vo 2 encR (rAdd f' t' (l.take i)).o fo ∧ Nw s [] fo) l.length (by omega) ?_ ?_
    · exact ⟨0, _, _, _, _, _, _, _, _, [], by omega, by omega, rfl, rfl, .refl, .nil encR_w (by omega), by simp [Nw]⟩
    · rintro m F s1 ⟨i, _, x3, x10, x12, x13, x14, x15, vo, fo, rfl, hi, rfl, rfl, hfr, ho, hn⟩ hm
      have hv1 := h2.fr0 hfr
      have hpl := rAdd_len (f := f') (t := t') (l.take i)
      rw [List.length_take, Nat.min_eq_left hi] at hpl
      by_cases hlt : i < l.length
      · obtain ⟨x, hx⟩ : ∃ x, l[i]? = some x := ⟨_, List.getElem?_eq_getElem hlt⟩
        have hps := rAdd_take (f := f') (t := t') hx
        obtain ⟨a, b⟩ := x
        have e1 := hv1.rd.ia hx
        have e2 := hv1.rd.at hx
        have hbl := hv1.rd.blk' hx
        obtain ⟨⟨o, d1, f1, t1⟩, ho1⟩ : ∃ q : RS, rAdd f' t' (l.take i) = q := ⟨_, rfl⟩
        rw [ho1] at ho hps hpl
        rw [ho1]
        dsimp only at ho hpl
        simp (disch := omega) only [vm0, vm1, vm2, vm3, vm4, vm5, vm6, vm7, fPick, fBox, fBuild, fBsl, fLd, fLda, fSt, fNilc, fBin, fEq, fUn, fMkf, fFa, fFld, fFlda, fExt, evo, wr, wrC, frame, Bool.not_true, Bool.not_false, beq_self_eq_true, List.cons_append, List.nil_append, Nat.add_zero, Nat.zero_add, Nat.reduceAdd, Nat.reduceMul, Nat.reduceSub, Bool.and_true, Bool.true_and, Bool.and_self, beq_dec, fApp, Int.toNat_natCast, Nat.sub_zero, vmI, e1, e2, encR]
        have hfa : Fr s1 ((s1.new (.cells [num 0, num 0] .own)).put s1.next (some (.cells [num a, num b] .own))) [] := (by (repeat' (first | exact Fr.refl | assumption | apply Fr.new' | apply Fr.mk' | apply Fr.put')) <;> (first | omega | (left; simp; done) | (right; simp only [next_put, next_new, next_mk]; omega) | (simp only [next_put, next_new, next_mk]; omega)))
        have hg : ((s1.new (.cells [num 0, num 0] .own)).put s1.next (some (.cells [num a, num b] .own))).heap.get s1.next = some (.cells [num a, num b] .own) := get_put_eq rfl
        have hgn : s1.next < ((s1.new (.cells [num 0, num 0] .own)).put s1.next (some (.cells [num a, num b] .own))).next := by rw [next_put, next_new]; omega
        generalize (s1.new (.cells [num 0, num 0] .own)).put s1.next (some (.cells [num a, num b] .own)) = s2 at *
        have ho2 := ho.fr0 hfa
        have hfr2 := hfr.trans hfa (fp2 := []) (by simp) (by simp)
        by_cases hb : b < f1
        · have hps' : rAdd f' t' (l.take (i + 1)) = ⟨o ++ [(a, b)], d1, f1, t1⟩ := by rw [hps]; exact if_pos hb
          simp (disch := omega) only [vm0, vm1, vm2, vm3, vm4, vm5, vm6, vm7, fPick, fBox, fBuild, fBsl, fLd, fLda, fSt, fNilc, fBin, fEq, fUn, fMkf, fFa, fFld, fFlda, fExt, evo, wr, wrC, frame, Bool.not_true, Bool.not_false, beq_self_eq_true, List.cons_append, List.nil_append, Nat.add_zero, Nat.zero_add, Nat.reduceAdd, Nat.reduceMul, Nat.reduceSub, Bool.and_true, Bool.true_and, Bool.and_self, beq_dec, fApp, Int.toNat_natCast, Nat.sub_zero, vmI, hg]
          refine op_app1 ho2 (by (repeat' (first | exact Fr.refl | assumption | apply Fr.new' | apply Fr.mk' | apply Fr.put')) <;> (first | omega | (left; simp; done) | (right; simp only [next_put, next_new, next_mk]; omega) | (simp only [next_put, next_new, next_mk]; omega))) (x := (a, b)) rfl (by omega) ?_
          intro v' s4 fo' q1 q2 q3
          simp (disch := omega) only [vm0, vm1, vm2, vm3, vm4, vm5, vm6, vm7, fPick, fBox, fBuild, fBsl, fLd, fLda, fSt, fNilc, fBin, fEq, fUn, fMkf, fFa, fFld, fFlda, fExt, evo, wr, wrC, frame, Bool.not_true, Bool.not_false, beq_self_eq_true, List.cons_append, List.nil_append, Nat.add_zero, Nat.zero_add, Nat.reduceAdd, Nat.reduceMul, Nat.reduceSub, Bool.and_true, Bool.true_and, Bool.and_self, beq_dec, fApp, Int.toNat_natCast, Nat.sub_zero, vmI]
          exact ⟨l.length - (i + 1), by omega, i + 1, (i : Int) + 1, _, _, _, _, _, _, _, fo', rfl, by omega, by omega, by rw [hps'], hfr2.nn q2 hn, by rw [hps']; exact q1, hn.nn q3 hfr2.1⟩
        · by_cases ha : t1 < a
          · cases d1
            · have hps' : rAdd f' t' (l.take (i + 1)) = ⟨o ++ [(f1, t1)] ++ [(a, b)], true, f1, t1⟩ := by
                rw [hps]; unfold rstep
                rw [if_neg (show ¬ (a, b).2 < f1 from hb), if_pos (show t1 < (a, b).1 from ha)]; rfl
              simp (disch := omega) only [vm0, vm1, vm2, vm3, vm4, vm5, vm6, vm7, fPick, fBox, fBuild, fBsl, fLd, fLda, fSt, fNilc, fBin, fEq, fUn, fMkf, fFa, fFld, fFlda, fExt, evo, wr, wrC, frame, Bool.not_true, Bool.not_false, beq_self_eq_true, List.cons_append, List.nil_append, Nat.add_zero, Nat.zero_add, Nat.reduceAdd, Nat.reduceMul, Nat.reduceSub, Bool.and_true, Bool.true_and, Bool.and_self, beq_dec, fApp, Int.toNat_natCast, Nat.sub_zero, vmI, hg]
              refine op_app1 ho2 (by (repeat' (first | exact Fr.refl | assumption | apply Fr.new' | apply Fr.mk' | apply Fr.put')) <;> (first | omega | (left; simp; done) | (right; simp only [next_put, next_new, next_mk]; omega) | (simp only [next_put, next_new, next_mk]; omega))) (x := (f1, t1)) rfl (by omega) ?_
              intro v' s4 fo' q1 q2 q3
              have hg4 := (q2.get hgn (fun hm => by have := ho.lt _ hm; omega)).trans hg
              have hgn4 := Nat.lt_of_lt_of_le hgn q2.1
              simp (disch := omega) only [vm0, vm1, vm2, vm3, vm4, vm5, vm6, vm7, fPick, fBox, fBuild, fBsl, fLd, fLda, fSt, fNilc, fBin, fEq, fUn, fMkf, fFa, fFld, fFlda, fExt, evo, wr, wrC, frame, Bool.not_true, Bool.not_false, beq_self_eq_true, List.cons_append, List.nil_append, Nat.add_zero, Nat.zero_add, Nat.reduceAdd, Nat.reduceMul, Nat.reduceSub, Bool.and_true, Bool.true_and, Bool.and_self, beq_dec, fApp, Int.toNat_natCast, Nat.sub_zero, vmI, hg4]
              refine op_app1 q1 (by (repeat' (first | exact Fr.refl | assumption | apply Fr.new' | apply Fr.mk' | apply Fr.put')) <;> (first | omega | (left; simp; done) | (right; simp only [next_put, next_new, next_mk]; omega) | (simp only [next_put, next_new, next_mk]; omega))) (x := (a, b)) rfl (by simp; omega) ?_
              intro v'' s5 fo'' q4 q5 q6
              have hnn := hn.nn q3 hfr2.1
              have hfr4 := hfr2.nn q2 hn
              simp (disch := omega) only [vm0, vm1, vm2, vm3, vm4, vm5, vm6, vm7, fPick, fBox, fBuild, fBsl, fLd, fLda, fSt, fNilc, fBin, fEq, fUn, fMkf, fFa, fFld, fFlda, fExt, evo, wr, wrC, frame, Bool.not_true, Bool.not_false, beq_self_eq_true, List.cons_append, List.nil_append, Nat.add_zero, Nat.zero_add, Nat.reduceAdd, Nat.reduceMul, Nat.reduceSub, Bool.and_true, Bool.true_and, Bool.and_self, beq_dec, fApp, Int.toNat_natCast, Nat.sub_zero, vmI]
              exact ⟨l.length - (i + 1), by omega, i + 1, (i : Int) + 1, _, _, _, _, _, _, _, fo'', rfl, by omega, by omega, by rw [hps'], hfr4.nn q5 hnn, by rw [hps']; exact q4, hnn.nn q6 hfr4.1⟩
            · have hps' : rAdd f' t' (l.take (i + 1)) = ⟨o ++ [(a, b)], true, f1, t1⟩ := by
                rw [hps]; unfold rstep
                rw [if_neg (show ¬ (a, b).2 < f1 from hb), if_pos (show t1 < (a, b).1 from ha)]; rfl
              simp (disch := omega) only [vm0, vm1, vm2, vm3, vm4, vm5, vm6, vm7, fPick, fBox, fBuild, fBsl, fLd, fLda, fSt, fNilc, fBin, fEq, fUn, fMkf, fFa, fFld, fFlda, fExt, evo, wr, wrC, frame, Bool.not_true, Bool.not_false, beq_self_eq_true, List.cons_append, List.nil_append, Nat.add_zero, Nat.zero_add, Nat.reduceAdd, Nat.reduceMul, Nat.reduceSub, Bool.and_true, Bool.true_and, Bool.and_self, beq_dec, fApp, Int.toNat_natCast, Nat.sub_zero, vmI, hg]
              refine op_app1 ho2 (by (repeat' (first | exact Fr.refl | assumption | apply Fr.new' | apply Fr.mk' | apply Fr.put')) <;> (first | omega | (left; simp; done) | (right; simp only [next_put, next_new, next_mk]; omega) | (simp only [next_put, next_new, next_mk]; omega))) (x := (a, b)) rfl (by omega) ?_
              intro v' s4 fo' q1 q2 q3
              simp (disch := omega) only [vm0, vm1, vm2, vm3, vm4, vm5, vm6, vm7, fPick, fBox, fBuild, fBsl, fLd, fLda, fSt, fNilc, fBin, fEq, fUn, fMkf, fFa, fFld, fFlda, fExt, evo, wr, wrC, frame, Bool.not_true, Bool.not_false, beq_self_eq_true, List.cons_append, List.nil_append, Nat.add_zero, Nat.zero_add, Nat.reduceAdd, Nat.reduceMul, Nat.reduceSub, Bool.and_true, Bool.true_and, Bool.and_self, beq_dec, fApp, Int.toNat_natCast, Nat.sub_zero, vmI]
              exact ⟨l.length - (i + 1), by omega, i + 1, (i : Int) + 1, _, _, _, _, _, _, _, fo', rfl, by omega, by omega, by rw [hps'], hfr2.nn q2 hn, by rw [hps']; exact q1, hn.nn q3 hfr2.1⟩
          · have hps' : rAdd f' t' (l.take (i + 1)) = ⟨o, d1, min f1 a, max t1 b⟩ := by
              rw [hps]; unfold rstep
              rw [if_neg (show ¬ (a, b).2 < f1 from hb), if_neg (show ¬ t1 < (a, b).1 from ha)]
            simp (disch := omega) only [vm0, vm1, vm2, vm3, vm4, vm5, vm6, vm7, fPick, fBox, fBuild, fBsl, fLd, fLda, fSt, fNilc, fBin, fEq, fUn, fMkf, fFa, fFld, fFlda, fExt, evo, wr, wrC, frame, Bool.not_true, Bool.not_false, beq_self_eq_true, List.cons_append, List.nil_append, Nat.add_zero, Nat.zero_add, Nat.reduceAdd, Nat.reduceMul, Nat.reduceSub, Bool.and_true, Bool.true_and, Bool.and_self, beq_dec, fApp, Int.toNat_natCast, Nat.sub_zero, vmI, hg]
            exact ⟨l.length - (i + 1), by omega, i + 1, (i : Int) + 1, _, _, _, _, _, _, _, fo, rfl, by omega, by omega, by rw [hps'], hfr2, by rw [hps']; exact ho2, hn⟩
      · have hpa := rAdd_spec (f := f') (t := t') hw hgo
        have htk : l.take i = l := List.take_of_length_le (by omega)
        rw [htk] at ho hpl ⊢
        obtain ⟨⟨o, d1, f1, t1⟩, ho1⟩ : ∃ q : RS, rAdd f' t' l = q := ⟨_, rfl⟩
        rw [ho1] at ho hpa hpl
        rw [ho1]
        dsimp only at ho hpl
        have hp1 := (hfr.get h5 (by simp)).trans h1
        have fin : ∀ (v' : AV) (s5 : St) (f5 : List Nat), OwE s5 v' 2 encR (addR f' t' l) f5 → Fr s s5 [] → Nw s [] f5 → ∃ fp', IsS (s5.put p (some (.cells [v'] .own))) p (addR f' t' l) fp' ∧ Fr s (s5.put p (some (.cells [v'] .own))) (p :: fv) ∧ Nw s (p :: fv) fp' := by
          intro v' s5 f5 q4 hfr5 hnn
          have hpf : p ∉ f5 := fun hm => by have := hnn p hm; simp at this; omega
          refine ⟨p :: f5, ⟨v', f5, get_put_eq rfl, q4.fr (fp' := [p]) (.put (.inl (by simp))) (by rintro b hb hm; simp at hm; subst hm; exact hpf hb), hpf, rfl, by rw [next_put]; exact Nat.lt_of_lt_of_le h5 hfr5.1⟩, .put' (.inl (by simp)) (hfr5.mono (by simp)), ?_⟩
          intro b hb
          rcases List.mem_cons.1 hb with rfl | hb
          · exact .inl (by simp)
          · right; have := hnn b hb; simpa using this
        cases d1
        · simp (disch := omega) only [vm0, vm1, vm2, vm3, vm4, vm5, vm6, vm7, fPick, fBox, fBuild, fBsl, fLd, fLda, fSt, fNilc, fBin, fEq, fUn, fMkf, fFa, fFld, fFlda, fExt, evo, wr, wrC, frame, Bool.not_true, Bool.not_false, beq_self_eq_true, List.cons_append, List.nil_append, Nat.add_zero, Nat.zero_add, Nat.reduceAdd, Nat.reduceMul, Nat.reduceSub, Bool.and_true, Bool.true_and, Bool.and_self, beq_dec, fApp, Int.toNat_natCast, Nat.sub_zero, vmI]
          refine op_app1 ho (by (repeat' (first | exact Fr.refl | assumption | apply Fr.new' | apply Fr.mk' | apply Fr.put')) <;> (first | omega | (left; simp; done) | (right; simp only [next_put, next_new, next_mk]; omega) | (simp only [next_put, next_new, next_mk]; omega))) (x := (f1, t1)) rfl (by omega) ?_
          intro v' s4 fo' q1 q2 q3
          have hfr4 := hfr.nn q2 hn
          have hp5 := (hfr4.get h5 (by simp)).trans h1
          simp (disch := omega) only [vm0, vm1, vm2, vm3, vm4, vm5, vm6, vm7, fPick, fBox, fBuild, fBsl, fLd, fLda, fSt, fNilc, fBin, fEq, fUn, fMkf, fFa, fFld, fFlda, fExt, evo, wr, wrC, frame, Bool.not_true, Bool.not_false, beq_self_eq_true, List.cons_append, List.nil_append, Nat.add_zero, Nat.zero_add, Nat.reduceAdd, Nat.reduceMul, Nat.reduceSub, Bool.and_true, Bool.true_and, Bool.and_self, beq_dec, fApp, Int.toNat_natCast, Nat.sub_zero, vmI, hp5, q1.cells]
          exact fin v' s4 fo' (by rw [← hpa]; exact q1) hfr4 (hn.nn q3 hfr.1)
        · simp (disch := omega) only [vm0, vm1, vm2, vm3, vm4, vm5, vm6, vm7, fPick, fBox, fBuild, fBsl, fLd, fLda, fSt, fNilc, fBin, fEq, fUn, fMkf, fFa, fFld, fFlda, fExt, evo, wr, wrC, frame, Bool.not_true, Bool.not_false, beq_self_eq_true, List.cons_append, List.nil_append, Nat.add_zero, Nat.zero_add, Nat.reduceAdd, Nat.reduceMul, Nat.reduceSub, Bool.and_true, Bool.true_and, Bool.and_self, beq_dec, fApp, Int.toNat_natCast, Nat.sub_zero, vmI, hp1, ho.cells]
          exact fin vo s1 fo (by rw [← hpa]; exact ho) hfr hn
  · rw [if_neg hgo]
    simp (disch := omega) only [vm0, vm1, vm2, vm3, vm4, vm5, vm6, vm7, fPick, fBox, fBuild, fBsl, fLd, fLda, fSt, fNilc, fBin, fEq, fUn, fMkf, fFa, fFld, fFlda, fExt, evo, wr, wrC, frame, Bool.not_true, Bool.not_false, beq_self_eq_true, List.cons_append, List.nil_append, Nat.add_zero, Nat.zero_add, Nat.reduceAdd, Nat.reduceMul, Nat.reduceSub, Bool.and_true, Bool.true_and, Bool.and_self, beq_dec, fApp, Int.toNat_natCast, Nat.sub_zero]
    exact ⟨_, hF0, .refl, .refl⟩
end
end Go.Proofs.Ytekhpohcjfjhfaa.ctr
namespace Go.Proofs.Ytekhpohcjfjhfaa.ctr
open Go.Vm Go.RowKit Go.Ranges
set_option linter.unusedVariables false
set_option linter.unusedSimpArgs false
section
variable {bd : Bd} {h : VF} {fu : Nat}
set_option maxHeartbeats 400000 in
theorem q_cut (n : Nat) (s : St) (p : Nat) (l : List R) (fp : List Nat) (f t : Int) (hF : IsS s p l fp) (hlen : l.length < fu) (hf : l.length < 100000) :
    OutOk (callF bd (tab h).get fu (n + 2) 91 [.ptr p 0, num f, num t] s) (fun x s' => ∃ fp', IsS s' p (if max 0 f < min t far then cutR (max 0 f) (min t far) l else l) fp' ∧ Fr s s' fp ∧ Nw s fp fp') := by
  refine call_code (t91 h) rfl ?_
  simp (disch := omega) only [vm0, vm1, vm2, vm3, vm4, vm5, vm6, vm7, fPick, fBox, fBuild, fBsl, fLd, fLda, fSt, fNilc, fBin, fEq, fUn, fMkf, fFa, fFld, fFlda, fExt, evo, wr, wrC, frame, Bool.not_true, Bool.not_false, beq_self_eq_true, List.cons_append, List.nil_append, Nat.add_zero, Nat.zero_add, Nat.reduceAdd, Nat.reduceMul, Nat.reduceSub, Bool.and_true, Bool.true_and, Bool.and_self, beq_dec, fApp, Int.toNat_natCast, Nat.sub_zero, vc91]
  refine call_ok rfl rfl (s_clip n s f t) ?_
  rintro x s ⟨rfl, rfl⟩
  have hF0 := hF
  obtain ⟨v, fv, h1, h2, h3, rfl, h5⟩ := hF
  rw [show max f 0 = max 0 f by omega]
  obtain ⟨f', hf'⟩ : ∃ f', max 0 f = f' := ⟨_, rfl⟩
  obtain ⟨t', ht'⟩ : ∃ t', min t far = t' := ⟨_, rfl⟩
  rw [hf', ht']
  by_cases hgo : f' < t'
  · rw [if_pos hgo]
    simp (disch := omega) only [vm0, vm1, vm2, vm3, vm4, vm5, vm6, vm7, fPick, fBox, fBuild, fBsl, fLd, fLda, fSt, fNilc, fBin, fEq, fUn, fMkf, fFa, fFld, fFlda, fExt, evo, wr, wrC, frame, Bool.not_true, Bool.not_false, beq_self_eq_true, List.cons_append, List.nil_append, Nat.add_zero, Nat.zero_add, Nat.reduceAdd, Nat.reduceMul, Nat.reduceSub, Bool.and_true, Bool.true_and, Bool.and_self, beq_dec, fApp, Int.toNat_natCast, Nat.sub_zero, h1, h2.rd.lenV]
    refine x_loop (fun m F s' => ∃ i : Nat, ∃ z x3 x9 x11 x12 vo fo, m = l.length - i ∧ i ≤ l.length ∧ z = (i : Int) ∧ F = [some (.ptr p 0), some (num f'), some (num t'), x3, some (num z), some vo, some (.bool true), some (.bool false), some (num (l.length : Int)), x9, some v, x11, x12] ∧
      Fr s s' [] ∧ OwE s' vo 2 encR (cutR f' t' (l.take i)) fo ∧ Nw s [] fo) l.length (by omega) ?_ ?_
    · exact ⟨0, _, _, _, _, _, _, [], by omega, by omega, rfl, rfl, .refl, .nil encR_w (by omega), by simp [Nw]⟩
    · rintro m F s1 ⟨i, _, x3, x9, x11, x12, vo, fo, rfl, hi, rfl, rfl, hfr, ho, hn⟩ hm
      have hv1 := h2.fr0 hfr
      have hcl := cutR_len (f := f') (t := t') (l.take i)
      rw [List.length_take, Nat.min_eq_left hi] at hcl
      by_cases hlt : i < l.length
      · obtain ⟨x, hx⟩ : ∃ x, l[i]? = some x := ⟨_, List.getElem?_eq_getElem hlt⟩
        have hct := cutR_take (f := f') (t := t') hx
        obtain ⟨a, b⟩ := x
        have e1 := hv1.rd.ia hx
        have e2 := hv1.rd.at hx
        have hbl := hv1.rd.blk' hx
        generalize cutR f' t' (l.take i) = o at *
        simp (disch := omega) only [vm0, vm1, vm2, vm3, vm4, vm5, vm6, vm7, fPick, fBox, fBuild, fBsl, fLd, fLda, fSt, fNilc, fBin, fEq, fUn, fMkf, fFa, fFld, fFlda, fExt, evo, wr, wrC, frame, Bool.not_true, Bool.not_false, beq_self_eq_true, List.cons_append, List.nil_append, Nat.add_zero, Nat.zero_add, Nat.reduceAdd, Nat.reduceMul, Nat.reduceSub, Bool.and_true, Bool.true_and, Bool.and_self, beq_dec, fApp, Int.toNat_natCast, Nat.sub_zero, vmI, e1, e2, encR]
        have hfa : Fr s1 ((s1.new (.cells [num 0, num 0] .own)).put s1.next (some (.cells [num a, num b] .own))) [] := (by (repeat' (first | exact Fr.refl | assumption | apply Fr.new' | apply Fr.mk' | apply Fr.put')) <;> (first | omega | (left; simp; done) | (right; simp only [next_put, next_new, next_mk]; omega) | (simp only [next_put, next_new, next_mk]; omega)))
        have hg : ((s1.new (.cells [num 0, num 0] .own)).put s1.next (some (.cells [num a, num b] .own))).heap.get s1.next = some (.cells [num a, num b] .own) := get_put_eq rfl
        have hgn : s1.next < ((s1.new (.cells [num 0, num 0] .own)).put s1.next (some (.cells [num a, num b] .own))).next := by rw [next_put, next_new]; omega
        generalize (s1.new (.cells [num 0, num 0] .own)).put s1.next (some (.cells [num a, num b] .own)) = s2 at *
        have ho2 := ho.fr0 hfa
        have hfr2 := hfr.trans hfa (fp2 := []) (by simp) (by simp)
        have hnf : s1.next ∉ fo := fun hm => by have := ho.lt _ hm; omega
        by_cases c1 : a < f'
        · simp (disch := omega) only [vm0, vm1, vm2, vm3, vm4, vm5, vm6, vm7, fPick, fBox, fBuild, fBsl, fLd, fLda, fSt, fNilc, fBin, fEq, fUn, fMkf, fFa, fFld, fFlda, fExt, evo, wr, wrC, frame, Bool.not_true, Bool.not_false, beq_self_eq_true, List.cons_append, List.nil_append, Nat.add_zero, Nat.zero_add, Nat.reduceAdd, Nat.reduceMul, Nat.reduceSub, Bool.and_true, Bool.true_and, Bool.and_self, beq_dec, fApp, Int.toNat_natCast, Nat.sub_zero, vmI, hg]
          refine op_app1 ho2 (by (repeat' (first | exact Fr.refl | assumption | apply Fr.new' | apply Fr.mk' | apply Fr.put')) <;> (first | omega | (left; simp; done) | (right; simp only [next_put, next_new, next_mk]; omega) | (simp only [next_put, next_new, next_mk]; omega))) (x := (a, min b f')) rfl (by omega) ?_
          intro v' s4 fo' q1 q2 q3
          have hg4 := (q2.get hgn hnf).trans hg
          have hgn4 := Nat.lt_of_lt_of_le hgn q2.1
          have hnn := hn.nn q3 hfr2.1
          have hfr4 := hfr2.nn q2 hn
          by_cases c2 : t' < b
          · simp (disch := omega) only [vm0, vm1, vm2, vm3, vm4, vm5, vm6, vm7, fPick, fBox, fBuild, fBsl, fLd, fLda, fSt, fNilc, fBin, fEq, fUn, fMkf, fFa, fFld, fFlda, fExt, evo, wr, wrC, frame, Bool.not_true, Bool.not_false, beq_self_eq_true, List.cons_append, List.nil_append, Nat.add_zero, Nat.zero_add, Nat.reduceAdd, Nat.reduceMul, Nat.reduceSub, Bool.and_true, Bool.true_and, Bool.and_self, beq_dec, fApp, Int.toNat_natCast, Nat.sub_zero, vmI, hg4]
            refine op_app1 q1 (by (repeat' (first | exact Fr.refl | assumption | apply Fr.new' | apply Fr.mk' | apply Fr.put')) <;> (first | omega | (left; simp; done) | (right; simp only [next_put, next_new, next_mk]; omega) | (simp only [next_put, next_new, next_mk]; omega))) (x := (max a t', b)) rfl (by simp; omega) ?_
            intro v'' s5 fo'' q4 q5 q6
            simp (disch := omega) only [vm0, vm1, vm2, vm3, vm4, vm5, vm6, vm7, fPick, fBox, fBuild, fBsl, fLd, fLda, fSt, fNilc, fBin, fEq, fUn, fMkf, fFa, fFld, fFlda, fExt, evo, wr, wrC, frame, Bool.not_true, Bool.not_false, beq_self_eq_true, List.cons_append, List.nil_append, Nat.add_zero, Nat.zero_add, Nat.reduceAdd, Nat.reduceMul, Nat.reduceSub, Bool.and_true, Bool.true_and, Bool.and_self, beq_dec, fApp, Int.toNat_natCast, Nat.sub_zero, vmI]
            refine ⟨l.length - (i + 1), by omega, i + 1, (i : Int) + 1, _, _, _, _, _, fo'', rfl, by omega, by omega, rfl, hfr4.nn q5 hnn, ?_, hnn.nn q6 hfr4.1⟩
            rw [hct]; simpa [cut1, c1, c2] using q4
          · simp (disch := omega) only [vm0, vm1, vm2, vm3, vm4, vm5, vm6, vm7, fPick, fBox, fBuild, fBsl, fLd, fLda, fSt, fNilc, fBin, fEq, fUn, fMkf, fFa, fFld, fFlda, fExt, evo, wr, wrC, frame, Bool.not_true, Bool.not_false, beq_self_eq_true, List.cons_append, List.nil_append, Nat.add_zero, Nat.zero_add, Nat.reduceAdd, Nat.reduceMul, Nat.reduceSub, Bool.and_true, Bool.true_and, Bool.and_self, beq_dec, fApp, Int.toNat_natCast, Nat.sub_zero, vmI, hg4]
            refine ⟨l.length - (i + 1), by omega, i + 1, (i : Int) + 1, _, _, _, _, _, fo', rfl, by omega, by omega, rfl, hfr4, ?_, hnn⟩
            rw [hct]; simpa [cut1, c1, c2] using q1
        · by_cases c2 : t' < b
          · simp (disch := omega) only [vm0, vm1, vm2, vm3, vm4, vm5, vm6, vm7, fPick, fBox, fBuild, fBsl, fLd, fLda, fSt, fNilc, fBin, fEq, fUn, fMkf, fFa, fFld, fFlda, fExt, evo, wr, wrC, frame, Bool.not_true, Bool.not_false, beq_self_eq_true, List.cons_append, List.nil_append, Nat.add_zero, Nat.zero_add, Nat.reduceAdd, Nat.reduceMul, Nat.reduceSub, Bool.and_true, Bool.true_and, Bool.and_self, beq_dec, fApp, Int.toNat_natCast, Nat.sub_zero, vmI, hg]
            refine op_app1 ho2 (by (repeat' (first | exact Fr.refl | assumption | apply Fr.new' | apply Fr.mk' | apply Fr.put')) <;> (first | omega | (left; simp; done) | (right; simp only [next_put, next_new, next_mk]; omega) | (simp only [next_put, next_new, next_mk]; omega))) (x := (max a t', b)) rfl (by omega) ?_
            intro v'' s5 fo'' q4 q5 q6
            simp (disch := omega) only [vm0, vm1, vm2, vm3, vm4, vm5, vm6, vm7, fPick, fBox, fBuild, fBsl, fLd, fLda, fSt, fNilc, fBin, fEq, fUn, fMkf, fFa, fFld, fFlda, fExt, evo, wr, wrC, frame, Bool.not_true, Bool.not_false, beq_self_eq_true, List.cons_append, List.nil_append, Nat.add_zero, Nat.zero_add, Nat.reduceAdd, Nat.reduceMul, Nat.reduceSub, Bool.and_true, Bool.true_and, Bool.and_self, beq_dec, fApp, Int.toNat_natCast, Nat.sub_zero, vmI]
            refine ⟨l.length - (i + 1), by omega, i + 1, (i : Int) + 1, _, _, _, _, _, fo'', rfl, by omega, by omega, rfl, hfr2.nn q5 hn, ?_, hn.nn q6 hfr2.1⟩
            rw [hct]; simpa [cut1, c1, c2] using q4
          · simp (disch := omega) only [vm0, vm1, vm2, vm3, vm4, vm5, vm6, vm7, fPick, fBox, fBuild, fBsl, fLd, fLda, fSt, fNilc, fBin, fEq, fUn, fMkf, fFa, fFld, fFlda, fExt, evo, wr, wrC, frame, Bool.not_true, Bool.not_false, beq_self_eq_true, List.cons_append, List.nil_append, Nat.add_zero, Nat.zero_add, Nat.reduceAdd, Nat.reduceMul, Nat.reduceSub, Bool.and_true, Bool.true_and, Bool.and_self, beq_dec, fApp, Int.toNat_natCast, Nat.sub_zero, vmI, hg]
            refine ⟨l.length - (i + 1), by omega, i + 1, (i : Int) + 1, _, _, _, _, _, fo, rfl, by omega, by omega, rfl, hfr2, ?_, hn⟩
            rw [hct]; simpa [cut1, c1, c2] using ho2
      · have htk : l.take i = l := List.take_of_length_le (by omega)
        rw [htk] at ho
        have hp5 := (hfr.get h5 (by simp)).trans h1
        simp (disch := omega) only [vm0, vm1, vm2, vm3, vm4, vm5, vm6, vm7, fPick, fBox, fBuild, fBsl, fLd, fLda, fSt, fNilc, fBin, fEq, fUn, fMkf, fFa, fFld, fFlda, fExt, evo, wr, wrC, frame, Bool.not_true, Bool.not_false, beq_self_eq_true, List.cons_append, List.nil_append, Nat.add_zero, Nat.zero_add, Nat.reduceAdd, Nat.reduceMul, Nat.reduceSub, Bool.and_true, Bool.true_and, Bool.and_self, beq_dec, fApp, Int.toNat_natCast, Nat.sub_zero, vmI, hp5, ho.cells]
        have hpf : p ∉ fo := fun hm => by have := hn p hm; simp at this; omega
        refine ⟨p :: fo, ⟨vo, fo, get_put_eq rfl, ho.fr (fp' := [p]) (.put (.inl (by simp))) (by rintro b hb hm; simp at hm; subst hm; exact hpf hb), hpf, rfl, by rw [next_put]; exact Nat.lt_of_lt_of_le h5 hfr.1⟩, .put' (.inl (by simp)) (hfr.mono (by simp)), ?_⟩
        intro b hb
        rcases List.mem_cons.1 hb with rfl | hb
        · exact .inl (by simp)
        · right; have := hn b hb; simpa using this
  · rw [if_neg hgo]
    simp (disch := omega) only [vm0, vm1, vm2, vm3, vm4, vm5, vm6, vm7, fPick, fBox, fBuild, fBsl, fLd, fLda, fSt, fNilc, fBin, fEq, fUn, fMkf, fFa, fFld, fFlda, fExt, evo, wr, wrC, frame, Bool.not_true, Bool.not_false, beq_self_eq_true, List.cons_append, List.nil_append, Nat.add_zero, Nat.zero_add, Nat.reduceAdd, Nat.reduceMul, Nat.reduceSub, Bool.and_true, Bool.true_and, Bool.and_self, beq_dec, fApp, Int.toNat_natCast, Nat.sub_zero]
    exact ⟨_, hF0, .refl, .refl⟩
theorem q_has (n : Nat) (s : St) (p : Nat) (l : List R) (fp : List Nat) (f t : Int) (hF : IsS s p l fp) (hlen : l.length < fu) (hf : l.length < 100000) :
    OutOk (callF bd (tab h).get fu (n + 1) 109 [.ptr p 0, num f, num t] s) (fun x s' => Is x (.bool (hasR f t l)) ∧ Fr s s' []) := by
  refine call_code (t109 h) rfl ?_
  obtain ⟨v, fv, h1, h2, h3, rfl, h5⟩ := hF
  by_cases hft : t ≤ f
  · simp (disch := omega) only [vm0, vm1, vm2, vm3, vm4, vm5, vm6, vm7, fPick, fBox, fBuild, fBsl, fLd, fLda, fSt, fNilc, fBin, fEq, fUn, fMkf, fFa, fFld, fFlda, fExt, evo, wr, wrC, frame, Bool.not_true, Bool.not_false, beq_self_eq_true, List.cons_append, List.nil_append, Nat.add_zero, Nat.zero_add, Nat.reduceAdd, Nat.reduceMul, Nat.reduceSub, Bool.and_true, Bool.true_and, Bool.and_self, beq_dec, fApp, Int.toNat_natCast, Nat.sub_zero, vmI, vc109]
    exact ⟨by show AV.bool _ = AV.bool _; simp [hasR, hft], .refl⟩
  · simp (disch := omega) only [vm0, vm1, vm2, vm3, vm4, vm5, vm6, vm7, fPick, fBox, fBuild, fBsl, fLd, fLda, fSt, fNilc, fBin, fEq, fUn, fMkf, fFa, fFld, fFlda, fExt, evo, wr, wrC, frame, Bool.not_true, Bool.not_false, beq_self_eq_true, List.cons_append, List.nil_append, Nat.add_zero, Nat.zero_add, Nat.reduceAdd, Nat.reduceMul, Nat.reduceSub, Bool.and_true, Bool.true_and, Bool.and_self, beq_dec, fApp, Int.toNat_natCast, Nat.sub_zero, vmI, vc109, h1, h2.rd.lenV]
    refine x_loop (fun m F s' => ∃ i : Nat, ∃ z x4 x7 x9, m = l.length - i ∧ i ≤ l.length ∧ z = (i : Int) ∧ F = [some (.ptr p 0), some (num f), some (num t), some (num z), x4, some (.bool false), some (num (l.length : Int)), x7, some v, x9, some (.bool false)] ∧ Fr s s' [] ∧ (l.take i).any (has1 f t) = false) l.length (by omega) ?_ ?_
    · exact ⟨0, _, _, _, _, by omega, by omega, rfl, rfl, .refl, by simp⟩
    · rintro m F s1 ⟨i, _, x4, x7, x9, rfl, hi, rfl, rfl, hfr, hno⟩ hm
      have hv1 := h2.fr0 hfr
      by_cases hlt : i < l.length
      · obtain ⟨⟨a, b⟩, hx⟩ : ∃ x, l[i]? = some x := ⟨_, List.getElem?_eq_getElem hlt⟩
        have e1 := hv1.rd.ia hx
        have e2 := hv1.rd.at hx
        have hbl := hv1.rd.blk' hx
        have ht : l.take (i + 1) = l.take i ++ [(a, b)] := by rw [List.take_add_one, hx]; rfl
        by_cases c : a ≤ f ∧ t ≤ b
        · obtain ⟨c1, c2⟩ := c
          simp (disch := omega) only [vm0, vm1, vm2, vm3, vm4, vm5, vm6, vm7, fPick, fBox, fBuild, fBsl, fLd, fLda, fSt, fNilc, fBin, fEq, fUn, fMkf, fFa, fFld, fFlda, fExt, evo, wr, wrC, frame, Bool.not_true, Bool.not_false, beq_self_eq_true, List.cons_append, List.nil_append, Nat.add_zero, Nat.zero_add, Nat.reduceAdd, Nat.reduceMul, Nat.reduceSub, Bool.and_true, Bool.true_and, Bool.and_self, beq_dec, fApp, Int.toNat_natCast, Nat.sub_zero, vmI, e1, e2, encR]
          refine ⟨?_, hfr.trans (fp1 := []) (by (repeat' (first | exact Fr.refl | assumption | apply Fr.new' | apply Fr.mk' | apply Fr.put')) <;> (first | omega | (left; simp; done) | (right; simp only [next_put, next_new, next_mk]; omega) | (simp only [next_put, next_new, next_mk]; omega))) (by simp) (by simp)⟩
          show AV.bool _ = AV.bool _
          have : l.any (has1 f t) = true := List.any_eq_true.2 ⟨(a, b), List.mem_of_getElem? hx, by simp [has1, c1, c2]⟩
          simp [hasR, this]
        · have hh : has1 f t (a, b) = false := by simp only [has1, Bool.and_eq_false_imp, decide_eq_true_eq, decide_eq_false_iff_not]; omega
          have fin : ∀ s2, Fr s1 s2 [] → ∀ x4' x7' x9', ∃ j, j < l.length - i ∧ ∃ i' : Nat, ∃ z x4 x7 x9, j = l.length - i' ∧ i' ≤ l.length ∧ z = (i' : Int) ∧ [some (.ptr p 0), some (num f), some (num t), some (num ((i : Int) + 1)), x4', some (.bool false), some (num (l.length : Int)), x7', some v, x9', some (.bool false)] = [some (.ptr p 0), some (num f), some (num t), some (num z), x4, some (.bool false), some (num (l.length : Int)), x7, some v, x9, some (.bool false)] ∧ Fr s s2 [] ∧ (l.take i').any (has1 f t) = false := fun s2 q x4' x7' x9' =>
            ⟨l.length - (i + 1), by omega, i + 1, (i : Int) + 1, _, _, _, rfl, by omega, by omega, rfl, hfr.trans q (by simp) (by simp), by rw [ht, List.any_append, hno]; simp [hh]⟩
          by_cases c1 : a ≤ f
          · simp (disch := omega) only [vm0, vm1, vm2, vm3, vm4, vm5, vm6, vm7, fPick, fBox, fBuild, fBsl, fLd, fLda, fSt, fNilc, fBin, fEq, fUn, fMkf, fFa, fFld, fFlda, fExt, evo, wr, wrC, frame, Bool.not_true, Bool.not_false, beq_self_eq_true, List.cons_append, List.nil_append, Nat.add_zero, Nat.zero_add, Nat.reduceAdd, Nat.reduceMul, Nat.reduceSub, Bool.and_true, Bool.true_and, Bool.and_self, beq_dec, fApp, Int.toNat_natCast, Nat.sub_zero, vmI, e1, e2, encR]
            exact fin _ (by (repeat' (first | exact Fr.refl | assumption | apply Fr.new' | apply Fr.mk' | apply Fr.put')) <;> (first | omega | (left; simp; done) | (right; simp only [next_put, next_new, next_mk]; omega) | (simp only [next_put, next_new, next_mk]; omega))) _ _ _
          · simp (disch := omega) only [vm0, vm1, vm2, vm3, vm4, vm5, vm6, vm7, fPick, fBox, fBuild, fBsl, fLd, fLda, fSt, fNilc, fBin, fEq, fUn, fMkf, fFa, fFld, fFlda, fExt, evo, wr, wrC, frame, Bool.not_true, Bool.not_false, beq_self_eq_true, List.cons_append, List.nil_append, Nat.add_zero, Nat.zero_add, Nat.reduceAdd, Nat.reduceMul, Nat.reduceSub, Bool.and_true, Bool.true_and, Bool.and_self, beq_dec, fApp, Int.toNat_natCast, Nat.sub_zero, vmI, e1, e2, encR]
            exact fin _ (by (repeat' (first | exact Fr.refl | assumption | apply Fr.new' | apply Fr.mk' | apply Fr.put')) <;> (first | omega | (left; simp; done) | (right; simp only [next_put, next_new, next_mk]; omega) | (simp only [next_put, next_new, next_mk]; omega))) _ _ _
      · simp (disch := omega) only [vm0, vm1, vm2, vm3, vm4, vm5, vm6, vm7, fPick, fBox, fBuild, fBsl, fLd, fLda, fSt, fNilc, fBin, fEq, fUn, fMkf, fFa, fFld, fFlda, fExt, evo, wr, wrC, frame, Bool.not_true, Bool.not_false, beq_self_eq_true, List.cons_append, List.nil_append, Nat.add_zero, Nat.zero_add, Nat.reduceAdd, Nat.reduceMul, Nat.reduceSub, Bool.and_true, Bool.true_and, Bool.and_self, beq_dec, fApp, Int.toNat_natCast, Nat.sub_zero, vmI]
        refine ⟨?_, hfr⟩
        show AV.bool _ = AV.bool _
        rw [List.take_of_length_le (by omega)] at hno
        simp [hasR, hft, hno]
/-- the first place that is not there -/
def frontR (l : List R) : Int := if l ≠ [] ∧ (l.headD (0, 0)).1 = 0 then (l.headD (0, 0)).2 else 0
theorem q_front (n : Nat) (s : St) (p : Nat) (l : List R) (fp : List Nat) (hF : IsS s p l fp) :
    OutOk (callF bd (tab h).get fu (n + 1) 132 [.ptr p 0] s) (fun x s' => Is x (num (frontR l)) ∧ Is s' s) := by
  refine call_code (t132 h) rfl ?_
  obtain ⟨v, fv, h1, h2, h3, rfl, h5⟩ := hF
  cases l with
  | nil =>
    simp (disch := omega) only [vm0, vm1, vm2, vm3, vm4, vm5, vm6, vm7, fPick, fBox, fBuild, fBsl, fLd, fLda, fSt, fNilc, fBin, fEq, fUn, fMkf, fFa, fFld, fFlda, fExt, evo, wr, wrC, frame, Bool.not_true, Bool.not_false, beq_self_eq_true, List.cons_append, List.nil_append, Nat.add_zero, Nat.zero_add, Nat.reduceAdd, Nat.reduceMul, Nat.reduceSub, Bool.and_true, Bool.true_and, Bool.and_self, beq_dec, fApp, Int.toNat_natCast, Nat.sub_zero, vc132, h1, h2.rd.lenV, List.length_nil]
    exact ⟨rfl, rfl⟩
  | cons r l =>
    have hx : (r :: l)[0]? = some r := rfl
    have e1 := h2.rd.ia hx
    have e2 := h2.rd.at hx
    have hb := h2.rd.blk' hx
    obtain ⟨a, b⟩ := r
    have hl : 0 < ((a, b) :: l).length := by simp
    simp only [Int.natCast_zero, Nat.zero_mul, Nat.add_zero] at e1 e2
    have e3 : ob (s.heap.get (sblk v)) (rd1C (soff v)) = some (num a) := by
      obtain ⟨c, k, q1, q2⟩ := rd_sub (s := s) (b := sblk v) (o := soff v) (n := 2) e2
      obtain ⟨q3, q4⟩ := sub_some q2
      rw [q1]
      show nth c (soff v) = _
      rw [nth_eq]
      have : ((c.drop (soff v)).take 2)[0]? = some (num a) := by rw [← q4]; rfl
      rw [List.getElem?_take, if_pos (by omega), List.getElem?_drop] at this
      simpa using this
    have e4 : ob (s.heap.get (sblk v)) (rd1C (soff v + 1)) = some (num b) := by
      obtain ⟨c, k, q1, q2⟩ := rd_sub (s := s) (b := sblk v) (o := soff v) (n := 2) e2
      obtain ⟨q3, q4⟩ := sub_some q2
      rw [q1]
      show nth c (soff v + 1) = _
      rw [nth_eq]
      have : ((c.drop (soff v)).take 2)[1]? = some (num b) := by rw [← q4]; rfl
      rw [List.getElem?_take, if_pos (by omega), List.getElem?_drop] at this
      simpa using this
    by_cases h0 : a = 0
    · simp (disch := omega) only [vm0, vm1, vm2, vm3, vm4, vm5, vm6, vm7, fPick, fBox, fBuild, fBsl, fLd, fLda, fSt, fNilc, fBin, fEq, fUn, fMkf, fFa, fFld, fFlda, fExt, evo, wr, wrC, frame, Bool.not_true, Bool.not_false, beq_self_eq_true, List.cons_append, List.nil_append, Nat.add_zero, Nat.zero_add, Nat.reduceAdd, Nat.reduceMul, Nat.reduceSub, Bool.and_true, Bool.true_and, Bool.and_self, beq_dec, fApp, Int.toNat_natCast, Nat.sub_zero, vc132, h1, h2.rd.lenV, e1, e3, e4]
      exact ⟨by show num _ = num _; simp [frontR, h0], rfl⟩
    · simp (disch := omega) only [vm0, vm1, vm2, vm3, vm4, vm5, vm6, vm7, fPick, fBox, fBuild, fBsl, fLd, fLda, fSt, fNilc, fBin, fEq, fUn, fMkf, fFa, fFld, fFlda, fExt, evo, wr, wrC, frame, Bool.not_true, Bool.not_false, beq_self_eq_true, List.cons_append, List.nil_append, Nat.add_zero, Nat.zero_add, Nat.reduceAdd, Nat.reduceMul, Nat.reduceSub, Bool.and_true, Bool.true_and, Bool.and_self, beq_dec, fApp, Int.toNat_natCast, Nat.sub_zero, vc132, h1, h2.rd.lenV, e1, e3, e4]
      exact ⟨by show num _ = num _; simp [frontR, h0], rfl⟩
end
end Go.Proofs.Ytekhpohcjfjhfaa.ctr
namespace Go.Proofs.Ytekhpohcjfjhfaa.ctr
open Go.Vm Go.RowKit Go.Ranges Go.Proofs Go.Sort
set_option linter.unusedVariables false
set_option linter.unusedSimpArgs false
def sortIv_ren : Go.Shelf.Ren := ⟨fun x => match x with | 6 => 97 | 15 => 118 | 14 => 117 | 28 => 130 | 29 => 131 | 20 => 122 | 21 => 123 | 22 => 124 | 23 => 125 | 24 => 126 | 25 => 127 | 26 => 128 | 27 => 129 | 46 => 133 | 47 => 134 | 48 => 135 | 49 => 136 | 50 => 137 | 57 => 138 | n => n, fun x => match x with | 22 => 61 | 24 => 64 | 25 => 137 | 3 => 3 | 39 => 151 | 0 => 0 | 53 => 162 | 55 => 164 | 4 => 4 | 46 => 155 | 45 => 154 | 50 => 159 | 5 => 5 | 9 => 9 | 66 => 165 | 70 => 169 | 76 => 171 | 77 => 134 | n => n, fun x => x⟩
theorem sortIv : SlLaysF0.n6 Try.prog sortIv_ren where
  mixed := by kernel_rfl
  f6 := ⟨"slices.SortFunc[[]haulier/ranges.Range,haulier/ranges.Range]", by kernel_rfl, Try.func97.trans (by kernel_rfl)⟩
  f14 := ⟨"slices.pdqsortCmpFunc[haulier/ranges.Range]", by kernel_rfl, Try.func117.trans (by kernel_rfl)⟩
  f15 := Try.func118.trans (by kernel_rfl)
  f20 := ⟨"slices.insertionSortCmpFunc[haulier/ranges.Range]", by kernel_rfl, Try.func122.trans (by kernel_rfl)⟩
  f21 := ⟨"slices.heapSortCmpFunc[haulier/ranges.Range]", by kernel_rfl, Try.func123.trans (by kernel_rfl)⟩
  f22 := ⟨"slices.breakPatternsCmpFunc[haulier/ranges.Range]", by kernel_rfl, Try.func124.trans (by kernel_rfl)⟩
  f23 := ⟨"slices.choosePivotCmpFunc[haulier/ranges.Range]", by kernel_rfl, Try.func125.trans (by kernel_rfl)⟩
  f24 := ⟨"slices.reverseRangeCmpFunc[haulier/ranges.Range]", by kernel_rfl, Try.func126.trans (by kernel_rfl)⟩
  f25 := ⟨"slices.partialInsertionSortCmpFunc[haulier/ranges.Range]", by kernel_rfl, Try.func127.trans (by kernel_rfl)⟩
  f26 := ⟨"slices.partitionEqualCmpFunc[haulier/ranges.Range]", by kernel_rfl, Try.func128.trans (by kernel_rfl)⟩
  f27 := ⟨"slices.partitionCmpFunc[haulier/ranges.Range]", by kernel_rfl, Try.func129.trans (by kernel_rfl)⟩
  f28 := Try.func130.trans (by kernel_rfl)
  f29 := Try.func131.trans (by kernel_rfl)
  f46 := ⟨"slices.siftDownCmpFunc[haulier/ranges.Range]", by kernel_rfl, Try.func133.trans (by kernel_rfl)⟩
  f47 := Try.func134.trans (by kernel_rfl)
  f48 := Try.func135.trans (by kernel_rfl)
  f49 := ⟨"slices.medianAdjacentCmpFunc[haulier/ranges.Range]", by kernel_rfl, Try.func136.trans (by kernel_rfl)⟩
  f50 := ⟨"slices.medianCmpFunc[haulier/ranges.Range]", by kernel_rfl, Try.func137.trans (by kernel_rfl)⟩
  f57 := ⟨"slices.order2CmpFunc[haulier/ranges.Range]", by kernel_rfl, Try.func138.trans (by kernel_rfl)⟩
  t0 := Try.underlying0
  a0 := Try.isAgg0
  z0 := Try.sizeOf0
  v0 := Try.zeroValue0
  t3 := Try.underlying3
  a3 := Try.isAgg3
  z3 := Try.sizeOf3
  v3 := Try.zeroValue3
  t4 := Try.underlying4
  a4 := Try.isAgg4
  z4 := Try.sizeOf4
  v4 := Try.zeroValue4
  t5 := Try.underlying5
  a5 := Try.isAgg5
  z5 := Try.sizeOf5
  v5 := Try.zeroValue5
  t9 := Try.underlying9
  a9 := Try.isAgg9
  z9 := Try.sizeOf9
  v9 := Try.zeroValue9
  t22 := Try.underlying61
  a22 := Try.isAgg61
  z22 := Try.sizeOf61
  v22 := Try.zeroValue61
  t25 := Try.underlying137
  a25 := Try.isAgg137
  z25 := Try.sizeOf137
  v25 := Try.zeroValue137
  t39 := Try.underlying151
  a39 := Try.isAgg151
  z39 := Try.sizeOf151
  v39 := Try.zeroValue151
  t45 := Try.underlying154
  a45 := Try.isAgg154
  z45 := Try.sizeOf154
  v45 := Try.zeroValue154
  t46 := Try.underlying155
  a46 := Try.isAgg155
  z46 := Try.sizeOf155
  v46 := Try.zeroValue155
  t50 := Try.underlying159
  a50 := Try.isAgg159
  z50 := Try.sizeOf159
  v50 := Try.zeroValue159
  t53 := Try.underlying162
  a53 := Try.isAgg162
  z53 := Try.sizeOf162
  v53 := Try.zeroValue162
  t55 := Try.underlying164
  a55 := Try.isAgg164
  z55 := Try.sizeOf164
  v55 := Try.zeroValue164
  t66 := Try.underlying165
  a66 := Try.isAgg165
  z66 := Try.sizeOf165
  v66 := Try.zeroValue165
  t70 := Try.underlying169
  a70 := Try.isAgg169
  z70 := Try.sizeOf169
  v70 := Try.zeroValue169
  t76 := Try.underlying171
  a76 := Try.isAgg171
  z76 := Try.sizeOf171
  v76 := Try.zeroValue171
  t77 := Try.underlying134
  a77 := Try.isAgg134
  z77 := Try.sizeOf134
  v77 := Try.zeroValue134
def cmpInt_ren : Go.Shelf.Ren := ⟨fun x => match x with | 5 => 99 | 7 => 119 | n => n, fun x => match x with | 22 => 3 | 3 => 3 | 4 => 4 | n => n, fun x => x⟩
theorem cmpInt : SlLaysC2.n5 Try.prog cmpInt_ren where
  mixed := by kernel_rfl
  f5 := ⟨"cmp.Compare[int]", by kernel_rfl, Try.func99.trans (by kernel_rfl)⟩
  f7 := ⟨"cmp.isNaN[int]", by kernel_rfl, Try.func119.trans (by kernel_rfl)⟩
  t3 := Try.underlying3
  a3 := Try.isAgg3
  z3 := Try.sizeOf3
  v3 := Try.zeroValue3
  t4 := Try.underlying4
  a4 := Try.isAgg4
  z4 := Try.sizeOf4
  v4 := Try.zeroValue4
  t22 := Try.underlying3
  a22 := Try.isAgg3
  z22 := Try.sizeOf3
  v22 := Try.zeroValue3
set_option maxHeartbeats 1000000 in
/-- the comparing function: two blocks are laid, one beginning against the other -/
theorem closure_cmp (x y : R) (W : World) : Calls Try.prog 98 #[.agg #[.int .i64 x.1, .int .i64 x.2], .agg #[.int .i64 y.1, .int .i64 y.2]] W fun e w' => e = .returned (.int .i64 (Lib.compareInt x.1 y.1)) ∧ ∃ q os', w' = grow (W.drewN q) os' := by
  have hcon := fun W' => AnyG.cmp_Compare_int cmpInt x.1 y.1 W'
  change ∀ W', Calls Try.prog 99 _ _ _ at hcon
  generalize Lib.compareInt x.1 y.1 = r at hcon ⊢
  go_enter Try.func98, Try.ntmps98
  go_wp2_with (go_at_call 99; refine (hcon _).mono ?_; rintro e w' ⟨rfl, rfl⟩)
  go_ret
  exact ⟨rfl, 0, _, by rw [alloc_eq_grow, alloc_eq_grow, grow_grow]; rfl⟩
theorem sort_ok (ρ : Nat → Int) : EntryOk ρ Try.prog 97 (.act (sortAct 98)) :=
  sort_entry sortIv Try.isAgg64 Try.sizeOf64 (enter_ok Try.func98 rfl rfl) (enter_ok Try.func97 rfl rfl) closure_cmp ρ
end Go.Proofs.Ytekhpohcjfjhfaa.ctr
namespace Go.Proofs.Ytekhpohcjfjhfaa.ctr
open Go.Vm Go.RowKit Go.Ranges
set_option linter.unusedVariables false
set_option linter.unusedSimpArgs false
/-- what is laid in at the sort's place -/
noncomputable def srt : VF := .act (sortAct 98)
theorem srt_ok : SortOk srt := by
  intro bd fu n s v l fp hO hne hlt hnd
  have e : callF bd (tab srt).get fu (n + 1) 97 [v, .fn 98 [] []] s = sortAct 98 [v, .fn 98 [] []] s := rfl
  rw [e]
  rcases hO.ow with ⟨_, h0, _⟩ | ⟨b, len, lo, ex, k, J, rfl, h2, h3, h4, h5⟩
  · have := flat_len hO.wid l
    rw [h0] at this
    have : l.length = 0 := by simp at this; omega
    exact absurd (List.eq_nil_of_length_eq_zero this) hne
  · have hlen : len = l.length := hO.len
    have hfl : ∀ m : List R, (m.flatMap encP).length = m.length * 2 := fun m => flat_len (sz := 2) (fun _ => rfl) m
    have hee : ∀ m : List R, m.flatMap encR = m.flatMap encP := fun m => rfl
    rw [hee] at h3 h4
    have htk : (l.flatMap encP ++ J).take (len * 2) = l.flatMap encP := List.take_left' h3
    have hsl : (sortR l).length = l.length := (sortR_perm l).length_eq
    obtain ⟨s', w1, w2, w3, w4⟩ := wr_in (i := 0) h4 h5 (ys := (sortR l).flatMap encP) (by rw [List.length_append, h3, hfl, hsl, hlen]; omega)
    rw [sortAct_eq h4 (by rw [htk, pairs_of]) ⟨hlen.symm, by omega, hnd⟩ w1]
    rw [List.take_zero, List.nil_append, Nat.zero_add, hfl, hsl, ← hlen, List.drop_left' h3] at w3
    have hbf : b ∈ fp := by rcases h5 with ⟨_, rfl⟩ | ⟨m, _, _, rfl⟩ <;> simp
    refine ⟨[b], ⟨.inr ⟨b, len, lo, ex, .own, J, rfl, h2, ?_, w3, .inl ⟨rfl, rfl⟩⟩, encR_w, by omega, fun z hz => ?_⟩, w4, fun z hz => ?_⟩
    · rw [hee, hfl, hsl, hlen]
    · simp at hz; subst hz; rw [w2]; exact hO.lt z hbf
    · simp at hz; subst hz; exact hbf
theorem tabS_all (r : Nat → Int) : TrAll (tab srt) (EntryOk r Try.prog) := tab_all r srt (sort_ok r)
end Go.Proofs.Ytekhpohcjfjhfaa.ctr
