/- Contracts: outbox and plan, the program's and the reference's; things that stand apart in memory. -/
import Derived.Test.YtekhpohcjfjhfaaCtRa
namespace Go.Proofs.Ytekhpohcjfjhfaa.ctr
open Go.Vm Go.RowKit Go.Ranges
set_option linter.unusedVariables false
set_option linter.unusedSimpArgs false
theorem encB_w : ∀ x : Int, (encB x).length = 1 := fun _ => rfl
def encU (u : AV) : List AV := [u]
theorem sv_nils {sz : Nat} {lo hi mx : Option AV} : sliceV sz .nils lo hi mx = cnd (zr lo && zr hi && zr mx) (some .nils) none := rfl
theorem rep_flat (n : Nat) : rep n [byt 0] = (List.replicate n (0 : Int)).flatMap encB := by
  induction n with
  | zero => rfl
  | succ n ih => show byt 0 :: rep n [byt 0] = _; rw [ih]; rfl
/-- the kinds' first part, of a slice just grown -/
theorem cut0_ow {s : St} {v : AV} {l : List Int} {fp : List Nat} (h : OwE s v 1 encB l fp) (hl : l ≠ []) : ∃ v', sliceV 1 v none (some (num 0)) none = some v' ∧ OwE s v' 1 encB [] fp := by
  rcases h.ow with ⟨_, h0, _⟩ | ⟨b, len, lo, ex, k, J, rfl, h2, h3, h4, h5⟩
  · have := flat_len h.wid l
    rw [h0] at this
    exact absurd (List.eq_nil_of_length_eq_zero (by simp at this; omega)) hl
  · have hlen : len = l.length := h.len
    have hpos : 0 < l.length := by cases l with | nil => exact absurd rfl hl | cons => simp
    refine ⟨.sl b 0 0 lo ex 1, ?_, ⟨.inr ⟨b, 0, lo, ex, k, l.flatMap encB ++ J, rfl, Nat.zero_le _, by simp, by simpa using h4, h5⟩, h.wid, h.pos, h.lt⟩⟩
    rw [sv_s, bnd_n, bnd_s (by omega), ob_some, ob_some, sli_k (by simp) (by simp) (by omega)]
    simp
section
variable {bd : Bd} {h : VF} {fu : Nat}
theorem copyB (n : Nat) (s : St) (v : AV) (l : List Int) (hv : RdE s v 1 encB l) (hf : l.length < 1000000) :
    OutOk (callF bd (tab h).get fu (n + 1) 84 [v] s) (fun x s' => ∃ fp, OwE s' x 1 encB l fp ∧ Fr s s' [] ∧ Nw s [] fp) := by
  refine call_code (t84 h) rfl ?_
  simp (disch := omega) only [vm0, vm1, vm2, vm3, vm4, vm5, vm6, vm7, fPick, fBox, fBuild, fBsl, fLd, fLda, fSt, fNilc, fBin, fEq, fUn, fMkf, fFa, fFld, fFlda, fExt, evo, wr, wrC, frame, Bool.not_true, Bool.not_false, beq_self_eq_true, List.cons_append, List.nil_append, Nat.add_zero, Nat.zero_add, Nat.reduceAdd, Nat.reduceMul, Nat.reduceSub, Bool.and_true, Bool.true_and, Bool.and_self, beq_dec, fApp, Int.toNat_natCast, Nat.sub_zero, vmI, vc84, hv.lenOf, hv.cellsOf]
  refine op_app (.nil encB_w (by omega)) (by (repeat' (first | exact Fr.refl | assumption | apply Fr.new' | apply Fr.mk' | apply Fr.put')) <;> (first | omega | (left; simp; done) | (right; simp only [next_put, next_new, next_mk]; omega) | (simp only [next_put, next_new, next_mk]; omega))) (new := l) rfl rfl (by simp; omega) ?_
  intro v' s' fp' q1 q2 q3
  simp (disch := omega) only [vm0, vm1, vm2, vm3, vm4, vm5, vm6, vm7, fPick, fBox, fBuild, fBsl, fLd, fLda, fSt, fNilc, fBin, fEq, fUn, fMkf, fFa, fFld, fFlda, fExt, evo, wr, wrC, frame, Bool.not_true, Bool.not_false, beq_self_eq_true, List.cons_append, List.nil_append, Nat.add_zero, Nat.zero_add, Nat.reduceAdd, Nat.reduceMul, Nat.reduceSub, Bool.and_true, Bool.true_and, Bool.and_self, beq_dec, fApp, Int.toNat_natCast, Nat.sub_zero, vmI]
  exact ⟨fp', by simpa using q1, q2, q3⟩
theorem cutB (n : Nat) (s : St) (v : AV) (l : List Int) (m : Int) (hm : 0 ≤ m) (hm2 : m < 900000) (hv : RdE s v 1 encB l) :
    OutOk (callF bd (tab h).get fu (n + 2) 31 [v, num m] s) (fun x s' => ∃ fp, OwE s' x 1 encB (l.take m.toNat) fp ∧ Fr s s' [] ∧ Nw s [] fp) := by
  refine call_code (t31 h) rfl ?_
  obtain ⟨u, g1, r1⟩ := hv.sliH (b := min (l.length : Int) m) (by omega) (by omega)
  have he : l.take (min (l.length : Int) m).toNat = l.take m.toNat := by
    rcases (show min (l.length : Int) m = m ∨ (min (l.length : Int) m = l.length ∧ (l.length : Int) ≤ m) by omega) with e | ⟨e, h2⟩
    · rw [e]
    · rw [e, Int.toNat_natCast, List.take_of_length_le (Nat.le_refl _), List.take_of_length_le (by omega)]
  rw [he] at r1
  simp (disch := omega) only [vm0, vm1, vm2, vm3, vm4, vm5, vm6, vm7, fPick, fBox, fBuild, fBsl, fLd, fLda, fSt, fNilc, fBin, fEq, fUn, fMkf, fFa, fFld, fFlda, fExt, evo, wr, wrC, frame, Bool.not_true, Bool.not_false, beq_self_eq_true, List.cons_append, List.nil_append, Nat.add_zero, Nat.zero_add, Nat.reduceAdd, Nat.reduceMul, Nat.reduceSub, Bool.and_true, Bool.true_and, Bool.and_self, beq_dec, fApp, Int.toNat_natCast, Nat.sub_zero, vmI, vc31, hv.lenV, g1]
  refine call_ok rfl rfl (copyB n s u _ r1 (by have := List.length_take_le m.toNat l; omega)) ?_
  rintro x s' ⟨fp, q1, q2, q3⟩
  simp (disch := omega) only [vm0, vm1, vm2, vm3, vm4, vm5, vm6, vm7, fPick, fBox, fBuild, fBsl, fLd, fLda, fSt, fNilc, fBin, fEq, fUn, fMkf, fFa, fFld, fFlda, fExt, evo, wr, wrC, frame, Bool.not_true, Bool.not_false, beq_self_eq_true, List.cons_append, List.nil_append, Nat.add_zero, Nat.zero_add, Nat.reduceAdd, Nat.reduceMul, Nat.reduceSub, Bool.and_true, Bool.true_and, Bool.and_self, beq_dec, fApp, Int.toNat_natCast, Nat.sub_zero, vmI]
  exact ⟨fp, q1, q2, q3⟩
theorem growB (n : Nat) (s : St) (m : Nat) (hm : m < 1000000) :
    OutOk (callF bd (tab h).get fu (n + 1) 114 [.nils, num (m : Int)] s) (fun x s' => ∃ fp, OwE s' x 1 encB [] fp ∧ Fr s s' [] ∧ Nw s [] fp) := by
  refine call_code (t114 h) rfl ?_
  by_cases h0 : m = 0
  · subst h0
    simp (disch := omega) only [vm0, vm1, vm2, vm3, vm4, vm5, vm6, vm7, fPick, fBox, fBuild, fBsl, fLd, fLda, fSt, fNilc, fBin, fEq, fUn, fMkf, fFa, fFld, fFlda, fExt, evo, wr, wrC, frame, Bool.not_true, Bool.not_false, beq_self_eq_true, List.cons_append, List.nil_append, Nat.add_zero, Nat.zero_add, Nat.reduceAdd, Nat.reduceMul, Nat.reduceSub, Bool.and_true, Bool.true_and, Bool.and_self, beq_dec, fApp, Int.toNat_natCast, Nat.sub_zero, vmI, vc114, fCap]
    exact ⟨[], .nil encB_w (by omega), .refl, by simp [Nw]⟩
  · have z0 : (0 : Int) ≤ 0 := Int.le_refl 0
    simp (disch := omega) only [vm0, vm1, vm2, vm3, vm4, vm5, vm6, vm7, fPick, fBox, fBuild, fBsl, fLd, fLda, fSt, fNilc, fBin, fEq, fUn, fMkf, fFa, fFld, fFlda, fExt, evo, wr, wrC, frame, Bool.not_true, Bool.not_false, beq_self_eq_true, List.cons_append, List.nil_append, Nat.add_zero, Nat.zero_add, Nat.reduceAdd, Nat.reduceMul, Nat.reduceSub, Bool.and_true, Bool.true_and, Bool.and_self, beq_dec, fApp, Int.toNat_natCast, Nat.sub_zero, vmI, vc114, fCap, sv_nils, zr_s, fApz, rep_flat]
    refine op_app (.nil encB_w (by omega)) (by (repeat' (first | exact Fr.refl | assumption | apply Fr.new' | apply Fr.mk' | apply Fr.put')) <;> (first | omega | (left; simp; done) | (right; simp only [next_put, next_new, next_mk]; omega) | (simp only [next_put, next_new, next_mk]; omega))) (new := List.replicate m (0 : Int)) rfl (by simp) (by simp; omega) ?_
    intro v' s' fp' q1 q2 q3
    obtain ⟨u, g1, r1⟩ := cut0_ow q1 (by simp; omega)
    simp (disch := omega) only [vm0, vm1, vm2, vm3, vm4, vm5, vm6, vm7, fPick, fBox, fBuild, fBsl, fLd, fLda, fSt, fNilc, fBin, fEq, fUn, fMkf, fFa, fFld, fFlda, fExt, evo, wr, wrC, frame, Bool.not_true, Bool.not_false, beq_self_eq_true, List.cons_append, List.nil_append, Nat.add_zero, Nat.zero_add, Nat.reduceAdd, Nat.reduceMul, Nat.reduceSub, Bool.and_true, Bool.true_and, Bool.and_self, beq_dec, fApp, Int.toNat_natCast, Nat.sub_zero, vmI, g1]
    exact ⟨fp', r1, q2, q3⟩
theorem concatB (n : Nat) (s : St) (b : Nat) (ex : Bool) (u1 u2 : AV) (l1 l2 : List Int) (hv : RdE s (.sl b 0 2 2 ex 1) 1 encU [u1, u2]) (h1 : RdE s u1 1 encB l1) (h2 : RdE s u2 1 encB l2) (hl : l1.length + l2.length < 1000000) (hfu : 10 < fu) :
    OutOk (callF bd (tab h).get fu (n + 2) 85 [.sl b 0 2 2 ex 1] s) (fun x s' => ∃ fp, OwE s' x 1 encB (l1 ++ l2) fp ∧ Fr s s' [] ∧ Nw s [] fp) := by
  refine call_code (t85 h) rfl ?_
  obtain ⟨V, hV⟩ : ∃ V, AV.sl b 0 2 2 ex 1 = V := ⟨_, rfl⟩
  rw [hV] at hv ⊢
  have hlen : lenV V = some (num 2) := by rw [hv.lenV]; rfl
  have key : ∀ i : Nat, i < 2 → ∃ u l, [u1, u2][i]? = some u ∧ RdE s u 1 encB l ∧ [l1, l2][i]? = some l := by
    intro i hi
    match i, hi with
    | 0, _ => exact ⟨u1, l1, rfl, h1, rfl⟩
    | 1, _ => exact ⟨u2, l2, rfl, h2, rfl⟩
  simp (disch := omega) only [vm0, vm1, vm2, vm3, vm4, vm5, vm6, vm7, fPick, fBox, fBuild, fBsl, fLd, fLda, fSt, fNilc, fBin, fEq, fUn, fMkf, fFa, fFld, fFlda, fExt, evo, wr, wrC, frame, Bool.not_true, Bool.not_false, beq_self_eq_true, List.cons_append, List.nil_append, Nat.add_zero, Nat.zero_add, Nat.reduceAdd, Nat.reduceMul, Nat.reduceSub, Bool.and_true, Bool.true_and, Bool.and_self, beq_dec, fApp, Int.toNat_natCast, Nat.sub_zero, vmI, vc85, hlen]
  refine x_loop (fun k F s' => ∃ i : Nat, ∃ z x6 x8 x9, k = 2 - i ∧ i ≤ 2 ∧ z = (i : Int) ∧ F = [some V, some (num z), some (num ((([l1, l2].take i).flatten.length : Nat) : Int)), none, none, some (num 2), x6, some V, x8, x9, none, none, none, none, some .nils] ∧ s' = s) 2 (by omega) ?_ ?_
  · exact ⟨0, _, _, _, _, by omega, by omega, rfl, rfl, rfl⟩
  · rintro k F s0 ⟨i, _, x6, x8, x9, rfl, hi, rfl, rfl, rfl⟩ hk
    by_cases hlt : i < 2
    · obtain ⟨u, l, hu, hul, hl'⟩ := key i hlt
      have e1 := hv.ia hu
      have e2 := hv.at1 (f := fun u => u) hu
      have ht : ([l1, l2].take (i + 1)).flatten.length = ([l1, l2].take i).flatten.length + l.length := by rw [List.take_add_one, hl']; simp
      have htb : ([l1, l2].take (i + 1)).flatten.length ≤ l1.length + l2.length := by
        match i, hlt with
        | 0, _ => simp
        | 1, _ => simp
      simp (disch := omega) only [vm0, vm1, vm2, vm3, vm4, vm5, vm6, vm7, fPick, fBox, fBuild, fBsl, fLd, fLda, fSt, fNilc, fBin, fEq, fUn, fMkf, fFa, fFld, fFlda, fExt, evo, wr, wrC, frame, Bool.not_true, Bool.not_false, beq_self_eq_true, List.cons_append, List.nil_append, Nat.add_zero, Nat.zero_add, Nat.reduceAdd, Nat.reduceMul, Nat.reduceSub, Bool.and_true, Bool.true_and, Bool.and_self, beq_dec, fApp, Int.toNat_natCast, Nat.sub_zero, vmI, e1, e2, hul.lenV]
      exact ⟨2 - (i + 1), by omega, i + 1, (i : Int) + 1, _, _, _, rfl, by omega, by omega, by rw [ht, Int.natCast_add], rfl⟩
    · obtain rfl : i = 2 := by omega
      simp (disch := omega) only [vm0, vm1, vm2, vm3, vm4, vm5, vm6, vm7, fPick, fBox, fBuild, fBsl, fLd, fLda, fSt, fNilc, fBin, fEq, fUn, fMkf, fFa, fFld, fFlda, fExt, evo, wr, wrC, frame, Bool.not_true, Bool.not_false, beq_self_eq_true, List.cons_append, List.nil_append, Nat.add_zero, Nat.zero_add, Nat.reduceAdd, Nat.reduceMul, Nat.reduceSub, Bool.and_true, Bool.true_and, Bool.and_self, beq_dec, fApp, Int.toNat_natCast, Nat.sub_zero, vmI]
      refine call_ok rfl rfl (growB n s0 _ (by simp; omega)) ?_
      rintro x s1 ⟨fx, q1, q2, q3⟩
      simp (disch := omega) only [vm0, vm1, vm2, vm3, vm4, vm5, vm6, vm7, fPick, fBox, fBuild, fBsl, fLd, fLda, fSt, fNilc, fBin, fEq, fUn, fMkf, fFa, fFld, fFlda, fExt, evo, wr, wrC, frame, Bool.not_true, Bool.not_false, beq_self_eq_true, List.cons_append, List.nil_append, Nat.add_zero, Nat.zero_add, Nat.reduceAdd, Nat.reduceMul, Nat.reduceSub, Bool.and_true, Bool.true_and, Bool.and_self, beq_dec, fApp, Int.toNat_natCast, Nat.sub_zero, vmI, hlen]
      refine x_loop (fun k F s' => ∃ i : Nat, ∃ z x11 x13 vo fo, k = 2 - i ∧ i ≤ 2 ∧ z = (i : Int) ∧ F = [some V, some (num ((2 : Nat) : Int)), some (num ((([l1, l2].take 2).flatten.length : Nat) : Int)), some (num z), some vo, some (num 2), some (.bool false), some V, x8, x9, some (num 2), x11, some V, x13, some .nils] ∧ Fr s0 s' [] ∧ OwE s' vo 1 encB ([l1, l2].take i).flatten fo ∧ Nw s0 [] fo) 2 (by omega) ?_ ?_
      · exact ⟨0, _, _, _, _, fx, by omega, by omega, rfl, rfl, q2, by simpa using q1, q3⟩
      · rintro k F s2 ⟨i, _, x11, x13, vo, fo, rfl, hi, rfl, rfl, hf2, ho, hn⟩ hk
        by_cases hlt : i < 2
        · obtain ⟨u, l, hu, hul, hl'⟩ := key i hlt
          have hv2 := hv.fr0 hf2
          have hul2 := hul.fr0 hf2
          have e1 := hv2.ia hu
          have e2 := hv2.at1 (f := fun u => u) hu
          have ht : ([l1, l2].take (i + 1)).flatten = ([l1, l2].take i).flatten ++ l := by rw [List.take_add_one, hl']; simp
          have htb : ([l1, l2].take i).flatten.length + l.length ≤ l1.length + l2.length := by
            match i, hlt with
            | 0, _ => simp at hl'; subst hl'; simp
            | 1, _ => simp at hl'; subst hl'; simp
          simp (disch := omega) only [vm0, vm1, vm2, vm3, vm4, vm5, vm6, vm7, fPick, fBox, fBuild, fBsl, fLd, fLda, fSt, fNilc, fBin, fEq, fUn, fMkf, fFa, fFld, fFlda, fExt, evo, wr, wrC, frame, Bool.not_true, Bool.not_false, beq_self_eq_true, List.cons_append, List.nil_append, Nat.add_zero, Nat.zero_add, Nat.reduceAdd, Nat.reduceMul, Nat.reduceSub, Bool.and_true, Bool.true_and, Bool.and_self, beq_dec, fApp, Int.toNat_natCast, Nat.sub_zero, vmI, e1, e2, hul2.lenOf, hul2.cellsOf]
          refine op_app ho (by (repeat' (first | exact Fr.refl | assumption | apply Fr.new' | apply Fr.mk' | apply Fr.put')) <;> (first | omega | (left; simp; done) | (right; simp only [next_put, next_new, next_mk]; omega) | (simp only [next_put, next_new, next_mk]; omega))) (new := l) rfl rfl (by omega) ?_
          intro v' s3 fo' p1 p2 p3
          simp (disch := omega) only [vm0, vm1, vm2, vm3, vm4, vm5, vm6, vm7, fPick, fBox, fBuild, fBsl, fLd, fLda, fSt, fNilc, fBin, fEq, fUn, fMkf, fFa, fFld, fFlda, fExt, evo, wr, wrC, frame, Bool.not_true, Bool.not_false, beq_self_eq_true, List.cons_append, List.nil_append, Nat.add_zero, Nat.zero_add, Nat.reduceAdd, Nat.reduceMul, Nat.reduceSub, Bool.and_true, Bool.true_and, Bool.and_self, beq_dec, fApp, Int.toNat_natCast, Nat.sub_zero, vmI]
          exact ⟨2 - (i + 1), by omega, i + 1, (i : Int) + 1, _, _, _, fo', rfl, by omega, by omega, rfl, hf2.nn p2 hn, by rw [ht]; exact p1, hn.nn p3 hf2.1⟩
        · obtain rfl : i = 2 := by omega
          simp (disch := omega) only [vm0, vm1, vm2, vm3, vm4, vm5, vm6, vm7, fPick, fBox, fBuild, fBsl, fLd, fLda, fSt, fNilc, fBin, fEq, fUn, fMkf, fFa, fFld, fFlda, fExt, evo, wr, wrC, frame, Bool.not_true, Bool.not_false, beq_self_eq_true, List.cons_append, List.nil_append, Nat.add_zero, Nat.zero_add, Nat.reduceAdd, Nat.reduceMul, Nat.reduceSub, Bool.and_true, Bool.true_and, Bool.and_self, beq_dec, fApp, Int.toNat_natCast, Nat.sub_zero, vmI]
          exact ⟨fo, by simpa using ho, hf2, hn⟩
end
end Go.Proofs.Ytekhpohcjfjhfaa.ctr
namespace Go.Proofs.Ytekhpohcjfjhfaa.ctr
open Go.Vm Go.RowKit Go.Ranges
set_option linter.unusedVariables false
set_option linter.unusedSimpArgs false
/-- an outbox, behind its address -/
structure OB where
  b : List Int
  buffer : Int
  acked : Int
  closed : Bool
def IsO (s : St) (p : Nat) (o : OB) (fp : List Nat) : Prop := ∃ v fv, s.heap.get p = some (.cells [v, num o.buffer, num o.acked, .bool o.closed] .own) ∧ OwE s v 1 encB o.b fv ∧ p ∉ fv ∧ fp = p :: fv ∧ p < s.next
theorem IsO.fr {s s' : St} {p : Nat} {o : OB} {fp fp' : List Nat} (hF : IsO s p o fp) (hf : Fr s s' fp') (hd : ∀ b ∈ fp, b ∉ fp') : IsO s' p o fp := by
  obtain ⟨v, fv, h1, h2, h3, rfl, h5⟩ := hF
  exact ⟨v, fv, (hf.2 p h5 (hd p (by simp))).trans h1, h2.fr hf fun b hb => hd b (by simp [hb]), h3, rfl, Nat.lt_of_lt_of_le h5 hf.1⟩
theorem IsO.lt {s : St} {p : Nat} {o : OB} {fp : List Nat} (hF : IsO s p o fp) : Lt s fp := by
  obtain ⟨v, fv, h1, h2, h3, rfl, h5⟩ := hF
  intro b hb
  rcases List.mem_cons.1 hb with rfl | hb
  · exact h5
  · exact h2.lt b hb
def OB.places (o : OB) : Int := (o.b.length : Int) + (if o.closed then 1 else 0)
def OB.open_ (o : OB) (limit : Int) : Int := if (o.b.length : Int) ≤ limit then o.places else max 0 limit
def OB.room (o : OB) (n : Int) : Int := if o.closed then 0 else max 0 (min (min n (o.buffer - ((o.b.length : Int) - o.acked))) (4096 - (o.b.length : Int)))
def OB.write (o : OB) (l : List Int) : OB := { o with b := o.b ++ l.take (o.room l.length).toNat }
def OB.ackOk (o : OB) (n : Int) : Bool := decide (0 ≤ n) && decide (n ≤ o.places)
def OB.ack (o : OB) (n : Int) : OB := if o.ackOk n then { o with acked := max o.acked n } else o
/-- how far a piece goes -/
def pieceM (len : Int) (closed : Bool) (from_ to chunk : Int) : Int := if closed ∧ from_ = len then min to (from_ + 1) else if closed ∧ min to (from_ + chunk) = len ∧ min to (from_ + chunk) < to then min to (from_ + chunk) + 1 else min to (from_ + chunk)
section
variable {bd : Bd} {h : VF} {fu : Nat}
theorem o_new (n : Nat) (s : St) (k : Int) : OutOk (callF bd (tab h).get fu (n + 1) 33 [num k] s) (fun x s' => ∃ p, Is x (.ptr p 0) ∧ s.next ≤ p ∧ Fr s s' [] ∧ IsO s' p ⟨[], min (max k 1) 400, 0, false⟩ [p]) := by
  refine call_code (t33 h) rfl ?_
  simp (disch := omega) only [vm0, vm1, vm2, vm3, vm4, vm5, vm6, vm7, fPick, fBox, fBuild, fBsl, fLd, fLda, fSt, fNilc, fBin, fEq, fUn, fMkf, fFa, fFld, fFlda, fExt, evo, wr, wrC, frame, Bool.not_true, Bool.not_false, beq_self_eq_true, List.cons_append, List.nil_append, Nat.add_zero, Nat.zero_add, Nat.reduceAdd, Nat.reduceMul, Nat.reduceSub, Bool.and_true, Bool.true_and, Bool.and_self, beq_dec, fApp, Int.toNat_natCast, Nat.sub_zero, vmI, vc33]
  exact ⟨s.next, rfl, Nat.le_refl _, .new, .nils, [], get_new_eq rfl, .nil encB_w (by omega), by simp, rfl, by rw [next_new]; omega⟩
theorem o_closed (n : Nat) (s : St) (p : Nat) (o : OB) (fp : List Nat) (hF : IsO s p o fp) : OutOk (callF bd (tab h).get fu (n + 1) 115 [.ptr p 0] s) (fun x s' => Is x (.bool o.closed) ∧ Is s' s) := by
  refine call_code (t115 h) rfl ?_
  obtain ⟨v, fv, h1, h2, h3, rfl, h5⟩ := hF
  simp (disch := omega) only [vm0, vm1, vm2, vm3, vm4, vm5, vm6, vm7, fPick, fBox, fBuild, fBsl, fLd, fLda, fSt, fNilc, fBin, fEq, fUn, fMkf, fFa, fFld, fFlda, fExt, evo, wr, wrC, frame, Bool.not_true, Bool.not_false, beq_self_eq_true, List.cons_append, List.nil_append, Nat.add_zero, Nat.zero_add, Nat.reduceAdd, Nat.reduceMul, Nat.reduceSub, Bool.and_true, Bool.true_and, Bool.and_self, beq_dec, fApp, Int.toNat_natCast, Nat.sub_zero, vmI, vc115, h1]
  exact ⟨rfl, rfl⟩
theorem o_len (n : Nat) (s : St) (p : Nat) (o : OB) (fp : List Nat) (hF : IsO s p o fp) : OutOk (callF bd (tab h).get fu (n + 1) 95 [.ptr p 0] s) (fun x s' => Is x (num (o.b.length : Int)) ∧ Is s' s) := by
  refine call_code (t95 h) rfl ?_
  obtain ⟨v, fv, h1, h2, h3, rfl, h5⟩ := hF
  simp (disch := omega) only [vm0, vm1, vm2, vm3, vm4, vm5, vm6, vm7, fPick, fBox, fBuild, fBsl, fLd, fLda, fSt, fNilc, fBin, fEq, fUn, fMkf, fFa, fFld, fFlda, fExt, evo, wr, wrC, frame, Bool.not_true, Bool.not_false, beq_self_eq_true, List.cons_append, List.nil_append, Nat.add_zero, Nat.zero_add, Nat.reduceAdd, Nat.reduceMul, Nat.reduceSub, Bool.and_true, Bool.true_and, Bool.and_self, beq_dec, fApp, Int.toNat_natCast, Nat.sub_zero, vmI, vc95, h1, h2.rd.lenV]
  exact ⟨rfl, rfl⟩
theorem o_acked (n : Nat) (s : St) (p : Nat) (o : OB) (fp : List Nat) (hF : IsO s p o fp) : OutOk (callF bd (tab h).get fu (n + 1) 48 [.ptr p 0] s) (fun x s' => Is x (num o.acked) ∧ Is s' s) := by
  refine call_code (t48 h) rfl ?_
  obtain ⟨v, fv, h1, h2, h3, rfl, h5⟩ := hF
  simp (disch := omega) only [vm0, vm1, vm2, vm3, vm4, vm5, vm6, vm7, fPick, fBox, fBuild, fBsl, fLd, fLda, fSt, fNilc, fBin, fEq, fUn, fMkf, fFa, fFld, fFlda, fExt, evo, wr, wrC, frame, Bool.not_true, Bool.not_false, beq_self_eq_true, List.cons_append, List.nil_append, Nat.add_zero, Nat.zero_add, Nat.reduceAdd, Nat.reduceMul, Nat.reduceSub, Bool.and_true, Bool.true_and, Bool.and_self, beq_dec, fApp, Int.toNat_natCast, Nat.sub_zero, vmI, vc48, h1]
  exact ⟨rfl, rfl⟩
theorem o_places (n : Nat) (s : St) (p : Nat) (o : OB) (fp : List Nat) (hF : IsO s p o fp) (hl : o.b.length < 1000000) : OutOk (callF bd (tab h).get fu (n + 1) 49 [.ptr p 0] s) (fun x s' => Is x (num o.places) ∧ Is s' s) := by
  refine call_code (t49 h) rfl ?_
  obtain ⟨v, fv, h1, h2, h3, rfl, h5⟩ := hF
  cases hc : o.closed
  · simp (disch := omega) only [vm0, vm1, vm2, vm3, vm4, vm5, vm6, vm7, fPick, fBox, fBuild, fBsl, fLd, fLda, fSt, fNilc, fBin, fEq, fUn, fMkf, fFa, fFld, fFlda, fExt, evo, wr, wrC, frame, Bool.not_true, Bool.not_false, beq_self_eq_true, List.cons_append, List.nil_append, Nat.add_zero, Nat.zero_add, Nat.reduceAdd, Nat.reduceMul, Nat.reduceSub, Bool.and_true, Bool.true_and, Bool.and_self, beq_dec, fApp, Int.toNat_natCast, Nat.sub_zero, vmI, vc49, h1, hc, h2.rd.lenV]
    exact ⟨by show num _ = num _; simp [OB.places, hc], rfl⟩
  · simp (disch := omega) only [vm0, vm1, vm2, vm3, vm4, vm5, vm6, vm7, fPick, fBox, fBuild, fBsl, fLd, fLda, fSt, fNilc, fBin, fEq, fUn, fMkf, fFa, fFld, fFlda, fExt, evo, wr, wrC, frame, Bool.not_true, Bool.not_false, beq_self_eq_true, List.cons_append, List.nil_append, Nat.add_zero, Nat.zero_add, Nat.reduceAdd, Nat.reduceMul, Nat.reduceSub, Bool.and_true, Bool.true_and, Bool.and_self, beq_dec, fApp, Int.toNat_natCast, Nat.sub_zero, vmI, vc49, h1, hc, h2.rd.lenV]
    exact ⟨by show num _ = num _; simp [OB.places, hc], rfl⟩
theorem o_open (n : Nat) (s : St) (p : Nat) (o : OB) (fp : List Nat) (limit : Int) (hF : IsO s p o fp) (hl : o.b.length < 1000000) : OutOk (callF bd (tab h).get fu (n + 2) 87 [.ptr p 0, num limit] s) (fun x s' => Is x (num (o.open_ limit)) ∧ Is s' s) := by
  refine call_code (t87 h) rfl ?_
  have hF0 := hF
  obtain ⟨v, fv, h1, h2, h3, rfl, h5⟩ := hF
  by_cases hc : (o.b.length : Int) ≤ limit
  · simp (disch := omega) only [vm0, vm1, vm2, vm3, vm4, vm5, vm6, vm7, fPick, fBox, fBuild, fBsl, fLd, fLda, fSt, fNilc, fBin, fEq, fUn, fMkf, fFa, fFld, fFlda, fExt, evo, wr, wrC, frame, Bool.not_true, Bool.not_false, beq_self_eq_true, List.cons_append, List.nil_append, Nat.add_zero, Nat.zero_add, Nat.reduceAdd, Nat.reduceMul, Nat.reduceSub, Bool.and_true, Bool.true_and, Bool.and_self, beq_dec, fApp, Int.toNat_natCast, Nat.sub_zero, vmI, vc87, h1, h2.rd.lenV]
    refine call_ok rfl rfl (o_places n s p o _ hF0 hl) ?_
    rintro x s ⟨rfl, rfl⟩
    simp (disch := omega) only [vm0, vm1, vm2, vm3, vm4, vm5, vm6, vm7, fPick, fBox, fBuild, fBsl, fLd, fLda, fSt, fNilc, fBin, fEq, fUn, fMkf, fFa, fFld, fFlda, fExt, evo, wr, wrC, frame, Bool.not_true, Bool.not_false, beq_self_eq_true, List.cons_append, List.nil_append, Nat.add_zero, Nat.zero_add, Nat.reduceAdd, Nat.reduceMul, Nat.reduceSub, Bool.and_true, Bool.true_and, Bool.and_self, beq_dec, fApp, Int.toNat_natCast, Nat.sub_zero, vmI]
    exact ⟨by show num _ = num _; rw [OB.open_, if_pos hc], rfl⟩
  · simp (disch := omega) only [vm0, vm1, vm2, vm3, vm4, vm5, vm6, vm7, fPick, fBox, fBuild, fBsl, fLd, fLda, fSt, fNilc, fBin, fEq, fUn, fMkf, fFa, fFld, fFlda, fExt, evo, wr, wrC, frame, Bool.not_true, Bool.not_false, beq_self_eq_true, List.cons_append, List.nil_append, Nat.add_zero, Nat.zero_add, Nat.reduceAdd, Nat.reduceMul, Nat.reduceSub, Bool.and_true, Bool.true_and, Bool.and_self, beq_dec, fApp, Int.toNat_natCast, Nat.sub_zero, vmI, vc87, h1, h2.rd.lenV]
    exact ⟨by show num _ = num _; rw [OB.open_, if_neg hc], rfl⟩
theorem o_close (n : Nat) (s : St) (p : Nat) (o : OB) (fp : List Nat) (hF : IsO s p o fp) : OutOk (callF bd (tab h).get fu (n + 1) 35 [.ptr p 0] s) (fun x s' => Is x (.bool (!o.closed)) ∧ IsO s' p { o with closed := true } fp ∧ Fr s s' fp ∧ Is s'.next s.next) := by
  refine call_code (t35 h) rfl ?_
  obtain ⟨v, fv, h1, h2, h3, rfl, h5⟩ := hF
  simp (disch := omega) only [vm0, vm1, vm2, vm3, vm4, vm5, vm6, vm7, fPick, fBox, fBuild, fBsl, fLd, fLda, fSt, fNilc, fBin, fEq, fUn, fMkf, fFa, fFld, fFlda, fExt, evo, wr, wrC, frame, Bool.not_true, Bool.not_false, beq_self_eq_true, List.cons_append, List.nil_append, Nat.add_zero, Nat.zero_add, Nat.reduceAdd, Nat.reduceMul, Nat.reduceSub, Bool.and_true, Bool.true_and, Bool.and_self, beq_dec, fApp, Int.toNat_natCast, Nat.sub_zero, vmI, vc35, h1]
  exact ⟨rfl, ⟨v, fv, get_put_eq rfl, h2.fr (fp' := [p]) (.put (.inl (by simp))) (by rintro b hb hm; simp at hm; subst hm; exact h3 hb), h3, rfl, by rw [next_put]; exact h5⟩, .put (.inl (by simp)), rfl⟩
theorem o_ack (n : Nat) (s : St) (p : Nat) (o : OB) (fp : List Nat) (k : Int) (hF : IsO s p o fp) (hl : o.b.length < 1000000) : OutOk (callF bd (tab h).get fu (n + 2) 41 [.ptr p 0, num k] s) (fun x s' => Is x (.bool (o.ackOk k)) ∧ IsO s' p (o.ack k) fp ∧ Fr s s' fp ∧ Is s'.next s.next) := by
  refine call_code (t41 h) rfl ?_
  have hF0 := hF
  obtain ⟨v, fv, h1, h2, h3, rfl, h5⟩ := hF
  by_cases hk : k < 0
  · have hn : o.ackOk k = false := by simp [OB.ackOk]; omega
    simp (disch := omega) only [vm0, vm1, vm2, vm3, vm4, vm5, vm6, vm7, fPick, fBox, fBuild, fBsl, fLd, fLda, fSt, fNilc, fBin, fEq, fUn, fMkf, fFa, fFld, fFlda, fExt, evo, wr, wrC, frame, Bool.not_true, Bool.not_false, beq_self_eq_true, List.cons_append, List.nil_append, Nat.add_zero, Nat.zero_add, Nat.reduceAdd, Nat.reduceMul, Nat.reduceSub, Bool.and_true, Bool.true_and, Bool.and_self, beq_dec, fApp, Int.toNat_natCast, Nat.sub_zero, vmI, vc41]
    exact ⟨by rw [hn]; rfl, by rw [OB.ack, hn]; exact hF0, .refl, rfl⟩
  · simp (disch := omega) only [vm0, vm1, vm2, vm3, vm4, vm5, vm6, vm7, fPick, fBox, fBuild, fBsl, fLd, fLda, fSt, fNilc, fBin, fEq, fUn, fMkf, fFa, fFld, fFlda, fExt, evo, wr, wrC, frame, Bool.not_true, Bool.not_false, beq_self_eq_true, List.cons_append, List.nil_append, Nat.add_zero, Nat.zero_add, Nat.reduceAdd, Nat.reduceMul, Nat.reduceSub, Bool.and_true, Bool.true_and, Bool.and_self, beq_dec, fApp, Int.toNat_natCast, Nat.sub_zero, vmI, vc41]
    refine call_ok rfl rfl (o_places n s p o _ hF0 hl) ?_
    rintro x s ⟨rfl, rfl⟩
    by_cases hp : o.places < k
    · have hn : o.ackOk k = false := by simp [OB.ackOk]; omega
      simp (disch := omega) only [vm0, vm1, vm2, vm3, vm4, vm5, vm6, vm7, fPick, fBox, fBuild, fBsl, fLd, fLda, fSt, fNilc, fBin, fEq, fUn, fMkf, fFa, fFld, fFlda, fExt, evo, wr, wrC, frame, Bool.not_true, Bool.not_false, beq_self_eq_true, List.cons_append, List.nil_append, Nat.add_zero, Nat.zero_add, Nat.reduceAdd, Nat.reduceMul, Nat.reduceSub, Bool.and_true, Bool.true_and, Bool.and_self, beq_dec, fApp, Int.toNat_natCast, Nat.sub_zero, vmI]
      exact ⟨by rw [hn]; rfl, by rw [OB.ack, hn]; exact hF0, .refl, rfl⟩
    · have hn : o.ackOk k = true := by simp [OB.ackOk]; omega
      simp (disch := omega) only [vm0, vm1, vm2, vm3, vm4, vm5, vm6, vm7, fPick, fBox, fBuild, fBsl, fLd, fLda, fSt, fNilc, fBin, fEq, fUn, fMkf, fFa, fFld, fFlda, fExt, evo, wr, wrC, frame, Bool.not_true, Bool.not_false, beq_self_eq_true, List.cons_append, List.nil_append, Nat.add_zero, Nat.zero_add, Nat.reduceAdd, Nat.reduceMul, Nat.reduceSub, Bool.and_true, Bool.true_and, Bool.and_self, beq_dec, fApp, Int.toNat_natCast, Nat.sub_zero, vmI, h1]
      exact ⟨by rw [hn]; rfl, by rw [OB.ack, hn]; exact ⟨v, fv, get_put_eq rfl, h2.fr (fp' := [p]) (.put (.inl (by simp))) (by rintro b hb hm; simp at hm; subst hm; exact h3 hb), h3, rfl, by rw [next_put]; exact h5⟩, .put (.inl (by simp)), rfl⟩
theorem o_piece (n : Nat) (s : St) (p : Nat) (o : OB) (fp : List Nat) (from_ to chunk : Int) (hF : IsO s p o fp) (hl : o.b.length < 1000000) (hf : -1000000000 ≤ from_ ∧ from_ ≤ 10000000000000) (ht : -1000000000 ≤ to ∧ to ≤ 10000000000000) (hc : -1000000000 ≤ chunk ∧ chunk ≤ 1000000000) :
    OutOk (callF bd (tab h).get fu (n + 2) 86 [.ptr p 0, num from_, num to, num chunk] s) (fun x s' => Is x (num (pieceM o.b.length o.closed from_ to chunk)) ∧ Is s' s) := by
  refine call_code (t86 h) rfl ?_
  obtain ⟨m, hm⟩ : ∃ m, min to (from_ + chunk) = m := ⟨_, rfl⟩
  cases hcl : o.closed
  · simp (disch := omega) only [vm0, vm1, vm2, vm3, vm4, vm5, vm6, vm7, fPick, fBox, fBuild, fBsl, fLd, fLda, fSt, fNilc, fBin, fEq, fUn, fMkf, fFa, fFld, fFlda, fExt, evo, wr, wrC, frame, Bool.not_true, Bool.not_false, beq_self_eq_true, List.cons_append, List.nil_append, Nat.add_zero, Nat.zero_add, Nat.reduceAdd, Nat.reduceMul, Nat.reduceSub, Bool.and_true, Bool.true_and, Bool.and_self, beq_dec, fApp, Int.toNat_natCast, Nat.sub_zero, vmI, vc86, hm]
    refine call_ok rfl rfl (o_closed n s p o fp hF) ?_
    rintro x s ⟨rfl, rfl⟩
    simp (disch := omega) only [vm0, vm1, vm2, vm3, vm4, vm5, vm6, vm7, fPick, fBox, fBuild, fBsl, fLd, fLda, fSt, fNilc, fBin, fEq, fUn, fMkf, fFa, fFld, fFlda, fExt, evo, wr, wrC, frame, Bool.not_true, Bool.not_false, beq_self_eq_true, List.cons_append, List.nil_append, Nat.add_zero, Nat.zero_add, Nat.reduceAdd, Nat.reduceMul, Nat.reduceSub, Bool.and_true, Bool.true_and, Bool.and_self, beq_dec, fApp, Int.toNat_natCast, Nat.sub_zero, vmI, hcl]
    refine call_ok rfl rfl (o_closed n s p o fp hF) ?_
    rintro x s ⟨rfl, rfl⟩
    simp (disch := omega) only [vm0, vm1, vm2, vm3, vm4, vm5, vm6, vm7, fPick, fBox, fBuild, fBsl, fLd, fLda, fSt, fNilc, fBin, fEq, fUn, fMkf, fFa, fFld, fFlda, fExt, evo, wr, wrC, frame, Bool.not_true, Bool.not_false, beq_self_eq_true, List.cons_append, List.nil_append, Nat.add_zero, Nat.zero_add, Nat.reduceAdd, Nat.reduceMul, Nat.reduceSub, Bool.and_true, Bool.true_and, Bool.and_self, beq_dec, fApp, Int.toNat_natCast, Nat.sub_zero, vmI, hcl]
    exact ⟨by show num _ = num _; simp [pieceM, hm], rfl⟩
  · by_cases h1 : m = (o.b.length : Int)
    · by_cases h2 : m < to
      · simp (disch := omega) only [vm0, vm1, vm2, vm3, vm4, vm5, vm6, vm7, fPick, fBox, fBuild, fBsl, fLd, fLda, fSt, fNilc, fBin, fEq, fUn, fMkf, fFa, fFld, fFlda, fExt, evo, wr, wrC, frame, Bool.not_true, Bool.not_false, beq_self_eq_true, List.cons_append, List.nil_append, Nat.add_zero, Nat.zero_add, Nat.reduceAdd, Nat.reduceMul, Nat.reduceSub, Bool.and_true, Bool.true_and, Bool.and_self, beq_dec, fApp, Int.toNat_natCast, Nat.sub_zero, vmI, vc86, hm]
        refine call_ok rfl rfl (o_closed n s p o fp hF) ?_
        rintro x s ⟨rfl, rfl⟩
        simp (disch := omega) only [vm0, vm1, vm2, vm3, vm4, vm5, vm6, vm7, fPick, fBox, fBuild, fBsl, fLd, fLda, fSt, fNilc, fBin, fEq, fUn, fMkf, fFa, fFld, fFlda, fExt, evo, wr, wrC, frame, Bool.not_true, Bool.not_false, beq_self_eq_true, List.cons_append, List.nil_append, Nat.add_zero, Nat.zero_add, Nat.reduceAdd, Nat.reduceMul, Nat.reduceSub, Bool.and_true, Bool.true_and, Bool.and_self, beq_dec, fApp, Int.toNat_natCast, Nat.sub_zero, vmI, hcl]
        refine call_ok rfl rfl (o_len n s p o fp hF) ?_
        rintro x s ⟨rfl, rfl⟩
        simp (disch := omega) only [vm0, vm1, vm2, vm3, vm4, vm5, vm6, vm7, fPick, fBox, fBuild, fBsl, fLd, fLda, fSt, fNilc, fBin, fEq, fUn, fMkf, fFa, fFld, fFlda, fExt, evo, wr, wrC, frame, Bool.not_true, Bool.not_false, beq_self_eq_true, List.cons_append, List.nil_append, Nat.add_zero, Nat.zero_add, Nat.reduceAdd, Nat.reduceMul, Nat.reduceSub, Bool.and_true, Bool.true_and, Bool.and_self, beq_dec, fApp, Int.toNat_natCast, Nat.sub_zero, vmI]
        refine call_ok rfl rfl (o_closed n s p o fp hF) ?_
        rintro x s ⟨rfl, rfl⟩
        simp (disch := omega) only [vm0, vm1, vm2, vm3, vm4, vm5, vm6, vm7, fPick, fBox, fBuild, fBsl, fLd, fLda, fSt, fNilc, fBin, fEq, fUn, fMkf, fFa, fFld, fFlda, fExt, evo, wr, wrC, frame, Bool.not_true, Bool.not_false, beq_self_eq_true, List.cons_append, List.nil_append, Nat.add_zero, Nat.zero_add, Nat.reduceAdd, Nat.reduceMul, Nat.reduceSub, Bool.and_true, Bool.true_and, Bool.and_self, beq_dec, fApp, Int.toNat_natCast, Nat.sub_zero, vmI, hcl]
        refine call_ok rfl rfl (o_len n s p o fp hF) ?_
        rintro x s ⟨rfl, rfl⟩
        by_cases h3 : from_ = (o.b.length : Int)
        · simp (disch := omega) only [vm0, vm1, vm2, vm3, vm4, vm5, vm6, vm7, fPick, fBox, fBuild, fBsl, fLd, fLda, fSt, fNilc, fBin, fEq, fUn, fMkf, fFa, fFld, fFlda, fExt, evo, wr, wrC, frame, Bool.not_true, Bool.not_false, beq_self_eq_true, List.cons_append, List.nil_append, Nat.add_zero, Nat.zero_add, Nat.reduceAdd, Nat.reduceMul, Nat.reduceSub, Bool.and_true, Bool.true_and, Bool.and_self, beq_dec, fApp, Int.toNat_natCast, Nat.sub_zero, vmI]
          exact ⟨by show num _ = num _; rw [pieceM, if_pos ⟨rfl, h3⟩], rfl⟩
        · simp (disch := omega) only [vm0, vm1, vm2, vm3, vm4, vm5, vm6, vm7, fPick, fBox, fBuild, fBsl, fLd, fLda, fSt, fNilc, fBin, fEq, fUn, fMkf, fFa, fFld, fFlda, fExt, evo, wr, wrC, frame, Bool.not_true, Bool.not_false, beq_self_eq_true, List.cons_append, List.nil_append, Nat.add_zero, Nat.zero_add, Nat.reduceAdd, Nat.reduceMul, Nat.reduceSub, Bool.and_true, Bool.true_and, Bool.and_self, beq_dec, fApp, Int.toNat_natCast, Nat.sub_zero, vmI]
          exact ⟨by show num _ = num _; rw [pieceM, if_neg (by omega), hm, if_pos ⟨rfl, h1, h2⟩], rfl⟩
      · simp (disch := omega) only [vm0, vm1, vm2, vm3, vm4, vm5, vm6, vm7, fPick, fBox, fBuild, fBsl, fLd, fLda, fSt, fNilc, fBin, fEq, fUn, fMkf, fFa, fFld, fFlda, fExt, evo, wr, wrC, frame, Bool.not_true, Bool.not_false, beq_self_eq_true, List.cons_append, List.nil_append, Nat.add_zero, Nat.zero_add, Nat.reduceAdd, Nat.reduceMul, Nat.reduceSub, Bool.and_true, Bool.true_and, Bool.and_self, beq_dec, fApp, Int.toNat_natCast, Nat.sub_zero, vmI, vc86, hm]
        refine call_ok rfl rfl (o_closed n s p o fp hF) ?_
        rintro x s ⟨rfl, rfl⟩
        simp (disch := omega) only [vm0, vm1, vm2, vm3, vm4, vm5, vm6, vm7, fPick, fBox, fBuild, fBsl, fLd, fLda, fSt, fNilc, fBin, fEq, fUn, fMkf, fFa, fFld, fFlda, fExt, evo, wr, wrC, frame, Bool.not_true, Bool.not_false, beq_self_eq_true, List.cons_append, List.nil_append, Nat.add_zero, Nat.zero_add, Nat.reduceAdd, Nat.reduceMul, Nat.reduceSub, Bool.and_true, Bool.true_and, Bool.and_self, beq_dec, fApp, Int.toNat_natCast, Nat.sub_zero, vmI, hcl]
        refine call_ok rfl rfl (o_len n s p o fp hF) ?_
        rintro x s ⟨rfl, rfl⟩
        simp (disch := omega) only [vm0, vm1, vm2, vm3, vm4, vm5, vm6, vm7, fPick, fBox, fBuild, fBsl, fLd, fLda, fSt, fNilc, fBin, fEq, fUn, fMkf, fFa, fFld, fFlda, fExt, evo, wr, wrC, frame, Bool.not_true, Bool.not_false, beq_self_eq_true, List.cons_append, List.nil_append, Nat.add_zero, Nat.zero_add, Nat.reduceAdd, Nat.reduceMul, Nat.reduceSub, Bool.and_true, Bool.true_and, Bool.and_self, beq_dec, fApp, Int.toNat_natCast, Nat.sub_zero, vmI]
        refine call_ok rfl rfl (o_closed n s p o fp hF) ?_
        rintro x s ⟨rfl, rfl⟩
        simp (disch := omega) only [vm0, vm1, vm2, vm3, vm4, vm5, vm6, vm7, fPick, fBox, fBuild, fBsl, fLd, fLda, fSt, fNilc, fBin, fEq, fUn, fMkf, fFa, fFld, fFlda, fExt, evo, wr, wrC, frame, Bool.not_true, Bool.not_false, beq_self_eq_true, List.cons_append, List.nil_append, Nat.add_zero, Nat.zero_add, Nat.reduceAdd, Nat.reduceMul, Nat.reduceSub, Bool.and_true, Bool.true_and, Bool.and_self, beq_dec, fApp, Int.toNat_natCast, Nat.sub_zero, vmI, hcl]
        refine call_ok rfl rfl (o_len n s p o fp hF) ?_
        rintro x s ⟨rfl, rfl⟩
        by_cases h3 : from_ = (o.b.length : Int)
        · simp (disch := omega) only [vm0, vm1, vm2, vm3, vm4, vm5, vm6, vm7, fPick, fBox, fBuild, fBsl, fLd, fLda, fSt, fNilc, fBin, fEq, fUn, fMkf, fFa, fFld, fFlda, fExt, evo, wr, wrC, frame, Bool.not_true, Bool.not_false, beq_self_eq_true, List.cons_append, List.nil_append, Nat.add_zero, Nat.zero_add, Nat.reduceAdd, Nat.reduceMul, Nat.reduceSub, Bool.and_true, Bool.true_and, Bool.and_self, beq_dec, fApp, Int.toNat_natCast, Nat.sub_zero, vmI]
          exact ⟨by show num _ = num _; rw [pieceM, if_pos ⟨rfl, h3⟩], rfl⟩
        · simp (disch := omega) only [vm0, vm1, vm2, vm3, vm4, vm5, vm6, vm7, fPick, fBox, fBuild, fBsl, fLd, fLda, fSt, fNilc, fBin, fEq, fUn, fMkf, fFa, fFld, fFlda, fExt, evo, wr, wrC, frame, Bool.not_true, Bool.not_false, beq_self_eq_true, List.cons_append, List.nil_append, Nat.add_zero, Nat.zero_add, Nat.reduceAdd, Nat.reduceMul, Nat.reduceSub, Bool.and_true, Bool.true_and, Bool.and_self, beq_dec, fApp, Int.toNat_natCast, Nat.sub_zero, vmI]
          exact ⟨by show num _ = num _; rw [pieceM, if_neg (by omega), hm, if_neg (by omega)], rfl⟩
    · simp (disch := omega) only [vm0, vm1, vm2, vm3, vm4, vm5, vm6, vm7, fPick, fBox, fBuild, fBsl, fLd, fLda, fSt, fNilc, fBin, fEq, fUn, fMkf, fFa, fFld, fFlda, fExt, evo, wr, wrC, frame, Bool.not_true, Bool.not_false, beq_self_eq_true, List.cons_append, List.nil_append, Nat.add_zero, Nat.zero_add, Nat.reduceAdd, Nat.reduceMul, Nat.reduceSub, Bool.and_true, Bool.true_and, Bool.and_self, beq_dec, fApp, Int.toNat_natCast, Nat.sub_zero, vmI, vc86, hm]
      refine call_ok rfl rfl (o_closed n s p o fp hF) ?_
      rintro x s ⟨rfl, rfl⟩
      simp (disch := omega) only [vm0, vm1, vm2, vm3, vm4, vm5, vm6, vm7, fPick, fBox, fBuild, fBsl, fLd, fLda, fSt, fNilc, fBin, fEq, fUn, fMkf, fFa, fFld, fFlda, fExt, evo, wr, wrC, frame, Bool.not_true, Bool.not_false, beq_self_eq_true, List.cons_append, List.nil_append, Nat.add_zero, Nat.zero_add, Nat.reduceAdd, Nat.reduceMul, Nat.reduceSub, Bool.and_true, Bool.true_and, Bool.and_self, beq_dec, fApp, Int.toNat_natCast, Nat.sub_zero, vmI, hcl]
      refine call_ok rfl rfl (o_len n s p o fp hF) ?_
      rintro x s ⟨rfl, rfl⟩
      simp (disch := omega) only [vm0, vm1, vm2, vm3, vm4, vm5, vm6, vm7, fPick, fBox, fBuild, fBsl, fLd, fLda, fSt, fNilc, fBin, fEq, fUn, fMkf, fFa, fFld, fFlda, fExt, evo, wr, wrC, frame, Bool.not_true, Bool.not_false, beq_self_eq_true, List.cons_append, List.nil_append, Nat.add_zero, Nat.zero_add, Nat.reduceAdd, Nat.reduceMul, Nat.reduceSub, Bool.and_true, Bool.true_and, Bool.and_self, beq_dec, fApp, Int.toNat_natCast, Nat.sub_zero, vmI]
      refine call_ok rfl rfl (o_closed n s p o fp hF) ?_
      rintro x s ⟨rfl, rfl⟩
      simp (disch := omega) only [vm0, vm1, vm2, vm3, vm4, vm5, vm6, vm7, fPick, fBox, fBuild, fBsl, fLd, fLda, fSt, fNilc, fBin, fEq, fUn, fMkf, fFa, fFld, fFlda, fExt, evo, wr, wrC, frame, Bool.not_true, Bool.not_false, beq_self_eq_true, List.cons_append, List.nil_append, Nat.add_zero, Nat.zero_add, Nat.reduceAdd, Nat.reduceMul, Nat.reduceSub, Bool.and_true, Bool.true_and, Bool.and_self, beq_dec, fApp, Int.toNat_natCast, Nat.sub_zero, vmI, hcl]
      refine call_ok rfl rfl (o_len n s p o fp hF) ?_
      rintro x s ⟨rfl, rfl⟩
      by_cases h3 : from_ = (o.b.length : Int)
      · simp (disch := omega) only [vm0, vm1, vm2, vm3, vm4, vm5, vm6, vm7, fPick, fBox, fBuild, fBsl, fLd, fLda, fSt, fNilc, fBin, fEq, fUn, fMkf, fFa, fFld, fFlda, fExt, evo, wr, wrC, frame, Bool.not_true, Bool.not_false, beq_self_eq_true, List.cons_append, List.nil_append, Nat.add_zero, Nat.zero_add, Nat.reduceAdd, Nat.reduceMul, Nat.reduceSub, Bool.and_true, Bool.true_and, Bool.and_self, beq_dec, fApp, Int.toNat_natCast, Nat.sub_zero, vmI]
        exact ⟨by show num _ = num _; rw [pieceM, if_pos ⟨rfl, h3⟩], rfl⟩
      · simp (disch := omega) only [vm0, vm1, vm2, vm3, vm4, vm5, vm6, vm7, fPick, fBox, fBuild, fBsl, fLd, fLda, fSt, fNilc, fBin, fEq, fUn, fMkf, fFa, fFld, fFlda, fExt, evo, wr, wrC, frame, Bool.not_true, Bool.not_false, beq_self_eq_true, List.cons_append, List.nil_append, Nat.add_zero, Nat.zero_add, Nat.reduceAdd, Nat.reduceMul, Nat.reduceSub, Bool.and_true, Bool.true_and, Bool.and_self, beq_dec, fApp, Int.toNat_natCast, Nat.sub_zero, vmI]
        exact ⟨by show num _ = num _; rw [pieceM, if_neg (by omega), hm, if_neg (by omega)], rfl⟩
end
end Go.Proofs.Ytekhpohcjfjhfaa.ctr
namespace Go.Proofs.Ytekhpohcjfjhfaa.ctr
open Go.Vm Go.RowKit Go.Ranges
set_option linter.unusedVariables false
set_option linter.unusedSimpArgs false
section
variable {bd : Bd} {h : VF} {fu : Nat}
theorem o_write (n : Nat) (s : St) (p : Nat) (o : OB) (fp : List Nat) (v : AV) (l : List Int) (hF : IsO s p o fp) (hv : RdE s v 1 encB l) (hl : o.b.length < 100000) (hl2 : (l.length : Int) < 4611686018427387904) (hb : -1000000000 ≤ o.buffer ∧ o.buffer ≤ 1000000000) (ha : -1000000000 ≤ o.acked ∧ o.acked ≤ 1000000000) (hfu : 10 < fu) :
    OutOk (callF bd (tab h).get fu (n + 3) 34 [.ptr p 0, v] s) (fun x s' => ∃ fp', Is x (num (o.room l.length)) ∧ IsO s' p (o.write l) fp' ∧ Fr s s' fp ∧ Nw s fp fp') := by
  refine call_code (t34 h) rfl ?_
  have hF0 := hF
  obtain ⟨u, fv, h1, h2, h3, rfl, h5⟩ := hF
  cases hc : o.closed
  · simp (disch := omega) only [vm0, vm1, vm2, vm3, vm4, vm5, vm6, vm7, fPick, fBox, fBuild, fBsl, fLd, fLda, fSt, fNilc, fBin, fEq, fUn, fMkf, fFa, fFld, fFlda, fExt, evo, wr, wrC, frame, Bool.not_true, Bool.not_false, beq_self_eq_true, List.cons_append, List.nil_append, Nat.add_zero, Nat.zero_add, Nat.reduceAdd, Nat.reduceMul, Nat.reduceSub, Bool.and_true, Bool.true_and, Bool.and_self, beq_dec, fApp, Int.toNat_natCast, Nat.sub_zero, vmI, vc34, h1, hc]
    have e1 := hv.lenV
    have e2 := h2.rd.lenV
    simp (disch := omega) only [vm0, vm1, vm2, vm3, vm4, vm5, vm6, vm7, fPick, fBox, fBuild, fBsl, fLd, fLda, fSt, fNilc, fBin, fEq, fUn, fMkf, fFa, fFld, fFlda, fExt, evo, wr, wrC, frame, Bool.not_true, Bool.not_false, beq_self_eq_true, List.cons_append, List.nil_append, Nat.add_zero, Nat.zero_add, Nat.reduceAdd, Nat.reduceMul, Nat.reduceSub, Bool.and_true, Bool.true_and, Bool.and_self, beq_dec, fApp, Int.toNat_natCast, Nat.sub_zero, vmI, h1, e1, e2]
    obtain ⟨m, hm⟩ : ∃ m, min (min (l.length : Int) (o.buffer - ((o.b.length : Int) - o.acked))) (4096 - (o.b.length : Int)) = m := ⟨_, rfl⟩
    have hroom : o.room l.length = max 0 m := by rw [OB.room, hc, hm]; simp
    obtain ⟨w, g1, r1⟩ := hv.sliH (b := max 0 m) (by omega) (by omega)
    rw [hm, hroom]
    simp (disch := omega) only [vm0, vm1, vm2, vm3, vm4, vm5, vm6, vm7, fPick, fBox, fBuild, fBsl, fLd, fLda, fSt, fNilc, fBin, fEq, fUn, fMkf, fFa, fFld, fFlda, fExt, evo, wr, wrC, frame, Bool.not_true, Bool.not_false, beq_self_eq_true, List.cons_append, List.nil_append, Nat.add_zero, Nat.zero_add, Nat.reduceAdd, Nat.reduceMul, Nat.reduceSub, Bool.and_true, Bool.true_and, Bool.and_self, beq_dec, fApp, Int.toNat_natCast, Nat.sub_zero, vmI, h1, g1, h2.rd.cells, r1.cells]
    have hfa : Fr s ((St.mk s.heap (s.next + 1)).put s.next (some (.cells [u, w] .own))) [] := (by (repeat' (first | exact Fr.refl | assumption | apply Fr.new' | apply Fr.mk' | apply Fr.put')) <;> (first | omega | (left; simp; done) | (right; simp only [next_put, next_new, next_mk]; omega) | (simp only [next_put, next_new, next_mk]; omega)))
    have hU : RdE ((St.mk s.heap (s.next + 1)).put s.next (some (.cells [u, w] .own))) (.sl s.next 0 2 2 true 1) 1 encU [u, w] := by
      refine ⟨⟨⟨rfl, Nat.le_refl _⟩, rfl, ?_⟩, fun _ => rfl, by omega, by show s.next < _; rw [next_put]; show s.next < s.next + 1; omega⟩
      show ob (((St.mk s.heap (s.next + 1)).put s.next (some (.cells [u, w] .own))).heap.get s.next) (rdC 0 (2 * 1)) = _
      rw [get_put_eq rfl]; rfl
    have hcl : o.b.length + (l.take (max 0 m).toNat).length < 1000000 := by
      have h1 := List.length_take_le (max 0 m).toNat l
      have h2 : (max 0 m).toNat ≤ 4096 := by omega
      omega
    refine call_ok rfl rfl (concatB (n + 0) _ s.next true u w o.b (l.take (max 0 m).toNat) hU (h2.rd.fr0 hfa) (r1.fr0 hfa) hcl hfu) ?_
    rintro y s2 ⟨f2, q1, q2, q3⟩
    have hfr := hfa.trans q2 (fp2 := []) (by simp) (by simp)
    have hp2 := (hfr.get h5 (by simp)).trans h1
    simp (disch := omega) only [vm0, vm1, vm2, vm3, vm4, vm5, vm6, vm7, fPick, fBox, fBuild, fBsl, fLd, fLda, fSt, fNilc, fBin, fEq, fUn, fMkf, fFa, fFld, fFlda, fExt, evo, wr, wrC, frame, Bool.not_true, Bool.not_false, beq_self_eq_true, List.cons_append, List.nil_append, Nat.add_zero, Nat.zero_add, Nat.reduceAdd, Nat.reduceMul, Nat.reduceSub, Bool.and_true, Bool.true_and, Bool.and_self, beq_dec, fApp, Int.toNat_natCast, Nat.sub_zero, vmI, hp2, q1.cells]
    have hn2 : Nw s [] f2 := q3.le (by rw [next_put]; show s.next ≤ s.next + 1; omega)
    have hpf : p ∉ f2 := fun hm => by have := hn2 p hm; simp at this; omega
    refine ⟨p :: f2, rfl, ⟨y, f2, ?_, ?_, hpf, rfl, by rw [next_put]; exact Nat.lt_of_lt_of_le h5 hfr.1⟩, .put' (.inl (by simp)) (hfr.mono (by simp)), ?_⟩
    · rw [get_put_eq rfl]; rfl
    · rw [OB.write, hroom]
      exact q1.fr (fp' := [p]) (.put (.inl (by simp))) (by rintro b hb hm; simp at hm; subst hm; exact hpf hb)
    · intro b hb
      rcases List.mem_cons.1 hb with rfl | hb
      · exact .inl (by simp)
      · right; have := hn2 b hb; simpa using this
  · have hroom : ∀ k, o.room k = 0 := fun k => by rw [OB.room, hc]; simp
    simp (disch := omega) only [vm0, vm1, vm2, vm3, vm4, vm5, vm6, vm7, fPick, fBox, fBuild, fBsl, fLd, fLda, fSt, fNilc, fBin, fEq, fUn, fMkf, fFa, fFld, fFlda, fExt, evo, wr, wrC, frame, Bool.not_true, Bool.not_false, beq_self_eq_true, List.cons_append, List.nil_append, Nat.add_zero, Nat.zero_add, Nat.reduceAdd, Nat.reduceMul, Nat.reduceSub, Bool.and_true, Bool.true_and, Bool.and_self, beq_dec, fApp, Int.toNat_natCast, Nat.sub_zero, vmI, vc34, h1, hc]
    refine ⟨p :: fv, by rw [hroom]; rfl, ?_, .refl, .refl⟩
    rw [OB.write, hroom]
    simpa using hF0
/-- a plan, behind its address -/
def IsP (s : St) (p : Nat) (l : List R) (sent : Int) (fp : List Nat) : Prop := ∃ q fq, s.heap.get p = some (.cells [.ptr q 0, num sent] .own) ∧ IsS s q l fq ∧ p ∉ fq ∧ fp = p :: fq ∧ p < s.next
theorem IsP.fr {s s' : St} {p : Nat} {l : List R} {t : Int} {fp fp' : List Nat} (hF : IsP s p l t fp) (hf : Fr s s' fp') (hd : ∀ b ∈ fp, b ∉ fp') : IsP s' p l t fp := by
  obtain ⟨q, fq, h1, h2, h3, rfl, h5⟩ := hF
  exact ⟨q, fq, (hf.2 p h5 (hd p (by simp))).trans h1, h2.fr hf fun b hb => hd b (by simp [hb]), h3, rfl, Nat.lt_of_lt_of_le h5 hf.1⟩
theorem IsP.lt {s : St} {p : Nat} {l : List R} {t : Int} {fp : List Nat} (hF : IsP s p l t fp) : Lt s fp := by
  obtain ⟨q, fq, h1, h2, h3, rfl, h5⟩ := hF
  intro b hb
  rcases List.mem_cons.1 hb with rfl | hb
  · exact h5
  · exact h2.lt b hb
theorem p_new (n : Nat) (s : St) : OutOk (callF bd (tab h).get fu (n + 2) 32 [] s) (fun x s' => ∃ p fp, Is x (.ptr p 0) ∧ IsP s' p [] 0 fp ∧ Fr s s' [] ∧ Nw s [] fp) := by
  refine call_code (t32 h) rfl ?_
  simp (disch := omega) only [vm0, vm1, vm2, vm3, vm4, vm5, vm6, vm7, fPick, fBox, fBuild, fBsl, fLd, fLda, fSt, fNilc, fBin, fEq, fUn, fMkf, fFa, fFld, fFlda, fExt, evo, wr, wrC, frame, Bool.not_true, Bool.not_false, beq_self_eq_true, List.cons_append, List.nil_append, Nat.add_zero, Nat.zero_add, Nat.reduceAdd, Nat.reduceMul, Nat.reduceSub, Bool.and_true, Bool.true_and, Bool.and_self, beq_dec, fApp, Int.toNat_natCast, Nat.sub_zero, vmI, vc32]
  refine call_ok rfl rfl (s_new n s) ?_
  rintro x s1 ⟨q, rfl, hq, hf1, hS⟩
  simp (disch := omega) only [vm0, vm1, vm2, vm3, vm4, vm5, vm6, vm7, fPick, fBox, fBuild, fBsl, fLd, fLda, fSt, fNilc, fBin, fEq, fUn, fMkf, fFa, fFld, fFlda, fExt, evo, wr, wrC, frame, Bool.not_true, Bool.not_false, beq_self_eq_true, List.cons_append, List.nil_append, Nat.add_zero, Nat.zero_add, Nat.reduceAdd, Nat.reduceMul, Nat.reduceSub, Bool.and_true, Bool.true_and, Bool.and_self, beq_dec, fApp, Int.toNat_natCast, Nat.sub_zero, vmI]
  have hfa : Fr s1 (s1.new (.cells [.ptr q 0, num 0] .own)) [] := .new
  have hql := hS.lt q (by simp)
  refine ⟨s1.next, [s1.next, q], rfl, ⟨q, [q], get_new_eq rfl, hS.fr hfa (by simp), by simp; omega, rfl, by rw [next_new]; omega⟩, hf1.trans hfa (by simp) (by simp), ?_⟩
  intro b hb
  have := hf1.1
  simp at hb
  rcases hb with rfl | rfl <;> right <;> omega
theorem p_sent (n : Nat) (s : St) (p : Nat) (l : List R) (t : Int) (fp : List Nat) (hF : IsP s p l t fp) : OutOk (callF bd (tab h).get fu (n + 1) 37 [.ptr p 0] s) (fun x s' => Is x (num t) ∧ Is s' s) := by
  refine call_code (t37 h) rfl ?_
  obtain ⟨q, fq, h1, h2, h3, rfl, h5⟩ := hF
  simp (disch := omega) only [vm0, vm1, vm2, vm3, vm4, vm5, vm6, vm7, fPick, fBox, fBuild, fBsl, fLd, fLda, fSt, fNilc, fBin, fEq, fUn, fMkf, fFa, fFld, fFlda, fExt, evo, wr, wrC, frame, Bool.not_true, Bool.not_false, beq_self_eq_true, List.cons_append, List.nil_append, Nat.add_zero, Nat.zero_add, Nat.reduceAdd, Nat.reduceMul, Nat.reduceSub, Bool.and_true, Bool.true_and, Bool.and_self, beq_dec, fApp, Int.toNat_natCast, Nat.sub_zero, vmI, vc37, h1]
  exact ⟨rfl, rfl⟩
theorem p_missing (n : Nat) (s : St) (p : Nat) (l : List R) (t : Int) (fp : List Nat) (hF : IsP s p l t fp) (hl : l.length < 1000000) : OutOk (callF bd (tab h).get fu (n + 3) 40 [.ptr p 0] s) (fun x s' => ∃ fp', OwE s' x 2 encR l fp' ∧ Fr s s' [] ∧ Nw s [] fp') := by
  refine call_code (t40 h) rfl ?_
  obtain ⟨q, fq, h1, h2, h3, rfl, h5⟩ := hF
  simp (disch := omega) only [vm0, vm1, vm2, vm3, vm4, vm5, vm6, vm7, fPick, fBox, fBuild, fBsl, fLd, fLda, fSt, fNilc, fBin, fEq, fUn, fMkf, fFa, fFld, fFlda, fExt, evo, wr, wrC, frame, Bool.not_true, Bool.not_false, beq_self_eq_true, List.cons_append, List.nil_append, Nat.add_zero, Nat.zero_add, Nat.reduceAdd, Nat.reduceMul, Nat.reduceSub, Bool.and_true, Bool.true_and, Bool.and_self, beq_dec, fApp, Int.toNat_natCast, Nat.sub_zero, vmI, vc40, h1]
  refine call_ok rfl rfl (s_all n s q l fq h2 hl) ?_
  rintro x s' ⟨f, q1, q2, q3⟩
  simp (disch := omega) only [vm0, vm1, vm2, vm3, vm4, vm5, vm6, vm7, fPick, fBox, fBuild, fBsl, fLd, fLda, fSt, fNilc, fBin, fEq, fUn, fMkf, fFa, fFld, fFlda, fExt, evo, wr, wrC, frame, Bool.not_true, Bool.not_false, beq_self_eq_true, List.cons_append, List.nil_append, Nat.add_zero, Nat.zero_add, Nat.reduceAdd, Nat.reduceMul, Nat.reduceSub, Bool.and_true, Bool.true_and, Bool.and_self, beq_dec, fApp, Int.toNat_natCast, Nat.sub_zero, vmI]
  exact ⟨f, q1, q2, q3⟩
def addC (f t : Int) (l : List R) : List R := if max 0 f < min t far then Ranges.addR (max 0 f) (min t far) l else l
def cutC (f t : Int) (l : List R) : List R := if max 0 f < min t far then cutR (max 0 f) (min t far) l else l
theorem addC_wf {f t : Int} {l : List R} (hw : WFr 0 l) : WFr 0 (addC f t l) := by
  unfold addC
  split
  · exact addR_wf hw (by omega) (by assumption) (by omega)
  · exact hw
theorem cutC_wf {f t : Int} {l : List R} (hw : WFr 0 l) : WFr 0 (cutC f t l) := by
  unfold cutC
  split
  · exact cutR_wf hw (by assumption)
  · exact hw
theorem IsP.set {s s' : St} {p q : Nat} {l l' : List R} {t : Int} {fq fq' : List Nat} (h1 : s.heap.get p = some (.cells [.ptr q 0, num t] .own)) (h3 : p ∉ fq) (h5 : p < s.next) (hS : IsS s' q l' fq') (hf : Fr s s' fq) (hn : Nw s fq fq') : IsP s' p l' t (p :: fq') ∧ Fr s s' (p :: fq) ∧ Nw s (p :: fq) (p :: fq') :=
  ⟨⟨q, fq', (hf.get h5 h3).trans h1, hS, hn.not h3 h5, rfl, Nat.lt_of_lt_of_le h5 hf.1⟩, hf.mono (fun b hb _ => by simp [hb]), hn.cons (Nat.le_refl _)⟩
theorem p_lost (hs : SortOk h) (n : Nat) (s : St) (p : Nat) (l : List R) (t : Int) (fp : List Nat) (a b : Int) (hF : IsP s p l t fp) (hw : WFr 0 l) (hlen : l.length < fu) (hl : l.length < 100000) : OutOk (callF bd (tab h).get fu (n + 3) 39 [.ptr p 0, num a, num b] s) (fun x s' => ∃ fp', IsP s' p (addC a b l) t fp' ∧ Fr s s' fp ∧ Nw s fp fp') := by
  refine call_code (t39 h) rfl ?_
  obtain ⟨q, fq, h1, h2, h3, rfl, h5⟩ := hF
  simp (disch := omega) only [vm0, vm1, vm2, vm3, vm4, vm5, vm6, vm7, fPick, fBox, fBuild, fBsl, fLd, fLda, fSt, fNilc, fBin, fEq, fUn, fMkf, fFa, fFld, fFlda, fExt, evo, wr, wrC, frame, Bool.not_true, Bool.not_false, beq_self_eq_true, List.cons_append, List.nil_append, Nat.add_zero, Nat.zero_add, Nat.reduceAdd, Nat.reduceMul, Nat.reduceSub, Bool.and_true, Bool.true_and, Bool.and_self, beq_dec, fApp, Int.toNat_natCast, Nat.sub_zero, vmI, vc39, h1]
  refine call_ok rfl rfl (s_add hs n s q l fq a b h2 hw hlen hl) ?_
  rintro x s' ⟨f, q1, q2, q3⟩
  simp (disch := omega) only [vm0, vm1, vm2, vm3, vm4, vm5, vm6, vm7, fPick, fBox, fBuild, fBsl, fLd, fLda, fSt, fNilc, fBin, fEq, fUn, fMkf, fFa, fFld, fFlda, fExt, evo, wr, wrC, frame, Bool.not_true, Bool.not_false, beq_self_eq_true, List.cons_append, List.nil_append, Nat.add_zero, Nat.zero_add, Nat.reduceAdd, Nat.reduceMul, Nat.reduceSub, Bool.and_true, Bool.true_and, Bool.and_self, beq_dec, fApp, Int.toNat_natCast, Nat.sub_zero, vmI]
  obtain ⟨r1, r2, r3⟩ := IsP.set (l := l) h1 h3 h5 q1 q2 q3
  exact ⟨_, r1, r2, r3⟩
end
end Go.Proofs.Ytekhpohcjfjhfaa.ctr
namespace Go.Proofs.Ytekhpohcjfjhfaa.ctr
open Go.Vm Go.RowKit Go.Ranges
set_option linter.unusedVariables false
set_option linter.unusedSimpArgs false
/-- what Next answers -/
structure NX where
  l : List R
  t : Int
  a : Int
  b : Int
  ok : Bool
def clampC (c : Int) : Int := min (max c 1) 64
def nextP (o : OB) (limit chunk : Int) (l : List R) (t : Int) : NX :=
  if cutC 0 o.acked l = [] then
    if o.open_ limit ≤ t then ⟨[], t, 0, 0, false⟩ else ⟨[], pieceM o.b.length o.closed t (o.open_ limit) (clampC chunk), t, pieceM o.b.length o.closed t (o.open_ limit) (clampC chunk), true⟩
  else
    ⟨cutC ((cutC 0 o.acked l).headD (0, 0)).1 (pieceM o.b.length o.closed ((cutC 0 o.acked l).headD (0, 0)).1 ((cutC 0 o.acked l).headD (0, 0)).2 (clampC chunk)) (cutC 0 o.acked l), t, ((cutC 0 o.acked l).headD (0, 0)).1, pieceM o.b.length o.closed ((cutC 0 o.acked l).headD (0, 0)).1 ((cutC 0 o.acked l).headD (0, 0)).2 (clampC chunk), true⟩
theorem cutC_len {f t : Int} (l : List R) : (cutC f t l).length ≤ 2 * l.length := by
  unfold cutC
  split
  · exact cutR_len l
  · omega
theorem OB.places_bd {o : OB} : 0 ≤ o.places ∧ o.places ≤ (o.b.length : Int) + 1 := by
  unfold OB.places
  split <;> omega
theorem OB.open_bd {o : OB} {limit : Int} : 0 ≤ o.open_ limit ∧ o.open_ limit ≤ (o.b.length : Int) + 1 := by
  have := o.places_bd
  unfold OB.open_
  split <;> omega
section
variable {bd : Bd} {h : VF} {fu : Nat}
theorem p_next (n : Nat) (s : St) (p q : Nat) (l : List R) (t : Int) (o : OB) (fp fo : List Nat) (limit chunk : Int) (hF : IsP s p l t fp) (hO : IsO s q o fo) (hd : ∀ b ∈ fo, b ∉ fp) (hw : WFr 0 l) (hlen : 2 * l.length < fu) (hfu : 10 < fu) (hl : l.length < 40000) (hb : o.b.length < 1000000) (hL : -1000000000 ≤ limit ∧ limit ≤ 1000000000) (ht : 0 ≤ t ∧ t ≤ 1000000000) :
    OutOk (callF bd (tab h).get fu (n + 3) 36 [.ptr p 0, .ptr q 0, num limit, num chunk] s) (fun x s' => ∃ fp', Is x (.tup [num (nextP o limit chunk l t).a, num (nextP o limit chunk l t).b, .bool (nextP o limit chunk l t).ok]) ∧ IsP s' p (nextP o limit chunk l t).l (nextP o limit chunk l t).t fp' ∧ Fr s s' fp ∧ Nw s fp fp') := by
  refine call_code (t36 h) rfl ?_
  obtain ⟨u, fq, h1, h2, h3, rfl, h5⟩ := hF
  obtain ⟨m, hm⟩ : ∃ m, min (max chunk 1) 64 = m := ⟨_, rfl⟩
  have hcm : clampC chunk = m := hm
  simp (disch := omega) only [vm0, vm1, vm2, vm3, vm4, vm5, vm6, vm7, fPick, fBox, fBuild, fBsl, fLd, fLda, fSt, fNilc, fBin, fEq, fUn, fMkf, fFa, fFld, fFlda, fExt, evo, wr, wrC, frame, Bool.not_true, Bool.not_false, beq_self_eq_true, List.cons_append, List.nil_append, Nat.add_zero, Nat.zero_add, Nat.reduceAdd, Nat.reduceMul, Nat.reduceSub, Bool.and_true, Bool.true_and, Bool.and_self, beq_dec, fApp, Int.toNat_natCast, Nat.sub_zero, vmI, vc36, h1, hm]
  refine call_ok rfl rfl (o_acked (n + 1) s q o fo hO) ?_
  rintro x s ⟨rfl, rfl⟩
  simp (disch := omega) only [vm0, vm1, vm2, vm3, vm4, vm5, vm6, vm7, fPick, fBox, fBuild, fBsl, fLd, fLda, fSt, fNilc, fBin, fEq, fUn, fMkf, fFa, fFld, fFlda, fExt, evo, wr, wrC, frame, Bool.not_true, Bool.not_false, beq_self_eq_true, List.cons_append, List.nil_append, Nat.add_zero, Nat.zero_add, Nat.reduceAdd, Nat.reduceMul, Nat.reduceSub, Bool.and_true, Bool.true_and, Bool.and_self, beq_dec, fApp, Int.toNat_natCast, Nat.sub_zero, vmI]
  refine call_ok rfl rfl (s_cut n s u l fq 0 o.acked h2 hw (by omega) hfu (by omega)) ?_
  rintro x s1 ⟨f1, q1, q2, q3⟩
  obtain ⟨l1, hl1⟩ : ∃ l1, cutC 0 o.acked l = l1 := ⟨_, rfl⟩
  have hq1 : IsS s1 u l1 f1 := by rw [← hl1]; exact q1
  have hw1 : WFr 0 l1 := by rw [← hl1]; exact cutC_wf hw
  have hlen1 : l1.length ≤ 2 * l.length := by rw [← hl1]; exact cutC_len l
  have g1 := (q2.get h5 h3).trans h1
  have g5 : p < s1.next := Nat.lt_of_lt_of_le h5 q2.1
  have g3 : p ∉ f1 := q3.not h3 h5
  simp (disch := omega) only [vm0, vm1, vm2, vm3, vm4, vm5, vm6, vm7, fPick, fBox, fBuild, fBsl, fLd, fLda, fSt, fNilc, fBin, fEq, fUn, fMkf, fFa, fFld, fFlda, fExt, evo, wr, wrC, frame, Bool.not_true, Bool.not_false, beq_self_eq_true, List.cons_append, List.nil_append, Nat.add_zero, Nat.zero_add, Nat.reduceAdd, Nat.reduceMul, Nat.reduceSub, Bool.and_true, Bool.true_and, Bool.and_self, beq_dec, fApp, Int.toNat_natCast, Nat.sub_zero, vmI, h1, g1]
  refine call_ok rfl rfl (s_first (n + 1) s1 u l1 f1 hq1) ?_
  rintro x s2 ⟨rfl, q4⟩
  have hq2 : IsS s2 u l1 f1 := hq1.fr q4 (by simp)
  have hs2 : Fr s s2 fq := q2.trans q4 (fun b hb _ => hb) (by simp)
  have g1' := (hs2.get h5 h3).trans h1
  cases l1 with
  | nil =>
    simp only [List.headD_nil, List.isEmpty_nil, Bool.not_true, encR]
    simp (disch := omega) only [vm0, vm1, vm2, vm3, vm4, vm5, vm6, vm7, fPick, fBox, fBuild, fBsl, fLd, fLda, fSt, fNilc, fBin, fEq, fUn, fMkf, fFa, fFld, fFlda, fExt, evo, wr, wrC, frame, Bool.not_true, Bool.not_false, beq_self_eq_true, List.cons_append, List.nil_append, Nat.add_zero, Nat.zero_add, Nat.reduceAdd, Nat.reduceMul, Nat.reduceSub, Bool.and_true, Bool.true_and, Bool.and_self, beq_dec, fApp, Int.toNat_natCast, Nat.sub_zero, vmI]
    obtain ⟨s3, e3⟩ : ∃ s3, (s2.new (.cells [.int .i64 (.c 0), .int .i64 (.c 0)] .own)).put s2.next (some (.cells [num 0, num 0] .own)) = s3 := ⟨_, rfl⟩
    have f3 : Fr s2 s3 [] := by rw [← e3]; exact (by (repeat' (first | exact Fr.refl | assumption | apply Fr.new' | apply Fr.mk' | apply Fr.put')) <;> (first | omega | (left; simp; done) | (right; simp only [next_put, next_new, next_mk]; omega) | (simp only [next_put, next_new, next_mk]; omega)))
    have c3 : s3.heap.get s2.next = some (.cells [num 0, num 0] .own) := by rw [← e3]; exact get_put_eq rfl
    have n3 : s3.next = s2.next + 1 := by rw [← e3, next_put, next_new]
    rw [e3]
    have hs3 : Fr s s3 fq := hs2.trans f3 (fun b hb _ => hb) (by simp)
    have hq3 : IsS s3 u _ f1 := hq2.fr f3 (by simp)
    have g3' := (hs3.get h5 h3).trans h1
    have hO3 : IsO s3 q o fo := hO.fr hs3 (fun b hb hm => hd b hb (by simp [hm]))
    simp (disch := omega) only [vm0, vm1, vm2, vm3, vm4, vm5, vm6, vm7, fPick, fBox, fBuild, fBsl, fLd, fLda, fSt, fNilc, fBin, fEq, fUn, fMkf, fFa, fFld, fFlda, fExt, evo, wr, wrC, frame, Bool.not_true, Bool.not_false, beq_self_eq_true, List.cons_append, List.nil_append, Nat.add_zero, Nat.zero_add, Nat.reduceAdd, Nat.reduceMul, Nat.reduceSub, Bool.and_true, Bool.true_and, Bool.and_self, beq_dec, fApp, Int.toNat_natCast, Nat.sub_zero, vmI, g3']
    refine call_ok rfl rfl (o_open n s3 q o fo limit hO3 hb) ?_
    rintro x s3 ⟨rfl, rfl⟩
    obtain ⟨z, hz⟩ : ∃ z, o.open_ limit = z := ⟨_, rfl⟩
    have hzb := o.open_bd (limit := limit)
    rw [hz] at hzb
    rw [hz]
    by_cases hc : z ≤ t
    · simp (disch := omega) only [vm0, vm1, vm2, vm3, vm4, vm5, vm6, vm7, fPick, fBox, fBuild, fBsl, fLd, fLda, fSt, fNilc, fBin, fEq, fUn, fMkf, fFa, fFld, fFlda, fExt, evo, wr, wrC, frame, Bool.not_true, Bool.not_false, beq_self_eq_true, List.cons_append, List.nil_append, Nat.add_zero, Nat.zero_add, Nat.reduceAdd, Nat.reduceMul, Nat.reduceSub, Bool.and_true, Bool.true_and, Bool.and_self, beq_dec, fApp, Int.toNat_natCast, Nat.sub_zero, vmI]
      have hN : nextP o limit chunk l t = ⟨[], t, 0, 0, false⟩ := by unfold nextP; rw [hl1, hz, if_pos rfl, if_pos hc]
      rw [hN]
      obtain ⟨r1, r2, r3⟩ := IsP.set (l := l) h1 h3 h5 hq3 hs3 q3
      exact ⟨p :: f1, rfl, r1, r2, r3⟩
    · simp (disch := omega) only [vm0, vm1, vm2, vm3, vm4, vm5, vm6, vm7, fPick, fBox, fBuild, fBsl, fLd, fLda, fSt, fNilc, fBin, fEq, fUn, fMkf, fFa, fFld, fFlda, fExt, evo, wr, wrC, frame, Bool.not_true, Bool.not_false, beq_self_eq_true, List.cons_append, List.nil_append, Nat.add_zero, Nat.zero_add, Nat.reduceAdd, Nat.reduceMul, Nat.reduceSub, Bool.and_true, Bool.true_and, Bool.and_self, beq_dec, fApp, Int.toNat_natCast, Nat.sub_zero, vmI, g3']
      refine call_ok rfl rfl (o_open n s3 q o fo limit hO3 hb) ?_
      rintro x s3 ⟨rfl, rfl⟩
      rw [hz]
      simp (disch := omega) only [vm0, vm1, vm2, vm3, vm4, vm5, vm6, vm7, fPick, fBox, fBuild, fBsl, fLd, fLda, fSt, fNilc, fBin, fEq, fUn, fMkf, fFa, fFld, fFlda, fExt, evo, wr, wrC, frame, Bool.not_true, Bool.not_false, beq_self_eq_true, List.cons_append, List.nil_append, Nat.add_zero, Nat.zero_add, Nat.reduceAdd, Nat.reduceMul, Nat.reduceSub, Bool.and_true, Bool.true_and, Bool.and_self, beq_dec, fApp, Int.toNat_natCast, Nat.sub_zero, vmI]
      refine call_ok rfl rfl (o_piece n s3 q o fo t z m hO3 hb (by omega) (by omega) (by omega)) ?_
      rintro x s3 ⟨rfl, rfl⟩
      simp (disch := omega) only [vm0, vm1, vm2, vm3, vm4, vm5, vm6, vm7, fPick, fBox, fBuild, fBsl, fLd, fLda, fSt, fNilc, fBin, fEq, fUn, fMkf, fFa, fFld, fFlda, fExt, evo, wr, wrC, frame, Bool.not_true, Bool.not_false, beq_self_eq_true, List.cons_append, List.nil_append, Nat.add_zero, Nat.zero_add, Nat.reduceAdd, Nat.reduceMul, Nat.reduceSub, Bool.and_true, Bool.true_and, Bool.and_self, beq_dec, fApp, Int.toNat_natCast, Nat.sub_zero, vmI, g3']
      have hN : nextP o limit chunk l t = ⟨[], pieceM o.b.length o.closed t z m, t, pieceM o.b.length o.closed t z m, true⟩ := by unfold nextP; rw [hl1, hz, hcm, if_pos rfl, if_neg hc]
      rw [hN]
      refine ⟨p :: f1, rfl, ⟨u, f1, get_put_eq rfl, hq3.fr (fp' := [p]) (.put (.inl (by simp))) (by rintro b hb hm; simp at hm; subst hm; exact g3 hb), g3, rfl, by rw [next_put]; exact Nat.lt_of_lt_of_le h5 hs3.1⟩, .put' (.inl (by simp)) (hs3.mono (fun b hb _ => by simp [hb])), q3.cons (Nat.le_refl _)⟩
  | cons r l1 =>
    obtain ⟨a, b⟩ := r
    simp only [List.headD_cons, List.isEmpty_cons, Bool.not_false, encR]
    simp (disch := omega) only [vm0, vm1, vm2, vm3, vm4, vm5, vm6, vm7, fPick, fBox, fBuild, fBsl, fLd, fLda, fSt, fNilc, fBin, fEq, fUn, fMkf, fFa, fFld, fFlda, fExt, evo, wr, wrC, frame, Bool.not_true, Bool.not_false, beq_self_eq_true, List.cons_append, List.nil_append, Nat.add_zero, Nat.zero_add, Nat.reduceAdd, Nat.reduceMul, Nat.reduceSub, Bool.and_true, Bool.true_and, Bool.and_self, beq_dec, fApp, Int.toNat_natCast, Nat.sub_zero, vmI]
    obtain ⟨s3, e3⟩ : ∃ s3, (s2.new (.cells [.int .i64 (.c 0), .int .i64 (.c 0)] .own)).put s2.next (some (.cells [num a, num b] .own)) = s3 := ⟨_, rfl⟩
    have f3 : Fr s2 s3 [] := by rw [← e3]; exact (by (repeat' (first | exact Fr.refl | assumption | apply Fr.new' | apply Fr.mk' | apply Fr.put')) <;> (first | omega | (left; simp; done) | (right; simp only [next_put, next_new, next_mk]; omega) | (simp only [next_put, next_new, next_mk]; omega)))
    have c3 : s3.heap.get s2.next = some (.cells [num a, num b] .own) := by rw [← e3]; exact get_put_eq rfl
    have n3 : s3.next = s2.next + 1 := by rw [← e3, next_put, next_new]
    rw [e3]
    have hs3 : Fr s s3 fq := hs2.trans f3 (fun b hb _ => hb) (by simp)
    have hq3 : IsS s3 u _ f1 := hq2.fr f3 (by simp)
    have g3' := (hs3.get h5 h3).trans h1
    have hO3 : IsO s3 q o fo := hO.fr hs3 (fun b hb hm => hd b hb (by simp [hm]))
    have hlb := hw1.lb (a, b) (by simp)
    simp only [far] at hlb
    refine call_ok rfl rfl (o_piece n s3 q o fo a b m hO3 hb (by omega) (by omega) (by omega)) ?_
    rintro x s3 ⟨rfl, rfl⟩
    simp (disch := omega) only [vm0, vm1, vm2, vm3, vm4, vm5, vm6, vm7, fPick, fBox, fBuild, fBsl, fLd, fLda, fSt, fNilc, fBin, fEq, fUn, fMkf, fFa, fFld, fFlda, fExt, evo, wr, wrC, frame, Bool.not_true, Bool.not_false, beq_self_eq_true, List.cons_append, List.nil_append, Nat.add_zero, Nat.zero_add, Nat.reduceAdd, Nat.reduceMul, Nat.reduceSub, Bool.and_true, Bool.true_and, Bool.and_self, beq_dec, fApp, Int.toNat_natCast, Nat.sub_zero, vmI, g3', c3]
    obtain ⟨z, hz⟩ : ∃ z, pieceM o.b.length o.closed a b m = z := ⟨_, rfl⟩
    rw [hz]
    simp only [List.length_cons] at hlen1
    refine call_ok rfl rfl (s_cut n s3 u ((a, b) :: l1) f1 a z hq3 hw1 (by simp only [List.length_cons]; omega) hfu (by simp only [List.length_cons]; omega)) ?_
    rintro x s4 ⟨f4, q5, q6, q7⟩
    have hf4 : Nw s fq f4 := fun b hb => (q7 b hb).elim (fun h => q3 b h) (fun h => .inr (Nat.le_trans hs3.1 h))
    have hs4 : Fr s s4 fq := hs3.trans q6 (fun b hb _ => hb) (fun b hb hlt => (q3 b hb).resolve_right (by omega))
    have hc4 := (q6.get (show s2.next < s3.next by omega) (fun hm => by have := hq1.lt _ hm; have := q4.1; omega)).trans c3
    simp (disch := omega) only [vm0, vm1, vm2, vm3, vm4, vm5, vm6, vm7, fPick, fBox, fBuild, fBsl, fLd, fLda, fSt, fNilc, fBin, fEq, fUn, fMkf, fFa, fFld, fFlda, fExt, evo, wr, wrC, frame, Bool.not_true, Bool.not_false, beq_self_eq_true, List.cons_append, List.nil_append, Nat.add_zero, Nat.zero_add, Nat.reduceAdd, Nat.reduceMul, Nat.reduceSub, Bool.and_true, Bool.true_and, Bool.and_self, beq_dec, fApp, Int.toNat_natCast, Nat.sub_zero, vmI, g3', c3, hc4]
    obtain ⟨r1, r2, r3⟩ := IsP.set (l := l) (l' := cutC a z ((a, b) :: l1)) h1 h3 h5 q5 hs4 hf4
    have hN : nextP o limit chunk l t = ⟨cutC a z ((a, b) :: l1), t, a, z, true⟩ := by unfold nextP; rw [hl1, hcm, if_neg (by simp)]; simp only [List.headD_cons, hz]
    rw [hN]
    exact ⟨_, rfl, r1, r2, r3⟩
end
end Go.Proofs.Ytekhpohcjfjhfaa.ctr
namespace Go.Proofs.Ytekhpohcjfjhfaa.ctr
open Go.Vm Go.RowKit Go.Ranges
set_option linter.unusedVariables false
set_option linter.unusedSimpArgs false
/-- a set within a greater object -/
def IsQ (s : St) (p : Nat) (k : Int) (l : List R) (fp : List Nat) : Prop := ∃ v fv, s.heap.get p = some (.cells [num k, v] .own) ∧ OwE s v 2 encR l fv ∧ p ∉ fv ∧ fp = p :: fv ∧ p < s.next
theorem IsQ.fr {s s' : St} {p : Nat} {k : Int} {l : List R} {fp fp' : List Nat} (hF : IsQ s p k l fp) (hf : Fr s s' fp') (hd : ∀ b ∈ fp, b ∉ fp') : IsQ s' p k l fp := by
  obtain ⟨v, fv, h1, h2, h3, rfl, h5⟩ := hF
  exact ⟨v, fv, (hf.2 p h5 (hd p (by simp))).trans h1, h2.fr hf fun b hb => hd b (by simp [hb]), h3, rfl, Nat.lt_of_lt_of_le h5 hf.1⟩
theorem IsQ.lt {s : St} {p : Nat} {k : Int} {l : List R} {fp : List Nat} (hF : IsQ s p k l fp) : Lt s fp := by
  obtain ⟨v, fv, h1, h2, h3, rfl, h5⟩ := hF
  intro b hb
  rcases List.mem_cons.1 hb with rfl | hb
  · exact h5
  · exact h2.lt b hb
section
variable {bd : Bd} {h : VF} {fu : Nat}
set_option maxHeartbeats 400000 in
theorem q_add1 (n : Nat) (s : St) (p : Nat) (k : Int) (l : List R) (fp : List Nat) (f t : Int) (hF : IsQ s p k l fp) (hw : WFr 0 l) (hlen : l.length < fu) (hf : l.length < 100000) :
    OutOk (callF bd (tab h).get fu (n + 2) 90 [.ptr p 1, num f, num t] s) (fun x s' => ∃ fp', IsQ s' p k (if max 0 f < min t far then addR (max 0 f) (min t far) l else l) fp' ∧ Fr s s' fp ∧ Nw s fp fp') := by
  refine call_code (t90 h) rfl ?_
  simp (disch := omega) only [vm0, vm1, vm2, vm3, vm4, vm5, vm6, vm7, fPick, fBox, fBuild, fBsl, fLd, fLda, fSt, fNilc, fBin, fEq, fUn, fMkf, fFa, fFld, fFlda, fExt, evo, wr, wrC, frame, Bool.not_true, Bool.not_false, beq_self_eq_true, List.cons_append, List.nil_append, Nat.add_zero, Nat.zero_add, Nat.reduceAdd, Nat.reduceMul, Nat.reduceSub, Bool.and_true, Bool.true_and, Bool.and_self, beq_dec, fApp, Int.toNat_natCast, Nat.sub_zero, vc90]
  refine call_ok rfl rfl (s_clip n s f t) ?_
  rintro x s ⟨rfl, rfl⟩
  have hF0 := hF
  obtain ⟨v, fv, h1, h2, h3, rfl, h5⟩ := hF
  rw [show max f 0 = max 0 f by omega]
  obtain ⟨f', hf'⟩ : ∃ f', max 0 f = f' := ⟨_, rfl⟩
  obtain ⟨t', ht'⟩ : ∃ t', min t far = t' := ⟨_, rfl⟩
  rw [hf', ht']
  by_cases hgo : f' < t'
  · rw [if_pos hgo]
    simp (disch := omega) only [vm0, vm1, vm2, vm3, vm4, vm5, vm6, vm7, fPick, fBox, fBuild, fBsl, fLd, fLda, fSt, fNilc, fBin, fEq, fUn, fMkf, fFa, fFld, fFlda, fExt, evo, wr, wrC, frame, Bool.not_true, Bool.not_false, beq_self_eq_true, List.cons_append, List.nil_append, Nat.add_zero, Nat.zero_add, Nat.reduceAdd, Nat.reduceMul, Nat.reduceSub, Bool.and_true, Bool.true_and, Bool.and_self, beq_dec, fApp, Int.toNat_natCast, Nat.sub_zero, h1, h2.rd.lenV]
    refine x_loop (fun m F s' => ∃ i : Nat, ∃ z x3 x10 x12 x13 x14 x15 vo fo, m = l.length - i ∧ i ≤ l.length ∧ z = (i : Int) ∧ F = [some (.ptr p 1), some (num (rAdd f' t' (l.take i)).f), some (num (rAdd f' t' (l.take i)).t), x3, some vo, some (num z), some (.bool (rAdd f' t' (l.take i)).d), some (.bool true), some (.bool false), some (num (l.length : Int)), x10, some v, x12, x13, x14, x15] ∧
      Fr s s' [] ∧ OwE s' vo 2 encR (rAdd f' t' (l.take i)).o fo ∧ Nw s [] fo) l.length (by omega) ?_ ?_
    · exact ⟨0, _, _, _, _, _, _, _, _, [], by omega, by omega, rfl, rfl, .refl, .nil encR_w (by omega), by simp [Nw]⟩
    · rintro m F s1 ⟨i, _, x3, x10, x12, x13, x14, x15, vo, fo, rfl, hi, rfl, rfl, hfr, ho, hn⟩ hm
      have hv1 := h2.fr0 hfr
      have hpl := rAdd_len (f := f') (t := t') (l.take i)
      rw [List.length_take, Nat.min_eq_left hi] at hpl
      by_cases hlt : i < l.length
      · obtain ⟨x, hx⟩ : ∃ x, l[i]? = some x := ⟨_, List.getElem?_eq_getElem hlt⟩
        have hps := rAdd_take (f := f') (t := t') hx
        obtain ⟨a, b⟩ := x
        have e1 := hv1.rd.ia hx
        have e2 := hv1.rd.at hx
        have hbl := hv1.rd.blk' hx
        obtain ⟨⟨o, d1, f1, t1⟩, ho1⟩ : ∃ q : RS, rAdd f' t' (l.take i) = q := ⟨_, rfl⟩
        rw [ho1] at ho hps hpl
        rw [ho1]
        dsimp only at ho hpl
        simp (disch := omega) only [vm0, vm1, vm2, vm3, vm4, vm5, vm6, vm7, fPick, fBox, fBuild, fBsl, fLd, fLda, fSt, fNilc, fBin, fEq, fUn, fMkf, fFa, fFld, fFlda, fExt, evo, wr, wrC, frame, Bool.not_true, Bool.not_false, beq_self_eq_true, List.cons_append, List.nil_append, Nat.add_zero, Nat.zero_add, Nat.reduceAdd, Nat.reduceMul, Nat.reduceSub, Bool.and_true, Bool.true_and, Bool.and_self, beq_dec, fApp, Int.toNat_natCast, Nat.sub_zero, vmI, e1, e2, encR]
        have hfa : Fr s1 ((s1.new (.cells [num 0, num 0] .own)).put s1.next (some (.cells [num a, num b] .own))) [] := (by (repeat' (first | exact Fr.refl | assumption | apply Fr.new' | apply Fr.mk' | apply Fr.put')) <;> (first | omega | (left; simp; done) | (right; simp only [next_put, next_new, next_mk]; omega) | (simp only [next_put, next_new, next_mk]; omega)))
        have hg : ((s1.new (.cells [num 0, num 0] .own)).put s1.next (some (.cells [num a, num b] .own))).heap.get s1.next = some (.cells [num a, num b] .own) := get_put_eq rfl
        have hgn : s1.next < ((s1.new (.cells [num 0, num 0] .own)).put s1.next (some (.cells [num a, num b] .own))).next := by rw [next_put, next_new]; omega
        generalize (s1.new (.cells [num 0, num 0] .own)).put s1.next (some (.cells [num a, num b] .own)) = s2 at *
        have ho2 := ho.fr0 hfa
        have hfr2 := hfr.trans hfa (fp2 := []) (by simp) (by simp)
        by_cases hb : b < f1
        · have hps' : rAdd f' t' (l.take (i + 1)) = ⟨o ++ [(a, b)], d1, f1, t1⟩ := by rw [hps]; exact if_pos hb
          simp (disch := omega) only [vm0, vm1, vm2, vm3, vm4, vm5, vm6, vm7, fPick, fBox, fBuild, fBsl, fLd, fLda, fSt, fNilc, fBin, fEq, fUn, fMkf, fFa, fFld, fFlda, fExt, evo, wr, wrC, frame, Bool.not_true, Bool.not_false, beq_self_eq_true, List.cons_append, List.nil_append, Nat.add_zero, Nat.zero_add, Nat.reduceAdd, Nat.reduceMul, Nat.reduceSub, Bool.and_true, Bool.true_and, Bool.and_self, beq_dec, fApp, Int.toNat_natCast, Nat.sub_zero, vmI, hg]
          refine op_app1 ho2 (by (repeat' (first | exact Fr.refl | assumption | apply Fr.new' | apply Fr.mk' | apply Fr.put')) <;> (first | omega | (left; simp; done) | (right; simp only [next_put, next_new, next_mk]; omega) | (simp only [next_put, next_new, next_mk]; omega))) (x := (a, b)) rfl (by omega) ?_
          intro v' s4 fo' q1 q2 q3
          simp (disch := omega) only [vm0, vm1, vm2, vm3, vm4, vm5, vm6, vm7, fPick, fBox, fBuild, fBsl, fLd, fLda, fSt, fNilc, fBin, fEq, fUn, fMkf, fFa, fFld, fFlda, fExt, evo, wr, wrC, frame, Bool.not_true, Bool.not_false, beq_self_eq_true, List.cons_append, List.nil_append, Nat.add_zero, Nat.zero_add, Nat.reduceAdd, Nat.reduceMul, Nat.reduceSub, Bool.and_true, Bool.true_and, Bool.and_self, beq_dec, fApp, Int.toNat_natCast, Nat.sub_zero, vmI]
          exact ⟨l.length - (i + 1), by omega, i + 1, (i : Int) + 1, _, _, _, _, _, _, _, fo', rfl, by omega, by omega, by rw [hps'], hfr2.nn q2 hn, by rw [hps']; exact q1, hn.nn q3 hfr2.1⟩
        · by_cases ha : t1 < a
          · cases d1
            · have hps' : rAdd f' t' (l.take (i + 1)) = ⟨o ++ [(f1, t1)] ++ [(a, b)], true, f1, t1⟩ := by
                rw [hps]; unfold rstep
                rw [if_neg (show ¬ (a, b).2 < f1 from hb), if_pos (show t1 < (a, b).1 from ha)]; rfl
              simp (disch := omega) only [vm0, vm1, vm2, vm3, vm4, vm5, vm6, vm7, fPick, fBox, fBuild, fBsl, fLd, fLda, fSt, fNilc, fBin, fEq, fUn, fMkf, fFa, fFld, fFlda, fExt, evo, wr, wrC, frame, Bool.not_true, Bool.not_false, beq_self_eq_true, List.cons_append, List.nil_append, Nat.add_zero, Nat.zero_add, Nat.reduceAdd, Nat.reduceMul, Nat.reduceSub, Bool.and_true, Bool.true_and, Bool.and_self, beq_dec, fApp, Int.toNat_natCast, Nat.sub_zero, vmI, hg]
              refine op_app1 ho2 (by (repeat' (first | exact Fr.refl | assumption | apply Fr.new' | apply Fr.mk' | apply Fr.put')) <;> (first | omega | (left; simp; done) | (right; simp only [next_put, next_new, next_mk]; omega) | (simp only [next_put, next_new, next_mk]; omega))) (x := (f1, t1)) rfl (by omega) ?_
              intro v' s4 fo' q1 q2 q3
              have hg4 := (q2.get hgn (fun hm => by have := ho.lt _ hm; omega)).trans hg
              have hgn4 := Nat.lt_of_lt_of_le hgn q2.1
              simp (disch := omega) only [vm0, vm1, vm2, vm3, vm4, vm5, vm6, vm7, fPick, fBox, fBuild, fBsl, fLd, fLda, fSt, fNilc, fBin, fEq, fUn, fMkf, fFa, fFld, fFlda, fExt, evo, wr, wrC, frame, Bool.not_true, Bool.not_false, beq_self_eq_true, List.cons_append, List.nil_append, Nat.add_zero, Nat.zero_add, Nat.reduceAdd, Nat.reduceMul, Nat.reduceSub, Bool.and_true, Bool.true_and, Bool.and_self, beq_dec, fApp, Int.toNat_natCast, Nat.sub_zero, vmI, hg4]
              refine op_app1 q1 (by (repeat' (first | exact Fr.refl | assumption | apply Fr.new' | apply Fr.mk' | apply Fr.put')) <;> (first | omega | (left; simp; done) | (right; simp only [next_put, next_new, next_mk]; omega) | (simp only [next_put, next_new, next_mk]; omega))) (x := (a, b)) rfl (by simp; omega) ?_
              intro v'' s5 fo'' q4 q5 q6
              have hnn := hn.nn q3 hfr2.1
              have hfr4 := hfr2.nn q2 hn
              simp (disch := omega) only [vm0, vm1, vm2, vm3, vm4, vm5, vm6, vm7, fPick, fBox, fBuild, fBsl, fLd, fLda, fSt, fNilc, fBin, fEq, fUn, fMkf, fFa, fFld, fFlda, fExt, evo, wr, wrC, frame, Bool.not_true, Bool.not_false, beq_self_eq_true, List.cons_append, List.nil_append, Nat.add_zero, Nat.zero_add, Nat.reduceAdd, Nat.reduceMul, Nat.reduceSub, Bool.and_true, Bool.true_and, Bool.and_self, beq_dec, fApp, Int.toNat_natCast, Nat.sub_zero, vmI]
              exact ⟨l.length - (i + 1), by omega, i + 1, (i : Int) + 1, _, _, _, _, _, _, _, fo'', rfl, by omega, by omega, by rw [hps'], hfr4.nn q5 hnn, by rw [hps']; exact q4, hnn.nn q6 hfr4.1⟩
            · have hps' : rAdd f' t' (l.take (i + 1)) = ⟨o ++ [(a, b)], true, f1, t1⟩ := by
                rw [hps]; unfold rstep
                rw [if_neg (show ¬ (a, b).2 < f1 from hb), if_pos (show t1 < (a, b).1 from ha)]; rfl
              simp (disch := omega) only [vm0, vm1, vm2, vm3, vm4, vm5, vm6, vm7, fPick, fBox, fBuild, fBsl, fLd, fLda, fSt, fNilc, fBin, fEq, fUn, fMkf, fFa, fFld, fFlda, fExt, evo, wr, wrC, frame, Bool.not_true, Bool.not_false, beq_self_eq_true, List.cons_append, List.nil_append, Nat.add_zero, Nat.zero_add, Nat.reduceAdd, Nat.reduceMul, Nat.reduceSub, Bool.and_true, Bool.true_and, Bool.and_self, beq_dec, fApp, Int.toNat_natCast, Nat.sub_zero, vmI, hg]
              refine op_app1 ho2 (by (repeat' (first | exact Fr.refl | assumption | apply Fr.new' | apply Fr.mk' | apply Fr.put')) <;> (first | omega | (left; simp; done) | (right; simp only [next_put, next_new, next_mk]; omega) | (simp only [next_put, next_new, next_mk]; omega))) (x := (a, b)) rfl (by omega) ?_
              intro v' s4 fo' q1 q2 q3
              simp (disch := omega) only [vm0, vm1, vm2, vm3, vm4, vm5, vm6, vm7, fPick, fBox, fBuild, fBsl, fLd, fLda, fSt, fNilc, fBin, fEq, fUn, fMkf, fFa, fFld, fFlda, fExt, evo, wr, wrC, frame, Bool.not_true, Bool.not_false, beq_self_eq_true, List.cons_append, List.nil_append, Nat.add_zero, Nat.zero_add, Nat.reduceAdd, Nat.reduceMul, Nat.reduceSub, Bool.and_true, Bool.true_and, Bool.and_self, beq_dec, fApp, Int.toNat_natCast, Nat.sub_zero, vmI]
              exact ⟨l.length - (i + 1), by omega, i + 1, (i : Int) + 1, _, _, _, _, _, _, _, fo', rfl, by omega, by omega, by rw [hps'], hfr2.nn q2 hn, by rw [hps']; exact q1, hn.nn q3 hfr2.1⟩
          · have hps' : rAdd f' t' (l.take (i + 1)) = ⟨o, d1, min f1 a, max t1 b⟩ := by
              rw [hps]; unfold rstep
              rw [if_neg (show ¬ (a, b).2 < f1 from hb), if_neg (show ¬ t1 < (a, b).1 from ha)]
            simp (disch := omega) only [vm0, vm1, vm2, vm3, vm4, vm5, vm6, vm7, fPick, fBox, fBuild, fBsl, fLd, fLda, fSt, fNilc, fBin, fEq, fUn, fMkf, fFa, fFld, fFlda, fExt, evo, wr, wrC, frame, Bool.not_true, Bool.not_false, beq_self_eq_true, List.cons_append, List.nil_append, Nat.add_zero, Nat.zero_add, Nat.reduceAdd, Nat.reduceMul, Nat.reduceSub, Bool.and_true, Bool.true_and, Bool.and_self, beq_dec, fApp, Int.toNat_natCast, Nat.sub_zero, vmI, hg]
            exact ⟨l.length - (i + 1), by omega, i + 1, (i : Int) + 1, _, _, _, _, _, _, _, fo, rfl, by omega, by omega, by rw [hps'], hfr2, by rw [hps']; exact ho2, hn⟩
      · have hpa := rAdd_spec (f := f') (t := t') hw hgo
        have htk : l.take i = l := List.take_of_length_le (by omega)
        rw [htk] at ho hpl ⊢
        obtain ⟨⟨o, d1, f1, t1⟩, ho1⟩ : ∃ q : RS, rAdd f' t' l = q := ⟨_, rfl⟩
        rw [ho1] at ho hpa hpl
        rw [ho1]
        dsimp only at ho hpl
        have hp1 := (hfr.get h5 (by simp)).trans h1
        have fin : ∀ (v' : AV) (s5 : St) (f5 : List Nat), OwE s5 v' 2 encR (addR f' t' l) f5 → Fr s s5 [] → Nw s [] f5 → ∃ fp', IsQ (s5.put p (some (.cells [num k, v'] .own))) p k (addR f' t' l) fp' ∧ Fr s (s5.put p (some (.cells [num k, v'] .own))) (p :: fv) ∧ Nw s (p :: fv) fp' := by
          intro v' s5 f5 q4 hfr5 hnn
          have hpf : p ∉ f5 := fun hm => by have := hnn p hm; simp at this; omega
          refine ⟨p :: f5, ⟨v', f5, get_put_eq rfl, q4.fr (fp' := [p]) (.put (.inl (by simp))) (by rintro b hb hm; simp at hm; subst hm; exact hpf hb), hpf, rfl, by rw [next_put]; exact Nat.lt_of_lt_of_le h5 hfr5.1⟩, .put' (.inl (by simp)) (hfr5.mono (by simp)), ?_⟩
          intro b hb
          rcases List.mem_cons.1 hb with rfl | hb
          · exact .inl (by simp)
          · right; have := hnn b hb; simpa using this
        cases d1
        · simp (disch := omega) only [vm0, vm1, vm2, vm3, vm4, vm5, vm6, vm7, fPick, fBox, fBuild, fBsl, fLd, fLda, fSt, fNilc, fBin, fEq, fUn, fMkf, fFa, fFld, fFlda, fExt, evo, wr, wrC, frame, Bool.not_true, Bool.not_false, beq_self_eq_true, List.cons_append, List.nil_append, Nat.add_zero, Nat.zero_add, Nat.reduceAdd, Nat.reduceMul, Nat.reduceSub, Bool.and_true, Bool.true_and, Bool.and_self, beq_dec, fApp, Int.toNat_natCast, Nat.sub_zero, vmI]
          refine op_app1 ho (by (repeat' (first | exact Fr.refl | assumption | apply Fr.new' | apply Fr.mk' | apply Fr.put')) <;> (first | omega | (left; simp; done) | (right; simp only [next_put, next_new, next_mk]; omega) | (simp only [next_put, next_new, next_mk]; omega))) (x := (f1, t1)) rfl (by omega) ?_
          intro v' s4 fo' q1 q2 q3
          have hfr4 := hfr.nn q2 hn
          have hp5 := (hfr4.get h5 (by simp)).trans h1
          simp (disch := omega) only [vm0, vm1, vm2, vm3, vm4, vm5, vm6, vm7, fPick, fBox, fBuild, fBsl, fLd, fLda, fSt, fNilc, fBin, fEq, fUn, fMkf, fFa, fFld, fFlda, fExt, evo, wr, wrC, frame, Bool.not_true, Bool.not_false, beq_self_eq_true, List.cons_append, List.nil_append, Nat.add_zero, Nat.zero_add, Nat.reduceAdd, Nat.reduceMul, Nat.reduceSub, Bool.and_true, Bool.true_and, Bool.and_self, beq_dec, fApp, Int.toNat_natCast, Nat.sub_zero, vmI, hp5, q1.cells]
          exact fin v' s4 fo' (by rw [← hpa]; exact q1) hfr4 (hn.nn q3 hfr.1)
        · simp (disch := omega) only [vm0, vm1, vm2, vm3, vm4, vm5, vm6, vm7, fPick, fBox, fBuild, fBsl, fLd, fLda, fSt, fNilc, fBin, fEq, fUn, fMkf, fFa, fFld, fFlda, fExt, evo, wr, wrC, frame, Bool.not_true, Bool.not_false, beq_self_eq_true, List.cons_append, List.nil_append, Nat.add_zero, Nat.zero_add, Nat.reduceAdd, Nat.reduceMul, Nat.reduceSub, Bool.and_true, Bool.true_and, Bool.and_self, beq_dec, fApp, Int.toNat_natCast, Nat.sub_zero, vmI, hp1, ho.cells]
          exact fin vo s1 fo (by rw [← hpa]; exact ho) hfr hn
  · rw [if_neg hgo]
    simp (disch := omega) only [vm0, vm1, vm2, vm3, vm4, vm5, vm6, vm7, fPick, fBox, fBuild, fBsl, fLd, fLda, fSt, fNilc, fBin, fEq, fUn, fMkf, fFa, fFld, fFlda, fExt, evo, wr, wrC, frame, Bool.not_true, Bool.not_false, beq_self_eq_true, List.cons_append, List.nil_append, Nat.add_zero, Nat.zero_add, Nat.reduceAdd, Nat.reduceMul, Nat.reduceSub, Bool.and_true, Bool.true_and, Bool.and_self, beq_dec, fApp, Int.toNat_natCast, Nat.sub_zero]
    exact ⟨_, hF0, .refl, .refl⟩
set_option maxHeartbeats 400000 in
theorem q_cut1 (n : Nat) (s : St) (p : Nat) (k : Int) (l : List R) (fp : List Nat) (f t : Int) (hF : IsQ s p k l fp) (hlen : l.length < fu) (hf : l.length < 100000) :
    OutOk (callF bd (tab h).get fu (n + 2) 91 [.ptr p 1, num f, num t] s) (fun x s' => ∃ fp', IsQ s' p k (if max 0 f < min t far then cutR (max 0 f) (min t far) l else l) fp' ∧ Fr s s' fp ∧ Nw s fp fp') := by
  refine call_code (t91 h) rfl ?_
  simp (disch := omega) only [vm0, vm1, vm2, vm3, vm4, vm5, vm6, vm7, fPick, fBox, fBuild, fBsl, fLd, fLda, fSt, fNilc, fBin, fEq, fUn, fMkf, fFa, fFld, fFlda, fExt, evo, wr, wrC, frame, Bool.not_true, Bool.not_false, beq_self_eq_true, List.cons_append, List.nil_append, Nat.add_zero, Nat.zero_add, Nat.reduceAdd, Nat.reduceMul, Nat.reduceSub, Bool.and_true, Bool.true_and, Bool.and_self, beq_dec, fApp, Int.toNat_natCast, Nat.sub_zero, vc91]
  refine call_ok rfl rfl (s_clip n s f t) ?_
  rintro x s ⟨rfl, rfl⟩
  have hF0 := hF
  obtain ⟨v, fv, h1, h2, h3, rfl, h5⟩ := hF
  rw [show max f 0 = max 0 f by omega]
  obtain ⟨f', hf'⟩ : ∃ f', max 0 f = f' := ⟨_, rfl⟩
  obtain ⟨t', ht'⟩ : ∃ t', min t far = t' := ⟨_, rfl⟩
  rw [hf', ht']
  by_cases hgo : f' < t'
  · rw [if_pos hgo]
    simp (disch := omega) only [vm0, vm1, vm2, vm3, vm4, vm5, vm6, vm7, fPick, fBox, fBuild, fBsl, fLd, fLda, fSt, fNilc, fBin, fEq, fUn, fMkf, fFa, fFld, fFlda, fExt, evo, wr, wrC, frame, Bool.not_true, Bool.not_false, beq_self_eq_true, List.cons_append, List.nil_append, Nat.add_zero, Nat.zero_add, Nat.reduceAdd, Nat.reduceMul, Nat.reduceSub, Bool.and_true, Bool.true_and, Bool.and_self, beq_dec, fApp, Int.toNat_natCast, Nat.sub_zero, h1, h2.rd.lenV]
    refine x_loop (fun m F s' => ∃ i : Nat, ∃ z x3 x9 x11 x12 vo fo, m = l.length - i ∧ i ≤ l.length ∧ z = (i : Int) ∧ F = [some (.ptr p 1), some (num f'), some (num t'), x3, some (num z), some vo, some (.bool true), some (.bool false), some (num (l.length : Int)), x9, some v, x11, x12] ∧
      Fr s s' [] ∧ OwE s' vo 2 encR (cutR f' t' (l.take i)) fo ∧ Nw s [] fo) l.length (by omega) ?_ ?_
    · exact ⟨0, _, _, _, _, _, _, [], by omega, by omega, rfl, rfl, .refl, .nil encR_w (by omega), by simp [Nw]⟩
    · rintro m F s1 ⟨i, _, x3, x9, x11, x12, vo, fo, rfl, hi, rfl, rfl, hfr, ho, hn⟩ hm
      have hv1 := h2.fr0 hfr
      have hcl := cutR_len (f := f') (t := t') (l.take i)
      rw [List.length_take, Nat.min_eq_left hi] at hcl
      by_cases hlt : i < l.length
      · obtain ⟨x, hx⟩ : ∃ x, l[i]? = some x := ⟨_, List.getElem?_eq_getElem hlt⟩
        have hct := cutR_take (f := f') (t := t') hx
        obtain ⟨a, b⟩ := x
        have e1 := hv1.rd.ia hx
        have e2 := hv1.rd.at hx
        have hbl := hv1.rd.blk' hx
        generalize cutR f' t' (l.take i) = o at *
        simp (disch := omega) only [vm0, vm1, vm2, vm3, vm4, vm5, vm6, vm7, fPick, fBox, fBuild, fBsl, fLd, fLda, fSt, fNilc, fBin, fEq, fUn, fMkf, fFa, fFld, fFlda, fExt, evo, wr, wrC, frame, Bool.not_true, Bool.not_false, beq_self_eq_true, List.cons_append, List.nil_append, Nat.add_zero, Nat.zero_add, Nat.reduceAdd, Nat.reduceMul, Nat.reduceSub, Bool.and_true, Bool.true_and, Bool.and_self, beq_dec, fApp, Int.toNat_natCast, Nat.sub_zero, vmI, e1, e2, encR]
        have hfa : Fr s1 ((s1.new (.cells [num 0, num 0] .own)).put s1.next (some (.cells [num a, num b] .own))) [] := (by (repeat' (first | exact Fr.refl | assumption | apply Fr.new' | apply Fr.mk' | apply Fr.put')) <;> (first | omega | (left; simp; done) | (right; simp only [next_put, next_new, next_mk]; omega) | (simp only [next_put, next_new, next_mk]; omega)))
        have hg : ((s1.new (.cells [num 0, num 0] .own)).put s1.next (some (.cells [num a, num b] .own))).heap.get s1.next = some (.cells [num a, num b] .own) := get_put_eq rfl
        have hgn : s1.next < ((s1.new (.cells [num 0, num 0] .own)).put s1.next (some (.cells [num a, num b] .own))).next := by rw [next_put, next_new]; omega
        generalize (s1.new (.cells [num 0, num 0] .own)).put s1.next (some (.cells [num a, num b] .own)) = s2 at *
        have ho2 := ho.fr0 hfa
        have hfr2 := hfr.trans hfa (fp2 := []) (by simp) (by simp)
        have hnf : s1.next ∉ fo := fun hm => by have := ho.lt _ hm; omega
        by_cases c1 : a < f'
        · simp (disch := omega) only [vm0, vm1, vm2, vm3, vm4, vm5, vm6, vm7, fPick, fBox, fBuild, fBsl, fLd, fLda, fSt, fNilc, fBin, fEq, fUn, fMkf, fFa, fFld, fFlda, fExt, evo, wr, wrC, frame, Bool.not_true, Bool.not_false, beq_self_eq_true, List.cons_append, List.nil_append, Nat.add_zero, Nat.zero_add, Nat.reduceAdd, Nat.reduceMul, Nat.reduceSub, Bool.and_true, Bool.true_and, Bool.and_self, beq_dec, fApp, Int.toNat_natCast, Nat.sub_zero, vmI, hg]
          refine op_app1 ho2 (by (repeat' (first | exact Fr.refl | assumption | apply Fr.new' | apply Fr.mk' | apply Fr.put')) <;> (first | omega | (left; simp; done) | (right; simp only [next_put, next_new, next_mk]; omega) | (simp only [next_put, next_new, next_mk]; omega))) (x := (a, min b f')) rfl (by omega) ?_
          intro v' s4 fo' q1 q2 q3
          have hg4 := (q2.get hgn hnf).trans hg
          have hgn4 := Nat.lt_of_lt_of_le hgn q2.1
          have hnn := hn.nn q3 hfr2.1
          have hfr4 := hfr2.nn q2 hn
          by_cases c2 : t' < b
          · simp (disch := omega) only [vm0, vm1, vm2, vm3, vm4, vm5, vm6, vm7, fPick, fBox, fBuild, fBsl, fLd, fLda, fSt, fNilc, fBin, fEq, fUn, fMkf, fFa, fFld, fFlda, fExt, evo, wr, wrC, frame, Bool.not_true, Bool.not_false, beq_self_eq_true, List.cons_append, List.nil_append, Nat.add_zero, Nat.zero_add, Nat.reduceAdd, Nat.reduceMul, Nat.reduceSub, Bool.and_true, Bool.true_and, Bool.and_self, beq_dec, fApp, Int.toNat_natCast, Nat.sub_zero, vmI, hg4]
            refine op_app1 q1 (by (repeat' (first | exact Fr.refl | assumption | apply Fr.new' | apply Fr.mk' | apply Fr.put')) <;> (first | omega | (left; simp; done) | (right; simp only [next_put, next_new, next_mk]; omega) | (simp only [next_put, next_new, next_mk]; omega))) (x := (max a t', b)) rfl (by simp; omega) ?_
            intro v'' s5 fo'' q4 q5 q6
            simp (disch := omega) only [vm0, vm1, vm2, vm3, vm4, vm5, vm6, vm7, fPick, fBox, fBuild, fBsl, fLd, fLda, fSt, fNilc, fBin, fEq, fUn, fMkf, fFa, fFld, fFlda, fExt, evo, wr, wrC, frame, Bool.not_true, Bool.not_false, beq_self_eq_true, List.cons_append, List.nil_append, Nat.add_zero, Nat.zero_add, Nat.reduceAdd, Nat.reduceMul, Nat.reduceSub, Bool.and_true, Bool.true_and, Bool.and_self, beq_dec, fApp, Int.toNat_natCast, Nat.sub_zero, vmI]
            refine ⟨l.length - (i + 1), by omega, i + 1, (i : Int) + 1, _, _, _, _, _, fo'', rfl, by omega, by omega, rfl, hfr4.nn q5 hnn, ?_, hnn.nn q6 hfr4.1⟩
            rw [hct]; simpa [cut1, c1, c2] using q4
          · simp (disch := omega) only [vm0, vm1, vm2, vm3, vm4, vm5, vm6, vm7, fPick, fBox, fBuild, fBsl, fLd, fLda, fSt, fNilc, fBin, fEq, fUn, fMkf, fFa, fFld, fFlda, fExt, evo, wr, wrC, frame, Bool.not_true, Bool.not_false, beq_self_eq_true, List.cons_append, List.nil_append, Nat.add_zero, Nat.zero_add, Nat.reduceAdd, Nat.reduceMul, Nat.reduceSub, Bool.and_true, Bool.true_and, Bool.and_self, beq_dec, fApp, Int.toNat_natCast, Nat.sub_zero, vmI, hg4]
            refine ⟨l.length - (i + 1), by omega, i + 1, (i : Int) + 1, _, _, _, _, _, fo', rfl, by omega, by omega, rfl, hfr4, ?_, hnn⟩
            rw [hct]; simpa [cut1, c1, c2] using q1
        · by_cases c2 : t' < b
          · simp (disch := omega) only [vm0, vm1, vm2, vm3, vm4, vm5, vm6, vm7, fPick, fBox, fBuild, fBsl, fLd, fLda, fSt, fNilc, fBin, fEq, fUn, fMkf, fFa, fFld, fFlda, fExt, evo, wr, wrC, frame, Bool.not_true, Bool.not_false, beq_self_eq_true, List.cons_append, List.nil_append, Nat.add_zero, Nat.zero_add, Nat.reduceAdd, Nat.reduceMul, Nat.reduceSub, Bool.and_true, Bool.true_and, Bool.and_self, beq_dec, fApp, Int.toNat_natCast, Nat.sub_zero, vmI, hg]
            refine op_app1 ho2 (by (repeat' (first | exact Fr.refl | assumption | apply Fr.new' | apply Fr.mk' | apply Fr.put')) <;> (first | omega | (left; simp; done) | (right; simp only [next_put, next_new, next_mk]; omega) | (simp only [next_put, next_new, next_mk]; omega))) (x := (max a t', b)) rfl (by omega) ?_
            intro v'' s5 fo'' q4 q5 q6
            simp (disch := omega) only [vm0, vm1, vm2, vm3, vm4, vm5, vm6, vm7, fPick, fBox, fBuild, fBsl, fLd, fLda, fSt, fNilc, fBin, fEq, fUn, fMkf, fFa, fFld, fFlda, fExt, evo, wr, wrC, frame, Bool.not_true, Bool.not_false, beq_self_eq_true, List.cons_append, List.nil_append, Nat.add_zero, Nat.zero_add, Nat.reduceAdd, Nat.reduceMul, Nat.reduceSub, Bool.and_true, Bool.true_and, Bool.and_self, beq_dec, fApp, Int.toNat_natCast, Nat.sub_zero, vmI]
            refine ⟨l.length - (i + 1), by omega, i + 1, (i : Int) + 1, _, _, _, _, _, fo'', rfl, by omega, by omega, rfl, hfr2.nn q5 hn, ?_, hn.nn q6 hfr2.1⟩
            rw [hct]; simpa [cut1, c1, c2] using q4
          · simp (disch := omega) only [vm0, vm1, vm2, vm3, vm4, vm5, vm6, vm7, fPick, fBox, fBuild, fBsl, fLd, fLda, fSt, fNilc, fBin, fEq, fUn, fMkf, fFa, fFld, fFlda, fExt, evo, wr, wrC, frame, Bool.not_true, Bool.not_false, beq_self_eq_true, List.cons_append, List.nil_append, Nat.add_zero, Nat.zero_add, Nat.reduceAdd, Nat.reduceMul, Nat.reduceSub, Bool.and_true, Bool.true_and, Bool.and_self, beq_dec, fApp, Int.toNat_natCast, Nat.sub_zero, vmI, hg]
            refine ⟨l.length - (i + 1), by omega, i + 1, (i : Int) + 1, _, _, _, _, _, fo, rfl, by omega, by omega, rfl, hfr2, ?_, hn⟩
            rw [hct]; simpa [cut1, c1, c2] using ho2
      · have htk : l.take i = l := List.take_of_length_le (by omega)
        rw [htk] at ho
        have hp5 := (hfr.get h5 (by simp)).trans h1
        simp (disch := omega) only [vm0, vm1, vm2, vm3, vm4, vm5, vm6, vm7, fPick, fBox, fBuild, fBsl, fLd, fLda, fSt, fNilc, fBin, fEq, fUn, fMkf, fFa, fFld, fFlda, fExt, evo, wr, wrC, frame, Bool.not_true, Bool.not_false, beq_self_eq_true, List.cons_append, List.nil_append, Nat.add_zero, Nat.zero_add, Nat.reduceAdd, Nat.reduceMul, Nat.reduceSub, Bool.and_true, Bool.true_and, Bool.and_self, beq_dec, fApp, Int.toNat_natCast, Nat.sub_zero, vmI, hp5, ho.cells]
        have hpf : p ∉ fo := fun hm => by have := hn p hm; simp at this; omega
        refine ⟨p :: fo, ⟨vo, fo, get_put_eq rfl, ho.fr (fp' := [p]) (.put (.inl (by simp))) (by rintro b hb hm; simp at hm; subst hm; exact hpf hb), hpf, rfl, by rw [next_put]; exact Nat.lt_of_lt_of_le h5 hfr.1⟩, .put' (.inl (by simp)) (hfr.mono (by simp)), ?_⟩
        intro b hb
        rcases List.mem_cons.1 hb with rfl | hb
        · exact .inl (by simp)
        · right; have := hn b hb; simpa using this
  · rw [if_neg hgo]
    simp (disch := omega) only [vm0, vm1, vm2, vm3, vm4, vm5, vm6, vm7, fPick, fBox, fBuild, fBsl, fLd, fLda, fSt, fNilc, fBin, fEq, fUn, fMkf, fFa, fFld, fFlda, fExt, evo, wr, wrC, frame, Bool.not_true, Bool.not_false, beq_self_eq_true, List.cons_append, List.nil_append, Nat.add_zero, Nat.zero_add, Nat.reduceAdd, Nat.reduceMul, Nat.reduceSub, Bool.and_true, Bool.true_and, Bool.and_self, beq_dec, fApp, Int.toNat_natCast, Nat.sub_zero]
    exact ⟨_, hF0, .refl, .refl⟩
end
end Go.Proofs.Ytekhpohcjfjhfaa.ctr
namespace Go.Proofs.Ytekhpohcjfjhfaa.ctr
open Go.Vm Go.RowKit Go.Ranges
set_option linter.unusedVariables false
set_option linter.unusedSimpArgs false
/-- the reference's outbox, behind its address -/
def IsX (s : St) (p : Nat) (o : OB) (fp : List Nat) : Prop := ∃ v fv, s.heap.get p = some (.cells [num o.buffer, num o.acked, v, .bool o.closed] .own) ∧ OwE s v 1 encB o.b fv ∧ p ∉ fv ∧ fp = p :: fv ∧ p < s.next
theorem IsX.fr {s s' : St} {p : Nat} {o : OB} {fp fp' : List Nat} (hF : IsX s p o fp) (hf : Fr s s' fp') (hd : ∀ b ∈ fp, b ∉ fp') : IsX s' p o fp := by
  obtain ⟨v, fv, h1, h2, h3, rfl, h5⟩ := hF
  exact ⟨v, fv, (hf.2 p h5 (hd p (by simp))).trans h1, h2.fr hf fun b hb => hd b (by simp [hb]), h3, rfl, Nat.lt_of_lt_of_le h5 hf.1⟩
theorem IsX.lt {s : St} {p : Nat} {o : OB} {fp : List Nat} (hF : IsX s p o fp) : Lt s fp := by
  obtain ⟨v, fv, h1, h2, h3, rfl, h5⟩ := hF
  intro b hb
  rcases List.mem_cons.1 hb with rfl | hb
  · exact h5
  · exact h2.lt b hb
/-- what was acknowledged was written -/
def OB.ok (o : OB) : Prop := o.closed = false → o.acked ≤ (o.b.length : Int)
theorem pieceM_q {len from_ top c : Int} {cl : Bool} (h1 : from_ < top) (h2 : top ≤ len + (if cl then 1 else 0)) (hc : 1 ≤ c) :
    pieceM len cl from_ top c = if min top (from_ + c) = len ∧ min top (from_ + c) < top then top else min top (from_ + c) := by
  unfold pieceM
  cases cl
  · simp only [Bool.false_eq_true, false_and, if_false] at *
    split <;> omega
  · simp only [true_and, if_true] at *
    split <;> split <;> (try split) <;> omega
section
variable {bd : Bd} {h : VF} {fu : Nat}
theorem r_clamp (n : Nat) (s : St) (a b c : Int) : OutOk (callF bd (tab h).get fu (n + 1) 88 [num a, num b, num c] s) (fun x s' => Is x (num (min (max a b) c)) ∧ Is s' s) := by
  refine call_code (t88 h) rfl ?_
  obtain ⟨m, hm⟩ : ∃ m, min (max a b) c = m := ⟨_, rfl⟩
  simp (disch := omega) only [vm0, vm1, vm2, vm3, vm4, vm5, vm6, vm7, fPick, fBox, fBuild, fBsl, fLd, fLda, fSt, fNilc, fBin, fEq, fUn, fMkf, fFa, fFld, fFlda, fExt, evo, wr, wrC, frame, Bool.not_true, Bool.not_false, beq_self_eq_true, List.cons_append, List.nil_append, Nat.add_zero, Nat.zero_add, Nat.reduceAdd, Nat.reduceMul, Nat.reduceSub, Bool.and_true, Bool.true_and, Bool.and_self, beq_dec, fApp, Int.toNat_natCast, Nat.sub_zero, vmI, vc88, hm]
  exact ⟨rfl, rfl⟩
theorem x_new (n : Nat) (s : St) (k : Int) : OutOk (callF bd (tab h).get fu (n + 2) 42 [num k] s) (fun x s' => ∃ p, Is x (.ptr p 0) ∧ s.next ≤ p ∧ Fr s s' [] ∧ IsX s' p ⟨[], min (max k 1) 400, 0, false⟩ [p]) := by
  refine call_code (t42 h) rfl ?_
  simp (disch := omega) only [vm0, vm1, vm2, vm3, vm4, vm5, vm6, vm7, fPick, fBox, fBuild, fBsl, fLd, fLda, fSt, fNilc, fBin, fEq, fUn, fMkf, fFa, fFld, fFlda, fExt, evo, wr, wrC, frame, Bool.not_true, Bool.not_false, beq_self_eq_true, List.cons_append, List.nil_append, Nat.add_zero, Nat.zero_add, Nat.reduceAdd, Nat.reduceMul, Nat.reduceSub, Bool.and_true, Bool.true_and, Bool.and_self, beq_dec, fApp, Int.toNat_natCast, Nat.sub_zero, vmI, vc42]
  refine call_ok rfl rfl (r_clamp n s k 1 400) ?_
  rintro x s ⟨rfl, rfl⟩
  simp (disch := omega) only [vm0, vm1, vm2, vm3, vm4, vm5, vm6, vm7, fPick, fBox, fBuild, fBsl, fLd, fLda, fSt, fNilc, fBin, fEq, fUn, fMkf, fFa, fFld, fFlda, fExt, evo, wr, wrC, frame, Bool.not_true, Bool.not_false, beq_self_eq_true, List.cons_append, List.nil_append, Nat.add_zero, Nat.zero_add, Nat.reduceAdd, Nat.reduceMul, Nat.reduceSub, Bool.and_true, Bool.true_and, Bool.and_self, beq_dec, fApp, Int.toNat_natCast, Nat.sub_zero, vmI]
  exact ⟨s.next, rfl, Nat.le_refl _, .new, .nils, [], get_new_eq rfl, .nil encB_w (by omega), by simp, rfl, by rw [next_new]; omega⟩
theorem x_places (n : Nat) (s : St) (p : Nat) (o : OB) (fp : List Nat) (hF : IsX s p o fp) (hl : o.b.length < 1000000) : OutOk (callF bd (tab h).get fu (n + 1) 89 [.ptr p 0] s) (fun x s' => Is x (num o.places) ∧ Is s' s) := by
  refine call_code (t89 h) rfl ?_
  obtain ⟨v, fv, h1, h2, h3, rfl, h5⟩ := hF
  cases hc : o.closed
  · simp (disch := omega) only [vm0, vm1, vm2, vm3, vm4, vm5, vm6, vm7, fPick, fBox, fBuild, fBsl, fLd, fLda, fSt, fNilc, fBin, fEq, fUn, fMkf, fFa, fFld, fFlda, fExt, evo, wr, wrC, frame, Bool.not_true, Bool.not_false, beq_self_eq_true, List.cons_append, List.nil_append, Nat.add_zero, Nat.zero_add, Nat.reduceAdd, Nat.reduceMul, Nat.reduceSub, Bool.and_true, Bool.true_and, Bool.and_self, beq_dec, fApp, Int.toNat_natCast, Nat.sub_zero, vmI, vc89, h1, hc, h2.rd.lenV]
    exact ⟨by show num _ = num _; simp [OB.places, hc], rfl⟩
  · simp (disch := omega) only [vm0, vm1, vm2, vm3, vm4, vm5, vm6, vm7, fPick, fBox, fBuild, fBsl, fLd, fLda, fSt, fNilc, fBin, fEq, fUn, fMkf, fFa, fFld, fFlda, fExt, evo, wr, wrC, frame, Bool.not_true, Bool.not_false, beq_self_eq_true, List.cons_append, List.nil_append, Nat.add_zero, Nat.zero_add, Nat.reduceAdd, Nat.reduceMul, Nat.reduceSub, Bool.and_true, Bool.true_and, Bool.and_self, beq_dec, fApp, Int.toNat_natCast, Nat.sub_zero, vmI, vc89, h1, hc, h2.rd.lenV]
    exact ⟨by show num _ = num _; simp [OB.places, hc], rfl⟩
theorem x_open (n : Nat) (s : St) (p : Nat) (o : OB) (fp : List Nat) (limit : Int) (hF : IsX s p o fp) (hl : o.b.length < 1000000) : OutOk (callF bd (tab h).get fu (n + 2) 92 [.ptr p 0, num limit] s) (fun x s' => Is x (num (o.open_ limit)) ∧ Is s' s) := by
  refine call_code (t92 h) rfl ?_
  have hF0 := hF
  obtain ⟨v, fv, h1, h2, h3, rfl, h5⟩ := hF
  by_cases hc : (o.b.length : Int) ≤ limit
  · simp (disch := omega) only [vm0, vm1, vm2, vm3, vm4, vm5, vm6, vm7, fPick, fBox, fBuild, fBsl, fLd, fLda, fSt, fNilc, fBin, fEq, fUn, fMkf, fFa, fFld, fFlda, fExt, evo, wr, wrC, frame, Bool.not_true, Bool.not_false, beq_self_eq_true, List.cons_append, List.nil_append, Nat.add_zero, Nat.zero_add, Nat.reduceAdd, Nat.reduceMul, Nat.reduceSub, Bool.and_true, Bool.true_and, Bool.and_self, beq_dec, fApp, Int.toNat_natCast, Nat.sub_zero, vmI, vc92, h1, h2.rd.lenV]
    refine call_ok rfl rfl (x_places n s p o _ hF0 hl) ?_
    rintro x s ⟨rfl, rfl⟩
    simp (disch := omega) only [vm0, vm1, vm2, vm3, vm4, vm5, vm6, vm7, fPick, fBox, fBuild, fBsl, fLd, fLda, fSt, fNilc, fBin, fEq, fUn, fMkf, fFa, fFld, fFlda, fExt, evo, wr, wrC, frame, Bool.not_true, Bool.not_false, beq_self_eq_true, List.cons_append, List.nil_append, Nat.add_zero, Nat.zero_add, Nat.reduceAdd, Nat.reduceMul, Nat.reduceSub, Bool.and_true, Bool.true_and, Bool.and_self, beq_dec, fApp, Int.toNat_natCast, Nat.sub_zero, vmI]
    exact ⟨by show num _ = num _; rw [OB.open_, if_pos hc], rfl⟩
  · simp (disch := omega) only [vm0, vm1, vm2, vm3, vm4, vm5, vm6, vm7, fPick, fBox, fBuild, fBsl, fLd, fLda, fSt, fNilc, fBin, fEq, fUn, fMkf, fFa, fFld, fFlda, fExt, evo, wr, wrC, frame, Bool.not_true, Bool.not_false, beq_self_eq_true, List.cons_append, List.nil_append, Nat.add_zero, Nat.zero_add, Nat.reduceAdd, Nat.reduceMul, Nat.reduceSub, Bool.and_true, Bool.true_and, Bool.and_self, beq_dec, fApp, Int.toNat_natCast, Nat.sub_zero, vmI, vc92, h1, h2.rd.lenV]
    exact ⟨by show num _ = num _; rw [OB.open_, if_neg hc]; rw [Int.max_comm], rfl⟩
theorem x_ack (n : Nat) (s : St) (p : Nat) (o : OB) (fp : List Nat) (k : Int) (hF : IsX s p o fp) (hl : o.b.length < 1000000) : OutOk (callF bd (tab h).get fu (n + 2) 44 [.ptr p 0, num k] s) (fun x s' => Is x (.bool (o.ackOk k)) ∧ IsX s' p (o.ack k) fp ∧ Fr s s' fp ∧ Is s'.next s.next) := by
  refine call_code (t44 h) rfl ?_
  have hF0 := hF
  obtain ⟨v, fv, h1, h2, h3, rfl, h5⟩ := hF
  by_cases hk : k < 0
  · have hn : o.ackOk k = false := by simp [OB.ackOk]; omega
    simp (disch := omega) only [vm0, vm1, vm2, vm3, vm4, vm5, vm6, vm7, fPick, fBox, fBuild, fBsl, fLd, fLda, fSt, fNilc, fBin, fEq, fUn, fMkf, fFa, fFld, fFlda, fExt, evo, wr, wrC, frame, Bool.not_true, Bool.not_false, beq_self_eq_true, List.cons_append, List.nil_append, Nat.add_zero, Nat.zero_add, Nat.reduceAdd, Nat.reduceMul, Nat.reduceSub, Bool.and_true, Bool.true_and, Bool.and_self, beq_dec, fApp, Int.toNat_natCast, Nat.sub_zero, vmI, vc44]
    exact ⟨by rw [hn]; rfl, by rw [OB.ack, hn]; exact hF0, .refl, rfl⟩
  · simp (disch := omega) only [vm0, vm1, vm2, vm3, vm4, vm5, vm6, vm7, fPick, fBox, fBuild, fBsl, fLd, fLda, fSt, fNilc, fBin, fEq, fUn, fMkf, fFa, fFld, fFlda, fExt, evo, wr, wrC, frame, Bool.not_true, Bool.not_false, beq_self_eq_true, List.cons_append, List.nil_append, Nat.add_zero, Nat.zero_add, Nat.reduceAdd, Nat.reduceMul, Nat.reduceSub, Bool.and_true, Bool.true_and, Bool.and_self, beq_dec, fApp, Int.toNat_natCast, Nat.sub_zero, vmI, vc44]
    refine call_ok rfl rfl (x_places n s p o _ hF0 hl) ?_
    rintro x s ⟨rfl, rfl⟩
    by_cases hp : o.places < k
    · have hn : o.ackOk k = false := by simp [OB.ackOk]; omega
      simp (disch := omega) only [vm0, vm1, vm2, vm3, vm4, vm5, vm6, vm7, fPick, fBox, fBuild, fBsl, fLd, fLda, fSt, fNilc, fBin, fEq, fUn, fMkf, fFa, fFld, fFlda, fExt, evo, wr, wrC, frame, Bool.not_true, Bool.not_false, beq_self_eq_true, List.cons_append, List.nil_append, Nat.add_zero, Nat.zero_add, Nat.reduceAdd, Nat.reduceMul, Nat.reduceSub, Bool.and_true, Bool.true_and, Bool.and_self, beq_dec, fApp, Int.toNat_natCast, Nat.sub_zero, vmI]
      exact ⟨by rw [hn]; rfl, by rw [OB.ack, hn]; exact hF0, .refl, rfl⟩
    · have hn : o.ackOk k = true := by simp [OB.ackOk]; omega
      simp (disch := omega) only [vm0, vm1, vm2, vm3, vm4, vm5, vm6, vm7, fPick, fBox, fBuild, fBsl, fLd, fLda, fSt, fNilc, fBin, fEq, fUn, fMkf, fFa, fFld, fFlda, fExt, evo, wr, wrC, frame, Bool.not_true, Bool.not_false, beq_self_eq_true, List.cons_append, List.nil_append, Nat.add_zero, Nat.zero_add, Nat.reduceAdd, Nat.reduceMul, Nat.reduceSub, Bool.and_true, Bool.true_and, Bool.and_self, beq_dec, fApp, Int.toNat_natCast, Nat.sub_zero, vmI, h1]
      exact ⟨by rw [hn]; rfl, by rw [OB.ack, hn]; exact ⟨v, fv, get_put_eq rfl, h2.fr (fp' := [p]) (.put (.inl (by simp))) (by rintro b hb hm; simp at hm; subst hm; exact h3 hb), h3, rfl, by rw [next_put]; exact h5⟩, .put (.inl (by simp)), rfl⟩
theorem x_write (n : Nat) (s : St) (p : Nat) (o : OB) (fp : List Nat) (v : AV) (l : List Int) (hF : IsX s p o fp) (hv : RdE s v 1 encB l) (hok : o.ok) (hl : o.b.length < 100000) (hl2 : (l.length : Int) < 4611686018427387904) (hb : -1000000000 ≤ o.buffer ∧ o.buffer ≤ 1000000000) (ha : -1000000000 ≤ o.acked ∧ o.acked ≤ 1000000000) :
    OutOk (callF bd (tab h).get fu (n + 1) 43 [.ptr p 0, v] s) (fun x s' => ∃ fp', Is x (num (o.room l.length)) ∧ IsX s' p (o.write l) fp' ∧ Fr s s' fp ∧ Nw s fp fp') := by
  refine call_code (t43 h) rfl ?_
  have hF0 := hF
  obtain ⟨u, fv, h1, h2, h3, rfl, h5⟩ := hF
  cases hc : o.closed
  · have e1 := hv.lenV
    have e2 := h2.rd.lenV
    have hac := hok hc
    obtain ⟨m, hm⟩ : ∃ m, min (min (l.length : Int) (o.buffer - ((o.b.length : Int) - o.acked))) (4096 - (o.b.length : Int)) = m := ⟨_, rfl⟩
    have hroom : o.room l.length = max 0 m := by rw [OB.room, hc, hm]; simp
    have hmin : min o.acked (o.b.length : Int) = o.acked := Int.min_eq_left hac
    simp (disch := omega) only [vm0, vm1, vm2, vm3, vm4, vm5, vm6, vm7, fPick, fBox, fBuild, fBsl, fLd, fLda, fSt, fNilc, fBin, fEq, fUn, fMkf, fFa, fFld, fFlda, fExt, evo, wr, wrC, frame, Bool.not_true, Bool.not_false, beq_self_eq_true, List.cons_append, List.nil_append, Nat.add_zero, Nat.zero_add, Nat.reduceAdd, Nat.reduceMul, Nat.reduceSub, Bool.and_true, Bool.true_and, Bool.and_self, beq_dec, fApp, Int.toNat_natCast, Nat.sub_zero, vmI, vc43, h1, hc, e1, e2, hmin, hm]
    obtain ⟨w, g1, r1⟩ := hv.sliH (b := max m 0) (by omega) (by omega)
    have hcl : (l.take (max m 0).toNat).length ≤ 4096 := by
      have h1 := List.length_take_le (max m 0).toNat l
      have h2 : (max m 0).toNat ≤ 4096 := by omega
      omega
    have e3 : RdE s u 1 encB o.b := h2.rd
    simp (disch := omega) only [vm0, vm1, vm2, vm3, vm4, vm5, vm6, vm7, fPick, fBox, fBuild, fBsl, fLd, fLda, fSt, fNilc, fBin, fEq, fUn, fMkf, fFa, fFld, fFlda, fExt, evo, wr, wrC, frame, Bool.not_true, Bool.not_false, beq_self_eq_true, List.cons_append, List.nil_append, Nat.add_zero, Nat.zero_add, Nat.reduceAdd, Nat.reduceMul, Nat.reduceSub, Bool.and_true, Bool.true_and, Bool.and_self, beq_dec, fApp, Int.toNat_natCast, Nat.sub_zero, vmI, g1, r1.lenOf, r1.cellsOf]
    refine op_app h2 (by (repeat' (first | exact Fr.refl | assumption | apply Fr.new' | apply Fr.mk' | apply Fr.put')) <;> (first | omega | (left; simp; done) | (right; simp only [next_put, next_new, next_mk]; omega) | (simp only [next_put, next_new, next_mk]; omega))) (new := l.take (max m 0).toNat) rfl rfl (by omega) ?_
    intro v' s' fp' q1 q2 q3
    have hp2 := (q2.get h5 h3).trans h1
    simp (disch := omega) only [vm0, vm1, vm2, vm3, vm4, vm5, vm6, vm7, fPick, fBox, fBuild, fBsl, fLd, fLda, fSt, fNilc, fBin, fEq, fUn, fMkf, fFa, fFld, fFlda, fExt, evo, wr, wrC, frame, Bool.not_true, Bool.not_false, beq_self_eq_true, List.cons_append, List.nil_append, Nat.add_zero, Nat.zero_add, Nat.reduceAdd, Nat.reduceMul, Nat.reduceSub, Bool.and_true, Bool.true_and, Bool.and_self, beq_dec, fApp, Int.toNat_natCast, Nat.sub_zero, vmI, hp2, q1.cells]
    have hpf : p ∉ fp' := q3.not h3 h5
    refine ⟨p :: fp', by rw [hroom, Int.max_comm]; rfl, ⟨v', fp', get_put_eq rfl, ?_, hpf, rfl, by rw [next_put]; exact Nat.lt_of_lt_of_le h5 q2.1⟩, .put' (.inl (by simp)) (q2.mono (fun b hb _ => by simp [hb])), q3.cons (Nat.le_refl _)⟩
    rw [OB.write, hroom, Int.max_comm]
    exact q1.fr (fp' := [p]) (.put (.inl (by simp))) (by rintro b hb hm; simp at hm; subst hm; exact hpf hb)
  · have hroom : ∀ k, o.room k = 0 := fun k => by rw [OB.room, hc]; simp
    simp (disch := omega) only [vm0, vm1, vm2, vm3, vm4, vm5, vm6, vm7, fPick, fBox, fBuild, fBsl, fLd, fLda, fSt, fNilc, fBin, fEq, fUn, fMkf, fFa, fFld, fFlda, fExt, evo, wr, wrC, frame, Bool.not_true, Bool.not_false, beq_self_eq_true, List.cons_append, List.nil_append, Nat.add_zero, Nat.zero_add, Nat.reduceAdd, Nat.reduceMul, Nat.reduceSub, Bool.and_true, Bool.true_and, Bool.and_self, beq_dec, fApp, Int.toNat_natCast, Nat.sub_zero, vmI, vc43, h1, hc]
    refine ⟨p :: fv, by rw [hroom]; rfl, ?_, .refl, .refl⟩
    rw [OB.write, hroom]
    simpa using hF0
end
end Go.Proofs.Ytekhpohcjfjhfaa.ctr
namespace Go.Proofs.Ytekhpohcjfjhfaa.ctr
open Go.Vm Go.RowKit Go.Ranges
set_option linter.unusedVariables false
set_option linter.unusedSimpArgs false
theorem IsQ.set {s s' : St} {p : Nat} {l : List R} {t t' : Int} {fp : List Nat} (hF : IsQ s p t l fp) (he : ∀ v, s.heap.get p = some (.cells [num t, v] .own) → s' = s.put p (some (.cells [num t', v] .own))) : IsQ s' p t' l fp ∧ Fr s s' fp := by
  obtain ⟨v, fv, h1, h2, h3, rfl, h5⟩ := hF
  obtain rfl := he v h1
  exact ⟨⟨v, fv, get_put_eq rfl, h2.fr (fp' := [p]) (.put (.inl (by simp))) (by rintro b hb hm; simp at hm; subst hm; exact h3 hb), h3, rfl, by rw [next_put]; exact h5⟩, .put (.inl (by simp))⟩
theorem RdE.f0 {s : St} {v : AV} {l : List R} (h : RdE s v 2 encR l) {i : Nat} {a b : Int} (hx : l[i]? = some (a, b)) : ob (s.heap.get (sblk v)) (rd1C (soff v + i * 2)) = some (num a) := by
  obtain ⟨c, k, q1, q2⟩ := rd_sub (s := s) (b := sblk v) (o := soff v + i * 2) (n := 2) (h.at hx)
  obtain ⟨q3, q4⟩ := sub_some q2
  rw [q1]
  show nth c (soff v + i * 2) = _
  rw [nth_eq]
  have : ((c.drop (soff v + i * 2)).take 2)[0]? = some (num a) := by rw [← q4]; rfl
  rw [List.getElem?_take, if_pos (by omega), List.getElem?_drop] at this
  simpa using this
theorem RdE.f1 {s : St} {v : AV} {l : List R} (h : RdE s v 2 encR l) {i : Nat} {a b : Int} (hx : l[i]? = some (a, b)) : ob (s.heap.get (sblk v)) (rd1C (soff v + i * 2 + 1)) = some (num b) := by
  obtain ⟨c, k, q1, q2⟩ := rd_sub (s := s) (b := sblk v) (o := soff v + i * 2) (n := 2) (h.at hx)
  obtain ⟨q3, q4⟩ := sub_some q2
  rw [q1]
  show nth c (soff v + i * 2 + 1) = _
  rw [nth_eq]
  have : ((c.drop (soff v + i * 2)).take 2)[1]? = some (num b) := by rw [← q4]; rfl
  rw [List.getElem?_take, if_pos (by omega), List.getElem?_drop] at this
  simpa using this
section
variable {bd : Bd} {h : VF} {fu : Nat}
theorem r_missing (n : Nat) (s : St) (p : Nat) (l : List R) (t : Int) (fp : List Nat) (hF : IsQ s p t l fp) : OutOk (callF bd (tab h).get fu (n + 1) 93 [.ptr p 0] s) (fun x s' => RdE s x 2 encR l ∧ Is s' s) := by
  refine call_code (t93 h) rfl ?_
  obtain ⟨v, fv, h1, h2, h3, rfl, h5⟩ := hF
  simp (disch := omega) only [vm0, vm1, vm2, vm3, vm4, vm5, vm6, vm7, fPick, fBox, fBuild, fBsl, fLd, fLda, fSt, fNilc, fBin, fEq, fUn, fMkf, fFa, fFld, fFlda, fExt, evo, wr, wrC, frame, Bool.not_true, Bool.not_false, beq_self_eq_true, List.cons_append, List.nil_append, Nat.add_zero, Nat.zero_add, Nat.reduceAdd, Nat.reduceMul, Nat.reduceSub, Bool.and_true, Bool.true_and, Bool.and_self, beq_dec, fApp, Int.toNat_natCast, Nat.sub_zero, vmI, vc93, h1]
  exact ⟨h2.rd, rfl⟩
theorem r_lost (n : Nat) (s : St) (p : Nat) (l : List R) (t : Int) (fp : List Nat) (a b : Int) (hF : IsQ s p t l fp) (hw : WFr 0 l) (hlen : l.length < fu) (hl : l.length < 100000) : OutOk (callF bd (tab h).get fu (n + 3) 45 [.ptr p 0, num a, num b] s) (fun x s' => ∃ fp', IsQ s' p t (addC a b l) fp' ∧ Fr s s' fp ∧ Nw s fp fp') := by
  refine call_code (t45 h) rfl ?_
  simp (disch := omega) only [vm0, vm1, vm2, vm3, vm4, vm5, vm6, vm7, fPick, fBox, fBuild, fBsl, fLd, fLda, fSt, fNilc, fBin, fEq, fUn, fMkf, fFa, fFld, fFlda, fExt, evo, wr, wrC, frame, Bool.not_true, Bool.not_false, beq_self_eq_true, List.cons_append, List.nil_append, Nat.add_zero, Nat.zero_add, Nat.reduceAdd, Nat.reduceMul, Nat.reduceSub, Bool.and_true, Bool.true_and, Bool.and_self, beq_dec, fApp, Int.toNat_natCast, Nat.sub_zero, vmI, vc45]
  refine call_ok rfl rfl (q_add1 n s p t l fp a b hF hw hlen hl) ?_
  rintro x s' ⟨f, q1, q2, q3⟩
  simp (disch := omega) only [vm0, vm1, vm2, vm3, vm4, vm5, vm6, vm7, fPick, fBox, fBuild, fBsl, fLd, fLda, fSt, fNilc, fBin, fEq, fUn, fMkf, fFa, fFld, fFlda, fExt, evo, wr, wrC, frame, Bool.not_true, Bool.not_false, beq_self_eq_true, List.cons_append, List.nil_append, Nat.add_zero, Nat.zero_add, Nat.reduceAdd, Nat.reduceMul, Nat.reduceSub, Bool.and_true, Bool.true_and, Bool.and_self, beq_dec, fApp, Int.toNat_natCast, Nat.sub_zero, vmI]
  exact ⟨f, q1, q2, q3⟩
theorem r_next (n : Nat) (s : St) (p q : Nat) (l : List R) (t : Int) (o : OB) (fp fo : List Nat) (limit chunk : Int) (hF : IsQ s p t l fp) (hO : IsX s q o fo) (hd : ∀ b ∈ fo, b ∉ fp) (hw : WFr 0 l) (hlen : 2 * l.length < fu) (hfu : 10 < fu) (hl : l.length < 40000) (hb : o.b.length < 1000000) (hL : -1000000000 ≤ limit ∧ limit ≤ 1000000000) (ht : 0 ≤ t ∧ t ≤ 1000000000) (hr : ∀ r ∈ cutC 0 o.acked l, r.2 ≤ o.places) :
    OutOk (callF bd (tab h).get fu (n + 3) 46 [.ptr p 0, .ptr q 0, num limit, num chunk] s) (fun x s' => ∃ fp', Is x (.tup [num (nextP o limit chunk l t).a, num (nextP o limit chunk l t).b, .bool (nextP o limit chunk l t).ok]) ∧ IsQ s' p (nextP o limit chunk l t).t (nextP o limit chunk l t).l fp' ∧ Fr s s' fp ∧ Nw s fp fp') := by
  refine call_code (t46 h) rfl ?_
  obtain ⟨w, fw, o1, o2, o3, rfl, o5⟩ := id hO
  simp (disch := omega) only [vm0, vm1, vm2, vm3, vm4, vm5, vm6, vm7, fPick, fBox, fBuild, fBsl, fLd, fLda, fSt, fNilc, fBin, fEq, fUn, fMkf, fFa, fFld, fFlda, fExt, evo, wr, wrC, frame, Bool.not_true, Bool.not_false, beq_self_eq_true, List.cons_append, List.nil_append, Nat.add_zero, Nat.zero_add, Nat.reduceAdd, Nat.reduceMul, Nat.reduceSub, Bool.and_true, Bool.true_and, Bool.and_self, beq_dec, fApp, Int.toNat_natCast, Nat.sub_zero, vmI, vc46]
  refine call_ok rfl rfl (r_clamp (n + 1) s chunk 1 64) ?_
  rintro x s ⟨rfl, rfl⟩
  obtain ⟨m, hm⟩ : ∃ m, min (max chunk 1) 64 = m := ⟨_, rfl⟩
  have hcm : clampC chunk = m := hm
  rw [hm]
  simp (disch := omega) only [vm0, vm1, vm2, vm3, vm4, vm5, vm6, vm7, fPick, fBox, fBuild, fBsl, fLd, fLda, fSt, fNilc, fBin, fEq, fUn, fMkf, fFa, fFld, fFlda, fExt, evo, wr, wrC, frame, Bool.not_true, Bool.not_false, beq_self_eq_true, List.cons_append, List.nil_append, Nat.add_zero, Nat.zero_add, Nat.reduceAdd, Nat.reduceMul, Nat.reduceSub, Bool.and_true, Bool.true_and, Bool.and_self, beq_dec, fApp, Int.toNat_natCast, Nat.sub_zero, vmI, o1]
  refine call_ok rfl rfl (q_cut1 n s p t l fp 0 o.acked hF (by omega) (by omega)) ?_
  rintro x s1 ⟨f1, q1, q2, q3⟩
  obtain ⟨l1, hl1⟩ : ∃ l1, cutC 0 o.acked l = l1 := ⟨_, rfl⟩
  have hq1 : IsQ s1 p t l1 f1 := by rw [← hl1]; exact q1
  have hw1 : WFr 0 l1 := by rw [← hl1]; exact cutC_wf hw
  have hlen1 : l1.length ≤ 2 * l.length := by rw [← hl1]; exact cutC_len l
  have hO1 : IsX s1 q o _ := hO.fr q2 hd
  have o1' := (q2.2 q o5 (hd q (by simp))).trans o1
  obtain ⟨v, fv, h1, h2, h3, rfl, h5⟩ := id hq1
  simp (disch := omega) only [vm0, vm1, vm2, vm3, vm4, vm5, vm6, vm7, fPick, fBox, fBuild, fBsl, fLd, fLda, fSt, fNilc, fBin, fEq, fUn, fMkf, fFa, fFld, fFlda, fExt, evo, wr, wrC, frame, Bool.not_true, Bool.not_false, beq_self_eq_true, List.cons_append, List.nil_append, Nat.add_zero, Nat.zero_add, Nat.reduceAdd, Nat.reduceMul, Nat.reduceSub, Bool.and_true, Bool.true_and, Bool.and_self, beq_dec, fApp, Int.toNat_natCast, Nat.sub_zero, vmI, o1, o1']
  have hnq : ∀ b ∈ q :: fw, b ∉ fv := fun b hb hm => by
    rcases q3 b (by simp [hm]) with h | h
    · exact hd b hb h
    · have := hO.lt b hb; omega
  simp (disch := omega) only [vm0, vm1, vm2, vm3, vm4, vm5, vm6, vm7, fPick, fBox, fBuild, fBsl, fLd, fLda, fSt, fNilc, fBin, fEq, fUn, fMkf, fFa, fFld, fFlda, fExt, evo, wr, wrC, frame, Bool.not_true, Bool.not_false, beq_self_eq_true, List.cons_append, List.nil_append, Nat.add_zero, Nat.zero_add, Nat.reduceAdd, Nat.reduceMul, Nat.reduceSub, Bool.and_true, Bool.true_and, Bool.and_self, beq_dec, fApp, Int.toNat_natCast, Nat.sub_zero, vmI, h1]
  refine call_ok rfl rfl (x_open n s1 q o _ limit hO1 hb) ?_
  rintro x s1 ⟨rfl, rfl⟩
  have hzb := o.open_bd (limit := limit)
  obtain ⟨z, hz⟩ : ∃ z, o.open_ limit = z := ⟨_, rfl⟩
  rw [hz] at hzb
  rw [hz]
  simp (disch := omega) only [vm0, vm1, vm2, vm3, vm4, vm5, vm6, vm7, fPick, fBox, fBuild, fBsl, fLd, fLda, fSt, fNilc, fBin, fEq, fUn, fMkf, fFa, fFld, fFlda, fExt, evo, wr, wrC, frame, Bool.not_true, Bool.not_false, beq_self_eq_true, List.cons_append, List.nil_append, Nat.add_zero, Nat.zero_add, Nat.reduceAdd, Nat.reduceMul, Nat.reduceSub, Bool.and_true, Bool.true_and, Bool.and_self, beq_dec, fApp, Int.toNat_natCast, Nat.sub_zero, vmI, h1, h2.rd.lenV]
  rw [hl1] at hr
  cases l1 with
  | nil =>
    by_cases hc : z ≤ t
    · simp (disch := omega) only [vm0, vm1, vm2, vm3, vm4, vm5, vm6, vm7, fPick, fBox, fBuild, fBsl, fLd, fLda, fSt, fNilc, fBin, fEq, fUn, fMkf, fFa, fFld, fFlda, fExt, evo, wr, wrC, frame, Bool.not_true, Bool.not_false, beq_self_eq_true, List.cons_append, List.nil_append, Nat.add_zero, Nat.zero_add, Nat.reduceAdd, Nat.reduceMul, Nat.reduceSub, Bool.and_true, Bool.true_and, Bool.and_self, beq_dec, fApp, Int.toNat_natCast, Nat.sub_zero, vmI, List.length_nil]
      have hN : nextP o limit chunk l t = ⟨[], t, 0, 0, false⟩ := by unfold nextP; rw [hl1, hz, if_pos rfl, if_pos hc]
      rw [hN]
      exact ⟨_, rfl, hq1, q2, q3⟩
    · have hpm := pieceM_q (c := m) (cl := o.closed) (len := (o.b.length : Int)) (show t < z by omega) (by rw [← hz]; unfold OB.open_ OB.places; split <;> split <;> omega) (by omega)
      have hN : nextP o limit chunk l t = ⟨[], pieceM o.b.length o.closed t z m, t, pieceM o.b.length o.closed t z m, true⟩ := by unfold nextP; rw [hl1, hz, hcm, if_pos rfl, if_neg hc]
      rw [hN, hpm]
      obtain ⟨y, hy⟩ : ∃ y, min z (t + m) = y := ⟨_, rfl⟩
      rw [hy]
      by_cases c1 : y = (o.b.length : Int) ∧ y < z
      · rw [if_pos c1]
        obtain ⟨c1, c2⟩ := c1
        simp (disch := omega) only [vm0, vm1, vm2, vm3, vm4, vm5, vm6, vm7, fPick, fBox, fBuild, fBsl, fLd, fLda, fSt, fNilc, fBin, fEq, fUn, fMkf, fFa, fFld, fFlda, fExt, evo, wr, wrC, frame, Bool.not_true, Bool.not_false, beq_self_eq_true, List.cons_append, List.nil_append, Nat.add_zero, Nat.zero_add, Nat.reduceAdd, Nat.reduceMul, Nat.reduceSub, Bool.and_true, Bool.true_and, Bool.and_self, beq_dec, fApp, Int.toNat_natCast, Nat.sub_zero, vmI, List.length_nil, hy, o1', o2.rd.lenV, h1]
        obtain ⟨k1, k2⟩ := hq1.set (t' := z) (fun v' hv' => by rw [h1] at hv'; cases hv'; rfl)
        exact ⟨_, rfl, k1, q2.trans k2 (fun b hb _ => hb) (fun b hb hlt => (q3 b hb).resolve_right (by omega)), q3⟩
      · rw [if_neg c1]
        by_cases c2 : y = (o.b.length : Int)
        · simp (disch := omega) only [vm0, vm1, vm2, vm3, vm4, vm5, vm6, vm7, fPick, fBox, fBuild, fBsl, fLd, fLda, fSt, fNilc, fBin, fEq, fUn, fMkf, fFa, fFld, fFlda, fExt, evo, wr, wrC, frame, Bool.not_true, Bool.not_false, beq_self_eq_true, List.cons_append, List.nil_append, Nat.add_zero, Nat.zero_add, Nat.reduceAdd, Nat.reduceMul, Nat.reduceSub, Bool.and_true, Bool.true_and, Bool.and_self, beq_dec, fApp, Int.toNat_natCast, Nat.sub_zero, vmI, List.length_nil, hy, o1', o2.rd.lenV, h1]
          obtain ⟨k1, k2⟩ := hq1.set (t' := y) (fun v' hv' => by rw [h1] at hv'; cases hv'; rfl)
          exact ⟨_, rfl, k1, q2.trans k2 (fun b hb _ => hb) (fun b hb hlt => (q3 b hb).resolve_right (by omega)), q3⟩
        · simp (disch := omega) only [vm0, vm1, vm2, vm3, vm4, vm5, vm6, vm7, fPick, fBox, fBuild, fBsl, fLd, fLda, fSt, fNilc, fBin, fEq, fUn, fMkf, fFa, fFld, fFlda, fExt, evo, wr, wrC, frame, Bool.not_true, Bool.not_false, beq_self_eq_true, List.cons_append, List.nil_append, Nat.add_zero, Nat.zero_add, Nat.reduceAdd, Nat.reduceMul, Nat.reduceSub, Bool.and_true, Bool.true_and, Bool.and_self, beq_dec, fApp, Int.toNat_natCast, Nat.sub_zero, vmI, List.length_nil, hy, o1', o2.rd.lenV, h1]
          obtain ⟨k1, k2⟩ := hq1.set (t' := y) (fun v' hv' => by rw [h1] at hv'; cases hv'; rfl)
          exact ⟨_, rfl, k1, q2.trans k2 (fun b hb _ => hb) (fun b hb hlt => (q3 b hb).resolve_right (by omega)), q3⟩
  | cons r l1 =>
    obtain ⟨a, b⟩ := r
    have hlb := hw1.lb (a, b) (by simp)
    have hrb := hr (a, b) (by simp)
    simp only [far] at hlb
    have hx : ((a, b) :: l1)[0]? = some (a, b) := rfl
    have e1 := h2.rd.ia hx
    have e3 := RdE.f0 h2.rd hx
    have e4 := RdE.f1 h2.rd hx
    have eb := h2.rd.blk' hx
    simp only [Int.natCast_zero, Nat.zero_mul, Nat.add_zero] at e1 e3 e4
    have hpm := pieceM_q (c := m) (cl := o.closed) (len := (o.b.length : Int)) (show a < b by omega) hrb (by omega)
    obtain ⟨y, hy⟩ : ∃ y, min b (a + m) = y := ⟨_, rfl⟩
    rw [hy] at hpm
    by_cases c1 : y = (o.b.length : Int) ∧ y < b
    · rw [if_pos c1] at hpm
      obtain ⟨c1, c2⟩ := c1
      have hN : nextP o limit chunk l t = ⟨cutC a b ((a, b) :: l1), t, a, b, true⟩ := by unfold nextP; rw [hl1, hcm, if_neg (by simp)]; simp only [List.headD_cons, hpm]
      rw [hN]
      simp (disch := omega) only [vm0, vm1, vm2, vm3, vm4, vm5, vm6, vm7, fPick, fBox, fBuild, fBsl, fLd, fLda, fSt, fNilc, fBin, fEq, fUn, fMkf, fFa, fFld, fFlda, fExt, evo, wr, wrC, frame, Bool.not_true, Bool.not_false, beq_self_eq_true, List.cons_append, List.nil_append, Nat.add_zero, Nat.zero_add, Nat.reduceAdd, Nat.reduceMul, Nat.reduceSub, Bool.and_true, Bool.true_and, Bool.and_self, beq_dec, fApp, Int.toNat_natCast, Nat.sub_zero, vmI, List.length_cons, h1, e1, e3, e4, hy, o1', o2.rd.lenV]
      refine call_ok rfl rfl (q_cut1 n s1 p t ((a, b) :: l1) _ a b hq1 (by simp only [List.length_cons] at *; omega) (by simp only [List.length_cons] at *; omega)) ?_
      rintro x s4 ⟨f4, q5, q6, q7⟩
      simp (disch := omega) only [vm0, vm1, vm2, vm3, vm4, vm5, vm6, vm7, fPick, fBox, fBuild, fBsl, fLd, fLda, fSt, fNilc, fBin, fEq, fUn, fMkf, fFa, fFld, fFlda, fExt, evo, wr, wrC, frame, Bool.not_true, Bool.not_false, beq_self_eq_true, List.cons_append, List.nil_append, Nat.add_zero, Nat.zero_add, Nat.reduceAdd, Nat.reduceMul, Nat.reduceSub, Bool.and_true, Bool.true_and, Bool.and_self, beq_dec, fApp, Int.toNat_natCast, Nat.sub_zero, vmI]
      exact ⟨f4, rfl, q5, q2.trans q6 (fun b hb _ => hb) (fun b hb hlt => (q3 b hb).resolve_right (by omega)), fun b hb => (q7 b hb).elim (fun h => q3 b h) (fun h => .inr (Nat.le_trans q2.1 h))⟩
    · rw [if_neg c1] at hpm
      have hN : nextP o limit chunk l t = ⟨cutC a y ((a, b) :: l1), t, a, y, true⟩ := by unfold nextP; rw [hl1, hcm, if_neg (by simp)]; simp only [List.headD_cons, hpm]
      rw [hN]
      by_cases c2 : y = (o.b.length : Int)
      · simp (disch := omega) only [vm0, vm1, vm2, vm3, vm4, vm5, vm6, vm7, fPick, fBox, fBuild, fBsl, fLd, fLda, fSt, fNilc, fBin, fEq, fUn, fMkf, fFa, fFld, fFlda, fExt, evo, wr, wrC, frame, Bool.not_true, Bool.not_false, beq_self_eq_true, List.cons_append, List.nil_append, Nat.add_zero, Nat.zero_add, Nat.reduceAdd, Nat.reduceMul, Nat.reduceSub, Bool.and_true, Bool.true_and, Bool.and_self, beq_dec, fApp, Int.toNat_natCast, Nat.sub_zero, vmI, List.length_cons, h1, e1, e3, e4, hy, o1', o2.rd.lenV]
        refine call_ok rfl rfl (q_cut1 n s1 p t ((a, b) :: l1) _ a y hq1 (by simp only [List.length_cons] at *; omega) (by simp only [List.length_cons] at *; omega)) ?_
        rintro x s4 ⟨f4, q5, q6, q7⟩
        simp (disch := omega) only [vm0, vm1, vm2, vm3, vm4, vm5, vm6, vm7, fPick, fBox, fBuild, fBsl, fLd, fLda, fSt, fNilc, fBin, fEq, fUn, fMkf, fFa, fFld, fFlda, fExt, evo, wr, wrC, frame, Bool.not_true, Bool.not_false, beq_self_eq_true, List.cons_append, List.nil_append, Nat.add_zero, Nat.zero_add, Nat.reduceAdd, Nat.reduceMul, Nat.reduceSub, Bool.and_true, Bool.true_and, Bool.and_self, beq_dec, fApp, Int.toNat_natCast, Nat.sub_zero, vmI]
        exact ⟨f4, rfl, q5, q2.trans q6 (fun b hb _ => hb) (fun b hb hlt => (q3 b hb).resolve_right (by omega)), fun b hb => (q7 b hb).elim (fun h => q3 b h) (fun h => .inr (Nat.le_trans q2.1 h))⟩
      · simp (disch := omega) only [vm0, vm1, vm2, vm3, vm4, vm5, vm6, vm7, fPick, fBox, fBuild, fBsl, fLd, fLda, fSt, fNilc, fBin, fEq, fUn, fMkf, fFa, fFld, fFlda, fExt, evo, wr, wrC, frame, Bool.not_true, Bool.not_false, beq_self_eq_true, List.cons_append, List.nil_append, Nat.add_zero, Nat.zero_add, Nat.reduceAdd, Nat.reduceMul, Nat.reduceSub, Bool.and_true, Bool.true_and, Bool.and_self, beq_dec, fApp, Int.toNat_natCast, Nat.sub_zero, vmI, List.length_cons, h1, e1, e3, e4, hy, o1', o2.rd.lenV]
        refine call_ok rfl rfl (q_cut1 n s1 p t ((a, b) :: l1) _ a y hq1 (by simp only [List.length_cons] at *; omega) (by simp only [List.length_cons] at *; omega)) ?_
        rintro x s4 ⟨f4, q5, q6, q7⟩
        simp (disch := omega) only [vm0, vm1, vm2, vm3, vm4, vm5, vm6, vm7, fPick, fBox, fBuild, fBsl, fLd, fLda, fSt, fNilc, fBin, fEq, fUn, fMkf, fFa, fFld, fFlda, fExt, evo, wr, wrC, frame, Bool.not_true, Bool.not_false, beq_self_eq_true, List.cons_append, List.nil_append, Nat.add_zero, Nat.zero_add, Nat.reduceAdd, Nat.reduceMul, Nat.reduceSub, Bool.and_true, Bool.true_and, Bool.and_self, beq_dec, fApp, Int.toNat_natCast, Nat.sub_zero, vmI]
        exact ⟨f4, rfl, q5, q2.trans q6 (fun b hb _ => hb) (fun b hb hlt => (q3 b hb).resolve_right (by omega)), fun b hb => (q7 b hb).elim (fun h => q3 b h) (fun h => .inr (Nat.le_trans q2.1 h))⟩
end
end Go.Proofs.Ytekhpohcjfjhfaa.ctr
namespace Go.Proofs.Ytekhpohcjfjhfaa.ctr
open Go.Vm Go.RowKit Go.Ranges
set_option linter.unusedVariables false
set_option linter.unusedSimpArgs false
theorem fcve {L F : LF} {s : St} {x : Od} {b o len lo sz : Nat} {ex : Bool} {cs : List AV} (h1 : ev L F x = some (.sl b o len lo ex sz)) (h2 : s.heap.get b = some (.cells cs .own)) : fCve L F s x = some (.sl b o len lo ex sz) := by
  unfold fCve
  rw [h1]
  show ob (s.heap.get b) _ = _
  rw [h2]; rfl
section
variable {bd : Bd} {h : VF} {fu : Nat}
theorem wakes14 (n : Nat) (s : St) (hfu : 10 < fu) : OutOk (callF bd (tab h).get fu (n + 4) 38 [] s) (fun x s' => Is x (.bool true) ∧ Fr s s' []) := by
  refine call_code (t38 h) rfl ?_
  simp (disch := omega) only [vm0, vm1, vm2, vm3, vm4, vm5, vm6, vm7, fPick, fBox, fBuild, fBsl, fLd, fLda, fSt, fNilc, fBin, fEq, fUn, fMkf, fFa, fFld, fFlda, fExt, evo, wr, wrC, frame, Bool.not_true, Bool.not_false, beq_self_eq_true, List.cons_append, List.nil_append, Nat.add_zero, Nat.zero_add, Nat.reduceAdd, Nat.reduceMul, Nat.reduceSub, Bool.and_true, Bool.true_and, Bool.and_self, beq_dec, fApp, Int.toNat_natCast, Nat.sub_zero, vmI, vc38]
  refine call_ok rfl rfl (p_new (n + 1) s) ?_
  rintro x s1 ⟨p, fp, rfl, q1, q2, q3⟩
  simp (disch := omega) only [vm0, vm1, vm2, vm3, vm4, vm5, vm6, vm7, fPick, fBox, fBuild, fBsl, fLd, fLda, fSt, fNilc, fBin, fEq, fUn, fMkf, fFa, fFld, fFlda, fExt, evo, wr, wrC, frame, Bool.not_true, Bool.not_false, beq_self_eq_true, List.cons_append, List.nil_append, Nat.add_zero, Nat.zero_add, Nat.reduceAdd, Nat.reduceMul, Nat.reduceSub, Bool.and_true, Bool.true_and, Bool.and_self, beq_dec, fApp, Int.toNat_natCast, Nat.sub_zero, vmI]
  refine call_ok rfl rfl (o_new (n + 2) s1 50) ?_
  rintro x s2 ⟨q, rfl, hq, q5, q6⟩
  have q1' := q1.fr q5 (by simp)
  have hp : p < s1.next := q1.lt p (by obtain ⟨_, _, _, _, _, rfl, _⟩ := q1; simp)
  have hd : ∀ b ∈ [q], b ∉ fp := by
    intro b hb hm
    simp at hb
    subst hb
    have := q1.lt b hm
    omega
  simp (disch := omega) only [vm0, vm1, vm2, vm3, vm4, vm5, vm6, vm7, fPick, fBox, fBuild, fBsl, fLd, fLda, fSt, fNilc, fBin, fEq, fUn, fMkf, fFa, fFld, fFlda, fExt, evo, wr, wrC, frame, Bool.not_true, Bool.not_false, beq_self_eq_true, List.cons_append, List.nil_append, Nat.add_zero, Nat.zero_add, Nat.reduceAdd, Nat.reduceMul, Nat.reduceSub, Bool.and_true, Bool.true_and, Bool.and_self, beq_dec, fApp, Int.toNat_natCast, Nat.sub_zero, vmI]
  refine call_ok rfl rfl (p_next n s2 p q [] 0 _ fp [q] 50 5 q1' q6 hd trivial (by simp; omega) hfu (by simp) (by simp) (by omega) (by omega)) ?_
  rintro x s3 ⟨f3, rfl, r1, r2, r3⟩
  have hN : nextP ⟨[], min (max 50 1) 400, 0, false⟩ 50 5 [] 0 = ⟨[], 0, 0, 0, false⟩ := rfl
  rw [hN] at *
  have r6 := q6.fr r2 hd
  simp (disch := omega) only [vm0, vm1, vm2, vm3, vm4, vm5, vm6, vm7, fPick, fBox, fBuild, fBsl, fLd, fLda, fSt, fNilc, fBin, fEq, fUn, fMkf, fFa, fFld, fFlda, fExt, evo, wr, wrC, frame, Bool.not_true, Bool.not_false, beq_self_eq_true, List.cons_append, List.nil_append, Nat.add_zero, Nat.zero_add, Nat.reduceAdd, Nat.reduceMul, Nat.reduceSub, Bool.and_true, Bool.true_and, Bool.and_self, beq_dec, fApp, Int.toNat_natCast, Nat.sub_zero, vmI]
  obtain ⟨s4, e4⟩ : ∃ s4, s3.new (.cells [.int .u8 (.c 97), .int .u8 (.c 98), .int .u8 (.c 99), .int .u8 (.c 100), .int .u8 (.c 101), .int .u8 (.c 102), .int .u8 (.c 103), .int .u8 (.c 104)] .own) = s4 := ⟨_, rfl⟩
  have g4 : s4.heap.get s3.next = some (.cells [.int .u8 (.c 97), .int .u8 (.c 98), .int .u8 (.c 99), .int .u8 (.c 100), .int .u8 (.c 101), .int .u8 (.c 102), .int .u8 (.c 103), .int .u8 (.c 104)] .own) := by rw [← e4]; exact get_new_eq rfl
  have f4 : Fr s3 s4 [] := by rw [← e4]; exact .new
  have n4 : s4.next = s3.next + 1 := by rw [← e4]; rfl
  have hU : RdE s4 (.sl s3.next 0 8 8 true 1) 1 encB [97, 98, 99, 100, 101, 102, 103, 104] := by
    refine ⟨⟨⟨rfl, Nat.le_refl _⟩, rfl, ?_⟩, fun _ => rfl, by omega, by show s3.next < _; omega⟩
    show ob (s4.heap.get s3.next) (rdC 0 (8 * 1)) = _
    rw [g4]; rfl
  rw [e4]
  rw [fcve (x := .t 0) rfl g4]
  have r1' := r1.fr f4 (by simp)
  have r6' := r6.fr f4 (by simp)
  simp (disch := omega) only [vm0, vm1, vm2, vm3, vm4, vm5, vm6, vm7, fPick, fBox, fBuild, fBsl, fLd, fLda, fSt, fNilc, fBin, fEq, fUn, fMkf, fFa, fFld, fFlda, fExt, evo, wr, wrC, frame, Bool.not_true, Bool.not_false, beq_self_eq_true, List.cons_append, List.nil_append, Nat.add_zero, Nat.zero_add, Nat.reduceAdd, Nat.reduceMul, Nat.reduceSub, Bool.and_true, Bool.true_and, Bool.and_self, beq_dec, fApp, Int.toNat_natCast, Nat.sub_zero, vmI]
  refine call_ok rfl rfl (o_write n s4 q _ [q] _ _ r6' hU (by simp) (by simp) (by decide) (by decide) hfu) ?_
  rintro x s5 ⟨f5, rfl, r7, r8, r9⟩
  have hd5 : ∀ b ∈ f3, b ∉ [q] := by
    intro b hb hm
    simp at hm
    subst hm
    rcases r3 b hb with h | h
    · exact hd b (by simp) h
    · have := r6.lt b (by simp)
      have := q6.lt b (by simp)
      omega
  have r1'' := r1'.fr r8 hd5
  have hW : (⟨[], min (max 50 1) 400, 0, false⟩ : OB).write [97, 98, 99, 100, 101, 102, 103, 104] = ⟨[97, 98, 99, 100, 101, 102, 103, 104], 50, 0, false⟩ := rfl
  rw [hW] at r7
  have hd6 : ∀ b ∈ f5, b ∉ f3 := by
    intro b hb hm
    rcases r9 b hb with h | h
    · exact hd5 b hm h
    · have := r1'.lt b hm; omega
  simp (disch := omega) only [vm0, vm1, vm2, vm3, vm4, vm5, vm6, vm7, fPick, fBox, fBuild, fBsl, fLd, fLda, fSt, fNilc, fBin, fEq, fUn, fMkf, fFa, fFld, fFlda, fExt, evo, wr, wrC, frame, Bool.not_true, Bool.not_false, beq_self_eq_true, List.cons_append, List.nil_append, Nat.add_zero, Nat.zero_add, Nat.reduceAdd, Nat.reduceMul, Nat.reduceSub, Bool.and_true, Bool.true_and, Bool.and_self, beq_dec, fApp, Int.toNat_natCast, Nat.sub_zero, vmI]
  refine call_ok rfl rfl (p_next n s5 p q [] 0 _ f3 f5 50 5 r1'' r7 hd6 trivial (by simp; omega) hfu (by simp) (by simp) (by omega) (by omega)) ?_
  rintro x s6 ⟨f6, rfl, t1, t2, t3⟩
  have hN : nextP ⟨[97, 98, 99, 100, 101, 102, 103, 104], 50, 0, false⟩ 50 5 [] 0 = ⟨[], 5, 0, 5, true⟩ := rfl
  rw [hN] at *
  simp (disch := omega) only [vm0, vm1, vm2, vm3, vm4, vm5, vm6, vm7, fPick, fBox, fBuild, fBsl, fLd, fLda, fSt, fNilc, fBin, fEq, fUn, fMkf, fFa, fFld, fFlda, fExt, evo, wr, wrC, frame, Bool.not_true, Bool.not_false, beq_self_eq_true, List.cons_append, List.nil_append, Nat.add_zero, Nat.zero_add, Nat.reduceAdd, Nat.reduceMul, Nat.reduceSub, Bool.and_true, Bool.true_and, Bool.and_self, beq_dec, fApp, Int.toNat_natCast, Nat.sub_zero, vmI]
  refine call_ok rfl rfl (p_sent (n + 2) s6 p _ _ _ t1) ?_
  rintro x s6 ⟨rfl, rfl⟩
  simp (disch := omega) only [vm0, vm1, vm2, vm3, vm4, vm5, vm6, vm7, fPick, fBox, fBuild, fBsl, fLd, fLda, fSt, fNilc, fBin, fEq, fUn, fMkf, fFa, fFld, fFlda, fExt, evo, wr, wrC, frame, Bool.not_true, Bool.not_false, beq_self_eq_true, List.cons_append, List.nil_append, Nat.add_zero, Nat.zero_add, Nat.reduceAdd, Nat.reduceMul, Nat.reduceSub, Bool.and_true, Bool.true_and, Bool.and_self, beq_dec, fApp, Int.toNat_natCast, Nat.sub_zero, vmI]
  have k1 := q2.trans q5 (fp2 := []) (by simp) (by simp)
  have k2 := k1.nn r2 q3
  have k3 := k2.trans f4 (fp2 := []) (by simp) (by simp)
  have k4 := k3.nn r8 (fun b hb => .inr (by simp at hb; have := q2.1; omega))
  exact ⟨rfl, k4.nn t2 (q3.nn r3 k1.1)⟩
end
end Go.Proofs.Ytekhpohcjfjhfaa.ctr
namespace Go.Proofs.Ytekhpohcjfjhfaa.ctr
open Go.Vm Go.RowKit Go.Ranges
set_option linter.unusedVariables false
set_option linter.unusedSimpArgs false
/-- what stands in memory, at a footprint -/
structure Obj where
  P : St → List Nat → Prop
  fr : ∀ {s s' : St} {fp fp' : List Nat}, P s fp → Fr s s' fp' → (∀ b ∈ fp, b ∉ fp') → P s' fp
  lt : ∀ {s : St} {fp : List Nat}, P s fp → Lt s fp
/-- things that stand in memory, apart -/
def SepF (s : St) : List Obj → List Nat → Prop
  | [], fp => fp = []
  | P :: Ps, fp => ∃ f g, P.P s f ∧ SepF s Ps g ∧ (∀ b ∈ f, b ∉ g) ∧ fp = f ++ g
theorem SepF.fr {s s' : St} {fp' : List Nat} : ∀ {Ps : List Obj} {fp : List Nat}, SepF s Ps fp → Fr s s' fp' → (∀ b ∈ fp, b ∉ fp') → SepF s' Ps fp
  | [], _, h, _, _ => h
  | P :: Ps, _, ⟨f, g, h1, h2, h3, h4⟩, hf, hd => ⟨f, g, P.fr h1 hf fun b hb => hd b (by rw [h4]; simp [hb]), SepF.fr h2 hf fun b hb => hd b (by rw [h4]; simp [hb]), h3, h4⟩
theorem SepF.lt {s : St} : ∀ {Ps : List Obj} {fp : List Nat}, SepF s Ps fp → Lt s fp
  | [], _, h => by intro b hb; rw [show _ = [] from h] at hb; simp at hb
  | P :: Ps, _, ⟨f, g, h1, h2, h3, h4⟩ => by
    intro b hb
    rw [h4] at hb
    rcases List.mem_append.1 hb with hb | hb
    · exact P.lt h1 b hb
    · exact SepF.lt h2 b hb
def Sep (s0 s : St) (Ps : List Obj) : Prop := ∃ fp, SepF s Ps fp ∧ Nw s0 [] fp ∧ Fr s0 s []
theorem Sep.nil {s : St} : Sep s s [] := ⟨[], rfl, by simp [Nw], .refl⟩
theorem Sep.frm {s0 s : St} {Ps : List Obj} (h : Sep s0 s Ps) : Fr s0 s [] := by obtain ⟨_, _, _, h⟩ := h; exact h
theorem Sep.fr {s0 s s' : St} {Ps : List Obj} (h : Sep s0 s Ps) (hf : Fr s s' []) : Sep s0 s' Ps := by
  obtain ⟨fp, h1, h2, h3⟩ := h
  exact ⟨fp, h1.fr hf (by simp), h2, h3.trans hf (fp2 := []) (by simp) (by simp)⟩
theorem Sep.push {s0 s s' : St} {P : Obj} {Ps : List Obj} {f : List Nat} (h : Sep s0 s Ps) (hp : P.P s' f) (hf : Fr s s' []) (hn : Nw s [] f) : Sep s0 s' (P :: Ps) := by
  obtain ⟨fp, h1, h2, h3⟩ := h
  refine ⟨f ++ fp, ⟨f, fp, hp, h1.fr hf (by simp), ?_, rfl⟩, ?_, h3.trans hf (fp2 := []) (by simp) (by simp)⟩
  · intro b hb hm
    have := h1.lt b hm
    have := hn b hb
    simp at this
    omega
  · intro b hb
    rcases List.mem_append.1 hb with hb | hb
    · rcases hn b hb with h | h
      · simp at h
      · exact .inr (Nat.le_trans h3.1 h)
    · exact h2 b hb
theorem Sep.drop {s0 s : St} {P : Obj} {Ps : List Obj} (h : Sep s0 s (P :: Ps)) : Sep s0 s Ps := by
  obtain ⟨fp, ⟨f, g, h1, h2, h3, rfl⟩, h4, h5⟩ := h
  exact ⟨g, h2, fun b hb => h4 b (by simp [hb]), h5⟩
theorem Sep.swap {s0 s : St} {P Q : Obj} {Ps : List Obj} (h : Sep s0 s (P :: Q :: Ps)) : Sep s0 s (Q :: P :: Ps) := by
  obtain ⟨fp, ⟨f, g, h1, ⟨f2, g2, h2, h3, h4, rfl⟩, h5, rfl⟩, h6, h7⟩ := h
  refine ⟨f2 ++ (f ++ g2), ⟨f2, f ++ g2, h2, ⟨f, g2, h1, h3, fun b hb hm => h5 b hb (by simp [hm]), rfl⟩, ?_, rfl⟩, fun b hb => h6 b (by simp only [List.mem_append] at *; rcases hb with h | h | h <;> simp [h]), h7⟩
  intro b hb hm
  rcases List.mem_append.1 hm with hm | hm
  · exact h5 b hm (by simp [hb])
  · exact h4 b hb hm
/-- the first of them, and how it is changed -/
theorem Sep.hd {s0 s : St} {P : Obj} {Ps : List Obj} (h : Sep s0 s (P :: Ps)) : ∃ f, P.P s f ∧ ∀ (P' : Obj) {s' : St} {f' : List Nat}, P'.P s' f' → Fr s s' f → Nw s f f' → Sep s0 s' (P' :: Ps) := by
  obtain ⟨fp, ⟨f, g, h1, h2, h3, rfl⟩, h4, h5⟩ := h
  refine ⟨f, h1, fun P' s' f' k1 k2 k3 => ?_⟩
  have hd : ∀ b ∈ g, b ∉ f := fun b hb hm => h3 b hm hb
  refine ⟨f' ++ g, ⟨f', g, k1, h2.fr k2 hd, ?_, rfl⟩, ?_, h5.nn k2 fun b hb => h4 b (by simp [hb])⟩
  · intro b hb hm
    rcases k3 b hb with h | h
    · exact h3 b h hm
    · have := h2.lt b hm; omega
  · intro b hb
    rcases List.mem_append.1 hb with hb | hb
    · rcases k3 b hb with h | h
      · exact h4 b (by simp [h])
      · exact .inr (Nat.le_trans h5.1 h)
    · exact h4 b (by simp [hb])
/-- the first two, the first one changed -/
theorem Sep.hd2 {s0 s : St} {P Q : Obj} {Ps : List Obj} (h : Sep s0 s (P :: Q :: Ps)) : ∃ f g, P.P s f ∧ Q.P s g ∧ (∀ b ∈ g, b ∉ f) ∧ ∀ (P' : Obj) {s' : St} {f' : List Nat}, P'.P s' f' → Fr s s' f → Nw s f f' → Sep s0 s' (P' :: Q :: Ps) := by
  obtain ⟨f, h1, up⟩ := h.hd
  obtain ⟨fp, ⟨f2, g, h2, ⟨f3, g3, h3, h4, h5, rfl⟩, h6, rfl⟩, h7, h8⟩ := h
  have h : Sep s0 s (P :: Q :: Ps) := ⟨_, ⟨f2, _, h2, ⟨f3, g3, h3, h4, h5, rfl⟩, h6, rfl⟩, h7, h8⟩
  refine ⟨f2, f3, h2, h3, fun b hb hm => h6 b hm (by simp [hb]), fun P' s' f' k1 k2 k3 => ?_⟩
  have hd : ∀ b ∈ f3 ++ g3, b ∉ f2 := fun b hb hm => h6 b hm hb
  refine ⟨f' ++ (f3 ++ g3), ⟨f', _, k1, SepF.fr (Ps := Q :: Ps) ⟨f3, g3, h3, h4, h5, rfl⟩ k2 hd, ?_, rfl⟩, ?_, h8.nn k2 fun b hb => h7 b (by simp [hb])⟩
  · intro b hb hm
    rcases k3 b hb with h | h
    · exact h6 b h hm
    · have := SepF.lt (Ps := Q :: Ps) ⟨f3, g3, h3, h4, h5, rfl⟩ b hm; omega
  · intro b hb
    rcases List.mem_append.1 hb with hb | hb
    · rcases k3 b hb with h | h
      · exact h7 b (by simp [h])
      · exact .inr (Nat.le_trans h8.1 h)
    · exact h7 b (by simp only [List.mem_append] at *; exact .inr hb)
theorem SepF.perm {s : St} {Ps Qs : List Obj} (hp : Ps.Perm Qs) : ∀ {fp : List Nat}, SepF s Ps fp → ∃ fp', SepF s Qs fp' ∧ ∀ b, b ∈ fp' ↔ b ∈ fp := by
  induction hp with
  | nil => exact fun h => ⟨_, h, fun _ => .rfl⟩
  | cons P _ ih =>
    rintro _ ⟨f, g, h1, h2, h3, rfl⟩
    obtain ⟨g', k1, k2⟩ := ih h2
    exact ⟨f ++ g', ⟨f, g', h1, k1, fun b hb hm => h3 b hb ((k2 b).1 hm), rfl⟩, fun b => by simp [k2 b]⟩
  | swap P Q l =>
    rintro _ ⟨f, g, h1, ⟨f2, g2, h2, h3, h4, rfl⟩, h5, rfl⟩
    refine ⟨f2 ++ (f ++ g2), ⟨f2, f ++ g2, h2, ⟨f, g2, h1, h3, fun b hb hm => h5 b hb (by simp [hm]), rfl⟩, ?_, rfl⟩, fun b => by simp only [List.mem_append]; constructor <;> (rintro (h | h | h) <;> simp [h])⟩
    intro b hb hm
    rcases List.mem_append.1 hm with hm | hm
    · exact h5 b hm (by simp [hb])
    · exact h4 b hb hm
  | trans _ _ ih1 ih2 =>
    intro fp h
    obtain ⟨f1, k1, k2⟩ := ih1 h
    obtain ⟨f2, k3, k4⟩ := ih2 k1
    exact ⟨f2, k3, fun b => (k4 b).trans (k2 b)⟩
theorem Sep.perm {s0 s : St} {Ps Qs : List Obj} (hp : Ps.Perm Qs) (h : Sep s0 s Ps) : Sep s0 s Qs := by
  obtain ⟨fp, h1, h2, h3⟩ := h
  obtain ⟨fp', k1, k2⟩ := h1.perm hp
  exact ⟨fp', k1, fun b hb => h2 b ((k2 b).1 hb), h3⟩
/-- the third, the fourth goes first; and back -/
theorem Sep.up2 {s0 s : St} {A B C : Obj} {Ps : List Obj} (h : Sep s0 s (A :: B :: C :: Ps)) : Sep s0 s (C :: A :: B :: Ps) := h.perm (List.perm_middle (l₁ := [A, B]) (a := C) (l₂ := Ps))
theorem Sep.dn2 {s0 s : St} {A B C : Obj} {Ps : List Obj} (h : Sep s0 s (C :: A :: B :: Ps)) : Sep s0 s (A :: B :: C :: Ps) := h.perm (List.perm_middle (l₁ := [A, B]) (a := C) (l₂ := Ps)).symm
theorem Sep.up3 {s0 s : St} {A B C D : Obj} {Ps : List Obj} (h : Sep s0 s (A :: B :: C :: D :: Ps)) : Sep s0 s (D :: A :: B :: C :: Ps) := h.perm (List.perm_middle (l₁ := [A, B, C]) (a := D) (l₂ := Ps))
theorem Sep.dn3 {s0 s : St} {A B C D : Obj} {Ps : List Obj} (h : Sep s0 s (D :: A :: B :: C :: Ps)) : Sep s0 s (A :: B :: C :: D :: Ps) := h.perm (List.perm_middle (l₁ := [A, B, C]) (a := D) (l₂ := Ps)).symm
theorem Sep.up4 {s0 s : St} {A B C D E : Obj} {Ps : List Obj} (h : Sep s0 s (A :: B :: C :: D :: E :: Ps)) : Sep s0 s (E :: A :: B :: C :: D :: Ps) := h.perm (List.perm_middle (l₁ := [A, B, C, D]) (a := E) (l₂ := Ps))
theorem Sep.dn4 {s0 s : St} {A B C D E : Obj} {Ps : List Obj} (h : Sep s0 s (E :: A :: B :: C :: D :: Ps)) : Sep s0 s (A :: B :: C :: D :: E :: Ps) := h.perm (List.perm_middle (l₁ := [A, B, C, D]) (a := E) (l₂ := Ps)).symm
/-- a block -/
def oC (b : Nat) (cs : List AV) : Obj := ⟨fun s fp => s.heap.get b = some (.cells cs .own) ∧ b < s.next ∧ fp = [b],
  fun {s s' fp fp'} ⟨h1, h2, h3⟩ hf hd => ⟨(hf.2 b h2 (hd b (by rw [h3]; simp))).trans h1, Nat.lt_of_lt_of_le h2 hf.1, h3⟩,
  fun {s fp} ⟨h1, h2, h3⟩ => by intro b' hb; rw [h3] at hb; simp at hb; subst hb; exact h2⟩
def oP (p : Nat) (l : List R) (t : Int) : Obj := ⟨fun s fp => IsP s p l t fp, IsP.fr, IsP.lt⟩
def oO (p : Nat) (o : OB) : Obj := ⟨fun s fp => IsO s p o fp, IsO.fr, IsO.lt⟩
def oX (p : Nat) (o : OB) : Obj := ⟨fun s fp => IsX s p o fp, IsX.fr, IsX.lt⟩
def oQ (p : Nat) (t : Int) (l : List R) : Obj := ⟨fun s fp => IsQ s p t l fp, IsQ.fr, IsQ.lt⟩
def oS (p : Nat) (l : List R) : Obj := ⟨fun s fp => IsS s p l fp, IsS.fr, IsS.lt⟩
/-- a slice that is one's own -/
def oW {α : Type} (v : AV) (sz : Nat) (enc : α → List AV) (l : List α) : Obj := ⟨fun s fp => OwE s v sz enc l fp, fun h hf hd => h.fr hf hd, fun h => h.lt⟩
theorem withinP {bd : Bd} {h : VF} {fu : Nat} (n : Nat) (s : St) (v m : Int) (hv : -9223372036854775808 ≤ v ∧ v ≤ 9223372036854775807) (hm : 1 ≤ m) (hm2 : m ≤ 9223372036854775807) :
    OutOk (callF bd (tab h).get fu (n + 1) 17 [num v, num m] s) (fun x s' => Is x (num (v % m)) ∧ Is s' s) :=
  within_ok (t17 h) n s v m hv hm hm2
end Go.Proofs.Ytekhpohcjfjhfaa.ctr
