/- Contracts: an inbox; which places are there; pieces of one text. -/
import Derived.Test.YtekhpohcjfjhfaaCtRa
namespace Go.Proofs.Ytekhpohcjfjhfaa.ctr
open Go.Vm Go.RowKit Go.Ranges
set_option linter.unusedVariables false
set_option linter.unusedSimpArgs false
theorem encB_w : ∀ x : Int, (encB x).length = 1 := fun _ => rfl
def encU (u : AV) : List AV := [u]
theorem sv_nils {sz : Nat} {lo hi mx : Option AV} : sliceV sz .nils lo hi mx = cnd (zr lo && zr hi && zr mx) (some .nils) none := rfl
theorem rep_flat (n : Nat) : rep n [byt 0] = (List.replicate n (0 : Int)).flatMap encB := by
  induction n with
  | zero => rfl
  | succ n ih => show byt 0 :: rep n [byt 0] = _; rw [ih]; rfl
/-- the kinds' first part, of a slice just grown -/
theorem cut0_ow {s : St} {v : AV} {l : List Int} {fp : List Nat} (h : OwE s v 1 encB l fp) (hl : l ≠ []) : ∃ v', sliceV 1 v none (some (num 0)) none = some v' ∧ OwE s v' 1 encB [] fp := by
  rcases h.ow with ⟨_, h0, _⟩ | ⟨b, len, lo, ex, k, J, rfl, h2, h3, h4, h5⟩
  · have := flat_len h.wid l
    rw [h0] at this
    exact absurd (List.eq_nil_of_length_eq_zero (by simp at this; omega)) hl
  · have hlen : len = l.length := h.len
    have hpos : 0 < l.length := by cases l with | nil => exact absurd rfl hl | cons => simp
    refine ⟨.sl b 0 0 lo ex 1, ?_, ⟨.inr ⟨b, 0, lo, ex, k, l.flatMap encB ++ J, rfl, Nat.zero_le _, by simp, by simpa using h4, h5⟩, h.wid, h.pos, h.lt⟩⟩
    rw [sv_s, bnd_n, bnd_s (by omega), ob_some, ob_some, sli_k (by simp) (by simp) (by omega)]
    simp
section
variable {bd : Bd} {h : VF} {fu : Nat}
theorem copyB (n : Nat) (s : St) (v : AV) (l : List Int) (hv : RdE s v 1 encB l) (hf : l.length < 1000000) :
    OutOk (callF bd (tab h).get fu (n + 1) 84 [v] s) (fun x s' => ∃ fp, OwE s' x 1 encB l fp ∧ Fr s s' [] ∧ Nw s [] fp) := by
  refine call_code (t84 h) rfl ?_
  simp (disch := omega) only [vm0, vm1, vm2, vm3, vm4, vm5, vm6, vm7, fPick, fBox, fBuild, fBsl, fLd, fLda, fSt, fNilc, fBin, fEq, fUn, fMkf, fFa, fFld, fFlda, fExt, evo, wr, wrC, frame, Bool.not_true, Bool.not_false, beq_self_eq_true, List.cons_append, List.nil_append, Nat.add_zero, Nat.zero_add, Nat.reduceAdd, Nat.reduceMul, Nat.reduceSub, Bool.and_true, Bool.true_and, Bool.and_self, beq_dec, fApp, Int.toNat_natCast, Nat.sub_zero, vmI, vc84, hv.lenOf, hv.cellsOf]
  refine op_app (.nil encB_w (by omega)) (by (repeat' (first | exact Fr.refl | assumption | apply Fr.new' | apply Fr.mk' | apply Fr.put')) <;> (first | omega | (left; simp; done) | (right; simp only [next_put, next_new, next_mk]; omega) | (simp only [next_put, next_new, next_mk]; omega))) (new := l) rfl rfl (by simp; omega) ?_
  intro v' s' fp' q1 q2 q3
  simp (disch := omega) only [vm0, vm1, vm2, vm3, vm4, vm5, vm6, vm7, fPick, fBox, fBuild, fBsl, fLd, fLda, fSt, fNilc, fBin, fEq, fUn, fMkf, fFa, fFld, fFlda, fExt, evo, wr, wrC, frame, Bool.not_true, Bool.not_false, beq_self_eq_true, List.cons_append, List.nil_append, Nat.add_zero, Nat.zero_add, Nat.reduceAdd, Nat.reduceMul, Nat.reduceSub, Bool.and_true, Bool.true_and, Bool.and_self, beq_dec, fApp, Int.toNat_natCast, Nat.sub_zero, vmI]
  exact ⟨fp', by simpa using q1, q2, q3⟩
theorem cutB (n : Nat) (s : St) (v : AV) (l : List Int) (m : Int) (hm : 0 ≤ m) (hm2 : m < 900000) (hv : RdE s v 1 encB l) :
    OutOk (callF bd (tab h).get fu (n + 2) 31 [v, num m] s) (fun x s' => ∃ fp, OwE s' x 1 encB (l.take m.toNat) fp ∧ Fr s s' [] ∧ Nw s [] fp) := by
  refine call_code (t31 h) rfl ?_
  obtain ⟨u, g1, r1⟩ := hv.sliH (b := min (l.length : Int) m) (by omega) (by omega)
  have he : l.take (min (l.length : Int) m).toNat = l.take m.toNat := by
    rcases (show min (l.length : Int) m = m ∨ (min (l.length : Int) m = l.length ∧ (l.length : Int) ≤ m) by omega) with e | ⟨e, h2⟩
    · rw [e]
    · rw [e, Int.toNat_natCast, List.take_of_length_le (Nat.le_refl _), List.take_of_length_le (by omega)]
  rw [he] at r1
  simp (disch := omega) only [vm0, vm1, vm2, vm3, vm4, vm5, vm6, vm7, fPick, fBox, fBuild, fBsl, fLd, fLda, fSt, fNilc, fBin, fEq, fUn, fMkf, fFa, fFld, fFlda, fExt, evo, wr, wrC, frame, Bool.not_true, Bool.not_false, beq_self_eq_true, List.cons_append, List.nil_append, Nat.add_zero, Nat.zero_add, Nat.reduceAdd, Nat.reduceMul, Nat.reduceSub, Bool.and_true, Bool.true_and, Bool.and_self, beq_dec, fApp, Int.toNat_natCast, Nat.sub_zero, vmI, vc31, hv.lenV, g1]
  refine call_ok rfl rfl (copyB n s u _ r1 (by have := List.length_take_le m.toNat l; omega)) ?_
  rintro x s' ⟨fp, q1, q2, q3⟩
  simp (disch := omega) only [vm0, vm1, vm2, vm3, vm4, vm5, vm6, vm7, fPick, fBox, fBuild, fBsl, fLd, fLda, fSt, fNilc, fBin, fEq, fUn, fMkf, fFa, fFld, fFlda, fExt, evo, wr, wrC, frame, Bool.not_true, Bool.not_false, beq_self_eq_true, List.cons_append, List.nil_append, Nat.add_zero, Nat.zero_add, Nat.reduceAdd, Nat.reduceMul, Nat.reduceSub, Bool.and_true, Bool.true_and, Bool.and_self, beq_dec, fApp, Int.toNat_natCast, Nat.sub_zero, vmI]
  exact ⟨fp, q1, q2, q3⟩
theorem growB (n : Nat) (s : St) (m : Nat) (hm : m < 1000000) :
    OutOk (callF bd (tab h).get fu (n + 1) 114 [.nils, num (m : Int)] s) (fun x s' => ∃ fp, OwE s' x 1 encB [] fp ∧ Fr s s' [] ∧ Nw s [] fp) := by
  refine call_code (t114 h) rfl ?_
  by_cases h0 : m = 0
  · subst h0
    simp (disch := omega) only [vm0, vm1, vm2, vm3, vm4, vm5, vm6, vm7, fPick, fBox, fBuild, fBsl, fLd, fLda, fSt, fNilc, fBin, fEq, fUn, fMkf, fFa, fFld, fFlda, fExt, evo, wr, wrC, frame, Bool.not_true, Bool.not_false, beq_self_eq_true, List.cons_append, List.nil_append, Nat.add_zero, Nat.zero_add, Nat.reduceAdd, Nat.reduceMul, Nat.reduceSub, Bool.and_true, Bool.true_and, Bool.and_self, beq_dec, fApp, Int.toNat_natCast, Nat.sub_zero, vmI, vc114, fCap]
    exact ⟨[], .nil encB_w (by omega), .refl, by simp [Nw]⟩
  · have z0 : (0 : Int) ≤ 0 := Int.le_refl 0
    simp (disch := omega) only [vm0, vm1, vm2, vm3, vm4, vm5, vm6, vm7, fPick, fBox, fBuild, fBsl, fLd, fLda, fSt, fNilc, fBin, fEq, fUn, fMkf, fFa, fFld, fFlda, fExt, evo, wr, wrC, frame, Bool.not_true, Bool.not_false, beq_self_eq_true, List.cons_append, List.nil_append, Nat.add_zero, Nat.zero_add, Nat.reduceAdd, Nat.reduceMul, Nat.reduceSub, Bool.and_true, Bool.true_and, Bool.and_self, beq_dec, fApp, Int.toNat_natCast, Nat.sub_zero, vmI, vc114, fCap, sv_nils, zr_s, fApz, rep_flat]
    refine op_app (.nil encB_w (by omega)) (by (repeat' (first | exact Fr.refl | assumption | apply Fr.new' | apply Fr.mk' | apply Fr.put')) <;> (first | omega | (left; simp; done) | (right; simp only [next_put, next_new, next_mk]; omega) | (simp only [next_put, next_new, next_mk]; omega))) (new := List.replicate m (0 : Int)) rfl (by simp) (by simp; omega) ?_
    intro v' s' fp' q1 q2 q3
    obtain ⟨u, g1, r1⟩ := cut0_ow q1 (by simp; omega)
    simp (disch := omega) only [vm0, vm1, vm2, vm3, vm4, vm5, vm6, vm7, fPick, fBox, fBuild, fBsl, fLd, fLda, fSt, fNilc, fBin, fEq, fUn, fMkf, fFa, fFld, fFlda, fExt, evo, wr, wrC, frame, Bool.not_true, Bool.not_false, beq_self_eq_true, List.cons_append, List.nil_append, Nat.add_zero, Nat.zero_add, Nat.reduceAdd, Nat.reduceMul, Nat.reduceSub, Bool.and_true, Bool.true_and, Bool.and_self, beq_dec, fApp, Int.toNat_natCast, Nat.sub_zero, vmI, g1]
    exact ⟨fp', r1, q2, q3⟩
theorem concatB (n : Nat) (s : St) (b : Nat) (ex : Bool) (u1 u2 : AV) (l1 l2 : List Int) (hv : RdE s (.sl b 0 2 2 ex 1) 1 encU [u1, u2]) (h1 : RdE s u1 1 encB l1) (h2 : RdE s u2 1 encB l2) (hl : l1.length + l2.length < 1000000) (hfu : 10 < fu) :
    OutOk (callF bd (tab h).get fu (n + 2) 85 [.sl b 0 2 2 ex 1] s) (fun x s' => ∃ fp, OwE s' x 1 encB (l1 ++ l2) fp ∧ Fr s s' [] ∧ Nw s [] fp) := by
  refine call_code (t85 h) rfl ?_
  obtain ⟨V, hV⟩ : ∃ V, AV.sl b 0 2 2 ex 1 = V := ⟨_, rfl⟩
  rw [hV] at hv ⊢
  have hlen : lenV V = some (num 2) := by rw [hv.lenV]; rfl
  have key : ∀ i : Nat, i < 2 → ∃ u l, [u1, u2][i]? = some u ∧ RdE s u 1 encB l ∧ [l1, l2][i]? = some l := by
    intro i hi
    match i, hi with
    | 0, _ => exact ⟨u1, l1, rfl, h1, rfl⟩
    | 1, _ => exact ⟨u2, l2, rfl, h2, rfl⟩
  simp (disch := omega) only [vm0, vm1, vm2, vm3, vm4, vm5, vm6, vm7, fPick, fBox, fBuild, fBsl, fLd, fLda, fSt, fNilc, fBin, fEq, fUn, fMkf, fFa, fFld, fFlda, fExt, evo, wr, wrC, frame, Bool.not_true, Bool.not_false, beq_self_eq_true, List.cons_append, List.nil_append, Nat.add_zero, Nat.zero_add, Nat.reduceAdd, Nat.reduceMul, Nat.reduceSub, Bool.and_true, Bool.true_and, Bool.and_self, beq_dec, fApp, Int.toNat_natCast, Nat.sub_zero, vmI, vc85, hlen]
  refine x_loop (fun k F s' => ∃ i : Nat, ∃ z x6 x8 x9, k = 2 - i ∧ i ≤ 2 ∧ z = (i : Int) ∧ F = [some V, some (num z), some (num ((([l1, l2].take i).flatten.length : Nat) : Int)), none, none, some (num 2), x6, some V, x8, x9, none, none, none, none, some .nils] ∧ s' = s) 2 (by omega) ?_ ?_
  · exact ⟨0, _, _, _, _, by omega, by omega, rfl, rfl, rfl⟩
  · rintro k F s0 ⟨i, _, x6, x8, x9, rfl, hi, rfl, rfl, rfl⟩ hk
    by_cases hlt : i < 2
    · obtain ⟨u, l, hu, hul, hl'⟩ := key i hlt
      have e1 := hv.ia hu
      have e2 := hv.at1 (f := fun u => u) hu
      have ht : ([l1, l2].take (i + 1)).flatten.length = ([l1, l2].take i).flatten.length + l.length := by rw [List.take_add_one, hl']; simp
      have htb : ([l1, l2].take (i + 1)).flatten.length ≤ l1.length + l2.length := by
        match i, hlt with
        | 0, _ => simp
        | 1, _ => simp
      simp (disch := omega) only [vm0, vm1, vm2, vm3, vm4, vm5, vm6, vm7, fPick, fBox, fBuild, fBsl, fLd, fLda, fSt, fNilc, fBin, fEq, fUn, fMkf, fFa, fFld, fFlda, fExt, evo, wr, wrC, frame, Bool.not_true, Bool.not_false, beq_self_eq_true, List.cons_append, List.nil_append, Nat.add_zero, Nat.zero_add, Nat.reduceAdd, Nat.reduceMul, Nat.reduceSub, Bool.and_true, Bool.true_and, Bool.and_self, beq_dec, fApp, Int.toNat_natCast, Nat.sub_zero, vmI, e1, e2, hul.lenV]
      exact ⟨2 - (i + 1), by omega, i + 1, (i : Int) + 1, _, _, _, rfl, by omega, by omega, by rw [ht, Int.natCast_add], rfl⟩
    · obtain rfl : i = 2 := by omega
      simp (disch := omega) only [vm0, vm1, vm2, vm3, vm4, vm5, vm6, vm7, fPick, fBox, fBuild, fBsl, fLd, fLda, fSt, fNilc, fBin, fEq, fUn, fMkf, fFa, fFld, fFlda, fExt, evo, wr, wrC, frame, Bool.not_true, Bool.not_false, beq_self_eq_true, List.cons_append, List.nil_append, Nat.add_zero, Nat.zero_add, Nat.reduceAdd, Nat.reduceMul, Nat.reduceSub, Bool.and_true, Bool.true_and, Bool.and_self, beq_dec, fApp, Int.toNat_natCast, Nat.sub_zero, vmI]
      refine call_ok rfl rfl (growB n s0 _ (by simp; omega)) ?_
      rintro x s1 ⟨fx, q1, q2, q3⟩
      simp (disch := omega) only [vm0, vm1, vm2, vm3, vm4, vm5, vm6, vm7, fPick, fBox, fBuild, fBsl, fLd, fLda, fSt, fNilc, fBin, fEq, fUn, fMkf, fFa, fFld, fFlda, fExt, evo, wr, wrC, frame, Bool.not_true, Bool.not_false, beq_self_eq_true, List.cons_append, List.nil_append, Nat.add_zero, Nat.zero_add, Nat.reduceAdd, Nat.reduceMul, Nat.reduceSub, Bool.and_true, Bool.true_and, Bool.and_self, beq_dec, fApp, Int.toNat_natCast, Nat.sub_zero, vmI, hlen]
      refine x_loop (fun k F s' => ∃ i : Nat, ∃ z x11 x13 vo fo, k = 2 - i ∧ i ≤ 2 ∧ z = (i : Int) ∧ F = [some V, some (num ((2 : Nat) : Int)), some (num ((([l1, l2].take 2).flatten.length : Nat) : Int)), some (num z), some vo, some (num 2), some (.bool false), some V, x8, x9, some (num 2), x11, some V, x13, some .nils] ∧ Fr s0 s' [] ∧ OwE s' vo 1 encB ([l1, l2].take i).flatten fo ∧ Nw s0 [] fo) 2 (by omega) ?_ ?_
      · exact ⟨0, _, _, _, _, fx, by omega, by omega, rfl, rfl, q2, by simpa using q1, q3⟩
      · rintro k F s2 ⟨i, _, x11, x13, vo, fo, rfl, hi, rfl, rfl, hf2, ho, hn⟩ hk
        by_cases hlt : i < 2
        · obtain ⟨u, l, hu, hul, hl'⟩ := key i hlt
          have hv2 := hv.fr0 hf2
          have hul2 := hul.fr0 hf2
          have e1 := hv2.ia hu
          have e2 := hv2.at1 (f := fun u => u) hu
          have ht : ([l1, l2].take (i + 1)).flatten = ([l1, l2].take i).flatten ++ l := by rw [List.take_add_one, hl']; simp
          have htb : ([l1, l2].take i).flatten.length + l.length ≤ l1.length + l2.length := by
            match i, hlt with
            | 0, _ => simp at hl'; subst hl'; simp
            | 1, _ => simp at hl'; subst hl'; simp
          simp (disch := omega) only [vm0, vm1, vm2, vm3, vm4, vm5, vm6, vm7, fPick, fBox, fBuild, fBsl, fLd, fLda, fSt, fNilc, fBin, fEq, fUn, fMkf, fFa, fFld, fFlda, fExt, evo, wr, wrC, frame, Bool.not_true, Bool.not_false, beq_self_eq_true, List.cons_append, List.nil_append, Nat.add_zero, Nat.zero_add, Nat.reduceAdd, Nat.reduceMul, Nat.reduceSub, Bool.and_true, Bool.true_and, Bool.and_self, beq_dec, fApp, Int.toNat_natCast, Nat.sub_zero, vmI, e1, e2, hul2.lenOf, hul2.cellsOf]
          refine op_app ho (by (repeat' (first | exact Fr.refl | assumption | apply Fr.new' | apply Fr.mk' | apply Fr.put')) <;> (first | omega | (left; simp; done) | (right; simp only [next_put, next_new, next_mk]; omega) | (simp only [next_put, next_new, next_mk]; omega))) (new := l) rfl rfl (by omega) ?_
          intro v' s3 fo' p1 p2 p3
          simp (disch := omega) only [vm0, vm1, vm2, vm3, vm4, vm5, vm6, vm7, fPick, fBox, fBuild, fBsl, fLd, fLda, fSt, fNilc, fBin, fEq, fUn, fMkf, fFa, fFld, fFlda, fExt, evo, wr, wrC, frame, Bool.not_true, Bool.not_false, beq_self_eq_true, List.cons_append, List.nil_append, Nat.add_zero, Nat.zero_add, Nat.reduceAdd, Nat.reduceMul, Nat.reduceSub, Bool.and_true, Bool.true_and, Bool.and_self, beq_dec, fApp, Int.toNat_natCast, Nat.sub_zero, vmI]
          exact ⟨2 - (i + 1), by omega, i + 1, (i : Int) + 1, _, _, _, fo', rfl, by omega, by omega, rfl, hf2.nn p2 hn, by rw [ht]; exact p1, hn.nn p3 hf2.1⟩
        · obtain rfl : i = 2 := by omega
          simp (disch := omega) only [vm0, vm1, vm2, vm3, vm4, vm5, vm6, vm7, fPick, fBox, fBuild, fBsl, fLd, fLda, fSt, fNilc, fBin, fEq, fUn, fMkf, fFa, fFld, fFlda, fExt, evo, wr, wrC, frame, Bool.not_true, Bool.not_false, beq_self_eq_true, List.cons_append, List.nil_append, Nat.add_zero, Nat.zero_add, Nat.reduceAdd, Nat.reduceMul, Nat.reduceSub, Bool.and_true, Bool.true_and, Bool.and_self, beq_dec, fApp, Int.toNat_natCast, Nat.sub_zero, vmI]
          exact ⟨fo, by simpa using ho, hf2, hn⟩
end
end Go.Proofs.Ytekhpohcjfjhfaa.ctr
namespace Go.Proofs.Ytekhpohcjfjhfaa.ctr
open Go.Vm Go.RowKit Go.Ranges
set_option linter.unusedVariables false
set_option linter.unusedSimpArgs false
/-- what stands in memory, at a footprint -/
structure Obj where
  P : St → List Nat → Prop
  fr : ∀ {s s' : St} {fp fp' : List Nat}, P s fp → Fr s s' fp' → (∀ b ∈ fp, b ∉ fp') → P s' fp
  lt : ∀ {s : St} {fp : List Nat}, P s fp → Lt s fp
/-- things that stand in memory, apart -/
def SepF (s : St) : List Obj → List Nat → Prop
  | [], fp => fp = []
  | P :: Ps, fp => ∃ f g, P.P s f ∧ SepF s Ps g ∧ (∀ b ∈ f, b ∉ g) ∧ fp = f ++ g
theorem SepF.fr {s s' : St} {fp' : List Nat} : ∀ {Ps : List Obj} {fp : List Nat}, SepF s Ps fp → Fr s s' fp' → (∀ b ∈ fp, b ∉ fp') → SepF s' Ps fp
  | [], _, h, _, _ => h
  | P :: Ps, _, ⟨f, g, h1, h2, h3, h4⟩, hf, hd => ⟨f, g, P.fr h1 hf fun b hb => hd b (by rw [h4]; simp [hb]), SepF.fr h2 hf fun b hb => hd b (by rw [h4]; simp [hb]), h3, h4⟩
theorem SepF.lt {s : St} : ∀ {Ps : List Obj} {fp : List Nat}, SepF s Ps fp → Lt s fp
  | [], _, h => by intro b hb; rw [show _ = [] from h] at hb; simp at hb
  | P :: Ps, _, ⟨f, g, h1, h2, h3, h4⟩ => by
    intro b hb
    rw [h4] at hb
    rcases List.mem_append.1 hb with hb | hb
    · exact P.lt h1 b hb
    · exact SepF.lt h2 b hb
def Sep (s0 s : St) (Ps : List Obj) : Prop := ∃ fp, SepF s Ps fp ∧ Nw s0 [] fp ∧ Fr s0 s []
theorem Sep.nil {s : St} : Sep s s [] := ⟨[], rfl, by simp [Nw], .refl⟩
theorem Sep.frm {s0 s : St} {Ps : List Obj} (h : Sep s0 s Ps) : Fr s0 s [] := by obtain ⟨_, _, _, h⟩ := h; exact h
theorem Sep.fr {s0 s s' : St} {Ps : List Obj} (h : Sep s0 s Ps) (hf : Fr s s' []) : Sep s0 s' Ps := by
  obtain ⟨fp, h1, h2, h3⟩ := h
  exact ⟨fp, h1.fr hf (by simp), h2, h3.trans hf (fp2 := []) (by simp) (by simp)⟩
theorem Sep.push {s0 s s' : St} {P : Obj} {Ps : List Obj} {f : List Nat} (h : Sep s0 s Ps) (hp : P.P s' f) (hf : Fr s s' []) (hn : Nw s [] f) : Sep s0 s' (P :: Ps) := by
  obtain ⟨fp, h1, h2, h3⟩ := h
  refine ⟨f ++ fp, ⟨f, fp, hp, h1.fr hf (by simp), ?_, rfl⟩, ?_, h3.trans hf (fp2 := []) (by simp) (by simp)⟩
  · intro b hb hm
    have := h1.lt b hm
    have := hn b hb
    simp at this
    omega
  · intro b hb
    rcases List.mem_append.1 hb with hb | hb
    · rcases hn b hb with h | h
      · simp at h
      · exact .inr (Nat.le_trans h3.1 h)
    · exact h2 b hb
theorem Sep.drop {s0 s : St} {P : Obj} {Ps : List Obj} (h : Sep s0 s (P :: Ps)) : Sep s0 s Ps := by
  obtain ⟨fp, ⟨f, g, h1, h2, h3, rfl⟩, h4, h5⟩ := h
  exact ⟨g, h2, fun b hb => h4 b (by simp [hb]), h5⟩
theorem Sep.swap {s0 s : St} {P Q : Obj} {Ps : List Obj} (h : Sep s0 s (P :: Q :: Ps)) : Sep s0 s (Q :: P :: Ps) := by
  obtain ⟨fp, ⟨f, g, h1, ⟨f2, g2, h2, h3, h4, rfl⟩, h5, rfl⟩, h6, h7⟩ := h
  refine ⟨f2 ++ (f ++ g2), ⟨f2, f ++ g2, h2, ⟨f, g2, h1, h3, fun b hb hm => h5 b hb (by simp [hm]), rfl⟩, ?_, rfl⟩, fun b hb => h6 b (by simp only [List.mem_append] at *; rcases hb with h | h | h <;> simp [h]), h7⟩
  intro b hb hm
  rcases List.mem_append.1 hm with hm | hm
  · exact h5 b hm (by simp [hb])
  · exact h4 b hb hm
/-- the first of them, and how it is changed -/
theorem Sep.hd {s0 s : St} {P : Obj} {Ps : List Obj} (h : Sep s0 s (P :: Ps)) : ∃ f, P.P s f ∧ ∀ (P' : Obj) {s' : St} {f' : List Nat}, P'.P s' f' → Fr s s' f → Nw s f f' → Sep s0 s' (P' :: Ps) := by
  obtain ⟨fp, ⟨f, g, h1, h2, h3, rfl⟩, h4, h5⟩ := h
  refine ⟨f, h1, fun P' s' f' k1 k2 k3 => ?_⟩
  have hd : ∀ b ∈ g, b ∉ f := fun b hb hm => h3 b hm hb
  refine ⟨f' ++ g, ⟨f', g, k1, h2.fr k2 hd, ?_, rfl⟩, ?_, h5.nn k2 fun b hb => h4 b (by simp [hb])⟩
  · intro b hb hm
    rcases k3 b hb with h | h
    · exact h3 b h hm
    · have := h2.lt b hm; omega
  · intro b hb
    rcases List.mem_append.1 hb with hb | hb
    · rcases k3 b hb with h | h
      · exact h4 b (by simp [h])
      · exact .inr (Nat.le_trans h5.1 h)
    · exact h4 b (by simp [hb])
/-- the first two, the first one changed -/
theorem Sep.hd2 {s0 s : St} {P Q : Obj} {Ps : List Obj} (h : Sep s0 s (P :: Q :: Ps)) : ∃ f g, P.P s f ∧ Q.P s g ∧ (∀ b ∈ g, b ∉ f) ∧ ∀ (P' : Obj) {s' : St} {f' : List Nat}, P'.P s' f' → Fr s s' f → Nw s f f' → Sep s0 s' (P' :: Q :: Ps) := by
  obtain ⟨f, h1, up⟩ := h.hd
  obtain ⟨fp, ⟨f2, g, h2, ⟨f3, g3, h3, h4, h5, rfl⟩, h6, rfl⟩, h7, h8⟩ := h
  have h : Sep s0 s (P :: Q :: Ps) := ⟨_, ⟨f2, _, h2, ⟨f3, g3, h3, h4, h5, rfl⟩, h6, rfl⟩, h7, h8⟩
  refine ⟨f2, f3, h2, h3, fun b hb hm => h6 b hm (by simp [hb]), fun P' s' f' k1 k2 k3 => ?_⟩
  have hd : ∀ b ∈ f3 ++ g3, b ∉ f2 := fun b hb hm => h6 b hm hb
  refine ⟨f' ++ (f3 ++ g3), ⟨f', _, k1, SepF.fr (Ps := Q :: Ps) ⟨f3, g3, h3, h4, h5, rfl⟩ k2 hd, ?_, rfl⟩, ?_, h8.nn k2 fun b hb => h7 b (by simp [hb])⟩
  · intro b hb hm
    rcases k3 b hb with h | h
    · exact h6 b h hm
    · have := SepF.lt (Ps := Q :: Ps) ⟨f3, g3, h3, h4, h5, rfl⟩ b hm; omega
  · intro b hb
    rcases List.mem_append.1 hb with hb | hb
    · rcases k3 b hb with h | h
      · exact h7 b (by simp [h])
      · exact .inr (Nat.le_trans h8.1 h)
    · exact h7 b (by simp only [List.mem_append] at *; exact .inr hb)
theorem SepF.perm {s : St} {Ps Qs : List Obj} (hp : Ps.Perm Qs) : ∀ {fp : List Nat}, SepF s Ps fp → ∃ fp', SepF s Qs fp' ∧ ∀ b, b ∈ fp' ↔ b ∈ fp := by
  induction hp with
  | nil => exact fun h => ⟨_, h, fun _ => .rfl⟩
  | cons P _ ih =>
    rintro _ ⟨f, g, h1, h2, h3, rfl⟩
    obtain ⟨g', k1, k2⟩ := ih h2
    exact ⟨f ++ g', ⟨f, g', h1, k1, fun b hb hm => h3 b hb ((k2 b).1 hm), rfl⟩, fun b => by simp [k2 b]⟩
  | swap P Q l =>
    rintro _ ⟨f, g, h1, ⟨f2, g2, h2, h3, h4, rfl⟩, h5, rfl⟩
    refine ⟨f2 ++ (f ++ g2), ⟨f2, f ++ g2, h2, ⟨f, g2, h1, h3, fun b hb hm => h5 b hb (by simp [hm]), rfl⟩, ?_, rfl⟩, fun b => by simp only [List.mem_append]; constructor <;> (rintro (h | h | h) <;> simp [h])⟩
    intro b hb hm
    rcases List.mem_append.1 hm with hm | hm
    · exact h5 b hm (by simp [hb])
    · exact h4 b hb hm
  | trans _ _ ih1 ih2 =>
    intro fp h
    obtain ⟨f1, k1, k2⟩ := ih1 h
    obtain ⟨f2, k3, k4⟩ := ih2 k1
    exact ⟨f2, k3, fun b => (k4 b).trans (k2 b)⟩
theorem Sep.perm {s0 s : St} {Ps Qs : List Obj} (hp : Ps.Perm Qs) (h : Sep s0 s Ps) : Sep s0 s Qs := by
  obtain ⟨fp, h1, h2, h3⟩ := h
  obtain ⟨fp', k1, k2⟩ := h1.perm hp
  exact ⟨fp', k1, fun b hb => h2 b ((k2 b).1 hb), h3⟩
/-- the third, the fourth goes first; and back -/
theorem Sep.up2 {s0 s : St} {A B C : Obj} {Ps : List Obj} (h : Sep s0 s (A :: B :: C :: Ps)) : Sep s0 s (C :: A :: B :: Ps) := h.perm (List.perm_middle (l₁ := [A, B]) (a := C) (l₂ := Ps))
theorem Sep.dn2 {s0 s : St} {A B C : Obj} {Ps : List Obj} (h : Sep s0 s (C :: A :: B :: Ps)) : Sep s0 s (A :: B :: C :: Ps) := h.perm (List.perm_middle (l₁ := [A, B]) (a := C) (l₂ := Ps)).symm
theorem Sep.up3 {s0 s : St} {A B C D : Obj} {Ps : List Obj} (h : Sep s0 s (A :: B :: C :: D :: Ps)) : Sep s0 s (D :: A :: B :: C :: Ps) := h.perm (List.perm_middle (l₁ := [A, B, C]) (a := D) (l₂ := Ps))
theorem Sep.dn3 {s0 s : St} {A B C D : Obj} {Ps : List Obj} (h : Sep s0 s (D :: A :: B :: C :: Ps)) : Sep s0 s (A :: B :: C :: D :: Ps) := h.perm (List.perm_middle (l₁ := [A, B, C]) (a := D) (l₂ := Ps)).symm
theorem Sep.up4 {s0 s : St} {A B C D E : Obj} {Ps : List Obj} (h : Sep s0 s (A :: B :: C :: D :: E :: Ps)) : Sep s0 s (E :: A :: B :: C :: D :: Ps) := h.perm (List.perm_middle (l₁ := [A, B, C, D]) (a := E) (l₂ := Ps))
theorem Sep.dn4 {s0 s : St} {A B C D E : Obj} {Ps : List Obj} (h : Sep s0 s (E :: A :: B :: C :: D :: Ps)) : Sep s0 s (A :: B :: C :: D :: E :: Ps) := h.perm (List.perm_middle (l₁ := [A, B, C, D]) (a := E) (l₂ := Ps)).symm
/-- a block -/
def oC (b : Nat) (cs : List AV) : Obj := ⟨fun s fp => s.heap.get b = some (.cells cs .own) ∧ b < s.next ∧ fp = [b],
  fun {s s' fp fp'} ⟨h1, h2, h3⟩ hf hd => ⟨(hf.2 b h2 (hd b (by rw [h3]; simp))).trans h1, Nat.lt_of_lt_of_le h2 hf.1, h3⟩,
  fun {s fp} ⟨h1, h2, h3⟩ => by intro b' hb; rw [h3] at hb; simp at hb; subst hb; exact h2⟩
def oS (p : Nat) (l : List R) : Obj := ⟨fun s fp => IsS s p l fp, IsS.fr, IsS.lt⟩
/-- a slice that is one's own -/
def oW {α : Type} (v : AV) (sz : Nat) (enc : α → List AV) (l : List α) : Obj := ⟨fun s fp => OwE s v sz enc l fp, fun h hf hd => h.fr hf hd, fun h => h.lt⟩
theorem RdE.f0 {s : St} {v : AV} {l : List R} (h : RdE s v 2 encR l) {i : Nat} {a b : Int} (hx : l[i]? = some (a, b)) : ob (s.heap.get (sblk v)) (rd1C (soff v + i * 2)) = some (num a) := by
  obtain ⟨c, k, q1, q2⟩ := rd_sub (s := s) (b := sblk v) (o := soff v + i * 2) (n := 2) (h.at hx)
  obtain ⟨q3, q4⟩ := sub_some q2
  rw [q1]
  show nth c (soff v + i * 2) = _
  rw [nth_eq]
  have : ((c.drop (soff v + i * 2)).take 2)[0]? = some (num a) := by rw [← q4]; rfl
  rw [List.getElem?_take, if_pos (by omega), List.getElem?_drop] at this
  simpa using this
theorem RdE.f1 {s : St} {v : AV} {l : List R} (h : RdE s v 2 encR l) {i : Nat} {a b : Int} (hx : l[i]? = some (a, b)) : ob (s.heap.get (sblk v)) (rd1C (soff v + i * 2 + 1)) = some (num b) := by
  obtain ⟨c, k, q1, q2⟩ := rd_sub (s := s) (b := sblk v) (o := soff v + i * 2) (n := 2) (h.at hx)
  obtain ⟨q3, q4⟩ := sub_some q2
  rw [q1]
  show nth c (soff v + i * 2 + 1) = _
  rw [nth_eq]
  have : ((c.drop (soff v + i * 2)).take 2)[1]? = some (num b) := by rw [← q4]; rfl
  rw [List.getElem?_take, if_pos (by omega), List.getElem?_drop] at this
  simpa using this
theorem withinP {bd : Bd} {h : VF} {fu : Nat} (n : Nat) (s : St) (v m : Int) (hv : -9223372036854775808 ≤ v ∧ v ≤ 9223372036854775807) (hm : 1 ≤ m) (hm2 : m ≤ 9223372036854775807) :
    OutOk (callF bd (tab h).get fu (n + 1) 17 [num v, num m] s) (fun x s' => Is x (num (v % m)) ∧ Is s' s) :=
  within_ok (t17 h) n s v m hv hm hm2
end Go.Proofs.Ytekhpohcjfjhfaa.ctr
namespace Go.Proofs.Ytekhpohcjfjhfaa.ctr
open Go.Vm Go.RowKit Go.Ranges
set_option linter.unusedVariables false
set_option linter.unusedSimpArgs false
/-! steps of a region that are not wanted -/
section
variable {k : Nat} {s : St} {ss : List St} {fs : List Fs} {ps : List Pend} {Q : Option AV → Nat → St → List St → List Fs → List Pend → Prop}
theorem du_mv (x : Od) : DOk (drwU (.mv x) k s ss fs ps) Q = Q (some (.tup [])) k s ss fs ps := rfl
theorem du_nilc (x : Od) : DOk (drwU (.nilc x) k s ss fs ps) Q = Q (some (.tup [])) k s ss fs ps := rfl
theorem du_fa (n : Nat) (x : Od) : DOk (drwU (.fa n x) k s ss fs ps) Q = Q (some (.tup [])) k s ss fs ps := rfl
theorem du_ld (x : Od) : DOk (drwU (.ld x) k s ss fs ps) Q = Q (some (.tup [])) k s ss fs ps := rfl
theorem du_bin (op : BinOp) (x y : Od) : DOk (drwU (.bin op x y) k s ss fs ps) Q = Q (some (.tup [])) k s ss fs ps := rfl
theorem du_un (op : UnOp) (x : Od) : DOk (drwU (.un op x) k s ss fs ps) Q = Q (some (.tup [])) k s ss fs ps := rfl
theorem du_eq (g : Bool) (e : EK) (x y : Od) : DOk (drwU (.eq g e x y) k s ss fs ps) Q = Q (some (.tup [])) k s ss fs ps := rfl
theorem du_len (x : Od) : DOk (drwU (.len x) k s ss fs ps) Q = Q (some (.tup [])) k s ss fs ps := rfl
theorem du_pick (a b e : Od) : DOk (drwU (.pick a b e) k s ss fs ps) Q = Q (some (.tup [])) k s ss fs ps := rfl
theorem du_ia (n : Nat) (x i : Od) : DOk (drwU (.ia n x i) k s ss fs ps) Q = Q (some (.tup [])) k s ss fs ps := rfl
theorem du_call (f : Od) (args : List Od) : DOk (drwU (.call f args) k s ss fs ps) Q = Q (some (.tup [])) (k + 1) (addM (k + 1) fs s) (s :: ss) fs ps := rfl
end
set_option linter.defProp false in
def vmU := And.intro @du_mv <| And.intro @du_nilc <| And.intro @du_fa <| And.intro @du_ld <| And.intro @du_bin <| And.intro @du_un <| And.intro @du_eq <| And.intro @du_len <| And.intro @du_pick <| And.intro @du_ia <| @du_call
/-- an inbox -/
structure IB where
  b : List Int
  l : List R
  w : Int
  tk : Int
  e : Int
  kn : Bool
def IsI (s : St) (p : Nat) (i : IB) (fp : List Nat) : Prop := ∃ v fv q fq, s.heap.get p = some (.cells [v, .ptr q 0, num i.w, num i.tk, num i.e, .bool i.kn] .own) ∧ OwE s v 1 encB i.b fv ∧ IsS s q i.l fq ∧ p ∉ fv ∧ p ∉ fq ∧ (∀ b ∈ fv, b ∉ fq) ∧ fp = p :: (fv ++ fq) ∧ p < s.next
theorem IsI.fr {s s' : St} {p : Nat} {i : IB} {fp fp' : List Nat} (hF : IsI s p i fp) (hf : Fr s s' fp') (hd : ∀ b ∈ fp, b ∉ fp') : IsI s' p i fp := by
  obtain ⟨v, fv, q, fq, h1, h2, h3, h4, h5, h6, rfl, h7⟩ := hF
  exact ⟨v, fv, q, fq, (hf.2 p h7 (hd p (by simp))).trans h1, h2.fr hf fun b hb => hd b (by simp [hb]), h3.fr hf fun b hb => hd b (by simp [hb]), h4, h5, h6, rfl, Nat.lt_of_lt_of_le h7 hf.1⟩
theorem IsI.lt {s : St} {p : Nat} {i : IB} {fp : List Nat} (hF : IsI s p i fp) : Lt s fp := by
  obtain ⟨v, fv, q, fq, h1, h2, h3, h4, h5, h6, rfl, h7⟩ := hF
  intro b hb
  simp only [List.mem_cons, List.mem_append] at hb
  rcases hb with rfl | hb | hb
  · exact h7
  · exact h2.lt b hb
  · exact h3.lt b hb
def oI (p : Nat) (i : IB) : Obj := ⟨fun s fp => IsI s p i fp, IsI.fr, IsI.lt⟩
def IB.limit (i : IB) : Int := i.tk + i.w
def IB.may (i : IB) (at_ : Int) : Bool := decide (0 ≤ at_) && decide (at_ < i.limit) && (!i.kn || decide (at_ < i.e)) && !hasR at_ (at_ + 1) i.l
def lastR (l : List R) : Int := (l.getLastD (0, 0)).2
def IB.ready (i : IB) : Int := frontR i.l - i.tk
def IB.seen (i : IB) : Int := if i.kn = true ∧ frontR i.l = i.e then i.e + 1 else frontR i.l
def IB.done (i : IB) : Bool := i.kn && decide (i.tk = i.e)
/-- its numbers lie within bounds -/
structure IB.Ok (i : IB) : Prop where
  wf : WFr 0 i.l
  w : 0 ≤ i.w ∧ i.w ≤ 1000
  tk : 0 ≤ i.tk ∧ i.tk ≤ 1000000
  e : 0 ≤ i.e ∧ i.e ≤ 1000000
  l : i.l.length < 2000
  b : i.b.length < 3000
section
variable {bd : Bd} {h : VF} {fu : Nat}
theorem i_limit (n : Nat) (s : St) (p : Nat) (i : IB) (fp : List Nat) (hF : IsI s p i fp) (hi : i.Ok) : OutOk (callF bd (tab h).get fu (n + 1) 70 [.ptr p 0] s) (fun x s' => Is x (num i.limit) ∧ Is s' s) := by
  refine call_code (t70 h) rfl ?_
  obtain ⟨v, fv, q, fq, h1, h2, h3, h4, h5, h6, rfl, h7⟩ := hF
  obtain ⟨i1, i2, i3, i4, i5, i6⟩ := hi
  simp (disch := omega) only [vm0, vm1, vm2, vm3, vm4, vm5, vm6, vm7, fPick, fBox, fBuild, fBsl, fLd, fLda, fSt, fNilc, fBin, fEq, fUn, fMkf, fFa, fFld, fFlda, fExt, evo, wr, wrC, frame, Bool.not_true, Bool.not_false, beq_self_eq_true, List.cons_append, List.nil_append, Nat.add_zero, Nat.zero_add, Nat.reduceAdd, Nat.reduceMul, Nat.reduceSub, Bool.and_true, Bool.true_and, Bool.and_self, beq_dec, fApp, Int.toNat_natCast, Nat.sub_zero, vmI, vc70, h1]
  exact ⟨rfl, rfl⟩
theorem i_taken (n : Nat) (s : St) (p : Nat) (i : IB) (fp : List Nat) (hF : IsI s p i fp) : OutOk (callF bd (tab h).get fu (n + 1) 72 [.ptr p 0] s) (fun x s' => Is x (num i.tk) ∧ Is s' s) := by
  refine call_code (t72 h) rfl ?_
  obtain ⟨v, fv, q, fq, h1, h2, h3, h4, h5, h6, rfl, h7⟩ := hF
  simp (disch := omega) only [vm0, vm1, vm2, vm3, vm4, vm5, vm6, vm7, fPick, fBox, fBuild, fBsl, fLd, fLda, fSt, fNilc, fBin, fEq, fUn, fMkf, fFa, fFld, fFlda, fExt, evo, wr, wrC, frame, Bool.not_true, Bool.not_false, beq_self_eq_true, List.cons_append, List.nil_append, Nat.add_zero, Nat.zero_add, Nat.reduceAdd, Nat.reduceMul, Nat.reduceSub, Bool.and_true, Bool.true_and, Bool.and_self, beq_dec, fApp, Int.toNat_natCast, Nat.sub_zero, vmI, vc72, h1]
  exact ⟨rfl, rfl⟩
theorem i_front (n : Nat) (s : St) (p : Nat) (i : IB) (fp : List Nat) (hF : IsI s p i fp) : OutOk (callF bd (tab h).get fu (n + 3) 106 [.ptr p 0] s) (fun x s' => Is x (num (frontR i.l)) ∧ Fr s s' []) := by
  refine call_code (t106 h) rfl ?_
  obtain ⟨v, fv, q, fq, h1, h2, h3, h4, h5, h6, rfl, h7⟩ := hF
  simp (disch := omega) only [vm0, vm1, vm2, vm3, vm4, vm5, vm6, vm7, fPick, fBox, fBuild, fBsl, fLd, fLda, fSt, fNilc, fBin, fEq, fUn, fMkf, fFa, fFld, fFlda, fExt, evo, wr, wrC, frame, Bool.not_true, Bool.not_false, beq_self_eq_true, List.cons_append, List.nil_append, Nat.add_zero, Nat.zero_add, Nat.reduceAdd, Nat.reduceMul, Nat.reduceSub, Bool.and_true, Bool.true_and, Bool.and_self, beq_dec, fApp, Int.toNat_natCast, Nat.sub_zero, vmI, vc106, h1]
  refine call_ok rfl rfl (s_front n s q i.l fq h3) ?_
  rintro x s1 ⟨rfl, hf⟩
  simp (disch := omega) only [vm0, vm1, vm2, vm3, vm4, vm5, vm6, vm7, fPick, fBox, fBuild, fBsl, fLd, fLda, fSt, fNilc, fBin, fEq, fUn, fMkf, fFa, fFld, fFlda, fExt, evo, wr, wrC, frame, Bool.not_true, Bool.not_false, beq_self_eq_true, List.cons_append, List.nil_append, Nat.add_zero, Nat.zero_add, Nat.reduceAdd, Nat.reduceMul, Nat.reduceSub, Bool.and_true, Bool.true_and, Bool.and_self, beq_dec, fApp, Int.toNat_natCast, Nat.sub_zero, vmI]
  exact ⟨rfl, hf⟩
theorem i_ready (n : Nat) (s : St) (p : Nat) (i : IB) (fp : List Nat) (hF : IsI s p i fp) (hi : i.Ok) (hfr : 0 ≤ frontR i.l ∧ frontR i.l ≤ far) : OutOk (callF bd (tab h).get fu (n + 4) 67 [.ptr p 0] s) (fun x s' => Is x (num i.ready) ∧ Fr s s' []) := by
  refine call_code (t67 h) rfl ?_
  have hF0 := hF
  obtain ⟨v, fv, q, fq, h1, h2, h3, h4, h5, h6, rfl, h7⟩ := hF
  obtain ⟨i1, i2, i3, i4, i5, i6⟩ := hi
  simp only [far] at hfr
  simp (disch := omega) only [vm0, vm1, vm2, vm3, vm4, vm5, vm6, vm7, fPick, fBox, fBuild, fBsl, fLd, fLda, fSt, fNilc, fBin, fEq, fUn, fMkf, fFa, fFld, fFlda, fExt, evo, wr, wrC, frame, Bool.not_true, Bool.not_false, beq_self_eq_true, List.cons_append, List.nil_append, Nat.add_zero, Nat.zero_add, Nat.reduceAdd, Nat.reduceMul, Nat.reduceSub, Bool.and_true, Bool.true_and, Bool.and_self, beq_dec, fApp, Int.toNat_natCast, Nat.sub_zero, vmI, vc67]
  refine call_ok rfl rfl (i_front n s p i _ hF0) ?_
  rintro x s1 ⟨rfl, hf⟩
  have h1' := (hf.get h7 (by simp)).trans h1
  simp (disch := omega) only [vm0, vm1, vm2, vm3, vm4, vm5, vm6, vm7, fPick, fBox, fBuild, fBsl, fLd, fLda, fSt, fNilc, fBin, fEq, fUn, fMkf, fFa, fFld, fFlda, fExt, evo, wr, wrC, frame, Bool.not_true, Bool.not_false, beq_self_eq_true, List.cons_append, List.nil_append, Nat.add_zero, Nat.zero_add, Nat.reduceAdd, Nat.reduceMul, Nat.reduceSub, Bool.and_true, Bool.true_and, Bool.and_self, beq_dec, fApp, Int.toNat_natCast, Nat.sub_zero, vmI, h1, h1']
  exact ⟨rfl, hf⟩
theorem i_done (n : Nat) (s : St) (p : Nat) (i : IB) (fp : List Nat) (hF : IsI s p i fp) : OutOk (callF bd (tab h).get fu (n + 1) 68 [.ptr p 0] s) (fun x s' => Is x (.bool i.done) ∧ Is s' s) := by
  refine call_code (t68 h) rfl ?_
  obtain ⟨v, fv, q, fq, h1, h2, h3, h4, h5, h6, rfl, h7⟩ := hF
  cases hk : i.kn
  · simp (disch := omega) only [vm0, vm1, vm2, vm3, vm4, vm5, vm6, vm7, fPick, fBox, fBuild, fBsl, fLd, fLda, fSt, fNilc, fBin, fEq, fUn, fMkf, fFa, fFld, fFlda, fExt, evo, wr, wrC, frame, Bool.not_true, Bool.not_false, beq_self_eq_true, List.cons_append, List.nil_append, Nat.add_zero, Nat.zero_add, Nat.reduceAdd, Nat.reduceMul, Nat.reduceSub, Bool.and_true, Bool.true_and, Bool.and_self, beq_dec, fApp, Int.toNat_natCast, Nat.sub_zero, vmI, vc68, vmU, h1, hk]
    exact ⟨by show AV.bool _ = AV.bool _; simp [IB.done, hk], rfl⟩
  · simp (disch := omega) only [vm0, vm1, vm2, vm3, vm4, vm5, vm6, vm7, fPick, fBox, fBuild, fBsl, fLd, fLda, fSt, fNilc, fBin, fEq, fUn, fMkf, fFa, fFld, fFlda, fExt, evo, wr, wrC, frame, Bool.not_true, Bool.not_false, beq_self_eq_true, List.cons_append, List.nil_append, Nat.add_zero, Nat.zero_add, Nat.reduceAdd, Nat.reduceMul, Nat.reduceSub, Bool.and_true, Bool.true_and, Bool.and_self, beq_dec, fApp, Int.toNat_natCast, Nat.sub_zero, vmI, vc68, vmU, h1, hk]
    exact ⟨by show AV.bool _ = AV.bool _; simp [IB.done, hk], rfl⟩
theorem i_seen (n : Nat) (s : St) (p : Nat) (i : IB) (fp : List Nat) (hF : IsI s p i fp) (hi : i.Ok) : OutOk (callF bd (tab h).get fu (n + 4) 66 [.ptr p 0] s) (fun x s' => Is x (num i.seen) ∧ Fr s s' []) := by
  refine call_code (t66 h) rfl ?_
  have hF0 := hF
  obtain ⟨v, fv, q, fq, h1, h2, h3, h4, h5, h6, rfl, h7⟩ := hF
  obtain ⟨i1, i2, i3, i4, i5, i6⟩ := hi
  cases hk : i.kn
  · simp (disch := omega) only [vm0, vm1, vm2, vm3, vm4, vm5, vm6, vm7, fPick, fBox, fBuild, fBsl, fLd, fLda, fSt, fNilc, fBin, fEq, fUn, fMkf, fFa, fFld, fFlda, fExt, evo, wr, wrC, frame, Bool.not_true, Bool.not_false, beq_self_eq_true, List.cons_append, List.nil_append, Nat.add_zero, Nat.zero_add, Nat.reduceAdd, Nat.reduceMul, Nat.reduceSub, Bool.and_true, Bool.true_and, Bool.and_self, beq_dec, fApp, Int.toNat_natCast, Nat.sub_zero, vmI, vc66, vmU, h1, hk]
    refine call_ok rfl rfl (i_front n s p i _ hF0) ?_
    rintro x s1 ⟨rfl, hf⟩
    simp (disch := omega) only [vm0, vm1, vm2, vm3, vm4, vm5, vm6, vm7, fPick, fBox, fBuild, fBsl, fLd, fLda, fSt, fNilc, fBin, fEq, fUn, fMkf, fFa, fFld, fFlda, fExt, evo, wr, wrC, frame, Bool.not_true, Bool.not_false, beq_self_eq_true, List.cons_append, List.nil_append, Nat.add_zero, Nat.zero_add, Nat.reduceAdd, Nat.reduceMul, Nat.reduceSub, Bool.and_true, Bool.true_and, Bool.and_self, beq_dec, fApp, Int.toNat_natCast, Nat.sub_zero, vmI]
    exact ⟨by show num _ = num _; simp [IB.seen, hk], hf⟩
  · by_cases hq : frontR i.l = i.e
    · simp (disch := omega) only [vm0, vm1, vm2, vm3, vm4, vm5, vm6, vm7, fPick, fBox, fBuild, fBsl, fLd, fLda, fSt, fNilc, fBin, fEq, fUn, fMkf, fFa, fFld, fFlda, fExt, evo, wr, wrC, frame, Bool.not_true, Bool.not_false, beq_self_eq_true, List.cons_append, List.nil_append, Nat.add_zero, Nat.zero_add, Nat.reduceAdd, Nat.reduceMul, Nat.reduceSub, Bool.and_true, Bool.true_and, Bool.and_self, beq_dec, fApp, Int.toNat_natCast, Nat.sub_zero, vmI, vc66, h1, hk]
      refine call_ok rfl rfl (i_front n s p i _ hF0) ?_
      rintro x s1 ⟨rfl, hf⟩
      have h1' := (hf.get h7 (by simp)).trans h1
      simp (disch := omega) only [vm0, vm1, vm2, vm3, vm4, vm5, vm6, vm7, fPick, fBox, fBuild, fBsl, fLd, fLda, fSt, fNilc, fBin, fEq, fUn, fMkf, fFa, fFld, fFlda, fExt, evo, wr, wrC, frame, Bool.not_true, Bool.not_false, beq_self_eq_true, List.cons_append, List.nil_append, Nat.add_zero, Nat.zero_add, Nat.reduceAdd, Nat.reduceMul, Nat.reduceSub, Bool.and_true, Bool.true_and, Bool.and_self, beq_dec, fApp, Int.toNat_natCast, Nat.sub_zero, vmI, h1, h1', hk]
      exact ⟨by show num _ = num _; simp [IB.seen, hk, hq], hf⟩
    · simp (disch := omega) only [vm0, vm1, vm2, vm3, vm4, vm5, vm6, vm7, fPick, fBox, fBuild, fBsl, fLd, fLda, fSt, fNilc, fBin, fEq, fUn, fMkf, fFa, fFld, fFlda, fExt, evo, wr, wrC, frame, Bool.not_true, Bool.not_false, beq_self_eq_true, List.cons_append, List.nil_append, Nat.add_zero, Nat.zero_add, Nat.reduceAdd, Nat.reduceMul, Nat.reduceSub, Bool.and_true, Bool.true_and, Bool.and_self, beq_dec, fApp, Int.toNat_natCast, Nat.sub_zero, vmI, vc66, h1, hk]
      refine call_ok rfl rfl (i_front n s p i _ hF0) ?_
      rintro x s1 ⟨rfl, hf⟩
      have h1' := (hf.get h7 (by simp)).trans h1
      simp (disch := omega) only [vm0, vm1, vm2, vm3, vm4, vm5, vm6, vm7, fPick, fBox, fBuild, fBsl, fLd, fLda, fSt, fNilc, fBin, fEq, fUn, fMkf, fFa, fFld, fFlda, fExt, evo, wr, wrC, frame, Bool.not_true, Bool.not_false, beq_self_eq_true, List.cons_append, List.nil_append, Nat.add_zero, Nat.zero_add, Nat.reduceAdd, Nat.reduceMul, Nat.reduceSub, Bool.and_true, Bool.true_and, Bool.and_self, beq_dec, fApp, Int.toNat_natCast, Nat.sub_zero, vmI, h1, h1', hk]
      refine call_ok rfl rfl (i_front n s1 p i _ (hF0.fr hf (by simp))) ?_
      rintro x s2 ⟨rfl, hf2⟩
      simp (disch := omega) only [vm0, vm1, vm2, vm3, vm4, vm5, vm6, vm7, fPick, fBox, fBuild, fBsl, fLd, fLda, fSt, fNilc, fBin, fEq, fUn, fMkf, fFa, fFld, fFlda, fExt, evo, wr, wrC, frame, Bool.not_true, Bool.not_false, beq_self_eq_true, List.cons_append, List.nil_append, Nat.add_zero, Nat.zero_add, Nat.reduceAdd, Nat.reduceMul, Nat.reduceSub, Bool.and_true, Bool.true_and, Bool.and_self, beq_dec, fApp, Int.toNat_natCast, Nat.sub_zero, vmI]
      exact ⟨by show num _ = num _; simp [IB.seen, hk, hq], hf.trans hf2 (fp2 := []) (by simp) (by simp)⟩
end
end Go.Proofs.Ytekhpohcjfjhfaa.ctr
namespace Go.Proofs.Ytekhpohcjfjhfaa.ctr
open Go.Vm Go.RowKit Go.Ranges
set_option linter.unusedVariables false
set_option linter.constructorNameAsVariable false
set_option linter.unusedSimpArgs false
theorem Fr.seq {s s1 s2 : St} {fp fp1 : List Nat} (h1 : Fr s s1 fp) (n1 : Nw s fp fp1) (h2 : Fr s1 s2 fp1) : Fr s s2 fp := h1.trans h2 (fun b hb _ => hb) (fun b hb hlt => (n1 b hb).resolve_right (by omega))
theorem Nw.seq {s s1 : St} {fp fp1 fp2 : List Nat} (h1 : Fr s s1 fp) (n1 : Nw s fp fp1) (n2 : Nw s1 fp1 fp2) : Nw s fp fp2 := fun b hb => (n2 b hb).elim (fun h => n1 b h) (fun h => .inr (Nat.le_trans h1.1 h))
/-- a byte at its place -/
def setB (b : List Int) (k : Nat) (c : Int) : List Int := (b ++ List.replicate (k + 1 - b.length) 0).set k c
def addP (f t : Int) (l : List R) : List R := if max 0 f < min t far then Ranges.addR (max 0 f) (min t far) l else l
def IB.put1 (i : IB) (at_ : Int) (c : Int) : IB := { i with b := setB i.b at_.toNat c, l := addP at_ (at_ + 1) i.l }
theorem IsI.setB {s s' : St} {p : Nat} {i : IB} {v v' : AV} {q : Nat} {fv fv' fq : List Nat} {b' : List Int} (h1 : s.heap.get p = some (.cells [v, .ptr q 0, num i.w, num i.tk, num i.e, .bool i.kn] .own)) (h3 : IsS s q i.l fq) (h4 : p ∉ fv) (h5 : p ∉ fq) (h6 : ∀ b ∈ fv, b ∉ fq) (h7 : p < s.next) (k1 : OwE s' v' 1 encB b' fv') (k2 : Fr s s' fv) (k3 : Nw s fv fv') :
    IsI (s'.put p (some (.cells [v', .ptr q 0, num i.w, num i.tk, num i.e, .bool i.kn] .own))) p { i with b := b' } (p :: (fv' ++ fq)) ∧ Fr s (s'.put p (some (.cells [v', .ptr q 0, num i.w, num i.tk, num i.e, .bool i.kn] .own))) (p :: (fv ++ fq)) ∧ Nw s (p :: (fv ++ fq)) (p :: (fv' ++ fq)) := by
  have h4' : p ∉ fv' := k3.not h4 h7
  have hdq : ∀ b ∈ fq, b ∉ fv := fun b hb hm => h6 b hm hb
  refine ⟨⟨v', fv', q, fq, get_put_eq rfl, k1.fr (fp' := [p]) (.put (.inl (by simp))) (by rintro b hb hm; simp at hm; subst hm; exact h4' hb), (h3.fr k2 hdq).fr (fp' := [p]) (.put (.inl (by simp))) (by rintro b hb hm; simp at hm; subst hm; exact h5 hb), h4', h5, ?_, rfl, by rw [next_put]; exact Nat.lt_of_lt_of_le h7 k2.1⟩, ?_, ?_⟩
  · intro b hb hm
    rcases k3 b hb with h | h
    · exact h6 b h hm
    · have := h3.lt b hm; omega
  · exact .put' (.inl (by simp)) (k2.mono fun b hb _ => by simp [hb])
  · refine Nw.cons (s' := s) ?_ (Nat.le_refl _)
    intro b hb
    rcases List.mem_append.1 hb with hb | hb
    · rcases k3 b hb with h | h
      · exact .inl (by simp [h])
      · exact .inr h
    · exact .inl (by simp [hb])
section
variable {bd : Bd} {h : VF} {fu : Nat}
theorem i_new (n : Nat) (s : St) (w : Int) : OutOk (callF bd (tab h).get fu (n + 2) 64 [num w] s) (fun x s' => ∃ p fp, Is x (.ptr p 0) ∧ IsI s' p ⟨[], [], min (max w 1) 400, 0, 0, false⟩ fp ∧ Fr s s' [] ∧ Nw s [] fp) := by
  refine call_code (t64 h) rfl ?_
  obtain ⟨m, hm⟩ : ∃ m, min (max w 1) 400 = m := ⟨_, rfl⟩
  rw [hm]
  simp (disch := omega) only [vm0, vm1, vm2, vm3, vm4, vm5, vm6, vm7, fPick, fBox, fBuild, fBsl, fLd, fLda, fSt, fNilc, fBin, fEq, fUn, fMkf, fFa, fFld, fFlda, fExt, evo, wr, wrC, frame, Bool.not_true, Bool.not_false, beq_self_eq_true, List.cons_append, List.nil_append, Nat.add_zero, Nat.zero_add, Nat.reduceAdd, Nat.reduceMul, Nat.reduceSub, Bool.and_true, Bool.true_and, Bool.and_self, beq_dec, fApp, Int.toNat_natCast, Nat.sub_zero, vmI, vc64, hm]
  refine call_ok rfl rfl (s_new n s) ?_
  rintro x s1 ⟨q, rfl, hq, hf1, hS⟩
  simp (disch := omega) only [vm0, vm1, vm2, vm3, vm4, vm5, vm6, vm7, fPick, fBox, fBuild, fBsl, fLd, fLda, fSt, fNilc, fBin, fEq, fUn, fMkf, fFa, fFld, fFlda, fExt, evo, wr, wrC, frame, Bool.not_true, Bool.not_false, beq_self_eq_true, List.cons_append, List.nil_append, Nat.add_zero, Nat.zero_add, Nat.reduceAdd, Nat.reduceMul, Nat.reduceSub, Bool.and_true, Bool.true_and, Bool.and_self, beq_dec, fApp, Int.toNat_natCast, Nat.sub_zero, vmI, hm]
  have hql := hS.lt q (by simp)
  have hfa : Fr s1 (s1.new (.cells [.nils, .ptr q 0, num m, num 0, num 0, .bool false] .own)) [] := .new
  refine ⟨s1.next, [s1.next, q], rfl, ⟨.nils, [], q, [q], get_new_eq rfl, .nil encB_w (by omega), hS.fr (fp' := []) .new (by simp), by simp, by simp; omega, by simp, rfl, by rw [next_new]; omega⟩, hf1.trans hfa (fp2 := []) (by simp) (by simp), ?_⟩
  intro b hb
  have := hf1.1
  simp at hb
  rcases hb with rfl | rfl <;> right <;> omega
theorem i_last (n : Nat) (s : St) (p : Nat) (i : IB) (fp : List Nat) (hF : IsI s p i fp) (hl : i.l.length < 1000000) : OutOk (callF bd (tab h).get fu (n + 3) 105 [.ptr p 0] s) (fun x s' => Is x (num (lastR i.l)) ∧ Fr s s' []) := by
  refine call_code (t105 h) rfl ?_
  obtain ⟨v, fv, q, fq, h1, h2, h3, h4, h5, h6, rfl, h7⟩ := hF
  simp (disch := omega) only [vm0, vm1, vm2, vm3, vm4, vm5, vm6, vm7, fPick, fBox, fBuild, fBsl, fLd, fLda, fSt, fNilc, fBin, fEq, fUn, fMkf, fFa, fFld, fFlda, fExt, evo, wr, wrC, frame, Bool.not_true, Bool.not_false, beq_self_eq_true, List.cons_append, List.nil_append, Nat.add_zero, Nat.zero_add, Nat.reduceAdd, Nat.reduceMul, Nat.reduceSub, Bool.and_true, Bool.true_and, Bool.and_self, beq_dec, fApp, Int.toNat_natCast, Nat.sub_zero, vmI, vc105, h1]
  refine call_ok rfl rfl (s_all n s q i.l fq h3 hl) ?_
  rintro x s1 ⟨f1, q1, q2, q3⟩
  have e1 := q1.rd.lenV
  by_cases h0 : i.l.length = 0
  · have hz : (i.l.length : Int) = 0 := by omega
    rw [hz] at e1
    simp (disch := omega) only [vm0, vm1, vm2, vm3, vm4, vm5, vm6, vm7, fPick, fBox, fBuild, fBsl, fLd, fLda, fSt, fNilc, fBin, fEq, fUn, fMkf, fFa, fFld, fFlda, fExt, evo, wr, wrC, frame, Bool.not_true, Bool.not_false, beq_self_eq_true, List.cons_append, List.nil_append, Nat.add_zero, Nat.zero_add, Nat.reduceAdd, Nat.reduceMul, Nat.reduceSub, Bool.and_true, Bool.true_and, Bool.and_self, beq_dec, fApp, Int.toNat_natCast, Nat.sub_zero, vmI, e1]
    have hn : i.l = [] := List.eq_nil_of_length_eq_zero h0
    exact ⟨by rw [hn]; rfl, q2⟩
  · obtain ⟨⟨a, b⟩, hx⟩ : ∃ r, i.l[i.l.length - 1]? = some r := ⟨_, List.getElem?_eq_getElem (by omega)⟩
    have y1 := q1.rd.ia hx
    have y2 := RdE.f1 q1.rd hx
    have y3 := q1.rd.blk' hx
    have hcast : ((i.l.length - 1 : Nat) : Int) = (i.l.length : Int) - 1 := by omega
    rw [hcast] at y1
    simp (disch := omega) only [vm0, vm1, vm2, vm3, vm4, vm5, vm6, vm7, fPick, fBox, fBuild, fBsl, fLd, fLda, fSt, fNilc, fBin, fEq, fUn, fMkf, fFa, fFld, fFlda, fExt, evo, wr, wrC, frame, Bool.not_true, Bool.not_false, beq_self_eq_true, List.cons_append, List.nil_append, Nat.add_zero, Nat.zero_add, Nat.reduceAdd, Nat.reduceMul, Nat.reduceSub, Bool.and_true, Bool.true_and, Bool.and_self, beq_dec, fApp, Int.toNat_natCast, Nat.sub_zero, vmI, e1, y1, y2]
    refine ⟨?_, q2⟩
    show num _ = num _
    rw [lastR, List.getLastD_eq_getLast?, List.getLast?_eq_getElem?, hx]; rfl
theorem i_may (n : Nat) (s : St) (p : Nat) (i : IB) (fp : List Nat) (at_ : Int) (hF : IsI s p i fp) (hi : i.Ok) (hfu : 4000 < fu) (ha : -1000000000000000 ≤ at_ ∧ at_ ≤ 1000000000000000) : OutOk (callF bd (tab h).get fu (n + 5) 103 [.ptr p 0, num at_] s) (fun x s' => Is x (.bool (i.may at_)) ∧ Fr s s' []) := by
  refine call_code (t103 h) rfl ?_
  have hF0 := hF
  obtain ⟨v, fv, q, fq, h1, h2, h3, h4, h5, h6, rfl, h7⟩ := hF
  have hi0 := hi
  obtain ⟨i1, i2, i3, i4, i5, i6⟩ := hi
  by_cases c1 : 0 ≤ at_
  · simp (disch := omega) only [vm0, vm1, vm2, vm3, vm4, vm5, vm6, vm7, fPick, fBox, fBuild, fBsl, fLd, fLda, fSt, fNilc, fBin, fEq, fUn, fMkf, fFa, fFld, fFlda, fExt, evo, wr, wrC, frame, Bool.not_true, Bool.not_false, beq_self_eq_true, List.cons_append, List.nil_append, Nat.add_zero, Nat.zero_add, Nat.reduceAdd, Nat.reduceMul, Nat.reduceSub, Bool.and_true, Bool.true_and, Bool.and_self, beq_dec, fApp, Int.toNat_natCast, Nat.sub_zero, vmI, vc103]
    refine call_ok rfl rfl (i_limit (n + 3) s p i _ hF0 hi0) ?_
    rintro x s ⟨rfl, rfl⟩
    by_cases c2 : at_ < i.limit
    · cases hk : i.kn
      · simp (disch := omega) only [vm0, vm1, vm2, vm3, vm4, vm5, vm6, vm7, fPick, fBox, fBuild, fBsl, fLd, fLda, fSt, fNilc, fBin, fEq, fUn, fMkf, fFa, fFld, fFlda, fExt, evo, wr, wrC, frame, Bool.not_true, Bool.not_false, beq_self_eq_true, List.cons_append, List.nil_append, Nat.add_zero, Nat.zero_add, Nat.reduceAdd, Nat.reduceMul, Nat.reduceSub, Bool.and_true, Bool.true_and, Bool.and_self, beq_dec, fApp, Int.toNat_natCast, Nat.sub_zero, vmI, h1, hk]
        refine call_ok rfl rfl (s_has n s q i.l fq at_ (at_ + 1) h3 (by omega) (by omega)) ?_
        rintro x s1 ⟨rfl, hf⟩
        simp (disch := omega) only [vm0, vm1, vm2, vm3, vm4, vm5, vm6, vm7, fPick, fBox, fBuild, fBsl, fLd, fLda, fSt, fNilc, fBin, fEq, fUn, fMkf, fFa, fFld, fFlda, fExt, evo, wr, wrC, frame, Bool.not_true, Bool.not_false, beq_self_eq_true, List.cons_append, List.nil_append, Nat.add_zero, Nat.zero_add, Nat.reduceAdd, Nat.reduceMul, Nat.reduceSub, Bool.and_true, Bool.true_and, Bool.and_self, beq_dec, fApp, Int.toNat_natCast, Nat.sub_zero, vmI]
        exact ⟨by show AV.bool _ = AV.bool _; simp [IB.may, c1, c2, hk], hf⟩
      · by_cases c3 : at_ < i.e
        · simp (disch := omega) only [vm0, vm1, vm2, vm3, vm4, vm5, vm6, vm7, fPick, fBox, fBuild, fBsl, fLd, fLda, fSt, fNilc, fBin, fEq, fUn, fMkf, fFa, fFld, fFlda, fExt, evo, wr, wrC, frame, Bool.not_true, Bool.not_false, beq_self_eq_true, List.cons_append, List.nil_append, Nat.add_zero, Nat.zero_add, Nat.reduceAdd, Nat.reduceMul, Nat.reduceSub, Bool.and_true, Bool.true_and, Bool.and_self, beq_dec, fApp, Int.toNat_natCast, Nat.sub_zero, vmI, h1, hk]
          refine call_ok rfl rfl (s_has n s q i.l fq at_ (at_ + 1) h3 (by omega) (by omega)) ?_
          rintro x s1 ⟨rfl, hf⟩
          simp (disch := omega) only [vm0, vm1, vm2, vm3, vm4, vm5, vm6, vm7, fPick, fBox, fBuild, fBsl, fLd, fLda, fSt, fNilc, fBin, fEq, fUn, fMkf, fFa, fFld, fFlda, fExt, evo, wr, wrC, frame, Bool.not_true, Bool.not_false, beq_self_eq_true, List.cons_append, List.nil_append, Nat.add_zero, Nat.zero_add, Nat.reduceAdd, Nat.reduceMul, Nat.reduceSub, Bool.and_true, Bool.true_and, Bool.and_self, beq_dec, fApp, Int.toNat_natCast, Nat.sub_zero, vmI]
          exact ⟨by show AV.bool _ = AV.bool _; simp [IB.may, c1, c2, hk, c3], hf⟩
        · simp (disch := omega) only [vm0, vm1, vm2, vm3, vm4, vm5, vm6, vm7, fPick, fBox, fBuild, fBsl, fLd, fLda, fSt, fNilc, fBin, fEq, fUn, fMkf, fFa, fFld, fFlda, fExt, evo, wr, wrC, frame, Bool.not_true, Bool.not_false, beq_self_eq_true, List.cons_append, List.nil_append, Nat.add_zero, Nat.zero_add, Nat.reduceAdd, Nat.reduceMul, Nat.reduceSub, Bool.and_true, Bool.true_and, Bool.and_self, beq_dec, fApp, Int.toNat_natCast, Nat.sub_zero, vmI, h1, hk]
          exact ⟨by show AV.bool _ = AV.bool _; simp [IB.may, c1, c2, hk, c3], .refl⟩
    · simp (disch := omega) only [vm0, vm1, vm2, vm3, vm4, vm5, vm6, vm7, fPick, fBox, fBuild, fBsl, fLd, fLda, fSt, fNilc, fBin, fEq, fUn, fMkf, fFa, fFld, fFlda, fExt, evo, wr, wrC, frame, Bool.not_true, Bool.not_false, beq_self_eq_true, List.cons_append, List.nil_append, Nat.add_zero, Nat.zero_add, Nat.reduceAdd, Nat.reduceMul, Nat.reduceSub, Bool.and_true, Bool.true_and, Bool.and_self, beq_dec, fApp, Int.toNat_natCast, Nat.sub_zero, vmI]
      exact ⟨by show AV.bool _ = AV.bool _; simp [IB.may, c1, c2], .refl⟩
  · simp (disch := omega) only [vm0, vm1, vm2, vm3, vm4, vm5, vm6, vm7, fPick, fBox, fBuild, fBsl, fLd, fLda, fSt, fNilc, fBin, fEq, fUn, fMkf, fFa, fFld, fFlda, fExt, evo, wr, wrC, frame, Bool.not_true, Bool.not_false, beq_self_eq_true, List.cons_append, List.nil_append, Nat.add_zero, Nat.zero_add, Nat.reduceAdd, Nat.reduceMul, Nat.reduceSub, Bool.and_true, Bool.true_and, Bool.and_self, beq_dec, fApp, Int.toNat_natCast, Nat.sub_zero, vmI, vc103]
    exact ⟨by show AV.bool _ = AV.bool _; simp [IB.may, c1], .refl⟩
set_option maxHeartbeats 400000 in
theorem i_put1 (hs : SortOk h) (n : Nat) (s : St) (p : Nat) (i : IB) (fp : List Nat) (k : Nat) (c : Int) (hF : IsI s p i fp) (hi : i.Ok) (hk : k < 3000) (hfu : 4000 < fu) : OutOk (callF bd (tab h).get fu (n + 3) 104 [.ptr p 0, num (k : Int), byt c] s) (fun x s' => ∃ fp', IsI s' p (i.put1 k c) fp' ∧ Fr s s' fp ∧ Nw s fp fp') := by
  refine call_code (t104 h) rfl ?_
  obtain ⟨i1, i2, i3, i4, i5, i6⟩ := hi
  simp (disch := omega) only [vm0, vm1, vm2, vm3, vm4, vm5, vm6, vm7, fPick, fBox, fBuild, fBsl, fLd, fLda, fSt, fNilc, fBin, fEq, fUn, fMkf, fFa, fFld, fFlda, fExt, evo, wr, wrC, frame, Bool.not_true, Bool.not_false, beq_self_eq_true, List.cons_append, List.nil_append, Nat.add_zero, Nat.zero_add, Nat.reduceAdd, Nat.reduceMul, Nat.reduceSub, Bool.and_true, Bool.true_and, Bool.and_self, beq_dec, fApp, Int.toNat_natCast, Nat.sub_zero, vmI, vc104]
  refine x_loop (fun m F s' => ∃ j : Nat, ∃ x3 fp', m = (k + 1 - i.b.length) - j ∧ j ≤ k + 1 - i.b.length ∧ F = [some (.ptr p 0), some (num (k : Int)), some (byt c), x3] ∧ IsI s' p { i with b := i.b ++ List.replicate j 0 } fp' ∧ Fr s s' fp ∧ Nw s fp fp') (k + 1 - i.b.length) (by omega) ?_ ?_
  · exact ⟨0, _, fp, by omega, by omega, rfl, by simpa using hF, .refl, .refl⟩
  · rintro m F s1 ⟨j, x3, fp1, rfl, hj, rfl, hF1, hf1, hn1⟩ hm
    obtain ⟨v, fv, q, fq, h1, h2, h3, h4, h5, h6, rfl, h7⟩ := hF1
    have e1 := h2.rd.lenV
    simp only [List.length_append, List.length_replicate] at e1
    by_cases hlt : i.b.length + j ≤ k
    · simp (disch := omega) only [vm0, vm1, vm2, vm3, vm4, vm5, vm6, vm7, fPick, fBox, fBuild, fBsl, fLd, fLda, fSt, fNilc, fBin, fEq, fUn, fMkf, fFa, fFld, fFlda, fExt, evo, wr, wrC, frame, Bool.not_true, Bool.not_false, beq_self_eq_true, List.cons_append, List.nil_append, Nat.add_zero, Nat.zero_add, Nat.reduceAdd, Nat.reduceMul, Nat.reduceSub, Bool.and_true, Bool.true_and, Bool.and_self, beq_dec, fApp, Int.toNat_natCast, Nat.sub_zero, vmI, h1, e1]
      have hfa : Fr s1 (s1.new (.cells [.int .u8 (.c 0)] .own)) [] := .new
      refine op_app1 h2 (by (repeat' (first | exact Fr.refl | assumption | apply Fr.new' | apply Fr.mk' | apply Fr.put')) <;> (first | omega | (left; simp; done) | (right; simp only [next_put, next_new, next_mk]; omega) | (simp only [next_put, next_new, next_mk]; omega))) (x := 0) rfl (by simp; omega) ?_
      intro v' s2 fv' q1 q2 q3
      have h1' := (q2.get h7 h4).trans h1
      simp (disch := omega) only [vm0, vm1, vm2, vm3, vm4, vm5, vm6, vm7, fPick, fBox, fBuild, fBsl, fLd, fLda, fSt, fNilc, fBin, fEq, fUn, fMkf, fFa, fFld, fFlda, fExt, evo, wr, wrC, frame, Bool.not_true, Bool.not_false, beq_self_eq_true, List.cons_append, List.nil_append, Nat.add_zero, Nat.zero_add, Nat.reduceAdd, Nat.reduceMul, Nat.reduceSub, Bool.and_true, Bool.true_and, Bool.and_self, beq_dec, fApp, Int.toNat_natCast, Nat.sub_zero, vmI, h1', q1.cells]
      obtain ⟨r1, r2, r3⟩ := IsI.setB h1 h3 h4 h5 h6 h7 q1 q2 q3
      refine ⟨k + 1 - i.b.length - (j + 1), by omega, j + 1, _, _, rfl, by omega, rfl, ?_, Fr.seq hf1 hn1 r2, Nw.seq hf1 hn1 r3⟩
      have ha : i.b ++ List.replicate (j + 1) 0 = i.b ++ List.replicate j 0 ++ [0] := by rw [List.replicate_succ', List.append_assoc]
      rw [ha]
      exact r1
    · have hjk : j = k + 1 - i.b.length := by omega
      obtain ⟨b1, hb1⟩ : ∃ b1, i.b ++ List.replicate j 0 = b1 := ⟨_, rfl⟩
      rw [hb1] at h2
      have hbl : k < b1.length := by rw [← hb1]; simp; omega
      obtain ⟨x, hx⟩ : ∃ x, b1[k]? = some x := ⟨_, List.getElem?_eq_getElem hbl⟩
      have e2 := h2.rd.ia hx
      obtain ⟨s2, f2, w1, w2, w3, w4, w5⟩ := h2.set hx (j := 0) (y := byt c) (x' := c) (by omega) rfl
      rw [Nat.add_zero] at w1
      have h1' := (w3.get h7 h4).trans h1
      have h3' : IsS s2 q i.l fq := h3.fr w3 (fun b hb hm => h6 b hm hb)
      simp only [byt] at w1
      simp (disch := omega) only [vm0, vm1, vm2, vm3, vm4, vm5, vm6, vm7, fPick, fBox, fBuild, fBsl, fLd, fLda, fSt, fNilc, fBin, fEq, fUn, fMkf, fFa, fFld, fFlda, fExt, evo, frame, Bool.not_true, Bool.not_false, beq_self_eq_true, List.cons_append, List.nil_append, Nat.add_zero, Nat.zero_add, Nat.reduceAdd, Nat.reduceMul, Nat.reduceSub, Bool.and_true, Bool.true_and, Bool.and_self, beq_dec, fApp, Int.toNat_natCast, Nat.sub_zero, h1, e1, e2, w1]
      simp (disch := omega) only [vm0, vm1, vm2, vm3, vm4, vm5, vm6, vm7, fPick, fBox, fBuild, fBsl, fLd, fLda, fSt, fNilc, fBin, fEq, fUn, fMkf, fFa, fFld, fFlda, fExt, evo, frame, Bool.not_true, Bool.not_false, beq_self_eq_true, List.cons_append, List.nil_append, Nat.add_zero, Nat.zero_add, Nat.reduceAdd, Nat.reduceMul, Nat.reduceSub, Bool.and_true, Bool.true_and, Bool.and_self, beq_dec, fApp, Int.toNat_natCast, Nat.sub_zero, h1', wr64]
      have hX := s_add hs (bd := bd) (fu := fu) n s2 q i.l fq (k : Int) ((k : Int) + 1) h3' i1 (by omega) (by omega)
      generalize hz : (k : Int) + 1 = z at hX ⊢
      generalize hy : (k : Int) = y at hX ⊢
      refine call_ok rfl rfl hX ?_
      subst hz hy
      rintro x s3 ⟨fq', r1, r2, r3⟩
      simp (disch := omega) only [vm0, vm1, vm2, vm3, vm4, vm5, vm6, vm7, fPick, fBox, fBuild, fBsl, fLd, fLda, fSt, fNilc, fBin, fEq, fUn, fMkf, fFa, fFld, fFlda, fExt, evo, wr, wrC, frame, Bool.not_true, Bool.not_false, beq_self_eq_true, List.cons_append, List.nil_append, Nat.add_zero, Nat.zero_add, Nat.reduceAdd, Nat.reduceMul, Nat.reduceSub, Bool.and_true, Bool.true_and, Bool.and_self, beq_dec, fApp, Int.toNat_natCast, Nat.sub_zero, vmI]
      have hput : setB i.b k c = b1.set k c := by unfold setB; rw [← hb1, hjk]
      have hfq : ∀ b ∈ f2, b ∉ fq' := fun b hb hm => by
        rcases r3 b hm with h | h
        · exact h6 b (w5 b hb) h
        · have := w2.lt b hb; omega
      have hpe : i.put1 k c = ⟨b1.set k c, addP k (k + 1) i.l, i.w, i.tk, i.e, i.kn⟩ := by unfold IB.put1; rw [Int.toNat_natCast, hput]
      rw [hpe]
      have r1' : IsS s3 q (addP k (k + 1) i.l) fq' := r1
      have w2' : OwE s3 v 1 encB (b1.set k c) f2 := w2.fr r2 (fun b hb => h6 b (w5 b hb))
      have hp3 := (r2.get (Nat.lt_of_lt_of_le h7 w3.1) h5).trans h1'
      generalize addP (k : Int) ((k : Int) + 1) i.l = L at *
      generalize b1.set k c = B at *
      have hF3 : IsI s3 p ⟨B, L, i.w, i.tk, i.e, i.kn⟩ (p :: (f2 ++ fq')) := ⟨v, f2, q, fq', hp3, w2', r1', fun hm => h4 (w5 p hm), r3.not h5 (Nat.lt_of_lt_of_le h7 w3.1), hfq, rfl, Nat.lt_of_lt_of_le (Nat.lt_of_lt_of_le h7 w3.1) r2.1⟩
      have g1 : Fr s1 s3 (p :: (fv ++ fq)) := (w3.mono (fp' := p :: (fv ++ fq)) (fun b hb _ => by simp [hb])).trans r2 (fun b hb _ => hb) (fun b hb _ => by simp [hb])
      have g2 : Nw s1 (p :: (fv ++ fq)) (p :: (f2 ++ fq')) := by
        refine Nw.cons (s' := s1) ?_ (Nat.le_refl _)
        intro b hb
        rcases List.mem_append.1 hb with hb | hb
        · exact .inl (by simp [w5 b hb])
        · rcases r3 b hb with h | h
          · exact .inl (by simp [h])
          · exact .inr (by omega)
      exact ⟨_, hF3, Fr.seq hf1 hn1 g1, Nw.seq hf1 hn1 g2⟩
end
end Go.Proofs.Ytekhpohcjfjhfaa.ctr
namespace Go.Proofs.Ytekhpohcjfjhfaa.ctr
open Go.Vm Go.RowKit Go.Ranges
set_option linter.unusedVariables false
set_option linter.unusedSimpArgs false
/-! ## which places are there -/
def mem (l : List R) (p : Int) : Prop := ∃ r ∈ l, r.1 ≤ p ∧ p < r.2
theorem mem_nil {p : Int} : ¬ mem [] p := by rintro ⟨r, h, _⟩; simp at h
theorem mem_cons {r : R} {l : List R} {p : Int} : mem (r :: l) p ↔ (r.1 ≤ p ∧ p < r.2) ∨ mem l p := by
  simp [mem]
theorem mem_addR : ∀ {l : List R} {f t p b : Int}, WFr b l → f < t → (mem (Ranges.addR f t l) p ↔ mem l p ∨ (f ≤ p ∧ p < t))
  | [], f, t, p, b, _, _ => by simp [Ranges.addR, mem]
  | r :: l, f, t, p, b, hw, h => by
    obtain ⟨h1, h2, h3, h4⟩ := hw
    unfold Ranges.addR
    split
    · rw [mem_cons, mem_addR h4 h, mem_cons]; grind
    · split
      · rw [mem_cons, mem_cons]; grind
      · rw [mem_addR h4 (by omega), mem_cons]
        constructor
        · rintro (h | ⟨h5, h6⟩)
          · exact .inl (.inr h)
          · by_cases c1 : f ≤ p ∧ p < t
            · exact .inr c1
            · exact .inl (.inl (by omega))
        · rintro ((h | h) | h)
          · exact .inr (by omega)
          · exact .inl h
          · exact .inr (by omega)
theorem addP_eq {f : Int} {l : List R} (h0 : 0 ≤ f) (h2 : f < 1000000) : addP f (f + 1) l = Ranges.addR f (f + 1) l := by
  have hf : far = 1099511627776 := rfl
  unfold addP
  rw [show max 0 f = f by omega, show min (f + 1) far = f + 1 by omega, if_pos (by omega)]
theorem mem_addP {f p : Int} {l : List R} (hw : WFr 0 l) (h0 : 0 ≤ f) (h2 : f < 1000000) : mem (addP f (f + 1) l) p ↔ mem l p ∨ p = f := by
  rw [addP_eq h0 h2, mem_addR hw (by omega)]
  constructor
  · rintro (h | h)
    · exact .inl h
    · exact .inr (by omega)
  · rintro (h | h)
    · exact .inl h
    · exact .inr (by omega)
theorem addP_wf {f : Int} {l : List R} (hw : WFr 0 l) (h0 : 0 ≤ f) (h2 : f < 1000000) : WFr 0 (addP f (f + 1) l) := by
  have hf : far = 1099511627776 := rfl
  rw [addP_eq h0 h2]
  exact addR_wf hw h0 (by omega) (by omega)
theorem mem_has {l : List R} {p : Int} : hasR p (p + 1) l = true ↔ mem l p := by
  have : ¬ p + 1 ≤ p := by omega
  simp only [hasR, this, decide_false, Bool.false_or, List.any_eq_true, has1, Bool.and_eq_true, decide_eq_true_eq, mem]
  constructor <;> (rintro ⟨r, h1, h2, h3⟩; exact ⟨r, h1, h2, by omega⟩)
theorem mem_lb {l : List R} {b p : Int} (hw : WFr b l) (h : mem l p) : b ≤ p := by
  obtain ⟨r, h1, h2, h3⟩ := h
  have := hw.lb r h1
  omega
theorem front_cons (r : R) (l : List R) : frontR (r :: l) = if r.1 = 0 then r.2 else 0 := by
  unfold frontR
  by_cases h : r.1 = 0 <;> simp [h]
theorem front_bd {l : List R} (hw : WFr 0 l) : 0 ≤ frontR l ∧ frontR l ≤ far := by
  cases l with
  | nil => simp [frontR, far]
  | cons r l =>
    obtain ⟨h1, h2, h3, h4⟩ := hw
    rw [front_cons]
    by_cases h : r.1 = 0
    · rw [if_pos h]; omega
    · rw [if_neg h]; simp [far]
theorem front_mem {l : List R} (hw : WFr 0 l) {p : Int} (h0 : 0 ≤ p) (h : p < frontR l) : mem l p := by
  cases l with
  | nil => simp [frontR] at h; omega
  | cons r l =>
    rw [front_cons] at h
    by_cases hc : r.1 = 0
    · rw [if_pos hc] at h
      exact mem_cons.2 (.inl (by omega))
    · rw [if_neg hc] at h; omega
theorem front_not {l : List R} (hw : WFr 0 l) : ¬ mem l (frontR l) := by
  cases l with
  | nil => exact mem_nil
  | cons r l =>
    obtain ⟨h1, h2, h3, h4⟩ := hw
    rw [front_cons, mem_cons]
    by_cases hc : r.1 = 0
    · rw [if_pos hc]
      rintro (h | h)
      · omega
      · have := mem_lb h4 h; omega
    · rw [if_neg hc]
      rintro (h | h)
      · omega
      · have := mem_lb h4 h
        omega
/-- the first place that is not there is told by that -/
theorem front_eq {l : List R} (hw : WFr 0 l) {n : Int} (h0 : 0 ≤ n) (h1 : ∀ p, 0 ≤ p → p < n → mem l p) (h2 : ¬ mem l n) : frontR l = n := by
  have hb := front_bd hw
  rcases Int.lt_trichotomy (frontR l) n with h | h | h
  · exact absurd (h1 _ hb.1 h) (front_not hw)
  · exact h
  · exact absurd (front_mem hw h0 h) h2
theorem front_mono {l l' : List R} (hw : WFr 0 l) (hw' : WFr 0 l') (h : ∀ p, mem l p → mem l' p) : frontR l ≤ frontR l' := by
  by_cases hc : frontR l ≤ frontR l'
  · exact hc
  · exact absurd (h _ (front_mem hw (front_bd hw').1 (by omega))) (front_not hw')
theorem last_mem {l : List R} {b : Int} (hw : WFr b l) (h : l ≠ []) : mem l (lastR l - 1) := by
  have hx : l.getLast? = some (l.getLast h) := List.getLast?_eq_some_getLast h
  have hm := List.getLast_mem h
  have := hw.lb _ hm
  refine ⟨l.getLast h, hm, ?_⟩
  unfold lastR
  rw [List.getLastD_eq_getLast?, hx]
  simp only [Option.getD_some]
  omega
theorem last_ge : ∀ {l : List R} {b p : Int}, WFr b l → mem l p → p < lastR l
  | [], _, _, _, h => absurd h mem_nil
  | [r], _, p, hw, h => by
    rcases mem_cons.1 h with h | h
    · exact h.2
    · exact absurd h mem_nil
  | r :: r2 :: l, b, p, hw, h => by
    obtain ⟨h1, h2, h3, h4⟩ := hw
    have e : lastR (r :: r2 :: l) = lastR (r2 :: l) := by unfold lastR; rfl
    rw [e]
    rcases mem_cons.1 h with h | h
    · obtain ⟨k1, k2, k3, k4⟩ := id h4
      have := last_ge (p := r2.1) h4 (mem_cons.2 (.inl ⟨Int.le_refl _, k2⟩))
      omega
    · exact last_ge h4 h
theorem last_eq {l : List R} (hw : WFr 0 l) {n : Int} (h1 : ∀ p, mem l p → p < n) (h2 : n = 0 ∨ mem l (n - 1)) : lastR l = n ∨ l = [] := by
  by_cases h : l = []
  · exact .inr h
  · left
    have a := h1 _ (last_mem hw h)
    rcases h2 with h2 | h2
    · have := mem_lb hw (last_mem hw h); omega
    · have := last_ge hw h2; omega
/-- the number of ranges below a bound -/
theorem wf_len : ∀ {l : List R} {b M : Int}, WFr b l → (∀ r ∈ l, r.2 ≤ M) → b ≤ M + 2 → (2 * l.length : Int) ≤ M + 2 - b
  | [], b, M, _, _, h => by simp; omega
  | r :: l, b, M, hw, hm, h => by
    obtain ⟨h1, h2, h3, h4⟩ := hw
    have := hm r (by simp)
    have := wf_len h4 (fun r hr => hm r (by simp [hr])) (by omega)
    simp only [List.length_cons]
    omega
theorem addR_le : ∀ {l : List R} {f t M : Int}, (∀ r ∈ l, r.2 ≤ M) → t ≤ M → ∀ r ∈ Ranges.addR f t l, r.2 ≤ M
  | [], f, t, M, _, ht => by intro r hr; simp [Ranges.addR] at hr; subst hr; exact ht
  | r :: l, f, t, M, h, ht => by
    unfold Ranges.addR
    intro x hx
    split at hx
    · rcases List.mem_cons.1 hx with rfl | hx
      · exact h _ (by simp)
      · exact addR_le (fun r hr => h r (by simp [hr])) ht x hx
    · split at hx
      · rcases List.mem_cons.1 hx with rfl | hx
        · exact ht
        · exact h x hx
      · have := h r (by simp)
        exact addR_le (fun r hr => h r (by simp [hr])) (by omega) x hx
end Go.Proofs.Ytekhpohcjfjhfaa.ctr
namespace Go.Proofs.Ytekhpohcjfjhfaa.ctr
open Go.Vm Go.RowKit Go.Ranges
set_option linter.unusedVariables false
set_option linter.constructorNameAsVariable false
set_option linter.unusedSimpArgs false
theorem vlt_out {s : St} {v : AV} {fp : List Nat} (h : vlt s v) (hn : Nw s [] fp) : vout fp v := by
  cases v <;> try trivial
  intro hm
  rcases hn _ hm with h1 | h1
  · simp at h1
  · exact absurd h (by show ¬ _ < _; omega)
theorem vout_seq {s s1 : St} {v : AV} {fp fp1 : List Nat} (h : vlt s v) (ho : vout fp v) (hn : Nw s fp fp1) : vout fp1 v := by
  cases v <;> try trivial
  intro hm
  rcases hn _ hm with h1 | h1
  · exact ho h1
  · exact absurd h (by show ¬ _ < _; omega)
/-- an inbox as it comes to be -/
structure IB.Good (i : IB) : Prop where
  wf : WFr 0 i.l
  w : 0 ≤ i.w ∧ i.w ≤ 400
  tk : 0 ≤ i.tk ∧ i.tk ≤ frontR i.l
  lim : i.tk + i.w ≤ 2000
  e : 0 ≤ i.e ∧ i.e ≤ 4096
  rb : ∀ r ∈ i.l, r.2 ≤ (i.b.length : Int)
  bl : (i.b.length : Int) ≤ i.tk + i.w
theorem IB.Good.ok {i : IB} (h : i.Good) : i.Ok := by
  obtain ⟨h1, h2, h3, h4, h5, h6, h7⟩ := h
  have := wf_len h1 h6 (by omega)
  exact ⟨h1, by omega, by omega, by omega, by omega, by omega⟩
theorem IB.Good.front {i : IB} (h : i.Good) : frontR i.l ≤ (i.b.length : Int) := by
  obtain ⟨h1, h2, h3, h4, h5, h6, h7⟩ := h
  cases hl : i.l with
  | nil => simp [frontR]
  | cons r l =>
    rw [front_cons]
    have := h6 r (by rw [hl]; simp)
    split <;> omega
theorem setB_len (b : List Int) (k : Nat) (c : Int) : (setB b k c).length = max b.length (k + 1) := by
  unfold setB
  simp
  omega
theorem IB.may_lt {i : IB} {at_ : Int} (h : i.may at_ = true) : 0 ≤ at_ ∧ at_ < i.limit := by
  simp only [IB.may, Bool.and_eq_true, decide_eq_true_eq] at h
  exact ⟨h.1.1.1, h.1.1.2⟩
theorem IB.Good.put1 {i : IB} {at_ c : Int} (h : i.Good) (hm : i.may at_ = true) : (i.put1 at_ c).Good := by
  have hlt := IB.may_lt hm
  obtain ⟨h1, h2, h3, h4, h5, h6, h7⟩ := h
  unfold IB.limit at hlt
  have hbl : ((setB i.b at_.toNat c).length : Int) = max (i.b.length : Int) (at_ + 1) := by rw [setB_len]; omega
  refine ⟨addP_wf h1 hlt.1 (by omega), h2, ⟨h3.1, ?_⟩, h4, h5, ?_, ?_⟩
  · exact Int.le_trans h3.2 (front_mono h1 (addP_wf h1 hlt.1 (by omega)) fun p hp => (mem_addP h1 hlt.1 (by omega)).2 (.inl hp))
  · show ∀ r ∈ addP at_ (at_ + 1) i.l, r.2 ≤ ((setB i.b at_.toNat c).length : Int)
    rw [addP_eq hlt.1 (by omega)]
    exact addR_le (fun r hr => by have := h6 r hr; omega) (by omega)
  · show ((setB i.b at_.toNat c).length : Int) ≤ i.tk + i.w
    omega
/-- bytes come: the inbox, how many are new, the place behind them -/
def fd (q : IB × Int × Int) (c : Int) : IB × Int × Int := if q.1.may q.2.2 = true then (q.1.put1 q.2.2 c, q.2.1 + 1, q.2.2 + 1) else (q.1, q.2.1, q.2.2 + 1)
def feed (i : IB) (from_ : Int) (l : List Int) : IB × Int × Int := l.foldl fd (i, 0, from_)
theorem feed_take {i : IB} {from_ : Int} {l : List Int} {k : Nat} {x : Int} (hx : l[k]? = some x) : feed i from_ (l.take (k + 1)) = fd (feed i from_ (l.take k)) x := by
  unfold feed
  rw [List.take_add_one, hx, List.foldl_append]; rfl
theorem feed_good {i : IB} (h : i.Good) (from_ : Int) (l : List Int) : (feed i from_ l).1.Good ∧ (feed i from_ l).2.2 = from_ + l.length ∧ 0 ≤ (feed i from_ l).2.1 ∧ (feed i from_ l).2.1 ≤ l.length ∧ (feed i from_ l).1.tk = i.tk ∧ (feed i from_ l).1.w = i.w ∧ (feed i from_ l).1.e = i.e ∧ (feed i from_ l).1.kn = i.kn := by
  suffices key : ∀ (l : List Int) (q : IB × Int × Int), q.1.Good → 0 ≤ q.2.1 → (l.foldl fd q).1.Good ∧ (l.foldl fd q).2.2 = q.2.2 + l.length ∧ 0 ≤ (l.foldl fd q).2.1 ∧ (l.foldl fd q).2.1 ≤ q.2.1 + l.length ∧ (l.foldl fd q).1.tk = q.1.tk ∧ (l.foldl fd q).1.w = q.1.w ∧ (l.foldl fd q).1.e = q.1.e ∧ (l.foldl fd q).1.kn = q.1.kn by
    have := key l (i, 0, from_) h (Int.le_refl _)
    simpa [feed] using this
  intro l
  induction l with
  | nil => intro q h h0; simp [h, h0]
  | cons c l ih =>
    intro q h h0
    rw [List.foldl_cons]
    by_cases hm : q.1.may q.2.2 = true
    · have e : fd q c = (q.1.put1 q.2.2 c, q.2.1 + 1, q.2.2 + 1) := if_pos hm
      obtain ⟨a1, a2, a3, a4, a5, a6, a7, a8⟩ := ih (fd q c) (by rw [e]; exact h.put1 hm) (by rw [e]; show 0 ≤ q.2.1 + 1; omega)
      rw [e] at a1 a2 a3 a4 a5 a6 a7 a8 ⊢
      refine ⟨a1, ?_, a3, ?_, a5, a6, a7, a8⟩
      · rw [a2]; simp only [List.length_cons]; omega
      · simp only [List.length_cons] at *; omega
    · have e : fd q c = (q.1, q.2.1, q.2.2 + 1) := if_neg hm
      obtain ⟨a1, a2, a3, a4, a5, a6, a7, a8⟩ := ih (fd q c) (by rw [e]; exact h) (by rw [e]; exact h0)
      rw [e] at a1 a2 a3 a4 a5 a6 a7 a8 ⊢
      refine ⟨a1, ?_, a3, ?_, a5, a6, a7, a8⟩
      · rw [a2]; simp only [List.length_cons]; omega
      · simp only [List.length_cons] at *; omega
/-- the end comes -/
def putE (i : IB) (from_ end_ : Int) (fin : Bool) : IB := if fin = true ∧ i.kn = false ∧ from_ ≤ 4096 ∧ 0 ≤ end_ ∧ end_ ≤ 4096 ∧ lastR i.l ≤ end_ then { i with e := end_, kn := true } else i
def IB.put (i : IB) (from_ : Int) (l : List Int) (fin : Bool) : IB := putE (feed i from_ l).1 from_ (from_ + l.length) fin
def IB.new_ (i : IB) (from_ : Int) (l : List Int) : Int := (feed i from_ l).2.1
theorem IB.Good.put {i : IB} (h : i.Good) (from_ : Int) (l : List Int) (fin : Bool) : (i.put from_ l fin).Good := by
  have hg := (feed_good h from_ l).1
  unfold IB.put putE
  split
  · rename_i hc
    obtain ⟨h1, h2, h3, h4, h5, h6, h7⟩ := hg
    exact ⟨h1, h2, h3, h4, ⟨hc.2.2.2.1, hc.2.2.2.2.1⟩, h6, h7⟩
  · exact hg
end Go.Proofs.Ytekhpohcjfjhfaa.ctr
namespace Go.Proofs.Ytekhpohcjfjhfaa.ctr
open Go.Vm Go.RowKit Go.Ranges
set_option linter.unusedVariables false
set_option linter.constructorNameAsVariable false
set_option linter.unusedSimpArgs false
section
variable {bd : Bd} {h : VF} {fu : Nat}
set_option maxHeartbeats 400000 in
theorem i_put (hs : SortOk h) (n : Nat) (s : St) (p : Nat) (i : IB) (fp : List Nat) (from_ : Int) (v : AV) (l : List Int) (fin : Bool) (hF : IsI s p i fp) (hi : i.Good) (hf : -10000000000000 ≤ from_ ∧ from_ ≤ 10000000000000) (hv : RdE s v 1 encB l) (ho : vout fp v) (hl : l.length < 3000) (hfu : 4000 < fu) :
    OutOk (callF bd (tab h).get fu (n + 6) 65 [.ptr p 0, num from_, v, .bool fin] s) (fun x s' => ∃ fp', Is x (num (i.new_ from_ l)) ∧ IsI s' p (i.put from_ l fin) fp' ∧ Fr s s' fp ∧ Nw s fp fp') := by
  refine call_code (t65 h) rfl ?_
  simp (disch := omega) only [vm0, vm1, vm2, vm3, vm4, vm5, vm6, vm7, fPick, fBox, fBuild, fBsl, fLd, fLda, fSt, fNilc, fBin, fEq, fUn, fMkf, fFa, fFld, fFlda, fExt, evo, wr, wrC, frame, Bool.not_true, Bool.not_false, beq_self_eq_true, List.cons_append, List.nil_append, Nat.add_zero, Nat.zero_add, Nat.reduceAdd, Nat.reduceMul, Nat.reduceSub, Bool.and_true, Bool.true_and, Bool.and_self, beq_dec, fApp, Int.toNat_natCast, Nat.sub_zero, vmI, vc65, hv.lenV]
  refine x_loop (fun m F s' => ∃ j : Nat, ∃ z x6 x9 x11 x12 fp', m = l.length - j ∧ j ≤ l.length ∧ z = (j : Int) ∧ F = [some (.ptr p 0), some (num from_), some v, some (.bool fin), some (num z), none, x6, some (num (feed i from_ (l.take j)).2.1), some (num (l.length : Int)), x9, some v, x11, x12, none, some (num 0)] ∧ IsI s' p (feed i from_ (l.take j)).1 fp' ∧ Fr s s' fp ∧ Nw s fp fp') l.length (by omega) ?_ ?_
  · exact ⟨0, _, _, _, _, _, fp, by omega, by omega, rfl, rfl, hF, .refl, .refl⟩
  · rintro m F s1 ⟨j, _, x6, x9, x11, x12, fp1, rfl, hj, rfl, rfl, hF1, hf1, hn1⟩ hm
    obtain ⟨g1, g2, g3, g4, g5, g6, g7, g8⟩ := feed_good hi from_ (l.take j)
    rw [List.length_take, Nat.min_eq_left hj] at g2 g4
    have hv1 := hv.fr hf1 ho
    by_cases hlt : j < l.length
    · obtain ⟨c, hx⟩ : ∃ c, l[j]? = some c := ⟨_, List.getElem?_eq_getElem hlt⟩
      have hft := feed_take (i := i) (from_ := from_) hx
      obtain ⟨⟨i1, n1, a1⟩, hq⟩ : ∃ q, feed i from_ (l.take j) = q := ⟨_, rfl⟩
      rw [hq] at hF1 g1 g2 g3 g4 g5 g6 g7 g8 hft
      rw [hq]
      dsimp only at hF1 g1 g2 g3 g4 g5 g6 g7 g8
      have e1 := hv1.ia hx
      have e2 : ob (s1.heap.get (sblk v)) (rd1C (soff v + j * 1)) = some (byt c) := rd_1 (hv1.at hx)
      have e3 := hv1.blk' hx
      simp (disch := omega) only [vm0, vm1, vm2, vm3, vm4, vm5, vm6, vm7, fPick, fBox, fBuild, fBsl, fLd, fLda, fSt, fNilc, fBin, fEq, fUn, fMkf, fFa, fFld, fFlda, fExt, evo, wr, wrC, frame, Bool.not_true, Bool.not_false, beq_self_eq_true, List.cons_append, List.nil_append, Nat.add_zero, Nat.zero_add, Nat.reduceAdd, Nat.reduceMul, Nat.reduceSub, Bool.and_true, Bool.true_and, Bool.and_self, beq_dec, fApp, Int.toNat_natCast, Nat.sub_zero, vmI, e1, e2]
      refine call_ok rfl rfl (i_limit (n + 4) s1 p i1 fp1 hF1 g1.ok) ?_
      rintro x s1 ⟨rfl, rfl⟩
      by_cases c1 : i1.limit < from_
      · have hmay : i1.may a1 = false := by
          rcases Bool.eq_false_or_eq_true (i1.may a1) with hh | hh
          · have := IB.may_lt hh; omega
          · exact hh
        have hfd : fd (i1, n1, a1) c = (i1, n1, a1 + 1) := if_neg (by simp [hmay])
        rw [hfd] at hft
        simp (disch := omega) only [vm0, vm1, vm2, vm3, vm4, vm5, vm6, vm7, fPick, fBox, fBuild, fBsl, fLd, fLda, fSt, fNilc, fBin, fEq, fUn, fMkf, fFa, fFld, fFlda, fExt, evo, wr, wrC, frame, Bool.not_true, Bool.not_false, beq_self_eq_true, List.cons_append, List.nil_append, Nat.add_zero, Nat.zero_add, Nat.reduceAdd, Nat.reduceMul, Nat.reduceSub, Bool.and_true, Bool.true_and, Bool.and_self, beq_dec, fApp, Int.toNat_natCast, Nat.sub_zero, vmI]
        exact ⟨l.length - (j + 1), by omega, j + 1, (j : Int) + 1, _, _, _, _, fp1, rfl, by omega, by omega, by rw [hft], by rw [hft]; exact hF1, hf1, hn1⟩
      · have hba : -10000000000000 ≤ a1 ∧ a1 ≤ 100000000000000 := by omega
        have hsum : from_ + (j : Int) = a1 := by omega
        simp (disch := omega) only [vm0, vm1, vm2, vm3, vm4, vm5, vm6, vm7, fPick, fBox, fBuild, fBsl, fLd, fLda, fSt, fNilc, fBin, fEq, fUn, fMkf, fFa, fFld, fFlda, fExt, evo, wr, wrC, frame, Bool.not_true, Bool.not_false, beq_self_eq_true, List.cons_append, List.nil_append, Nat.add_zero, Nat.zero_add, Nat.reduceAdd, Nat.reduceMul, Nat.reduceSub, Bool.and_true, Bool.true_and, Bool.and_self, beq_dec, fApp, Int.toNat_natCast, Nat.sub_zero, vmI, hsum]
        refine call_ok rfl rfl (i_may n s1 p i1 fp1 a1 hF1 g1.ok (by omega) (by omega)) ?_
        rintro x s2 ⟨rfl, hf2⟩
        have hF2 := hF1.fr hf2 (by simp)
        have hf12 := Fr.seq hf1 hn1 (hf2.mono (fp' := fp1) (by simp))
        rcases Bool.eq_false_or_eq_true (i1.may a1) with hmay | hmay
        · have hfd : fd (i1, n1, a1) c = (i1.put1 a1 c, n1 + 1, a1 + 1) := if_pos hmay
          rw [hfd] at hft
          have hml := IB.may_lt hmay
          have hok := g1.ok
          have hlm := g1.lim
          unfold IB.limit at hml
          obtain ⟨k, hk⟩ : ∃ k : Nat, a1 = (k : Int) := ⟨a1.toNat, by omega⟩
          have hX := i_put1 hs (bd := bd) (fu := fu) (n + 2) s2 p i1 fp1 k c hF2 hok (by omega) hfu
          rw [← hk] at hX
          rw [hmay]
          simp (disch := omega) only [vm0, vm1, vm2, vm3, vm4, vm5, vm6, vm7, fPick, fBox, fBuild, fBsl, fLd, fLda, fSt, fNilc, fBin, fEq, fUn, fMkf, fFa, fFld, fFlda, fExt, evo, wr, wrC, frame, Bool.not_true, Bool.not_false, beq_self_eq_true, List.cons_append, List.nil_append, Nat.add_zero, Nat.zero_add, Nat.reduceAdd, Nat.reduceMul, Nat.reduceSub, Bool.and_true, Bool.true_and, Bool.and_self, beq_dec, fApp, Int.toNat_natCast, Nat.sub_zero, vmI, hsum]
          refine call_ok rfl rfl hX ?_
          rintro x s3 ⟨fp3, q1, q2, q3⟩
          simp (disch := omega) only [vm0, vm1, vm2, vm3, vm4, vm5, vm6, vm7, fPick, fBox, fBuild, fBsl, fLd, fLda, fSt, fNilc, fBin, fEq, fUn, fMkf, fFa, fFld, fFlda, fExt, evo, wr, wrC, frame, Bool.not_true, Bool.not_false, beq_self_eq_true, List.cons_append, List.nil_append, Nat.add_zero, Nat.zero_add, Nat.reduceAdd, Nat.reduceMul, Nat.reduceSub, Bool.and_true, Bool.true_and, Bool.and_self, beq_dec, fApp, Int.toNat_natCast, Nat.sub_zero, vmI]
          exact ⟨l.length - (j + 1), by omega, j + 1, (j : Int) + 1, _, _, _, _, fp3, rfl, by omega, by omega, by rw [hft], by rw [hft]; exact q1, Fr.seq hf12 hn1 q2, Nw.seq hf12 hn1 q3⟩
        · have hfd : fd (i1, n1, a1) c = (i1, n1, a1 + 1) := if_neg (by simp [hmay])
          rw [hfd] at hft
          rw [hmay]
          simp (disch := omega) only [vm0, vm1, vm2, vm3, vm4, vm5, vm6, vm7, fPick, fBox, fBuild, fBsl, fLd, fLda, fSt, fNilc, fBin, fEq, fUn, fMkf, fFa, fFld, fFlda, fExt, evo, wr, wrC, frame, Bool.not_true, Bool.not_false, beq_self_eq_true, List.cons_append, List.nil_append, Nat.add_zero, Nat.zero_add, Nat.reduceAdd, Nat.reduceMul, Nat.reduceSub, Bool.and_true, Bool.true_and, Bool.and_self, beq_dec, fApp, Int.toNat_natCast, Nat.sub_zero, vmI]
          exact ⟨l.length - (j + 1), by omega, j + 1, (j : Int) + 1, _, _, _, _, fp1, rfl, by omega, by omega, by rw [hft], by rw [hft]; exact hF2, hf12, hn1⟩
    · have htk : l.take j = l := List.take_of_length_le (by omega)
      rw [htk] at hF1 g1 g2 g3 g4 g5 g6 g7 g8 ⊢
      obtain ⟨⟨i1, n1, a1⟩, hq⟩ : ∃ q, feed i from_ l = q := ⟨_, rfl⟩
      have hN : i.new_ from_ l = n1 := by unfold IB.new_; rw [hq]
      have hP : i.put from_ l fin = putE i1 from_ (from_ + l.length) fin := by unfold IB.put; rw [hq]
      rw [hN, hP]
      rw [hq] at hF1 g1 g2 g3 g4 g5 g6 g7 g8 ⊢
      dsimp only at hF1 g1 g2 g3 g4 g5 g6 g7 g8 ⊢
      obtain ⟨z, hz⟩ : ∃ z, from_ + (l.length : Int) = z := ⟨_, rfl⟩
      have hno : ¬ (fin = true ∧ i1.kn = false ∧ from_ ≤ 4096 ∧ 0 ≤ z ∧ z ≤ 4096 ∧ lastR i1.l ≤ z) → putE i1 from_ z fin = i1 := fun hc => if_neg hc
      rw [hz]
      have hF0 := hF1
      obtain ⟨u, fv, q, fq, k1, k2, k3, k4, k5, k6, rfl, k7⟩ := hF1
      cases fin
      · rw [hno (by simp)]
        simp (disch := omega) only [vm0, vm1, vm2, vm3, vm4, vm5, vm6, vm7, fPick, fBox, fBuild, fBsl, fLd, fLda, fSt, fNilc, fBin, fEq, fUn, fMkf, fFa, fFld, fFlda, fExt, evo, wr, wrC, frame, Bool.not_true, Bool.not_false, beq_self_eq_true, List.cons_append, List.nil_append, Nat.add_zero, Nat.zero_add, Nat.reduceAdd, Nat.reduceMul, Nat.reduceSub, Bool.and_true, Bool.true_and, Bool.and_self, beq_dec, fApp, Int.toNat_natCast, Nat.sub_zero, vmI, hv1.lenV, hz]
        exact ⟨_, rfl, hF0, hf1, hn1⟩
      · cases hk : i1.kn
        · by_cases c1 : from_ ≤ 4096
          · by_cases c2 : 0 ≤ z
            · by_cases c3 : z ≤ 4096
              · simp (disch := omega) only [vm0, vm1, vm2, vm3, vm4, vm5, vm6, vm7, fPick, fBox, fBuild, fBsl, fLd, fLda, fSt, fNilc, fBin, fEq, fUn, fMkf, fFa, fFld, fFlda, fExt, evo, wr, wrC, frame, Bool.not_true, Bool.not_false, beq_self_eq_true, List.cons_append, List.nil_append, Nat.add_zero, Nat.zero_add, Nat.reduceAdd, Nat.reduceMul, Nat.reduceSub, Bool.and_true, Bool.true_and, Bool.and_self, beq_dec, fApp, Int.toNat_natCast, Nat.sub_zero, vmI, hv1.lenV, hz, k1, hk]
                refine call_ok rfl rfl (i_last (n + 2) s1 p i1 _ hF0 (by have := g1.ok.l; omega)) ?_
                rintro x s2 ⟨rfl, hf2⟩
                have hF2 := hF0.fr hf2 (by simp)
                have hf12 := Fr.seq hf1 hn1 (hf2.mono (fp' := p :: (fv ++ fq)) (by simp))
                have k1' := (hf2.get k7 (by simp)).trans k1
                by_cases c4 : lastR i1.l ≤ z
                · have hyes : putE i1 from_ z true = { i1 with e := z, kn := true } := if_pos ⟨rfl, hk, c1, c2, c3, c4⟩
                  rw [hyes]
                  simp (disch := omega) only [vm0, vm1, vm2, vm3, vm4, vm5, vm6, vm7, fPick, fBox, fBuild, fBsl, fLd, fLda, fSt, fNilc, fBin, fEq, fUn, fMkf, fFa, fFld, fFlda, fExt, evo, wr, wrC, frame, Bool.not_true, Bool.not_false, beq_self_eq_true, List.cons_append, List.nil_append, Nat.add_zero, Nat.zero_add, Nat.reduceAdd, Nat.reduceMul, Nat.reduceSub, Bool.and_true, Bool.true_and, Bool.and_self, beq_dec, fApp, Int.toNat_natCast, Nat.sub_zero, vmI, k1', hk]
                  refine ⟨p :: (fv ++ fq), rfl, ⟨u, fv, q, fq, get_put_eq rfl, (k2.fr0 hf2).fr (fp' := [p]) (.put' (.inl (by simp)) (.put (.inl (by simp)))) (by rintro b hb hm; simp at hm; subst hm; exact k4 hb), (k3.fr hf2 (by simp)).fr (fp' := [p]) (.put' (.inl (by simp)) (.put (.inl (by simp)))) (by rintro b hb hm; simp at hm; subst hm; exact k5 hb), k4, k5, k6, rfl, by rw [next_put, next_put]; exact Nat.lt_of_lt_of_le k7 hf2.1⟩, Fr.seq hf12 hn1 (.put' (.inl (by simp)) (.put (.inl (by simp)))), hn1⟩
                · rw [hno (by simp [c4])]
                  simp (disch := omega) only [vm0, vm1, vm2, vm3, vm4, vm5, vm6, vm7, fPick, fBox, fBuild, fBsl, fLd, fLda, fSt, fNilc, fBin, fEq, fUn, fMkf, fFa, fFld, fFlda, fExt, evo, wr, wrC, frame, Bool.not_true, Bool.not_false, beq_self_eq_true, List.cons_append, List.nil_append, Nat.add_zero, Nat.zero_add, Nat.reduceAdd, Nat.reduceMul, Nat.reduceSub, Bool.and_true, Bool.true_and, Bool.and_self, beq_dec, fApp, Int.toNat_natCast, Nat.sub_zero, vmI, k1', hk]
                  exact ⟨_, rfl, hF2, hf12, hn1⟩
              · rw [hno (by simp [c3])]
                simp (disch := omega) only [vm0, vm1, vm2, vm3, vm4, vm5, vm6, vm7, fPick, fBox, fBuild, fBsl, fLd, fLda, fSt, fNilc, fBin, fEq, fUn, fMkf, fFa, fFld, fFlda, fExt, evo, wr, wrC, frame, Bool.not_true, Bool.not_false, beq_self_eq_true, List.cons_append, List.nil_append, Nat.add_zero, Nat.zero_add, Nat.reduceAdd, Nat.reduceMul, Nat.reduceSub, Bool.and_true, Bool.true_and, Bool.and_self, beq_dec, fApp, Int.toNat_natCast, Nat.sub_zero, vmI, hv1.lenV, hz, k1, hk]
                exact ⟨_, rfl, hF0, hf1, hn1⟩
            · rw [hno (by simp [c2])]
              simp (disch := omega) only [vm0, vm1, vm2, vm3, vm4, vm5, vm6, vm7, fPick, fBox, fBuild, fBsl, fLd, fLda, fSt, fNilc, fBin, fEq, fUn, fMkf, fFa, fFld, fFlda, fExt, evo, wr, wrC, frame, Bool.not_true, Bool.not_false, beq_self_eq_true, List.cons_append, List.nil_append, Nat.add_zero, Nat.zero_add, Nat.reduceAdd, Nat.reduceMul, Nat.reduceSub, Bool.and_true, Bool.true_and, Bool.and_self, beq_dec, fApp, Int.toNat_natCast, Nat.sub_zero, vmI, hv1.lenV, hz, k1, hk]
              exact ⟨_, rfl, hF0, hf1, hn1⟩
          · rw [hno (by simp [c1])]
            simp (disch := omega) only [vm0, vm1, vm2, vm3, vm4, vm5, vm6, vm7, fPick, fBox, fBuild, fBsl, fLd, fLda, fSt, fNilc, fBin, fEq, fUn, fMkf, fFa, fFld, fFlda, fExt, evo, wr, wrC, frame, Bool.not_true, Bool.not_false, beq_self_eq_true, List.cons_append, List.nil_append, Nat.add_zero, Nat.zero_add, Nat.reduceAdd, Nat.reduceMul, Nat.reduceSub, Bool.and_true, Bool.true_and, Bool.and_self, beq_dec, fApp, Int.toNat_natCast, Nat.sub_zero, vmI, hv1.lenV, hz, k1, hk]
            exact ⟨_, rfl, hF0, hf1, hn1⟩
        · rw [hno (by simp [hk])]
          simp (disch := omega) only [vm0, vm1, vm2, vm3, vm4, vm5, vm6, vm7, fPick, fBox, fBuild, fBsl, fLd, fLda, fSt, fNilc, fBin, fEq, fUn, fMkf, fFa, fFld, fFlda, fExt, evo, wr, wrC, frame, Bool.not_true, Bool.not_false, beq_self_eq_true, List.cons_append, List.nil_append, Nat.add_zero, Nat.zero_add, Nat.reduceAdd, Nat.reduceMul, Nat.reduceSub, Bool.and_true, Bool.true_and, Bool.and_self, beq_dec, fApp, Int.toNat_natCast, Nat.sub_zero, vmI, hv1.lenV, hz, k1, hk]
          exact ⟨_, rfl, hF0, hf1, hn1⟩
end
end Go.Proofs.Ytekhpohcjfjhfaa.ctr
namespace Go.Proofs.Ytekhpohcjfjhfaa.ctr
open Go.Vm Go.RowKit Go.Ranges
set_option linter.unusedVariables false
set_option linter.constructorNameAsVariable false
set_option linter.unusedSimpArgs false
theorem Sep.hdw {s0 s : St} {P : Obj} {Ps : List Obj} (h : Sep s0 s (P :: Ps)) : ∃ f, P.P s f ∧ ∀ (P' Q : Obj) {s' : St} {g : List Nat}, P'.P s' f → Q.P s' g → Fr s s' f → Nw s [] g → Sep s0 s' (Q :: P' :: Ps) := by
  obtain ⟨fp, ⟨f, g1, h1, h2, h3, rfl⟩, h4, h5⟩ := h
  refine ⟨f, h1, fun P' Q s' g k1 k2 k3 k4 => ?_⟩
  have hd : ∀ b ∈ g1, b ∉ f := fun b hb hm => h3 b hm hb
  refine ⟨g ++ (f ++ g1), ⟨g, f ++ g1, k2, ⟨f, g1, k1, h2.fr k3 hd, h3, rfl⟩, ?_, rfl⟩, ?_, h5.nn k3 fun b hb => h4 b (by simp [hb])⟩
  · intro b hb hm
    have hge : s.next ≤ b := by rcases k4 b hb with hh | hh; (· simp at hh); (· exact hh)
    rcases List.mem_append.1 hm with hm | hm
    · have := P.lt h1 b hm; omega
    · have := h2.lt b hm; omega
  · intro b hb
    rcases List.mem_append.1 hb with hb | hb
    · rcases k4 b hb with hh | hh
      · simp at hh
      · exact .inr (Nat.le_trans h5.1 hh)
    · exact h4 b (by simp only [List.mem_append] at *; exact hb)
def IB.n_ (i : IB) (k : Int) : Int := min (max 0 k) i.ready
def IB.read (i : IB) (k : Int) : IB := { i with tk := i.tk + i.n_ k }
def IB.out (i : IB) (k : Int) : List Int := (i.b.take (i.tk + i.n_ k).toNat).drop i.tk.toNat
theorem IB.Good.n_bd {i : IB} (h : i.Good) (k : Int) : 0 ≤ i.n_ k ∧ i.tk + i.n_ k ≤ (i.b.length : Int) ∧ i.tk + i.n_ k ≤ frontR i.l := by
  have h1 := h.front
  obtain ⟨_, _, h3, _, _, _, _⟩ := h
  unfold IB.n_ IB.ready
  omega
section
variable {bd : Bd} {h : VF} {fu : Nat}
theorem sameB (n : Nat) (s : St) (v w : AV) (l m : List Int) (hv : RdE s v 1 encB l) (hw : RdE s w 1 encB m) (hlen : l.length < fu) (hf : l.length < 4611686018427387904) :
    OutOk (callF bd (tab h).get fu (n + 1) 51 [v, w] s) (fun x s' => Is x (.bool (decide (l = m))) ∧ Is s' s) := by
  refine call_code (t51 h) rfl ?_
  by_cases hl : l.length = m.length
  · simp (disch := omega) only [vm0, vm1, vm2, vm3, vm4, vm5, vm6, vm7, fPick, fBox, fBuild, fBsl, fLd, fLda, fSt, fNilc, fBin, fEq, fUn, fMkf, fFa, fFld, fFlda, fExt, evo, wr, wrC, frame, Bool.not_true, Bool.not_false, beq_self_eq_true, List.cons_append, List.nil_append, Nat.add_zero, Nat.zero_add, Nat.reduceAdd, Nat.reduceMul, Nat.reduceSub, Bool.and_true, Bool.true_and, Bool.and_self, beq_dec, fApp, Int.toNat_natCast, Nat.sub_zero, vc51, hv.lenV, hw.lenV]
    refine x_loop (fun k F s' => ∃ i : Nat, ∃ z x4 x5, k = l.length - i ∧ i ≤ l.length ∧ z = (i : Int) ∧ F = [some v, some w, some (num z), some (.bool false), x4, x5, some (.bool false)] ∧ s' = s ∧ l.take i = m.take i) l.length (by omega) ?_ ?_
    · exact ⟨0, _, _, _, by omega, by omega, rfl, rfl, rfl, by simp⟩
    · rintro k F s1 ⟨i, _, x4, x5, rfl, hi, rfl, rfl, rfl, ht⟩ hm
      by_cases hlt : i < l.length
      · obtain ⟨x, hx⟩ : ∃ x, l[i]? = some x := ⟨_, List.getElem?_eq_getElem hlt⟩
        obtain ⟨y, hy⟩ : ∃ y, m[i]? = some y := ⟨_, List.getElem?_eq_getElem (by omega)⟩
        have e1 := hv.ia hx
        have e2 := hv.at1 (f := byt) hx
        have e3 := hw.ia hy
        have e4 := hw.at1 (f := byt) hy
        have ht' : l.take (i + 1) = l.take i ++ [x] := by rw [List.take_add_one, hx]; rfl
        have ht2 : m.take (i + 1) = m.take i ++ [y] := by rw [List.take_add_one, hy]; rfl
        by_cases hxy : x = y
        · subst hxy
          simp (disch := omega) only [vm0, vm1, vm2, vm3, vm4, vm5, vm6, vm7, fPick, fBox, fBuild, fBsl, fLd, fLda, fSt, fNilc, fBin, fEq, fUn, fMkf, fFa, fFld, fFlda, fExt, evo, wr, wrC, frame, Bool.not_true, Bool.not_false, beq_self_eq_true, List.cons_append, List.nil_append, Nat.add_zero, Nat.zero_add, Nat.reduceAdd, Nat.reduceMul, Nat.reduceSub, Bool.and_true, Bool.true_and, Bool.and_self, beq_dec, fApp, Int.toNat_natCast, Nat.sub_zero, hv.lenV, e1, e2, e3, e4, decide_true, decide_true, wr64]
          exact ⟨l.length - (i + 1), by omega, i + 1, _, _, _, rfl, by omega, by omega, rfl, rfl, by rw [ht', ht2, ht]⟩
        · simp (disch := omega) only [vm0, vm1, vm2, vm3, vm4, vm5, vm6, vm7, fPick, fBox, fBuild, fBsl, fLd, fLda, fSt, fNilc, fBin, fEq, fUn, fMkf, fFa, fFld, fFlda, fExt, evo, wr, wrC, frame, Bool.not_true, Bool.not_false, beq_self_eq_true, List.cons_append, List.nil_append, Nat.add_zero, Nat.zero_add, Nat.reduceAdd, Nat.reduceMul, Nat.reduceSub, Bool.and_true, Bool.true_and, Bool.and_self, beq_dec, fApp, Int.toNat_natCast, Nat.sub_zero, hv.lenV, e1, e2, e3, e4, decide_true, decide_true, decide_eq_false hxy, Bool.not_false, wr64]
          refine ⟨?_, rfl⟩
          rw [decide_eq_false]; rfl
          rintro rfl
          rw [hx] at hy; cases hy; exact hxy rfl
      · simp (disch := omega) only [vm0, vm1, vm2, vm3, vm4, vm5, vm6, vm7, fPick, fBox, fBuild, fBsl, fLd, fLda, fSt, fNilc, fBin, fEq, fUn, fMkf, fFa, fFld, fFlda, fExt, evo, wr, wrC, frame, Bool.not_true, Bool.not_false, beq_self_eq_true, List.cons_append, List.nil_append, Nat.add_zero, Nat.zero_add, Nat.reduceAdd, Nat.reduceMul, Nat.reduceSub, Bool.and_true, Bool.true_and, Bool.and_self, beq_dec, fApp, Int.toNat_natCast, Nat.sub_zero, hv.lenV]
        refine ⟨?_, rfl⟩
        rw [decide_eq_true]; rfl
        rw [List.take_of_length_le (by omega), List.take_of_length_le (by omega)] at ht
        exact ht
  · simp (disch := omega) only [vm0, vm1, vm2, vm3, vm4, vm5, vm6, vm7, fPick, fBox, fBuild, fBsl, fLd, fLda, fSt, fNilc, fBin, fEq, fUn, fMkf, fFa, fFld, fFlda, fExt, evo, wr, wrC, frame, Bool.not_true, Bool.not_false, beq_self_eq_true, List.cons_append, List.nil_append, Nat.add_zero, Nat.zero_add, Nat.reduceAdd, Nat.reduceMul, Nat.reduceSub, Bool.and_true, Bool.true_and, Bool.and_self, beq_dec, fApp, Int.toNat_natCast, Nat.sub_zero, vc51, hv.lenV, hw.lenV]
    refine ⟨?_, rfl⟩
    rw [decide_eq_false]; rfl
    rintro rfl; exact hl rfl
theorem i_read (n : Nat) (s : St) (p : Nat) (i : IB) (fp : List Nat) (k : Int) (hF : IsI s p i fp) (hi : i.Good) : OutOk (callF bd (tab h).get fu (n + 5) 69 [.ptr p 0, num k] s) (fun x s' => ∃ fo, OwE s' x 1 encB (i.out k) fo ∧ IsI s' p (i.read k) fp ∧ Fr s s' fp ∧ Nw s [] fo) := by
  refine call_code (t69 h) rfl ?_
  have hfr := front_bd hi.wf
  have hbd := hi.n_bd k
  have hfr2 := hi.front
  obtain ⟨m, hm⟩ : ∃ m, i.n_ k = m := ⟨_, rfl⟩
  have hm0 : min (max 0 k) i.ready = m := hm
  unfold IB.out IB.read
  rw [hm] at hbd ⊢
  simp (disch := omega) only [vm0, vm1, vm2, vm3, vm4, vm5, vm6, vm7, fPick, fBox, fBuild, fBsl, fLd, fLda, fSt, fNilc, fBin, fEq, fUn, fMkf, fFa, fFld, fFlda, fExt, evo, wr, wrC, frame, Bool.not_true, Bool.not_false, beq_self_eq_true, List.cons_append, List.nil_append, Nat.add_zero, Nat.zero_add, Nat.reduceAdd, Nat.reduceMul, Nat.reduceSub, Bool.and_true, Bool.true_and, Bool.and_self, beq_dec, fApp, Int.toNat_natCast, Nat.sub_zero, vmI, vc69]
  refine call_ok rfl rfl (i_ready n s p i fp hF hi.ok hfr) ?_
  rintro x s1 ⟨rfl, hf1⟩
  have hF1 := hF.fr hf1 (by simp)
  obtain ⟨v, fv, q, fq, h1, h2, h3, h4, h5, h6, rfl, h7⟩ := hF1
  obtain ⟨i1, i2, i3, i4, i5, i6, i7⟩ := hi
  obtain ⟨w, g1, r1⟩ := h2.rd.sli' (a := i.tk) (b := i.tk + m) (by omega) (by omega) (by omega)
  have hol : ((i.b.take (i.tk + m).toNat).drop i.tk.toNat).length ≤ 2000 := by simp; omega
  simp (disch := omega) only [vm0, vm1, vm2, vm3, vm4, vm5, vm6, vm7, fPick, fBox, fBuild, fBsl, fLd, fLda, fSt, fNilc, fBin, fEq, fUn, fMkf, fFa, fFld, fFlda, fExt, evo, wr, wrC, frame, Bool.not_true, Bool.not_false, beq_self_eq_true, List.cons_append, List.nil_append, Nat.add_zero, Nat.zero_add, Nat.reduceAdd, Nat.reduceMul, Nat.reduceSub, Bool.and_true, Bool.true_and, Bool.and_self, beq_dec, fApp, Int.toNat_natCast, Nat.sub_zero, vmI, hm0, h1, g1, r1.lenOf, r1.cellsOf]
  refine op_app (.nil encB_w (by omega)) (by (repeat' (first | exact Fr.refl | assumption | apply Fr.new' | apply Fr.mk' | apply Fr.put')) <;> (first | omega | (left; simp; done) | (right; simp only [next_put, next_new, next_mk]; omega) | (simp only [next_put, next_new, next_mk]; omega))) (new := (i.b.take (i.tk + m).toNat).drop i.tk.toNat) rfl rfl (by simp only [List.length_nil]; omega) ?_
  intro v' s2 fo k1 k2 k3
  have h1' := (k2.get h7 (by simp)).trans h1
  simp (disch := omega) only [vm0, vm1, vm2, vm3, vm4, vm5, vm6, vm7, fPick, fBox, fBuild, fBsl, fLd, fLda, fSt, fNilc, fBin, fEq, fUn, fMkf, fFa, fFld, fFlda, fExt, evo, wr, wrC, frame, Bool.not_true, Bool.not_false, beq_self_eq_true, List.cons_append, List.nil_append, Nat.add_zero, Nat.zero_add, Nat.reduceAdd, Nat.reduceMul, Nat.reduceSub, Bool.and_true, Bool.true_and, Bool.and_self, beq_dec, fApp, Int.toNat_natCast, Nat.sub_zero, vmI, h1', hm0]
  have hpf : p ∉ fo := fun hm => by have := k3 p hm; simp at this; omega
  refine ⟨fo, by simpa using k1.fr (fp' := [p]) (.put (.inl (by simp))) (by rintro b hb hm; simp at hm; subst hm; exact hpf hb), ⟨v, fv, q, fq, get_put_eq rfl, (h2.fr0 k2).fr (fp' := [p]) (.put (.inl (by simp))) (by rintro b hb hm; simp at hm; subst hm; exact h4 hb), (h3.fr k2 (by simp)).fr (fp' := [p]) (.put (.inl (by simp))) (by rintro b hb hm; simp at hm; subst hm; exact h5 hb), h4, h5, h6, rfl, by rw [next_put]; exact Nat.lt_of_lt_of_le h7 k2.1⟩, .put' (.inl (by simp)) ((hf1.trans k2 (fp2 := []) (by simp) (by simp)).mono (by simp)), fun b hb => ?_⟩
  rcases k3 b hb with hh | hh
  · simp at hh
  · exact .inr (Nat.le_trans hf1.1 hh)
theorem IB.Good.read {i : IB} (h : i.Good) (k : Int) (hl : i.tk + i.n_ k + i.w ≤ 2000) : (i.read k).Good := by
  have hb := h.n_bd k
  obtain ⟨i1, i2, i3, i4, i5, i6, i7⟩ := h
  exact ⟨i1, i2, ⟨by show 0 ≤ i.tk + i.n_ k; omega, by show i.tk + i.n_ k ≤ frontR i.l; omega⟩, hl, i5, i6, by show (i.b.length : Int) ≤ i.tk + i.n_ k + i.w; omega⟩
/-- the same, of things that stand apart -/
theorem Sep.hdn {s0 s : St} {P : Obj} {Ps : List Obj} (h : Sep s0 s (P :: Ps)) : ∃ f, P.P s f ∧ Nw s0 [] f ∧ ∀ (P' : Obj) {s' : St} {f' : List Nat}, P'.P s' f' → Fr s s' f → Nw s f f' → Sep s0 s' (P' :: Ps) := by
  obtain ⟨fp, ⟨f, g, h1, h2, h3, rfl⟩, h4, h5⟩ := h
  refine ⟨f, h1, fun b hb => h4 b (by simp [hb]), fun P' s' f' k1 k2 k3 => ?_⟩
  have hd : ∀ b ∈ g, b ∉ f := fun b hb hm => h3 b hm hb
  refine ⟨f' ++ g, ⟨f', g, k1, h2.fr k2 hd, ?_, rfl⟩, ?_, h5.nn k2 fun b hb => h4 b (by simp [hb])⟩
  · intro b hb hm
    rcases k3 b hb with h | h
    · exact h3 b h hm
    · have := h2.lt b hm; omega
  · intro b hb
    rcases List.mem_append.1 hb with hb | hb
    · rcases k3 b hb with h | h
      · exact h4 b (by simp [h])
      · exact .inr (Nat.le_trans h5.1 h)
    · exact h4 b (by simp [hb])
theorem e_put (hs : SortOk h) (n : Nat) {s0 : St} (s : St) (p : Nat) (i : IB) (Ps : List Obj) (from_ : Int) (v : AV) (l : List Int) (fin : Bool) (hS : Sep s0 s (oI p i :: Ps)) (hi : i.Good) (hf : -10000000000000 ≤ from_ ∧ from_ ≤ 10000000000000) (hv : RdE s0 v 1 encB l) (hl : l.length < 3000) (hfu : 4000 < fu) :
    OutOk (callF bd (tab h).get fu (n + 6) 65 [.ptr p 0, num from_, v, .bool fin] s) (fun x s' => Is x (num (i.new_ from_ l)) ∧ Sep s0 s' (oI p (i.put from_ l fin) :: Ps)) := by
  obtain ⟨f, k1, hn, up⟩ := hS.hdn
  exact (i_put hs n s p i f from_ v l fin k1 hi hf (hv.fr0 hS.frm) (vlt_out hv.lt hn) hl hfu).mono fun x s' ⟨f', r1, r2, r3, r4⟩ => ⟨r1, up (oI _ _) r2 r3 r4⟩
theorem e_read (n : Nat) {s0 : St} (s : St) (p : Nat) (i : IB) (Ps : List Obj) (k : Int) (hS : Sep s0 s (oI p i :: Ps)) (hi : i.Good) : OutOk (callF bd (tab h).get fu (n + 5) 69 [.ptr p 0, num k] s) (fun x s' => RdE s' x 1 encB (i.out k) ∧ Sep s0 s' (oW x 1 encB (i.out k) :: oI p (i.read k) :: Ps)) := by
  obtain ⟨f, k1, up⟩ := hS.hdw
  exact (i_read n s p i f k k1 hi).mono fun x s' ⟨fo, r1, r2, r3, r4⟩ => ⟨r1.rd, up (oI _ _) (oW x 1 encB _) r2 r1 r3 r4⟩
theorem e_limit (n : Nat) {s0 : St} (s : St) (p : Nat) (i : IB) (Ps : List Obj) (hS : Sep s0 s (oI p i :: Ps)) (hi : i.Good) : OutOk (callF bd (tab h).get fu (n + 1) 70 [.ptr p 0] s) (fun x s' => Is x (num i.limit) ∧ Is s' s) := by
  obtain ⟨f, k1, up⟩ := hS.hd
  exact i_limit n s p i f k1 hi.ok
theorem e_taken (n : Nat) {s0 : St} (s : St) (p : Nat) (i : IB) (Ps : List Obj) (hS : Sep s0 s (oI p i :: Ps)) : OutOk (callF bd (tab h).get fu (n + 1) 72 [.ptr p 0] s) (fun x s' => Is x (num i.tk) ∧ Is s' s) := by
  obtain ⟨f, k1, up⟩ := hS.hd
  exact i_taken n s p i f k1
theorem e_done (n : Nat) {s0 : St} (s : St) (p : Nat) (i : IB) (Ps : List Obj) (hS : Sep s0 s (oI p i :: Ps)) : OutOk (callF bd (tab h).get fu (n + 1) 68 [.ptr p 0] s) (fun x s' => Is x (.bool i.done) ∧ Is s' s) := by
  obtain ⟨f, k1, up⟩ := hS.hd
  exact i_done n s p i f k1
theorem e_ready (n : Nat) {s0 : St} (s : St) (p : Nat) (i : IB) (Ps : List Obj) (hS : Sep s0 s (oI p i :: Ps)) (hi : i.Good) : OutOk (callF bd (tab h).get fu (n + 4) 67 [.ptr p 0] s) (fun x s' => Is x (num i.ready) ∧ Sep s0 s' (oI p i :: Ps)) := by
  obtain ⟨f, k1, up⟩ := hS.hd
  exact (i_ready n s p i f k1 hi.ok (front_bd hi.wf)).mono fun x s' ⟨r1, r2⟩ => ⟨r1, hS.fr r2⟩
theorem e_seen (n : Nat) {s0 : St} (s : St) (p : Nat) (i : IB) (Ps : List Obj) (hS : Sep s0 s (oI p i :: Ps)) (hi : i.Good) : OutOk (callF bd (tab h).get fu (n + 4) 66 [.ptr p 0] s) (fun x s' => Is x (num i.seen) ∧ Sep s0 s' (oI p i :: Ps)) := by
  obtain ⟨f, k1, up⟩ := hS.hd
  exact (i_seen n s p i f k1 hi.ok).mono fun x s' ⟨r1, r2⟩ => ⟨r1, hS.fr r2⟩
theorem new_good {w : Int} : (⟨[], [], min (max w 1) 400, 0, 0, false⟩ : IB).Good := ⟨trivial, by show 0 ≤ min (max w 1) 400 ∧ min (max w 1) 400 ≤ 400; omega, ⟨Int.le_refl _, by show (0 : Int) ≤ frontR []; simp [frontR]⟩, by show 0 + min (max w 1) 400 ≤ 2000; omega, ⟨Int.le_refl _, by show (0 : Int) ≤ 4096; omega⟩, by simp, by show ((0 : Nat) : Int) ≤ 0 + min (max w 1) 400; omega⟩
end
end Go.Proofs.Ytekhpohcjfjhfaa.ctr
namespace Go.Proofs.Ytekhpohcjfjhfaa.ctr
open Go.Vm Go.RowKit Go.Ranges
set_option linter.unusedVariables false
set_option linter.constructorNameAsVariable false
set_option linter.unusedSimpArgs false
/-! ## an inbox into which pieces of one text come -/
/-- what is there is the text's -/
def Holds (T : List Int) (i : IB) : Prop := ∀ p, mem i.l p → i.b[p.toNat]? = T[p.toNat]? ∧ p < T.length
theorem setB_at (b : List Int) (k : Nat) (c : Int) : (setB b k c)[k]? = some c := by
  unfold setB
  rw [List.getElem?_set_self]
  simp; omega
theorem setB_ne {b : List Int} {k j : Nat} (c : Int) (hj : j < b.length) (h : j ≠ k) : (setB b k c)[j]? = b[j]? := by
  unfold setB
  rw [List.getElem?_set_ne (Ne.symm h), List.getElem?_append_left hj]
theorem IB.Good.mem_lt {i : IB} (h : i.Good) {p : Int} (hp : mem i.l p) : 0 ≤ p ∧ p < (i.b.length : Int) := by
  refine ⟨mem_lb h.wf hp, ?_⟩
  obtain ⟨r, h1, h2, h3⟩ := hp
  have := h.rb r h1
  omega
theorem Holds.put1 {T : List Int} {i : IB} {a c : Int} (hg : i.Good) (h : Holds T i) (hm : i.may a = true) (hc : T[a.toNat]? = some c) : Holds T (i.put1 a c) := by
  have hlt := IB.may_lt hm
  have hlim := hg.lim
  unfold IB.limit at hlt
  intro p hp
  have ha : a.toNat < T.length := (List.getElem?_eq_some_iff.1 hc).1
  rcases (mem_addP hg.wf hlt.1 (by omega)).1 hp with hp | rfl
  · by_cases hpa : p = a
    · subst hpa
      exact ⟨by show (setB i.b p.toNat c)[p.toNat]? = _; rw [setB_at, hc], by omega⟩
    · have hb := hg.mem_lt hp
      obtain ⟨k1, k2⟩ := h p hp
      exact ⟨by show (setB i.b a.toNat c)[p.toNat]? = _; rw [setB_ne c (by omega) (by omega), k1], k2⟩
  · exact ⟨by show (setB i.b p.toNat c)[p.toNat]? = _; rw [setB_at, hc], by omega⟩
/-- a place of a piece that may be there -/
def IB.can (i : IB) (p : Int) : Bool := decide (0 ≤ p) && decide (p < i.limit) && (!i.kn || decide (p < i.e))
theorem may_can {i : IB} {p : Int} : i.may p = true ↔ i.can p = true ∧ ¬ mem i.l p := by
  rw [← mem_has]
  unfold IB.may IB.can
  cases hasR p (p + 1) i.l <;> simp
/-- what is there when a piece of the text came -/
theorem feed_mem {T : List Int} : ∀ (l : List Int) (i : IB) (f n : Int), i.Good → Holds T i → (∀ (k : Nat) (c : Int), l[k]? = some c → 0 ≤ f + k → T[(f + k).toNat]? = some c) →
    Holds T (l.foldl fd (i, n, f)).1 ∧ ∀ p, mem (l.foldl fd (i, n, f)).1.l p ↔ mem i.l p ∨ (f ≤ p ∧ p < f + l.length ∧ i.can p = true)
  | [], i, f, n, hg, hh, _ => ⟨hh, fun p => by simp; omega⟩
  | c :: l, i, f, n, hg, hh, ht => by
    rw [List.foldl_cons]
    have ht' : ∀ (k : Nat) (c' : Int), l[k]? = some c' → 0 ≤ f + 1 + k → T[(f + 1 + k).toNat]? = some c' := fun k c' hk h0 => by
      have := ht (k + 1) c' (by simpa using hk) (by omega)
      rw [show f + ((k + 1 : Nat) : Int) = f + 1 + k by omega] at this
      exact this
    by_cases hm : i.may f = true
    · have e : fd (i, n, f) c = (i.put1 f c, n + 1, f + 1) := if_pos hm
      have hlt := IB.may_lt hm
      have hc : T[f.toNat]? = some c := by have := ht 0 c rfl (by omega); simpa using this
      rw [e]
      have hlim := hg.lim
      have hlt2 := hlt
      unfold IB.limit at hlt2
      obtain ⟨k1, k2⟩ := feed_mem l (i.put1 f c) (f + 1) (n + 1) (hg.put1 hm) (hh.put1 hg hm hc) ht'
      refine ⟨k1, fun p => ?_⟩
      rw [k2]
      show mem (addP f (f + 1) i.l) p ∨ (f + 1 ≤ p ∧ p < f + 1 + l.length ∧ i.can p = true) ↔ _
      rw [mem_addP hg.wf hlt.1 (by omega)]
      simp only [List.length_cons]
      have hcf := (may_can.1 hm).1
      constructor
      · rintro ((h | rfl) | h)
        · exact .inl h
        · exact .inr ⟨by omega, by omega, hcf⟩
        · exact .inr ⟨by omega, by omega, h.2.2⟩
      · rintro (h | h)
        · exact .inl (.inl h)
        · by_cases hp : p = f
          · exact .inl (.inr hp)
          · exact .inr ⟨by omega, by omega, h.2.2⟩
    · have e : fd (i, n, f) c = (i, n, f + 1) := if_neg hm
      rw [e]
      obtain ⟨k1, k2⟩ := feed_mem l i (f + 1) n hg hh ht'
      refine ⟨k1, fun p => ?_⟩
      rw [k2]
      simp only [List.length_cons]
      constructor
      · rintro (h | h)
        · exact .inl h
        · exact .inr ⟨by omega, by omega, h.2.2⟩
      · rintro (h | h)
        · exact .inl h
        · by_cases hp : p = f
          · subst hp
            left
            by_cases hx : mem i.l p
            · exact hx
            · exact absurd (may_can.2 ⟨h.2.2, hx⟩) hm
          · exact .inr ⟨by omega, by omega, h.2.2⟩
/-- how many are new, when all of a piece are, or none -/
theorem feed_all : ∀ (l : List Int) (i : IB) (f n : Int), i.Good → (∀ p, f ≤ p → p < f + l.length → i.can p = true ∧ ¬ mem i.l p) → (l.foldl fd (i, n, f)).2.1 = n + l.length
  | [], i, f, n, _, _ => by simp
  | c :: l, i, f, n, hg, h => by
    rw [List.foldl_cons]
    simp only [List.length_cons] at h ⊢
    have hm : i.may f = true := may_can.2 (h f (Int.le_refl _) (by omega))
    have e : fd (i, n, f) c = (i.put1 f c, n + 1, f + 1) := if_pos hm
    have hlt := IB.may_lt hm
    have hlim := hg.lim
    unfold IB.limit at hlt
    rw [e, feed_all l (i.put1 f c) (f + 1) (n + 1) (hg.put1 hm) fun p h1 h2 => ?_]
    · omega
    · obtain ⟨k1, k2⟩ := h p (by omega) (by omega)
      refine ⟨k1, ?_⟩
      show ¬ mem (addP f (f + 1) i.l) p
      rw [mem_addP hg.wf hlt.1 (by omega)]
      rintro (h | h)
      · exact k2 h
      · omega
theorem feed_none : ∀ (l : List Int) (i : IB) (f n : Int), (∀ p, f ≤ p → p < f + l.length → i.may p = false) → (l.foldl fd (i, n, f)).2.1 = n ∧ (l.foldl fd (i, n, f)).1 = i
  | [], i, f, n, _ => by simp
  | c :: l, i, f, n, h => by
    rw [List.foldl_cons]
    simp only [List.length_cons] at h
    have e : fd (i, n, f) c = (i, n, f + 1) := if_neg (by rw [h f (Int.le_refl _) (by omega)]; simp)
    rw [e]
    exact feed_none l i (f + 1) n fun p h1 h2 => h p (by omega) (by omega)
theorem fd_append (l m : List Int) (q : IB × Int × Int) : (l ++ m).foldl fd q = m.foldl fd (l.foldl fd q) := List.foldl_append
/-- what is read of the text -/
theorem out_text {T : List Int} {i : IB} (hg : i.Good) (hh : Holds T i) (k : Int) : i.out k = (T.take (i.tk + i.n_ k).toNat).drop i.tk.toNat := by
  have hb := hg.n_bd k
  have h0 := hg.tk
  unfold IB.out
  congr 1
  apply List.ext_getElem?
  intro j
  by_cases hj : j < (i.tk + i.n_ k).toNat
  · rw [List.getElem?_take_of_lt hj, List.getElem?_take_of_lt hj]
    have := (hh (j : Int) (front_mem hg.wf (by omega) (by omega))).1
    simpa using this
  · rw [List.getElem?_eq_none (by simp; omega), List.getElem?_eq_none (by simp; omega)]
end Go.Proofs.Ytekhpohcjfjhfaa.ctr
namespace Go.Proofs.Ytekhpohcjfjhfaa.ctr
open Go.Vm Go.RowKit Go.Ranges
set_option linter.unusedVariables false
set_option linter.constructorNameAsVariable false
set_option linter.unusedSimpArgs false
theorem fcve' {L F : LF} {s : St} {x : Od} {b o len lo sz : Nat} {ex : Bool} {cs : List AV} (h1 : ev L F x = some (.sl b o len lo ex sz)) (h2 : s.heap.get b = some (.cells cs .own)) : fCve L F s x = some (.sl b o len lo ex sz) := by
  unfold fCve
  rw [h1]
  show ob (s.heap.get b) _ = _
  rw [h2]; rfl
theorem abc {s : St} {b : Nat} (hb : s.heap.get b = some (.cells [.int .u8 (.c 97), .int .u8 (.c 98), .int .u8 (.c 99)] .own)) (hl : b < s.next) : RdE s (.sl b 0 3 3 true 1) 1 encB [97, 98, 99] := by
  refine ⟨⟨⟨rfl, Nat.le_refl _⟩, rfl, ?_⟩, fun _ => rfl, by omega, hl⟩
  show ob (s.heap.get b) (rdC 0 (3 * 1)) = _
  rw [hb]; rfl
section
variable {bd : Bd} {h : VF} {fu : Nat}
theorem wakes16 (hs : SortOk h) (n : Nat) (s : St) (hfu : 4000 < fu) : OutOk (callF bd (tab h).get fu (n + 7) 71 [] s) (fun x s' => Is x (.bool true)) := by
  refine call_code (t71 h) rfl ?_
  simp (disch := omega) only [vm0, vm1, vm2, vm3, vm4, vm5, vm6, vm7, fPick, fBox, fBuild, fBsl, fLd, fLda, fSt, fNilc, fBin, fEq, fUn, fMkf, fFa, fFld, fFlda, fExt, evo, wr, wrC, frame, Bool.not_true, Bool.not_false, beq_self_eq_true, List.cons_append, List.nil_append, Nat.add_zero, Nat.zero_add, Nat.reduceAdd, Nat.reduceMul, Nat.reduceSub, Bool.and_true, Bool.true_and, Bool.and_self, beq_dec, fApp, Int.toNat_natCast, Nat.sub_zero, vmI, vc71]
  refine call_ok rfl rfl (i_new (n + 4) s 10) ?_
  rintro x s1 ⟨p, fp, rfl, q1, q2, q3⟩
  have hS1 := (Sep.nil (s := s)).push (P := oI p _) q1 q2 q3
  have hI0 : (⟨[], [], min (max 10 1) 400, 0, 0, false⟩ : IB) = ⟨[], [], 10, 0, 0, false⟩ := rfl
  have hg0 : (⟨[], [], 10, 0, 0, false⟩ : IB).Good := new_good (w := 10)
  rw [hI0] at hS1
  simp (disch := omega) only [vm0, vm1, vm2, vm3, vm4, vm5, vm6, vm7, fPick, fBox, fBuild, fBsl, fLd, fLda, fSt, fNilc, fBin, fEq, fUn, fMkf, fFa, fFld, fFlda, fExt, evo, wr, wrC, frame, Bool.not_true, Bool.not_false, beq_self_eq_true, List.cons_append, List.nil_append, Nat.add_zero, Nat.zero_add, Nat.reduceAdd, Nat.reduceMul, Nat.reduceSub, Bool.and_true, Bool.true_and, Bool.and_self, beq_dec, fApp, Int.toNat_natCast, Nat.sub_zero, vmI]
  refine call_ok rfl rfl (e_seen (n + 2) s1 p _ _ hS1 hg0) ?_
  rintro x s2 ⟨rfl, hS2⟩
  have hs0 : (⟨[], [], 10, 0, 0, false⟩ : IB).seen = 0 := rfl
  rw [hs0]
  simp (disch := omega) only [vm0, vm1, vm2, vm3, vm4, vm5, vm6, vm7, fPick, fBox, fBuild, fBsl, fLd, fLda, fSt, fNilc, fBin, fEq, fUn, fMkf, fFa, fFld, fFlda, fExt, evo, wr, wrC, frame, Bool.not_true, Bool.not_false, beq_self_eq_true, List.cons_append, List.nil_append, Nat.add_zero, Nat.zero_add, Nat.reduceAdd, Nat.reduceMul, Nat.reduceSub, Bool.and_true, Bool.true_and, Bool.and_self, beq_dec, fApp, Int.toNat_natCast, Nat.sub_zero, vmI]
  obtain ⟨s3, e3⟩ : ∃ s3, s2.new (.cells [.int .u8 (.c 97), .int .u8 (.c 98), .int .u8 (.c 99)] .own) = s3 := ⟨_, rfl⟩
  have g3 : s3.heap.get s2.next = some (.cells [.int .u8 (.c 97), .int .u8 (.c 98), .int .u8 (.c 99)] .own) := by rw [← e3]; exact get_new_eq rfl
  have f3 : Fr s2 s3 [] := by rw [← e3]; exact .new
  have n3 : s3.next = s2.next + 1 := by rw [← e3]; rfl
  rw [e3, fcve' (x := .t 0) rfl g3]
  have hU := abc g3 (by omega)
  obtain ⟨f, k0, up⟩ := hS2.hd
  have k1 : IsI s3 p ⟨[], [], 10, 0, 0, false⟩ f := IsI.fr k0 f3 (by simp)
  have hout : vout f (.sl s2.next 0 3 3 true 1) := fun hm => by have := IsI.lt k0 _ hm; omega
  simp (disch := omega) only [vm0, vm1, vm2, vm3, vm4, vm5, vm6, vm7, fPick, fBox, fBuild, fBsl, fLd, fLda, fSt, fNilc, fBin, fEq, fUn, fMkf, fFa, fFld, fFlda, fExt, evo, wr, wrC, frame, Bool.not_true, Bool.not_false, beq_self_eq_true, List.cons_append, List.nil_append, Nat.add_zero, Nat.zero_add, Nat.reduceAdd, Nat.reduceMul, Nat.reduceSub, Bool.and_true, Bool.true_and, Bool.and_self, beq_dec, fApp, Int.toNat_natCast, Nat.sub_zero, vmI]
  refine call_ok rfl rfl (i_put hs n s3 p _ f 0 _ _ true k1 hg0 (by omega) hU hout (by simp) hfu) ?_
  rintro x s4 ⟨f4, rfl, r1, r2, r3⟩
  have hnw : (⟨[], [], 10, 0, 0, false⟩ : IB).new_ 0 [97, 98, 99] = 3 := rfl
  have hpt : (⟨[], [], 10, 0, 0, false⟩ : IB).put 0 [97, 98, 99] true = ⟨[97, 98, 99], [(0, 3)], 10, 0, 3, true⟩ := rfl
  have hg4 := hg0.put 0 [97, 98, 99] true
  have hS4 := up (oI p _) r1 ((f3.mono (fp' := f) (by simp)).trans r2 (fun b hb _ => hb) (fun b hb _ => hb)) (r3.le (by omega))
  rw [hpt] at hS4 hg4
  rw [hnw]
  simp (disch := omega) only [vm0, vm1, vm2, vm3, vm4, vm5, vm6, vm7, fPick, fBox, fBuild, fBsl, fLd, fLda, fSt, fNilc, fBin, fEq, fUn, fMkf, fFa, fFld, fFlda, fExt, evo, wr, wrC, frame, Bool.not_true, Bool.not_false, beq_self_eq_true, List.cons_append, List.nil_append, Nat.add_zero, Nat.zero_add, Nat.reduceAdd, Nat.reduceMul, Nat.reduceSub, Bool.and_true, Bool.true_and, Bool.and_self, beq_dec, fApp, Int.toNat_natCast, Nat.sub_zero, vmI]
  refine call_ok rfl rfl (e_seen (n + 2) s4 p _ _ hS4 hg4) ?_
  rintro x s5 ⟨rfl, hS5⟩
  have hs5 : (⟨[97, 98, 99], [(0, 3)], 10, 0, 3, true⟩ : IB).seen = 4 := rfl
  rw [hs5]
  simp (disch := omega) only [vm0, vm1, vm2, vm3, vm4, vm5, vm6, vm7, fPick, fBox, fBuild, fBsl, fLd, fLda, fSt, fNilc, fBin, fEq, fUn, fMkf, fFa, fFld, fFlda, fExt, evo, wr, wrC, frame, Bool.not_true, Bool.not_false, beq_self_eq_true, List.cons_append, List.nil_append, Nat.add_zero, Nat.zero_add, Nat.reduceAdd, Nat.reduceMul, Nat.reduceSub, Bool.and_true, Bool.true_and, Bool.and_self, beq_dec, fApp, Int.toNat_natCast, Nat.sub_zero, vmI]
  refine call_ok rfl rfl (e_read (n + 1) s5 p _ _ 9 hS5 hg4) ?_
  rintro x s6 ⟨r4, hS6⟩
  have ho : (⟨[97, 98, 99], [(0, 3)], 10, 0, 3, true⟩ : IB).out 9 = [97, 98, 99] := rfl
  have hr : (⟨[97, 98, 99], [(0, 3)], 10, 0, 3, true⟩ : IB).read 9 = ⟨[97, 98, 99], [(0, 3)], 10, 3, 3, true⟩ := rfl
  rw [ho] at r4
  rw [hr] at hS6
  simp (disch := omega) only [vm0, vm1, vm2, vm3, vm4, vm5, vm6, vm7, fPick, fBox, fBuild, fBsl, fLd, fLda, fSt, fNilc, fBin, fEq, fUn, fMkf, fFa, fFld, fFlda, fExt, evo, wr, wrC, frame, Bool.not_true, Bool.not_false, beq_self_eq_true, List.cons_append, List.nil_append, Nat.add_zero, Nat.zero_add, Nat.reduceAdd, Nat.reduceMul, Nat.reduceSub, Bool.and_true, Bool.true_and, Bool.and_self, beq_dec, fApp, Int.toNat_natCast, Nat.sub_zero, vmI]
  obtain ⟨s7, e7⟩ : ∃ s7, s6.new (.cells [.int .u8 (.c 97), .int .u8 (.c 98), .int .u8 (.c 99)] .own) = s7 := ⟨_, rfl⟩
  have g7 : s7.heap.get s6.next = some (.cells [.int .u8 (.c 97), .int .u8 (.c 98), .int .u8 (.c 99)] .own) := by rw [← e7]; exact get_new_eq rfl
  have f7 : Fr s6 s7 [] := by rw [← e7]; exact .new
  have n7 : s7.next = s6.next + 1 := by rw [← e7]; rfl
  rw [e7, fcve' (x := .t 0) rfl g7]
  have hV := abc g7 (by omega)
  have hS7 := (hS6.fr f7).drop
  simp (disch := omega) only [vm0, vm1, vm2, vm3, vm4, vm5, vm6, vm7, fPick, fBox, fBuild, fBsl, fLd, fLda, fSt, fNilc, fBin, fEq, fUn, fMkf, fFa, fFld, fFlda, fExt, evo, wr, wrC, frame, Bool.not_true, Bool.not_false, beq_self_eq_true, List.cons_append, List.nil_append, Nat.add_zero, Nat.zero_add, Nat.reduceAdd, Nat.reduceMul, Nat.reduceSub, Bool.and_true, Bool.true_and, Bool.and_self, beq_dec, fApp, Int.toNat_natCast, Nat.sub_zero, vmI]
  refine call_ok rfl rfl (sameB (n + 5) s7 _ _ _ _ (r4.fr0 f7) hV (by simp; omega) (by simp)) ?_
  rintro x s7 ⟨rfl, rfl⟩
  simp (disch := omega) only [vm0, vm1, vm2, vm3, vm4, vm5, vm6, vm7, fPick, fBox, fBuild, fBsl, fLd, fLda, fSt, fNilc, fBin, fEq, fUn, fMkf, fFa, fFld, fFlda, fExt, evo, wr, wrC, frame, Bool.not_true, Bool.not_false, beq_self_eq_true, List.cons_append, List.nil_append, Nat.add_zero, Nat.zero_add, Nat.reduceAdd, Nat.reduceMul, Nat.reduceSub, Bool.and_true, Bool.true_and, Bool.and_self, beq_dec, fApp, Int.toNat_natCast, Nat.sub_zero, vmI, decide_true]
  refine call_ok rfl rfl (e_done (n + 5) s7 p _ _ hS7) ?_
  rintro x s7 ⟨rfl, rfl⟩
  have hd : (⟨[97, 98, 99], [(0, 3)], 10, 3, 3, true⟩ : IB).done = true := rfl
  rw [hd]
  simp (disch := omega) only [vm0, vm1, vm2, vm3, vm4, vm5, vm6, vm7, fPick, fBox, fBuild, fBsl, fLd, fLda, fSt, fNilc, fBin, fEq, fUn, fMkf, fFa, fFld, fFlda, fExt, evo, wr, wrC, frame, Bool.not_true, Bool.not_false, beq_self_eq_true, List.cons_append, List.nil_append, Nat.add_zero, Nat.zero_add, Nat.reduceAdd, Nat.reduceMul, Nat.reduceSub, Bool.and_true, Bool.true_and, Bool.and_self, beq_dec, fApp, Int.toNat_natCast, Nat.sub_zero, vmI]
  exact rfl
end
end Go.Proofs.Ytekhpohcjfjhfaa.ctr
namespace Go.Proofs.Ytekhpohcjfjhfaa.ctr
open Go.Vm Go.RowKit Go.Ranges
set_option linter.unusedVariables false
set_option linter.constructorNameAsVariable false
set_option linter.unusedSimpArgs false
def PieceOf (T : List Int) (f : Int) (l : List Int) : Prop := ∀ (k : Nat) (c : Int), l[k]? = some c → 0 ≤ f + k → T[(f + k).toNat]? = some c
theorem piece_nil {T : List Int} {f : Int} : PieceOf T f [] := fun k c h => by simp at h
theorem piece_sub {T : List Int} {a b : Int} (ha : 0 ≤ a) : PieceOf T a ((T.take b.toNat).drop a.toNat) := by
  intro k c h _
  rw [List.getElem?_drop] at h
  rw [show (a + k).toNat = a.toNat + k by omega]
  rw [List.getElem?_take] at h
  split at h
  · exact h
  · cases h
theorem piece_drop {T : List Int} {a : Int} (ha : 0 ≤ a) : PieceOf T a (T.drop a.toNat) := by
  intro k c h _
  rw [List.getElem?_drop] at h
  rw [show (a + k).toNat = a.toNat + k by omega]
  exact h
theorem piece_take {T : List Int} {b : Int} : PieceOf T 0 (T.take b.toNat) := by
  have := piece_sub (T := T) (a := 0) (b := b) (Int.le_refl _)
  simpa using this
theorem piece_all {T : List Int} : PieceOf T 0 T := by
  have := piece_drop (T := T) (a := 0) (Int.le_refl _)
  simpa using this
theorem last_le {l : List R} (hw : WFr 0 l) {n : Int} (h0 : 0 ≤ n) (h : ∀ p, mem l p → p < n) : lastR l ≤ n := by
  by_cases hl : l = []
  · subst hl; exact h0
  · have := h _ (last_mem hw hl); omega
/-- what is there is as P says, of the text T -/
structure Has (T : List Int) (i : IB) (w tk e : Int) (kn : Bool) (P : Int → Prop) : Prop where
  g : i.Good
  h : Holds T i
  m : ∀ p, mem i.l p ↔ P p
  w : i.w = w
  tk : i.tk = tk
  e : i.e = e
  kn : i.kn = kn
def canP (w tk e : Int) (kn : Bool) (p : Int) : Prop := 0 ≤ p ∧ p < tk + w ∧ (kn = true → p < e)
theorem Has.can {T : List Int} {i : IB} {w tk e : Int} {kn : Bool} {P : Int → Prop} (hi : Has T i w tk e kn P) (p : Int) : i.can p = true ↔ canP w tk e kn p := by
  unfold IB.can IB.limit canP
  rw [hi.w, hi.tk, hi.e, hi.kn]
  cases kn <;> simp [and_assoc]
theorem Has.put {T : List Int} {i : IB} {w tk e : Int} {kn : Bool} {P : Int → Prop} (hi : Has T i w tk e kn P) {f : Int} {l : List Int} (hp : PieceOf T f l) :
    Has T (i.put f l false) w tk e kn (fun p => P p ∨ (f ≤ p ∧ p < f + l.length ∧ canP w tk e kn p)) := by
  obtain ⟨k1, k2⟩ := feed_mem l i f 0 hi.g hi.h hp
  obtain ⟨g1, g2, g3, g4, g5, g6, g7, g8⟩ := feed_good hi.g f l
  have e : i.put f l false = (feed i f l).1 := by unfold IB.put putE; exact if_neg (by simp)
  rw [e]
  exact ⟨g1, k1, fun p => by rw [← hi.m p, ← hi.can p]; exact k2 p, g6.trans hi.w, g5.trans hi.tk, g7.trans hi.e, g8.trans hi.kn⟩
/-- a piece, and the end behind it -/
theorem Has.putF {T : List Int} {i : IB} {w tk e : Int} {P : Int → Prop} (hi : Has T i w tk e false P) {f : Int} {l : List Int} (hp : PieceOf T f l) (h0 : 0 ≤ f) (h1 : f + l.length ≤ 4096) (hP : ∀ p, P p → p < f + l.length) :
    Has T (i.put f l true) w tk (f + l.length) true (fun p => P p ∨ (f ≤ p ∧ p < f + l.length ∧ canP w tk e false p)) := by
  obtain ⟨k1, k2⟩ := feed_mem l i f 0 hi.g hi.h hp
  obtain ⟨g1, g2, g3, g4, g5, g6, g7, g8⟩ := feed_good hi.g f l
  have hm : ∀ p, mem (feed i f l).1.l p ↔ P p ∨ (f ≤ p ∧ p < f + l.length ∧ canP w tk e false p) := fun p => by rw [← hi.m p, ← hi.can p]; exact k2 p
  have hl : lastR (feed i f l).1.l ≤ f + l.length := last_le g1.wf (by omega) fun p hp => by
    rcases (hm p).1 hp with h | h
    · exact hP p h
    · exact h.2.1
  have hg := hi.g.put f l true
  have e : i.put f l true = { (feed i f l).1 with e := f + l.length, kn := true } := if_pos ⟨rfl, g8.trans hi.kn, by omega, by omega, h1, hl⟩
  rw [e] at hg ⊢
  exact ⟨hg, k1, hm, g6.trans hi.w, g5.trans hi.tk, rfl, rfl⟩
/-- an end that came is not told again -/
theorem Has.putF2 {T : List Int} {i : IB} {w tk e : Int} {P : Int → Prop} (hi : Has T i w tk e true P) {f : Int} {l : List Int} {fin : Bool} (hp : PieceOf T f l) :
    Has T (i.put f l fin) w tk e true (fun p => P p ∨ (f ≤ p ∧ p < f + l.length ∧ canP w tk e true p)) := by
  obtain ⟨k1, k2⟩ := feed_mem l i f 0 hi.g hi.h hp
  obtain ⟨g1, g2, g3, g4, g5, g6, g7, g8⟩ := feed_good hi.g f l
  have e : i.put f l fin = (feed i f l).1 := by unfold IB.put putE; exact if_neg (by rw [g8, hi.kn]; simp)
  rw [e]
  exact ⟨g1, k1, fun p => by rw [← hi.m p, ← hi.can p]; exact k2 p, g6.trans hi.w, g5.trans hi.tk, g7.trans hi.e, g8.trans hi.kn⟩
theorem Has.new_all {T : List Int} {i : IB} {w tk e : Int} {kn : Bool} {P : Int → Prop} (hi : Has T i w tk e kn P) {f : Int} {l : List Int} (h : ∀ p, f ≤ p → p < f + l.length → canP w tk e kn p ∧ ¬ P p) : i.new_ f l = l.length := by
  have := feed_all l i f 0 hi.g fun p h1 h2 => ⟨(hi.can p).2 (h p h1 h2).1, fun hm => (h p h1 h2).2 ((hi.m p).1 hm)⟩
  unfold IB.new_ feed
  rw [this]; omega
theorem Has.new_none {T : List Int} {i : IB} {w tk e : Int} {kn : Bool} {P : Int → Prop} (hi : Has T i w tk e kn P) {f : Int} {l : List Int} (h : ∀ p, f ≤ p → p < f + l.length → canP w tk e kn p → P p) : i.new_ f l = 0 := by
  refine (feed_none l i f 0 fun p h1 h2 => ?_).1
  rcases Bool.eq_false_or_eq_true (i.may p) with hm | hm
  · obtain ⟨k1, k2⟩ := may_can.1 hm
    exact absurd ((hi.m p).2 (h p h1 h2 ((hi.can p).1 k1))) k2
  · exact hm
theorem Has.front {T : List Int} {i : IB} {w tk e : Int} {kn : Bool} {P : Int → Prop} (hi : Has T i w tk e kn P) {n : Int} (h0 : 0 ≤ n) (h1 : ∀ p, 0 ≤ p → p < n → P p) (h2 : ¬ P n) : frontR i.l = n :=
  front_eq hi.g.wf h0 (fun p a b => (hi.m p).2 (h1 p a b)) (fun hm => h2 ((hi.m n).1 hm))
theorem Has.congr {T : List Int} {i : IB} {w tk e : Int} {kn : Bool} {P Q : Int → Prop} (hi : Has T i w tk e kn P) (h : ∀ p, P p ↔ Q p) : Has T i w tk e kn Q := ⟨hi.g, hi.h, fun p => (hi.m p).trans (h p), hi.w, hi.tk, hi.e, hi.kn⟩
theorem Has.new (T : List Int) (w : Int) : Has T ⟨[], [], min (max w 1) 400, 0, 0, false⟩ (min (max w 1) 400) 0 0 false (fun _ => False) := ⟨new_good, fun p h => absurd h mem_nil, fun p => ⟨fun h => absurd h mem_nil, fun h => h.elim⟩, rfl, rfl, rfl, rfl⟩
theorem Has.read {T : List Int} {i : IB} {w tk e : Int} {kn : Bool} {P : Int → Prop} (hi : Has T i w tk e kn P) {k m : Int} (hm : i.n_ k = m) (hl : tk + m + w ≤ 2000) : Has T (i.read k) w (tk + m) e kn P :=
  ⟨hi.g.read k (by rw [hi.tk, hi.w, hm]; exact hl), hi.h, hi.m, hi.w, by show i.tk + i.n_ k = _; rw [hm, hi.tk], hi.e, hi.kn⟩
theorem Has.out {T : List Int} {i : IB} {w tk e : Int} {kn : Bool} {P : Int → Prop} (hi : Has T i w tk e kn P) {k m : Int} (hm : i.n_ k = m) : i.out k = (T.take (tk + m).toNat).drop tk.toNat := by
  rw [out_text hi.g hi.h, hm, hi.tk]
theorem Has.seen {T : List Int} {i : IB} {w tk e : Int} {kn : Bool} {P : Int → Prop} (hi : Has T i w tk e kn P) {n : Int} (hf : frontR i.l = n) : i.seen = if kn = true ∧ n = e then e + 1 else n := by
  unfold IB.seen; rw [hf, hi.kn, hi.e]
theorem Has.ready {T : List Int} {i : IB} {w tk e : Int} {kn : Bool} {P : Int → Prop} (hi : Has T i w tk e kn P) {n : Int} (hf : frontR i.l = n) : i.ready = n - tk := by
  unfold IB.ready; rw [hf, hi.tk]
theorem Has.done {T : List Int} {i : IB} {w tk e : Int} {kn : Bool} {P : Int → Prop} (hi : Has T i w tk e kn P) : i.done = (kn && decide (tk = e)) := by
  unfold IB.done; rw [hi.tk, hi.kn, hi.e]
theorem Has.limit {T : List Int} {i : IB} {w tk e : Int} {kn : Bool} {P : Int → Prop} (hi : Has T i w tk e kn P) : i.limit = tk + w := by
  unfold IB.limit; rw [hi.tk, hi.w]
theorem Has.n_ {T : List Int} {i : IB} {w tk e : Int} {kn : Bool} {P : Int → Prop} (hi : Has T i w tk e kn P) {n k : Int} (hf : frontR i.l = n) : i.n_ k = min (max 0 k) (n - tk) := by
  unfold IB.n_; rw [hi.ready hf]
end Go.Proofs.Ytekhpohcjfjhfaa.ctr
