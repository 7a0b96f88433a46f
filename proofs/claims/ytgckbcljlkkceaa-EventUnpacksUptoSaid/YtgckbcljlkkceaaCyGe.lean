/- Copies of bytes, slices of records, numbers as bytes, the readers. -/
import Derived.Test.YtgckbcljlkkceaaCyTab
import Derived.Deep.Slices
namespace Go.Proofs.Ytgckbcljlkkceaa.ctr
open Go.Vm Go.RowKit
set_option linter.unusedVariables false
set_option linter.unusedSimpArgs false
theorem encB_w : ∀ x : Int, (encB x).length = 1 := fun _ => rfl
def encU (u : AV) : List AV := [u]
theorem sv_nils {sz : Nat} {lo hi mx : Option AV} : sliceV sz .nils lo hi mx = cnd (zr lo && zr hi && zr mx) (some .nils) none := rfl
theorem rep_flat (n : Nat) : rep n [byt 0] = (List.replicate n (0 : Int)).flatMap encB := by
  induction n with
  | zero => rfl
  | succ n ih => show byt 0 :: rep n [byt 0] = _; rw [ih]; rfl
/-- the kinds' first part, of a slice just grown -/
theorem cut0_ow {s : St} {v : AV} {l : List Int} {fp : List Nat} (h : OwE s v 1 encB l fp) (hl : l ≠ []) : ∃ v', sliceV 1 v none (some (num 0)) none = some v' ∧ OwE s v' 1 encB [] fp := by
  rcases h.ow with ⟨_, h0, _⟩ | ⟨b, len, lo, ex, k, J, rfl, h2, h3, h4, h5⟩
  · have := flat_len h.wid l
    rw [h0] at this
    exact absurd (List.eq_nil_of_length_eq_zero (by simp at this; omega)) hl
  · have hlen : len = l.length := h.len
    have hpos : 0 < l.length := by cases l with | nil => exact absurd rfl hl | cons => simp
    refine ⟨.sl b 0 0 lo ex 1, ?_, ⟨.inr ⟨b, 0, lo, ex, k, l.flatMap encB ++ J, rfl, Nat.zero_le _, by simp, by simpa using h4, h5⟩, h.wid, h.pos, h.lt⟩⟩
    rw [sv_s, bnd_n, bnd_s (by omega), ob_some, ob_some, sli_k (by simp) (by simp) (by omega)]
    simp
section
variable {bd : Bd} {fu : Nat}
theorem copyB (n : Nat) (s : St) (v : AV) (l : List Int) (hv : RdE s v 1 encB l) (hf : l.length < 140737488355232) :
    OutOk (callF bd tab.get fu (n + 1) 110 [v] s) (fun x s' => ∃ fp, OwE s' x 1 encB l fp ∧ Fr s s' [] ∧ Nw s [] fp) := by
  refine call_code t110 rfl ?_
  simp (disch := omega) only [vm0, vm1, vm2, vm3, vm4, vm5, vm6, vm7, vmF, vmT, evo, wr, wrC, frame, Nat.reduceAdd, Nat.reduceMul, Nat.reduceSub, beq_self_eq_true, List.cons_append, List.nil_append, beq_dec, vmI, vc110, hv.lenOf, hv.cellsOf]
  refine op_app (.nil encB_w (by omega)) (by (repeat' (first | exact Fr.refl | assumption | apply Fr.new' | apply Fr.mk' | apply Fr.put')) <;> (first | omega | (left; simp; done) | (right; simp only [next_put, next_new, next_mk]; omega) | (simp only [next_put, next_new, next_mk]; omega))) (new := l) rfl rfl (by simp; omega) ?_
  intro v' s' fp' q1 q2 q3
  simp (disch := omega) only [vm0, vm1, vm2, vm3, vm4, vm5, vm6, vm7, vmF, vmT, evo, wr, wrC, frame, Nat.reduceAdd, Nat.reduceMul, Nat.reduceSub, beq_self_eq_true, List.cons_append, List.nil_append, beq_dec, vmI]
  exact ⟨fp', by simpa using q1, q2, q3⟩
theorem cutB (n : Nat) (s : St) (v : AV) (l : List Int) (m : Int) (hm : 0 ≤ m) (hm2 : m < 140737488351232) (hv : RdE s v 1 encB l) :
    OutOk (callF bd tab.get fu (n + 2) 56 [v, num m] s) (fun x s' => ∃ fp, OwE s' x 1 encB (l.take m.toNat) fp ∧ Fr s s' [] ∧ Nw s [] fp) := by
  refine call_code t56 rfl ?_
  obtain ⟨u, g1, r1⟩ := hv.sliH (b := min (l.length : Int) m) (by omega) (by omega)
  have he : l.take (min (l.length : Int) m).toNat = l.take m.toNat := by
    rcases (show min (l.length : Int) m = m ∨ (min (l.length : Int) m = l.length ∧ (l.length : Int) ≤ m) by omega) with e | ⟨e, h2⟩
    · rw [e]
    · rw [e, Int.toNat_natCast, List.take_of_length_le (Nat.le_refl _), List.take_of_length_le (by omega)]
  rw [he] at r1
  simp (disch := omega) only [vm0, vm1, vm2, vm3, vm4, vm5, vm6, vm7, vmF, vmT, evo, wr, wrC, frame, Nat.reduceAdd, Nat.reduceMul, Nat.reduceSub, beq_self_eq_true, List.cons_append, List.nil_append, beq_dec, vmI, vc56, hv.lenV, g1]
  refine call_ok rfl rfl (copyB n s u _ r1 (by have := List.length_take_le m.toNat l; omega)) ?_
  rintro x s' ⟨fp, q1, q2, q3⟩
  simp (disch := omega) only [vm0, vm1, vm2, vm3, vm4, vm5, vm6, vm7, vmF, vmT, evo, wr, wrC, frame, Nat.reduceAdd, Nat.reduceMul, Nat.reduceSub, beq_self_eq_true, List.cons_append, List.nil_append, beq_dec, vmI]
  exact ⟨fp, q1, q2, q3⟩
theorem growB (n : Nat) (s : St) (m : Nat) (hm : m < 140737488355232) :
    OutOk (callF bd tab.get fu (n + 1) 136 [.nils, num (m : Int)] s) (fun x s' => ∃ fp, OwE s' x 1 encB [] fp ∧ Fr s s' [] ∧ Nw s [] fp) := by
  refine call_code t136 rfl ?_
  by_cases h0 : m = 0
  · subst h0
    simp (disch := omega) only [vm0, vm1, vm2, vm3, vm4, vm5, vm6, vm7, vmF, vmT, evo, wr, wrC, frame, Nat.reduceAdd, Nat.reduceMul, Nat.reduceSub, beq_self_eq_true, List.cons_append, List.nil_append, beq_dec, vmI, vc136, fCap]
    exact ⟨[], .nil encB_w (by omega), .refl, by simp [Nw]⟩
  · have z0 : (0 : Int) ≤ 0 := Int.le_refl 0
    simp (disch := omega) only [vm0, vm1, vm2, vm3, vm4, vm5, vm6, vm7, vmF, vmT, evo, wr, wrC, frame, Nat.reduceAdd, Nat.reduceMul, Nat.reduceSub, beq_self_eq_true, List.cons_append, List.nil_append, beq_dec, vmI, vc136, fCap, sv_nils, zr_s, fApz, rep_flat]
    refine op_app (.nil encB_w (by omega)) (by (repeat' (first | exact Fr.refl | assumption | apply Fr.new' | apply Fr.mk' | apply Fr.put')) <;> (first | omega | (left; simp; done) | (right; simp only [next_put, next_new, next_mk]; omega) | (simp only [next_put, next_new, next_mk]; omega))) (new := List.replicate m (0 : Int)) rfl (by simp) (by simp; omega) ?_
    intro v' s' fp' q1 q2 q3
    obtain ⟨u, g1, r1⟩ := cut0_ow q1 (by simp; omega)
    simp (disch := omega) only [vm0, vm1, vm2, vm3, vm4, vm5, vm6, vm7, vmF, vmT, evo, wr, wrC, frame, Nat.reduceAdd, Nat.reduceMul, Nat.reduceSub, beq_self_eq_true, List.cons_append, List.nil_append, beq_dec, vmI, g1]
    exact ⟨fp', r1, q2, q3⟩
theorem concatB (n : Nat) (s : St) (b : Nat) (ex : Bool) (u1 u2 : AV) (l1 l2 : List Int) (hv : RdE s (.sl b 0 2 2 ex 1) 1 encU [u1, u2]) (h1 : RdE s u1 1 encB l1) (h2 : RdE s u2 1 encB l2) (hl : l1.length + l2.length < 140737488355232) (hfu : 10 < fu) :
    OutOk (callF bd tab.get fu (n + 2) 126 [.sl b 0 2 2 ex 1] s) (fun x s' => ∃ fp, OwE s' x 1 encB (l1 ++ l2) fp ∧ Fr s s' [] ∧ Nw s [] fp) := by
  refine call_code t126 rfl ?_
  obtain ⟨V, hV⟩ : ∃ V, AV.sl b 0 2 2 ex 1 = V := ⟨_, rfl⟩
  rw [hV] at hv ⊢
  have hlen : lenV V = some (num 2) := by rw [hv.lenV]; rfl
  have key : ∀ i : Nat, i < 2 → ∃ u l, [u1, u2][i]? = some u ∧ RdE s u 1 encB l ∧ [l1, l2][i]? = some l := by
    intro i hi
    match i, hi with
    | 0, _ => exact ⟨u1, l1, rfl, h1, rfl⟩
    | 1, _ => exact ⟨u2, l2, rfl, h2, rfl⟩
  simp (disch := omega) only [vm0, vm1, vm2, vm3, vm4, vm5, vm6, vm7, vmF, vmT, evo, wr, wrC, frame, Nat.reduceAdd, Nat.reduceMul, Nat.reduceSub, beq_self_eq_true, List.cons_append, List.nil_append, beq_dec, vmI, vc126, hlen]
  refine x_loop (fun k F s' => ∃ i : Nat, ∃ z x6 x8 x9, k = 2 - i ∧ i ≤ 2 ∧ z = (i : Int) ∧ F = [some V, some (num z), some (num ((([l1, l2].take i).flatten.length : Nat) : Int)), none, none, some (num 2), x6, some V, x8, x9, none, none, none, none, some .nils] ∧ s' = s) 2 (by omega) ?_ ?_
  · exact ⟨0, _, _, _, _, by omega, by omega, rfl, rfl, rfl⟩
  · rintro k F s0 ⟨i, _, x6, x8, x9, rfl, hi, rfl, rfl, rfl⟩ hk
    by_cases hlt : i < 2
    · obtain ⟨u, l, hu, hul, hl'⟩ := key i hlt
      have e1 := hv.ia hu
      have e2 := hv.at1 (f := fun u => u) hu
      have ht : ([l1, l2].take (i + 1)).flatten.length = ([l1, l2].take i).flatten.length + l.length := by rw [List.take_add_one, hl']; simp
      have htb : ([l1, l2].take (i + 1)).flatten.length ≤ l1.length + l2.length := by
        match i, hlt with
        | 0, _ => simp
        | 1, _ => simp
      simp (disch := omega) only [vm0, vm1, vm2, vm3, vm4, vm5, vm6, vm7, vmF, vmT, evo, wr, wrC, frame, Nat.reduceAdd, Nat.reduceMul, Nat.reduceSub, beq_self_eq_true, List.cons_append, List.nil_append, beq_dec, vmI, e1, e2, hul.lenV]
      exact ⟨2 - (i + 1), by omega, i + 1, (i : Int) + 1, _, _, _, rfl, by omega, by omega, by rw [ht, Int.natCast_add], rfl⟩
    · obtain rfl : i = 2 := by omega
      simp (disch := omega) only [vm0, vm1, vm2, vm3, vm4, vm5, vm6, vm7, vmF, vmT, evo, wr, wrC, frame, Nat.reduceAdd, Nat.reduceMul, Nat.reduceSub, beq_self_eq_true, List.cons_append, List.nil_append, beq_dec, vmI]
      refine call_ok rfl rfl (growB n s0 _ (by simp; omega)) ?_
      rintro x s1 ⟨fx, q1, q2, q3⟩
      simp (disch := omega) only [vm0, vm1, vm2, vm3, vm4, vm5, vm6, vm7, vmF, vmT, evo, wr, wrC, frame, Nat.reduceAdd, Nat.reduceMul, Nat.reduceSub, beq_self_eq_true, List.cons_append, List.nil_append, beq_dec, vmI, hlen]
      refine x_loop (fun k F s' => ∃ i : Nat, ∃ z x11 x13 vo fo, k = 2 - i ∧ i ≤ 2 ∧ z = (i : Int) ∧ F = [some V, some (num ((2 : Nat) : Int)), some (num ((([l1, l2].take 2).flatten.length : Nat) : Int)), some (num z), some vo, some (num 2), some (.bool false), some V, x8, x9, some (num 2), x11, some V, x13, some .nils] ∧ Fr s0 s' [] ∧ OwE s' vo 1 encB ([l1, l2].take i).flatten fo ∧ Nw s0 [] fo) 2 (by omega) ?_ ?_
      · exact ⟨0, _, _, _, _, fx, by omega, by omega, rfl, rfl, q2, by simpa using q1, q3⟩
      · rintro k F s2 ⟨i, _, x11, x13, vo, fo, rfl, hi, rfl, rfl, hf2, ho, hn⟩ hk
        by_cases hlt : i < 2
        · obtain ⟨u, l, hu, hul, hl'⟩ := key i hlt
          have hv2 := hv.fr0 hf2
          have hul2 := hul.fr0 hf2
          have e1 := hv2.ia hu
          have e2 := hv2.at1 (f := fun u => u) hu
          have ht : ([l1, l2].take (i + 1)).flatten = ([l1, l2].take i).flatten ++ l := by rw [List.take_add_one, hl']; simp
          have htb : ([l1, l2].take i).flatten.length + l.length ≤ l1.length + l2.length := by
            match i, hlt with
            | 0, _ => simp at hl'; subst hl'; simp
            | 1, _ => simp at hl'; subst hl'; simp
          simp (disch := omega) only [vm0, vm1, vm2, vm3, vm4, vm5, vm6, vm7, vmF, vmT, evo, wr, wrC, frame, Nat.reduceAdd, Nat.reduceMul, Nat.reduceSub, beq_self_eq_true, List.cons_append, List.nil_append, beq_dec, vmI, e1, e2, hul2.lenOf, hul2.cellsOf]
          refine op_app ho (by (repeat' (first | exact Fr.refl | assumption | apply Fr.new' | apply Fr.mk' | apply Fr.put')) <;> (first | omega | (left; simp; done) | (right; simp only [next_put, next_new, next_mk]; omega) | (simp only [next_put, next_new, next_mk]; omega))) (new := l) rfl rfl (by omega) ?_
          intro v' s3 fo' p1 p2 p3
          simp (disch := omega) only [vm0, vm1, vm2, vm3, vm4, vm5, vm6, vm7, vmF, vmT, evo, wr, wrC, frame, Nat.reduceAdd, Nat.reduceMul, Nat.reduceSub, beq_self_eq_true, List.cons_append, List.nil_append, beq_dec, vmI]
          exact ⟨2 - (i + 1), by omega, i + 1, (i : Int) + 1, _, _, _, fo', rfl, by omega, by omega, rfl, hf2.nn p2 hn, by rw [ht]; exact p1, hn.nn p3 hf2.1⟩
        · obtain rfl : i = 2 := by omega
          simp (disch := omega) only [vm0, vm1, vm2, vm3, vm4, vm5, vm6, vm7, vmF, vmT, evo, wr, wrC, frame, Nat.reduceAdd, Nat.reduceMul, Nat.reduceSub, beq_self_eq_true, List.cons_append, List.nil_append, beq_dec, vmI]
          exact ⟨fo, by simpa using ho, hf2, hn⟩
end
end Go.Proofs.Ytgckbcljlkkceaa.ctr
namespace Go.Proofs.Ytgckbcljlkkceaa.ctr
open Go.Vm Go.RowKit
set_option linter.unusedVariables false
set_option linter.unusedSimpArgs false
/-- what stands in memory, at a footprint -/
structure Obj where
  P : St → List Nat → Prop
  fr : ∀ {s s' : St} {fp fp' : List Nat}, P s fp → Fr s s' fp' → (∀ b ∈ fp, b ∉ fp') → P s' fp
  lt : ∀ {s : St} {fp : List Nat}, P s fp → Lt s fp
/-- things that stand in memory, apart -/
def SepF (s : St) : List Obj → List Nat → Prop
  | [], fp => fp = []
  | P :: Ps, fp => ∃ f g, P.P s f ∧ SepF s Ps g ∧ (∀ b ∈ f, b ∉ g) ∧ fp = f ++ g
theorem SepF.fr {s s' : St} {fp' : List Nat} : ∀ {Ps : List Obj} {fp : List Nat}, SepF s Ps fp → Fr s s' fp' → (∀ b ∈ fp, b ∉ fp') → SepF s' Ps fp
  | [], _, h, _, _ => h
  | P :: Ps, _, ⟨f, g, h1, h2, h3, h4⟩, hf, hd => ⟨f, g, P.fr h1 hf fun b hb => hd b (by rw [h4]; simp [hb]), SepF.fr h2 hf fun b hb => hd b (by rw [h4]; simp [hb]), h3, h4⟩
theorem SepF.lt {s : St} : ∀ {Ps : List Obj} {fp : List Nat}, SepF s Ps fp → Lt s fp
  | [], _, h => by intro b hb; rw [show _ = [] from h] at hb; simp at hb
  | P :: Ps, _, ⟨f, g, h1, h2, h3, h4⟩ => by
    intro b hb
    rw [h4] at hb
    rcases List.mem_append.1 hb with hb | hb
    · exact P.lt h1 b hb
    · exact SepF.lt h2 b hb
def Sep (s0 s : St) (Ps : List Obj) : Prop := ∃ fp, SepF s Ps fp ∧ Nw s0 [] fp ∧ Fr s0 s []
theorem Sep.nil {s : St} : Sep s s [] := ⟨[], rfl, by simp [Nw], .refl⟩
theorem Sep.frm {s0 s : St} {Ps : List Obj} (h : Sep s0 s Ps) : Fr s0 s [] := by obtain ⟨_, _, _, h⟩ := h; exact h
theorem Sep.fr {s0 s s' : St} {Ps : List Obj} (h : Sep s0 s Ps) (hf : Fr s s' []) : Sep s0 s' Ps := by
  obtain ⟨fp, h1, h2, h3⟩ := h
  exact ⟨fp, h1.fr hf (by simp), h2, h3.trans hf (fp2 := []) (by simp) (by simp)⟩
theorem Sep.push {s0 s s' : St} {P : Obj} {Ps : List Obj} {f : List Nat} (h : Sep s0 s Ps) (hp : P.P s' f) (hf : Fr s s' []) (hn : Nw s [] f) : Sep s0 s' (P :: Ps) := by
  obtain ⟨fp, h1, h2, h3⟩ := h
  refine ⟨f ++ fp, ⟨f, fp, hp, h1.fr hf (by simp), ?_, rfl⟩, ?_, h3.trans hf (fp2 := []) (by simp) (by simp)⟩
  · intro b hb hm
    have := h1.lt b hm
    have := hn b hb
    simp at this
    omega
  · intro b hb
    rcases List.mem_append.1 hb with hb | hb
    · rcases hn b hb with h | h
      · simp at h
      · exact .inr (Nat.le_trans h3.1 h)
    · exact h2 b hb
theorem Sep.drop {s0 s : St} {P : Obj} {Ps : List Obj} (h : Sep s0 s (P :: Ps)) : Sep s0 s Ps := by
  obtain ⟨fp, ⟨f, g, h1, h2, h3, rfl⟩, h4, h5⟩ := h
  exact ⟨g, h2, fun b hb => h4 b (by simp [hb]), h5⟩
theorem Sep.swap {s0 s : St} {P Q : Obj} {Ps : List Obj} (h : Sep s0 s (P :: Q :: Ps)) : Sep s0 s (Q :: P :: Ps) := by
  obtain ⟨fp, ⟨f, g, h1, ⟨f2, g2, h2, h3, h4, rfl⟩, h5, rfl⟩, h6, h7⟩ := h
  refine ⟨f2 ++ (f ++ g2), ⟨f2, f ++ g2, h2, ⟨f, g2, h1, h3, fun b hb hm => h5 b hb (by simp [hm]), rfl⟩, ?_, rfl⟩, fun b hb => h6 b (by simp only [List.mem_append] at *; rcases hb with h | h | h <;> simp [h]), h7⟩
  intro b hb hm
  rcases List.mem_append.1 hm with hm | hm
  · exact h5 b hm (by simp [hb])
  · exact h4 b hb hm
/-- the first of them, and how it is changed -/
theorem Sep.hd {s0 s : St} {P : Obj} {Ps : List Obj} (h : Sep s0 s (P :: Ps)) : ∃ f, P.P s f ∧ ∀ (P' : Obj) {s' : St} {f' : List Nat}, P'.P s' f' → Fr s s' f → Nw s f f' → Sep s0 s' (P' :: Ps) := by
  obtain ⟨fp, ⟨f, g, h1, h2, h3, rfl⟩, h4, h5⟩ := h
  refine ⟨f, h1, fun P' s' f' k1 k2 k3 => ?_⟩
  have hd : ∀ b ∈ g, b ∉ f := fun b hb hm => h3 b hm hb
  refine ⟨f' ++ g, ⟨f', g, k1, h2.fr k2 hd, ?_, rfl⟩, ?_, h5.nn k2 fun b hb => h4 b (by simp [hb])⟩
  · intro b hb hm
    rcases k3 b hb with h | h
    · exact h3 b h hm
    · have := h2.lt b hm; omega
  · intro b hb
    rcases List.mem_append.1 hb with hb | hb
    · rcases k3 b hb with h | h
      · exact h4 b (by simp [h])
      · exact .inr (Nat.le_trans h5.1 h)
    · exact h4 b (by simp [hb])
/-- the first two, the first one changed -/
theorem Sep.hd2 {s0 s : St} {P Q : Obj} {Ps : List Obj} (h : Sep s0 s (P :: Q :: Ps)) : ∃ f g, P.P s f ∧ Q.P s g ∧ (∀ b ∈ g, b ∉ f) ∧ ∀ (P' : Obj) {s' : St} {f' : List Nat}, P'.P s' f' → Fr s s' f → Nw s f f' → Sep s0 s' (P' :: Q :: Ps) := by
  obtain ⟨f, h1, up⟩ := h.hd
  obtain ⟨fp, ⟨f2, g, h2, ⟨f3, g3, h3, h4, h5, rfl⟩, h6, rfl⟩, h7, h8⟩ := h
  have h : Sep s0 s (P :: Q :: Ps) := ⟨_, ⟨f2, _, h2, ⟨f3, g3, h3, h4, h5, rfl⟩, h6, rfl⟩, h7, h8⟩
  refine ⟨f2, f3, h2, h3, fun b hb hm => h6 b hm (by simp [hb]), fun P' s' f' k1 k2 k3 => ?_⟩
  have hd : ∀ b ∈ f3 ++ g3, b ∉ f2 := fun b hb hm => h6 b hm hb
  refine ⟨f' ++ (f3 ++ g3), ⟨f', _, k1, SepF.fr (Ps := Q :: Ps) ⟨f3, g3, h3, h4, h5, rfl⟩ k2 hd, ?_, rfl⟩, ?_, h8.nn k2 fun b hb => h7 b (by simp [hb])⟩
  · intro b hb hm
    rcases k3 b hb with h | h
    · exact h6 b h hm
    · have := SepF.lt (Ps := Q :: Ps) ⟨f3, g3, h3, h4, h5, rfl⟩ b hm; omega
  · intro b hb
    rcases List.mem_append.1 hb with hb | hb
    · rcases k3 b hb with h | h
      · exact h7 b (by simp [h])
      · exact .inr (Nat.le_trans h8.1 h)
    · exact h7 b (by simp only [List.mem_append] at *; exact .inr hb)
theorem SepF.perm {s : St} {Ps Qs : List Obj} (hp : Ps.Perm Qs) : ∀ {fp : List Nat}, SepF s Ps fp → ∃ fp', SepF s Qs fp' ∧ ∀ b, b ∈ fp' ↔ b ∈ fp := by
  induction hp with
  | nil => exact fun h => ⟨_, h, fun _ => .rfl⟩
  | cons P _ ih =>
    rintro _ ⟨f, g, h1, h2, h3, rfl⟩
    obtain ⟨g', k1, k2⟩ := ih h2
    exact ⟨f ++ g', ⟨f, g', h1, k1, fun b hb hm => h3 b hb ((k2 b).1 hm), rfl⟩, fun b => by simp [k2 b]⟩
  | swap P Q l =>
    rintro _ ⟨f, g, h1, ⟨f2, g2, h2, h3, h4, rfl⟩, h5, rfl⟩
    refine ⟨f2 ++ (f ++ g2), ⟨f2, f ++ g2, h2, ⟨f, g2, h1, h3, fun b hb hm => h5 b hb (by simp [hm]), rfl⟩, ?_, rfl⟩, fun b => by simp only [List.mem_append]; constructor <;> (rintro (h | h | h) <;> simp [h])⟩
    intro b hb hm
    rcases List.mem_append.1 hm with hm | hm
    · exact h5 b hm (by simp [hb])
    · exact h4 b hb hm
  | trans _ _ ih1 ih2 =>
    intro fp h
    obtain ⟨f1, k1, k2⟩ := ih1 h
    obtain ⟨f2, k3, k4⟩ := ih2 k1
    exact ⟨f2, k3, fun b => (k4 b).trans (k2 b)⟩
theorem Sep.perm {s0 s : St} {Ps Qs : List Obj} (hp : Ps.Perm Qs) (h : Sep s0 s Ps) : Sep s0 s Qs := by
  obtain ⟨fp, h1, h2, h3⟩ := h
  obtain ⟨fp', k1, k2⟩ := h1.perm hp
  exact ⟨fp', k1, fun b hb => h2 b ((k2 b).1 hb), h3⟩
/-- the third, the fourth goes first; and back -/
theorem Sep.up2 {s0 s : St} {A B C : Obj} {Ps : List Obj} (h : Sep s0 s (A :: B :: C :: Ps)) : Sep s0 s (C :: A :: B :: Ps) := h.perm (List.perm_middle (l₁ := [A, B]) (a := C) (l₂ := Ps))
theorem Sep.dn2 {s0 s : St} {A B C : Obj} {Ps : List Obj} (h : Sep s0 s (C :: A :: B :: Ps)) : Sep s0 s (A :: B :: C :: Ps) := h.perm (List.perm_middle (l₁ := [A, B]) (a := C) (l₂ := Ps)).symm
theorem Sep.up3 {s0 s : St} {A B C D : Obj} {Ps : List Obj} (h : Sep s0 s (A :: B :: C :: D :: Ps)) : Sep s0 s (D :: A :: B :: C :: Ps) := h.perm (List.perm_middle (l₁ := [A, B, C]) (a := D) (l₂ := Ps))
theorem Sep.dn3 {s0 s : St} {A B C D : Obj} {Ps : List Obj} (h : Sep s0 s (D :: A :: B :: C :: Ps)) : Sep s0 s (A :: B :: C :: D :: Ps) := h.perm (List.perm_middle (l₁ := [A, B, C]) (a := D) (l₂ := Ps)).symm
theorem Sep.up4 {s0 s : St} {A B C D E : Obj} {Ps : List Obj} (h : Sep s0 s (A :: B :: C :: D :: E :: Ps)) : Sep s0 s (E :: A :: B :: C :: D :: Ps) := h.perm (List.perm_middle (l₁ := [A, B, C, D]) (a := E) (l₂ := Ps))
theorem Sep.dn4 {s0 s : St} {A B C D E : Obj} {Ps : List Obj} (h : Sep s0 s (E :: A :: B :: C :: D :: Ps)) : Sep s0 s (A :: B :: C :: D :: E :: Ps) := h.perm (List.perm_middle (l₁ := [A, B, C, D]) (a := E) (l₂ := Ps)).symm
/-- a block -/
def oC (b : Nat) (cs : List AV) : Obj := ⟨fun s fp => s.heap.get b = some (.cells cs .own) ∧ b < s.next ∧ fp = [b],
  fun {s s' fp fp'} ⟨h1, h2, h3⟩ hf hd => ⟨(hf.2 b h2 (hd b (by rw [h3]; simp))).trans h1, Nat.lt_of_lt_of_le h2 hf.1, h3⟩,
  fun {s fp} ⟨h1, h2, h3⟩ => by intro b' hb; rw [h3] at hb; simp at hb; subst hb; exact h2⟩
/-- a slice that is one's own -/
def oW {α : Type} (v : AV) (sz : Nat) (enc : α → List AV) (l : List α) : Obj := ⟨fun s fp => OwE s v sz enc l fp, fun h hf hd => h.fr hf hd, fun h => h.lt⟩
theorem withinP {bd : Bd} {fu : Nat} (n : Nat) (s : St) (v m : Int) (hv : -9223372036854775808 ≤ v ∧ v ≤ 9223372036854775807) (hm : 1 ≤ m) (hm2 : m ≤ 9223372036854775807) :
    OutOk (callF bd tab.get fu (n + 1) 19 [num v, num m] s) (fun x s' => Is x (num (v % m)) ∧ Is s' s) :=
  within_ok t19 n s v m hv hm hm2
end Go.Proofs.Ytgckbcljlkkceaa.ctr
namespace Go.Proofs.Ytgckbcljlkkceaa.ctr
open Go Go.Vm Go.RowKit Go.ChangeShapes Go.WideShapes
set_option linter.unusedVariables false
set_option linter.constructorNameAsVariable false
set_option linter.unusedSimpArgs false
/-! ## a slice among the arguments whose elements are several cells -/
theorem row_blockV {w : World} {a : Addr} {n : Nat} {V : Nat → Value} (h0 : 0 < n) (hc : ∀ i, i < n → w.cell? (a.add i) = some (V i)) :
    ∃ B δ cs t fz, a = ⟨B, δ, none⟩ ∧ w.heap[B]? = some (.cells cs t fz) ∧ δ + n ≤ cs.size ∧ ∀ i, i < n → cs[i + δ]? = some (V i) := by
  obtain ⟨B, δ, sp⟩ := a
  have hb := hc 0 h0
  unfold World.cell? at hb hc
  have e0 : (Addr.add ⟨B, δ, sp⟩ 0) = ⟨B, δ, sp⟩ := rfl
  rw [e0] at hb
  dsimp only at hb
  split at hb
  · rename_i cs t fz hw
    have hsp : sp = none := by
      cases sp with
      | none => rfl
      | some x => simp at hb
    subst hsp
    have ad : ∀ i, (Addr.add ⟨B, δ, none⟩ i).block = B ∧ (Addr.add ⟨B, δ, none⟩ i).off = δ + i ∧ (Addr.add ⟨B, δ, none⟩ i).spot = none := fun i => by rw [addr_add]; exact ⟨rfl, rfl, rfl⟩
    have hall : ∀ i, i < n → cs[i + δ]? = some (V i) := by
      intro i hi
      have h1 := hc i hi
      rw [(ad i).1, hw] at h1
      simp only [(ad i).2.1, (ad i).2.2, Option.isSome_none, Bool.false_eq_true, if_false] at h1
      rw [Nat.add_comm]; exact h1
    refine ⟨B, δ, cs, t, fz, rfl, hw, ?_, hall⟩
    have := lt_of_get (hall (n - 1) (by omega))
    omega
  · cases hb
/-- a slice of len elements of sz cells, V: its cells, up to its capacity -/
def IsRowV (w : World) (a : Option Addr) (len cap sz : Nat) (V : Nat → Value) : Prop :=
  (a = none ∧ len = 0 ∧ cap = 0) ∨ ∃ x, a = some x ∧ len ≤ cap ∧ cap ≤ maxLen ∧ ∀ i, i < cap * sz → w.cell? (x.add i) = some (V i)
theorem _root_.Go.Vm.Arg0.rows {α : Type} {E : Env} {s : St} {w : World} (h : Arg0 E s w) {a : Option Addr} {len cap sz : Nat} {V : Nat → Value} (hq : IsRowV w a len cap sz V) (hp : 0 < sz) (enc : α → List AV) (hw : ∀ x, (enc x).length = sz) (l : List α) (hl : l.length = len)
    (hc : ∀ i v, (l.flatMap enc)[i]? = some v → VR rho0 E v (V i) ∧ v.scalar = true) :
    ∃ v E' s', Arg0 E' s' w ∧ E.le E' ∧ Fr s s' [] ∧ VR rho0 E' v (.slice a len cap) ∧ RdE s' v sz enc l := by
  rcases hq with ⟨rfl, rfl, rfl⟩ | ⟨x, rfl, h2, h3, h4⟩
  · obtain rfl := List.eq_nil_of_length_eq_zero hl
    exact ⟨.nils, E, s, h, .refl E, .refl, .nils, .nil hw hp⟩
  · by_cases h0 : len = 0
    · subst h0
      obtain rfl := List.eq_nil_of_length_eq_zero hl
      exact ⟨.emp, E, s, h, .refl E, .refl, .emp, .emp hw hp⟩
    · have hpos : 0 < cap * sz := Nat.mul_pos (by omega) hp
      obtain ⟨B, δ, cs, t, fz, rfl, g1, g2, g3⟩ := row_blockV hpos h4
      have hlt : (l.flatMap enc).length = len * sz := by rw [flat_len hw, hl]
      have hle : len * sz ≤ cap * sz := Nat.mul_le_mul_right sz h2
      obtain ⟨k1, k2⟩ := h.add (δ := δ) (c := l.flatMap enc) g1 rfl (by rw [hlt]; omega) (fun i v hi => by
        obtain ⟨q1, q2⟩ := hc i v hi
        have := (List.getElem?_eq_some_iff.1 hi).1
        exact ⟨_, g3 i (by omega), q1, q2⟩)
      have hv := VR.sl (ρ := rho0) (E := envN E s.next (B, δ, cs.size)) (b := s.next) (off := 0) (len := len) (lo := len) (ex := false) (sz := sz) (cap := cap) (if_pos rfl) (Nat.le_refl _) h2 (by simp) (by omega)
      rw [Nat.zero_add] at hv
      refine ⟨.sl s.next 0 len len false sz, _, _, k1, k2, .new, hv, ⟨⟨⟨rfl, Nat.le_refl _⟩, ?_, ?_⟩, hw, hp, by show s.next < _; rw [next_new]; omega⟩⟩
      · rw [hlt]; rfl
      · show ob ((s.new _).heap.get s.next) (rdC 0 (len * sz)) = _
        rw [get_new_eq rfl]
        show sub _ 0 (len * sz) = _
        rw [sub_of (by rw [hlt]; omega)]
        congr 1
        rw [List.drop_zero, List.take_of_length_le (by rw [hlt]; omega)]
/-! ## slices of records: kinds of cells -/
inductive Fk | i | b | S
def FkOk (w : World) : Fk → Value → Prop
  | .i, v => ∃ z, v = .int .i64 z ∧ (Lit.int .i64 z).wf = true
  | .b, v => ∃ x, v = .bool x
  | .S, v => ∃ a len cap zs, v = .slice a len cap ∧ IsRow8 w a len cap zs
def fkTy (P : Program) : Fk → TypeId → Bool
  | .i, t => match P.underlying t with | some (.int .i64) => true | _ => false
  | .b, t => match P.underlying t with | some .bool => true | _ => false
  | .S, t => match P.underlying t with | some (.slice e) => (match P.underlying e with | some (.int .u8) => P.cellsOf e == 1 | _ => false) | _ => false
def fkB (P : Program) (e : TypeId) (ks : List Fk) : Bool := match P.underlying e with
  | some (.struct fs) => P.cellsOf e == ks.length && fs.size == ks.length && (List.range ks.length).all fun j => match fs[j]?, ks[j]? with
    | some f, some k => f.offset == j && P.cellsOf f.type == 1 && fkTy P k f.type
    | _, _ => false
  | _ => ks.length == 1 && P.cellsOf e == 1 && fkTy P (ks.getD 0 .i) e
section
variable {H : Type} {enc : TypeId × Value → H} {P : Program} {w : World} {base : Nat} {held : Bool}
theorem fk_open {k : Fk} {t : TypeId} {fuel : Nat} {v : Value} {x : DataW H × List MemPlace} (ht : fkTy P k t = true) (h : DataW.trod enc P w base (fun _ => true) held fuel t [v] = some x) : FkOk w k v := by
  cases k with
  | i =>
    unfold fkTy at ht; dsimp only at ht; split at ht
    · rename_i hu
      obtain ⟨n, h1, _, h2⟩ := DataW.trod_int hu h
      cases h1; exact ⟨n, rfl, h2⟩
    · cases ht
  | b =>
    unfold fkTy at ht; dsimp only at ht; split at ht
    · rename_i hu
      obtain ⟨n, h1, _⟩ := DataW.trod_bool hu h
      cases h1; exact ⟨n, rfl⟩
    · cases ht
  | S =>
    unfold fkTy at ht; dsimp only at ht; split at ht
    · rename_i e hu
      split at ht
      · rename_i hu2
        rcases open_ints hu hu2 (by simpa using ht) h with ⟨hcs, _⟩ | ⟨x, l, c, zs, hcs, _, hl, hm, hz, _, hcell, hwz⟩
        · cases hcs
          exact ⟨_, _, _, [], rfl, .inl ⟨rfl, rfl, rfl, rfl⟩⟩
        · cases hcs
          exact ⟨_, _, _, zs, rfl, .inr ⟨_, rfl, hl, hm, by simpa using hz, hcell, hwz⟩⟩
      · cases ht
    · cases ht
theorem open_rowV {t e : TypeId} {ks : List Fk} {fuel : Nat} {a : Option Addr} {len cap : Nat} {x : DataW H × List MemPlace} (ht : P.underlying t = some (.slice e)) (hk : fkB P e ks = true) (hp : 0 < ks.length)
    (h : DataW.trod enc P w base (fun _ => true) held fuel t [.slice a len cap] = some x) :
    ∃ V, IsRowV w a len cap ks.length V ∧ ∀ i, i < cap * ks.length → FkOk w (ks.getD (i % ks.length) .i) (V i) := by
  have ce : P.cellsOf e = ks.length := by
    unfold fkB at hk
    split at hk
    · simp only [Bool.and_eq_true, beq_iff_eq] at hk; exact hk.1.1
    · simp only [Bool.and_eq_true, beq_iff_eq] at hk; rw [hk.1.1]; exact hk.1.2
  rcases Go.Deep.open_slice ht h with ⟨h0, _⟩ | ⟨b, l, c, m, n, D, Pl, h0, hb, hl, hm, hmm, rfl, hx⟩
  · cases h0
    exact ⟨fun _ => .int .i64 0, .inl ⟨rfl, rfl, rfl⟩, fun i hi => by simp at hi⟩
  · cases h0
    obtain rfl : m = cap := by simpa using hmm
    rw [ce] at hx
    have key : ∀ q, q < m * ks.length → ∃ v, w.cell? (b.add q) = some v ∧ FkOk w (ks.getD (q % ks.length) .i) v := by
      intro q hq
      have hj : q % ks.length < ks.length := Nat.mod_lt _ hp
      have hi : q / ks.length < m := by rw [Nat.div_lt_iff_lt_mul hp]; exact hq
      have hqe : q / ks.length * ks.length + q % ks.length = q := by rw [Nat.mul_comm]; exact Nat.div_add_mod q ks.length
      obtain ⟨cs', h1, h2⟩ := hx _ hi
      obtain ⟨_, hlen, hcell⟩ := World.cells?_some h1
      have e1 := hcell (q % ks.length) (by omega)
      rw [Go.Deep.add_add, hqe] at e1
      obtain ⟨v, hv⟩ : ∃ v, cs'[q % ks.length]? = some v := ⟨cs'[q % ks.length]'(by omega), List.getElem?_eq_getElem (by omega)⟩
      refine ⟨v, by rw [e1, hv], ?_⟩
      unfold fkB at hk
      split at hk
      · rename_i fs hu
        simp only [Bool.and_eq_true, beq_iff_eq, List.all_eq_true, List.mem_range] at hk
        obtain ⟨⟨_, hsz⟩, hall⟩ := hk
        obtain ⟨xs, k, _, _, _, hxl, hf⟩ := DataW.trod_struct hu h2
        have hj2 := hall _ hj
        split at hj2
        · rename_i f k' hfj hkj
          simp only [Bool.and_eq_true, beq_iff_eq] at hj2
          obtain ⟨⟨o1, c1⟩, ty⟩ := hj2
          have g := hf _ f hfj
          rw [o1, c1] at g
          have hd : (cs'.drop (q % ks.length)).take 1 = [v] := by
            rw [List.take_one, List.head?_drop, hv]; rfl
          rw [hd] at g
          have hlt : q % ks.length < xs.length := by rw [hxl, hsz]; exact hj
          rw [List.getElem?_eq_getElem hlt] at g
          have := fk_open ty g
          rw [List.getD, hkj]; exact this
        · cases hj2
      · rename_i hu
        simp only [Bool.and_eq_true, beq_iff_eq] at hk
        have hl1 : cs'.length = 1 := by rw [hlen]; exact hk.1.1
        have h0 : q % ks.length = 0 := by rw [hk.1.1]; exact Nat.mod_one q
        rw [h0] at hv ⊢
        match cs', hl1, hv, h2 with
        | [y], _, hv, h2 => cases hv; exact fk_open hk.2 h2
    obtain ⟨V, hV⟩ : ∃ V : Nat → Value, ∀ q, q < m * ks.length → w.cell? (b.add q) = some (V q) ∧ FkOk w (ks.getD (q % ks.length) .i) (V q) := by
      haveI : Inhabited Value := ⟨.bool false⟩
      exact Go.Deep.choose_lt key
    exact ⟨V, .inr ⟨_, rfl, hl, hm, fun i hi => (hV i hi).1⟩, fun i hi => (hV i hi).2⟩
end
/-! ## .. in the walk -/
inductive Cl | i (z : Int) | b (x : Bool) | S (u : AV) (l : List Int)
noncomputable def Cl.av : Cl → AV | .i z => num z | .b x => .bool x | .S u _ => u
def Cl.z : Cl → Int | .i z => z | _ => 0
def Cl.x : Cl → Bool | .b x => x | _ => false
def Cl.u : Cl → AV | .S u _ => u | _ => .nils
def Cl.l : Cl → List Int | .S _ l => l | _ => []
/-- a cell of a kind -/
def ClOk (s : St) : Cl → Fk → Prop
  | .i z, .i => In64 z
  | .b _, .b => True
  | .S u l, .S => RdE s u 1 encB l ∧ ∀ x ∈ l, In8 x
  | _, _ => False
theorem ClOk.fr0 {s s' : St} {c : Cl} {k : Fk} (h : ClOk s c k) (f : Fr s s' []) : ClOk s' c k := by
  cases c <;> cases k <;> first | exact h | exact ⟨h.1.fr0 f, h.2⟩ | cases h
theorem _root_.Go.Vm.Arg0.cells {w : World} {V : Nat → Value} {K : Nat → Fk} : ∀ (n : Nat) {E : Env} {s : St}, Arg0 E s w → (∀ i, i < n → FkOk w (K i) (V i)) →
    ∃ (cl : Nat → Cl) (E' : Env) (s' : St), Arg0 E' s' w ∧ E.le E' ∧ Fr s s' [] ∧ ∀ i, i < n → ClOk s' (cl i) (K i) ∧ VR rho0 E' (cl i).av (V i) ∧ (cl i).av.scalar = true
  | 0, E, s, h, _ => ⟨fun _ => .i 0, E, s, h, .refl E, .refl, fun i hi => by omega⟩
  | n + 1, E, s, h, hV => by
    obtain ⟨cl, E1, s1, h1, e1, f1, c1⟩ := Go.Vm.Arg0.cells n h (fun i hi => hV i (by omega))
    have hn := hV n (by omega)
    have put : ∀ (c : Cl) (E' : Env) (s' : St), Arg0 E' s' w → E1.le E' → Fr s1 s' [] → ClOk s' c (K n) → VR rho0 E' c.av (V n) → c.av.scalar = true →
        ∃ (cl : Nat → Cl) (E' : Env) (s' : St), Arg0 E' s' w ∧ E.le E' ∧ Fr s s' [] ∧ ∀ i, i < n + 1 → ClOk s' (cl i) (K i) ∧ VR rho0 E' (cl i).av (V i) ∧ (cl i).av.scalar = true := by
      intro c E' s' a e f k v sc
      refine ⟨fun i => if i = n then c else cl i, E', s', a, e1.trans e, f1.trans f (fp2 := []) (by simp) (by simp), fun i hi => ?_⟩
      dsimp only
      by_cases h : i = n
      · subst h; rw [if_pos rfl]; exact ⟨k, v, sc⟩
      · rw [if_neg h]
        obtain ⟨q1, q2, q3⟩ := c1 i (by omega)
        exact ⟨q1.fr0 f, q2.mono e, q3⟩
    cases hk : K n with
    | i =>
      rw [hk] at hn put
      obtain ⟨z, hz, wz⟩ := hn
      exact put (.i z) E1 s1 h1 (.refl _) .refl (wf64 wz) (by rw [hz]; exact vr_int) rfl
    | b =>
      rw [hk] at hn put
      obtain ⟨z, hz⟩ := hn
      exact put (.b z) E1 s1 h1 (.refl _) .refl trivial (by rw [hz]; exact .bool _) rfl
    | S =>
      rw [hk] at hn put
      obtain ⟨a, len, cap, zs, hv, hq⟩ := hn
      obtain ⟨u, E2, s2, g, l, f, r, d, i8⟩ := h1.bytes hq
      refine put (.S u (zs.take len)) E2 s2 g l f ⟨d, i8⟩ (by rw [hv]; exact r) ?_
      have := d.rd.sl
      show u.scalar = true
      cases u <;> first | rfl | exact this.elim
/-- a slice of records among the arguments -/
theorem _root_.Go.Vm.Arg0.recs {α : Type} {E : Env} {s : St} {w : World} (h : Arg0 E s w) {a : Option Addr} {len cap : Nat} {ks : List Fk} {V : Nat → Value} (hq : IsRowV w a len cap ks.length V)
    (hV : ∀ i, i < cap * ks.length → FkOk w (ks.getD (i % ks.length) .i) (V i)) (hp : 0 < ks.length) (enc : α → List AV) (dec : (Nat → Cl) → α) (hw : ∀ x, (enc x).length = ks.length)
    (hd : ∀ (s : St) (f : Nat → Cl), (∀ j, j < ks.length → ClOk s (f j) (ks.getD j .i)) → ∀ j, j < ks.length → (enc (dec f))[j]? = some (f j).av) :
    ∃ v E' s' l, Arg0 E' s' w ∧ E.le E' ∧ Fr s s' [] ∧ VR rho0 E' v (.slice a len cap) ∧ RdE s' v ks.length enc l ∧ l.length = len ∧ ∀ x ∈ l, ∃ f, x = dec f ∧ ∀ j, j < ks.length → ClOk s' (f j) (ks.getD j .i) := by
  have hlc : len ≤ cap := by rcases hq with ⟨_, rfl, rfl⟩ | ⟨_, _, h, _⟩; exact Nat.le_refl _; exact h
  have hle : len * ks.length ≤ cap * ks.length := Nat.mul_le_mul_right _ hlc
  obtain ⟨cl, E1, s1, h1, e1, f1, c1⟩ := Go.Vm.Arg0.cells (V := V) (K := fun i => ks.getD (i % ks.length) .i) (len * ks.length) h (fun i hi => hV i (by omega))
  have hF : ∀ k, k < len → ∀ j, j < ks.length → k * ks.length + j < len * ks.length := by
    intro k hk j hj
    have : (k + 1) * ks.length ≤ len * ks.length := Nat.mul_le_mul_right _ hk
    rw [Nat.add_mul, Nat.one_mul] at this; omega
  have hmod : ∀ k j, j < ks.length → (k * ks.length + j) % ks.length = j := by
    intro k j hj; rw [Nat.mul_comm, Nat.mul_add_mod, Nat.mod_eq_of_lt hj]
  have hK : ∀ k, k < len → ∀ j, j < ks.length → ClOk s1 (cl (k * ks.length + j)) (ks.getD j .i) := by
    intro k hk j hj
    have := (c1 _ (hF k hk j hj)).1
    rwa [hmod k j hj] at this
  have hlen : ((List.range len).map fun k => dec fun j => cl (k * ks.length + j)).length = len := by simp
  obtain ⟨v, E2, s2, h2, e2, f2, r2, d2⟩ := h1.rows hq hp enc hw ((List.range len).map fun k => dec fun j => cl (k * ks.length + j)) hlen (by
    intro i v hi
    have hil := (List.getElem?_eq_some_iff.1 hi).1
    rw [flat_len hw, hlen] at hil
    have hj : i % ks.length < ks.length := Nat.mod_lt _ hp
    have hk : i / ks.length < len := by rw [Nat.div_lt_iff_lt_mul hp]; exact hil
    have hie : i / ks.length * ks.length + i % ks.length = i := by rw [Nat.mul_comm]; exact Nat.div_add_mod i ks.length
    have hg : ((List.range len).map fun k => dec fun j => cl (k * ks.length + j))[i / ks.length]? = some (dec fun j => cl (i / ks.length * ks.length + j)) := by
      rw [List.getElem?_map, List.getElem?_range hk]; rfl
    have ha := flat_at hw hg
    have hv : (enc (dec fun j => cl (i / ks.length * ks.length + j)))[i % ks.length]? = some v := by
      rw [← ha, List.getElem?_take, if_pos hj, List.getElem?_drop, hie]; exact hi
    rw [hd s1 _ (fun j hj => hK _ hk j hj) _ hj, hie] at hv
    cases hv
    obtain ⟨_, q2, q3⟩ := c1 i (by omega)
    exact ⟨q2, q3⟩)
  refine ⟨v, E2, s2, _, h2, e1.trans e2, f1.trans f2 (fp2 := []) (by simp) (by simp), r2, d2, hlen, fun x hx => ?_⟩
  obtain ⟨k, hk, rfl⟩ := List.mem_map.1 hx
  exact ⟨_, rfl, fun j hj => (hK k (List.mem_range.1 hk) j hj).fr0 f2⟩
end Go.Proofs.Ytgckbcljlkkceaa.ctr
namespace Go.Proofs.Ytgckbcljlkkceaa.ctr
open Go.Vm Go.RowKit
set_option linter.unusedVariables false
set_option linter.unusedSimpArgs false
set_option linter.constructorNameAsVariable false
theorem ClOk.i {s : St} {c : Cl} (h : ClOk s c .i) : c.av = num c.z ∧ In64 c.z := by
  cases c <;> first | exact ⟨rfl, h⟩ | cases h
theorem ClOk.b {s : St} {c : Cl} (h : ClOk s c .b) : c.av = .bool c.x := by
  cases c <;> first | rfl | cases h
theorem ClOk.S {s : St} {c : Cl} (h : ClOk s c .S) : c.av = c.u ∧ RdE s c.u 1 encB c.l ∧ ∀ x ∈ c.l, In8 x := by
  cases c <;> first | exact ⟨rfl, h⟩ | cases h
theorem _root_.Go.Vm.RdE.fld {α : Type} {s : St} {v : AV} {sz : Nat} {enc : α → List AV} {l : List α} (h : RdE s v sz enc l) {i : Nat} {x : α} (hx : l[i]? = some x) {k : Nat} {c : AV} (hk : (enc x)[k]? = some c) :
    ob (s.heap.get (sblk v)) (rd1C (soff v + i * sz + k)) = some c := by
  obtain ⟨c', k', q1, q2⟩ := rd_sub (s := s) (b := sblk v) (o := soff v + i * sz) (n := sz) (h.at hx)
  obtain ⟨q3, q4⟩ := sub_some q2
  have hlt := (List.getElem?_eq_some_iff.1 hk).1
  rw [h.wid] at hlt
  rw [q1]
  show nth c' (soff v + i * sz + k) = _
  rw [nth_eq]
  have : ((c'.drop (soff v + i * sz)).take sz)[k]? = some c := by rw [← q4]; exact hk
  rw [List.getElem?_take, if_pos hlt, List.getElem?_drop] at this
  exact this
theorem _root_.Go.Vm.RdE.fld0 {α : Type} {s : St} {v : AV} {sz : Nat} {enc : α → List AV} {l : List α} (h : RdE s v sz enc l) {i : Nat} {x : α} (hx : l[i]? = some x) {c : AV} (hk : (enc x)[0]? = some c) :
    ob (s.heap.get (sblk v)) (rd1C (soff v + i * sz)) = some c := h.fld hx (k := 0) hk
theorem drop_of {α : Type} {l : List α} {i : Nat} {x : α} (h : l[i]? = some x) : l.drop i = x :: l.drop (i + 1) := by
  obtain ⟨h1, h2⟩ := List.getElem?_eq_some_iff.1 h
  rw [List.drop_eq_getElem_cons h1, h2]
theorem Sep.cell {s0 s : St} {Ps : List Obj} (h : Sep s0 s Ps) (c0 c : List AV) : Sep s0 ((s.new (.cells c0 .own)).put s.next (some (.cells c .own))) (oC s.next c :: Ps) :=
  h.push (P := oC s.next c) ⟨get_put_eq rfl, by rw [next_put, next_new]; omega, rfl⟩ (by (repeat' (first | exact Fr.refl | assumption | apply Fr.new' | apply Fr.mk' | apply Fr.put')) <;> (first | omega | (left; simp; done) | (right; simp only [next_put, next_new, next_mk]; omega) | (simp only [next_put, next_new, next_mk]; omega))) (Nw.one (Nat.le_refl _))
theorem Sep.getC {s0 s : St} {b : Nat} {c : List AV} {Ps : List Obj} (h : Sep s0 s (oC b c :: Ps)) : s.heap.get b = some (.cells c .own) := by
  obtain ⟨f, k, up⟩ := h.hd; exact k.1
theorem Sep.re {s0 s : St} {Ps Qs : List Obj} (h : Sep s0 s Ps) (hp : Ps.Perm Qs) : Sep s0 s Qs := h.perm hp
theorem Sep.rdW {α : Type} {s0 s : St} {v : AV} {sz : Nat} {enc : α → List AV} {l : List α} {Ps : List Obj} (h : Sep s0 s (oW v sz enc l :: Ps)) : RdE s v sz enc l := by
  obtain ⟨f, k, up⟩ := h.hd; exact k.rd
theorem sep_test {s0 s : St} {A B C D E F G : Obj} {Ps : List Obj} (h : Sep s0 s (A :: B :: C :: D :: E :: F :: G :: Ps)) : Sep s0 s (E :: B :: F :: A :: G :: Ps) := ((h.re ((List.perm_middle (l₁ := [_, _])).trans (.cons _ ((List.perm_middle (l₁ := [_, _])).trans (.cons _ ((List.perm_middle (l₁ := [_, _])).trans (.cons _ ((List.perm_middle (l₁ := [_])).trans (.cons _ ((List.perm_middle (l₁ := [_])).trans (.cons _ (.refl _)))))))))))).drop.drop)
theorem sv_bool (b : Bool) : sameV (.bool b) (.bool b) = true := by cases b <;> rfl
end Go.Proofs.Ytgckbcljlkkceaa.ctr
namespace Go.Proofs.Ytgckbcljlkkceaa.ctr
open Go.Vm Go.RowKit
set_option linter.unusedVariables false
set_option linter.constructorNameAsVariable false
set_option linter.unusedSimpArgs false
/-! steps of a region that are not wanted -/
section
variable {k : Nat} {s : St} {ss : List St} {fs : List Fs} {ps : List Pend} {Q : Option AV → Nat → St → List St → List Fs → List Pend → Prop}
theorem du_mv (x : Od) : DOk (drwU (.mv x) k s ss fs ps) Q = Q (some (.tup [])) k s ss fs ps := rfl
theorem du_nilc (x : Od) : DOk (drwU (.nilc x) k s ss fs ps) Q = Q (some (.tup [])) k s ss fs ps := rfl
theorem du_fa (n : Nat) (x : Od) : DOk (drwU (.fa n x) k s ss fs ps) Q = Q (some (.tup [])) k s ss fs ps := rfl
theorem du_ld (x : Od) : DOk (drwU (.ld x) k s ss fs ps) Q = Q (some (.tup [])) k s ss fs ps := rfl
theorem du_bin (op : BinOp) (x y : Od) : DOk (drwU (.bin op x y) k s ss fs ps) Q = Q (some (.tup [])) k s ss fs ps := rfl
theorem du_un (op : UnOp) (x : Od) : DOk (drwU (.un op x) k s ss fs ps) Q = Q (some (.tup [])) k s ss fs ps := rfl
theorem du_eq (g : Bool) (e : EK) (x y : Od) : DOk (drwU (.eq g e x y) k s ss fs ps) Q = Q (some (.tup [])) k s ss fs ps := rfl
theorem du_len (x : Od) : DOk (drwU (.len x) k s ss fs ps) Q = Q (some (.tup [])) k s ss fs ps := rfl
theorem du_pick (a b e : Od) : DOk (drwU (.pick a b e) k s ss fs ps) Q = Q (some (.tup [])) k s ss fs ps := rfl
theorem du_ia (n : Nat) (x i : Od) : DOk (drwU (.ia n x i) k s ss fs ps) Q = Q (some (.tup [])) k s ss fs ps := rfl
theorem du_call (f : Od) (args : List Od) : DOk (drwU (.call f args) k s ss fs ps) Q = Q (some (.tup [])) (k + 1) (addM (k + 1) fs s) (s :: ss) fs ps := rfl
end
set_option linter.defProp false in
def vmU := And.intro @du_mv <| And.intro @du_nilc <| And.intro @du_fa <| And.intro @du_ld <| And.intro @du_bin <| And.intro @du_un <| And.intro @du_eq <| And.intro @du_len <| And.intro @du_pick <| And.intro @du_ia <| @du_call
/-! ## bytes that are lent -/
theorem mks_l {L F : LF} {id : Nat} {bd : Bd} {x y : Od} {l c : Int} (h1 : ev L F x = some (num l)) (h2 : ev L F y = some (num c)) (h0 : 0 ≤ l) (h3 : l ≤ c) (h4 : c ≤ 281474976710656) :
    fMks L F id bd [byt 0] 1 1 x y = some (.sl id 0 l.toNat c.toNat true 1, .cells (rep c.toNat [byt 0]) .own) := by
  unfold fMks
  rw [h1, h2]
  show fMksC id [byt 0] 1 1 (num l) (num c) = _
  unfold fMksC
  rw [onN h0, onN (show 0 ≤ c by omega)]
  rw [ble_dec, dec_t (by omega), ble_dec, dec_t (by omega), ble_dec, dec_t (by omega)]
  rfl
theorem cpy_l {L F : LF} {s : St} {x y : Od} {b len lo : Nat} {v : AV} {l : List Int} {C : List AV} (h1 : ev L F x = some (.sl b 0 len lo true 1)) (h2 : ev L F y = some v) (hv : RdE s v 1 encB l) (hl : l.length = len) (hc : s.heap.get b = some (.cells C .own)) (hC : len ≤ C.length) :
    ∃ s', fCpy L F s 1 x y = .v (num (len : Int)) s' ∧ s'.next = s.next ∧ s'.heap.get b = some (.cells (l.flatMap encB ++ C.drop len) .own) ∧ Fr s s' [b] := by
  subst hl
  have hfl : (l.flatMap encB).length = l.length := by rw [flat_len encB_w]; omega
  obtain ⟨s', w1, w2, w3, w4⟩ := wr_in (i := 0) hc (.inl ⟨rfl, rfl⟩) (ys := l.flatMap encB) (by omega)
  refine ⟨s', ?_, w2, by rw [w3, List.take_zero, List.nil_append, hfl, Nat.zero_add], w4⟩
  unfold fCpy
  rw [h1, h2]
  show oN (lenOf v) (fun m => oL (cellsOf s 1 (Nat.min m l.length) v) (fun vs => Vm.oS (wr s b 0 vs) (fun s' => .v (.int .i64 (.c (Int.ofNat (Nat.min m l.length)))) s') 27) 29) 30 = _
  rw [hv.lenOf]
  show oL (cellsOf s 1 (Nat.min l.length l.length) v) (fun vs => Vm.oS (wr s b 0 vs) (fun s' => .v (.int .i64 (.c (Int.ofNat (Nat.min l.length l.length)))) s') 27) 29 = _
  rw [show Nat.min l.length l.length = l.length from Nat.min_self _, hv.cellsOf]
  show Vm.oS (wr s b 0 (l.flatMap encB)) (fun s' => .v (.int .i64 (.c (Int.ofNat l.length))) s') 27 = _
  rw [w1]; rfl
theorem sv_x {b n : Nat} : sliceV 1 (.sl b 0 n (n + 3) true 1) none (some (num ((n : Int) + 3))) none = some (.sl b 0 (n + 3) (n + 3) true 1) := by
  have h1 : bnd n (some (num ((n : Int) + 3))) = some (n + 3) := by rw [bnd_s (by omega)]; congr 1
  rw [sv_s, h1]
  show sliL b 0 true (n + 3) 0 (n + 3) 1 = _
  rw [sli_k (by omega) (by omega) (by omega)]; rfl
theorem flat_byt (l : List Int) : l.flatMap encB = l.map byt := by
  induction l with
  | nil => rfl
  | cons x l ih => rw [List.flatMap_cons, ih]; rfl
/-- lent bytes -/
def lentC (l : List Int) : List AV := (l ++ [85, 85, 85]).flatMap encB
section
variable {bd : Bd} {fu : Nat}
theorem lend (n : Nat) (s : St) (v : AV) (l : List Int) (hv : RdE s v 1 encB l) (hl : l.length ≤ 140737488355328) (hfu : 10 < fu) :
    OutOk (callF bd tab.get fu (n + 1) 20 [v] s) (fun x s' => ∃ b, Is x (.sl b 0 l.length (l.length + 3) true 1) ∧ s'.heap.get b = some (.cells (lentC l) .own) ∧ s.next ≤ b ∧ b < s'.next ∧ Fr s s' []) := by
  refine call_code t20 rfl ?_
  have e1 := hv.lenV
  simp (disch := omega) only [vm0, vm1, vm2, vm3, vm4, vm5, vm6, vm7, vmF, vmT, evo, wr, wrC, frame, Nat.reduceAdd, Nat.reduceMul, Nat.reduceSub, beq_self_eq_true, List.cons_append, List.nil_append, beq_dec, vmI, vc20, e1]
  rw [mks_l (x := .t 2) (y := .t 0) rfl rfl (by omega) (by omega) (by omega)]
  simp (disch := omega) only [vm0, vm1, vm2, vm3, vm4, vm5, vm6, vm7, vmF, vmT, evo, wr, wrC, frame, Nat.reduceAdd, Nat.reduceMul, Nat.reduceSub, beq_self_eq_true, List.cons_append, List.nil_append, beq_dec, vmI]
  have hfa : Fr s (s.new (.cells (rep ((l.length : Int) + 3).toNat [byt 0]) .own)) [] := .new
  have hg : (s.new (.cells (rep ((l.length : Int) + 3).toNat [byt 0]) .own)).heap.get s.next = some (.cells (rep ((l.length : Int) + 3).toNat [byt 0]) .own) := get_new_eq rfl
  have hnx : (s.new (.cells (rep ((l.length : Int) + 3).toNat [byt 0]) .own)).next = s.next + 1 := rfl
  rw [show ((l.length : Int) + 3).toNat = l.length + 3 by omega] at *
  generalize s.new (.cells (rep (l.length + 3) [byt 0]) .own) = s1 at *
  have hv1 := hv.fr0 hfa
  obtain ⟨s2, w1, w2, w3, w4⟩ := cpy_l (L := []) (F := [some v, some (.sl s.next 0 l.length (l.length + 3) true 1), none, none, none, some .nils]) (x := .w 1) (y := .w 0) rfl rfl hv1 rfl hg (by rw [rep_flat, flat_len encB_w]; simp)
  rw [w1]
  simp (disch := omega) only [vm0, vm1, vm2, vm3, vm4, vm5, vm6, vm7, vmF, vmT, evo, wr, wrC, frame, Nat.reduceAdd, Nat.reduceMul, Nat.reduceSub, beq_self_eq_true, List.cons_append, List.nil_append, beq_dec, vmI, e1, sv_x]
  have hc0 : l.flatMap encB ++ (rep (l.length + 3) [byt 0]).drop l.length = (l ++ List.replicate 0 85 ++ List.replicate 3 0).flatMap encB := by
    rw [rep_flat, flat_byt, flat_byt, flat_byt]; simp
  rw [hc0] at w3
  have hnb : s.next < s2.next := by omega
  have hfr2 : Fr s s2 [] := hfa.trans w4 (fp2 := []) (by simp) (fun z hz hlt => by simp at hz; omega)
  obtain ⟨b, hb⟩ : ∃ b, s.next = b := ⟨_, rfl⟩
  rw [hb] at w3 hnb ⊢
  refine x_loop (fun m F s' => ∃ j : Nat, ∃ z y4, m = 3 - j ∧ j ≤ 3 ∧ z = ((l.length + j : Nat) : Int) ∧ F = [some v, some (.sl b 0 l.length (l.length + 3) true 1), some (num z), some (.sl b 0 (l.length + 3) (l.length + 3) true 1), y4, some .nils] ∧ s'.heap.get b = some (.cells ((l ++ List.replicate j 85 ++ List.replicate (3 - j) 0).flatMap encB) .own) ∧ Fr s2 s' [b]) 3 (by omega) ?_ ?_
  · exact ⟨0, _, _, by omega, by omega, rfl, rfl, w3, .refl⟩
  · rintro m F s3 ⟨j, z, y4, rfl, hj, hz, rfl, k1, k2⟩ hm
    by_cases hlt : j < 3
    · have g1 := iaV_is (sz := 1) (v := .sl b 0 (l.length + 3) (l.length + 3) true 1) (i := l.length + j) ⟨rfl, Nat.le_refl _⟩ (by show l.length + j < l.length + 3; omega)
      rw [← hz] at g1
      have hlC : ((l ++ List.replicate j 85 ++ List.replicate (3 - j) 0).flatMap encB).length = l.length + 3 := by rw [flat_len encB_w]; simp; omega
      obtain ⟨s4, q1, q2, q3, q4⟩ := wr_in (i := soff (.sl b 0 (l.length + 3) (l.length + 3) true 1) + (l.length + j) * 1) k1 (.inl ⟨rfl, rfl⟩) (ys := [byt 85]) (by rw [hlC]; show 0 + (l.length + j) * 1 + 1 ≤ _; omega)
      rw [show sblk (.sl b 0 (l.length + 3) (l.length + 3) true 1) = b from rfl] at g1
      simp only [byt] at q1
      simp (disch := omega) only [vm0, vm1, vm2, vm3, vm4, vm5, vm6, vm7, vmF, vmT, evo, frame, Nat.reduceAdd, Nat.reduceMul, Nat.reduceSub, beq_self_eq_true, List.cons_append, List.nil_append, beq_dec, g1, q1, wr64]
      refine ⟨3 - (j + 1), by omega, j + 1, z + 1, _, rfl, by omega, by omega, rfl, ?_, k2.trans q4 (by simp) (by simp)⟩
      rw [q3]
      congr 3
      rw [show soff (.sl b 0 (l.length + 3) (l.length + 3) true 1) + (l.length + j) * 1 = l.length + j by show 0 + (l.length + j) * 1 = _; omega, flat_byt, flat_byt]
      have t1 : ∀ k, (l.map byt).take (l.length + k) = l.map byt := fun k => List.take_of_length_le (by simp)
      have t2 : ∀ k, (l.map byt).drop (l.length + k) = [] := fun k => List.drop_of_length_le (by simp)
      obtain rfl | rfl | rfl : j = 0 ∨ j = 1 ∨ j = 2 := by omega
      · simp [List.take_append, List.drop_append]
      · simp [List.take_append, List.drop_append, Nat.add_assoc, t1, t2]
      · simp [List.take_append, List.drop_append, Nat.add_assoc, t1, t2]
    · have hj3 : j = 3 := by omega
      subst hj3
      simp (disch := omega) only [vm0, vm1, vm2, vm3, vm4, vm5, vm6, vm7, vmF, vmT, evo, wr, wrC, frame, Nat.reduceAdd, Nat.reduceMul, Nat.reduceSub, beq_self_eq_true, List.cons_append, List.nil_append, beq_dec, vmI]
      refine ⟨b, rfl, ?_, by omega, Nat.lt_of_lt_of_le hnb k2.1, hfr2.trans k2 (fp2 := []) (by simp) (fun z hz hlt => by simp at hz; omega)⟩
      rw [k1, lentC]; simp
theorem intact (n : Nat) (s : St) (v : AV) (l : List Int) (b : Nat) (hv : RdE s v 1 encB l) (hl : l.length ≤ 140737488355328) (hg : s.heap.get b = some (.cells (lentC l) .own)) (hb : b < s.next) (hfu : l.length + 10 < fu) :
    OutOk (callF bd tab.get fu (n + 1) 23 [.sl b 0 l.length (l.length + 3) true 1, v] s) (fun x s' => Is x (.bool true) ∧ Is s' s) := by
  refine call_code t23 rfl ?_
  have e1 := hv.lenV
  have hU : RdE s (.sl b 0 (l.length + 3) (l.length + 3) true 1) 1 encB (l ++ [85, 85, 85]) := by
    refine ⟨⟨⟨rfl, Nat.le_refl _⟩, by rw [flat_len encB_w]; simp [slen], ?_⟩, encB_w, by omega, hb⟩
    show ob (s.heap.get b) (rdC 0 ((l.length + 3) * 1)) = _
    rw [hg]
    show sub (lentC l) 0 ((l.length + 3) * 1) = _
    have : (lentC l).length = l.length + 3 := by unfold lentC; rw [flat_len encB_w]; simp
    rw [sub_of (by rw [this]; omega), List.drop_zero, List.take_of_length_le (by rw [this]; omega)]
    rfl
  have e2 : lenV (.sl b 0 (l.length + 3) (l.length + 3) true 1) = some (num ((l.length : Int) + 3)) := rfl
  have hcap : Int.ofNat (l.length + 3) = (l.length : Int) + 3 := rfl
  simp (disch := omega) only [vm0, vm1, vm2, vm3, vm4, vm5, vm6, vm7, vmF, vmT, evo, wr, wrC, frame, Nat.reduceAdd, Nat.reduceMul, Nat.reduceSub, beq_self_eq_true, List.cons_append, List.nil_append, beq_dec, vmI, vc23, e1, sv_x, fCap, hcap]
  refine x_loop (fun m F s' => ∃ j : Nat, ∃ z y2 y7 y8, m = l.length + 3 - j ∧ j ≤ l.length + 3 ∧ z = (j : Int) ∧ F = [some (.sl b 0 l.length (l.length + 3) true 1), some v, y2, some (.sl b 0 (l.length + 3) (l.length + 3) true 1), some (num z), some (.bool false), some (num ((l.length : Int) + 3)), y7, y8, some (.bool false)] ∧ s' = s) (l.length + 3) (by omega) ?_ ?_
  · exact ⟨0, _, _, _, _, by omega, by omega, rfl, rfl, rfl⟩
  · rintro m F s1 ⟨j, _, y2, y7, y8, rfl, hj, rfl, rfl, rfl⟩ hm
    by_cases hlt : j < l.length
    · obtain ⟨x, hx⟩ : ∃ x, l[j]? = some x := ⟨_, List.getElem?_eq_getElem hlt⟩
      have hx2 : (l ++ [85, 85, 85])[j]? = some x := by rw [List.getElem?_append_left hlt, hx]
      have g1 := hU.ia hx2
      have g2 := hU.at1 (f := byt) hx2
      have g3 := hv.ia hx
      have g4 := hv.at1 (f := byt) hx
      simp (disch := omega) only [vm0, vm1, vm2, vm3, vm4, vm5, vm6, vm7, vmF, vmT, evo, wr, wrC, frame, Nat.reduceAdd, Nat.reduceMul, Nat.reduceSub, beq_self_eq_true, List.cons_append, List.nil_append, beq_dec, vmI, vmU, e1, g1, g2, g3, g4]
      exact ⟨l.length + 3 - (j + 1), by omega, j + 1, (j : Int) + 1, _, _, _, rfl, by omega, by omega, rfl, rfl⟩
    · by_cases hlt2 : j < l.length + 3
      · have hx2 : (l ++ [85, 85, 85])[j]? = some 85 := by
          rw [List.getElem?_append_right (by omega)]
          obtain h | h | h : j - l.length = 0 ∨ j - l.length = 1 ∨ j - l.length = 2 := by omega
          all_goals rw [h]; rfl
        have g1 := hU.ia hx2
        have g2 := hU.at1 (f := byt) hx2
        simp (disch := omega) only [vm0, vm1, vm2, vm3, vm4, vm5, vm6, vm7, vmF, vmT, evo, wr, wrC, frame, Nat.reduceAdd, Nat.reduceMul, Nat.reduceSub, beq_self_eq_true, List.cons_append, List.nil_append, beq_dec, vmI, vmU, e1, g1, g2]
        exact ⟨l.length + 3 - (j + 1), by omega, j + 1, (j : Int) + 1, _, _, _, rfl, by omega, by omega, rfl, rfl⟩
      · simp (disch := omega) only [vm0, vm1, vm2, vm3, vm4, vm5, vm6, vm7, vmF, vmT, evo, wr, wrC, frame, Nat.reduceAdd, Nat.reduceMul, Nat.reduceSub, beq_self_eq_true, List.cons_append, List.nil_append, beq_dec, vmI]
        exact ⟨rfl, rfl⟩
theorem OwE.vout {α : Type} {s : St} {v : AV} {sz : Nat} {enc : α → List AV} {l : List α} {fp f : List Nat} (h : OwE s v sz enc l fp) (hd : ∀ b ∈ fp, b ∉ f) : vout f v := by
  rcases h.ow with ⟨rfl, _, _⟩ | ⟨b, len, lo, ex, k, J, rfl, _, _, _, h5⟩
  · trivial
  · exact hd b (by rcases h5 with ⟨_, rfl⟩ | ⟨m, _, _, rfl⟩ <;> simp)
theorem lent_rd {s : St} {b : Nat} {l : List Int} (hg : s.heap.get b = some (.cells (lentC l) .own)) (hb : b < s.next) : RdE s (.sl b 0 l.length (l.length + 3) true 1) 1 encB l := by
  refine ⟨⟨⟨rfl, by omega⟩, by rw [flat_len encB_w]; simp [slen], ?_⟩, encB_w, by omega, hb⟩
  show ob (s.heap.get b) (rdC 0 (l.length * 1)) = _
  rw [hg]
  show sub (lentC l) 0 (l.length * 1) = _
  have : (lentC l).length = l.length + 3 := by unfold lentC; rw [flat_len encB_w]; simp
  rw [sub_of (by rw [this]; omega), List.drop_zero, lentC, List.flatMap_append, List.take_left' (by rw [flat_len encB_w])]
theorem sameB (n : Nat) (s : St) (v w : AV) (l m : List Int) (hv : RdE s v 1 encB l) (hw : RdE s w 1 encB m) (hlen : l.length < fu) (hf : l.length < 4611686018427387904) :
    OutOk (callF bd tab.get fu (n + 1) 12 [v, w] s) (fun x s' => Is x (.bool (decide (l = m))) ∧ Is s' s) := by
  refine call_code t12 rfl ?_
  by_cases hl : l.length = m.length
  · simp (disch := omega) only [vm0, vm1, vm2, vm3, vm4, vm5, vm6, vm7, vmF, vmT, evo, wr, wrC, frame, Nat.reduceAdd, Nat.reduceMul, Nat.reduceSub, beq_self_eq_true, List.cons_append, List.nil_append, beq_dec, vc12, hv.lenV, hw.lenV]
    refine x_loop (fun k F s' => ∃ i : Nat, ∃ z x4 x5, k = l.length - i ∧ i ≤ l.length ∧ z = (i : Int) ∧ F = [some v, some w, some (num z), some (.bool false), x4, x5, some (.bool false)] ∧ s' = s ∧ l.take i = m.take i) l.length (by omega) ?_ ?_
    · exact ⟨0, _, _, _, by omega, by omega, rfl, rfl, rfl, by simp⟩
    · rintro k F s1 ⟨i, _, x4, x5, rfl, hi, rfl, rfl, rfl, ht⟩ hm
      by_cases hlt : i < l.length
      · obtain ⟨x, hx⟩ : ∃ x, l[i]? = some x := ⟨_, List.getElem?_eq_getElem hlt⟩
        obtain ⟨y, hy⟩ : ∃ y, m[i]? = some y := ⟨_, List.getElem?_eq_getElem (by omega)⟩
        have e1 := hv.ia hx
        have e2 := hv.at1 (f := byt) hx
        have e3 := hw.ia hy
        have e4 := hw.at1 (f := byt) hy
        have ht' : l.take (i + 1) = l.take i ++ [x] := by rw [List.take_add_one, hx]; rfl
        have ht2 : m.take (i + 1) = m.take i ++ [y] := by rw [List.take_add_one, hy]; rfl
        by_cases hxy : x = y
        · subst hxy
          simp (disch := omega) only [vm0, vm1, vm2, vm3, vm4, vm5, vm6, vm7, vmF, vmT, evo, wr, wrC, frame, Nat.reduceAdd, Nat.reduceMul, Nat.reduceSub, beq_self_eq_true, List.cons_append, List.nil_append, beq_dec, hv.lenV, e1, e2, e3, e4, decide_true, decide_true, wr64]
          exact ⟨l.length - (i + 1), by omega, i + 1, _, _, _, rfl, by omega, by omega, rfl, rfl, by rw [ht', ht2, ht]⟩
        · simp (disch := omega) only [vm0, vm1, vm2, vm3, vm4, vm5, vm6, vm7, vmF, vmT, evo, wr, wrC, frame, Nat.reduceAdd, Nat.reduceMul, Nat.reduceSub, beq_self_eq_true, List.cons_append, List.nil_append, beq_dec, hv.lenV, e1, e2, e3, e4, decide_true, decide_true, decide_eq_false hxy, Bool.not_false, wr64]
          refine ⟨?_, rfl⟩
          rw [decide_eq_false]; rfl
          rintro rfl
          rw [hx] at hy; cases hy; exact hxy rfl
      · simp (disch := omega) only [vm0, vm1, vm2, vm3, vm4, vm5, vm6, vm7, vmF, vmT, evo, wr, wrC, frame, Nat.reduceAdd, Nat.reduceMul, Nat.reduceSub, beq_self_eq_true, List.cons_append, List.nil_append, beq_dec, hv.lenV]
        refine ⟨?_, rfl⟩
        rw [decide_eq_true]; rfl
        rw [List.take_of_length_le (by omega), List.take_of_length_le (by omega)] at ht
        exact ht
  · simp (disch := omega) only [vm0, vm1, vm2, vm3, vm4, vm5, vm6, vm7, vmF, vmT, evo, wr, wrC, frame, Nat.reduceAdd, Nat.reduceMul, Nat.reduceSub, beq_self_eq_true, List.cons_append, List.nil_append, beq_dec, vc12, hv.lenV, hw.lenV]
    refine ⟨?_, rfl⟩
    rw [decide_eq_false]; rfl
    rintro rfl; exact hl rfl
end
end Go.Proofs.Ytgckbcljlkkceaa.ctr
namespace Go.Proofs.Ytgckbcljlkkceaa.ctr
open Go Go.Vm Go.RowKit
set_option linter.unusedVariables false
set_option linter.constructorNameAsVariable false
set_option linter.unusedSimpArgs false
/-! ## steps with digits -/
theorem b_shr {bd : Bd} {k k' : IntKind} {a b : Int} (h : 0 ≤ b) : binop bd .shr (.int k (.c a)) (.int k' (.c b)) = some (.int k (.c (a.fdiv (2 ^ (min b.toNat k.bits))))) := by
  have e : arith .shr k (.c a) (.c b) = some (.c (a.fdiv (2 ^ (min b.toNat k.bits)))) := by
    show ob (cnd (decide (b < 0)) none (some (a.fdiv (2 ^ (min b.toNat k.bits))))) (fun n => some (AI.c n)) = _
    rw [dec_f (by omega)]; rfl
  show cnd (Nat.beq (ik k) (ik k')) (ob (orA (arith .shr k (.c a) (.c b)) _) fun n => some (AV.int k n)) (ob (orA (arith .shr k (.c a) (.c b)) _) fun n => some (AV.int k n)) = _
  rw [e]; cases Nat.beq (ik k) (ik k') <;> rfl
theorem b_shl {bd : Bd} {k k' : IntKind} {a b : Int} (h : 0 ≤ b) : binop bd .shl (.int k (.c a)) (.int k' (.c b)) = some (.int k (.c (k.wrap (a * 2 ^ (min b.toNat k.bits))))) := by
  have e : arith .shl k (.c a) (.c b) = some (.c (k.wrap (a * 2 ^ (min b.toNat k.bits)))) := by
    show ob (cnd (decide (b < 0)) none (some (k.wrap (a * 2 ^ (min b.toNat k.bits))))) (fun n => some (AI.c n)) = _
    rw [dec_f (by omega)]; rfl
  show cnd (Nat.beq (ik k) (ik k')) (ob (orA (arith .shl k (.c a) (.c b)) _) fun n => some (AV.int k n)) (ob (orA (arith .shl k (.c a) (.c b)) _) fun n => some (AV.int k n)) = _
  rw [e]; cases Nat.beq (ik k) (ik k') <;> rfl
theorem b_or {bd : Bd} {k : IntKind} {a b : Int} : binop bd .or (.int k (.c a)) (.int k (.c b)) = some (.int k (.c (k.wrap (BitVec.ofInt k.bits a ||| BitVec.ofInt k.bits b).toNat))) := by
  show cnd (Nat.beq (ik k) (ik k)) (some (AV.int k (.c (k.wrap (BitVec.ofInt k.bits a ||| BitVec.ofInt k.bits b).toNat)))) none = _
  rw [ikk]; rfl
theorem b_and {bd : Bd} {k : IntKind} {a b : Int} : binop bd .and (.int k (.c a)) (.int k (.c b)) = some (.int k (.c (k.wrap (BitVec.ofInt k.bits a &&& BitVec.ofInt k.bits b).toNat))) := by
  show cnd (Nat.beq (ik k) (ik k)) (some (AV.int k (.c (k.wrap (BitVec.ofInt k.bits a &&& BitVec.ofInt k.bits b).toNat)))) none = _
  rw [ikk]; rfl
theorem or_nat {a b i : Nat} (h : b < 2 ^ i) : a * 2 ^ i ||| b = a * 2 ^ i + b := by
  rw [← Nat.shiftLeft_eq, ← Nat.shiftLeft_add_eq_or_of_lt h]
theorem or_bv {w : Nat} {a b : Nat} (ha : a < 2 ^ w) (hb : b < 2 ^ w) : (BitVec.ofInt w (a : Int) ||| BitVec.ofInt w (b : Int)).toNat = a ||| b := by
  rw [BitVec.ofInt_natCast, BitVec.ofInt_natCast, BitVec.toNat_or, BitVec.toNat_ofNat, BitVec.toNat_ofNat, Nat.mod_eq_of_lt ha, Nat.mod_eq_of_lt hb]
/-- a byte behind a number -/
theorem or64 {bd : Bd} {n c : Int} (h0 : 0 ≤ n) (h1 : n < 18014398509481984) (h2 : 0 ≤ c ∧ c < 256) : binop bd .or (.int .i64 (.c (n * 256))) (.int .i64 (.c c)) = some (.int .i64 (.c (n * 256 + c))) := by
  obtain ⟨a, rfl⟩ : ∃ a : Nat, n = (a : Int) := ⟨n.toNat, by omega⟩
  obtain ⟨b, rfl⟩ : ∃ b : Nat, c = (b : Int) := ⟨c.toNat, by omega⟩
  rw [b_or]
  have e : ((BitVec.ofInt IntKind.i64.bits ((a : Int) * 256) ||| BitVec.ofInt IntKind.i64.bits (b : Int)).toNat : Int) = (a : Int) * 256 + b := by
    rw [show ((a : Int) * 256) = ((a * 2 ^ 8 : Nat) : Int) by omega, or_bv (w := IntKind.i64.bits) (by show a * 2 ^ 8 < 2 ^ 64; omega) (by show b < 2 ^ 64; omega), or_nat (by omega)]
    omega
  rw [e, wr64 (by omega) (by omega)]
theorem or8 {bd : Bd} {a m : Int} (h0 : 0 ≤ a ∧ a < 64) (hm : 0 ≤ m ∧ m < 4) : binop bd .or (.int .u8 (.c a)) (.int .u8 (.c (m * 64))) = some (.int .u8 (.c (m * 64 + a))) := by
  obtain ⟨a, rfl⟩ : ∃ b : Nat, a = (b : Int) := ⟨a.toNat, by omega⟩
  obtain ⟨b, rfl⟩ : ∃ b : Nat, m = (b : Int) := ⟨m.toNat, by omega⟩
  rw [b_or]
  have e : ((BitVec.ofInt IntKind.u8.bits (a : Int) ||| BitVec.ofInt IntKind.u8.bits ((b : Int) * 64)).toNat : Int) = (b : Int) * 64 + a := by
    rw [show ((b : Int) * 64) = ((b * 2 ^ 6 : Nat) : Int) by omega, or_bv (w := IntKind.u8.bits) (by show a < 2 ^ 8; omega) (by show b * 2 ^ 6 < 2 ^ 8; omega), Nat.or_comm, or_nat (by omega)]
    omega
  rw [e, wr8 (by omega) (by omega)]
theorem and8 {bd : Bd} {a : Int} (h0 : 0 ≤ a ∧ a < 256) : binop bd .and (.int .u8 (.c a)) (.int .u8 (.c 63)) = some (.int .u8 (.c (a % 64))) := by
  obtain ⟨a, rfl⟩ : ∃ b : Nat, a = (b : Int) := ⟨a.toNat, by omega⟩
  rw [b_and]
  have e : ((BitVec.ofInt IntKind.u8.bits (a : Int) &&& BitVec.ofInt IntKind.u8.bits 63).toNat : Int) = (a : Int) % 64 := by
    rw [show (63 : Int) = ((63 : Nat) : Int) by rfl, BitVec.ofInt_natCast, BitVec.ofInt_natCast, BitVec.toNat_and, BitVec.toNat_ofNat, BitVec.toNat_ofNat]
    show (((a % 256) &&& (63 % 256) : Nat) : Int) = _
    rw [Nat.mod_eq_of_lt (by omega), show 63 % 256 = 2 ^ 6 - 1 by rfl, Nat.and_two_pow_sub_one_eq_mod]
    omega
  rw [e, wr8 (by omega) (by omega)]
theorem cvi8 (x : Int) : IntKind.u8.wrap x = x % 256 := by rw [IntKind.wrap_u8]
noncomputable def cviV (bd : Bd) (k : IntKind) (v : AV) : Option AV := v.onInt (fun k' n => AI.casesOn n (fun n => some (.int k (.c (k.wrap n))))
  fun i d => ob (range bd k' (.s i d)) fun r => cnd (inK k r.1 r.2) (some (.int k (.s i d))) (cnd (decide (k = .u8)) (some (.int k (mkS .u8 (modT i) (d % 256)))) none)) none
theorem f_cvi {bd : Bd} {L F : LF} {k : IntKind} {x : Od} : fCvi bd L F k x = ob (ev L F x) fun v => cviV bd k v := rfl
theorem cvi_c {bd : Bd} {k k' : IntKind} {n : Int} : cviV bd k (.int k' (.c n)) = some (.int k (.c (k.wrap n))) := rfl
/-! ## numbers as bytes -/
def sizeV (n : Int) : Int := if n < 0 ∨ 4611686018427387903 < n then 0 else if n < 64 then 1 else if n < 16384 then 2 else if n < 1073741824 then 4 else 8
/-- a number's byte, from the last one -/
def byV (n : Int) (j : Nat) : Int := n / 2 ^ (8 * j) % 256
def tailB (n : Int) : Nat → List Int
  | 0 => []
  | k + 1 => byV n k :: tailB n k
def markQ (s : Int) : Int := if s = 2 then 1 else if s = 4 then 2 else if s = 8 then 3 else 0
def putV (n : Int) : List Int := match tailB n (sizeV n).toNat with
  | [] => []
  | c :: l => (markQ (sizeV n) * 64 + c) :: l
theorem tailB_len (n : Int) : ∀ k, (tailB n k).length = k
  | 0 => rfl
  | k + 1 => by rw [tailB, List.length_cons, tailB_len n k]
theorem tailB_get (n : Int) : ∀ {S k : Nat}, k < S → (tailB n S)[k]? = some (byV n (S - 1 - k))
  | 0, k, h => by omega
  | S + 1, 0, h => by rw [tailB]; simp
  | S + 1, k + 1, h => by
    rw [tailB, List.getElem?_cons_succ, tailB_get n (show k < S by omega)]
    congr 2; omega
theorem byV_bd (n : Int) (j : Nat) : 0 ≤ byV n j ∧ byV n j < 256 := by unfold byV; omega
theorem tailB_in (n : Int) : ∀ k, ∀ x ∈ tailB n k, In8 x
  | 0, x, h => by simp [tailB] at h
  | k + 1, x, h => by
    rw [tailB] at h
    rcases List.mem_cons.1 h with rfl | h
    · have := byV_bd n k; exact ⟨by omega, by omega⟩
    · exact tailB_in n k x h
theorem sizeV_in (n : Int) : sizeV n = 0 ∨ sizeV n = 1 ∨ sizeV n = 2 ∨ sizeV n = 4 ∨ sizeV n = 8 := by
  unfold sizeV
  by_cases h1 : n < 0 ∨ 4611686018427387903 < n
  · rw [if_pos h1]; exact .inl rfl
  · rw [if_neg h1]
    by_cases h2 : n < 64
    · rw [if_pos h2]; exact .inr (.inl rfl)
    · rw [if_neg h2]
      by_cases h3 : n < 16384
      · rw [if_pos h3]; exact .inr (.inr (.inl rfl))
      · rw [if_neg h3]
        by_cases h4 : n < 1073741824
        · rw [if_pos h4]; exact .inr (.inr (.inr (.inl rfl)))
        · rw [if_neg h4]; exact .inr (.inr (.inr (.inr rfl)))
def foldV (n : Int) (l : List Int) : Int := l.foldl (fun n c => n * 256 + c) n
def szB (b : Int) : Int := 2 ^ (b / 64).toNat
def takeV : List Int → Int × Int × Bool
  | [] => (0, 0, false)
  | b :: r => if (r.length : Int) + 1 < szB b then (0, 0, false) else
    if sizeV (foldV (b % 64) (r.take (szB b - 1).toNat)) = szB b then (foldV (b % 64) (r.take (szB b - 1).toNat), szB b, true) else (0, 0, false)
theorem szB_in {b : Int} (h : 0 ≤ b ∧ b < 256) : (b / 64 = 0 ∧ szB b = 1) ∨ (b / 64 = 1 ∧ szB b = 2) ∨ (b / 64 = 2 ∧ szB b = 4) ∨ (b / 64 = 3 ∧ szB b = 8) := by
  obtain h | h | h | h : b / 64 = 0 ∨ b / 64 = 1 ∨ b / 64 = 2 ∨ b / 64 = 3 := by omega
  · exact .inl ⟨h, by unfold szB; rw [h]; rfl⟩
  · exact .inr (.inl ⟨h, by unfold szB; rw [h]; rfl⟩)
  · exact .inr (.inr (.inl ⟨h, by unfold szB; rw [h]; rfl⟩))
  · exact .inr (.inr (.inr ⟨h, by unfold szB; rw [h]; rfl⟩))
theorem foldV_bd : ∀ (l : List Int) (n B : Int), (∀ x ∈ l, In8 x) → 0 ≤ n → n < B → 0 ≤ foldV n l ∧ foldV n l < B * 256 ^ l.length
  | [], n, B, _, h0, h1 => by simp [foldV]; omega
  | c :: l, n, B, h8, h0, h1 => by
    have hc := h8 c (by simp)
    have := foldV_bd l (n * 256 + c) (B * 256) (fun x hx => h8 x (by simp [hx])) (by have := hc.1; omega) (by have := hc.2; omega)
    have e : B * 256 ^ (c :: l).length = B * 256 * 256 ^ l.length := by rw [List.length_cons, Int.pow_succ, Int.mul_assoc, Int.mul_comm (256 ^ l.length) 256]
    rw [e]; exact this
/-- how a number stands, one size after the other -/
theorem putV_0 {n : Int} (h : sizeV n = 0) : putV n = [] := by unfold putV; rw [h]; rfl
theorem putV_1 {n : Int} (h : sizeV n = 1) : putV n = [byV n 0] := by unfold putV; rw [h]; simp [tailB, markQ]
theorem putV_2 {n : Int} (h : sizeV n = 2) : putV n = [64 + byV n 1, byV n 0] := by unfold putV; rw [h]; simp [tailB, markQ]
theorem putV_4 {n : Int} (h : sizeV n = 4) : putV n = [128 + byV n 3, byV n 2, byV n 1, byV n 0] := by unfold putV; rw [h]; simp [tailB, markQ]
theorem putV_8 {n : Int} (h : sizeV n = 8) : putV n = [192 + byV n 7, byV n 6, byV n 5, byV n 4, byV n 3, byV n 2, byV n 1, byV n 0] := by unfold putV; rw [h]; simp [tailB, markQ]
theorem putV_len (n : Int) : ((putV n).length : Int) = sizeV n := by
  rcases sizeV_in n with h | h | h | h | h
  · rw [putV_0 h, h]; rfl
  · rw [putV_1 h, h]; rfl
  · rw [putV_2 h, h]; rfl
  · rw [putV_4 h, h]; rfl
  · rw [putV_8 h, h]; rfl
theorem sizeV_rng {n : Int} : (sizeV n = 1 → 0 ≤ n ∧ n < 64) ∧ (sizeV n = 2 → 64 ≤ n ∧ n < 16384) ∧ (sizeV n = 4 → 16384 ≤ n ∧ n < 1073741824) ∧ (sizeV n = 8 → 1073741824 ≤ n ∧ n ≤ 4611686018427387903) := by
  unfold sizeV
  by_cases h1 : n < 0 ∨ 4611686018427387903 < n
  · rw [if_pos h1]; exact ⟨by omega, by omega, by omega, by omega⟩
  · rw [if_neg h1]
    by_cases h2 : n < 64
    · rw [if_pos h2]; exact ⟨by omega, by omega, by omega, by omega⟩
    · rw [if_neg h2]
      by_cases h3 : n < 16384
      · rw [if_pos h3]; exact ⟨by omega, by omega, by omega, by omega⟩
      · rw [if_neg h3]
        by_cases h4 : n < 1073741824
        · rw [if_pos h4]; exact ⟨by omega, by omega, by omega, by omega⟩
        · rw [if_neg h4]; exact ⟨by omega, by omega, by omega, by omega⟩
theorem putV_in (n : Int) : ∀ x ∈ putV n, In8 x := by
  obtain ⟨r1, r2, r3, r4⟩ := sizeV_rng (n := n)
  have hb := byV_bd n
  have f7 : sizeV n = 8 → byV n 7 < 64 := fun h => by have := r4 h; simp only [byV, Nat.reduceMul, Int.reducePow]; omega
  have f3 : sizeV n = 4 → byV n 3 < 64 := fun h => by have := r3 h; simp only [byV, Nat.reduceMul, Int.reducePow]; omega
  have f1 : sizeV n = 2 → byV n 1 < 64 := fun h => by have := r2 h; simp only [byV, Nat.reduceMul, Int.reducePow]; omega
  have b0 := hb 0; have b1 := hb 1; have b2 := hb 2; have b3 := hb 3; have b4 := hb 4; have b5 := hb 5; have b6 := hb 6; have b7 := hb 7
  intro x hx
  rcases sizeV_in n with h | h | h | h | h
  · rw [putV_0 h] at hx; simp at hx
  · rw [putV_1 h] at hx; simp at hx; subst hx; exact ⟨by omega, by omega⟩
  · rw [putV_2 h] at hx; have := f1 h; simp at hx; rcases hx with rfl | rfl <;> exact ⟨by omega, by omega⟩
  · rw [putV_4 h] at hx; have := f3 h; simp at hx; rcases hx with rfl | rfl | rfl | rfl <;> exact ⟨by omega, by omega⟩
  · rw [putV_8 h] at hx; have := f7 h; simp at hx; rcases hx with rfl | rfl | rfl | rfl | rfl | rfl | rfl | rfl <;> exact ⟨by omega, by omega⟩
/-- what stands so is what is put, where it has that size -/
theorem put_eq {b : Int} {r : List Int} (h8 : ∀ x ∈ b :: r, In8 x) (hl : ¬ (r.length : Int) + 1 < szB b) :
    (putV (foldV (b % 64) (r.take (szB b - 1).toNat)) = (b :: r).take (szB b).toNat) ↔ sizeV (foldV (b % 64) (r.take (szB b - 1).toNat)) = szB b := by
  have hb : 0 ≤ b ∧ b < 256 := by have := h8 b (by simp); exact ⟨this.1, by have := this.2; omega⟩
  have hlen : ((((b :: r).take (szB b).toNat).length : Nat) : Int) = szB b := by
    have : 0 ≤ szB b := by rcases szB_in hb with ⟨_, h⟩ | ⟨_, h⟩ | ⟨_, h⟩ | ⟨_, h⟩ <;> omega
    rw [List.length_take, List.length_cons]; omega
  constructor
  · intro h
    rw [← putV_len, h, hlen]
  · intro h
    rcases szB_in hb with ⟨hq, hs⟩ | ⟨hq, hs⟩ | ⟨hq, hs⟩ | ⟨hq, hs⟩
    · rw [hs] at h ⊢
      rw [putV_1 h]
      simp [foldV, byV] <;> omega
    · rw [hs] at h hl ⊢
      rw [putV_2 h]
      match r, h8, hl with
      | c1 :: r, h8, _ =>
        obtain ⟨k1, k1'⟩ := h8 c1 (by simp)
        simp [foldV, byV] <;> omega
      | [], _, hl => simp at hl
    · rw [hs] at h hl ⊢
      rw [putV_4 h]
      match r, h8, hl with
      | c1 :: c2 :: c3 :: r, h8, _ =>
        obtain ⟨k1, k1'⟩ := h8 c1 (by simp)
        obtain ⟨k2, k2'⟩ := h8 c2 (by simp)
        obtain ⟨k3, k3'⟩ := h8 c3 (by simp)
        simp [foldV, byV] <;> omega
      | [], _, hl => simp at hl
      | [_], _, hl => simp at hl
      | [_, _], _, hl => simp at hl
    · rw [hs] at h hl ⊢
      rw [putV_8 h]
      match r, h8, hl with
      | c1 :: c2 :: c3 :: c4 :: c5 :: c6 :: c7 :: r, h8, _ =>
        obtain ⟨k1, k1'⟩ := h8 c1 (by simp)
        obtain ⟨k2, k2'⟩ := h8 c2 (by simp)
        obtain ⟨k3, k3'⟩ := h8 c3 (by simp)
        obtain ⟨k4, k4'⟩ := h8 c4 (by simp)
        obtain ⟨k5, k5'⟩ := h8 c5 (by simp)
        obtain ⟨k6, k6'⟩ := h8 c6 (by simp)
        obtain ⟨k7, k7'⟩ := h8 c7 (by simp)
        simp [foldV, byV] <;> omega
      | [], _, hl => simp at hl
      | [_], _, hl => simp at hl
      | [_, _], _, hl => simp at hl
      | [_, _, _], _, hl => simp at hl
      | [_, _, _, _], _, hl => simp at hl
      | [_, _, _, _, _], _, hl => simp at hl
      | [_, _, _, _, _, _], _, hl => simp at hl
end Go.Proofs.Ytgckbcljlkkceaa.ctr
namespace Go.Proofs.Ytgckbcljlkkceaa.ctr
open Go Go.Vm Go.RowKit
set_option linter.unusedVariables false
set_option linter.constructorNameAsVariable false
set_option linter.unusedSimpArgs false
section
variable {bd : Bd} {fu : Nat}
theorem v_size (n : Nat) (s : St) (x : Int) : OutOk (callF bd tab.get fu (n + 1) 127 [num x] s) (fun y s' => Is y (num (sizeV x)) ∧ Is s' s) := by
  refine call_code t127 rfl ?_
  unfold sizeV
  by_cases h1 : x < 0
  · simp (disch := omega) only [vm0, vm1, vm2, vm3, vm4, vm5, vm6, vm7, vmF, vmT, evo, wr, wrC, frame, Nat.reduceAdd, Nat.reduceMul, Nat.reduceSub, beq_self_eq_true, List.cons_append, List.nil_append, beq_dec, vmI, vc127]
    exact ⟨by rw [if_pos (.inl h1)]; rfl, rfl⟩
  · by_cases h2 : 4611686018427387903 < x
    · simp (disch := omega) only [vm0, vm1, vm2, vm3, vm4, vm5, vm6, vm7, vmF, vmT, evo, wr, wrC, frame, Nat.reduceAdd, Nat.reduceMul, Nat.reduceSub, beq_self_eq_true, List.cons_append, List.nil_append, beq_dec, vmI, vc127]
      exact ⟨by rw [if_pos (.inr h2)]; rfl, rfl⟩
    · rw [if_neg (by omega)]
      by_cases h3 : x < 64
      · rw [if_pos h3]
        simp (disch := omega) only [vm0, vm1, vm2, vm3, vm4, vm5, vm6, vm7, vmF, vmT, evo, wr, wrC, frame, Nat.reduceAdd, Nat.reduceMul, Nat.reduceSub, beq_self_eq_true, List.cons_append, List.nil_append, beq_dec, vmI, vc127]
        exact ⟨rfl, rfl⟩
      · rw [if_neg h3]
        by_cases h4 : x < 16384
        · rw [if_pos h4]
          simp (disch := omega) only [vm0, vm1, vm2, vm3, vm4, vm5, vm6, vm7, vmF, vmT, evo, wr, wrC, frame, Nat.reduceAdd, Nat.reduceMul, Nat.reduceSub, beq_self_eq_true, List.cons_append, List.nil_append, beq_dec, vmI, vc127]
          exact ⟨rfl, rfl⟩
        · rw [if_neg h4]
          by_cases h5 : x < 1073741824
          · rw [if_pos h5]
            simp (disch := omega) only [vm0, vm1, vm2, vm3, vm4, vm5, vm6, vm7, vmF, vmT, evo, wr, wrC, frame, Nat.reduceAdd, Nat.reduceMul, Nat.reduceSub, beq_self_eq_true, List.cons_append, List.nil_append, beq_dec, vmI, vc127]
            exact ⟨rfl, rfl⟩
          · rw [if_neg h5]
            simp (disch := omega) only [vm0, vm1, vm2, vm3, vm4, vm5, vm6, vm7, vmF, vmT, evo, wr, wrC, frame, Nat.reduceAdd, Nat.reduceMul, Nat.reduceSub, beq_self_eq_true, List.cons_append, List.nil_append, beq_dec, vmI, vc127]
            exact ⟨rfl, rfl⟩
theorem w_size (n : Nat) (s : St) (x : Int) : OutOk (callF bd tab.get fu (n + 1) 109 [num x] s) (fun y s' => Is y (num (sizeV x)) ∧ Is s' s) := by
  refine call_code t109 rfl ?_
  unfold sizeV
  by_cases h1 : x < 0
  · simp (disch := omega) only [vm0, vm1, vm2, vm3, vm4, vm5, vm6, vm7, vmF, vmT, evo, wr, wrC, frame, Nat.reduceAdd, Nat.reduceMul, Nat.reduceSub, beq_self_eq_true, List.cons_append, List.nil_append, beq_dec, vmI, vc109]
    exact ⟨by rw [if_pos (.inl h1)]; rfl, rfl⟩
  · by_cases h2 : 4611686018427387903 < x
    · simp (disch := omega) only [vm0, vm1, vm2, vm3, vm4, vm5, vm6, vm7, vmF, vmT, evo, wr, wrC, frame, Nat.reduceAdd, Nat.reduceMul, Nat.reduceSub, beq_self_eq_true, List.cons_append, List.nil_append, beq_dec, vmI, vc109]
      exact ⟨by rw [if_pos (.inr h2)]; rfl, rfl⟩
    · rw [if_neg (by omega)]
      by_cases h3 : x < 64
      · rw [if_pos h3]
        simp (disch := omega) only [vm0, vm1, vm2, vm3, vm4, vm5, vm6, vm7, vmF, vmT, evo, wr, wrC, frame, Nat.reduceAdd, Nat.reduceMul, Nat.reduceSub, beq_self_eq_true, List.cons_append, List.nil_append, beq_dec, vmI, vc109]
        exact ⟨rfl, rfl⟩
      · rw [if_neg h3]
        by_cases h4 : x < 16384
        · rw [if_pos h4]
          simp (disch := omega) only [vm0, vm1, vm2, vm3, vm4, vm5, vm6, vm7, vmF, vmT, evo, wr, wrC, frame, Nat.reduceAdd, Nat.reduceMul, Nat.reduceSub, beq_self_eq_true, List.cons_append, List.nil_append, beq_dec, vmI, vc109]
          exact ⟨rfl, rfl⟩
        · rw [if_neg h4]
          by_cases h5 : x < 1073741824
          · rw [if_pos h5]
            simp (disch := omega) only [vm0, vm1, vm2, vm3, vm4, vm5, vm6, vm7, vmF, vmT, evo, wr, wrC, frame, Nat.reduceAdd, Nat.reduceMul, Nat.reduceSub, beq_self_eq_true, List.cons_append, List.nil_append, beq_dec, vmI, vc109]
            exact ⟨rfl, rfl⟩
          · rw [if_neg h5]
            simp (disch := omega) only [vm0, vm1, vm2, vm3, vm4, vm5, vm6, vm7, vmF, vmT, evo, wr, wrC, frame, Nat.reduceAdd, Nat.reduceMul, Nat.reduceSub, beq_self_eq_true, List.cons_append, List.nil_append, beq_dec, vmI, vc109]
            exact ⟨rfl, rfl⟩
theorem v_mark (n : Nat) (s : St) (x : Int) (hx : x = 0 ∨ x = 1 ∨ x = 2 ∨ x = 4 ∨ x = 8) : OutOk (callF bd tab.get fu (n + 1) 128 [num x] s) (fun y s' => Is y (byt (markQ x * 64)) ∧ Is s' s) := by
  refine call_code t128 rfl ?_
  rcases hx with rfl | rfl | rfl | rfl | rfl
  · simp (disch := omega) only [vm0, vm1, vm2, vm3, vm4, vm5, vm6, vm7, vmF, vmT, evo, wr, wrC, frame, Nat.reduceAdd, Nat.reduceMul, Nat.reduceSub, beq_self_eq_true, List.cons_append, List.nil_append, beq_dec, vmI, vc128]
    exact ⟨rfl, rfl⟩
  · simp (disch := omega) only [vm0, vm1, vm2, vm3, vm4, vm5, vm6, vm7, vmF, vmT, evo, wr, wrC, frame, Nat.reduceAdd, Nat.reduceMul, Nat.reduceSub, beq_self_eq_true, List.cons_append, List.nil_append, beq_dec, vmI, vc128]
    exact ⟨rfl, rfl⟩
  · simp (disch := omega) only [vm0, vm1, vm2, vm3, vm4, vm5, vm6, vm7, vmF, vmT, evo, wr, wrC, frame, Nat.reduceAdd, Nat.reduceMul, Nat.reduceSub, beq_self_eq_true, List.cons_append, List.nil_append, beq_dec, vmI, vc128]
    exact ⟨rfl, rfl⟩
  · simp (disch := omega) only [vm0, vm1, vm2, vm3, vm4, vm5, vm6, vm7, vmF, vmT, evo, wr, wrC, frame, Nat.reduceAdd, Nat.reduceMul, Nat.reduceSub, beq_self_eq_true, List.cons_append, List.nil_append, beq_dec, vmI, vc128]
    exact ⟨rfl, rfl⟩
  · simp (disch := omega) only [vm0, vm1, vm2, vm3, vm4, vm5, vm6, vm7, vmF, vmT, evo, wr, wrC, frame, Nat.reduceAdd, Nat.reduceMul, Nat.reduceSub, beq_self_eq_true, List.cons_append, List.nil_append, beq_dec, vmI, vc128]
    exact ⟨rfl, rfl⟩
theorem shr_byte {bd : Bd} {k' : IntKind} {x b : Int} {j : Nat} (hx : 0 ≤ x) (hj : j < 8) (hb : b = 8 * (j : Int)) : binop bd .shr (.int .i64 (.c x)) (.int k' (.c b)) = some (.int .i64 (.c (x / 2 ^ (8 * j)))) := by
  rw [b_shr (by omega), show min b.toNat IntKind.i64.bits = 8 * j by rw [show IntKind.i64.bits = 64 from rfl]; omega, Int.fdiv_eq_ediv_of_nonneg _ (Int.le_of_lt (Int.pow_pos (by omega)))]
theorem v_put (n : Nat) (s : St) (x : Int) (hx : In64 x) (hfu : 10 < fu) : OutOk (callF bd tab.get fu (n + 2) 107 [num x] s) (fun y s' => ∃ fp, OwE s' y 1 encB (putV x) fp ∧ Fr s s' [] ∧ Nw s [] fp) := by
  refine call_code t107 rfl ?_
  simp (disch := omega) only [vm0, vm1, vm2, vm3, vm4, vm5, vm6, vm7, vmF, vmT, evo, wr, wrC, frame, Nat.reduceAdd, Nat.reduceMul, Nat.reduceSub, beq_self_eq_true, List.cons_append, List.nil_append, beq_dec, vmI, vc107]
  refine call_ok rfl rfl (v_size n s x) ?_
  rintro y s ⟨rfl, rfl⟩
  obtain ⟨K, hK⟩ : ∃ K : Nat, sizeV x = (K : Int) := ⟨(sizeV x).toNat, by rcases sizeV_in x with h | h | h | h | h <;> omega⟩
  have hK8 : K = 0 ∨ K = 1 ∨ K = 2 ∨ K = 4 ∨ K = 8 := by rcases sizeV_in x with h | h | h | h | h <;> omega
  have hx0 : 0 < K → 0 ≤ x := fun hk => by obtain ⟨r1, r2, r3, r4⟩ := sizeV_rng (n := x); omega
  rw [hK]
  simp (disch := omega) only [vm0, vm1, vm2, vm3, vm4, vm5, vm6, vm7, vmF, vmT, evo, wr, wrC, frame, Nat.reduceAdd, Nat.reduceMul, Nat.reduceSub, beq_self_eq_true, List.cons_append, List.nil_append, beq_dec, vmI]
  refine x_loop (fun m F s' => ∃ out fo x4, m ≤ K ∧ F = [some (num x), some (num (K : Int)), some (num ((m : Int) - 1)), some out, x4, none, some .nils] ∧ OwE s' out 1 encB ((tailB x K).take (K - m)) fo ∧ Fr s s' [] ∧ Nw s [] fo) K (by omega) ?_ ?_
  · exact ⟨.nils, [], _, by omega, rfl, by simpa using OwE.nil encB_w (by omega), .refl, by simp [Nw]⟩
  · rintro m F s1 ⟨out, fo, x4, hm, rfl, ho, hf, hn⟩ _
    by_cases h0 : 0 < m
    · have hb := byV_bd x (m - 1)
      have hsh := shr_byte (bd := bd) (k' := .i64) (x := x) (b := 8 * ((m : Int) - 1)) (j := m - 1) (hx0 (by omega)) (by omega) (by omega)
      have hbv : x / 2 ^ (8 * (m - 1)) % 256 = byV x (m - 1) := rfl
      simp (disch := omega) only [vm0, vm1, vm2, vm3, vm4, vm5, vm6, vm7, vmF, vmT, evo, wr, wrC, frame, Nat.reduceAdd, Nat.reduceMul, Nat.reduceSub, beq_self_eq_true, List.cons_append, List.nil_append, beq_dec, vmI, hsh, f_cvi, cvi_c, cvi8, hbv]
      refine op_app1 ho (by (repeat' (first | exact Fr.refl | assumption | apply Fr.new' | apply Fr.mk' | apply Fr.put')) <;> (first | omega | (left; simp; done) | (right; simp only [next_put, next_new, next_mk]; omega) | (simp only [next_put, next_new, next_mk]; omega))) (x := byV x (m - 1)) rfl (by rw [List.length_take, tailB_len]; omega) ?_
      intro v' s2 fo' q1 q2 q3
      simp (disch := omega) only [vm0, vm1, vm2, vm3, vm4, vm5, vm6, vm7, vmF, vmT, evo, wr, wrC, frame, Nat.reduceAdd, Nat.reduceMul, Nat.reduceSub, beq_self_eq_true, List.cons_append, List.nil_append, beq_dec, vmI]
      refine ⟨m - 1, by omega, v', fo', _, by omega, by rw [show ((m - 1 : Nat) : Int) - 1 = (m : Int) - 1 - 1 by omega], ?_, (hf.nn q2 hn), hn.nn q3 hf.1⟩
      have hg := tailB_get x (S := K) (k := K - m) (by omega)
      rw [show K - 1 - (K - m) = m - 1 by omega] at hg
      rw [show K - (m - 1) = K - m + 1 by omega, List.take_add_one, hg]
      exact q1
    · obtain rfl : m = 0 := by omega
      rw [Nat.sub_zero, List.take_of_length_le (by rw [tailB_len]; exact Nat.le_refl _)] at ho
      by_cases hK0 : K = 0
      · subst hK0
        simp (disch := omega) only [vm0, vm1, vm2, vm3, vm4, vm5, vm6, vm7, vmF, vmT, evo, wr, wrC, frame, Nat.reduceAdd, Nat.reduceMul, Nat.reduceSub, beq_self_eq_true, List.cons_append, List.nil_append, beq_dec, vmI]
        refine ⟨fo, ?_, hf, hn⟩
        rw [putV_0 (by omega)]
        exact ho
      · obtain ⟨J, rfl⟩ : ∃ J, K = J + 1 := ⟨K - 1, by omega⟩
        have hpv : putV x = (markQ (sizeV x) * 64 + byV x J) :: tailB x J := by unfold putV; rw [hK, Int.toNat_natCast]; rfl
        have hq : markQ ((J + 1 : Nat) : Int) = markQ (sizeV x) := by rw [hK]
        have hb : byV x J < 64 := by
          obtain ⟨r1, r2, r3, r4⟩ := sizeV_rng (n := x)
          have hx1 := hx0 (by omega)
          obtain h | h | h | h : J = 0 ∨ J = 1 ∨ J = 3 ∨ J = 7 := by omega
          · subst h; have := r1 (by omega); simp only [byV, Nat.reduceMul, Int.reducePow]; omega
          · subst h; have := r2 (by omega); simp only [byV, Nat.reduceMul, Int.reducePow]; omega
          · subst h; have := r3 (by omega); simp only [byV, Nat.reduceMul, Int.reducePow]; omega
          · subst h; have := r4 (by omega); simp only [byV, Nat.reduceMul, Int.reducePow]; omega
        have hb0 := (byV_bd x J).1
        have hm4 : 0 ≤ markQ (sizeV x) ∧ markQ (sizeV x) < 4 := by
          rcases sizeV_in x with h | h | h | h | h <;> rw [h] <;> decide
        have hor := or8 (bd := bd) ⟨hb0, hb⟩ hm4
        rw [hpv]
        generalize markQ (sizeV x) = M at *
        rw [tailB] at ho
        generalize byV x J = c at *
        generalize tailB x J = l at *
        have hx0' : (c :: l)[0]? = some c := rfl
        have e1 := ho.rd.ia hx0'
        have e2 := ho.rd.at1 (f := byt) hx0'
        rw [Int.natCast_zero] at e1
        obtain ⟨s2, f2, w1, w2, w3, w4, w5⟩ := ho.set hx0' (j := 0) (y := byt (M * 64 + c)) (x' := M * 64 + c) (by omega) rfl
        rw [Nat.add_zero] at w1
        simp only [Nat.zero_mul, Nat.add_zero] at e1 e2 w1
        have hKp : (0 : Int) < ((J + 1 : Nat) : Int) := by omega
        simp (disch := omega) only [vm0, vm1, vm2, vm3, vm4, vm5, vm6, vm7, vmF, vmT, evo, wr, wrC, frame, Nat.reduceAdd, Nat.reduceMul, Nat.reduceSub, beq_self_eq_true, List.cons_append, List.nil_append, beq_dec, vmI, e1, e2]
        refine call_ok rfl rfl (v_mark n s1 ((J + 1 : Nat) : Int) (by omega)) ?_
        rintro y s3 ⟨rfl, rfl⟩
        rw [hq]
        simp only [byt] at w1
        simp (disch := omega) only [vm0, vm1, vm2, vm3, vm4, vm5, vm6, vm7, vmF, vmT, evo, frame, Nat.reduceAdd, Nat.reduceMul, Nat.reduceSub, beq_self_eq_true, List.cons_append, List.nil_append, beq_dec, hor, e1, e2, w1]
        exact ⟨f2, w2, hf.nn w3 hn, fun b hb => hn b (w5 b hb)⟩
theorem cvs_b {L F : LF} {s : St} {x : Od} {v : AV} {l : List Int} (h1 : ev L F x = some v) (hv : RdE s v 1 encB l) (h8 : ∀ x ∈ l, In8 x) : fCvs L F s x = some (.str (l.map .c)) := by
  have hb : ∀ l : List Int, (∀ x ∈ l, In8 x) → bytesOf (l.flatMap encB) = some (l.map .c) := by
    intro l
    induction l with
    | nil => intro _; rfl
    | cons c l ih =>
      intro h8
      have hc := h8 c (by simp)
      show cnd (decide (IntKind.u8 = .u8) && (decide (0 ≤ c) && decide (c ≤ 255))) (ob (bytesOf (l.flatMap encB)) fun l => some (AI.c c :: l)) none = _
      rw [ih fun x hx => h8 x (by simp [hx]), dec_t hc.1, dec_t hc.2]; rfl
  unfold fCvs
  rw [h1]
  have hs := hv.rd.sl
  have ha := hv.rd.all
  have hl := hv.rd.len
  cases v with
  | sl b o len lo ex z =>
    obtain ⟨rfl, _⟩ := hs
    have ha' : rd s b o (len * 1) = some (l.flatMap encB) := ha
    show ob (rd s b o len) (fun cs => ob (bytesOf cs) fun l => some (AV.str l)) = _
    rw [Nat.mul_one] at ha'
    rw [ha']
    show ob (bytesOf (l.flatMap encB)) _ = _
    rw [hb l h8]; rfl
  | nils =>
    have : l = [] := by
      have := flat_len encB_w l
      rw [hl] at this; simp [slen] at this
      exact List.eq_nil_of_length_eq_zero (by omega)
    subst this; rfl
  | emp =>
    have : l = [] := by
      have := flat_len encB_w l
      rw [hl] at this; simp [slen] at this
      exact List.eq_nil_of_length_eq_zero (by omega)
    subst this; rfl
  | _ => exact hs.elim
theorem eqE_s {bd : Bd} : ∀ {l m : List Int}, eqE bd .s (.str (l.map .c)) (.str (m.map .c)) = some (decide (l = m))
  | [], [] => rfl
  | [], _ :: _ => rfl
  | _ :: _, [] => rfl
  | x :: l, y :: m => by
    have ih := eqE_s (bd := bd) (l := l) (m := m)
    show ob (eqI bd .u8 (.c x) (.c y)) (fun b => cnd b (eqAIs bd (l.map .c) (m.map .c)) (some false)) = _
    have e : eqI bd .u8 (.c x) (.c y) = some (decide (x = y)) := rfl
    rw [e]
    by_cases hxy : x = y
    · subst hxy
      rw [dec_t rfl]
      show eqAIs bd (l.map .c) (m.map .c) = _
      have ih' : eqAIs bd (l.map .c) (m.map .c) = some (decide (l = m)) := ih
      rw [ih']; simp
    · rw [dec_f hxy]
      show some false = _
      rw [dec_f (fun h => hxy (by cases h; rfl))]
theorem v_equal (n : Nat) (s : St) (v w : AV) (l m : List Int) (hv : RdE s v 1 encB l) (hw : RdE s w 1 encB m) (h8 : ∀ x ∈ l, In8 x) (h9 : ∀ x ∈ m, In8 x) :
    OutOk (callF bd tab.get fu (n + 1) 65 [v, w] s) (fun y s' => Is y (.bool (decide (l = m))) ∧ Is s' s) := by
  refine call_code t65 rfl ?_
  simp (disch := omega) only [vm0, vm1, vm2, vm3, vm4, vm5, vm6, vm7, vmF, vmT, evo, wr, wrC, frame, Nat.reduceAdd, Nat.reduceMul, Nat.reduceSub, beq_self_eq_true, List.cons_append, List.nil_append, beq_dec, vmI, vc65]
  rw [cvs_b (x := .w 0) rfl hv h8]
  simp (disch := omega) only [vm0, vm1, vm2, vm3, vm4, vm5, vm6, vm7, vmF, vmT, evo, wr, wrC, frame, Nat.reduceAdd, Nat.reduceMul, Nat.reduceSub, beq_self_eq_true, List.cons_append, List.nil_append, beq_dec, vmI]
  rw [cvs_b (x := .w 1) rfl hw h9]
  simp (disch := omega) only [vm0, vm1, vm2, vm3, vm4, vm5, vm6, vm7, vmF, vmT, evo, wr, wrC, frame, Nat.reduceAdd, Nat.reduceMul, Nat.reduceSub, beq_self_eq_true, List.cons_append, List.nil_append, beq_dec, vmI, eqE_s]
  exact ⟨rfl, rfl⟩
end
end Go.Proofs.Ytgckbcljlkkceaa.ctr
namespace Go.Proofs.Ytgckbcljlkkceaa.ctr
open Go Go.Vm Go.RowKit
set_option linter.unusedVariables false
set_option linter.constructorNameAsVariable false
set_option linter.unusedSimpArgs false
theorem cvi_u64 (x : Int) (h : 0 ≤ x ∧ x ≤ 1000000) : IntKind.u64.wrap x = x := wrap_in (k := .u64) h.1 (by show x ≤ 18446744073709551615; omega)
section
variable {bd : Bd} {fu : Nat}
theorem w_put (n : Nat) (s : St) (x : Int) (hx : In64 x) (hfu : 10 < fu) : OutOk (callF bd tab.get fu (n + 2) 54 [num x] s) (fun y s' => ∃ fp, OwE s' y 1 encB (putV x) fp ∧ Fr s s' [] ∧ Nw s [] fp) := by
  refine call_code t54 rfl ?_
  simp (disch := omega) only [vm0, vm1, vm2, vm3, vm4, vm5, vm6, vm7, vmF, vmT, evo, wr, wrC, frame, Nat.reduceAdd, Nat.reduceMul, Nat.reduceSub, beq_self_eq_true, List.cons_append, List.nil_append, beq_dec, vmI, vc54]
  refine call_ok rfl rfl (w_size n s x) ?_
  rintro y s ⟨rfl, rfl⟩
  obtain ⟨K, hK⟩ : ∃ K : Nat, sizeV x = (K : Int) := ⟨(sizeV x).toNat, by rcases sizeV_in x with h | h | h | h | h <;> omega⟩
  have hK8 : K = 0 ∨ K = 1 ∨ K = 2 ∨ K = 4 ∨ K = 8 := by rcases sizeV_in x with h | h | h | h | h <;> omega
  have hx0 : 0 < K → 0 ≤ x := fun hk => by obtain ⟨r1, r2, r3, r4⟩ := sizeV_rng (n := x); omega
  rw [hK]
  simp (disch := omega) only [vm0, vm1, vm2, vm3, vm4, vm5, vm6, vm7, vmF, vmT, evo, wr, wrC, frame, Nat.reduceAdd, Nat.reduceMul, Nat.reduceSub, beq_self_eq_true, List.cons_append, List.nil_append, beq_dec, vmI]
  refine x_loop (fun m F s' => ∃ out fo x4, m ≤ K ∧ F = [some (num x), some (num (K : Int)), some (num ((m : Int) - 1)), some out, x4, none, some .nils] ∧ OwE s' out 1 encB ((tailB x K).take (K - m)) fo ∧ Fr s s' [] ∧ Nw s [] fo) K (by omega) ?_ ?_
  · exact ⟨.nils, [], _, by omega, rfl, by simpa using OwE.nil encB_w (by omega), .refl, by simp [Nw]⟩
  · rintro m F s1 ⟨out, fo, x4, hm, rfl, ho, hf, hn⟩ _
    by_cases h0 : 0 < m
    · have hb := byV_bd x (m - 1)
      have hsh := shr_byte (bd := bd) (k' := .u64) (x := x) (b := 8 * ((m : Int) - 1)) (j := m - 1) (hx0 (by omega)) (by omega) (by omega)
      have hbv : x / 2 ^ (8 * (m - 1)) % 256 = byV x (m - 1) := rfl
      simp (disch := omega) only [vm0, vm1, vm2, vm3, vm4, vm5, vm6, vm7, vmF, vmT, evo, wr, wrC, frame, Nat.reduceAdd, Nat.reduceMul, Nat.reduceSub, beq_self_eq_true, List.cons_append, List.nil_append, beq_dec, vmI, f_cvi, cvi_c, cvi_u64, hsh, cvi8, hbv]
      refine op_app1 ho (by (repeat' (first | exact Fr.refl | assumption | apply Fr.new' | apply Fr.mk' | apply Fr.put')) <;> (first | omega | (left; simp; done) | (right; simp only [next_put, next_new, next_mk]; omega) | (simp only [next_put, next_new, next_mk]; omega))) (x := byV x (m - 1)) rfl (by rw [List.length_take, tailB_len]; omega) ?_
      intro v' s2 fo' q1 q2 q3
      simp (disch := omega) only [vm0, vm1, vm2, vm3, vm4, vm5, vm6, vm7, vmF, vmT, evo, wr, wrC, frame, Nat.reduceAdd, Nat.reduceMul, Nat.reduceSub, beq_self_eq_true, List.cons_append, List.nil_append, beq_dec, vmI]
      refine ⟨m - 1, by omega, v', fo', _, by omega, by rw [show ((m - 1 : Nat) : Int) - 1 = (m : Int) - 1 - 1 by omega], ?_, (hf.nn q2 hn), hn.nn q3 hf.1⟩
      have hg := tailB_get x (S := K) (k := K - m) (by omega)
      rw [show K - 1 - (K - m) = m - 1 by omega] at hg
      rw [show K - (m - 1) = K - m + 1 by omega, List.take_add_one, hg]
      exact q1
    · obtain rfl : m = 0 := by omega
      rw [Nat.sub_zero, List.take_of_length_le (by rw [tailB_len]; exact Nat.le_refl _)] at ho
      by_cases hK0 : K = 0
      · subst hK0
        simp (disch := omega) only [vm0, vm1, vm2, vm3, vm4, vm5, vm6, vm7, vmF, vmT, evo, wr, wrC, frame, Nat.reduceAdd, Nat.reduceMul, Nat.reduceSub, beq_self_eq_true, List.cons_append, List.nil_append, beq_dec, vmI]
        refine ⟨fo, ?_, hf, hn⟩
        rw [putV_0 (by omega)]
        exact ho
      · obtain ⟨J, rfl⟩ : ∃ J, K = J + 1 := ⟨K - 1, by omega⟩
        have hpv : putV x = (markQ (sizeV x) * 64 + byV x J) :: tailB x J := by unfold putV; rw [hK, Int.toNat_natCast]; rfl
        have hq : markQ ((J + 1 : Nat) : Int) = markQ (sizeV x) := by rw [hK]
        have hb : byV x J < 64 := by
          obtain ⟨r1, r2, r3, r4⟩ := sizeV_rng (n := x)
          have hx1 := hx0 (by omega)
          obtain h | h | h | h : J = 0 ∨ J = 1 ∨ J = 3 ∨ J = 7 := by omega
          · subst h; have := r1 (by omega); simp only [byV, Nat.reduceMul, Int.reducePow]; omega
          · subst h; have := r2 (by omega); simp only [byV, Nat.reduceMul, Int.reducePow]; omega
          · subst h; have := r3 (by omega); simp only [byV, Nat.reduceMul, Int.reducePow]; omega
          · subst h; have := r4 (by omega); simp only [byV, Nat.reduceMul, Int.reducePow]; omega
        have hb0 := (byV_bd x J).1
        have hm4 : 0 ≤ markQ (sizeV x) ∧ markQ (sizeV x) < 4 := by
          rcases sizeV_in x with h | h | h | h | h <;> rw [h] <;> decide
        have hor := or8 (bd := bd) ⟨hb0, hb⟩ hm4
        rw [hpv]
        generalize markQ (sizeV x) = M at *
        rw [tailB] at ho
        generalize byV x J = c at *
        generalize tailB x J = l at *
        have hx0' : (c :: l)[0]? = some c := rfl
        have e1 := ho.rd.ia hx0'
        have e2 := ho.rd.at1 (f := byt) hx0'
        have eb := ho.rd.blk' hx0'
        rw [Int.natCast_zero] at e1
        have hfa : ∀ cs : List AV, Fr s1 (s1.new (.cells cs .own)) [] := fun _ => .new
        obtain ⟨s2, f2, w1, w2, w3, w4, w5⟩ := (ho.fr0 (hfa [num 0, num 0, num 1, num 0, num 2, num 0, num 0, num 0, num 3])).set hx0' (j := 0) (y := byt (M * 64 + c)) (x' := M * 64 + c) (by omega) rfl
        rw [Nat.add_zero] at w1
        simp only [Nat.zero_mul, Nat.add_zero] at e1 e2 w1
        have hsl : binop bd .shl (.int .i64 (.c M)) (.int .u64 (.c 6)) = some (.int .i64 (.c (M * 64))) := by
          rw [b_shl (by omega), show (2 : Int) ^ (min (6 : Int).toNat IntKind.i64.bits) = 64 from rfl, wr64 (by omega) (by omega)]
        have hmo : M * 64 % 256 = M * 64 := by omega
        have w1' : wr ((⟨s1.heap, s1.next + 1⟩ : St).put s1.next (some (.cells [.int .i64 (.c 0), .int .i64 (.c 0), .int .i64 (.c 1), .int .i64 (.c 0), .int .i64 (.c 2), .int .i64 (.c 0), .int .i64 (.c 0), .int .i64 (.c 0), .int .i64 (.c 3)] .own))) (sblk out) (soff out) [.int .u8 (.c (M * 64 + c))] = some s2 := w1
        have hfr2 : Fr s s2 [] := (hf.trans (hfa _) (fp2 := []) (by simp) (by simp)).nn w3 hn
        obtain rfl | rfl | rfl | rfl : J = 0 ∨ J = 1 ∨ J = 3 ∨ J = 7 := by omega
        · obtain rfl : M = 0 := by rw [← hq]; rfl
          have hia : iaV 1 (.sl s1.next 0 9 9 true 1) (some (num ((1 : Nat) : Int))) = some (.ptr s1.next 1) := rfl
          simp (disch := omega) only [vm0, vm1, vm2, vm3, vm4, vm5, vm6, vm7, vmF, vmT, evo, frame, Nat.reduceAdd, Nat.reduceMul, Nat.reduceSub, beq_self_eq_true, List.cons_append, List.nil_append, beq_dec, f_cvi, cvi_c, cvi8, hia, hsl, hmo, hor, e1, e2, w1']
          exact ⟨f2, w2, hfr2, fun b hb => hn b (w5 b hb)⟩
        · obtain rfl : M = 1 := by rw [← hq]; rfl
          have hia : iaV 1 (.sl s1.next 0 9 9 true 1) (some (num ((2 : Nat) : Int))) = some (.ptr s1.next 2) := rfl
          simp (disch := omega) only [vm0, vm1, vm2, vm3, vm4, vm5, vm6, vm7, vmF, vmT, evo, frame, Nat.reduceAdd, Nat.reduceMul, Nat.reduceSub, beq_self_eq_true, List.cons_append, List.nil_append, beq_dec, f_cvi, cvi_c, cvi8, hia, hsl, hmo, hor, e1, e2, w1']
          exact ⟨f2, w2, hfr2, fun b hb => hn b (w5 b hb)⟩
        · obtain rfl : M = 2 := by rw [← hq]; rfl
          have hia : iaV 1 (.sl s1.next 0 9 9 true 1) (some (num ((4 : Nat) : Int))) = some (.ptr s1.next 4) := rfl
          simp (disch := omega) only [vm0, vm1, vm2, vm3, vm4, vm5, vm6, vm7, vmF, vmT, evo, frame, Nat.reduceAdd, Nat.reduceMul, Nat.reduceSub, beq_self_eq_true, List.cons_append, List.nil_append, beq_dec, f_cvi, cvi_c, cvi8, hia, hsl, hmo, hor, e1, e2, w1']
          exact ⟨f2, w2, hfr2, fun b hb => hn b (w5 b hb)⟩
        · obtain rfl : M = 3 := by rw [← hq]; rfl
          have hia : iaV 1 (.sl s1.next 0 9 9 true 1) (some (num ((8 : Nat) : Int))) = some (.ptr s1.next 8) := rfl
          simp (disch := omega) only [vm0, vm1, vm2, vm3, vm4, vm5, vm6, vm7, vmF, vmT, evo, frame, Nat.reduceAdd, Nat.reduceMul, Nat.reduceSub, beq_self_eq_true, List.cons_append, List.nil_append, beq_dec, f_cvi, cvi_c, cvi8, hia, hsl, hmo, hor, e1, e2, w1']
          exact ⟨f2, w2, hfr2, fun b hb => hn b (w5 b hb)⟩
end
end Go.Proofs.Ytgckbcljlkkceaa.ctr
namespace Go.Proofs.Ytgckbcljlkkceaa.ctr
open Go Go.Vm Go.RowKit
set_option linter.unusedVariables false
set_option linter.constructorNameAsVariable false
set_option linter.unusedSimpArgs false
theorem foldV_take {n : Int} {l : List Int} {j : Nat} {c : Int} (h : l[j]? = some c) : foldV n (l.take (j + 1)) = foldV n (l.take j) * 256 + c := by
  unfold foldV
  rw [List.take_add_one, h, List.foldl_append]; rfl
theorem fold_in {b : Int} {l : List Int} {j : Nat} (h8 : ∀ x ∈ l, In8 x) (hj : j ≤ l.length) (hl : l.length ≤ 7) : 0 ≤ foldV (b % 64) (l.take j) ∧ foldV (b % 64) (l.take j) ≤ 4611686018427387903 ∧ (j < 7 → foldV (b % 64) (l.take j) < 18014398509481984) := by
  obtain ⟨h1, h2⟩ := foldV_bd (l.take j) (b % 64) 64 (fun x hx => h8 x (List.mem_of_mem_take hx)) (by omega) (by omega)
  rw [List.length_take, Nat.min_eq_left hj] at h2
  obtain h | h | h | h | h | h | h | h : j = 0 ∨ j = 1 ∨ j = 2 ∨ j = 3 ∨ j = 4 ∨ j = 5 ∨ j = 6 ∨ j = 7 := by omega
  all_goals
    subst h
    simp only [Int.reducePow] at h2
    refine ⟨h1, by omega, by omega⟩
theorem takeV_cons {b : Int} {r : List Int} : takeV (b :: r) = if (r.length : Int) + 1 < szB b then (0, 0, false) else if sizeV (foldV (b % 64) (r.take (szB b - 1).toNat)) = szB b then (foldV (b % 64) (r.take (szB b - 1).toNat), szB b, true) else (0, 0, false) := rfl
section
variable {bd : Bd} {fu : Nat}
theorem shl_1 {bd : Bd} {k : IntKind} {b : Int} (h : 0 ≤ b ∧ b < 256) : binop bd .shl (.int .i64 (.c 1)) (.int k (.c (b / 64))) = some (.int .i64 (.c (szB b))) := by
  rw [b_shl (by omega)]
  rcases szB_in h with ⟨h1, h2⟩ | ⟨h1, h2⟩ | ⟨h1, h2⟩ | ⟨h1, h2⟩ <;> rw [h1, h2] <;> rfl
theorem shl_8 {bd : Bd} {k : IntKind} {n : Int} (h0 : 0 ≤ n) (h1 : n < 18014398509481984) : binop bd .shl (.int .i64 (.c n)) (.int k (.c 8)) = some (.int .i64 (.c (n * 256))) := by
  rw [b_shl (by omega), show (2 : Int) ^ (min (8 : Int).toNat IntKind.i64.bits) = 256 from rfl, wr64 (by omega) (by omega)]
theorem shr_6 {bd : Bd} {k : IntKind} {b : Int} (h : 0 ≤ b) : binop bd .shr (.int .u8 (.c b)) (.int k (.c 6)) = some (.int .u8 (.c (b / 64))) := by
  rw [b_shr (by omega), show (2 : Int) ^ (min (6 : Int).toNat IntKind.u8.bits) = 64 from rfl, Int.fdiv_eq_ediv_of_nonneg _ (by omega)]
theorem v_take (n : Nat) (s : St) (v : AV) (l : List Int) (hv : RdE s v 1 encB l) (h8 : ∀ x ∈ l, In8 x) (hl : l.length < 4611686018427387904) (hfu : 10 < fu) :
    OutOk (callF bd tab.get fu (n + 3) 133 [v] s) (fun y s' => Is y (.tup [num (takeV l).1, num (takeV l).2.1, .bool (takeV l).2.2]) ∧ Fr s s' []) := by
  refine call_code t133 rfl ?_
  have e0 := hv.lenV
  cases l with
  | nil =>
    rw [List.length_nil] at e0
    simp (disch := omega) only [vm0, vm1, vm2, vm3, vm4, vm5, vm6, vm7, vmF, vmT, evo, wr, wrC, frame, Nat.reduceAdd, Nat.reduceMul, Nat.reduceSub, beq_self_eq_true, List.cons_append, List.nil_append, beq_dec, vmI, vc133, e0]
    exact ⟨rfl, .refl⟩
  | cons b r =>
    have hb : 0 ≤ b ∧ b < 256 := by have := h8 b (by simp); exact ⟨this.1, by have := this.2; omega⟩
    have hx0 : (b :: r)[0]? = some b := rfl
    have e1 := hv.ia hx0
    have e2 := hv.at1 (f := byt) hx0
    have eb := hv.blk' hx0
    rw [Int.natCast_zero] at e1
    simp only [Nat.zero_mul, Nat.add_zero] at e1 e2
    have hsz := szB_in hb
    have hs1 := shr_6 (bd := bd) (k := .u64) hb.1
    have hs2 := shl_1 (bd := bd) (k := .u8) hb
    have hs3 := and8 (bd := bd) hb
    rw [List.length_cons] at e0
    rw [takeV_cons]
    obtain ⟨S, hS⟩ : ∃ S, szB b = S := ⟨_, rfl⟩
    have hS8 : S = 1 ∨ S = 2 ∨ S = 4 ∨ S = 8 := by omega
    rw [hS] at hs2 ⊢
    by_cases hlt : (r.length : Int) + 1 < S
    · rw [if_pos hlt]
      simp (disch := omega) only [vm0, vm1, vm2, vm3, vm4, vm5, vm6, vm7, vmF, vmT, evo, wr, wrC, frame, Nat.reduceAdd, Nat.reduceMul, Nat.reduceSub, beq_self_eq_true, List.cons_append, List.nil_append, beq_dec, vmI, vc133, e0, e1, e2, hs1, hs2]
      exact ⟨rfl, .refl⟩
    · rw [if_neg hlt]
      obtain ⟨w, g1, kw⟩ := hv.sli' (a := 1) (b := S) (by omega) (by omega) (by simp only [List.length_cons]; omega)
      have hmid : ((b :: r).take S.toNat).drop (1 : Int).toNat = r.take (S - 1).toNat := by
        obtain ⟨T, hT⟩ : ∃ T, S.toNat = T + 1 := ⟨S.toNat - 1, by omega⟩
        rw [hT, List.take_succ_cons, show (1 : Int).toNat = 1 from rfl, List.drop_succ_cons, List.drop_zero, show (S - 1).toNat = T by omega]
      rw [hmid] at kw
      have e5 := kw.lenV
      have hml : (r.take (S - 1).toNat).length = (S - 1).toNat := by rw [List.length_take]; omega
      have hm8 : ∀ x ∈ r.take (S - 1).toNat, In8 x := fun x hx => h8 x (by simp [List.mem_of_mem_take hx])
      have hpe := put_eq h8 (by rw [hS]; exact hlt)
      rw [hS] at hpe
      generalize r.take (S - 1).toNat = M at *
      rw [hml] at e5
      have hcast : (((S - 1).toNat : Nat) : Int) = S - 1 := by omega
      rw [hcast] at e5
      simp (disch := omega) only [vm0, vm1, vm2, vm3, vm4, vm5, vm6, vm7, vmF, vmT, evo, wr, wrC, frame, Nat.reduceAdd, Nat.reduceMul, Nat.reduceSub, beq_self_eq_true, List.cons_append, List.nil_append, beq_dec, vmI, vc133, f_cvi, cvi_c, wr64, e0, e1, e2, e5, hs1, hs2, hs3, g1]
      have hlen7 : M.length ≤ 7 := by omega
      refine x_loop (fun m F s' => ∃ j : Nat, ∃ x7 x9, m = M.length - j ∧ j ≤ M.length ∧ F = [some v, some (num S), some (num (foldV (b % 64) (M.take j))), some (num (j : Int)), some (.bool false), some (.bool false), some (num (S - 1)), x7, some w, x9, none, some (.bool false)] ∧ s' = s) M.length (by omega) ?_ ?_
      · exact ⟨0, _, _, by omega, by omega, rfl, rfl⟩
      · rintro m F s1 ⟨j, x7, x9, rfl, hj, rfl, rfl⟩ _
        obtain ⟨f1, f2, f3⟩ := fold_in (b := b) hm8 hj hlen7
        by_cases hjl : j < M.length
        · obtain ⟨c, hc⟩ : ∃ c, M[j]? = some c := ⟨_, List.getElem?_eq_getElem hjl⟩
          have hc8 := hm8 c (List.mem_of_getElem? hc)
          have e6 := kw.ia hc
          have e7 := kw.at1 (f := byt) hc
          have f4 := f3 (by omega)
          have hft := foldV_take (n := b % 64) hc
          have hc1 := hc8.1
          have hc2 := hc8.2
          generalize foldV (b % 64) (M.take j) = N at *
          have hs4 := shl_8 (bd := bd) (k := .u64) f1 f4
          have hs5 := or64 (bd := bd) (c := c) f1 f4 ⟨hc1, by omega⟩
          simp (disch := omega) only [vm0, vm1, vm2, vm3, vm4, vm5, vm6, vm7, vmF, vmT, evo, wr, wrC, frame, Nat.reduceAdd, Nat.reduceMul, Nat.reduceSub, beq_self_eq_true, List.cons_append, List.nil_append, beq_dec, vmI, f_cvi, cvi_c, e6, e7, hs4, hs5, wr64]
          exact ⟨M.length - (j + 1), by omega, j + 1, _, _, rfl, by omega, by rw [hft]; rfl, rfl⟩
        · have htk : M.take j = M := List.take_of_length_le (by omega)
          rw [htk] at f1 f2 ⊢
          generalize foldV (b % 64) M = N at *
          obtain ⟨w2, g2, kw2⟩ := hv.sliH (b := S) (by omega) (by simp only [List.length_cons]; omega)
          simp (disch := omega) only [vm0, vm1, vm2, vm3, vm4, vm5, vm6, vm7, vmF, vmT, evo, wr, wrC, frame, Nat.reduceAdd, Nat.reduceMul, Nat.reduceSub, beq_self_eq_true, List.cons_append, List.nil_append, beq_dec, vmI]
          refine call_ok rfl rfl (v_put n s1 N ⟨by omega, by omega⟩ (by omega)) ?_
          rintro y s2 ⟨fp, q1, q2, q3⟩
          simp (disch := omega) only [vm0, vm1, vm2, vm3, vm4, vm5, vm6, vm7, vmF, vmT, evo, wr, wrC, frame, Nat.reduceAdd, Nat.reduceMul, Nat.reduceSub, beq_self_eq_true, List.cons_append, List.nil_append, beq_dec, vmI, g2]
          refine call_ok rfl rfl (v_equal (n + 1) s2 y w2 _ _ q1.rd (kw2.fr0 q2) (putV_in N) (fun x hx => h8 x (List.mem_of_mem_take hx))) ?_
          rintro z s3 ⟨rfl, rfl⟩
          by_cases hN : sizeV N = S
          · rw [if_pos hN, decide_eq_true (hpe.2 hN)]
            simp (disch := omega) only [vm0, vm1, vm2, vm3, vm4, vm5, vm6, vm7, vmF, vmT, evo, wr, wrC, frame, Nat.reduceAdd, Nat.reduceMul, Nat.reduceSub, beq_self_eq_true, List.cons_append, List.nil_append, beq_dec, vmI]
            exact ⟨rfl, q2⟩
          · rw [if_neg hN, decide_eq_false (fun h => hN (hpe.1 h))]
            simp (disch := omega) only [vm0, vm1, vm2, vm3, vm4, vm5, vm6, vm7, vmF, vmT, evo, wr, wrC, frame, Nat.reduceAdd, Nat.reduceMul, Nat.reduceSub, beq_self_eq_true, List.cons_append, List.nil_append, beq_dec, vmI]
            exact ⟨rfl, q2⟩
theorem w_take (n : Nat) (s : St) (v : AV) (l : List Int) (hv : RdE s v 1 encB l) (h8 : ∀ x ∈ l, In8 x) (hl : l.length < 4611686018427387904) (hfu : 10 < fu) :
    OutOk (callF bd tab.get fu (n + 2) 118 [v] s) (fun y s' => Is y (.tup [num (takeV l).1, num (takeV l).2.1, .bool (takeV l).2.2]) ∧ Is s' s) := by
  refine call_code t118 rfl ?_
  have e0 := hv.lenV
  cases l with
  | nil =>
    rw [List.length_nil] at e0
    simp (disch := omega) only [vm0, vm1, vm2, vm3, vm4, vm5, vm6, vm7, vmF, vmT, evo, wr, wrC, frame, Nat.reduceAdd, Nat.reduceMul, Nat.reduceSub, beq_self_eq_true, List.cons_append, List.nil_append, beq_dec, vmI, vc118, e0]
    exact ⟨rfl, rfl⟩
  | cons b r =>
    have hb : 0 ≤ b ∧ b < 256 := by have := h8 b (by simp); exact ⟨this.1, by have := this.2; omega⟩
    have hx0 : (b :: r)[0]? = some b := rfl
    have e1 := hv.ia hx0
    have e2 := hv.at1 (f := byt) hx0
    have eb := hv.blk' hx0
    rw [Int.natCast_zero] at e1
    simp only [Nat.zero_mul, Nat.add_zero] at e1 e2
    have hsz := szB_in hb
    have hs1 := shr_6 (bd := bd) (k := .u64) hb.1
    have hs2 := shl_1 (bd := bd) (k := .u64) hb
    have hs3 : binop bd .rem (.int .u8 (.c b)) (.int .u8 (.c 64)) = some (.int .u8 (.c (b % 64))) := by rw [b_rem (by decide), Int.tmod_eq_emod_of_nonneg hb.1]
    rw [List.length_cons] at e0
    rw [takeV_cons]
    obtain ⟨S, hS⟩ : ∃ S, szB b = S := ⟨_, rfl⟩
    have hS8 : S = 1 ∨ S = 2 ∨ S = 4 ∨ S = 8 := by omega
    rw [hS] at hs2 ⊢
    have hq : 0 ≤ b / 64 ∧ b / 64 ≤ 1000000 := by omega
    by_cases hlt : (r.length : Int) + 1 < S
    · rw [if_pos hlt]
      simp (disch := omega) only [vm0, vm1, vm2, vm3, vm4, vm5, vm6, vm7, vmF, vmT, evo, wr, wrC, frame, Nat.reduceAdd, Nat.reduceMul, Nat.reduceSub, beq_self_eq_true, List.cons_append, List.nil_append, beq_dec, vmI, vc118, f_cvi, cvi_c, cvi_u64, e0, e1, e2, hs1, hs2]
      exact ⟨rfl, rfl⟩
    · rw [if_neg hlt]
      have hml : (r.take (S - 1).toNat).length = (S - 1).toNat := by rw [List.length_take]; omega
      have hm8 : ∀ x ∈ r.take (S - 1).toNat, In8 x := fun x hx => h8 x (by simp [List.mem_of_mem_take hx])
      have hget : ∀ j, j < (S - 1).toNat → ∃ c, (b :: r)[j + 1]? = some c ∧ (r.take (S - 1).toNat)[j]? = some c := fun j hj => by
        obtain ⟨c, hc⟩ : ∃ c, r[j]? = some c := ⟨_, List.getElem?_eq_getElem (by omega)⟩
        exact ⟨c, by rw [List.getElem?_cons_succ]; exact hc, by rw [List.getElem?_take, if_pos hj]; exact hc⟩
      generalize r.take (S - 1).toNat = M at *
      simp (disch := omega) only [vm0, vm1, vm2, vm3, vm4, vm5, vm6, vm7, vmF, vmT, evo, wr, wrC, frame, Nat.reduceAdd, Nat.reduceMul, Nat.reduceSub, beq_self_eq_true, List.cons_append, List.nil_append, beq_dec, vmI, vc118, f_cvi, cvi_c, cvi_u64, wr64, e0, e1, e2, hs1, hs2, hs3]
      have hlen7 : M.length ≤ 7 := by omega
      refine x_loop (fun m F s' => ∃ j : Nat, ∃ x6, m = M.length - j ∧ j ≤ M.length ∧ F = [some v, some (num S), some (num ((j : Int) + 1)), some (num (foldV (b % 64) (M.take j))), some (.bool false), some (.bool false), x6, none, some (num 0), some (num 0), some (.bool false)] ∧ s' = s) M.length (by omega) ?_ ?_
      · exact ⟨0, _, by omega, by omega, rfl, rfl⟩
      · rintro m F s1 ⟨j, x6, rfl, hj, rfl, rfl⟩ _
        obtain ⟨f1, f2, f3⟩ := fold_in (b := b) hm8 hj hlen7
        by_cases hjl : j < M.length
        · obtain ⟨c, hc', hc⟩ := hget j (by omega)
          have hc8 := hm8 c (List.mem_of_getElem? hc)
          have e6 := hv.ia hc'
          have e7 := hv.at1 (f := byt) hc'
          rw [show ((j + 1 : Nat) : Int) = (j : Int) + 1 by omega] at e6
          have f4 := f3 (by omega)
          have hft := foldV_take (n := b % 64) hc
          have hc1 := hc8.1
          have hc2 := hc8.2
          generalize foldV (b % 64) (M.take j) = N at *
          have hs4 := shl_8 (bd := bd) (k := .u64) f1 f4
          have hs5 := or64 (bd := bd) (c := c) f1 f4 ⟨hc1, by omega⟩
          obtain ⟨z, hz⟩ : ∃ z, (j : Int) + 1 = z := ⟨_, rfl⟩
          rw [hz] at e6 ⊢
          simp (disch := omega) only [vm0, vm1, vm2, vm3, vm4, vm5, vm6, vm7, vmF, vmT, evo, wr, wrC, frame, Nat.reduceAdd, Nat.reduceMul, Nat.reduceSub, beq_self_eq_true, List.cons_append, List.nil_append, beq_dec, vmI, f_cvi, cvi_c, e6, e7, hs4, hs5, wr64]
          exact ⟨M.length - (j + 1), by omega, j + 1, _, rfl, by omega, by rw [hft, show ((j + 1 : Nat) : Int) + 1 = z + 1 by omega], rfl⟩
        · have htk : M.take j = M := List.take_of_length_le (by omega)
          rw [htk] at f1 f2 ⊢
          generalize foldV (b % 64) M = N at *
          simp (disch := omega) only [vm0, vm1, vm2, vm3, vm4, vm5, vm6, vm7, vmF, vmT, evo, wr, wrC, frame, Nat.reduceAdd, Nat.reduceMul, Nat.reduceSub, beq_self_eq_true, List.cons_append, List.nil_append, beq_dec, vmI]
          refine call_ok rfl rfl (w_size n s1 N) ?_
          rintro y s2 ⟨rfl, rfl⟩
          by_cases hN : sizeV N = S
          · rw [if_pos hN]
            simp (disch := omega) only [vm0, vm1, vm2, vm3, vm4, vm5, vm6, vm7, vmF, vmT, evo, wr, wrC, frame, Nat.reduceAdd, Nat.reduceMul, Nat.reduceSub, beq_self_eq_true, List.cons_append, List.nil_append, beq_dec, vmI]
            exact ⟨rfl, rfl⟩
          · rw [if_neg hN]
            simp (disch := omega) only [vm0, vm1, vm2, vm3, vm4, vm5, vm6, vm7, vmF, vmT, evo, wr, wrC, frame, Nat.reduceAdd, Nat.reduceMul, Nat.reduceSub, beq_self_eq_true, List.cons_append, List.nil_append, beq_dec, vmI]
            exact ⟨rfl, rfl⟩
end
end Go.Proofs.Ytgckbcljlkkceaa.ctr
namespace Go.Proofs.Ytgckbcljlkkceaa.ctr
open Go Go.Vm Go.RowKit
set_option linter.unusedVariables false
set_option linter.constructorNameAsVariable false
set_option linter.unusedSimpArgs false
/-! ## bytes, read field by field -/
structure RD where
  B : List Int
  a : Int
  bad : Bool
structure RD.Ok (r : RD) : Prop where
  a : 0 ≤ r.a ∧ r.a ≤ r.B.length
  i : ∀ x ∈ r.B, In8 x
  l : r.B.length ≤ 140737488351232
def IsRd (s : St) (p : Nat) (r : RD) (fp : List Nat) : Prop := ∃ v fv, s.heap.get p = some (.cells [v, num r.a, .bool r.bad] .own) ∧ OwE s v 1 encB r.B fv ∧ p ∉ fv ∧ fp = p :: fv ∧ p < s.next
theorem IsRd.fr {s s' : St} {p : Nat} {r : RD} {fp fp' : List Nat} (hF : IsRd s p r fp) (hf : Fr s s' fp') (hd : ∀ b ∈ fp, b ∉ fp') : IsRd s' p r fp := by
  obtain ⟨v, fv, h1, h2, h3, rfl, h5⟩ := hF
  exact ⟨v, fv, (hf.2 p h5 (hd p (by simp))).trans h1, h2.fr hf fun b hb => hd b (by simp [hb]), h3, rfl, Nat.lt_of_lt_of_le h5 hf.1⟩
theorem IsRd.lt {s : St} {p : Nat} {r : RD} {fp : List Nat} (hF : IsRd s p r fp) : Lt s fp := by
  obtain ⟨v, fv, h1, h2, h3, rfl, h5⟩ := hF
  intro b hb
  rcases List.mem_cons.1 hb with rfl | hb
  · exact h5
  · exact h2.lt b hb
def oR (p : Nat) (r : RD) : Obj := ⟨fun s fp => IsRd s p r fp, IsRd.fr, IsRd.lt⟩
/-- its place, and whether it is bad, are set -/
theorem IsRd.put {s s2 : St} {p : Nat} {v : AV} {fv : List Nat} {B : List Int} (h2 : OwE s v 1 encB B fv) (h3 : p ∉ fv) (h5 : p < s.next) (hf : Fr s s2 []) (a : Int) (b : Bool) :
    IsRd (s2.put p (some (.cells [v, num a, .bool b] .own))) p ⟨B, a, b⟩ (p :: fv) ∧ Fr s (s2.put p (some (.cells [v, num a, .bool b] .own))) (p :: fv) :=
  ⟨⟨v, fv, get_put_eq rfl, (h2.fr0 hf).fr (fp' := [p]) (.put (.inl (by simp))) (by rintro z hz hm; simp at hm; subst hm; exact h3 hz), h3, rfl, by rw [next_put]; exact Nat.lt_of_lt_of_le h5 hf.1⟩, .put' (.inl (by simp)) (hf.mono (by simp))⟩
def RD.take (r : RD) : Int × Int × Bool := takeV (r.B.drop r.a.toNat)
def RD.num (r : RD) : Int × RD := if r.bad = true ∨ r.take.2.2 = false then (0, { r with bad := true }) else (r.take.1, { r with a := r.a + r.take.2.1 })
def RD.bytes (r : RD) (most : Int) : List Int × RD :=
  if r.bad = true ∨ r.take.2.2 = false ∨ most < r.take.1 ∨ (r.B.length : Int) - r.a - r.take.2.1 < r.take.1 then ([], { r with bad := true })
  else ((r.B.take (r.a + r.take.2.1 + r.take.1).toNat).drop (r.a + r.take.2.1).toNat, { r with a := r.a + r.take.2.1 + r.take.1 })
def RD.byte (r : RD) : Int × RD := if r.bad = true ∨ r.a = r.B.length then (0, { r with bad := true }) else (r.B.getD r.a.toNat 0, { r with a := r.a + 1 })
theorem takeV_bd {l : List Int} (h8 : ∀ x ∈ l, In8 x) : 0 ≤ (takeV l).1 ∧ (takeV l).1 ≤ 4611686018427387903 ∧ 0 ≤ (takeV l).2.1 ∧ (takeV l).2.1 ≤ l.length := by
  cases l with
  | nil => simp [takeV]
  | cons b r =>
    have hb : 0 ≤ b ∧ b < 256 := by have := h8 b (by simp); exact ⟨this.1, by have := this.2; omega⟩
    rw [takeV_cons]
    have hs := szB_in hb
    by_cases hlt : (r.length : Int) + 1 < szB b
    · rw [if_pos hlt]; simp; omega
    · rw [if_neg hlt]
      split
      · have h2 : ∀ x ∈ r.take (szB b - 1).toNat, In8 x := fun x hx => h8 x (by simp [List.mem_of_mem_take hx])
        have hl : (r.take (szB b - 1).toNat).length ≤ 7 := by rw [List.length_take]; omega
        obtain ⟨f1, f2, _⟩ := fold_in (b := b) h2 (Nat.le_refl _) hl
        rw [List.take_length] at f1 f2
        exact ⟨f1, f2, by dsimp only; omega, by dsimp only; rw [List.length_cons]; omega⟩
      · simp; omega
theorem Sep.hdw {s0 s : St} {P : Obj} {Ps : List Obj} (h : Sep s0 s (P :: Ps)) : ∃ f, P.P s f ∧ ∀ (P' Q : Obj) {s' : St} {g : List Nat}, P'.P s' f → Q.P s' g → Fr s s' f → Nw s [] g → Sep s0 s' (Q :: P' :: Ps) := by
  obtain ⟨fp, ⟨f, g1, h1, h2, h3, rfl⟩, h4, h5⟩ := h
  refine ⟨f, h1, fun P' Q s' g k1 k2 k3 k4 => ?_⟩
  have hd : ∀ b ∈ g1, b ∉ f := fun b hb hm => h3 b hm hb
  refine ⟨g ++ (f ++ g1), ⟨g, f ++ g1, k2, ⟨f, g1, k1, h2.fr k3 hd, h3, rfl⟩, ?_, rfl⟩, ?_, h5.nn k3 fun b hb => h4 b (by simp [hb])⟩
  · intro b hb hm
    have hge : s.next ≤ b := by rcases k4 b hb with hh | hh; (· simp at hh); (· exact hh)
    rcases List.mem_append.1 hm with hm | hm
    · have := P.lt h1 b hm; omega
    · have := h2.lt b hm; omega
  · intro b hb
    rcases List.mem_append.1 hb with hb | hb
    · rcases k4 b hb with hh | hh
      · simp at hh
      · exact .inr (Nat.le_trans h5.1 hh)
    · exact h4 b (by simp only [List.mem_append] at *; exact hb)
section
variable {bd : Bd} {fu : Nat}
theorem cloneB (n : Nat) (s : St) (v : AV) (l : List Int) (hv : RdE s v 1 encB l) (hf : l.length ≤ 140737488351232) :
    OutOk (callF bd tab.get fu (n + 1) 112 [v] s) (fun x s' => ∃ fp, OwE s' x 1 encB l fp ∧ Fr s s' [] ∧ Nw s [] fp) :=
  (clone_lim t112 (by omega) n s v l hv (by rw [lim_1]; omega)).mono fun x s' ⟨fp, h1, h2, h3, _⟩ => ⟨fp, h1, h2, h3⟩
theorem r_new (n : Nat) {s0 : St} (s : St) (Ps : List Obj) (v : AV) (l : List Int) (hS : Sep s0 s Ps) (hv : RdE s v 1 encB l) (hf : l.length ≤ 140737488351232) :
    OutOk (callF bd tab.get fu (n + 2) 68 [v] s) (fun x s' => ∃ p, Is x (.ptr p 0) ∧ Sep s0 s' (oR p ⟨l, 0, false⟩ :: Ps)) := by
  refine call_code t68 rfl ?_
  simp (disch := omega) only [vm0, vm1, vm2, vm3, vm4, vm5, vm6, vm7, vmF, vmT, evo, wr, wrC, frame, Nat.reduceAdd, Nat.reduceMul, Nat.reduceSub, beq_self_eq_true, List.cons_append, List.nil_append, beq_dec, vmI, vc68]
  refine call_ok rfl rfl (cloneB n s v l hv hf) ?_
  rintro x s1 ⟨fp, q1, q2, q3⟩
  have hxc : x.cells = some [x] := by
    have := q1.rd.rd.sl
    cases x <;> first | rfl | exact this.elim
  simp (disch := omega) only [vm0, vm1, vm2, vm3, vm4, vm5, vm6, vm7, vmF, vmT, evo, wr, wrC, frame, Nat.reduceAdd, Nat.reduceMul, Nat.reduceSub, beq_self_eq_true, List.cons_append, List.nil_append, beq_dec, vmI, hxc]
  have hlt : s1.next ∉ fp := fun hm => by have := q1.lt _ hm; omega
  have hfa : Fr s1 (s1.new (.cells [x, num 0, .bool false] .own)) [] := .new
  have hnw : Nw s [] (s1.next :: fp) := by
    intro b hb
    rcases List.mem_cons.1 hb with rfl | hb
    · exact .inr q2.1
    · exact q3 b hb
  have hob : (oR s1.next ⟨l, 0, false⟩).P (s1.new (.cells [x, num 0, .bool false] .own)) (s1.next :: fp) := ⟨x, fp, get_new_eq rfl, q1.fr0 hfa, hlt, rfl, by rw [next_new]; omega⟩
  exact ⟨s1.next, rfl, hS.push hob (q2.trans hfa (fp2 := []) (by simp) (by simp)) hnw⟩
theorem r_at (n : Nat) {s0 : St} (s : St) (p : Nat) (r : RD) (Ps : List Obj) (hS : Sep s0 s (oR p r :: Ps)) : OutOk (callF bd tab.get fu (n + 1) 70 [.ptr p 0] s) (fun x s' => Is x (num r.a) ∧ Is s' s) := by
  refine call_code t70 rfl ?_
  obtain ⟨f, ⟨v, fv, h1, h2, h3, rfl, h5⟩, up⟩ := hS.hd
  simp (disch := omega) only [vm0, vm1, vm2, vm3, vm4, vm5, vm6, vm7, vmF, vmT, evo, wr, wrC, frame, Nat.reduceAdd, Nat.reduceMul, Nat.reduceSub, beq_self_eq_true, List.cons_append, List.nil_append, beq_dec, vmI, vc70, h1]
  exact ⟨rfl, rfl⟩
theorem r_bad (n : Nat) {s0 : St} (s : St) (p : Nat) (r : RD) (Ps : List Obj) (hS : Sep s0 s (oR p r :: Ps)) : OutOk (callF bd tab.get fu (n + 1) 117 [.ptr p 0] s) (fun x s' => Is x (.bool r.bad) ∧ Is s' s) := by
  refine call_code t117 rfl ?_
  obtain ⟨f, ⟨v, fv, h1, h2, h3, rfl, h5⟩, up⟩ := hS.hd
  simp (disch := omega) only [vm0, vm1, vm2, vm3, vm4, vm5, vm6, vm7, vmF, vmT, evo, wr, wrC, frame, Nat.reduceAdd, Nat.reduceMul, Nat.reduceSub, beq_self_eq_true, List.cons_append, List.nil_append, beq_dec, vmI, vc117, h1]
  exact ⟨rfl, rfl⟩
theorem r_left (n : Nat) {s0 : St} (s : St) (p : Nat) (r : RD) (Ps : List Obj) (hS : Sep s0 s (oR p r :: Ps)) (hr : r.Ok) : OutOk (callF bd tab.get fu (n + 1) 69 [.ptr p 0] s) (fun x s' => Is x (num ((r.B.length : Int) - r.a)) ∧ Is s' s) := by
  refine call_code t69 rfl ?_
  obtain ⟨f, ⟨v, fv, h1, h2, h3, rfl, h5⟩, up⟩ := hS.hd
  have e := h2.rd.lenV
  obtain ⟨a1, a2, a3⟩ := hr
  simp (disch := omega) only [vm0, vm1, vm2, vm3, vm4, vm5, vm6, vm7, vmF, vmT, evo, wr, wrC, frame, Nat.reduceAdd, Nat.reduceMul, Nat.reduceSub, beq_self_eq_true, List.cons_append, List.nil_append, beq_dec, vmI, vc69, h1, e]
  exact ⟨rfl, rfl⟩
theorem r_num (n : Nat) {s0 : St} (s : St) (p : Nat) (r : RD) (Ps : List Obj) (hS : Sep s0 s (oR p r :: Ps)) (hr : r.Ok) (hfu : 10 < fu) : OutOk (callF bd tab.get fu (n + 4) 115 [.ptr p 0] s) (fun x s' => Is x (num r.num.1) ∧ Sep s0 s' (oR p r.num.2 :: Ps)) := by
  refine call_code t115 rfl ?_
  obtain ⟨f, ⟨v, fv, h1, h2, h3, rfl, h5⟩, up⟩ := hS.hd
  obtain ⟨B, a, bad⟩ := r
  obtain ⟨a1, a2, a3⟩ := hr
  dsimp only at h1 h2 a1 a2 a3
  obtain ⟨w, g1, kw⟩ := h2.rd.sliL (a := a) a1.1 a1.2
  have h8 : ∀ x ∈ B.drop a.toNat, In8 x := fun x hx => a2 x (List.mem_of_mem_drop hx)
  obtain ⟨t1, t2, t3, t4⟩ := takeV_bd h8
  simp (disch := omega) only [vm0, vm1, vm2, vm3, vm4, vm5, vm6, vm7, vmF, vmT, evo, wr, wrC, frame, Nat.reduceAdd, Nat.reduceMul, Nat.reduceSub, beq_self_eq_true, List.cons_append, List.nil_append, beq_dec, vmI, vc115, h1, g1]
  refine call_ok rfl rfl (v_take n s w _ kw h8 (by simp; omega) hfu) ?_
  rintro y s2 ⟨rfl, hf⟩
  have h1' := (hf.get h5 (by simp)).trans h1
  have hput := IsRd.put h2 h3 h5 hf
  unfold RD.num RD.take
  dsimp only
  rw [List.length_drop] at t4
  generalize takeV (B.drop a.toNat) = T at *
  obtain ⟨x, sz, ok⟩ := T
  dsimp only at t1 t2 t3 t4 ⊢
  cases bad
  · cases ok
    · rw [if_pos (.inr rfl)]
      simp (disch := omega) only [vm0, vm1, vm2, vm3, vm4, vm5, vm6, vm7, vmF, vmT, evo, wr, wrC, frame, Nat.reduceAdd, Nat.reduceMul, Nat.reduceSub, beq_self_eq_true, List.cons_append, List.nil_append, beq_dec, vmI, h1', g1]
      exact ⟨rfl, up (oR p _) (hput a true).1 (hput a true).2 (fun b hb => .inl hb)⟩
    · rw [if_neg (by simp)]
      simp (disch := omega) only [vm0, vm1, vm2, vm3, vm4, vm5, vm6, vm7, vmF, vmT, evo, wr, wrC, frame, Nat.reduceAdd, Nat.reduceMul, Nat.reduceSub, beq_self_eq_true, List.cons_append, List.nil_append, beq_dec, vmI, h1', g1]
      exact ⟨rfl, up (oR p _) (hput _ false).1 (hput _ false).2 (fun b hb => .inl hb)⟩
  · rw [if_pos (.inl rfl)]
    simp (disch := omega) only [vm0, vm1, vm2, vm3, vm4, vm5, vm6, vm7, vmF, vmT, evo, wr, wrC, frame, Nat.reduceAdd, Nat.reduceMul, Nat.reduceSub, beq_self_eq_true, List.cons_append, List.nil_append, beq_dec, vmI, h1', g1]
    exact ⟨rfl, up (oR p _) (hput a true).1 (hput a true).2 (fun b hb => .inl hb)⟩
theorem r_byte (n : Nat) {s0 : St} (s : St) (p : Nat) (r : RD) (Ps : List Obj) (hS : Sep s0 s (oR p r :: Ps)) (hr : r.Ok) : OutOk (callF bd tab.get fu (n + 2) 113 [.ptr p 0] s) (fun x s' => Is x (byt r.byte.1) ∧ Sep s0 s' (oR p r.byte.2 :: Ps)) := by
  refine call_code t113 rfl ?_
  have hS0 := hS
  obtain ⟨f, ⟨v, fv, h1, h2, h3, rfl, h5⟩, up⟩ := hS.hd
  obtain ⟨B, a, bad⟩ := r
  have hr0 := hr
  obtain ⟨a1, a2, a3⟩ := hr
  dsimp only at h1 h2 a1 a2 a3
  have hput := IsRd.put h2 h3 h5 .refl
  unfold RD.byte
  dsimp only
  cases bad
  · simp (disch := omega) only [vm0, vm1, vm2, vm3, vm4, vm5, vm6, vm7, vmF, vmT, evo, wr, wrC, frame, Nat.reduceAdd, Nat.reduceMul, Nat.reduceSub, beq_self_eq_true, List.cons_append, List.nil_append, beq_dec, vmI, vc113, h1]
    refine call_ok rfl rfl (r_left n s p _ Ps hS0 hr0) ?_
    rintro y s ⟨rfl, rfl⟩
    dsimp only
    by_cases hz : a = B.length
    · rw [if_pos (.inr hz)]
      have hz2 : (B.length : Int) - a = 0 := by omega
      simp (disch := omega) only [vm0, vm1, vm2, vm3, vm4, vm5, vm6, vm7, vmF, vmT, evo, wr, wrC, frame, Nat.reduceAdd, Nat.reduceMul, Nat.reduceSub, beq_self_eq_true, List.cons_append, List.nil_append, beq_dec, vmI, hz2, h1]
      exact ⟨rfl, up (oR p _) (hput a true).1 (hput a true).2 (fun b hb => .inl hb)⟩
    · rw [if_neg (by simp [hz])]
      obtain ⟨c, hc⟩ : ∃ c, B[a.toNat]? = some c := ⟨_, List.getElem?_eq_getElem (by omega)⟩
      have e1 := h2.rd.ia hc
      have e2 := h2.rd.at1 (f := byt) hc
      have eb := h2.rd.blk' hc
      rw [Int.toNat_of_nonneg a1.1] at e1
      have hgd : B.getD a.toNat 0 = c := by rw [List.getD, hc]; rfl
      have hpb : sblk v ≠ p := by
        intro hp
        rcases h2.ow with ⟨rfl, h0, _⟩ | ⟨b, len, lo, ex, k, J, rfl, _, _, _, h5'⟩
        · have h9 := congrArg List.length h0
          rw [flat_len encB_w, List.length_nil, Nat.mul_one] at h9
          have := (List.getElem?_eq_some_iff.1 hc).1
          omega
        · have hp : b = p := hp
          subst hp
          exact h3 (by rcases h5' with ⟨_, rfl⟩ | ⟨m, _, _, rfl⟩ <;> simp)
      have ha1 : a + 1 - 1 = a := by omega
      rw [hgd]
      simp (disch := omega) only [vm0, vm1, vm2, vm3, vm4, vm5, vm6, vm7, vmF, vmT, evo, wr, wrC, frame, Nat.reduceAdd, Nat.reduceMul, Nat.reduceSub, beq_self_eq_true, List.cons_append, List.nil_append, beq_dec, vmI, h1, e1, e2, ha1]
      exact ⟨rfl, up (oR p _) (hput _ false).1 (hput _ false).2 (fun b hb => .inl hb)⟩
  · rw [if_pos (.inl rfl)]
    simp (disch := omega) only [vm0, vm1, vm2, vm3, vm4, vm5, vm6, vm7, vmF, vmT, evo, wr, wrC, frame, Nat.reduceAdd, Nat.reduceMul, Nat.reduceSub, beq_self_eq_true, List.cons_append, List.nil_append, beq_dec, vmI, vc113, h1]
    exact ⟨rfl, up (oR p _) (hput a true).1 (hput a true).2 (fun b hb => .inl hb)⟩
theorem r_bytes (n : Nat) {s0 : St} (s : St) (p : Nat) (r : RD) (most : Int) (Ps : List Obj) (hS : Sep s0 s (oR p r :: Ps)) (hr : r.Ok) (hm : most ≤ 1000000000) (hfu : 10 < fu) : OutOk (callF bd tab.get fu (n + 4) 114 [.ptr p 0, num most] s) (fun x s' => Sep s0 s' (oW x 1 encB (r.bytes most).1 :: oR p (r.bytes most).2 :: Ps)) := by
  refine call_code t114 rfl ?_
  have hS0 := hS
  obtain ⟨f, ⟨v, fv, h1, h2, h3, rfl, h5⟩, up⟩ := hS.hdw
  obtain ⟨B, a, bad⟩ := r
  have hr0 := hr
  obtain ⟨a1, a2, a3⟩ := hr
  dsimp only at h1 h2 a1 a2 a3
  obtain ⟨w, g1, kw⟩ := h2.rd.sliL (a := a) a1.1 a1.2
  have h8 : ∀ x ∈ B.drop a.toNat, In8 x := fun x hx => a2 x (List.mem_of_mem_drop hx)
  obtain ⟨t1, t2, t3, t4⟩ := takeV_bd h8
  simp (disch := omega) only [vm0, vm1, vm2, vm3, vm4, vm5, vm6, vm7, vmF, vmT, evo, wr, wrC, frame, Nat.reduceAdd, Nat.reduceMul, Nat.reduceSub, beq_self_eq_true, List.cons_append, List.nil_append, beq_dec, vmI, vc114, h1, g1]
  refine call_ok rfl rfl (v_take n s w _ kw h8 (by simp; omega) hfu) ?_
  rintro y s2 ⟨rfl, hf⟩
  have h1' := (hf.get h5 (by simp)).trans h1
  have hput := IsRd.put h2 h3 h5 hf
  unfold RD.bytes RD.take
  dsimp only
  rw [List.length_drop] at t4
  generalize takeV (B.drop a.toNat) = T at *
  obtain ⟨x, sz, ok⟩ := T
  dsimp only at t1 t2 t3 t4 ⊢
  have fail : Sep s0 (s2.put p (some (.cells [v, num a, .bool true] .own))) (oW .nils 1 encB ([] : List Int) :: oR p ⟨B, a, true⟩ :: Ps) :=
    up (oR p _) (oW .nils 1 encB _) (hput a true).1 (OwE.nil encB_w (by omega)) (hput a true).2 (by simp [Nw])
  cases bad
  · cases ok
    · rw [if_pos (.inr (.inl rfl))]
      simp (disch := omega) only [vm0, vm1, vm2, vm3, vm4, vm5, vm6, vm7, vmF, vmT, evo, wr, wrC, frame, Nat.reduceAdd, Nat.reduceMul, Nat.reduceSub, beq_self_eq_true, List.cons_append, List.nil_append, beq_dec, vmI, h1', g1]
      exact fail
    · by_cases c1 : most < x
      · rw [if_pos (.inr (.inr (.inl c1)))]
        simp (disch := omega) only [vm0, vm1, vm2, vm3, vm4, vm5, vm6, vm7, vmF, vmT, evo, wr, wrC, frame, Nat.reduceAdd, Nat.reduceMul, Nat.reduceSub, beq_self_eq_true, List.cons_append, List.nil_append, beq_dec, vmI, h1', g1]
        exact fail
      · simp (disch := omega) only [vm0, vm1, vm2, vm3, vm4, vm5, vm6, vm7, vmF, vmT, evo, wr, wrC, frame, Nat.reduceAdd, Nat.reduceMul, Nat.reduceSub, beq_self_eq_true, List.cons_append, List.nil_append, beq_dec, vmI, h1', g1]
        refine call_ok rfl rfl (r_left (n + 2) s2 p _ Ps (hS0.fr hf) hr0) ?_
        rintro y s3 ⟨rfl, rfl⟩
        dsimp only
        by_cases c2 : (B.length : Int) - a - sz < x
        · rw [if_pos (.inr (.inr (.inr c2)))]
          simp (disch := omega) only [vm0, vm1, vm2, vm3, vm4, vm5, vm6, vm7, vmF, vmT, evo, wr, wrC, frame, Nat.reduceAdd, Nat.reduceMul, Nat.reduceSub, beq_self_eq_true, List.cons_append, List.nil_append, beq_dec, vmI, h1']
          exact fail
        · rw [if_neg (by simp [c1, c2])]
          obtain ⟨k1, k2⟩ := hput (a + sz + x) false
          have h2n : OwE (s3.put p (some (.cells [v, num (a + sz + x), .bool false] .own))) v 1 encB B fv := (h2.fr0 hf).fr (fp' := [p]) (.put (.inl (by simp))) (by rintro z hz hm; simp at hm; subst hm; exact h3 hz)
          obtain ⟨u, g2, ku⟩ := h2n.rd.sli' (a := a + sz) (b := a + sz + x) (by omega) (by omega) (by omega)
          have hnx : (s3.put p (some (.cells [v, num (a + sz + x), .bool false] .own))).next = s3.next := by rw [next_put]
          simp (disch := omega) only [vm0, vm1, vm2, vm3, vm4, vm5, vm6, vm7, vmF, vmT, evo, wr, wrC, frame, Nat.reduceAdd, Nat.reduceMul, Nat.reduceSub, beq_self_eq_true, List.cons_append, List.nil_append, beq_dec, vmI, h1', g2]
          refine call_ok rfl rfl (cloneB (n + 2) _ u _ ku (by simp; omega)) ?_
          rintro y s4 ⟨fo, q1, q2, q3⟩
          have h1n : s4.heap.get p = some (.cells [v, num (a + sz + x), .bool false] .own) := (q2.get (by rw [hnx]; exact Nat.lt_of_lt_of_le h5 hf.1) (by simp)).trans (get_put_eq rfl)
          simp (disch := omega) only [vm0, vm1, vm2, vm3, vm4, vm5, vm6, vm7, vmF, vmT, evo, wr, wrC, frame, Nat.reduceAdd, Nat.reduceMul, Nat.reduceSub, beq_self_eq_true, List.cons_append, List.nil_append, beq_dec, vmI, h1n, g2]
          refine up (oR p _) (oW y 1 encB _) (IsRd.fr k1 q2 (by simp)) q1 (k2.trans q2 (fun b hb _ => hb) (by simp)) (fun b hb => ?_)
          rcases q3 b hb with hh | hh
          · simp at hh
          · rw [next_put] at hh
            exact .inr (Nat.le_trans hf.1 hh)
  · rw [if_pos (.inl rfl)]
    simp (disch := omega) only [vm0, vm1, vm2, vm3, vm4, vm5, vm6, vm7, vmF, vmT, evo, wr, wrC, frame, Nat.reduceAdd, Nat.reduceMul, Nat.reduceSub, beq_self_eq_true, List.cons_append, List.nil_append, beq_dec, vmI, h1', g1]
    exact fail
theorem pack (n : Nat) (s : St) (v : AV) (l : List Int) (hv : RdE s v 1 encB l) (hl : l.length ≤ 140737488351232) (hfu : 10 < fu) :
    OutOk (callF bd tab.get fu (n + 3) 106 [v] s) (fun x s' => ∃ fp, OwE s' x 1 encB (putV l.length ++ l) fp ∧ Fr s s' [] ∧ Nw s [] fp) := by
  refine call_code t106 rfl ?_
  have e := hv.lenV
  simp (disch := omega) only [vm0, vm1, vm2, vm3, vm4, vm5, vm6, vm7, vmF, vmT, evo, wr, wrC, frame, Nat.reduceAdd, Nat.reduceMul, Nat.reduceSub, beq_self_eq_true, List.cons_append, List.nil_append, beq_dec, vmI, vc106, e]
  refine call_ok rfl rfl (v_put n s (l.length : Int) ⟨by omega, by omega⟩ hfu) ?_
  rintro x s1 ⟨fp, q1, q2, q3⟩
  have hxc : x.cells = some [x] := by
    have := q1.rd.rd.sl
    cases x <;> first | rfl | exact this.elim
  have hvc : v.cells = some [v] := by
    have := hv.rd.sl
    cases v <;> first | rfl | exact this.elim
  simp (disch := omega) only [vm0, vm1, vm2, vm3, vm4, vm5, vm6, vm7, vmF, vmT, evo, wr, wrC, frame, Nat.reduceAdd, Nat.reduceMul, Nat.reduceSub, beq_self_eq_true, List.cons_append, List.nil_append, beq_dec, vmI, hxc, hvc]
  have hfa : Fr s1 (s1.new (.cells [x, v] .own)) [] := .new
  have hU : RdE (s1.new (.cells [x, v] .own)) (.sl s1.next 0 2 2 true 1) 1 encU [x, v] := by
    refine ⟨⟨⟨rfl, Nat.le_refl _⟩, rfl, ?_⟩, fun _ => rfl, by omega, by show s1.next < _; rw [next_new]; omega⟩
    show ob ((s1.new _).heap.get s1.next) (rdC 0 (2 * 1)) = _
    rw [get_new_eq rfl]; rfl
  have hpl := putV_len (l.length : Int)
  have hsz : sizeV (l.length : Int) ≤ 8 := by rcases sizeV_in (l.length : Int) with h | h | h | h | h <;> omega
  refine call_ok rfl rfl (concatB (n + 0) _ s1.next true x v _ l hU (q1.rd.fr0 hfa) ((hv.fr0 q2).fr0 hfa) (by omega) hfu) ?_
  rintro y s2 ⟨fo, k1, k2, k3⟩
  simp (disch := omega) only [vm0, vm1, vm2, vm3, vm4, vm5, vm6, vm7, vmF, vmT, evo, wr, wrC, frame, Nat.reduceAdd, Nat.reduceMul, Nat.reduceSub, beq_self_eq_true, List.cons_append, List.nil_append, beq_dec, vmI]
  refine ⟨fo, k1, (q2.trans hfa (fp2 := []) (by simp) (by simp)).trans k2 (fp2 := []) (by simp) (by simp), fun b hb => ?_⟩
  rcases k3 b hb with hh | hh
  · simp at hh
  · exact .inr (Nat.le_trans q2.1 (Nat.le_trans hfa.1 hh))
end
end Go.Proofs.Ytgckbcljlkkceaa.ctr
namespace Go.Proofs.Ytgckbcljlkkceaa.ctr
open Go Go.Vm Go.RowKit
set_option linter.unusedVariables false
set_option linter.constructorNameAsVariable false
set_option linter.unusedSimpArgs false
/-! ## the reference's reader -/
section
variable {bd : Bd} {fu : Nat}
theorem x_num (n : Nat) {s0 : St} (s : St) (p : Nat) (r : RD) (Ps : List Obj) (hS : Sep s0 s (oR p r :: Ps)) (hr : r.Ok) (hfu : 10 < fu) : OutOk (callF bd tab.get fu (n + 4) 74 [.ptr p 0] s) (fun x s' => Is x (num r.num.1) ∧ Sep s0 s' (oR p r.num.2 :: Ps)) := by
  refine call_code t74 rfl ?_
  obtain ⟨f, ⟨v, fv, h1, h2, h3, rfl, h5⟩, up⟩ := hS.hd
  obtain ⟨B, a, bad⟩ := r
  obtain ⟨a1, a2, a3⟩ := hr
  dsimp only at h1 h2 a1 a2 a3
  obtain ⟨w, g1, kw⟩ := h2.rd.sliL (a := a) a1.1 a1.2
  have h8 : ∀ x ∈ B.drop a.toNat, In8 x := fun x hx => a2 x (List.mem_of_mem_drop hx)
  obtain ⟨t1, t2, t3, t4⟩ := takeV_bd h8
  simp (disch := omega) only [vm0, vm1, vm2, vm3, vm4, vm5, vm6, vm7, vmF, vmT, evo, wr, wrC, frame, Nat.reduceAdd, Nat.reduceMul, Nat.reduceSub, beq_self_eq_true, List.cons_append, List.nil_append, beq_dec, vmI, vc74, h1, g1]
  refine call_ok rfl rfl (w_take (n + 1) s w _ kw h8 (by simp; omega) hfu) ?_
  rintro y s2 ⟨rfl, rfl⟩
  have hput := IsRd.put h2 h3 h5 .refl
  have hsm := sm_v h2.rd.rd.sl
  unfold RD.num RD.take
  dsimp only
  rw [List.length_drop] at t4
  generalize takeV (B.drop a.toNat) = T at *
  obtain ⟨x, sz, ok⟩ := T
  dsimp only at t1 t2 t3 t4 ⊢
  cases bad
  · cases ok
    · rw [if_pos (.inr rfl)]
      simp (disch := omega) only [vm0, vm1, vm2, vm3, vm4, vm5, vm6, vm7, vmF, vmT, evo, wr, wrC, frame, Nat.reduceAdd, Nat.reduceMul, Nat.reduceSub, beq_self_eq_true, List.cons_append, List.nil_append, beq_dec, vmI, h1, g1, hsm]
      exact ⟨rfl, up (oR p _) (hput a true).1 (hput a true).2 (fun b hb => .inl hb)⟩
    · rw [if_neg (by simp)]
      simp (disch := omega) only [vm0, vm1, vm2, vm3, vm4, vm5, vm6, vm7, vmF, vmT, evo, wr, wrC, frame, Nat.reduceAdd, Nat.reduceMul, Nat.reduceSub, beq_self_eq_true, List.cons_append, List.nil_append, beq_dec, vmI, h1, g1, hsm]
      exact ⟨rfl, up (oR p _) (hput _ false).1 (hput _ false).2 (fun b hb => .inl hb)⟩
  · rw [if_pos (.inl rfl)]
    simp (disch := omega) only [vm0, vm1, vm2, vm3, vm4, vm5, vm6, vm7, vmF, vmT, evo, wr, wrC, frame, Nat.reduceAdd, Nat.reduceMul, Nat.reduceSub, beq_self_eq_true, List.cons_append, List.nil_append, beq_dec, vmI, h1, g1, hsm]
    exact ⟨rfl, up (oR p _) (hput a true).1 (hput a true).2 (fun b hb => .inl hb)⟩
theorem x_byte (n : Nat) {s0 : St} (s : St) (p : Nat) (r : RD) (Ps : List Obj) (hS : Sep s0 s (oR p r :: Ps)) (hr : r.Ok) : OutOk (callF bd tab.get fu (n + 2) 72 [.ptr p 0] s) (fun x s' => Is x (byt r.byte.1) ∧ Sep s0 s' (oR p r.byte.2 :: Ps)) := by
  refine call_code t72 rfl ?_
  have hS0 := hS
  obtain ⟨f, ⟨v, fv, h1, h2, h3, rfl, h5⟩, up⟩ := hS.hd
  obtain ⟨B, a, bad⟩ := r
  have hr0 := hr
  obtain ⟨a1, a2, a3⟩ := hr
  dsimp only at h1 h2 a1 a2 a3
  have hput := IsRd.put h2 h3 h5 .refl
  have hsm := sm_v h2.rd.rd.sl
  have e := h2.rd.lenV
  unfold RD.byte
  dsimp only
  cases bad
  · by_cases hz : a = B.length
    · rw [if_pos (.inr hz)]
      have hz2 : ¬ a < (B.length : Int) := by omega
      simp (disch := omega) only [vm0, vm1, vm2, vm3, vm4, vm5, vm6, vm7, vmF, vmT, evo, wr, wrC, frame, Nat.reduceAdd, Nat.reduceMul, Nat.reduceSub, beq_self_eq_true, List.cons_append, List.nil_append, beq_dec, vmI, vc72, h1, e, hsm, vmU]
      exact ⟨rfl, up (oR p _) (hput a true).1 (hput a true).2 (fun b hb => .inl hb)⟩
    · rw [if_neg (by simp [hz])]
      obtain ⟨c, hc⟩ : ∃ c, B[a.toNat]? = some c := ⟨_, List.getElem?_eq_getElem (by omega)⟩
      have e1 := h2.rd.ia hc
      have e2 := h2.rd.at1 (f := byt) hc
      have eb := h2.rd.blk' hc
      rw [Int.toNat_of_nonneg a1.1] at e1
      have hgd : B.getD a.toNat 0 = c := by rw [List.getD, hc]; rfl
      have hpb : sblk v ≠ p := by
        intro hp
        rcases h2.ow with ⟨rfl, h0, _⟩ | ⟨b, len, lo, ex, k, J, rfl, _, _, _, h5'⟩
        · have h9 := congrArg List.length h0
          rw [flat_len encB_w, List.length_nil, Nat.mul_one] at h9
          have := (List.getElem?_eq_some_iff.1 hc).1
          omega
        · have hp : b = p := hp
          subst hp
          exact h3 (by rcases h5' with ⟨_, rfl⟩ | ⟨m, _, _, rfl⟩ <;> simp)
      have ha1 : a + 1 - 1 = a := by omega
      rw [hgd]
      simp (disch := omega) only [vm0, vm1, vm2, vm3, vm4, vm5, vm6, vm7, vmF, vmT, evo, wr, wrC, frame, Nat.reduceAdd, Nat.reduceMul, Nat.reduceSub, beq_self_eq_true, List.cons_append, List.nil_append, beq_dec, vmI, vc72, h1, e, hsm, e1, e2, ha1, vmU]
      exact ⟨rfl, up (oR p _) (hput _ false).1 (hput _ false).2 (fun b hb => .inl hb)⟩
  · rw [if_pos (.inl rfl)]
    simp (disch := omega) only [vm0, vm1, vm2, vm3, vm4, vm5, vm6, vm7, vmF, vmT, evo, wr, wrC, frame, Nat.reduceAdd, Nat.reduceMul, Nat.reduceSub, beq_self_eq_true, List.cons_append, List.nil_append, beq_dec, vmI, vc72, h1, e, hsm, vmU]
    exact ⟨rfl, up (oR p _) (hput a true).1 (hput a true).2 (fun b hb => .inl hb)⟩
set_option maxHeartbeats 1000000 in
theorem x_bytes (n : Nat) {s0 : St} (s : St) (p : Nat) (r : RD) (most : Int) (Ps : List Obj) (hS : Sep s0 s (oR p r :: Ps)) (hr : r.Ok) (hm : most ≤ 1000000000) (hfu : 10 < fu) : OutOk (callF bd tab.get fu (n + 4) 73 [.ptr p 0, num most] s) (fun x s' => Sep s0 s' (oW x 1 encB (r.bytes most).1 :: oR p (r.bytes most).2 :: Ps)) := by
  refine call_code t73 rfl ?_
  have hS0 := hS
  obtain ⟨f, ⟨v, fv, h1, h2, h3, rfl, h5⟩, up⟩ := hS.hdw
  obtain ⟨B, a, bad⟩ := r
  have hr0 := hr
  obtain ⟨a1, a2, a3⟩ := hr
  dsimp only at h1 h2 a1 a2 a3
  obtain ⟨w, g1, kw⟩ := h2.rd.sliL (a := a) a1.1 a1.2
  have h8 : ∀ x ∈ B.drop a.toNat, In8 x := fun x hx => a2 x (List.mem_of_mem_drop hx)
  obtain ⟨t1, t2, t3, t4⟩ := takeV_bd h8
  have hsm := sm_v h2.rd.rd.sl
  have e := h2.rd.lenV
  simp (disch := omega) only [vm0, vm1, vm2, vm3, vm4, vm5, vm6, vm7, vmF, vmT, evo, wr, wrC, frame, Nat.reduceAdd, Nat.reduceMul, Nat.reduceSub, beq_self_eq_true, List.cons_append, List.nil_append, beq_dec, vmI, vc73, h1, g1]
  refine call_ok rfl rfl (w_take (n + 1) s w _ kw h8 (by simp; omega) hfu) ?_
  rintro y s2 ⟨rfl, rfl⟩
  have hput := IsRd.put h2 h3 h5 .refl
  unfold RD.bytes RD.take
  dsimp only
  rw [List.length_drop] at t4
  generalize takeV (B.drop a.toNat) = T at *
  obtain ⟨x, sz, ok⟩ := T
  dsimp only at t1 t2 t3 t4 ⊢
  have fail : Sep s0 (s2.put p (some (.cells [v, num a, .bool true] .own))) (oW .nils 1 encB ([] : List Int) :: oR p ⟨B, a, true⟩ :: Ps) :=
    up (oR p _) (oW .nils 1 encB _) (hput a true).1 (OwE.nil encB_w (by omega)) (hput a true).2 (by simp [Nw])
  cases bad
  · cases ok
    · rw [if_pos (.inr (.inl rfl))]
      simp (disch := omega) only [vm0, vm1, vm2, vm3, vm4, vm5, vm6, vm7, vmF, vmT, evo, wr, wrC, frame, Nat.reduceAdd, Nat.reduceMul, Nat.reduceSub, beq_self_eq_true, List.cons_append, List.nil_append, beq_dec, vmI, h1, g1, hsm, e, vmU]
      exact fail
    · by_cases c1 : most < x
      · rw [if_pos (.inr (.inr (.inl c1)))]
        simp (disch := omega) only [vm0, vm1, vm2, vm3, vm4, vm5, vm6, vm7, vmF, vmT, evo, wr, wrC, frame, Nat.reduceAdd, Nat.reduceMul, Nat.reduceSub, beq_self_eq_true, List.cons_append, List.nil_append, beq_dec, vmI, h1, g1, hsm, e, vmU]
        exact fail
      · by_cases c2 : (B.length : Int) - a - sz < x
        · rw [if_pos (.inr (.inr (.inr c2)))]
          simp (disch := omega) only [vm0, vm1, vm2, vm3, vm4, vm5, vm6, vm7, vmF, vmT, evo, wr, wrC, frame, Nat.reduceAdd, Nat.reduceMul, Nat.reduceSub, beq_self_eq_true, List.cons_append, List.nil_append, beq_dec, vmI, h1, g1, hsm, e, vmU]
          exact fail
        · rw [if_neg (by simp [c1, c2])]
          obtain ⟨u, g2, ku⟩ := h2.rd.sli' (a := a + sz) (b := a + sz + x) (by omega) (by omega) (by omega)
          have k1 := ku.lenOf
          have k2 := ku.cellsOf
          have hul := ku.len
          have hul2 : ((B.take (a + sz + x).toNat).drop (a + sz).toNat).length ≤ B.length := by simp; omega
          simp (disch := omega) only [vm0, vm1, vm2, vm3, vm4, vm5, vm6, vm7, vmF, vmT, evo, wr, wrC, frame, Nat.reduceAdd, Nat.reduceMul, Nat.reduceSub, beq_self_eq_true, List.cons_append, List.nil_append, beq_dec, vmI, h1, g1, g2, hsm, e, vmU, k1, k2]
          refine op_app (OwE.nil (s := s2) encB_w (by omega)) .refl (new := (B.take (a + sz + x).toNat).drop (a + sz).toNat) rfl rfl (by simp only [List.length_nil]; omega) ?_
          intro y s3 fo ho hf hn
          have h1n := (hf.get h5 (by simp)).trans h1
          have hpo : p ∉ fo := fun hm => by have := hn p hm; simp at this; omega
          have hax : a + (sz + x) = a + sz + x := by omega
          simp (disch := omega) only [vm0, vm1, vm2, vm3, vm4, vm5, vm6, vm7, vmF, vmT, evo, wr, wrC, frame, Nat.reduceAdd, Nat.reduceMul, Nat.reduceSub, beq_self_eq_true, List.cons_append, List.nil_append, beq_dec, vmI, h1, h1n, g1, g2, hsm, e, hax]
          refine up (oR p ⟨B, a + sz + x, false⟩) (oW y 1 encB _) (IsRd.put h2 h3 h5 hf (a + sz + x) false).1 ?_ (IsRd.put h2 h3 h5 hf (a + sz + x) false).2 hn
          rw [List.nil_append] at ho
          exact ho.fr (fp' := [p]) (.put (.inl (by simp))) (by rintro z hz hm; simp at hm; subst hm; exact hpo hz)
  · rw [if_pos (.inl rfl)]
    simp (disch := omega) only [vm0, vm1, vm2, vm3, vm4, vm5, vm6, vm7, vmF, vmT, evo, wr, wrC, frame, Nat.reduceAdd, Nat.reduceMul, Nat.reduceSub, beq_self_eq_true, List.cons_append, List.nil_append, beq_dec, vmI, h1, g1, hsm, e, vmU]
    exact fail
theorem u_wrap (n : Nat) (s : St) (v : AV) (l : List Int) (hv : RdE s v 1 encB l) (hl : l.length ≤ 140737488351232) (hfu : 10 < fu) :
    OutOk (callF bd tab.get fu (n + 3) 53 [v] s) (fun x s' => ∃ fp, OwE s' x 1 encB (putV l.length ++ l) fp ∧ Fr s s' [] ∧ Nw s [] fp) := by
  refine call_code t53 rfl ?_
  have e := hv.lenV
  simp (disch := omega) only [vm0, vm1, vm2, vm3, vm4, vm5, vm6, vm7, vmF, vmT, evo, wr, wrC, frame, Nat.reduceAdd, Nat.reduceMul, Nat.reduceSub, beq_self_eq_true, List.cons_append, List.nil_append, beq_dec, vmI, vc53, e]
  refine call_ok rfl rfl (w_put n s (l.length : Int) ⟨by omega, by omega⟩ hfu) ?_
  rintro x s1 ⟨fp, q1, q2, q3⟩
  have hv1 := hv.fr0 q2
  have k1 := hv1.lenOf
  have k2 := hv1.cellsOf
  have hpl := putV_len (l.length : Int)
  have hsz : sizeV (l.length : Int) ≤ 8 := by rcases sizeV_in (l.length : Int) with h | h | h | h | h <;> omega
  simp (disch := omega) only [vm0, vm1, vm2, vm3, vm4, vm5, vm6, vm7, vmF, vmT, evo, wr, wrC, frame, Nat.reduceAdd, Nat.reduceMul, Nat.reduceSub, beq_self_eq_true, List.cons_append, List.nil_append, beq_dec, vmI, k1, k2]
  refine op_app q1 .refl (new := l) rfl rfl (by omega) ?_
  intro y s2 fo ho hf hn
  simp (disch := omega) only [vm0, vm1, vm2, vm3, vm4, vm5, vm6, vm7, vmF, vmT, evo, wr, wrC, frame, Nat.reduceAdd, Nat.reduceMul, Nat.reduceSub, beq_self_eq_true, List.cons_append, List.nil_append, beq_dec, vmI]
  refine ⟨fo, ho, q2.trans hf (by simp) (fun b hb hl => by have := q3 b hb; simp at this; omega), fun b hb => ?_⟩
  rcases hn b hb with hh | hh
  · exact q3 b hh
  · exact .inr (Nat.le_trans q2.1 hh)
end
end Go.Proofs.Ytgckbcljlkkceaa.ctr
