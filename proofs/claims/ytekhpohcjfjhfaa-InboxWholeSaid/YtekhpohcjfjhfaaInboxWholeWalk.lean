/- InboxWhole, walked. -/
import Derived.Test.YtekhpohcjfjhfaaCtIn
import Derived.WalkKit
import Derived.ProofKit
namespace Go.Proofs.Ytekhpohcjfjhfaa.ctr
open Go.Vm Go.RowKit Go.Ranges
set_option linter.unusedVariables false
set_option linter.constructorNameAsVariable false
set_option linter.unusedSimpArgs false
def eOf (N : Int) (kn : Bool) : Int := if kn = true then N else 0
/-- pieces of a text of N bytes came, as far as the window let them -/
structure Wh (B : List Int) (N w : Int) (i : IB) (tk : Int) (kn : Bool) (P : Int → Prop) : Prop where
  h : Has B i w tk (eOf N kn) kn P
  p : ∀ q, P q → 0 ≤ q ∧ q < N ∧ q < tk + w
theorem Wh.put {B : List Int} {N w tk : Int} {i : IB} {kn : Bool} {P : Int → Prop} (hW : Wh B N w i tk kn P) (hN : (B.length : Int) = N) (hN2 : N ≤ 60) (ht : 0 ≤ tk) {a b : Int} (ha : 0 ≤ a) (hab : a ≤ b) (hb : b ≤ N) :
    Wh B N w (i.put a ((B.take b.toNat).drop a.toNat) (decide (b = N))) tk (kn || decide (b = N)) (fun p => P p ∨ (a ≤ p ∧ p < b ∧ p < tk + w)) := by
  have hl : (((B.take b.toNat).drop a.toNat).length : Int) = b - a := by simp; omega
  have hpc := piece_sub (T := B) (a := a) (b := b) ha
  obtain ⟨h1, h2⟩ := hW
  have hcan : ∀ p, a ≤ p → p < b → p < tk + w → canP w tk (eOf N kn) kn p := fun p q1 q2 q3 => ⟨by omega, by omega, fun hk => by unfold eOf; rw [if_pos hk]; omega⟩
  have hP : ∀ p, (P p ∨ (a ≤ p ∧ p < a + ((B.take b.toNat).drop a.toNat).length ∧ canP w tk (eOf N kn) kn p)) ↔ (P p ∨ (a ≤ p ∧ p < b ∧ p < tk + w)) := fun p => by
    rw [hl]
    constructor
    · rintro (h | ⟨q1, q2, q3⟩)
      · exact .inl h
      · exact .inr ⟨q1, by omega, q3.2.1⟩
    · rintro (h | ⟨q1, q2, q3⟩)
      · exact .inl h
      · exact .inr ⟨q1, by omega, hcan p q1 q2 q3⟩
  refine ⟨?_, fun p hp => ?_⟩
  · cases kn
    · by_cases hf : b = N
      · have := (h1.putF hpc ha (by omega) (fun p hp => by rw [hl]; have := h2 p hp; omega)).congr hP
        rw [hl, show a + (b - a) = b by omega] at this
        simp only [hf, decide_true, Bool.or_true]
        simp only [hf] at this
        exact this
      · simp only [hf, decide_false, Bool.or_false]
        exact (h1.put hpc).congr hP
    · simp only [Bool.true_or]
      exact (h1.putF2 hpc).congr hP
  · rcases hp with hp | hp
    · exact h2 p hp
    · exact ⟨by omega, by omega, hp.2.2⟩
theorem Wh.front_le {B : List Int} {N w tk : Int} {i : IB} {kn : Bool} {P : Int → Prop} (hW : Wh B N w i tk kn P) (hN : 0 ≤ N) : frontR i.l ≤ N ∧ 0 ≤ frontR i.l ∧ tk ≤ frontR i.l ∧ 0 ≤ tk := by
  have hb := front_bd hW.h.g.wf
  have ht := hW.h.g.tk
  rw [hW.h.tk] at ht
  refine ⟨?_, hb.1, ht.2, ht.1⟩
  by_cases hc : frontR i.l ≤ N
  · exact hc
  · have := hW.p _ ((hW.h.m N).1 (front_mem hW.h.g.wf hN (by omega)))
    omega
theorem Wh.read {B : List Int} {N w tk : Int} {i : IB} {kn : Bool} {P : Int → Prop} (hW : Wh B N w i tk kn P) (hN : (B.length : Int) = N) (hN2 : N ≤ 60) (hw : 1 ≤ w ∧ w ≤ 40) (k : Int) :
    Wh B N w (i.read k) (tk + i.n_ k) kn P ∧ i.out k = (B.take (tk + i.n_ k).toNat).drop tk.toNat ∧ 0 ≤ i.n_ k ∧ tk + i.n_ k ≤ N := by
  have hf := hW.front_le (by omega)
  have hn := hW.h.g.n_bd k
  rw [hW.h.tk] at hn
  exact ⟨⟨hW.h.read rfl (by omega), fun p hp => by have := hW.p p hp; omega⟩, hW.h.out rfl, hn.1, by omega⟩
section
variable {bd : Bd} {h : VF} {fu : Nat}
theorem e_give (hs : SortOk h) (n : Nat) {s0 : St} (s : St) (p : Nat) (i : IB) (Ps : List Obj) (v : AV) (B : List Int) (N w tk : Int) (kn : Bool) (P : Int → Prop) (c k : Int) (hS : Sep s0 s (oI p i :: Ps)) (hW : Wh B N w i tk kn P) (hrd : RdE s0 v 1 encB B) (hN : (B.length : Int) = N) (hN2 : N ≤ 60) (hc : 1 ≤ c ∧ c ≤ 12) (hk : 0 ≤ k) (hk2 : k * c ≤ N) (hfu : 4000 < fu) :
    OutOk (callF bd (tab h).get fu (n + 7) 73 [.ptr p 0, v, num c, num k] s) (fun x s' => ∃ i', Wh B N w i' tk (kn || decide (min (k * c + c) N = N)) (fun q => P q ∨ (k * c ≤ q ∧ q < min (k * c + c) N ∧ q < tk + w)) ∧ Sep s0 s' (oI p i' :: Ps)) := by
  refine call_code (t73 h) rfl ?_
  have e1 := (hrd.fr0 hS.frm).lenV
  rw [hN] at e1
  have hkc : 0 ≤ k * c := Int.mul_nonneg hk (by omega)
  have hkk : k * 1 ≤ k * c := Int.mul_le_mul_of_nonneg_left hc.1 hk
  obtain ⟨a, ha⟩ : ∃ a, k * c = a := ⟨_, rfl⟩
  rw [ha] at hkc hkk hk2 ⊢
  obtain ⟨b, hb⟩ : ∃ b, min (a + c) N = b := ⟨_, rfl⟩
  rw [hb]
  have hb2 : a ≤ b ∧ b ≤ N := by omega
  obtain ⟨u, g1, k1⟩ := hrd.sli' (a := a) (b := b) (by omega) (by omega) (by omega)
  have ht := (hW.front_le (by omega)).2.2.2
  have hP := hW.put hN hN2 ht hkc hb2.1 hb2.2
  have hl : (((B.take b.toNat).drop a.toNat).length : Int) = b - a := by simp; omega
  simp (disch := omega) only [vm0, vm1, vm2, vm3, vm4, vm5, vm6, vm7, fPick, fBox, fBuild, fBsl, fLd, fLda, fSt, fNilc, fBin, fEq, fUn, fMkf, fFa, fFld, fFlda, fExt, evo, wr, wrC, frame, Bool.not_true, Bool.not_false, beq_self_eq_true, List.cons_append, List.nil_append, Nat.add_zero, Nat.zero_add, Nat.reduceAdd, Nat.reduceMul, Nat.reduceSub, Bool.and_true, Bool.true_and, Bool.and_self, beq_dec, fApp, Int.toNat_natCast, Nat.sub_zero, vmI, vc73, ha, e1, hb, g1]
  refine call_ok rfl rfl (e_put hs n s p i Ps a u _ (decide (b = N)) hS hW.h.g (by omega) k1 (by omega) hfu) ?_
  rintro x s1 ⟨rfl, hS1⟩
  simp (disch := omega) only [vm0, vm1, vm2, vm3, vm4, vm5, vm6, vm7, fPick, fBox, fBuild, fBsl, fLd, fLda, fSt, fNilc, fBin, fEq, fUn, fMkf, fFa, fFld, fFlda, fExt, evo, wr, wrC, frame, Bool.not_true, Bool.not_false, beq_self_eq_true, List.cons_append, List.nil_append, Nat.add_zero, Nat.zero_add, Nat.reduceAdd, Nat.reduceMul, Nat.reduceSub, Bool.and_true, Bool.true_and, Bool.and_self, beq_dec, fApp, Int.toNat_natCast, Nat.sub_zero, vmI]
  exact ⟨_, hP, hS1⟩
end
end Go.Proofs.Ytekhpohcjfjhfaa.ctr
namespace Go.Proofs.Ytekhpohcjfjhfaa.ctr
open Go.Vm Go.RowKit Go.Ranges
set_option linter.unusedVariables false
set_option linter.constructorNameAsVariable false
set_option linter.unusedSimpArgs false
theorem take_two {B : List Int} {a b : Int} (ha : 0 ≤ a) (hab : a ≤ b) : B.take a.toNat ++ (B.take b.toNat).drop a.toNat = B.take b.toNat := by
  have : (B.take b.toNat).take a.toNat = B.take a.toNat := by rw [List.take_take]; congr 1; omega
  rw [← this, List.take_append_drop]
section
variable {bd : Bd} {h : VF} {fu : Nat}
set_option maxHeartbeats 1000000 in
theorem whole_round (hs : SortOk h) (n : Nat) (s2 s : St) (p : Nat) (i : IB) (v2 vo g : AV) (B : List Int) (N w tk c m : Int) (kn : Bool) (P : Int → Prop) (hS : Sep s2 s [oI p i, oW g 1 encB (B.take tk.toNat)]) (hW : Wh B N w i tk kn P) (hrd : RdE s2 v2 1 encB B) (hN : (B.length : Int) = N) (hN2 : N ≤ 60) (hw : 1 ≤ w ∧ w ≤ 40) (hc : 1 ≤ c ∧ c ≤ 12) (hm : 1 ≤ m ∧ m ≤ 61) (hm1 : (m - 1) * c ≤ N) (hm2 : N < m * c) (hfu : 4000 < fu)
    (x6 x7 x9 x10 x11 x12 x13 x14 x15 : Option AV) :
    RsOk (exec bd (callF bd (tab h).get fu (n + 8)) fu vc14_3 [some v2, some (num w), some (num c), some vo, some (.ptr p 0), some g, x6, x7, some (num m), x9, x10, x11, x12, x13, x14, x15, some (.bool false)] s)
      (fun e F' s' => Is e .normal ∧ ∃ g' x7' x15' i', F' = [some v2, some (num w), some (num c), some vo, some (.ptr p 0), some g', x6, x7', some (num m), x9, x10, x11, x12, x13, x14, x15', some (.bool false)] ∧ Wh B N w i' (min N (tk + w)) true (fun q => 0 ≤ q ∧ q < N ∧ q < tk + w) ∧ Sep s2 s' [oI p i', oW g' 1 encB (B.take (min N (tk + w)).toNat)]) := by
  simp (disch := omega) only [vm0, vm1, vm2, vm3, vm4, vm5, vm6, vm7, fPick, fBox, fBuild, fBsl, fLd, fLda, fSt, fNilc, fBin, fEq, fUn, fMkf, fFa, fFld, fFlda, fExt, evo, wr, wrC, frame, Bool.not_true, Bool.not_false, beq_self_eq_true, List.cons_append, List.nil_append, Nat.add_zero, Nat.zero_add, Nat.reduceAdd, Nat.reduceMul, Nat.reduceSub, Bool.and_true, Bool.true_and, Bool.and_self, beq_dec, fApp, Int.toNat_natCast, Nat.sub_zero, vmI, vc14_3]
  refine x_loop (fun m' F s' => ∃ j : Nat, ∃ z x15 i' kn' P', m' = m.toNat - j ∧ (j : Int) ≤ m ∧ z = (j : Int) ∧ F = [some v2, some (num w), some (num c), some vo, some (.ptr p 0), some g, x6, some (num z), some (num m), x9, x10, x11, x12, x13, x14, x15, some (.bool false)] ∧ Wh B N w i' tk kn' P' ∧ (∀ q, 0 ≤ q → q < (j : Int) * c → q < N → q < tk + w → P' q) ∧ ((j : Int) = m → kn' = true) ∧ Sep s2 s' [oI p i', oW g 1 encB (B.take tk.toNat)]) m.toNat (by omega) ?_ ?_
  · exact ⟨0, _, _, i, kn, P, by omega, by omega, rfl, rfl, hW, fun q h1 h2 => by simp at h2; omega, fun h => by omega, hS⟩
  · rintro m' F s1 ⟨j, _, x15, i1, kn1, P1, rfl, hj, rfl, rfl, hW1, hP1, hk1, hS1⟩ hm'
    obtain ⟨z, hz⟩ : ∃ z : Int, (j : Int) = z := ⟨_, rfl⟩
    rw [hz] at hj hP1 hk1 ⊢
    by_cases hlt : z < m
    · have hzc : z * c ≤ (m - 1) * c := Int.mul_le_mul_of_nonneg_right (by omega) (by omega)
      have hz1 : (z + 1) * c = z * c + c := by rw [Int.add_mul, Int.one_mul]
      simp (disch := omega) only [vm0, vm1, vm2, vm3, vm4, vm5, vm6, vm7, fPick, fBox, fBuild, fBsl, fLd, fLda, fSt, fNilc, fBin, fEq, fUn, fMkf, fFa, fFld, fFlda, fExt, evo, wr, wrC, frame, Bool.not_true, Bool.not_false, beq_self_eq_true, List.cons_append, List.nil_append, Nat.add_zero, Nat.zero_add, Nat.reduceAdd, Nat.reduceMul, Nat.reduceSub, Bool.and_true, Bool.true_and, Bool.and_self, beq_dec, fApp, Int.toNat_natCast, Nat.sub_zero, vmI, vc14_2]
      refine call_ok rfl rfl (e_give hs (n + 1) s1 p i1 _ v2 B N w tk kn1 P1 c z hS1 hW1 hrd hN hN2 hc (by omega) (by omega) hfu) ?_
      rintro x s3 ⟨i2, hW2, hS2⟩
      simp (disch := omega) only [vm0, vm1, vm2, vm3, vm4, vm5, vm6, vm7, fPick, fBox, fBuild, fBsl, fLd, fLda, fSt, fNilc, fBin, fEq, fUn, fMkf, fFa, fFld, fFlda, fExt, evo, wr, wrC, frame, Bool.not_true, Bool.not_false, beq_self_eq_true, List.cons_append, List.nil_append, Nat.add_zero, Nat.zero_add, Nat.reduceAdd, Nat.reduceMul, Nat.reduceSub, Bool.and_true, Bool.true_and, Bool.and_self, beq_dec, fApp, Int.toNat_natCast, Nat.sub_zero, vmI]
      refine ⟨m.toNat - (j + 1), by omega, j + 1, z + 1, _, i2, _, _, rfl, by omega, by omega, rfl, hW2, ?_, ?_, hS2⟩
      · intro q q1 q2 q3 q4
        rw [show ((j + 1 : Nat) : Int) = z + 1 by omega, hz1] at q2
        by_cases hq : q < z * c
        · exact .inl (hP1 q q1 hq q3 q4)
        · exact .inr ⟨by omega, by omega, q4⟩
      · intro hjm
        have : m = z + 1 := by omega
        subst this
        rw [show min (z * c + c) N = N by omega]
        simp
    · have hzm : z = m := by omega
      subst hzm
      have hkt : kn1 = true := hk1 rfl
      subst hkt
      have hfr := hW1.front_le (show 0 ≤ N by omega)
      obtain ⟨T, hT⟩ : ∃ T, min N (tk + w) = T := ⟨_, rfl⟩
      have hPe : ∀ q, P1 q ↔ (0 ≤ q ∧ q < N ∧ q < tk + w) := fun q => ⟨hW1.p q, fun ⟨a, b, c'⟩ => hP1 q a (by omega) b c'⟩
      have f1 := hW1.h.front (n := T) (by omega) (fun q a b => (hPe q).2 ⟨a, by omega, by omega⟩) (fun hq => by have := (hPe T).1 hq; omega)
      have hn1 : i1.n_ 4096 = T - tk := by rw [hW1.h.n_ f1]; omega
      obtain ⟨hW2, ho, ht1, ht2⟩ := hW1.read hN hN2 hw 4096
      rw [hn1, show tk + (T - tk) = T by omega] at hW2 ho
      rw [hT]
      simp (disch := omega) only [vm0, vm1, vm2, vm3, vm4, vm5, vm6, vm7, fPick, fBox, fBuild, fBsl, fLd, fLda, fSt, fNilc, fBin, fEq, fUn, fMkf, fFa, fFld, fFlda, fExt, evo, wr, wrC, frame, Bool.not_true, Bool.not_false, beq_self_eq_true, List.cons_append, List.nil_append, Nat.add_zero, Nat.zero_add, Nat.reduceAdd, Nat.reduceMul, Nat.reduceSub, Bool.and_true, Bool.true_and, Bool.and_self, beq_dec, fApp, Int.toNat_natCast, Nat.sub_zero, vmI, vc14_2]
      refine call_ok rfl rfl (e_read (n + 3) s1 p i1 _ 4096 hS1 hW1.h.g) ?_
      rintro x s3 ⟨k1, hS3⟩
      rw [ho] at k1
      obtain ⟨fo, ho3, up⟩ := hS3.up2.hd
      have k2 := k1.lenOf
      have k3 := k1.cellsOf
      have hL : ((B.take T.toNat).drop tk.toNat).length ≤ 1048576 := by simp; omega
      simp (disch := omega) only [vm0, vm1, vm2, vm3, vm4, vm5, vm6, vm7, fPick, fBox, fBuild, fBsl, fLd, fLda, fSt, fNilc, fBin, fEq, fUn, fMkf, fFa, fFld, fFlda, fExt, evo, wr, wrC, frame, Bool.not_true, Bool.not_false, beq_self_eq_true, List.cons_append, List.nil_append, Nat.add_zero, Nat.zero_add, Nat.reduceAdd, Nat.reduceMul, Nat.reduceSub, Bool.and_true, Bool.true_and, Bool.and_self, beq_dec, fApp, Int.toNat_natCast, Nat.sub_zero, vmI, k2, k3]
      refine op_app (show OwE s3 g 1 encB (B.take tk.toNat) fo from ho3) (by (repeat' (first | exact Fr.refl | assumption | apply Fr.new' | apply Fr.mk' | apply Fr.put')) <;> (first | omega | (left; simp; done) | (right; simp only [next_put, next_new, next_mk]; omega) | (simp only [next_put, next_new, next_mk]; omega))) (new := (B.take T.toNat).drop tk.toNat) rfl rfl (by simp; omega) ?_
      intro v' s4 fp' q1 q2 q3
      rw [take_two (by omega) (by omega)] at q1
      have hS4 := (up (oW v' 1 encB (B.take T.toNat)) q1 q2 q3).swap.drop.swap
      simp (disch := omega) only [vm0, vm1, vm2, vm3, vm4, vm5, vm6, vm7, fPick, fBox, fBuild, fBsl, fLd, fLda, fSt, fNilc, fBin, fEq, fUn, fMkf, fFa, fFld, fFlda, fExt, evo, wr, wrC, frame, Bool.not_true, Bool.not_false, beq_self_eq_true, List.cons_append, List.nil_append, Nat.add_zero, Nat.zero_add, Nat.reduceAdd, Nat.reduceMul, Nat.reduceSub, Bool.and_true, Bool.true_and, Bool.and_self, beq_dec, fApp, Int.toNat_natCast, Nat.sub_zero, vmI]
      exact ⟨rfl, _, _, _, _, rfl, ⟨hW2.h.congr hPe, fun q hq => by omega⟩, hS4⟩
end
end Go.Proofs.Ytekhpohcjfjhfaa.ctr
namespace Go.Proofs.Ytekhpohcjfjhfaa.ctr
open Go.Vm Go.RowKit Go.Ranges
set_option linter.unusedVariables false
set_option linter.constructorNameAsVariable false
set_option linter.unusedSimpArgs false
section
variable {bd : Bd} {h : VF} {fu : Nat}
set_option maxHeartbeats 1000000 in
set_option maxRecDepth 4000 in
theorem whole_end (hs : SortOk h) (n : Nat) (s2 s : St) (p : Nat) (i : IB) (v2 vo g : AV) (B : List Int) (N w c m : Int) (P : Int → Prop) (hS : Sep s2 s [oI p i, oW g 1 encB (B.take N.toNat)]) (hW : Wh B N w i N true P) (hrd : RdE s2 v2 1 encB B) (hN : (B.length : Int) = N) (hN2 : N ≤ 60) (hfu : 4000 < fu)
    (x6 x7 x9 x10 x11 x12 x13 x14 x15 : Option AV) :
    RsOk (exec bd (callF bd (tab h).get fu (n + 8)) fu vc14_5 [some v2, some (num w), some (num c), some vo, some (.ptr p 0), some g, x6, x7, some (num m), x9, x10, x11, x12, x13, x14, x15, some (.bool false)] s) (retQ [.tmp 16] fun x s' => Is x (.bool true)) := by
  have hf := hW.front_le (by omega)
  have f1 : frontR i.l = N := by omega
  have hP : ∀ q, 0 ≤ q → q < N → P q := fun q a b => (hW.h.m q).1 (front_mem hW.h.g.wf a (by omega))
  have hgN : B.take N.toNat = B := List.take_of_length_le (by omega)
  rw [hgN] at hS
  have do1 : i.done = true := by rw [hW.h.done]; simp [eOf]
  have se1 : i.seen = N + 1 := by rw [hW.h.seen f1]; simp [eOf]
  have re1 : i.ready = 0 := by rw [hW.h.ready f1]; omega
  have e2 := (hrd.fr0 hS.frm).lenV
  rw [hN] at e2
  have hn1 := hW.h.new_none (f := 0) (l := B) (fun q a b c => hP q a (by omega))
  obtain ⟨fo, ho, _⟩ := hS.swap.hd
  have hg := (show OwE s g 1 encB B fo from ho).rd
  simp (disch := omega) only [vm0, vm1, vm2, vm3, vm4, vm5, vm6, vm7, fPick, fBox, fBuild, fBsl, fLd, fLda, fSt, fNilc, fBin, fEq, fUn, fMkf, fFa, fFld, fFlda, fExt, evo, wr, wrC, frame, Bool.not_true, Bool.not_false, beq_self_eq_true, List.cons_append, List.nil_append, Nat.add_zero, Nat.zero_add, Nat.reduceAdd, Nat.reduceMul, Nat.reduceSub, Bool.and_true, Bool.true_and, Bool.and_self, beq_dec, fApp, Int.toNat_natCast, Nat.sub_zero, vmI, vc14_5]
  refine call_ok rfl rfl (e_done (n + 7) s p i _ hS) ?_
  rintro x s ⟨rfl, rfl⟩
  rw [do1]
  simp (disch := omega) only [vm0, vm1, vm2, vm3, vm4, vm5, vm6, vm7, fPick, fBox, fBuild, fBsl, fLd, fLda, fSt, fNilc, fBin, fEq, fUn, fMkf, fFa, fFld, fFlda, fExt, evo, wr, wrC, frame, Bool.not_true, Bool.not_false, beq_self_eq_true, List.cons_append, List.nil_append, Nat.add_zero, Nat.zero_add, Nat.reduceAdd, Nat.reduceMul, Nat.reduceSub, Bool.and_true, Bool.true_and, Bool.and_self, beq_dec, fApp, Int.toNat_natCast, Nat.sub_zero, vmI]
  refine call_ok rfl rfl (sameB (n + 7) s g v2 B B hg (hrd.fr0 hS.frm) (by omega) (by omega)) ?_
  rintro x s ⟨rfl, rfl⟩
  simp (disch := omega) only [vm0, vm1, vm2, vm3, vm4, vm5, vm6, vm7, fPick, fBox, fBuild, fBsl, fLd, fLda, fSt, fNilc, fBin, fEq, fUn, fMkf, fFa, fFld, fFlda, fExt, evo, wr, wrC, frame, Bool.not_true, Bool.not_false, beq_self_eq_true, List.cons_append, List.nil_append, Nat.add_zero, Nat.zero_add, Nat.reduceAdd, Nat.reduceMul, Nat.reduceSub, Bool.and_true, Bool.true_and, Bool.and_self, beq_dec, fApp, Int.toNat_natCast, Nat.sub_zero, vmI, decide_true]
  refine call_ok rfl rfl (e_seen (n + 4) s p i _ hS hW.h.g) ?_
  rintro x s3 ⟨rfl, hS3⟩
  rw [se1]
  simp (disch := omega) only [vm0, vm1, vm2, vm3, vm4, vm5, vm6, vm7, fPick, fBox, fBuild, fBsl, fLd, fLda, fSt, fNilc, fBin, fEq, fUn, fMkf, fFa, fFld, fFlda, fExt, evo, wr, wrC, frame, Bool.not_true, Bool.not_false, beq_self_eq_true, List.cons_append, List.nil_append, Nat.add_zero, Nat.zero_add, Nat.reduceAdd, Nat.reduceMul, Nat.reduceSub, Bool.and_true, Bool.true_and, Bool.and_self, beq_dec, fApp, Int.toNat_natCast, Nat.sub_zero, vmI, e2]
  refine call_ok rfl rfl (e_ready (n + 4) s3 p i _ hS3 hW.h.g) ?_
  rintro x s4 ⟨rfl, hS4⟩
  rw [re1]
  simp (disch := omega) only [vm0, vm1, vm2, vm3, vm4, vm5, vm6, vm7, fPick, fBox, fBuild, fBsl, fLd, fLda, fSt, fNilc, fBin, fEq, fUn, fMkf, fFa, fFld, fFlda, fExt, evo, wr, wrC, frame, Bool.not_true, Bool.not_false, beq_self_eq_true, List.cons_append, List.nil_append, Nat.add_zero, Nat.zero_add, Nat.reduceAdd, Nat.reduceMul, Nat.reduceSub, Bool.and_true, Bool.true_and, Bool.and_self, beq_dec, fApp, Int.toNat_natCast, Nat.sub_zero, vmI]
  refine call_ok rfl rfl (e_put hs (n + 2) s4 p i _ 0 v2 B true hS4 hW.h.g (by omega) hrd (by omega) hfu) ?_
  rintro x s5 ⟨rfl, hS5⟩
  rw [hn1]
  simp (disch := omega) only [vm0, vm1, vm2, vm3, vm4, vm5, vm6, vm7, fPick, fBox, fBuild, fBsl, fLd, fLda, fSt, fNilc, fBin, fEq, fUn, fMkf, fFa, fFld, fFlda, fExt, evo, wr, wrC, frame, Bool.not_true, Bool.not_false, beq_self_eq_true, List.cons_append, List.nil_append, Nat.add_zero, Nat.zero_add, Nat.reduceAdd, Nat.reduceMul, Nat.reduceSub, Bool.and_true, Bool.true_and, Bool.and_self, beq_dec, fApp, Int.toNat_natCast, Nat.sub_zero, vmI]
  refine call_ok rfl rfl (wakes16 hs (n + 1) s5 hfu) ?_
  rintro x s6 rfl
  simp (disch := omega) only [vm0, vm1, vm2, vm3, vm4, vm5, vm6, vm7, fPick, fBox, fBuild, fBsl, fLd, fLda, fSt, fNilc, fBin, fEq, fUn, fMkf, fFa, fFld, fFlda, fExt, evo, wr, wrC, frame, Bool.not_true, Bool.not_false, beq_self_eq_true, List.cons_append, List.nil_append, Nat.add_zero, Nat.zero_add, Nat.reduceAdd, Nat.reduceMul, Nat.reduceSub, Bool.and_true, Bool.true_and, Bool.and_self, beq_dec, fApp, Int.toNat_natCast, Nat.sub_zero, vmI]
  exact rfl
set_option maxHeartbeats 1000000 in
set_option maxRecDepth 4000 in
theorem whole_all (hs : SortOk h) (n : Nat) (s2 s : St) (p : Nat) (i : IB) (v2 vo g : AV) (B : List Int) (N w tk c m : Int) (kn : Bool) (P : Int → Prop) (hS : Sep s2 s [oI p i, oW g 1 encB (B.take tk.toNat)]) (hW : Wh B N w i tk kn P) (hrd : RdE s2 v2 1 encB B) (hN : (B.length : Int) = N) (hN2 : N ≤ 60) (hw : 1 ≤ w ∧ w ≤ 40) (hc : 1 ≤ c ∧ c ≤ 12) (hm : 1 ≤ m ∧ m ≤ 61) (hm1 : (m - 1) * c ≤ N) (hm2 : N < m * c) (hfu : 4000 < fu)
    (x6 x7 x9 x10 x11 x12 x13 x14 x15 : Option AV) :
    RsOk (exec bd (callF bd (tab h).get fu (n + 8)) fu (.seq (.seq (.reg [] [(9, (.c (.int .i64 (.c 0))))]) (.block 2 (.loop vc14_4))) vc14_5) [some v2, some (num w), some (num c), some vo, some (.ptr p 0), some g, x6, x7, some (num m), x9, x10, x11, x12, x13, x14, x15, some (.bool false)] s) (retQ [.tmp 16] fun x s' => Is x (.bool true)) := by
  obtain ⟨L, hL⟩ : ∃ L : Nat, L = 200 := ⟨_, rfl⟩
  simp (disch := omega) only [vm0, vm1, vm2, vm3, vm4, vm5, vm6, vm7, fPick, fBox, fBuild, fBsl, fLd, fLda, fSt, fNilc, fBin, fEq, fUn, fMkf, fFa, fFld, fFlda, fExt, evo, wr, wrC, frame, Bool.not_true, Bool.not_false, beq_self_eq_true, List.cons_append, List.nil_append, Nat.add_zero, Nat.zero_add, Nat.reduceAdd, Nat.reduceMul, Nat.reduceSub, Bool.and_true, Bool.true_and, Bool.and_self, beq_dec, fApp, Int.toNat_natCast, Nat.sub_zero, vmI]
  refine x_loop (fun m' F s' => ∃ k : Nat, ∃ z x7 x14 x15 g' i' tk' kn' P', m' = L - k ∧ k ≤ L ∧ z = (k : Int) ∧ F = [some v2, some (num w), some (num c), some vo, some (.ptr p 0), some g', x6, x7, some (num m), some (num z), x10, x11, x12, x13, x14, x15, some (.bool false)] ∧ Wh B N w i' tk' kn' P' ∧ (k = 0 ∨ (kn' = true ∧ min N k ≤ tk')) ∧ Sep s2 s' [oI p i', oW g' 1 encB (B.take tk'.toNat)]) L (by omega) ?_ ?_
  · exact ⟨0, _, _, _, _, g, i, tk, kn, P, by omega, by omega, rfl, rfl, hW, .inl rfl, hS⟩
  · rintro m' F s1 ⟨k, _, x7, x14, x15, g1, i1, tk1, kn1, P1, rfl, hk, rfl, rfl, hW1, hp, hS1⟩ hm'
    obtain ⟨z, hz⟩ : ∃ z : Int, (k : Int) = z := ⟨_, rfl⟩
    rw [hz] at hp ⊢
    have hf := hW1.front_le (show 0 ≤ N by omega)
    have hdn : i1.done = (kn1 && decide (tk1 = eOf N kn1)) := hW1.h.done
    rcases Classical.em (kn1 = true ∧ tk1 = N) with hd | hd
    · obtain ⟨rfl, rfl⟩ := hd
      have hdt : i1.done = true := by rw [hdn]; simp [eOf]
      by_cases h200 : k < 200
      · simp (disch := omega) only [vm0, vm1, vm2, vm3, vm4, vm5, vm6, vm7, fPick, fBox, fBuild, fBsl, fLd, fLda, fSt, fNilc, fBin, fEq, fUn, fMkf, fFa, fFld, fFlda, fExt, evo, wr, wrC, frame, Bool.not_true, Bool.not_false, beq_self_eq_true, List.cons_append, List.nil_append, Nat.add_zero, Nat.zero_add, Nat.reduceAdd, Nat.reduceMul, Nat.reduceSub, Bool.and_true, Bool.true_and, Bool.and_self, beq_dec, fApp, Int.toNat_natCast, Nat.sub_zero, vmI, vc14_4]
        refine call_ok rfl rfl (e_done (n + 7) s1 p i1 _ hS1) ?_
        rintro x s1 ⟨rfl, rfl⟩
        rw [hdt]
        simp (disch := omega) only [vm0, vm1, vm2, vm3, vm4, vm5, vm6, vm7, fPick, fBox, fBuild, fBsl, fLd, fLda, fSt, fNilc, fBin, fEq, fUn, fMkf, fFa, fFld, fFlda, fExt, evo, wr, wrC, frame, Bool.not_true, Bool.not_false, beq_self_eq_true, List.cons_append, List.nil_append, Nat.add_zero, Nat.zero_add, Nat.reduceAdd, Nat.reduceMul, Nat.reduceSub, Bool.and_true, Bool.true_and, Bool.and_self, beq_dec, fApp, Int.toNat_natCast, Nat.sub_zero, vmI]
        exact whole_end hs n s2 s1 p i1 v2 vo g1 B tk1 w c m P1 hS1 hW1 hrd hN hN2 hfu _ _ _ _ _ _ _ _ _
      · simp (disch := omega) only [vm0, vm1, vm2, vm3, vm4, vm5, vm6, vm7, fPick, fBox, fBuild, fBsl, fLd, fLda, fSt, fNilc, fBin, fEq, fUn, fMkf, fFa, fFld, fFlda, fExt, evo, wr, wrC, frame, Bool.not_true, Bool.not_false, beq_self_eq_true, List.cons_append, List.nil_append, Nat.add_zero, Nat.zero_add, Nat.reduceAdd, Nat.reduceMul, Nat.reduceSub, Bool.and_true, Bool.true_and, Bool.and_self, beq_dec, fApp, Int.toNat_natCast, Nat.sub_zero, vmI, vc14_4]
        exact whole_end hs n s2 s1 p i1 v2 vo g1 B tk1 w c m P1 hS1 hW1 hrd hN hN2 hfu _ _ _ _ _ _ _ _ _
    · have h200 : k < 200 := by
        rcases hp with hp | ⟨hp1, hp2⟩
        · omega
        · exact Nat.lt_of_not_le fun hh => hd ⟨hp1, by omega⟩
      have hdt : i1.done = false := by
        rw [hdn]
        cases kn1
        · rfl
        · simp only [Bool.true_and, eOf, if_true, decide_eq_false_iff_not]
          exact fun hh => hd ⟨rfl, hh⟩
      simp (disch := omega) only [vm0, vm1, vm2, vm3, vm4, vm5, vm6, vm7, fPick, fBox, fBuild, fBsl, fLd, fLda, fSt, fNilc, fBin, fEq, fUn, fMkf, fFa, fFld, fFlda, fExt, evo, wr, wrC, frame, Bool.not_true, Bool.not_false, beq_self_eq_true, List.cons_append, List.nil_append, Nat.add_zero, Nat.zero_add, Nat.reduceAdd, Nat.reduceMul, Nat.reduceSub, Bool.and_true, Bool.true_and, Bool.and_self, beq_dec, fApp, Int.toNat_natCast, Nat.sub_zero, vmI, vc14_4]
      refine call_ok rfl rfl (e_done (n + 7) s1 p i1 _ hS1) ?_
      rintro x s1 ⟨rfl, rfl⟩
      rw [hdt]
      simp (disch := omega) only [vm0, vm1, vm2, vm3, vm4, vm5, vm6, vm7, fPick, fBox, fBuild, fBsl, fLd, fLda, fSt, fNilc, fBin, fEq, fUn, fMkf, fFa, fFld, fFlda, fExt, evo, wr, wrC, frame, Bool.not_true, Bool.not_false, beq_self_eq_true, List.cons_append, List.nil_append, Nat.add_zero, Nat.zero_add, Nat.reduceAdd, Nat.reduceMul, Nat.reduceSub, Bool.and_true, Bool.true_and, Bool.and_self, beq_dec, fApp, Int.toNat_natCast, Nat.sub_zero, vmI]
      refine RsOk.mono (whole_round hs n s2 s1 p i1 v2 vo g1 B N w tk1 c m kn1 P1 hS1 hW1 hrd hN hN2 hw hc hm hm1 hm2 hfu _ _ _ _ _ _ _ _ _) ?_
      rintro e F' s3 ⟨rfl, g', x7', x15', i', rfl, hW3, hS3⟩
      simp (disch := omega) only [vm0, vm1, vm2, vm3, vm4, vm5, vm6, vm7, fPick, fBox, fBuild, fBsl, fLd, fLda, fSt, fNilc, fBin, fEq, fUn, fMkf, fFa, fFld, fFlda, fExt, evo, wr, wrC, frame, Bool.not_true, Bool.not_false, beq_self_eq_true, List.cons_append, List.nil_append, Nat.add_zero, Nat.zero_add, Nat.reduceAdd, Nat.reduceMul, Nat.reduceSub, Bool.and_true, Bool.true_and, Bool.and_self, beq_dec, fApp, Int.toNat_natCast, Nat.sub_zero, vmI]
      exact ⟨L - (k + 1), by omega, k + 1, z + 1, _, _, _, _, i', _, _, _, rfl, by omega, by omega, rfl, hW3, .inr ⟨rfl, by omega⟩, hS3⟩
end
end Go.Proofs.Ytekhpohcjfjhfaa.ctr
namespace Go.Proofs.Ytekhpohcjfjhfaa.ctr
open Go.Vm Go.RowKit Go.Ranges
set_option linter.unusedVariables false
set_option linter.constructorNameAsVariable false
set_option linter.unusedSimpArgs false
section
variable {bd : Bd} {h : VF} {fu : Nat}
/-- the checks of a round -/
noncomputable def vc14c : VC := (.seq (.reg [.i (.call (.c (.fn 72 [] [])) [(.w 4)]), .i (.len (.w 5)), .i (.bin .neq (.t 1) (.t 0)), .g (.t 0) false (.mv (.w 5)), .g (.t 1) false (.len (.t 0)), .g (.t 2) false (.mv (.w 0)), .g (.t 3) false (.len (.t 0)), .g (.t 4) false (.bin .gtr (.t 2) (.t 0)), .i (.pick (.t 5) (.c (.bool true)) (.t 0)), .g (.t 0) false (.mv (.w 5)), .g (.t 1) false (.mv (.w 0)), .g (.t 2) false (.mv (.w 5)), .g (.t 3) false (.len (.t 0)), .g (.t 4) false (.sli 1 (.t 2) none (some (.t 0)) none), .g (.t 5) false (.call (.c (.fn 51 [] [])) [(.t 4), (.t 0)]), .g (.t 6) false (.un .not (.t 0)), .i (.pick (.t 7) (.c (.bool true)) (.t 0)), .g (.t 0) false (.mv (.w 4)), .g (.t 1) false (.call (.c (.fn 70 [] [])) [(.t 0)]), .g (.t 2) false (.mv (.w 5)), .g (.t 3) false (.len (.t 0)), .g (.t 4) false (.mv (.w 1)), .g (.t 5) false (.bin .add (.t 1) (.t 0)), .g (.t 6) false (.bin .neq (.t 4) (.t 0)), .i (.pick (.t 7) (.c (.bool true)) (.t 0)), .g (.t 0) false (.mv (.w 4)), .g (.t 1) false (.call (.c (.fn 66 [] [])) [(.t 0)]), .g (.t 2) false (.mv (.w 5)), .g (.t 3) false (.len (.t 0)), .g (.t 4) false (.mv (.w 4)), .g (.t 5) false (.call (.c (.fn 67 [] [])) [(.t 0)]), .g (.t 6) false (.bin .add (.t 2) (.t 0)), .g (.t 7) false (.bin .lss (.t 5) (.t 0)), .i (.pick (.t 8) (.c (.bool true)) (.t 0)), .g (.t 0) false (.mv (.w 4)), .g (.t 1) false (.call (.c (.fn 66 [] [])) [(.t 0)]), .g (.t 2) false (.mv (.w 0)), .g (.t 3) false (.len (.t 0)), .g (.t 4) false (.bin .add (.t 0) (.c (.int .i64 (.c 1)))), .g (.t 5) false (.bin .gtr (.t 3) (.t 0)), .i (.pick (.t 6) (.c (.bool true)) (.t 0))] [(13, (.t 0))]) (.cond (.w 13) (.seq (.reg [] [(16, (.c (.bool false)))]) .ret) .skip))
set_option maxHeartbeats 1000000 in
theorem whole_check (hs : SortOk h) (n : Nat) (s2 s : St) (p : Nat) (i : IB) (v2 vo g : AV) (B : List Int) (N w tk c m : Int) (kn : Bool) (P : Int → Prop) (hS : Sep s2 s [oI p i, oW g 1 encB (B.take tk.toNat)]) (hW : Wh B N w i tk kn P) (hrd : RdE s2 v2 1 encB B) (hN : (B.length : Int) = N) (hN2 : N ≤ 60) (hw : 1 ≤ w ∧ w ≤ 40) (hfu : 4000 < fu)
    (x6 x7 x9 x10 x11 x12 x13 x14 x15 : Option AV) :
    RsOk (exec bd (callF bd (tab h).get fu (n + 8)) fu vc14c [some v2, some (num w), some (num c), some vo, some (.ptr p 0), some g, x6, x7, some (num m), x9, x10, x11, x12, x13, x14, x15, some (.bool false)] s)
      (fun e F' s' => Is e .normal ∧ ∃ x13, F' = [some v2, some (num w), some (num c), some vo, some (.ptr p 0), some g, x6, x7, some (num m), x9, x10, x11, x12, x13, x14, x15, some (.bool false)] ∧ Sep s2 s' [oI p i, oW g 1 encB (B.take tk.toNat)]) := by
  have hf := hW.front_le (show 0 ≤ N by omega)
  obtain ⟨f, hfr⟩ : ∃ f, frontR i.l = f := ⟨_, rfl⟩
  rw [hfr] at hf
  have hl : ((B.take tk.toNat).length : Int) = tk := by simp; omega
  have re1 : i.ready = f - tk := hW.h.ready hfr
  have se1 : i.seen = if kn = true ∧ f = eOf N kn then eOf N kn + 1 else f := hW.h.seen hfr
  have se2 : f ≤ i.seen ∧ i.seen ≤ N + 1 := by
    rw [se1]
    split
    · rename_i hh
      obtain ⟨rfl, hh⟩ := hh
      simp only [eOf, if_true] at hh ⊢
      omega
    · omega
  obtain ⟨z, hz⟩ : ∃ z, i.seen = z := ⟨_, rfl⟩
  rw [hz] at se2
  have li1 : i.limit = tk + w := hW.h.limit
  have e2 := (hrd.fr0 hS.frm).lenV
  rw [hN] at e2
  obtain ⟨u, g1, k1⟩ := hrd.sliH (b := tk) (by omega) (by omega)
  obtain ⟨fo, ho, _⟩ := hS.swap.hd
  have hg := (show OwE s g 1 encB (B.take tk.toNat) fo from ho).rd
  have e3 := hg.lenV
  rw [hl] at e3
  simp (disch := omega) only [vm0, vm1, vm2, vm3, vm4, vm5, vm6, vm7, fPick, fBox, fBuild, fBsl, fLd, fLda, fSt, fNilc, fBin, fEq, fUn, fMkf, fFa, fFld, fFlda, fExt, evo, wr, wrC, frame, Bool.not_true, Bool.not_false, beq_self_eq_true, List.cons_append, List.nil_append, Nat.add_zero, Nat.zero_add, Nat.reduceAdd, Nat.reduceMul, Nat.reduceSub, Bool.and_true, Bool.true_and, Bool.and_self, beq_dec, fApp, Int.toNat_natCast, Nat.sub_zero, vmI, vc14c]
  refine call_ok rfl rfl (e_taken (n + 7) s p i _ hS) ?_
  rintro x s ⟨rfl, rfl⟩
  rw [hW.h.tk]
  simp (disch := omega) only [vm0, vm1, vm2, vm3, vm4, vm5, vm6, vm7, fPick, fBox, fBuild, fBsl, fLd, fLda, fSt, fNilc, fBin, fEq, fUn, fMkf, fFa, fFld, fFlda, fExt, evo, wr, wrC, frame, Bool.not_true, Bool.not_false, beq_self_eq_true, List.cons_append, List.nil_append, Nat.add_zero, Nat.zero_add, Nat.reduceAdd, Nat.reduceMul, Nat.reduceSub, Bool.and_true, Bool.true_and, Bool.and_self, beq_dec, fApp, Int.toNat_natCast, Nat.sub_zero, vmI, e3, e2, g1]
  refine call_ok rfl rfl (sameB (n + 7) s g u _ _ hg (k1.fr0 hS.frm) (by omega) (by omega)) ?_
  rintro x s ⟨rfl, rfl⟩
  simp (disch := omega) only [vm0, vm1, vm2, vm3, vm4, vm5, vm6, vm7, fPick, fBox, fBuild, fBsl, fLd, fLda, fSt, fNilc, fBin, fEq, fUn, fMkf, fFa, fFld, fFlda, fExt, evo, wr, wrC, frame, Bool.not_true, Bool.not_false, beq_self_eq_true, List.cons_append, List.nil_append, Nat.add_zero, Nat.zero_add, Nat.reduceAdd, Nat.reduceMul, Nat.reduceSub, Bool.and_true, Bool.true_and, Bool.and_self, beq_dec, fApp, Int.toNat_natCast, Nat.sub_zero, vmI, decide_true]
  refine call_ok rfl rfl (e_limit (n + 7) s p i _ hS hW.h.g) ?_
  rintro x s ⟨rfl, rfl⟩
  rw [li1]
  simp (disch := omega) only [vm0, vm1, vm2, vm3, vm4, vm5, vm6, vm7, fPick, fBox, fBuild, fBsl, fLd, fLda, fSt, fNilc, fBin, fEq, fUn, fMkf, fFa, fFld, fFlda, fExt, evo, wr, wrC, frame, Bool.not_true, Bool.not_false, beq_self_eq_true, List.cons_append, List.nil_append, Nat.add_zero, Nat.zero_add, Nat.reduceAdd, Nat.reduceMul, Nat.reduceSub, Bool.and_true, Bool.true_and, Bool.and_self, beq_dec, fApp, Int.toNat_natCast, Nat.sub_zero, vmI, e3]
  refine call_ok rfl rfl (e_seen (n + 4) s p i _ hS hW.h.g) ?_
  rintro x s3 ⟨rfl, hS3⟩
  rw [hz]
  simp (disch := omega) only [vm0, vm1, vm2, vm3, vm4, vm5, vm6, vm7, fPick, fBox, fBuild, fBsl, fLd, fLda, fSt, fNilc, fBin, fEq, fUn, fMkf, fFa, fFld, fFlda, fExt, evo, wr, wrC, frame, Bool.not_true, Bool.not_false, beq_self_eq_true, List.cons_append, List.nil_append, Nat.add_zero, Nat.zero_add, Nat.reduceAdd, Nat.reduceMul, Nat.reduceSub, Bool.and_true, Bool.true_and, Bool.and_self, beq_dec, fApp, Int.toNat_natCast, Nat.sub_zero, vmI, e3]
  refine call_ok rfl rfl (e_ready (n + 4) s3 p i _ hS3 hW.h.g) ?_
  rintro x s4 ⟨rfl, hS4⟩
  rw [re1]
  simp (disch := omega) only [vm0, vm1, vm2, vm3, vm4, vm5, vm6, vm7, fPick, fBox, fBuild, fBsl, fLd, fLda, fSt, fNilc, fBin, fEq, fUn, fMkf, fFa, fFld, fFlda, fExt, evo, wr, wrC, frame, Bool.not_true, Bool.not_false, beq_self_eq_true, List.cons_append, List.nil_append, Nat.add_zero, Nat.zero_add, Nat.reduceAdd, Nat.reduceMul, Nat.reduceSub, Bool.and_true, Bool.true_and, Bool.and_self, beq_dec, fApp, Int.toNat_natCast, Nat.sub_zero, vmI]
  refine call_ok rfl rfl (e_seen (n + 4) s4 p i _ hS4 hW.h.g) ?_
  rintro x s5 ⟨rfl, hS5⟩
  rw [hz]
  simp (disch := omega) only [vm0, vm1, vm2, vm3, vm4, vm5, vm6, vm7, fPick, fBox, fBuild, fBsl, fLd, fLda, fSt, fNilc, fBin, fEq, fUn, fMkf, fFa, fFld, fFlda, fExt, evo, wr, wrC, frame, Bool.not_true, Bool.not_false, beq_self_eq_true, List.cons_append, List.nil_append, Nat.add_zero, Nat.zero_add, Nat.reduceAdd, Nat.reduceMul, Nat.reduceSub, Bool.and_true, Bool.true_and, Bool.and_self, beq_dec, fApp, Int.toNat_natCast, Nat.sub_zero, vmI, e2]
  exact ⟨rfl, _, rfl, hS5⟩
theorem vc14_0_eq : vc14_0 = .seq (.reg [.i (.ia 1 (.w 3) (.w 6)), .i (.ld (.t 0)), .i (.call (.c (.fn 17 [] [])) [(.t 0), (.w 8)]), .i (.call (.c (.fn 73 [] [])) [(.w 4), (.w 0), (.w 2), (.t 0)])] []) (.seq (.seq (.reg [.i (.ia 1 (.w 3) (.w 6)), .i (.ld (.t 0)), .i (.bin .rem (.t 0) (.c (.int .i64 (.c 3)))), .i (.bin .eql (.t 0) (.c (.int .i64 (.c 0))))] [(12, (.t 0))]) (.cond (.w 12) (.reg [.i (.ia 1 (.w 3) (.w 6)), .i (.ld (.t 0)), .i (.call (.c (.fn 17 [] [])) [(.t 0), (.c (.int .i64 (.c 20)))]), .i (.call (.c (.fn 69 [] [])) [(.w 4), (.t 0)]), .i (.app 1 1 (.w 5) (.t 0))] [(5, (.t 0))]) .skip)) vc14c) := rfl
set_option maxHeartbeats 1000000 in
set_option maxRecDepth 4000 in
theorem whole_step (hs : SortOk h) (n : Nat) (s2 s : St) (p : Nat) (i : IB) (v2 vo g : AV) (B : List Int) (N w tk c m : Int) (kn : Bool) (P : Int → Prop) (hS : Sep s2 s [oI p i, oW g 1 encB (B.take tk.toNat)]) (hW : Wh B N w i tk kn P) (hrd : RdE s2 v2 1 encB B) (hN : (B.length : Int) = N) (hN2 : N ≤ 60) (hw : 1 ≤ w ∧ w ≤ 40) (hc : 1 ≤ c ∧ c ≤ 12) (hm : 1 ≤ m ∧ m ≤ 61) (hm1 : (m - 1) * c ≤ N) (hfu : 4000 < fu)
    (ord : List Int) (hvo : RdE s2 vo 1 Vm.encI ord) (j : Nat) (x : Int) (hx : ord[j]? = some x) (hx64 : In64 x) (z : Int) (hz : (j : Int) = z)
    (x7 x9 x10 x11 x12 x13 x14 x15 : Option AV) :
    RsOk (exec bd (callF bd (tab h).get fu (n + 8)) fu vc14_0 [some v2, some (num w), some (num c), some vo, some (.ptr p 0), some g, some (num z), x7, some (num m), x9, x10, x11, x12, x13, x14, x15, some (.bool false)] s)
      (fun e F' s' => Is e .normal ∧ ∃ g' x12 x13 i' tk' kn' P', F' = [some v2, some (num w), some (num c), some vo, some (.ptr p 0), some g', some (num z), x7, some (num m), x9, x10, x11, x12, x13, x14, x15, some (.bool false)] ∧ Wh B N w i' tk' kn' P' ∧ Sep s2 s' [oI p i', oW g' 1 encB (B.take tk'.toNat)]) := by
  have e1 := hvo.ia hx
  rw [hz] at e1
  have e2 : ob (s.heap.get (sblk vo)) (rd1C (soff vo + j * 1)) = some (num x) := rd_1 ((hvo.fr0 hS.frm).at hx)
  have eb := (hvo.fr0 hS.frm).blk' hx
  have hr0 := Int.emod_nonneg x (show m ≠ 0 by omega)
  have hr1 := Int.emod_lt_of_pos x (show 0 < m by omega)
  rw [vc14_0_eq]
  simp (disch := omega) only [vm0, vm1, vm2, vm3, vm4, vm5, vm6, vm7, fPick, fBox, fBuild, fBsl, fLd, fLda, fSt, fNilc, fBin, fEq, fUn, fMkf, fFa, fFld, fFlda, fExt, evo, wr, wrC, frame, Bool.not_true, Bool.not_false, beq_self_eq_true, List.cons_append, List.nil_append, Nat.add_zero, Nat.zero_add, Nat.reduceAdd, Nat.reduceMul, Nat.reduceSub, Bool.and_true, Bool.true_and, Bool.and_self, beq_dec, fApp, Int.toNat_natCast, Nat.sub_zero, vmI, e1, e2]
  refine call_ok rfl rfl (withinP (n + 7) s x m hx64 (by omega) (by omega)) ?_
  rintro y s ⟨rfl, rfl⟩
  obtain ⟨k, hk⟩ : ∃ k, x % m = k := ⟨_, rfl⟩
  rw [hk] at hr0 hr1 ⊢
  have hkc : k * c ≤ (m - 1) * c := Int.mul_le_mul_of_nonneg_right (by omega) (by omega)
  simp (disch := omega) only [vm0, vm1, vm2, vm3, vm4, vm5, vm6, vm7, fPick, fBox, fBuild, fBsl, fLd, fLda, fSt, fNilc, fBin, fEq, fUn, fMkf, fFa, fFld, fFlda, fExt, evo, wr, wrC, frame, Bool.not_true, Bool.not_false, beq_self_eq_true, List.cons_append, List.nil_append, Nat.add_zero, Nat.zero_add, Nat.reduceAdd, Nat.reduceMul, Nat.reduceSub, Bool.and_true, Bool.true_and, Bool.and_self, beq_dec, fApp, Int.toNat_natCast, Nat.sub_zero, vmI]
  refine call_ok rfl rfl (e_give hs (n + 1) s p i _ v2 B N w tk kn P c k hS hW hrd hN hN2 hc hr0 (by omega) hfu) ?_
  rintro y s3 ⟨i2, hW2, hS2⟩
  have e2' : ob (s3.heap.get (sblk vo)) (rd1C (soff vo + j * 1)) = some (num x) := rd_1 ((hvo.fr0 hS2.frm).at hx)
  have h3 : (3 : Int) ≠ 0 := by omega
  by_cases h0 : x.tmod 3 = 0
  · simp (disch := omega) only [vm0, vm1, vm2, vm3, vm4, vm5, vm6, vm7, fPick, fBox, fBuild, fBsl, fLd, fLda, fSt, fNilc, fBin, fEq, fUn, fMkf, fFa, fFld, fFlda, fExt, evo, wr, wrC, frame, Bool.not_true, Bool.not_false, beq_self_eq_true, List.cons_append, List.nil_append, Nat.add_zero, Nat.zero_add, Nat.reduceAdd, Nat.reduceMul, Nat.reduceSub, Bool.and_true, Bool.true_and, Bool.and_self, beq_dec, fApp, Int.toNat_natCast, Nat.sub_zero, vmI, e1, e2', b_rem h3, h0]
    refine call_ok rfl rfl (withinP (n + 7) s3 x 20 hx64 (by omega) (by omega)) ?_
    rintro y s3 ⟨rfl, rfl⟩
    obtain ⟨r, hr⟩ : ∃ r, x % 20 = r := ⟨_, rfl⟩
    rw [hr]
    simp (disch := omega) only [vm0, vm1, vm2, vm3, vm4, vm5, vm6, vm7, fPick, fBox, fBuild, fBsl, fLd, fLda, fSt, fNilc, fBin, fEq, fUn, fMkf, fFa, fFld, fFlda, fExt, evo, wr, wrC, frame, Bool.not_true, Bool.not_false, beq_self_eq_true, List.cons_append, List.nil_append, Nat.add_zero, Nat.zero_add, Nat.reduceAdd, Nat.reduceMul, Nat.reduceSub, Bool.and_true, Bool.true_and, Bool.and_self, beq_dec, fApp, Int.toNat_natCast, Nat.sub_zero, vmI]
    obtain ⟨hW3, ho, ht1, ht2⟩ := hW2.read hN hN2 hw r
    have hf2 := hW2.front_le (show 0 ≤ N by omega)
    obtain ⟨T, hT⟩ : ∃ T, tk + i2.n_ r = T := ⟨_, rfl⟩
    rw [hT] at hW3 ho ht2
    refine call_ok rfl rfl (e_read (n + 3) s3 p i2 _ r hS2 hW2.h.g) ?_
    rintro y s4 ⟨k1, hS4⟩
    rw [ho] at k1
    obtain ⟨fo, ho3, up⟩ := hS4.up2.hd
    have k2 := k1.lenOf
    have k3 := k1.cellsOf
    have hL : ((B.take T.toNat).drop tk.toNat).length ≤ 1048576 := by simp; omega
    simp (disch := omega) only [vm0, vm1, vm2, vm3, vm4, vm5, vm6, vm7, fPick, fBox, fBuild, fBsl, fLd, fLda, fSt, fNilc, fBin, fEq, fUn, fMkf, fFa, fFld, fFlda, fExt, evo, wr, wrC, frame, Bool.not_true, Bool.not_false, beq_self_eq_true, List.cons_append, List.nil_append, Nat.add_zero, Nat.zero_add, Nat.reduceAdd, Nat.reduceMul, Nat.reduceSub, Bool.and_true, Bool.true_and, Bool.and_self, beq_dec, fApp, Int.toNat_natCast, Nat.sub_zero, vmI, k2, k3]
    refine op_app (show OwE s4 g 1 encB (B.take tk.toNat) fo from ho3) (by (repeat' (first | exact Fr.refl | assumption | apply Fr.new' | apply Fr.mk' | apply Fr.put')) <;> (first | omega | (left; simp; done) | (right; simp only [next_put, next_new, next_mk]; omega) | (simp only [next_put, next_new, next_mk]; omega))) (new := (B.take T.toNat).drop tk.toNat) rfl rfl (by simp; omega) ?_
    intro v' s5 fp' q1 q2 q3
    rw [take_two (by omega) (by omega)] at q1
    have hS5 := (up (oW v' 1 encB (B.take T.toNat)) q1 q2 q3).swap.drop.swap
    simp (disch := omega) only [vm0, vm1, vm2, vm3, vm4, vm5, vm6, vm7, fPick, fBox, fBuild, fBsl, fLd, fLda, fSt, fNilc, fBin, fEq, fUn, fMkf, fFa, fFld, fFlda, fExt, evo, wr, wrC, frame, Bool.not_true, Bool.not_false, beq_self_eq_true, List.cons_append, List.nil_append, Nat.add_zero, Nat.zero_add, Nat.reduceAdd, Nat.reduceMul, Nat.reduceSub, Bool.and_true, Bool.true_and, Bool.and_self, beq_dec, fApp, Int.toNat_natCast, Nat.sub_zero, vmI]
    refine RsOk.mono (whole_check hs n s2 s5 p _ v2 vo v' B N w T c m _ _ hS5 hW3 hrd hN hN2 hw hfu _ _ _ _ _ _ _ _ _) ?_
    rintro e F' s6 ⟨rfl, x13', rfl, hS6⟩
    exact ⟨rfl, _, _, _, _, _, _, _, rfl, hW3, hS6⟩
  · simp (disch := omega) only [vm0, vm1, vm2, vm3, vm4, vm5, vm6, vm7, fPick, fBox, fBuild, fBsl, fLd, fLda, fSt, fNilc, fBin, fEq, fUn, fMkf, fFa, fFld, fFlda, fExt, evo, wr, wrC, frame, Bool.not_true, Bool.not_false, beq_self_eq_true, List.cons_append, List.nil_append, Nat.add_zero, Nat.zero_add, Nat.reduceAdd, Nat.reduceMul, Nat.reduceSub, Bool.and_true, Bool.true_and, Bool.and_self, beq_dec, fApp, Int.toNat_natCast, Nat.sub_zero, vmI, e1, e2', b_rem h3, h0]
    refine RsOk.mono (whole_check hs n s2 s3 p _ v2 vo g B N w tk c m _ _ hS2 hW2 hrd hN hN2 hw hfu _ _ _ _ _ _ _ _ _) ?_
    rintro e F' s6 ⟨rfl, x13', rfl, hS6⟩
    exact ⟨rfl, _, _, _, _, _, _, _, rfl, hW2, hS6⟩
end
end Go.Proofs.Ytekhpohcjfjhfaa.ctr
namespace Go.Proofs.Ytekhpohcjfjhfaa.ctr
open Go.Vm Go.RowKit Go.Ranges
set_option linter.unusedVariables false
set_option linter.constructorNameAsVariable false
set_option linter.unusedSimpArgs false
section
variable {bd : Bd} {h : VF} {fu : Nat}
noncomputable def vc14r : VC := (.seq (.seq (.reg [] [(9, (.c (.int .i64 (.c 0))))]) (.block 2 (.loop vc14_4))) vc14_5)
theorem vc14_eq : vc14 = (.seq (.reg [] [(16, (.c (.bool false)))]) (.seq (.reg [.i (.call (.c (.fn 31 [] [])) [(.w 0), (.c (.int .i64 (.c 60)))])] [(0, (.t 0))]) (.seq (.reg [.i (.call (.c (.fn 17 [] [])) [(.w 1), (.c (.int .i64 (.c 40)))]), .i (.bin .add (.c (.int .i64 (.c 1))) (.t 0)), .i (.call (.c (.fn 17 [] [])) [(.w 2), (.c (.int .i64 (.c 12)))]), .i (.bin .add (.c (.int .i64 (.c 1))) (.t 0))] [(1, (.t 2)), (2, (.t 0))]) (.seq (.reg [.i (.call (.c (.fn 64 [] [])) [(.w 1)])] [(4, (.t 0))]) (.seq (.seq (.reg [.i (.eq false .p (.w 4) (.c (.nilp)))] [(10, (.t 0))]) (.cond (.w 10) (.seq (.reg [] [(16, (.c (.bool false)))]) .ret) .skip)) (.seq (.reg [.i (.len (.w 0)), .i (.bin .quo (.t 0) (.w 2)), .i (.bin .add (.t 0) (.c (.int .i64 (.c 1))))] [(8, (.t 0))]) (.seq (.reg [] [(5, (.c (.nils)))]) (.seq (.seq (.reg [] [(6, (.c (.int .i64 (.c 0))))]) (.block 0 (.loop vc14_1))) vc14r)))))))) := rfl
set_option maxHeartbeats 1000000 in
set_option maxRecDepth 4000 in
theorem whole (hs : SortOk h) (n : Nat) (s : St) (v : AV) (w0 c0 : Int) (vo : AV) (b ord : List Int) (hv : RdE s v 1 encB b) (hvo : RdE s vo 1 Vm.encI ord) (hio : ∀ x ∈ ord, In64 x) (hw0 : In64 w0) (hc0 : In64 c0) (hfu : 4000 < fu) :
    OutOk (callF bd (tab h).get fu (n + 9) 14 [v, num w0, num c0, vo] s) (fun x s' => Is x (.bool true)) := by
  refine call_code (t14 h) rfl ?_
  rw [vc14_eq]
  simp (disch := omega) only [vm0, vm1, vm2, vm3, vm4, vm5, vm6, vm7, fPick, fBox, fBuild, fBsl, fLd, fLda, fSt, fNilc, fBin, fEq, fUn, fMkf, fFa, fFld, fFlda, fExt, evo, wr, wrC, frame, Bool.not_true, Bool.not_false, beq_self_eq_true, List.cons_append, List.nil_append, Nat.add_zero, Nat.zero_add, Nat.reduceAdd, Nat.reduceMul, Nat.reduceSub, Bool.and_true, Bool.true_and, Bool.and_self, beq_dec, fApp, Int.toNat_natCast, Nat.sub_zero, vmI]
  refine call_ok rfl rfl (cutB (n + 6) s v b 60 (by omega) (by omega) hv) ?_
  rintro v2 s2 ⟨f2, q4, q2, q3⟩
  obtain ⟨B, hB⟩ : ∃ B, b.take (Int.toNat 60) = B := ⟨_, rfl⟩
  obtain ⟨N, hN⟩ : ∃ N : Int, (B.length : Int) = N := ⟨_, rfl⟩
  have hN2 : 0 ≤ N ∧ N ≤ 60 := by rw [← hN, ← hB]; have := List.length_take_le (Int.toNat 60) b; omega
  rw [hB] at q4
  have hrd := q4.rd
  have hvo2 := hvo.fr0 q2
  clear hB
  have hS0 : Sep s2 s2 [] := .nil
  have e2 := hrd.lenV
  rw [hN] at e2
  simp (disch := omega) only [vm0, vm1, vm2, vm3, vm4, vm5, vm6, vm7, fPick, fBox, fBuild, fBsl, fLd, fLda, fSt, fNilc, fBin, fEq, fUn, fMkf, fFa, fFld, fFlda, fExt, evo, wr, wrC, frame, Bool.not_true, Bool.not_false, beq_self_eq_true, List.cons_append, List.nil_append, Nat.add_zero, Nat.zero_add, Nat.reduceAdd, Nat.reduceMul, Nat.reduceSub, Bool.and_true, Bool.true_and, Bool.and_self, beq_dec, fApp, Int.toNat_natCast, Nat.sub_zero, vmI]
  refine call_ok rfl rfl (withinP (n + 7) s2 w0 40 hw0 (by omega) (by omega)) ?_
  rintro x s2 ⟨rfl, rfl⟩
  obtain ⟨w, hw⟩ : ∃ w, 1 + w0 % 40 = w := ⟨_, rfl⟩
  have hw2 : 1 ≤ w ∧ w ≤ 40 := by omega
  simp (disch := omega) only [vm0, vm1, vm2, vm3, vm4, vm5, vm6, vm7, fPick, fBox, fBuild, fBsl, fLd, fLda, fSt, fNilc, fBin, fEq, fUn, fMkf, fFa, fFld, fFlda, fExt, evo, wr, wrC, frame, Bool.not_true, Bool.not_false, beq_self_eq_true, List.cons_append, List.nil_append, Nat.add_zero, Nat.zero_add, Nat.reduceAdd, Nat.reduceMul, Nat.reduceSub, Bool.and_true, Bool.true_and, Bool.and_self, beq_dec, fApp, Int.toNat_natCast, Nat.sub_zero, vmI, hw]
  refine call_ok rfl rfl (withinP (n + 7) s2 c0 12 hc0 (by omega) (by omega)) ?_
  rintro x s2 ⟨rfl, rfl⟩
  obtain ⟨c, hc⟩ : ∃ c, 1 + c0 % 12 = c := ⟨_, rfl⟩
  have hc2 : 1 ≤ c ∧ c ≤ 12 := by omega
  simp (disch := omega) only [vm0, vm1, vm2, vm3, vm4, vm5, vm6, vm7, fPick, fBox, fBuild, fBsl, fLd, fLda, fSt, fNilc, fBin, fEq, fUn, fMkf, fFa, fFld, fFlda, fExt, evo, wr, wrC, frame, Bool.not_true, Bool.not_false, beq_self_eq_true, List.cons_append, List.nil_append, Nat.add_zero, Nat.zero_add, Nat.reduceAdd, Nat.reduceMul, Nat.reduceSub, Bool.and_true, Bool.true_and, Bool.and_self, beq_dec, fApp, Int.toNat_natCast, Nat.sub_zero, vmI, hc]
  refine call_ok rfl rfl (i_new (n + 6) s2 w) ?_
  rintro x s3 ⟨p, fp, rfl, r1, r2, r3⟩
  have hS3 := ((hS0.push (P := oI p _) r1 r2 r3).push (P := oW .nils 1 encB []) (f := []) (.nil encB_w (by omega)) .refl (by simp [Nw])).swap
  have H0 := Has.new B w
  rw [show min (max w 1) 400 = w by omega] at H0 hS3
  generalize (⟨[], [], w, 0, 0, false⟩ : IB) = i0 at H0 hS3
  have hcz : c ≠ 0 := by omega
  obtain ⟨d, hd⟩ : ∃ d, N / c = d := ⟨_, rfl⟩
  have hqd : N.tdiv c = d := by rw [Int.tdiv_eq_ediv_of_nonneg (by omega), hd]
  have hd1 : d * c ≤ N := by rw [← hd]; exact Int.ediv_mul_le N hcz
  have hd2 : N < (d + 1) * c := by rw [← hd]; exact Int.lt_ediv_add_one_mul_self N (by omega)
  have hd3 : 0 ≤ d := by rw [← hd]; exact Int.ediv_nonneg (by omega) (by omega)
  have hd4 : d * 1 ≤ d * c := Int.mul_le_mul_of_nonneg_left hc2.1 hd3
  have e3 := (hrd.fr0 hS3.frm).lenV
  rw [hN] at e3
  simp (disch := omega) only [vm0, vm1, vm2, vm3, vm4, vm5, vm6, vm7, fPick, fBox, fBuild, fBsl, fLd, fLda, fSt, fNilc, fBin, fEq, fUn, fMkf, fFa, fFld, fFlda, fExt, evo, wr, wrC, frame, Bool.not_true, Bool.not_false, beq_self_eq_true, List.cons_append, List.nil_append, Nat.add_zero, Nat.zero_add, Nat.reduceAdd, Nat.reduceMul, Nat.reduceSub, Bool.and_true, Bool.true_and, Bool.and_self, beq_dec, fApp, Int.toNat_natCast, Nat.sub_zero, vmI, e2, b_quo hcz, hqd]
  obtain ⟨m, hm⟩ : ∃ m, d + 1 = m := ⟨_, rfl⟩
  have hm1 : (m - 1) * c ≤ N := by rw [← hm, show d + 1 - 1 = d by omega]; exact hd1
  rw [hm] at hd2
  rw [hm]
  have hW0 : Wh B N w i0 0 false (fun _ => False) := ⟨H0, fun q hq => hq.elim⟩
  obtain ⟨L, hL⟩ : ∃ L : Nat, L = 30 := ⟨_, rfl⟩
  refine x_loop (fun m' F s' => ∃ k : Nat, ∃ z x11 x12 x13 g' i' tk' kn' P', m' = L - k ∧ k ≤ L ∧ z = (k : Int) ∧ F = [some v2, some (num w), some (num c), some vo, some (.ptr p 0), some g', some (num z), none, some (num m), none, some (.bool false), x11, x12, x13, none, none, some (.bool false)] ∧ Wh B N w i' tk' kn' P' ∧ Sep s2 s' [oI p i', oW g' 1 encB (B.take tk'.toNat)]) L (by omega) ?_ ?_
  · exact ⟨0, _, _, _, _, .nils, i0, 0, false, _, by omega, by omega, rfl, rfl, hW0, hS3⟩
  · rintro m' F s4 ⟨k, _, x11, x12, x13, g1, i1, tk1, kn1, P1, rfl, hk, rfl, rfl, hW1, hS1⟩ hm'
    obtain ⟨z, hz⟩ : ∃ z : Int, (k : Int) = z := ⟨_, rfl⟩
    rw [hz]
    have e5 := (hvo2.fr0 hS1.frm).lenV
    by_cases hlt : k < ord.length
    · by_cases h30 : k < 30
      · obtain ⟨x, hx⟩ : ∃ x, ord[k]? = some x := ⟨_, List.getElem?_eq_getElem hlt⟩
        simp (disch := omega) only [vm0, vm1, vm2, vm3, vm4, vm5, vm6, vm7, fPick, fBox, fBuild, fBsl, fLd, fLda, fSt, fNilc, fBin, fEq, fUn, fMkf, fFa, fFld, fFlda, fExt, evo, wr, wrC, frame, Bool.not_true, Bool.not_false, beq_self_eq_true, List.cons_append, List.nil_append, Nat.add_zero, Nat.zero_add, Nat.reduceAdd, Nat.reduceMul, Nat.reduceSub, Bool.and_true, Bool.true_and, Bool.and_self, beq_dec, fApp, Int.toNat_natCast, Nat.sub_zero, vmI, vc14_1, e5]
        refine RsOk.mono (whole_step hs n s2 s4 p i1 v2 vo g1 B N w tk1 c m kn1 P1 hS1 hW1 hrd hN hN2.2 hw2 hc2 (by omega) hm1 hfu ord hvo2 k x hx (hio x (List.mem_of_getElem? hx)) z hz _ _ _ _ _ _ _ _) ?_
        rintro e F' s6 ⟨rfl, g', x12', x13', i', tk', kn', P', rfl, hW3, hS6⟩
        simp (disch := omega) only [vm0, vm1, vm2, vm3, vm4, vm5, vm6, vm7, fPick, fBox, fBuild, fBsl, fLd, fLda, fSt, fNilc, fBin, fEq, fUn, fMkf, fFa, fFld, fFlda, fExt, evo, wr, wrC, frame, Bool.not_true, Bool.not_false, beq_self_eq_true, List.cons_append, List.nil_append, Nat.add_zero, Nat.zero_add, Nat.reduceAdd, Nat.reduceMul, Nat.reduceSub, Bool.and_true, Bool.true_and, Bool.and_self, beq_dec, fApp, Int.toNat_natCast, Nat.sub_zero, vmI]
        exact ⟨L - (k + 1), by omega, k + 1, z + 1, _, _, _, _, i', _, _, _, rfl, by omega, by omega, rfl, hW3, hS6⟩
      · simp (disch := omega) only [vm0, vm1, vm2, vm3, vm4, vm5, vm6, vm7, fPick, fBox, fBuild, fBsl, fLd, fLda, fSt, fNilc, fBin, fEq, fUn, fMkf, fFa, fFld, fFlda, fExt, evo, wr, wrC, frame, Bool.not_true, Bool.not_false, beq_self_eq_true, List.cons_append, List.nil_append, Nat.add_zero, Nat.zero_add, Nat.reduceAdd, Nat.reduceMul, Nat.reduceSub, Bool.and_true, Bool.true_and, Bool.and_self, beq_dec, fApp, Int.toNat_natCast, Nat.sub_zero, vmI, vc14_1, e5]
        exact whole_all hs n s2 s4 p i1 v2 vo g1 B N w tk1 c m kn1 P1 hS1 hW1 hrd hN hN2.2 hw2 hc2 (by omega) hm1 hd2 hfu _ _ _ _ _ _ _ _ _
    · simp (disch := omega) only [vm0, vm1, vm2, vm3, vm4, vm5, vm6, vm7, fPick, fBox, fBuild, fBsl, fLd, fLda, fSt, fNilc, fBin, fEq, fUn, fMkf, fFa, fFld, fFlda, fExt, evo, wr, wrC, frame, Bool.not_true, Bool.not_false, beq_self_eq_true, List.cons_append, List.nil_append, Nat.add_zero, Nat.zero_add, Nat.reduceAdd, Nat.reduceMul, Nat.reduceSub, Bool.and_true, Bool.true_and, Bool.and_self, beq_dec, fApp, Int.toNat_natCast, Nat.sub_zero, vmI, vc14_1, e5]
      exact whole_all hs n s2 s4 p i1 v2 vo g1 B N w tk1 c m kn1 P1 hS1 hW1 hrd hN hN2.2 hw2 hc2 (by omega) hm1 hd2 hfu _ _ _ _ _ _ _ _ _
end
end Go.Proofs.Ytekhpohcjfjhfaa.ctr
namespace Go.Proofs.Ytekhpohcjfjhfaa.inboxWholeRun
open Go.Vm Go.RowKit Go.Proofs.Ytekhpohcjfjhfaa.ctr
set_option linter.unusedVariables false
set_option linter.unusedSimpArgs false
theorem mixed : Try.prog.follows .mixedOrders = true := by kernel_rfl
theorem walk (a0 : Option Addr) (len0 cap0 : Nat) (z0 : List Int) (a1 : Int) (a2 : Int) (a3 : Option Addr) (len3 cap3 : Nat) (z3 : List Int) (w : World) (w1 : (Lit.int .i64 a1).wf = true) (w2 : (Lit.int .i64 a2).wf = true) (hq0 : IsRow8 w a0 len0 cap0 z0) (hq3 : IsRowI w a3 len3 cap3 z3) :
    Calls Try.prog 14 #[.slice a0 len0 cap0, .int .i64 a1, .int .i64 a2, .slice a3 len3 cap3] w fun e w' => e = .returned (.bool true) ∧ Below w.heap.size w w' := by
  obtain ⟨v0, E0, s0, g0, l0, f0, r0, d0, i0⟩ := (Arg0.start w).bytes hq0
  obtain ⟨v3, E3, s3, g3, l3, f3, r3, d3, i3⟩ := g0.ints hq3
  have h := whole srt_ok (bd := bd0) (h := srt) (fu := 5000) 40 s3 v0 a1 a2 v3 _ _ (d0.fr0 f3) d3 i3 (wf64 w1) (wf64 w2) (by omega)
  exact law_okE bd0_ok mixed (tabS_all rho0) (t14 srt) g3.hr g3.own (.cons (r0.mono l3) (.cons vr_int (.cons vr_int (.cons r3 .nil)))) (yes_of' h fun _ _ h => h)
end Go.Proofs.Ytekhpohcjfjhfaa.inboxWholeRun
