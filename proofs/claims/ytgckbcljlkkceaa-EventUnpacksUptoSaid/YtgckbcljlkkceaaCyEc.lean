/- Lists of events, made events, nested structs among the arguments. -/
import Derived.Test.YtgckbcljlkkceaaCyEb
namespace Go.Proofs.Ytgckbcljlkkceaa.ctr
open Go Go.Vm Go.RowKit
set_option linter.unusedVariables false
set_option linter.constructorNameAsVariable false
set_option linter.unusedSimpArgs false
def evs (l : List EvR) : List EvV := l.map EvR.e
theorem evs_ne {l m : List EvR} (h : l.length ≠ m.length) : decide (evs l = evs m) = false := decide_eq_false fun e => h (by simpa [evs] using congrArg List.length e)
theorem evs_at {l m : List EvR} {i : Nat} {x y : EvR} (hx : l[i]? = some x) (hy : m[i]? = some y) (h : x.e ≠ y.e) : decide (evs l = evs m) = false := decide_eq_false fun e => h (by
  have h1 : (evs l)[i]? = some x.e := by simp [evs, hx]
  have h2 : (evs m)[i]? = some y.e := by simp [evs, hy]
  rw [e, h2] at h1
  exact (Option.some.inj h1).symm)
section
variable {bd : Bd} {fu : Nat}
set_option maxHeartbeats 2000000 in
theorem u_all (n : Nat) (s : St) (v1 v2 : AV) (l m : List EvR) (hv1 : RdE s v1 12 EvR.enc l) (hv2 : RdE s v2 12 EvR.enc m) (hl : evsOk s l) (hm : evsOk s m) (hN : l.length < fu) (hN2 : l.length < 140737488355232) :
    OutOk (callF bd tab.get fu (n + 4) 15 [v1, v2] s) (fun x s' => Is x (.bool (decide (evs l = evs m))) ∧ Fr s s' []) := by
  refine call_code t15 rfl ?_
  have hlen := hv1.lenV
  have hlen2 := hv2.lenV
  by_cases hll : (l.length : Int) = m.length
  case neg =>
    simp (disch := omega) only [vm0, vm1, vm2, vm3, vm4, vm5, vm6, vm7, vmF, vmT, evo, wr, wrC, frame, Nat.reduceAdd, Nat.reduceMul, Nat.reduceSub, beq_self_eq_true, List.cons_append, List.nil_append, beq_dec, vmI, vc15, hlen, hlen2]
    exact ⟨by rw [evs_ne (by omega)]; rfl, .refl⟩
  simp (disch := omega) only [vm0, vm1, vm2, vm3, vm4, vm5, vm6, vm7, vmF, vmT, evo, wr, wrC, frame, Nat.reduceAdd, Nat.reduceMul, Nat.reduceSub, beq_self_eq_true, List.cons_append, List.nil_append, beq_dec, vmI, vc15, hlen, hlen2]
  refine x_loop (fun k F s' => ∃ i : Nat, ∃ z x3 x6 x7, k = l.length - i ∧ i ≤ l.length ∧ z = (i : Int) ∧ F = [some v1, some v2, some (num z), x3, some (.bool false), some (num (l.length : Int)), x6, x7, some (.bool false)] ∧ (∀ j, j < i → (evs l)[j]? = (evs m)[j]?) ∧ Fr s s' []) l.length hN ?_ ?_
  · exact ⟨0, _, _, _, _, by omega, by omega, rfl, rfl, by omega, .refl⟩
  · rintro k F s1 ⟨i, _, x3, x6, x7, rfl, hi, rfl, rfl, hp, hf⟩ hk
    by_cases hlt : i < l.length
    · obtain ⟨x, hx⟩ : ∃ x, l[i]? = some x := ⟨_, List.getElem?_eq_getElem hlt⟩
      obtain ⟨y, hy⟩ : ∃ y, m[i]? = some y := ⟨_, List.getElem?_eq_getElem (by omega)⟩
      have hxm : x ∈ l := List.mem_of_getElem? hx
      have hym : y ∈ m := List.mem_of_getElem? hy
      have e1 := (hv1.fr0 hf).ia hx
      have e2 := (hv1.fr0 hf).at hx
      have e3 := (hv2.fr0 hf).ia hy
      have e4 := (hv2.fr0 hf).at hy
      unfold EvR.enc at e2 e4
      have hcs : ∀ e u w, EvV.cs e u w = [num e.k, num e.n, u, num e.p.k, num e.p.pt, num e.p.nr, num e.p.of_, num e.p.fr, w, .bool e.p.fin, num e.p.se, num e.p.li] := fun _ _ _ => rfl
      rw [hcs] at e2 e4
      have hxo := (hl x hxm).fr0 hf
      have hyo := (hm y hym).fr0 hf
      have hsm := u_sameE (bd := bd)  (fu := fu) n _ x.e y.e x.u x.w y.u y.w hxo.u hxo.w hyo.u hyo.w hxo.h8 hxo.h9 hyo.h8 hyo.h9
      rw [hcs, hcs] at hsm
      simp (disch := omega) only [vm0, vm1, vm2, vm3, vm4, vm5, vm6, vm7, vmF, vmT, evo, wr, wrC, frame, Nat.reduceAdd, Nat.reduceMul, Nat.reduceSub, beq_self_eq_true, List.cons_append, List.nil_append, beq_dec, vmI, e1, e2, e3, e4]
      refine call_ok rfl rfl hsm ?_
      rintro z s4 ⟨rfl, hf4⟩
      have hfe := hf.trans hf4 (fp2 := []) (by simp) (by simp)
      by_cases hxy : x.e = y.e
      · rw [decide_eq_true hxy]
        simp (disch := omega) only [vm0, vm1, vm2, vm3, vm4, vm5, vm6, vm7, vmF, vmT, evo, wr, wrC, frame, Nat.reduceAdd, Nat.reduceMul, Nat.reduceSub, beq_self_eq_true, List.cons_append, List.nil_append, beq_dec, vmI]
        refine ⟨l.length - (i + 1), by omega, i + 1, _, _, _, _, rfl, by omega, by omega, rfl, fun j hj => ?_, hfe⟩
        rcases Nat.lt_or_eq_of_le (Nat.le_of_lt_succ hj) with h1 | h1
        · exact hp j h1
        · subst h1; simp [evs, hx, hy, hxy]
      · rw [decide_eq_false hxy]
        simp (disch := omega) only [vm0, vm1, vm2, vm3, vm4, vm5, vm6, vm7, vmF, vmT, evo, wr, wrC, frame, Nat.reduceAdd, Nat.reduceMul, Nat.reduceSub, beq_self_eq_true, List.cons_append, List.nil_append, beq_dec, vmI]
        exact ⟨by rw [evs_at hx hy hxy]; rfl, hfe⟩
    · obtain rfl : i = l.length := by omega
      simp (disch := omega) only [vm0, vm1, vm2, vm3, vm4, vm5, vm6, vm7, vmF, vmT, evo, wr, wrC, frame, Nat.reduceAdd, Nat.reduceMul, Nat.reduceSub, beq_self_eq_true, List.cons_append, List.nil_append, beq_dec, vmI]
      have he : evs l = evs m := by
        refine List.ext_getElem? fun j => ?_
        by_cases hj : j < l.length
        · exact hp j hj
        · rw [List.getElem?_eq_none (by simp [evs]; omega), List.getElem?_eq_none (by simp [evs]; omega)]
      exact ⟨by rw [decide_eq_true he]; rfl, hf⟩
end
end Go.Proofs.Ytgckbcljlkkceaa.ctr
namespace Go.Proofs.Ytgckbcljlkkceaa.ctr
open Go Go.Vm Go.RowKit
set_option linter.unusedVariables false
set_option linter.constructorNameAsVariable false
set_option linter.unusedSimpArgs false
theorem Sep.newC {s0 s : St} {Ps : List Obj} (h : Sep s0 s Ps) (c : List AV) : Sep s0 (s.new (.cells c .own)) (oC s.next c :: Ps) :=
  h.push (P := oC s.next c) (f := [s.next]) ⟨get_new_eq rfl, by rw [next_new]; omega, rfl⟩ .new (by intro z hz; simp at hz; right; omega)
theorem Sep.putC {s0 s : St} {b : Nat} {c : List AV} {Ps : List Obj} (h : Sep s0 s (oC b c :: Ps)) (c' : List AV) : Sep s0 (s.put b (some (.cells c' .own))) (oC b c' :: Ps) := by
  obtain ⟨f, ⟨h1, h2, rfl⟩, up⟩ := h.hd
  exact up (oC b c') (f' := [b]) ⟨get_put_eq rfl, by rw [next_put]; exact h2, rfl⟩ (.put (.inl (by simp))) (fun z hz => .inl hz)
def z9 : List AV := [num 0, num 0, num 0, num 0, num 0, .nils, .bool false, num 0, num 0]
structure PkV.In (p : PkV) : Prop where
  k : In64 p.k
  pt : In64 p.pt
  nr : In64 p.nr
  of_ : In64 p.of_
  fr : In64 p.fr
  se : In64 p.se
  li : In64 p.li
  d : ∀ x ∈ p.d, In8 x
section
variable {bd : Bd} {fu : Nat}
theorem wth (n : Nat) (s : St) (v m : Int) (hv : In64 v) (hm : 1 ≤ m) (hm2 : m ≤ 9223372036854775807) :
    OutOk (callF bd tab.get fu (n + 1) 19 [num v, num m] s) (fun x s' => ∃ r, Is x (num r) ∧ (0 ≤ r ∧ r < m) ∧ Is s' s) :=
  (withinP n s v m hv hm hm2).mono fun y s' ⟨q1, q2⟩ => ⟨_, q1, ⟨Int.emod_nonneg _ (by omega), Int.emod_lt_of_pos _ (by omega)⟩, q2⟩
theorem cutP (n : Nat) (s : St) (p : PkV) (u : AV) (hu : RdE s u 1 encB p.d) :
    OutOk (callF bd tab.get fu (n + 3) 58 [.agg (p.cs u)] s) (fun x s' => ∃ u', Is x (.agg (PkV.cs ⟨p.k, p.pt, p.nr, p.of_, p.fr, p.d.take 80, p.fin, p.se, p.li⟩ u')) ∧ Sep s s' [oW u' 1 encB (p.d.take 80)]) := by
  refine call_code t58 rfl ?_
  have hS := ((Sep.nil (s := s)).newC (p.cs u)).newC z9
  have hu1 := hu.fr0 hS.frm
  obtain ⟨_, ⟨g1, _, _⟩, _⟩ := Sep.hd (((hS.re ((List.perm_middle (l₁ := [_])).trans (.cons _ (.refl _))))))
  dsimp only [PkV.cs, z9, next_new] at *
  simp (disch := omega) only [vm0, vm1, vm2, vm3, vm4, vm5, vm6, vm7, vmF, vmT, evo, wr, wrC, frame, Nat.reduceAdd, Nat.reduceMul, Nat.reduceSub, beq_self_eq_true, List.cons_append, List.nil_append, beq_dec, vmI, vc58, g1]
  refine call_ok rfl rfl (cutB n _ u p.d 80 (by omega) (by omega) hu1) ?_
  rintro y s2 ⟨f, a1, a2, a3⟩
  have hS2 := hS.push (P := oW y 1 encB (p.d.take 80)) a1 a2 a3
  have g2 := Sep.getC (((hS2.re ((List.perm_middle (l₁ := [_, _])).trans (.cons _ (.refl _))))))
  have hS3 := Sep.putC (((hS2.re ((List.perm_middle (l₁ := [_, _])).trans (.cons _ (.refl _)))))) [num p.k, num p.pt, num p.nr, num p.of_, num p.fr, y, .bool p.fin, num p.se, num p.li]
  have g3 := hS3.getC
  have g4 := Sep.getC (((hS3.re ((List.perm_middle (l₁ := [_, _])).trans (.cons _ (.refl _))))))
  have hS4 := Sep.putC (((hS3.re ((List.perm_middle (l₁ := [_, _])).trans (.cons _ (.refl _)))))) [num p.k, num p.pt, num p.nr, num p.of_, num p.fr, y, .bool p.fin, num p.se, num p.li]
  have g5 := hS4.getC
  have hyc := cells1 a1.rd.rd.sl
  simp (disch := omega) only [vm0, vm1, vm2, vm3, vm4, vm5, vm6, vm7, vmF, vmT, evo, wr, wrC, frame, Nat.reduceAdd, Nat.reduceMul, Nat.reduceSub, beq_self_eq_true, List.cons_append, List.nil_append, beq_dec, vmI, g2, g3, g4, g5, hyc]
  exact ⟨y, rfl, ((hS4.re (.refl _)).drop.drop)⟩
end
end Go.Proofs.Ytgckbcljlkkceaa.ctr
namespace Go.Proofs.Ytgckbcljlkkceaa.ctr
open Go Go.Vm Go.RowKit
set_option linter.unusedVariables false
set_option linter.constructorNameAsVariable false
set_option linter.unusedSimpArgs false
/-- the state of Packet: p in block b2, what is made of it in b3, the result's block b7 -/
structure PS (s0 s : St) (p : PkV) (u : AV) (q : PkV) (v : AV) (b2 b3 b7 : Nat) : Prop where
  sep : Sep s0 s [oW v 1 encB q.d, oC b3 (q.cs v), oC b2 (p.cs u), oC b7 z9]
  len : q.d.length ≤ 80
  in8 : ∀ x ∈ q.d, In8 x
section
variable {bd : Bd} {fu : Nat}
set_option maxHeartbeats 4000000 in
theorem pk_sw0 (n : Nat) (s0 s : St) (p : PkV) (u : AV) (q : PkV) (v : AV) (b2 b3 b7 : Nat) (hp : p.In) (hu : RdE s0 u 1 encB p.d) (hS : PS s0 s p u q v b2 b3 b7) (w0 w1 x5 x8 x9 x10 x11 x12 x13 x14 x15 x16 x17 x18 x19 x20 x21 : Option AV) :
    RsOk (exec bd (callF bd tab.get fu (n + 3)) fu vc57_0 [w0, w1, some (.ptr b2 0), some (.ptr b3 0), some (.fn 19 [] []), x5, some (num q.k), some (.ptr b7 0), x8, x9, x10, x11, x12, x13, x14, x15, x16, x17, x18, x19, x20, x21] s) (fun e F' s' => Is e .normal ∧ ∃ q' v' y8 y9 y10, F' = [w0, w1, some (.ptr b2 0), some (.ptr b3 0), some (.fn 19 [] []), x5, some (num q.k), some (.ptr b7 0), y8, y9, y10, x11, x12, x13, x14, x15, x16, x17, x18, x19, x20, x21] ∧ PS s0 s' p u q' v' b2 b3 b7) := by
  obtain ⟨hS, hql, hq8⟩ := hS
  have hu1 := hu.fr0 hS.frm
  have g2 := Sep.getC (((hS.re ((List.perm_middle (l₁ := [_, _])).trans (.cons _ (.refl _))))))
  have g3 := Sep.getC (((hS.re ((List.perm_middle (l₁ := [_])).trans (.cons _ (.refl _))))))
  have hS1 := ((hS.re ((List.perm_middle (l₁ := [_])).trans (.cons _ (.refl _)))))
  have hsv := sv_sl hu.rd.sl
  have hsm := sm_v hu.rd.sl
  obtain ⟨k, pt, nr, of_, fr, d, fin, se, li⟩ := q
  dsimp only [PkV.cs] at *
  rcases (show k = 2 ∨ k = 3 ∨ k = 4 ∨ (k ≠ 2 ∧ k ≠ 3 ∧ k ≠ 4) by omega) with rfl | rfl | rfl | hk
  · simp (disch := omega) only [vm0, vm1, vm2, vm3, vm4, vm5, vm6, vm7, vmF, vmT, evo, wr, wrC, frame, Nat.reduceAdd, Nat.reduceMul, Nat.reduceSub, beq_self_eq_true, List.cons_append, List.nil_append, beq_dec, vmI, vc57_0, g2, g3]
    refine call_ok rfl rfl (wth (n + 2) s p.of_ 300 hp.of_ (by omega) (by omega)) ?_
    rintro y s2 ⟨r, rfl, hr, rfl⟩
    have hS2 := hS1.putC [num 2, num pt, num nr, num r, num fr, v, .bool fin, num se, num li]
    simp (disch := omega) only [vm0, vm1, vm2, vm3, vm4, vm5, vm6, vm7, vmF, vmT, evo, wr, wrC, frame, Nat.reduceAdd, Nat.reduceMul, Nat.reduceSub, beq_self_eq_true, List.cons_append, List.nil_append, beq_dec, vmI, g2, g3]
    exact ⟨rfl, ⟨2, pt, nr, r, fr, d, fin, se, li⟩, v, _, _, _, rfl, ((hS2.re ((List.perm_middle (l₁ := [_])).trans (.cons _ (.refl _))))), hql, hq8⟩
  · simp (disch := omega) only [vm0, vm1, vm2, vm3, vm4, vm5, vm6, vm7, vmF, vmT, evo, wr, wrC, frame, Nat.reduceAdd, Nat.reduceMul, Nat.reduceSub, beq_self_eq_true, List.cons_append, List.nil_append, beq_dec, vmI, vc57_0, g2, g3]
    refine call_ok rfl rfl (wth (n + 2) s p.fr 200 hp.fr (by omega) (by omega)) ?_
    rintro y s2 ⟨r, rfl, hr, rfl⟩
    simp (disch := omega) only [vm0, vm1, vm2, vm3, vm4, vm5, vm6, vm7, vmF, vmT, evo, wr, wrC, frame, Nat.reduceAdd, Nat.reduceMul, Nat.reduceSub, beq_self_eq_true, List.cons_append, List.nil_append, beq_dec, vmI, g2, g3, hsv, hsm]
    refine call_ok rfl rfl (cutB (n + 1) s2 u p.d 20 (by omega) (by omega) hu1) ?_
    rintro y s3 ⟨f, a1, a2, a3⟩
    have hS2 := hS1.push (P := oW y 1 encB (p.d.take 20)) a1 a2 a3
    have g4 := Sep.getC (((hS2.re ((List.perm_middle (l₁ := [_, _, _])).trans (.cons _ (.refl _))))))
    have g5 := Sep.getC (((hS2.re ((List.perm_middle (l₁ := [_])).trans (.cons _ (.refl _))))))
    have hS3 := Sep.putC (((hS2.re ((List.perm_middle (l₁ := [_])).trans (.cons _ (.refl _)))))) [num 3, num pt, num nr, num of_, num r, v, .bool fin, num se, num li]
    have g6 := hS3.getC
    have hS4 := hS3.putC [num 3, num pt, num nr, num of_, num r, y, .bool fin, num se, num li]
    have g7 := hS4.getC
    have hS5 := hS4.putC [num 3, num pt, num nr, num of_, num r, y, .bool p.fin, num se, num li]
    have i3 := Sep.getC (((hS3.re ((List.perm_middle (l₁ := [_, _, _])).trans (.cons _ (.refl _))))))
    have i4 := Sep.getC (((hS4.re ((List.perm_middle (l₁ := [_, _, _])).trans (.cons _ (.refl _))))))
    have i5 := Sep.getC (((hS5.re ((List.perm_middle (l₁ := [_, _, _])).trans (.cons _ (.refl _))))))
    have hyc := cells1 a1.rd.rd.sl
    simp (disch := omega) only [vm0, vm1, vm2, vm3, vm4, vm5, vm6, vm7, vmF, vmT, evo, wr, wrC, frame, Nat.reduceAdd, Nat.reduceMul, Nat.reduceSub, beq_self_eq_true, List.cons_append, List.nil_append, beq_dec, vmI, g2, g3, g4, g5, g6, g7, i3, i4, i5, hsv, hsm, hyc, sv_b]
    exact ⟨rfl, ⟨3, pt, nr, of_, r, p.d.take 20, p.fin, se, li⟩, y, _, _, _, rfl, ((hS5.re ((List.perm_middle (l₁ := [_, _])).trans (.cons _ ((List.perm_middle (l₁ := [_])).trans (.cons _ (.refl _)))))).drop), by have := List.length_take_le 20 p.d; show (p.d.take 20).length ≤ 80; omega, fun x hx => hp.d x (List.mem_of_mem_take hx)⟩
  · simp (disch := omega) only [vm0, vm1, vm2, vm3, vm4, vm5, vm6, vm7, vmF, vmT, evo, wr, wrC, frame, Nat.reduceAdd, Nat.reduceMul, Nat.reduceSub, beq_self_eq_true, List.cons_append, List.nil_append, beq_dec, vmI, vc57_0, g2, g3]
    refine call_ok rfl rfl (wth (n + 2) s p.of_ 300 hp.of_ (by omega) (by omega)) ?_
    rintro y s2 ⟨r, rfl, hr, rfl⟩
    simp (disch := omega) only [vm0, vm1, vm2, vm3, vm4, vm5, vm6, vm7, vmF, vmT, evo, wr, wrC, frame, Nat.reduceAdd, Nat.reduceMul, Nat.reduceSub, beq_self_eq_true, List.cons_append, List.nil_append, beq_dec, vmI, g2, g3, hsv, hsm]
    refine call_ok rfl rfl (wth (n + 2) s2 p.se 300 hp.se (by omega) (by omega)) ?_
    rintro y s3 ⟨r2, rfl, hr2, rfl⟩
    simp (disch := omega) only [vm0, vm1, vm2, vm3, vm4, vm5, vm6, vm7, vmF, vmT, evo, wr, wrC, frame, Nat.reduceAdd, Nat.reduceMul, Nat.reduceSub, beq_self_eq_true, List.cons_append, List.nil_append, beq_dec, vmI, g2, g3, hsv, hsm]
    refine call_ok rfl rfl (wth (n + 2) s3 p.li 400 hp.li (by omega) (by omega)) ?_
    rintro y s4 ⟨r3, rfl, hr3, rfl⟩
    have hS3 := hS1.putC [num 4, num pt, num nr, num r, num fr, v, .bool fin, num se, num li]
    have g6 := hS3.getC
    have hS4 := hS3.putC [num 4, num pt, num nr, num r, num fr, v, .bool fin, num r2, num li]
    have g7 := hS4.getC
    have hS5 := hS4.putC [num 4, num pt, num nr, num r, num fr, v, .bool fin, num r2, num r3]
    have i3 := Sep.getC (((hS3.re ((List.perm_middle (l₁ := [_, _])).trans (.cons _ (.refl _))))))
    have i4 := Sep.getC (((hS4.re ((List.perm_middle (l₁ := [_, _])).trans (.cons _ (.refl _))))))
    have i5 := Sep.getC (((hS5.re ((List.perm_middle (l₁ := [_, _])).trans (.cons _ (.refl _))))))
    simp (disch := omega) only [vm0, vm1, vm2, vm3, vm4, vm5, vm6, vm7, vmF, vmT, evo, wr, wrC, frame, Nat.reduceAdd, Nat.reduceMul, Nat.reduceSub, beq_self_eq_true, List.cons_append, List.nil_append, beq_dec, vmI, g2, g3, g6, g7, i3, i4, i5, hsv, hsm, rw_7, rw_8]
    exact ⟨rfl, ⟨4, pt, nr, r, fr, d, fin, r2, r3⟩, v, _, _, _, rfl, ((hS5.re ((List.perm_middle (l₁ := [_])).trans (.cons _ (.refl _))))), hql, hq8⟩
  · simp (disch := omega) only [vm0, vm1, vm2, vm3, vm4, vm5, vm6, vm7, vmF, vmT, evo, wr, wrC, frame, Nat.reduceAdd, Nat.reduceMul, Nat.reduceSub, beq_self_eq_true, List.cons_append, List.nil_append, beq_dec, vmI, vc57_0, g2, g3]
    exact ⟨rfl, ⟨k, pt, nr, of_, fr, d, fin, se, li⟩, v, _, _, _, rfl, hS, hql, hq8⟩
end
end Go.Proofs.Ytgckbcljlkkceaa.ctr
namespace Go.Proofs.Ytgckbcljlkkceaa.ctr
open Go Go.Vm Go.RowKit
set_option linter.unusedVariables false
set_option linter.constructorNameAsVariable false
set_option linter.unusedSimpArgs false
section
variable {bd : Bd} {fu : Nat}
set_option maxHeartbeats 8000000 in
theorem pk_sw1 (n : Nat) (s0 s : St) (p : PkV) (u : AV) (q : PkV) (v : AV) (b2 b3 b7 : Nat) (hp : p.In) (hu : RdE s0 u 1 encB p.d) (hS : PS s0 s p u q v b2 b3 b7) (z : Int) (w0 w1 x6 x8 x9 x10 x11 x12 x13 x14 x15 x16 x17 x18 x19 x20 x21 : Option AV) :
    RsOk (exec bd (callF bd tab.get fu (n + 4)) fu vc57_1 [w0, w1, some (.ptr b2 0), some (.ptr b3 0), some (.fn 19 [] []), some (num z), x6, some (.ptr b7 0), x8, x9, x10, x11, x12, x13, x14, x15, x16, x17, x18, x19, x20, x21] s) (fun e F' s' => ∃ (q' : PkV) (v' : AV), ∃ y11 y12 y13 y14 y15 y16 y17 y18 y19 y20 y21, F' = [w0, w1, some (.ptr b2 0), some (.ptr b3 0), some (.fn 19 [] []), some (num z), x6, some (.ptr b7 0), x8, x9, x10, y11, y12, y13, y14, y15, y16, y17, y18, y19, y20, y21] ∧ q'.d.length ≤ 80 ∧ (∀ x ∈ q'.d, In8 x) ∧ (Is e .normal ∧ Sep s0 s' [oW v' 1 encB q'.d, oC b3 (q'.cs v'), oC b2 (p.cs u), oC b7 z9] ∨ Is e .ret ∧ Sep s0 s' [oW v' 1 encB q'.d, oC b7 (q'.cs v')])) := by
  obtain ⟨hS, hql, hq8⟩ := hS
  have hu1 := hu.fr0 hS.frm
  have g2 := Sep.getC (((hS.re ((List.perm_middle (l₁ := [_, _])).trans (.cons _ (.refl _))))))
  have g3 := Sep.getC (((hS.re ((List.perm_middle (l₁ := [_])).trans (.cons _ (.refl _))))))
  have g7 := Sep.getC (((hS.re ((List.perm_middle (l₁ := [_, _, _])).trans (.cons _ (.refl _))))))
  have hS1 := ((hS.re ((List.perm_middle (l₁ := [_])).trans (.cons _ (.refl _)))))
  have hsv := sv_sl hu.rd.sl
  have hsm := sm_v hu.rd.sl
  have hcp := cutP (bd := bd)  (fu := fu) (n + 1) s p u hu1
  obtain ⟨k, pt, nr, of_, fr, d, fin, se, li⟩ := q
  dsimp only [PkV.cs, z9] at *
  rcases (show z = 29 ∨ z = 30 ∨ z = 31 ∨ z = 32 ∨ z = 33 ∨ z = 34 ∨ z = 35 ∨ z = 36 ∨ z = 37 ∨ z = 38 ∨ z = 39 ∨ (z < 29 ∨ 39 < z) by omega) with rfl | rfl | rfl | rfl | rfl | rfl | rfl | rfl | rfl | rfl | rfl | hz
  · simp (disch := omega) only [vm0, vm1, vm2, vm3, vm4, vm5, vm6, vm7, vmF, vmT, evo, wr, wrC, frame, Nat.reduceAdd, Nat.reduceMul, Nat.reduceSub, beq_self_eq_true, List.cons_append, List.nil_append, beq_dec, vmI, vc57_1, g2, g3, g7]
    refine call_ok rfl rfl hcp ?_
    rintro y s2 ⟨u', rfl, hSx⟩
    obtain ⟨f, a1, a2, a3⟩ := hSx.out1
    have hS2 := hS.push (P := oW u' 1 encB (p.d.take 80)) a1 a2 a3
    have g4 := Sep.getC (((hS2.re ((List.perm_middle (l₁ := [_, _, _, _])).trans (.cons _ (.refl _))))))
    have hS3 := Sep.putC (((hS2.re ((List.perm_middle (l₁ := [_, _, _, _])).trans (.cons _ (.refl _)))))) [num p.k, num p.pt, num p.nr, num p.of_, num p.fr, u', .bool p.fin, num p.se, num p.li]
    simp (disch := omega) only [vm0, vm1, vm2, vm3, vm4, vm5, vm6, vm7, vmF, vmT, evo, wr, wrC, frame, Nat.reduceAdd, Nat.reduceMul, Nat.reduceSub, beq_self_eq_true, List.cons_append, List.nil_append, beq_dec, vmI, g2, g3, g4, g7]
    exact ⟨⟨p.k, p.pt, p.nr, p.of_, p.fr, p.d.take 80, p.fin, p.se, p.li⟩, u', _, _, _, _, _, _, _, _, _, _, _, rfl, by have := List.length_take_le 80 p.d; exact this, fun x hx => hp.d x (List.mem_of_mem_take hx), .inr ⟨rfl, ((hS3.re ((List.perm_middle (l₁ := [_, _])).trans (.cons _ ((List.perm_middle (l₁ := [_, _])).trans (.cons _ ((List.perm_middle (l₁ := [_, _])).trans (.cons _ ((List.perm_middle (l₁ := [_])).trans (.cons _ (.refl _)))))))))).drop.drop.drop)⟩⟩
  · have hS2 := hS1.putC [num p.k, num pt, num nr, num of_, num fr, v, .bool fin, num se, num li]
    simp (disch := omega) only [vm0, vm1, vm2, vm3, vm4, vm5, vm6, vm7, vmF, vmT, evo, wr, wrC, frame, Nat.reduceAdd, Nat.reduceMul, Nat.reduceSub, beq_self_eq_true, List.cons_append, List.nil_append, beq_dec, vmI, vc57_1, g2, g3, g7]
    exact ⟨⟨p.k, pt, nr, of_, fr, d, fin, se, li⟩, v, _, _, _, _, _, _, _, _, _, _, _, rfl, hql, hq8, .inl ⟨rfl, ((hS2.re ((List.perm_middle (l₁ := [_])).trans (.cons _ (.refl _)))))⟩⟩
  · have hS2 := hS1.putC [num k, num p.pt, num nr, num of_, num fr, v, .bool fin, num se, num li]
    simp (disch := omega) only [vm0, vm1, vm2, vm3, vm4, vm5, vm6, vm7, vmF, vmT, evo, wr, wrC, frame, Nat.reduceAdd, Nat.reduceMul, Nat.reduceSub, beq_self_eq_true, List.cons_append, List.nil_append, beq_dec, vmI, vc57_1, g2, g3, g7]
    exact ⟨⟨k, p.pt, nr, of_, fr, d, fin, se, li⟩, v, _, _, _, _, _, _, _, _, _, _, _, rfl, hql, hq8, .inl ⟨rfl, ((hS2.re ((List.perm_middle (l₁ := [_])).trans (.cons _ (.refl _)))))⟩⟩
  · have hS2 := hS1.putC [num k, num pt, num p.nr, num of_, num fr, v, .bool fin, num se, num li]
    simp (disch := omega) only [vm0, vm1, vm2, vm3, vm4, vm5, vm6, vm7, vmF, vmT, evo, wr, wrC, frame, Nat.reduceAdd, Nat.reduceMul, Nat.reduceSub, beq_self_eq_true, List.cons_append, List.nil_append, beq_dec, vmI, vc57_1, g2, g3, g7]
    exact ⟨⟨k, pt, p.nr, of_, fr, d, fin, se, li⟩, v, _, _, _, _, _, _, _, _, _, _, _, rfl, hql, hq8, .inl ⟨rfl, ((hS2.re ((List.perm_middle (l₁ := [_])).trans (.cons _ (.refl _)))))⟩⟩
  · have hS2 := hS1.putC [num k, num pt, num nr, num p.of_, num fr, v, .bool fin, num se, num li]
    simp (disch := omega) only [vm0, vm1, vm2, vm3, vm4, vm5, vm6, vm7, vmF, vmT, evo, wr, wrC, frame, Nat.reduceAdd, Nat.reduceMul, Nat.reduceSub, beq_self_eq_true, List.cons_append, List.nil_append, beq_dec, vmI, vc57_1, g2, g3, g7]
    exact ⟨⟨k, pt, nr, p.of_, fr, d, fin, se, li⟩, v, _, _, _, _, _, _, _, _, _, _, _, rfl, hql, hq8, .inl ⟨rfl, ((hS2.re ((List.perm_middle (l₁ := [_])).trans (.cons _ (.refl _)))))⟩⟩
  · have hS2 := hS1.putC [num k, num pt, num nr, num of_, num p.fr, v, .bool fin, num se, num li]
    simp (disch := omega) only [vm0, vm1, vm2, vm3, vm4, vm5, vm6, vm7, vmF, vmT, evo, wr, wrC, frame, Nat.reduceAdd, Nat.reduceMul, Nat.reduceSub, beq_self_eq_true, List.cons_append, List.nil_append, beq_dec, vmI, vc57_1, g2, g3, g7]
    exact ⟨⟨k, pt, nr, of_, p.fr, d, fin, se, li⟩, v, _, _, _, _, _, _, _, _, _, _, _, rfl, hql, hq8, .inl ⟨rfl, ((hS2.re ((List.perm_middle (l₁ := [_])).trans (.cons _ (.refl _)))))⟩⟩
  · simp (disch := omega) only [vm0, vm1, vm2, vm3, vm4, vm5, vm6, vm7, vmF, vmT, evo, wr, wrC, frame, Nat.reduceAdd, Nat.reduceMul, Nat.reduceSub, beq_self_eq_true, List.cons_append, List.nil_append, beq_dec, vmI, vc57_1, g2, g3, g7]
    refine call_ok rfl rfl (cutB (n + 2) s u p.d 70 (by omega) (by omega) hu1) ?_
    rintro y s3 ⟨f, a1, a2, a3⟩
    have hS2 := hS1.push (P := oW y 1 encB (p.d.take 70)) a1 a2 a3
    have g4 := Sep.getC (((hS2.re ((List.perm_middle (l₁ := [_])).trans (.cons _ (.refl _))))))
    have hS3 := Sep.putC (((hS2.re ((List.perm_middle (l₁ := [_])).trans (.cons _ (.refl _)))))) [num k, num pt, num nr, num of_, num fr, y, .bool fin, num se, num li]
    have hyc := cells1 a1.rd.rd.sl
    simp (disch := omega) only [vm0, vm1, vm2, vm3, vm4, vm5, vm6, vm7, vmF, vmT, evo, wr, wrC, frame, Nat.reduceAdd, Nat.reduceMul, Nat.reduceSub, beq_self_eq_true, List.cons_append, List.nil_append, beq_dec, vmI, g2, g3, g4, hyc]
    exact ⟨⟨k, pt, nr, of_, fr, p.d.take 70, fin, se, li⟩, y, _, _, _, _, _, _, _, _, _, _, _, rfl, by have := List.length_take_le 70 p.d; show (p.d.take 70).length ≤ 80; omega, fun x hx => hp.d x (List.mem_of_mem_take hx), .inl ⟨rfl, ((hS3.re ((List.perm_middle (l₁ := [_, _])).trans (.cons _ ((List.perm_middle (l₁ := [_])).trans (.cons _ (.refl _)))))).drop)⟩⟩
  · have hS2 := hS1.putC [num k, num pt, num nr, num of_, num fr, v, .bool true, num se, num li]
    simp (disch := omega) only [vm0, vm1, vm2, vm3, vm4, vm5, vm6, vm7, vmF, vmT, evo, wr, wrC, frame, Nat.reduceAdd, Nat.reduceMul, Nat.reduceSub, beq_self_eq_true, List.cons_append, List.nil_append, beq_dec, vmI, vc57_1, g2, g3, g7]
    exact ⟨⟨k, pt, nr, of_, fr, d, true, se, li⟩, v, _, _, _, _, _, _, _, _, _, _, _, rfl, hql, hq8, .inl ⟨rfl, ((hS2.re ((List.perm_middle (l₁ := [_])).trans (.cons _ (.refl _)))))⟩⟩
  · have hS2 := hS1.putC [num k, num pt, num nr, num of_, num fr, v, .bool fin, num p.se, num li]
    simp (disch := omega) only [vm0, vm1, vm2, vm3, vm4, vm5, vm6, vm7, vmF, vmT, evo, wr, wrC, frame, Nat.reduceAdd, Nat.reduceMul, Nat.reduceSub, beq_self_eq_true, List.cons_append, List.nil_append, beq_dec, vmI, vc57_1, g2, g3, g7]
    exact ⟨⟨k, pt, nr, of_, fr, d, fin, p.se, li⟩, v, _, _, _, _, _, _, _, _, _, _, _, rfl, hql, hq8, .inl ⟨rfl, ((hS2.re ((List.perm_middle (l₁ := [_])).trans (.cons _ (.refl _)))))⟩⟩
  · have hS2 := hS1.putC [num k, num pt, num nr, num of_, num fr, v, .bool fin, num se, num p.li]
    simp (disch := omega) only [vm0, vm1, vm2, vm3, vm4, vm5, vm6, vm7, vmF, vmT, evo, wr, wrC, frame, Nat.reduceAdd, Nat.reduceMul, Nat.reduceSub, beq_self_eq_true, List.cons_append, List.nil_append, beq_dec, vmI, vc57_1, g2, g3, g7]
    exact ⟨⟨k, pt, nr, of_, fr, d, fin, se, p.li⟩, v, _, _, _, _, _, _, _, _, _, _, _, rfl, hql, hq8, .inl ⟨rfl, ((hS2.re ((List.perm_middle (l₁ := [_])).trans (.cons _ (.refl _)))))⟩⟩
  · simp (disch := omega) only [vm0, vm1, vm2, vm3, vm4, vm5, vm6, vm7, vmF, vmT, evo, wr, wrC, frame, Nat.reduceAdd, Nat.reduceMul, Nat.reduceSub, beq_self_eq_true, List.cons_append, List.nil_append, beq_dec, vmI, vc57_1, g2, g3, g7]
    refine call_ok rfl rfl (wth (n + 3) s p.fr 4098 hp.fr (by omega) (by omega)) ?_
    rintro y s2 ⟨r, rfl, hr, rfl⟩
    simp (disch := omega) only [vm0, vm1, vm2, vm3, vm4, vm5, vm6, vm7, vmF, vmT, evo, wr, wrC, frame, Nat.reduceAdd, Nat.reduceMul, Nat.reduceSub, beq_self_eq_true, List.cons_append, List.nil_append, beq_dec, vmI, g2, g3, hsv, hsm]
    refine call_ok rfl rfl (wth (n + 3) s2 p.nr 65537 hp.nr (by omega) (by omega)) ?_
    rintro y s3 ⟨r2, rfl, hr2, rfl⟩
    have hS3 := hS1.putC [num k, num pt, num nr, num of_, num r, v, .bool fin, num se, num li]
    have g6 := hS3.getC
    have hS4 := hS3.putC [num k, num pt, num r2, num of_, num r, v, .bool fin, num se, num li]
    have i3 := Sep.getC (((hS3.re ((List.perm_middle (l₁ := [_, _])).trans (.cons _ (.refl _))))))
    have i4 := Sep.getC (((hS4.re ((List.perm_middle (l₁ := [_, _])).trans (.cons _ (.refl _))))))
    simp (disch := omega) only [vm0, vm1, vm2, vm3, vm4, vm5, vm6, vm7, vmF, vmT, evo, wr, wrC, frame, Nat.reduceAdd, Nat.reduceMul, Nat.reduceSub, beq_self_eq_true, List.cons_append, List.nil_append, beq_dec, vmI, g2, g3, g6, i3, i4, hsv, hsm, rw_7, rw_8]
    exact ⟨⟨k, pt, r2, of_, r, d, fin, se, li⟩, v, _, _, _, _, _, _, _, _, _, _, _, rfl, hql, hq8, .inl ⟨rfl, ((hS4.re ((List.perm_middle (l₁ := [_])).trans (.cons _ (.refl _)))))⟩⟩
  · simp (disch := omega) only [vm0, vm1, vm2, vm3, vm4, vm5, vm6, vm7, vmF, vmT, evo, wr, wrC, frame, Nat.reduceAdd, Nat.reduceMul, Nat.reduceSub, beq_self_eq_true, List.cons_append, List.nil_append, beq_dec, vmI, vc57_1, g2, g3, g7]
    exact ⟨⟨k, pt, nr, of_, fr, d, fin, se, li⟩, v, _, _, _, _, _, _, _, _, _, _, _, rfl, hql, hq8, .inl ⟨rfl, hS⟩⟩
end
end Go.Proofs.Ytgckbcljlkkceaa.ctr
namespace Go.Proofs.Ytgckbcljlkkceaa.ctr
open Go Go.Vm Go.RowKit
set_option linter.unusedVariables false
set_option linter.constructorNameAsVariable false
set_option linter.unusedSimpArgs false
theorem Sep.fillC {s0 s : St} {b : Nat} {Ps : List Obj} (h : Sep s0 s (oT b :: Ps)) (cs : List AV) : Sep s0 (s.put b (some (.cells cs .own))) (oC b cs :: Ps) := by
  obtain ⟨f, ⟨h1, rfl⟩, up⟩ := h.hd
  exact up (oC b cs) (f' := [b]) ⟨get_put_eq rfl, by rw [next_put]; exact h1, rfl⟩ (.put (.inl (by simp))) (fun z hz => .inl hz)
theorem Sep.rsv {s0 s : St} {Ps : List Obj} (h : Sep s0 s Ps) : Sep s0 ⟨s.heap, s.next + 1⟩ (oT s.next :: Ps) :=
  h.push (P := oT s.next) (f := [s.next]) ⟨Nat.lt_succ_self _, rfl⟩ ⟨Nat.le_succ _, fun _ _ _ => rfl⟩ (by intro z hz; simp at hz; right; omega)
section
variable {bd : Bd} {fu : Nat}
set_option maxHeartbeats 4000000 in
theorem playP (n : Nat) (s : St) (p : PkV) (u : AV) (how : Int) (hp : p.In) (hh : In64 how) (hu : RdE s u 1 encB p.d) :
    OutOk (callF bd tab.get fu (n + 5) 57 [.agg (p.cs u), num how] s) (fun x s' => ∃ (q : PkV) (v : AV), Is x (.agg (q.cs v)) ∧ q.d.length ≤ 80 ∧ (∀ x ∈ q.d, In8 x) ∧ Sep s s' [oW v 1 encB q.d]) := by
  refine call_code t57 rfl ?_
  have hS := (((Sep.nil (s := s)).newC (p.cs u)).newC z9).rsv
  have g1 := Sep.getC (((hS.re ((List.perm_middle (l₁ := [_, _])).trans (.cons _ (.refl _))))))
  dsimp only [PkV.cs, z9, next_new] at *
  simp (disch := omega) only [vm0, vm1, vm2, vm3, vm4, vm5, vm6, vm7, vmF, vmT, evo, wr, wrC, frame, Nat.reduceAdd, Nat.reduceMul, Nat.reduceSub, beq_self_eq_true, List.cons_append, List.nil_append, beq_dec, vmI, vc57, g1]
  generalize (⟨((s.new (.cells [num p.k, num p.pt, num p.nr, num p.of_, num p.fr, u, .bool p.fin, num p.se, num p.li] .own)).new (.cells [num 0, num 0, num 0, num 0, num 0, .nils, .bool false, num 0, num 0] .own)).heap, s.next + 1 + 1 + 1⟩ : St) = s1 at *
  refine call_ok rfl rfl (wth (n + 3) s1 p.k 4 hp.k (by omega) (by omega)) ?_
  rintro y s2 ⟨r, rfl, hr, rfl⟩
  have g2 := Sep.getC (((hS.re ((List.perm_middle (l₁ := [_, _])).trans (.cons _ (.refl _))))))
  simp (disch := omega) only [vm0, vm1, vm2, vm3, vm4, vm5, vm6, vm7, vmF, vmT, evo, wr, wrC, frame, Nat.reduceAdd, Nat.reduceMul, Nat.reduceSub, beq_self_eq_true, List.cons_append, List.nil_append, beq_dec, vmI, g2]
  refine call_ok rfl rfl (wth (n + 3) s2 p.pt 3 hp.pt (by omega) (by omega)) ?_
  rintro y s3 ⟨r2, rfl, hr2, rfl⟩
  simp (disch := omega) only [vm0, vm1, vm2, vm3, vm4, vm5, vm6, vm7, vmF, vmT, evo, wr, wrC, frame, Nat.reduceAdd, Nat.reduceMul, Nat.reduceSub, beq_self_eq_true, List.cons_append, List.nil_append, beq_dec, vmI, g2]
  refine call_ok rfl rfl (wth (n + 3) s3 p.nr 300 hp.nr (by omega) (by omega)) ?_
  rintro y s4 ⟨r3, rfl, hr3, rfl⟩
  have hS1 := hS.fillC [num 0, num 0, num 0, num 0, num 0, .nils, .bool false, num 0, num 0]
  have g3 := hS1.getC
  have hS2 := hS1.putC [num (1 + r), num r2, num r3, num 0, num 0, .nils, .bool false, num 0, num 0]
  have g4 := hS2.getC
  have g5 := Sep.getC (((hS2.re ((List.perm_middle (l₁ := [_, _])).trans (.cons _ (.refl _))))))
  simp (disch := omega) only [vm0, vm1, vm2, vm3, vm4, vm5, vm6, vm7, vmF, vmT, evo, wr, wrC, frame, Nat.reduceAdd, Nat.reduceMul, Nat.reduceSub, beq_self_eq_true, List.cons_append, List.nil_append, beq_dec, vmI, g2, g3, g4, g5, fNew]
  have hS3 := hS2.push (P := oW .nils 1 encB []) (f := []) (.nil encB_w (by omega)) .refl (by simp [Nw])
  have hPS : PS s _ p u ⟨1 + r, r2, r3, 0, 0, [], false, 0, 0⟩ .nils s.next (s.next + 2) (s.next + 1) := ⟨((hS3.re (.cons _ (.cons _ ((List.perm_middle (l₁ := [_])).trans (.cons _ (.refl _))))))), by simp, by simp⟩
  clear hS hS1 hS2 hS3 g2 g3 g4 g5
  refine RsOk.mono (pk_sw0 (n + 1) s _ p u ⟨1 + r, r2, r3, 0, 0, [], false, 0, 0⟩ .nils s.next (s.next + 2) (s.next + 1) hp hu hPS _ _ _ _ _ _ _ _ _ _ _ _ _ _ _ _ _) ?_
  rintro e F s5 ⟨rfl, q, v, y8, y9, y10, rfl, hq⟩
  simp (disch := omega) only [vm0, vm1, vm2, vm3, vm4, vm5, vm6, vm7, vmF, vmT, evo, wr, wrC, frame, Nat.reduceAdd, Nat.reduceMul, Nat.reduceSub, beq_self_eq_true, List.cons_append, List.nil_append, beq_dec, vmI, vc57_2]
  refine call_ok rfl rfl (wth (n + 3) s5 how 40 hh (by omega) (by omega)) ?_
  rintro y s6 ⟨z, rfl, hz, rfl⟩
  simp (disch := omega) only [vm0, vm1, vm2, vm3, vm4, vm5, vm6, vm7, vmF, vmT, evo, wr, wrC, frame, Nat.reduceAdd, Nat.reduceMul, Nat.reduceSub, beq_self_eq_true, List.cons_append, List.nil_append, beq_dec, vmI]
  refine RsOk.mono (pk_sw1 n s s6 p u q v s.next (s.next + 2) (s.next + 1) hp hu hq _ _ _ _ _ _ _ _ _ _ _ _ _ _ _ _ _ _) ?_
  rintro e F s7 ⟨q', v', y11, y12, y13, y14, y15, y16, y17, y18, y19, y20, y21, rfl, hl', h8', ⟨rfl, hT⟩ | ⟨rfl, hT⟩⟩
  · have g6 := Sep.getC (((hT.re ((List.perm_middle (l₁ := [_])).trans (.cons _ (.refl _))))))
    have g7 := Sep.getC (((hT.re ((List.perm_middle (l₁ := [_, _, _])).trans (.cons _ (.refl _))))))
    have hT2 := Sep.putC (((hT.re ((List.perm_middle (l₁ := [_, _, _])).trans (.cons _ (.refl _)))))) (q'.cs v')
    have g8 := hT2.getC
    dsimp only [PkV.cs, z9] at *
    simp (disch := omega) only [vm0, vm1, vm2, vm3, vm4, vm5, vm6, vm7, vmF, vmT, evo, wr, wrC, frame, Nat.reduceAdd, Nat.reduceMul, Nat.reduceSub, beq_self_eq_true, List.cons_append, List.nil_append, beq_dec, vmI, g6, g7, g8]
    exact ⟨q', v', rfl, hl', h8', ((hT2.re (.cons _ ((List.perm_middle (l₁ := [_])).trans (.cons _ ((List.perm_middle (l₁ := [_])).trans (.cons _ (.refl _))))))).drop.drop.drop)⟩
  · have g6 := Sep.getC (((hT.re ((List.perm_middle (l₁ := [_])).trans (.cons _ (.refl _))))))
    dsimp only [PkV.cs] at *
    simp (disch := omega) only [vm0, vm1, vm2, vm3, vm4, vm5, vm6, vm7, vmF, vmT, evo, wr, wrC, frame, Nat.reduceAdd, Nat.reduceMul, Nat.reduceSub, beq_self_eq_true, List.cons_append, List.nil_append, beq_dec, vmI, g6]
    exact ⟨q', v', rfl, hl', h8', ((hT.re ((List.perm_middle (l₁ := [_])).trans (.cons _ (.refl _)))).drop)⟩
end
end Go.Proofs.Ytgckbcljlkkceaa.ctr
namespace Go.Proofs.Ytgckbcljlkkceaa.ctr
open Go Go.Vm Go.RowKit
set_option linter.unusedVariables false
set_option linter.constructorNameAsVariable false
set_option linter.unusedSimpArgs false
def z12 : List AV := [num 0, num 0, .nils, num 0, num 0, num 0, num 0, num 0, .nils, .bool false, num 0, num 0]
structure EvV.In (e : EvV) : Prop where
  k : In64 e.k
  n : In64 e.n
  p : e.p.In
  d : ∀ x ∈ e.d, In8 x
/-- the state of Event: e in block b2, what is made of it in b3, the result's block b7 -/
structure ES (s0 s : St) (e : EvV) (u w : AV) (q : EvV) (v v2 : AV) (b2 b3 b7 : Nat) : Prop where
  sep : Sep s0 s [oW v 1 encB q.d, oW v2 1 encB q.p.d, oC b3 (q.cs v v2), oC b2 (e.cs u w), oC b7 z12]
  len : q.d.length ≤ 91
  len2 : q.p.d.length ≤ 80
  in8 : ∀ x ∈ q.d, In8 x
  in9 : ∀ x ∈ q.p.d, In8 x
theorem quo_in (x : Int) (h : In64 x) : In64 (x.tdiv 40) := by
  unfold In64 at *
  rcases Int.le_total 0 x with h0 | h0
  · rw [Int.tdiv_eq_ediv_of_nonneg h0]; omega
  · have : x.tdiv 40 = -((-x).tdiv 40) := by rw [Int.neg_tdiv, Int.neg_neg]
    rw [this, Int.tdiv_eq_ediv_of_nonneg (by omega)]; omega
section
variable {bd : Bd} {fu : Nat}
set_option maxHeartbeats 8000000 in
theorem ev_sw0 (n : Nat) (s0 s : St) (e : EvV) (u w : AV) (q : EvV) (v v2 : AV) (b2 b3 b7 : Nat) (how : Int) (hh : In64 how) (he : e.In) (hu : RdE s0 u 1 encB e.d) (hw : RdE s0 w 1 encB e.p.d) (hS : ES s0 s e u w q v v2 b2 b3 b7) (w0 x5 x7 x8 x9 x11 x12 x13 x14 x15 x16 : Option AV) :
    RsOk (exec bd (callF bd tab.get fu (n + 5)) fu vc10_0 [w0, some (num how), some (.ptr b2 0), some (.ptr b3 0), some (num q.k), x5, some (.fn 19 [] []), x7, x8, x9, some (.ptr b7 0), x11, x12, x13, x14, x15, x16] s) (fun e1 F' s' => ∃ (q' : EvV) (v' v2' : AV), ∃ y7 y8 y9 y11, F' = [w0, some (num how), some (.ptr b2 0), some (.ptr b3 0), some (num q.k), x5, some (.fn 19 [] []), y7, y8, y9, some (.ptr b7 0), y11, x12, x13, x14, x15, x16] ∧ Is e1 .normal ∧ ES s0 s' e u w q' v' v2' b2 b3 b7) := by
  obtain ⟨hS, hql, hql2, hq8, hq9⟩ := hS
  have hu1 := hu.fr0 hS.frm
  have hw1 := hw.fr0 hS.frm
  have g2 := Sep.getC (((hS.re ((List.perm_middle (l₁ := [_, _, _])).trans (.cons _ (.refl _))))))
  have g3 := Sep.getC (((hS.re ((List.perm_middle (l₁ := [_, _])).trans (.cons _ (.refl _))))))
  have hS1 := ((hS.re ((List.perm_middle (l₁ := [_, _])).trans (.cons _ (.refl _)))))
  have hsu := sv_sl hu.rd.sl
  have hmu := sm_v hu.rd.sl
  have hsw := sv_sl hw.rd.sl
  have hmw := sm_v hw.rd.sl
  have hqi := quo_in how hh
  have hqb : -9223372036854775808 ≤ how.tdiv 40 ∧ how.tdiv 40 ≤ 9223372036854775807 := hqi
  have h40 : (40 : Int) ≠ 0 := by omega
  have hpp := playP (bd := bd)  (fu := fu) n s e.p w (how.tdiv 40) he.p hqi hw1
  obtain ⟨k, m, d, pk, ppt, pnr, pof_, pfr, pd, pfin, pse, pli⟩ := q
  dsimp only [EvV.cs, PkV.cs] at *
  rcases (show k = 1 ∨ k = 2 ∨ k = 3 ∨ k = 4 ∨ k = 5 ∨ k = 7 ∨ k = 8 ∨ (k ≠ 1 ∧ k ≠ 2 ∧ k ≠ 3 ∧ k ≠ 4 ∧ k ≠ 5 ∧ k ≠ 7 ∧ k ≠ 8) by omega) with rfl | rfl | rfl | rfl | rfl | rfl | rfl | hk
  · simp (disch := omega) only [vm0, vm1, vm2, vm3, vm4, vm5, vm6, vm7, vmF, vmT, evo, wr, wrC, frame, Nat.reduceAdd, Nat.reduceMul, Nat.reduceSub, beq_self_eq_true, List.cons_append, List.nil_append, beq_dec, vmI, vc10_0, g2, g3]
    refine call_ok rfl rfl (cutB (n + 3) s u e.d 90 (by omega) (by omega) hu1) ?_
    rintro y s2 ⟨f, a1, a2, a3⟩
    have hS2 := hS1.push (P := oW y 1 encB (e.d.take 90)) a1 a2 a3
    have hS3 := hS2.newC [byt 7]
    have hlt := List.length_take_le 90 e.d
    obtain ⟨fo, ho, up⟩ := Sep.hd (((hS3.re ((List.perm_middle (l₁ := [_])).trans (.cons _ (.refl _))))))
    simp (disch := omega) only [vm0, vm1, vm2, vm3, vm4, vm5, vm6, vm7, vmF, vmT, evo, wr, wrC, frame, Nat.reduceAdd, Nat.reduceMul, Nat.reduceSub, beq_self_eq_true, List.cons_append, List.nil_append, beq_dec, vmI]
    refine op_app1 (show OwE _ y 1 encB (e.d.take 90) fo from ho) .refl rfl (by omega) ?_
    intro y3 s4 f4 r7 r8 r9
    have hS4 := up (oW y3 1 encB (e.d.take 90 ++ [7])) r7 r8 r9
    have g4 := Sep.getC (((hS4.re ((List.perm_middle (l₁ := [_, _])).trans (.cons _ (.refl _))))))
    have hS5 := Sep.putC (((hS4.re ((List.perm_middle (l₁ := [_, _])).trans (.cons _ (.refl _)))))) [num 1, num m, y3, num pk, num ppt, num pnr, num pof_, num pfr, v2, .bool pfin, num pse, num pli]
    have hyc := cells1 r7.rd.rd.sl
    simp (disch := omega) only [vm0, vm1, vm2, vm3, vm4, vm5, vm6, vm7, vmF, vmT, evo, wr, wrC, frame, Nat.reduceAdd, Nat.reduceMul, Nat.reduceSub, beq_self_eq_true, List.cons_append, List.nil_append, beq_dec, vmI, g4, hyc]
    exact ⟨⟨1, m, e.d.take 90 ++ [7], ⟨pk, ppt, pnr, pof_, pfr, pd, pfin, pse, pli⟩⟩, y3, v2, _, _, _, _, rfl, rfl, ((hS5.re ((List.perm_middle (l₁ := [_, _])).trans (.cons _ ((List.perm_middle (l₁ := [_, _])).trans (.cons _ ((List.perm_middle (l₁ := [_])).trans (.cons _ ((List.perm_middle (l₁ := [_])).trans (.cons _ (.refl _)))))))))).drop.drop), by show (e.d.take 90 ++ [7]).length ≤ 91; simp; omega, hql2, fun x hx => by
      rcases List.mem_append.1 hx with h1 | h1
      · exact he.d x (List.mem_of_mem_take h1)
      · simp at h1; subst h1; exact ⟨by omega, by omega⟩, hq9⟩
  · simp (disch := omega) only [vm0, vm1, vm2, vm3, vm4, vm5, vm6, vm7, vmF, vmT, evo, wr, wrC, frame, Nat.reduceAdd, Nat.reduceMul, Nat.reduceSub, beq_self_eq_true, List.cons_append, List.nil_append, beq_dec, vmI, vc10_0, g2, g3]
    refine call_ok rfl rfl (cutB (n + 3) s u e.d 90 (by omega) (by omega) hu1) ?_
    rintro y s2 ⟨f, a1, a2, a3⟩
    have hS2 := hS1.push (P := oW y 1 encB (e.d.take 90)) a1 a2 a3
    have hS3 := hS2.newC [byt 7]
    have hlt := List.length_take_le 90 e.d
    obtain ⟨fo, ho, up⟩ := Sep.hd (((hS3.re ((List.perm_middle (l₁ := [_])).trans (.cons _ (.refl _))))))
    simp (disch := omega) only [vm0, vm1, vm2, vm3, vm4, vm5, vm6, vm7, vmF, vmT, evo, wr, wrC, frame, Nat.reduceAdd, Nat.reduceMul, Nat.reduceSub, beq_self_eq_true, List.cons_append, List.nil_append, beq_dec, vmI]
    refine op_app1 (show OwE _ y 1 encB (e.d.take 90) fo from ho) .refl rfl (by omega) ?_
    intro y3 s4 f4 r7 r8 r9
    have hS4 := up (oW y3 1 encB (e.d.take 90 ++ [7])) r7 r8 r9
    have g4 := Sep.getC (((hS4.re ((List.perm_middle (l₁ := [_, _])).trans (.cons _ (.refl _))))))
    have hS5 := Sep.putC (((hS4.re ((List.perm_middle (l₁ := [_, _])).trans (.cons _ (.refl _)))))) [num 2, num m, y3, num pk, num ppt, num pnr, num pof_, num pfr, v2, .bool pfin, num pse, num pli]
    have hyc := cells1 r7.rd.rd.sl
    simp (disch := omega) only [vm0, vm1, vm2, vm3, vm4, vm5, vm6, vm7, vmF, vmT, evo, wr, wrC, frame, Nat.reduceAdd, Nat.reduceMul, Nat.reduceSub, beq_self_eq_true, List.cons_append, List.nil_append, beq_dec, vmI, g4, hyc]
    exact ⟨⟨2, m, e.d.take 90 ++ [7], ⟨pk, ppt, pnr, pof_, pfr, pd, pfin, pse, pli⟩⟩, y3, v2, _, _, _, _, rfl, rfl, ((hS5.re ((List.perm_middle (l₁ := [_, _])).trans (.cons _ ((List.perm_middle (l₁ := [_, _])).trans (.cons _ ((List.perm_middle (l₁ := [_])).trans (.cons _ ((List.perm_middle (l₁ := [_])).trans (.cons _ (.refl _)))))))))).drop.drop), by show (e.d.take 90 ++ [7]).length ≤ 91; simp; omega, hql2, fun x hx => by
      rcases List.mem_append.1 hx with h1 | h1
      · exact he.d x (List.mem_of_mem_take h1)
      · simp at h1; subst h1; exact ⟨by omega, by omega⟩, hq9⟩
  · simp (disch := omega) only [vm0, vm1, vm2, vm3, vm4, vm5, vm6, vm7, vmF, vmT, evo, wr, wrC, frame, Nat.reduceAdd, Nat.reduceMul, Nat.reduceSub, beq_self_eq_true, List.cons_append, List.nil_append, beq_dec, vmI, vc10_0, g2, g3]
    refine call_ok rfl rfl (wth (n + 4) s e.n 100000 he.n (by omega) (by omega)) ?_
    rintro y s2 ⟨r, rfl, hr, rfl⟩
    have hS2 := hS1.putC [num 3, num (1 + r), v, num pk, num ppt, num pnr, num pof_, num pfr, v2, .bool pfin, num pse, num pli]
    simp (disch := omega) only [vm0, vm1, vm2, vm3, vm4, vm5, vm6, vm7, vmF, vmT, evo, wr, wrC, frame, Nat.reduceAdd, Nat.reduceMul, Nat.reduceSub, beq_self_eq_true, List.cons_append, List.nil_append, beq_dec, vmI, g2, g3]
    exact ⟨⟨3, 1 + r, d, ⟨pk, ppt, pnr, pof_, pfr, pd, pfin, pse, pli⟩⟩, v, v2, _, _, _, _, rfl, rfl, ((hS2.re ((List.perm_middle (l₁ := [_])).trans (.cons _ ((List.perm_middle (l₁ := [_])).trans (.cons _ (.refl _))))))), hql, hql2, hq8, hq9⟩
  · simp (disch := omega) only [vm0, vm1, vm2, vm3, vm4, vm5, vm6, vm7, vmF, vmT, evo, wr, wrC, frame, Nat.reduceAdd, Nat.reduceMul, Nat.reduceSub, beq_self_eq_true, List.cons_append, List.nil_append, beq_dec, vmI, vc10_0, g2, g3, b_quo h40]
    refine call_ok rfl rfl hpp ?_
    rintro y s2 ⟨q1, y1, rfl, ql1, ql8, hSx⟩
    obtain ⟨f, a1, a2, a3⟩ := hSx.out1
    have hS2 := hS1.push (P := oW y1 1 encB q1.d) a1 a2 a3
    have g4 := Sep.getC (((hS2.re ((List.perm_middle (l₁ := [_])).trans (.cons _ (.refl _))))))
    have hS3 := Sep.putC (((hS2.re ((List.perm_middle (l₁ := [_])).trans (.cons _ (.refl _)))))) [num 4, num m, v, num q1.k, num q1.pt, num q1.nr, num q1.of_, num q1.fr, y1, .bool q1.fin, num q1.se, num q1.li]
    simp (disch := omega) only [vm0, vm1, vm2, vm3, vm4, vm5, vm6, vm7, vmF, vmT, evo, wr, wrC, frame, Nat.reduceAdd, Nat.reduceMul, Nat.reduceSub, beq_self_eq_true, List.cons_append, List.nil_append, beq_dec, vmI, g4]
    exact ⟨⟨4, m, d, q1⟩, v, y1, _, _, _, _, rfl, rfl, ((hS3.re ((List.perm_middle (l₁ := [_, _, _])).trans (.cons _ ((List.perm_middle (l₁ := [_, _])).trans (.cons _ ((List.perm_middle (l₁ := [_])).trans (.cons _ (.refl _)))))))).drop), hql, ql1, hq8, ql8⟩
  · simp (disch := omega) only [vm0, vm1, vm2, vm3, vm4, vm5, vm6, vm7, vmF, vmT, evo, wr, wrC, frame, Nat.reduceAdd, Nat.reduceMul, Nat.reduceSub, beq_self_eq_true, List.cons_append, List.nil_append, beq_dec, vmI, vc10_0, g2, g3, b_quo h40]
    refine call_ok rfl rfl hpp ?_
    rintro y s2 ⟨q1, y1, rfl, ql1, ql8, hSx⟩
    obtain ⟨f, a1, a2, a3⟩ := hSx.out1
    have hS2 := hS1.push (P := oW y1 1 encB q1.d) a1 a2 a3
    have g4 := Sep.getC (((hS2.re ((List.perm_middle (l₁ := [_])).trans (.cons _ (.refl _))))))
    have hS3 := Sep.putC (((hS2.re ((List.perm_middle (l₁ := [_])).trans (.cons _ (.refl _)))))) [num 5, num m, v, num q1.k, num q1.pt, num q1.nr, num q1.of_, num q1.fr, y1, .bool q1.fin, num q1.se, num q1.li]
    simp (disch := omega) only [vm0, vm1, vm2, vm3, vm4, vm5, vm6, vm7, vmF, vmT, evo, wr, wrC, frame, Nat.reduceAdd, Nat.reduceMul, Nat.reduceSub, beq_self_eq_true, List.cons_append, List.nil_append, beq_dec, vmI, g4]
    exact ⟨⟨5, m, d, q1⟩, v, y1, _, _, _, _, rfl, rfl, ((hS3.re ((List.perm_middle (l₁ := [_, _, _])).trans (.cons _ ((List.perm_middle (l₁ := [_, _])).trans (.cons _ ((List.perm_middle (l₁ := [_])).trans (.cons _ (.refl _)))))))).drop), hql, ql1, hq8, ql8⟩
  · simp (disch := omega) only [vm0, vm1, vm2, vm3, vm4, vm5, vm6, vm7, vmF, vmT, evo, wr, wrC, frame, Nat.reduceAdd, Nat.reduceMul, Nat.reduceSub, beq_self_eq_true, List.cons_append, List.nil_append, beq_dec, vmI, vc10_0, g2, g3]
    refine call_ok rfl rfl (wth (n + 4) s e.n 3 he.n (by omega) (by omega)) ?_
    rintro y s2 ⟨r, rfl, hr, rfl⟩
    have hS2 := hS1.putC [num 7, num r, v, num pk, num ppt, num pnr, num pof_, num pfr, v2, .bool pfin, num pse, num pli]
    simp (disch := omega) only [vm0, vm1, vm2, vm3, vm4, vm5, vm6, vm7, vmF, vmT, evo, wr, wrC, frame, Nat.reduceAdd, Nat.reduceMul, Nat.reduceSub, beq_self_eq_true, List.cons_append, List.nil_append, beq_dec, vmI, g2, g3]
    exact ⟨⟨7, r, d, ⟨pk, ppt, pnr, pof_, pfr, pd, pfin, pse, pli⟩⟩, v, v2, _, _, _, _, rfl, rfl, ((hS2.re ((List.perm_middle (l₁ := [_])).trans (.cons _ ((List.perm_middle (l₁ := [_])).trans (.cons _ (.refl _))))))), hql, hql2, hq8, hq9⟩
  · simp (disch := omega) only [vm0, vm1, vm2, vm3, vm4, vm5, vm6, vm7, vmF, vmT, evo, wr, wrC, frame, Nat.reduceAdd, Nat.reduceMul, Nat.reduceSub, beq_self_eq_true, List.cons_append, List.nil_append, beq_dec, vmI, vc10_0, g2, g3]
    refine call_ok rfl rfl (wth (n + 4) s e.n 3 he.n (by omega) (by omega)) ?_
    rintro y s2 ⟨r, rfl, hr, rfl⟩
    have hS2 := hS1.putC [num 8, num r, v, num pk, num ppt, num pnr, num pof_, num pfr, v2, .bool pfin, num pse, num pli]
    simp (disch := omega) only [vm0, vm1, vm2, vm3, vm4, vm5, vm6, vm7, vmF, vmT, evo, wr, wrC, frame, Nat.reduceAdd, Nat.reduceMul, Nat.reduceSub, beq_self_eq_true, List.cons_append, List.nil_append, beq_dec, vmI, g2, g3]
    exact ⟨⟨8, r, d, ⟨pk, ppt, pnr, pof_, pfr, pd, pfin, pse, pli⟩⟩, v, v2, _, _, _, _, rfl, rfl, ((hS2.re ((List.perm_middle (l₁ := [_])).trans (.cons _ ((List.perm_middle (l₁ := [_])).trans (.cons _ (.refl _))))))), hql, hql2, hq8, hq9⟩
  · simp (disch := omega) only [vm0, vm1, vm2, vm3, vm4, vm5, vm6, vm7, vmF, vmT, evo, wr, wrC, frame, Nat.reduceAdd, Nat.reduceMul, Nat.reduceSub, beq_self_eq_true, List.cons_append, List.nil_append, beq_dec, vmI, vc10_0, g2, g3]
    exact ⟨⟨k, m, d, ⟨pk, ppt, pnr, pof_, pfr, pd, pfin, pse, pli⟩⟩, v, v2, _, _, _, _, rfl, rfl, hS, hql, hql2, hq8, hq9⟩
set_option maxHeartbeats 8000000 in
theorem ev_sw1 (n : Nat) (s0 s : St) (e : EvV) (u w : AV) (q : EvV) (v v2 : AV) (b2 b3 b7 : Nat) (z : Int) (he : e.In) (hu : RdE s0 u 1 encB e.d) (hw : RdE s0 w 1 encB e.p.d) (hS : ES s0 s e u w q v v2 b2 b3 b7) (w0 w1 x4 x7 x8 x9 x11 x12 x13 x14 x15 x16 : Option AV) :
    RsOk (exec bd (callF bd tab.get fu (n + 5)) fu vc10_1 [w0, w1, some (.ptr b2 0), some (.ptr b3 0), x4, some (num z), some (.fn 19 [] []), x7, x8, x9, some (.ptr b7 0), x11, x12, x13, x14, x15, x16] s) (fun e1 F' s' => ∃ (q' : EvV) (v' v2' : AV), ∃ y12 y13 y14 y15 y16, F' = [w0, w1, some (.ptr b2 0), some (.ptr b3 0), x4, some (num z), some (.fn 19 [] []), x7, x8, x9, some (.ptr b7 0), x11, y12, y13, y14, y15, y16] ∧ Is e1 .normal ∧ ES s0 s' e u w q' v' v2' b2 b3 b7) := by
  obtain ⟨hS, hql, hql2, hq8, hq9⟩ := hS
  have hu1 := hu.fr0 hS.frm
  have hw1 := hw.fr0 hS.frm
  have g2 := Sep.getC (((hS.re ((List.perm_middle (l₁ := [_, _, _])).trans (.cons _ (.refl _))))))
  have g3 := Sep.getC (((hS.re ((List.perm_middle (l₁ := [_, _])).trans (.cons _ (.refl _))))))
  have hS1 := ((hS.re ((List.perm_middle (l₁ := [_, _])).trans (.cons _ (.refl _)))))
  have hsu := sv_sl hu.rd.sl
  have hmu := sm_v hu.rd.sl
  have hsw := sv_sl hw.rd.sl
  have hmw := sm_v hw.rd.sl
  have hcp := cutP (bd := bd)  (fu := fu) (n + 2) s e.p w hw1
  obtain ⟨k, m, d, pk, ppt, pnr, pof_, pfr, pd, pfin, pse, pli⟩ := q
  dsimp only [EvV.cs, PkV.cs] at *
  rcases (show z = 35 ∨ z = 36 ∨ z = 37 ∨ z = 38 ∨ z = 39 ∨ (z < 35 ∨ 39 < z) by omega) with rfl | rfl | rfl | rfl | rfl | hz
  · have hS2 := hS1.putC [num e.k, num m, v, num pk, num ppt, num pnr, num pof_, num pfr, v2, .bool pfin, num pse, num pli]
    simp (disch := omega) only [vm0, vm1, vm2, vm3, vm4, vm5, vm6, vm7, vmF, vmT, evo, wr, wrC, frame, Nat.reduceAdd, Nat.reduceMul, Nat.reduceSub, beq_self_eq_true, List.cons_append, List.nil_append, beq_dec, vmI, vc10_1, g2, g3]
    exact ⟨⟨e.k, m, d, ⟨pk, ppt, pnr, pof_, pfr, pd, pfin, pse, pli⟩⟩, v, v2, _, _, _, _, _, rfl, rfl, ((hS2.re ((List.perm_middle (l₁ := [_])).trans (.cons _ ((List.perm_middle (l₁ := [_])).trans (.cons _ (.refl _))))))), hql, hql2, hq8, hq9⟩
  · have hS2 := hS1.putC [num k, num e.n, v, num pk, num ppt, num pnr, num pof_, num pfr, v2, .bool pfin, num pse, num pli]
    simp (disch := omega) only [vm0, vm1, vm2, vm3, vm4, vm5, vm6, vm7, vmF, vmT, evo, wr, wrC, frame, Nat.reduceAdd, Nat.reduceMul, Nat.reduceSub, beq_self_eq_true, List.cons_append, List.nil_append, beq_dec, vmI, vc10_1, g2, g3]
    exact ⟨⟨k, e.n, d, ⟨pk, ppt, pnr, pof_, pfr, pd, pfin, pse, pli⟩⟩, v, v2, _, _, _, _, _, rfl, rfl, ((hS2.re ((List.perm_middle (l₁ := [_])).trans (.cons _ ((List.perm_middle (l₁ := [_])).trans (.cons _ (.refl _))))))), hql, hql2, hq8, hq9⟩
  · simp (disch := omega) only [vm0, vm1, vm2, vm3, vm4, vm5, vm6, vm7, vmF, vmT, evo, wr, wrC, frame, Nat.reduceAdd, Nat.reduceMul, Nat.reduceSub, beq_self_eq_true, List.cons_append, List.nil_append, beq_dec, vmI, vc10_1, g2, g3]
    refine call_ok rfl rfl (cutB (n + 3) s u e.d 90 (by omega) (by omega) hu1) ?_
    rintro y s2 ⟨f, a1, a2, a3⟩
    have hS2 := hS1.push (P := oW y 1 encB (e.d.take 90)) a1 a2 a3
    have hlt := List.length_take_le 90 e.d
    have g4 := Sep.getC (((hS2.re ((List.perm_middle (l₁ := [_])).trans (.cons _ (.refl _))))))
    have hS5 := Sep.putC (((hS2.re ((List.perm_middle (l₁ := [_])).trans (.cons _ (.refl _)))))) [num k, num m, y, num pk, num ppt, num pnr, num pof_, num pfr, v2, .bool pfin, num pse, num pli]
    have hyc := cells1 a1.rd.rd.sl
    simp (disch := omega) only [vm0, vm1, vm2, vm3, vm4, vm5, vm6, vm7, vmF, vmT, evo, wr, wrC, frame, Nat.reduceAdd, Nat.reduceMul, Nat.reduceSub, beq_self_eq_true, List.cons_append, List.nil_append, beq_dec, vmI, g4, hyc]
    exact ⟨⟨k, m, e.d.take 90, ⟨pk, ppt, pnr, pof_, pfr, pd, pfin, pse, pli⟩⟩, y, v2, _, _, _, _, _, rfl, rfl, ((hS5.re ((List.perm_middle (l₁ := [_, _])).trans (.cons _ ((List.perm_middle (l₁ := [_])).trans (.cons _ ((List.perm_middle (l₁ := [_])).trans (.cons _ (.refl _)))))))).drop), by show (e.d.take 90).length ≤ 91; omega, hql2, fun x hx => he.d x (List.mem_of_mem_take hx), hq9⟩
  · simp (disch := omega) only [vm0, vm1, vm2, vm3, vm4, vm5, vm6, vm7, vmF, vmT, evo, wr, wrC, frame, Nat.reduceAdd, Nat.reduceMul, Nat.reduceSub, beq_self_eq_true, List.cons_append, List.nil_append, beq_dec, vmI, vc10_1, g2, g3]
    refine call_ok rfl rfl hcp ?_
    rintro y s2 ⟨y1, rfl, hSx⟩
    obtain ⟨f, a1, a2, a3⟩ := hSx.out1
    have hS2 := hS1.push (P := oW y1 1 encB (e.p.d.take 80)) a1 a2 a3
    have g4 := Sep.getC (((hS2.re ((List.perm_middle (l₁ := [_])).trans (.cons _ (.refl _))))))
    have hS3 := Sep.putC (((hS2.re ((List.perm_middle (l₁ := [_])).trans (.cons _ (.refl _)))))) [num k, num m, v, num e.p.k, num e.p.pt, num e.p.nr, num e.p.of_, num e.p.fr, y1, .bool e.p.fin, num e.p.se, num e.p.li]
    have hlt := List.length_take_le 80 e.p.d
    simp (disch := omega) only [vm0, vm1, vm2, vm3, vm4, vm5, vm6, vm7, vmF, vmT, evo, wr, wrC, frame, Nat.reduceAdd, Nat.reduceMul, Nat.reduceSub, beq_self_eq_true, List.cons_append, List.nil_append, beq_dec, vmI, g4]
    exact ⟨⟨k, m, d, ⟨e.p.k, e.p.pt, e.p.nr, e.p.of_, e.p.fr, e.p.d.take 80, e.p.fin, e.p.se, e.p.li⟩⟩, v, y1, _, _, _, _, _, rfl, rfl, ((hS3.re ((List.perm_middle (l₁ := [_, _, _])).trans (.cons _ ((List.perm_middle (l₁ := [_, _])).trans (.cons _ ((List.perm_middle (l₁ := [_])).trans (.cons _ (.refl _)))))))).drop), hql, hlt, hq8, fun x hx => he.p.d x (List.mem_of_mem_take hx)⟩
  · simp (disch := omega) only [vm0, vm1, vm2, vm3, vm4, vm5, vm6, vm7, vmF, vmT, evo, wr, wrC, frame, Nat.reduceAdd, Nat.reduceMul, Nat.reduceSub, beq_self_eq_true, List.cons_append, List.nil_append, beq_dec, vmI, vc10_1, g2, g3, hsu, hmu, hsw, hmw]
    refine call_ok rfl rfl (cutB (n + 3) s u e.d 90 (by omega) (by omega) hu1) ?_
    rintro y s2 ⟨f, a1, a2, a3⟩
    have hS2 := hS1.push (P := oW y 1 encB (e.d.take 90)) a1 a2 a3
    have g4 := Sep.getC (((hS2.re ((List.perm_middle (l₁ := [_, _, _, _])).trans (.cons _ (.refl _))))))
    have hcp2 := cutP (bd := bd)  (fu := fu) (n + 2) s2 e.p w (hw.fr0 hS2.frm)
    dsimp only [PkV.cs] at hcp2
    have hyc := cells1 a1.rd.rd.sl
    simp (disch := omega) only [vm0, vm1, vm2, vm3, vm4, vm5, vm6, vm7, vmF, vmT, evo, wr, wrC, frame, Nat.reduceAdd, Nat.reduceMul, Nat.reduceSub, beq_self_eq_true, List.cons_append, List.nil_append, beq_dec, vmI, g2, g3, g4, hsu, hmu, hsw, hmw, hyc]
    refine call_ok rfl rfl hcp2 ?_
    rintro y0 s3 ⟨y1, rfl, hSx⟩
    obtain ⟨f, b1, b2_, b3_⟩ := hSx.out1
    have hS3 := hS2.push (P := oW y1 1 encB (e.p.d.take 80)) b1 b2_ b3_
    have g5 := Sep.getC (((hS3.re ((List.perm_middle (l₁ := [_, _])).trans (.cons _ (.refl _))))))
    have g6 := Sep.getC (((hS3.re ((List.perm_middle (l₁ := [_, _, _, _, _])).trans (.cons _ (.refl _))))))
    have hS4 := Sep.putC (((hS3.re ((List.perm_middle (l₁ := [_, _])).trans (.cons _ (.refl _)))))) [num e.k, num e.n, y, num e.p.k, num e.p.pt, num e.p.nr, num e.p.of_, num e.p.fr, y1, .bool e.p.fin, num e.p.se, num e.p.li]
    have hlt := List.length_take_le 80 e.p.d
    have hlt2 := List.length_take_le 90 e.d
    simp (disch := omega) only [vm0, vm1, vm2, vm3, vm4, vm5, vm6, vm7, vmF, vmT, evo, wr, wrC, frame, Nat.reduceAdd, Nat.reduceMul, Nat.reduceSub, beq_self_eq_true, List.cons_append, List.nil_append, beq_dec, vmI, g2, g3, g4, g5, g6, hsu, hmu, hsw, hmw, hyc, sv_bool]
    exact ⟨⟨e.k, e.n, e.d.take 90, ⟨e.p.k, e.p.pt, e.p.nr, e.p.of_, e.p.fr, e.p.d.take 80, e.p.fin, e.p.se, e.p.li⟩⟩, y, y1, _, _, _, _, _, rfl, rfl, ((hS4.re ((List.perm_middle (l₁ := [_, _, _])).trans (.cons _ ((List.perm_middle (l₁ := [_, _, _])).trans (.cons _ ((List.perm_middle (l₁ := [_, _])).trans (.cons _ ((List.perm_middle (l₁ := [_])).trans (.cons _ (.refl _)))))))))).drop.drop), by show (e.d.take 90).length ≤ 91; omega, hlt, fun x hx => he.d x (List.mem_of_mem_take hx), fun x hx => he.p.d x (List.mem_of_mem_take hx)⟩
  · simp (disch := omega) only [vm0, vm1, vm2, vm3, vm4, vm5, vm6, vm7, vmF, vmT, evo, wr, wrC, frame, Nat.reduceAdd, Nat.reduceMul, Nat.reduceSub, beq_self_eq_true, List.cons_append, List.nil_append, beq_dec, vmI, vc10_1, g2, g3]
    exact ⟨⟨k, m, d, ⟨pk, ppt, pnr, pof_, pfr, pd, pfin, pse, pli⟩⟩, v, v2, _, _, _, _, _, rfl, rfl, hS, hql, hql2, hq8, hq9⟩
end
end Go.Proofs.Ytgckbcljlkkceaa.ctr
namespace Go.Proofs.Ytgckbcljlkkceaa.ctr
open Go Go.Vm Go.RowKit
set_option linter.unusedVariables false
set_option linter.constructorNameAsVariable false
set_option linter.unusedSimpArgs false
section
variable {bd : Bd} {fu : Nat}
set_option maxHeartbeats 4000000 in
theorem playE (n : Nat) (s : St) (e : EvV) (u w : AV) (how : Int) (he : e.In) (hh : In64 how) (hu : RdE s u 1 encB e.d) (hw : RdE s w 1 encB e.p.d) :
    OutOk (callF bd tab.get fu (n + 6) 10 [.agg (e.cs u w), num how] s) (fun x s' => ∃ (q : EvV) (v v2 : AV), Is x (.agg (q.cs v v2)) ∧ q.d.length ≤ 91 ∧ q.p.d.length ≤ 80 ∧ (∀ x ∈ q.d, In8 x) ∧ (∀ x ∈ q.p.d, In8 x) ∧ Sep s s' [oW v 1 encB q.d, oW v2 1 encB q.p.d]) := by
  refine call_code t10 rfl ?_
  have hS := ((Sep.nil (s := s)).newC (e.cs u w)).newC z12
  have g1 := Sep.getC (((hS.re ((List.perm_middle (l₁ := [_])).trans (.cons _ (.refl _))))))
  have hek := he.k
  dsimp only [EvV.cs, z12, next_new] at *
  simp (disch := omega) only [vm0, vm1, vm2, vm3, vm4, vm5, vm6, vm7, vmF, vmT, evo, wr, wrC, frame, Nat.reduceAdd, Nat.reduceMul, Nat.reduceSub, beq_self_eq_true, List.cons_append, List.nil_append, beq_dec, vmI, vc10, g1]
  generalize (s.new (.cells [num e.k, num e.n, u, num e.p.k, num e.p.pt, num e.p.nr, num e.p.of_, num e.p.fr, w, .bool e.p.fin, num e.p.se, num e.p.li] .own)).new (.cells [num 0, num 0, .nils, num 0, num 0, num 0, num 0, num 0, .nils, .bool false, num 0, num 0] .own) = s1 at *
  refine call_ok rfl rfl (wth (n + 4) s1 e.k 8 hek (by omega) (by omega)) ?_
  rintro y s2 ⟨r, rfl, hr, rfl⟩
  have hS2 := hS.cell [num 0, num 0, .nils, num 0, num 0, num 0, num 0, num 0, .nils, .bool false, num 0, num 0] [num (1 + r), num 0, .nils, num 0, num 0, num 0, num 0, num 0, .nils, .bool false, num 0, num 0]
  have g4 := hS2.getC
  have g5 := Sep.getC (((hS2.re ((List.perm_middle (l₁ := [_, _])).trans (.cons _ (.refl _))))))
  simp (disch := omega) only [vm0, vm1, vm2, vm3, vm4, vm5, vm6, vm7, vmF, vmT, evo, wr, wrC, frame, Nat.reduceAdd, Nat.reduceMul, Nat.reduceSub, beq_self_eq_true, List.cons_append, List.nil_append, beq_dec, vmI, g1, g4, g5]
  have hS3 := (hS2.push (P := oW .nils 1 encB []) (f := []) (.nil encB_w (by omega)) .refl (by simp [Nw])).push (P := oW .nils 1 encB []) (f := []) (.nil encB_w (by omega)) .refl (by simp [Nw])
  have hPS : ES s _ e u w ⟨1 + r, 0, [], pk0⟩ .nils .nils s.next s2.next (s.next + 1) := ⟨((hS3.re (.cons _ (.cons _ (.cons _ ((List.perm_middle (l₁ := [_])).trans (.cons _ (.refl _)))))))), by simp, by simp [pk0], by simp, by simp [pk0]⟩
  clear hS hS2 hS3 g4 g5
  refine RsOk.mono (ev_sw0 n s _ e u w ⟨1 + r, 0, [], pk0⟩ .nils .nils s.next s2.next (s.next + 1) how hh he hu hw hPS _ _ _ _ _ _ _ _ _ _ _) ?_
  rintro e1 F s5 ⟨q, v, v2, y7, y8, y9, y11, rfl, rfl, hq⟩
  simp (disch := omega) only [vm0, vm1, vm2, vm3, vm4, vm5, vm6, vm7, vmF, vmT, evo, wr, wrC, frame, Nat.reduceAdd, Nat.reduceMul, Nat.reduceSub, beq_self_eq_true, List.cons_append, List.nil_append, beq_dec, vmI, vc10_2]
  refine call_ok rfl rfl (wth (n + 4) s5 how 40 hh (by omega) (by omega)) ?_
  rintro y s6 ⟨z, rfl, hz, rfl⟩
  simp (disch := omega) only [vm0, vm1, vm2, vm3, vm4, vm5, vm6, vm7, vmF, vmT, evo, wr, wrC, frame, Nat.reduceAdd, Nat.reduceMul, Nat.reduceSub, beq_self_eq_true, List.cons_append, List.nil_append, beq_dec, vmI]
  refine RsOk.mono (ev_sw1 n s s6 e u w q v v2 s.next s2.next (s.next + 1) z he hu hw hq _ _ _ _ _ _ _ _ _ _ _ _) ?_
  rintro e1 F s7 ⟨q', v', v2', y12, y13, y14, y15, y16, rfl, rfl, hT, hl', hl2', h8', h9'⟩
  have g6 := Sep.getC (((hT.re ((List.perm_middle (l₁ := [_, _])).trans (.cons _ (.refl _))))))
  have g7 := Sep.getC (((hT.re ((List.perm_middle (l₁ := [_, _, _, _])).trans (.cons _ (.refl _))))))
  have hT2 := Sep.putC (((hT.re ((List.perm_middle (l₁ := [_, _, _, _])).trans (.cons _ (.refl _)))))) (q'.cs v' v2')
  have g8 := hT2.getC
  dsimp only [EvV.cs, z12] at *
  simp (disch := omega) only [vm0, vm1, vm2, vm3, vm4, vm5, vm6, vm7, vmF, vmT, evo, wr, wrC, frame, Nat.reduceAdd, Nat.reduceMul, Nat.reduceSub, beq_self_eq_true, List.cons_append, List.nil_append, beq_dec, vmI, g6, g7, g8]
  exact ⟨q', v', v2', rfl, hl', hl2', h8', h9', ((hT2.re (.cons _ ((List.perm_middle (l₁ := [_, _])).trans (.cons _ ((List.perm_middle (l₁ := [_, _])).trans (.cons _ (.refl _))))))).drop.drop.drop)⟩
end
end Go.Proofs.Ytgckbcljlkkceaa.ctr
namespace Go.Proofs.Ytgckbcljlkkceaa.ctr
open Go Go.Vm Go.RowKit
set_option linter.unusedVariables false
set_option linter.constructorNameAsVariable false
set_option linter.unusedSimpArgs false
/-- the events' own bytes -/
def Held (s : St) (fp : List Nat) (v : AV) (l : List Int) : Prop := ∃ f, (∀ b ∈ f, b ∈ fp) ∧ OwE s v 1 encB l f
theorem Held.fr {s s' : St} {fp fp' : List Nat} {v : AV} {l : List Int} (h : Held s fp v l) (hf : Fr s s' fp') (hd : ∀ b ∈ fp, b ∉ fp') : Held s' fp v l := by
  obtain ⟨f, h1, h2⟩ := h
  exact ⟨f, h1, h2.fr hf fun b hb => hd b (h1 b hb)⟩
theorem Held.mono {s : St} {fp fp' : List Nat} {v : AV} {l : List Int} (h : Held s fp v l) (hs : ∀ b ∈ fp, b ∈ fp') : Held s fp' v l := by
  obtain ⟨f, h1, h2⟩ := h
  exact ⟨f, fun b hb => hs b (h1 b hb), h2⟩
def oH (m : List EvR) : Obj := ⟨fun s fp => Lt s fp ∧ ∀ x ∈ m, Held s fp x.u x.e.d ∧ Held s fp x.w x.e.p.d,
  fun h hf hd => ⟨h.1.mono hf.1, fun x hx => ⟨(h.2 x hx).1.fr hf hd, (h.2 x hx).2.fr hf hd⟩⟩, fun h => h.1⟩
theorem Sep.held {s0 s : St} {e : EvV} {v w : AV} {m : List EvR} {Ps : List Obj} (h : Sep s0 s (oW v 1 encB e.d :: oW w 1 encB e.p.d :: oH m :: Ps)) : Sep s0 s (oH (m ++ [⟨e, v, w⟩]) :: Ps) := by
  obtain ⟨fp, ⟨f, g, h1, ⟨f2, g2, h2, ⟨f3, g3, h3, h4, h5, rfl⟩, h6, rfl⟩, h7, rfl⟩, h8, h9⟩ := h
  refine ⟨(f ++ (f2 ++ f3)) ++ g3, ⟨f ++ (f2 ++ f3), g3, ⟨?_, ?_⟩, h4, ?_, rfl⟩, fun b hb => h8 b (by simp only [List.mem_append] at *; rcases hb with (h | h | h) | h <;> simp [h]), h9⟩
  · intro b hb
    rcases List.mem_append.1 hb with hb | hb
    · exact (show OwE s v 1 encB e.d f from h1).lt b hb
    · rcases List.mem_append.1 hb with hb | hb
      · exact (show OwE s w 1 encB e.p.d f2 from h2).lt b hb
      · exact h3.1 b hb
  · intro x hx
    rcases List.mem_append.1 hx with hx | hx
    · exact ⟨(h3.2 x hx).1.mono fun b hb => by simp [hb], (h3.2 x hx).2.mono fun b hb => by simp [hb]⟩
    · simp at hx; subst hx
      exact ⟨⟨f, fun b hb => by simp [hb], h1⟩, ⟨f2, fun b hb => by simp [hb], h2⟩⟩
  · intro b hb hm
    simp only [List.mem_append] at hb
    rcases hb with hb | hb | hb
    · exact h7 b hb (by simp [hm])
    · exact h6 b hb (by simp [hm])
    · exact h5 b hb hm
theorem SepF.append {s : St} : ∀ {Qs Ps : List Obj} {fq fp : List Nat}, SepF s Qs fq → SepF s Ps fp → (∀ b ∈ fq, b ∉ fp) → SepF s (Qs ++ Ps) (fq ++ fp)
  | [], _, _, _, hq, hp, _ => by rw [show _ = [] from hq]; exact hp
  | Q :: Qs, Ps, _, fp, ⟨f, g, h1, h2, h3, h4⟩, hp, hd => by
    subst h4
    refine ⟨f, g ++ fp, h1, SepF.append h2 hp fun b hb => hd b (by simp [hb]), fun b hb hm => ?_, by simp⟩
    rcases List.mem_append.1 hm with hm | hm
    · exact h3 b hb hm
    · exact hd b (by simp [hb]) hm
theorem Sep.app {s0 s1 s2 : St} {Ps Qs : List Obj} (h : Sep s0 s1 Ps) (k : Sep s1 s2 Qs) : Sep s0 s2 (Qs ++ Ps) := by
  obtain ⟨fp, h1, h2, h3⟩ := h
  obtain ⟨fq, k1, k2, k3⟩ := k
  refine ⟨fq ++ fp, SepF.append k1 (h1.fr k3 (by simp)) fun b hb hm => ?_, fun b hb => ?_, h3.trans k3 (fp2 := []) (by simp) (by simp)⟩
  · rcases k2 b hb with h | h
    · simp at h
    · have := h1.lt b hm; omega
  · rcases List.mem_append.1 hb with hb | hb
    · rcases k2 b hb with h | h
      · simp at h
      · exact .inr (Nat.le_trans h3.1 h)
    · exact h2 b hb
/-- what is small of an event -/
structure EvV.Sm (e : EvV) : Prop where
  l : e.d.length ≤ 91
  pl : e.p.d.length ≤ 80
  h8 : ∀ x ∈ e.d, In8 x
  h9 : ∀ x ∈ e.p.d, In8 x
theorem Sep.oks {s0 s : St} {m : List EvR} {Ps : List Obj} (h : Sep s0 s (oH m :: Ps)) (hm : ∀ x ∈ m, x.e.Sm) : evsOk s m := by
  obtain ⟨fp, ⟨f, g, h1, _⟩, _⟩ := h
  intro x hx
  obtain ⟨⟨f1, _, k1⟩, ⟨f2, _, k2⟩⟩ := h1.2 x hx
  have hs := hm x hx
  have h1 := hs.l
  have h2 := hs.pl
  exact ⟨k1.rd, k2.rd, hs.h8, hs.h9, by omega, by omega⟩
section
variable {bd : Bd} {fu : Nat}
set_option maxHeartbeats 4000000 in
theorem playEs (n : Nat) (s : St) (v vh : AV) (l : List EvR) (hows : List Int) (most : Int) (hv : RdE s v 12 EvR.enc l) (hvh : RdE s vh 1 encI hows) (hin : ∀ x ∈ l, x.e.In ∧ RdE s x.u 1 encB x.e.d ∧ RdE s x.w 1 encB x.e.p.d) (hh : ∀ y ∈ hows, In64 y) (hm0 : 0 ≤ most) (hm1 : most ≤ 100) (hfu : 200 < fu) :
    OutOk (callF bd tab.get fu (n + 7) 7 [v, vh, num most] s) (fun x s' => ∃ m : List EvR, (m.length : Int) ≤ most ∧ (∀ x ∈ m, x.e.Sm) ∧ Sep s s' [oW x 12 EvR.enc m, oH m]) := by
  refine call_code t7 rfl ?_
  have hlen := hv.lenV
  have hlen2 := hvh.lenV
  simp (disch := omega) only [vm0, vm1, vm2, vm3, vm4, vm5, vm6, vm7, vmF, vmT, evo, wr, wrC, frame, Nat.reduceAdd, Nat.reduceMul, Nat.reduceSub, beq_self_eq_true, List.cons_append, List.nil_append, beq_dec, vmI, vc7]
  refine x_loop (fun k F s' => ∃ i : Nat, ∃ z x5 x6 x7 vo, ∃ m : List EvR, k = 100 - i ∧ (i : Int) ≤ most ∧ z = (i : Int) ∧ F = [some v, some vh, some (num most), some (num z), some vo, x5, x6, x7, some .nils] ∧ m.length = i ∧ (∀ x ∈ m, x.e.Sm) ∧ Sep s s' [oW vo 12 EvR.enc m, oH m]) 100 (by omega) ?_ ?_
  · exact ⟨0, _, _, _, _, _, [], by omega, by omega, rfl, rfl, rfl, by simp, (Sep.nil.push (P := oH []) (f := []) ⟨by simp [Lt], by simp⟩ .refl (by simp [Nw])).push (P := oW .nils 12 EvR.enc []) (f := []) (.nil EvR.wid (by omega)) .refl (by simp [Nw])⟩
  · rintro k F s1 ⟨i, _, x5, x6, x7, vo, m, rfl, hi, rfl, rfl, hmi, hsm, hS⟩ hk
    by_cases hlt : (i : Int) < l.length
    case neg =>
      simp (disch := omega) only [vm0, vm1, vm2, vm3, vm4, vm5, vm6, vm7, vmF, vmT, evo, wr, wrC, frame, Nat.reduceAdd, Nat.reduceMul, Nat.reduceSub, beq_self_eq_true, List.cons_append, List.nil_append, beq_dec, vmI, hlen, vmU]
      exact ⟨m, by omega, hsm, hS⟩
    by_cases hlm : (i : Int) < most
    case neg =>
      simp (disch := omega) only [vm0, vm1, vm2, vm3, vm4, vm5, vm6, vm7, vmF, vmT, evo, wr, wrC, frame, Nat.reduceAdd, Nat.reduceMul, Nat.reduceSub, beq_self_eq_true, List.cons_append, List.nil_append, beq_dec, vmI, hlen, vmU]
      exact ⟨m, by omega, hsm, hS⟩
    obtain ⟨x, hx⟩ : ∃ x, l[i]? = some x := ⟨_, List.getElem?_eq_getElem (by omega)⟩
    obtain ⟨hxi, hxu, hxw⟩ := hin x (List.mem_of_getElem? hx)
    have e1 := (hv.fr0 hS.frm).ia hx
    have e2 := (hv.fr0 hS.frm).at hx
    unfold EvR.enc at e2
    have hpe : ∀ how, In64 how → _ := fun how hw => playE (bd := bd)  (fu := fu) n s1 x.e x.u x.w how hxi hw (hxu.fr0 hS.frm) (hxw.fr0 hS.frm)
    dsimp only [EvV.cs] at e2 hpe
    by_cases hlh : (i : Int) < hows.length
    · obtain ⟨y, hy⟩ : ∃ y, hows[i]? = some y := ⟨_, List.getElem?_eq_getElem (by omega)⟩
      have e3 := (hvh.fr0 hS.frm).ia hy
      have e4 := (hvh.fr0 hS.frm).at1 (f := fun z => num z) hy
      simp (disch := omega) only [vm0, vm1, vm2, vm3, vm4, vm5, vm6, vm7, vmF, vmT, evo, wr, wrC, frame, Nat.reduceAdd, Nat.reduceMul, Nat.reduceSub, beq_self_eq_true, List.cons_append, List.nil_append, beq_dec, vmI, hlen, hlen2, e1, e2, e3, e4]
      refine call_ok rfl rfl (hpe y (hh y (List.mem_of_getElem? hy))) ?_
      rintro y2 s2 ⟨q, u', w', rfl, ql, qpl, q8, q9, hSq⟩
      have hS2 := hS.app hSq
      have hS3 := hS2.newC [num q.k, num q.n, u', num q.p.k, num q.p.pt, num q.p.nr, num q.p.of_, num q.p.fr, w', .bool q.p.fin, num q.p.se, num q.p.li]
      obtain ⟨fo, ho, up⟩ := Sep.hd (((hS3.re ((List.perm_middle (l₁ := [_, _, _])).trans (.cons _ (.refl _))))))
      simp (disch := omega) only [vm0, vm1, vm2, vm3, vm4, vm5, vm6, vm7, vmF, vmT, evo, wr, wrC, frame, Nat.reduceAdd, Nat.reduceMul, Nat.reduceSub, beq_self_eq_true, List.cons_append, List.nil_append, beq_dec, vmI]
      refine op_app1 (show OwE _ vo 12 EvR.enc m fo from ho) .refl (x := ⟨q, u', w'⟩) rfl (by omega) ?_
      intro v3 s4 f4 r7 r8 r9
      have hS4 := up (oW v3 12 EvR.enc (m ++ [(⟨q, u', w'⟩ : EvR)])) r7 r8 r9
      have hS5 := Sep.held (((hS4.re ((List.perm_middle (l₁ := [_])).trans (.cons _ ((List.perm_middle (l₁ := [_])).trans (.cons _ ((List.perm_middle (l₁ := [_])).trans (.cons _ ((List.perm_middle (l₁ := [_])).trans (.cons _ (.refl _)))))))))).drop))
      simp (disch := omega) only [vm0, vm1, vm2, vm3, vm4, vm5, vm6, vm7, vmF, vmT, evo, wr, wrC, frame, Nat.reduceAdd, Nat.reduceMul, Nat.reduceSub, beq_self_eq_true, List.cons_append, List.nil_append, beq_dec, vmI]
      refine ⟨100 - (i + 1), by omega, i + 1, _, _, _, _, _, _, rfl, by omega, by omega, rfl, by simp [hmi], fun z hz => ?_, ((hS5.re ((List.perm_middle (l₁ := [_])).trans (.cons _ (.refl _)))))⟩
      rcases List.mem_append.1 hz with hz | hz
      · exact hsm z hz
      · simp at hz; subst hz; exact ⟨ql, qpl, q8, q9⟩
    · simp (disch := omega) only [vm0, vm1, vm2, vm3, vm4, vm5, vm6, vm7, vmF, vmT, evo, wr, wrC, frame, Nat.reduceAdd, Nat.reduceMul, Nat.reduceSub, beq_self_eq_true, List.cons_append, List.nil_append, beq_dec, vmI, hlen, hlen2, e1, e2]
      refine call_ok rfl rfl (hpe 0 ⟨by omega, by omega⟩) ?_
      rintro y2 s2 ⟨q, u', w', rfl, ql, qpl, q8, q9, hSq⟩
      have hS2 := hS.app hSq
      have hS3 := hS2.newC [num q.k, num q.n, u', num q.p.k, num q.p.pt, num q.p.nr, num q.p.of_, num q.p.fr, w', .bool q.p.fin, num q.p.se, num q.p.li]
      obtain ⟨fo, ho, up⟩ := Sep.hd (((hS3.re ((List.perm_middle (l₁ := [_, _, _])).trans (.cons _ (.refl _))))))
      simp (disch := omega) only [vm0, vm1, vm2, vm3, vm4, vm5, vm6, vm7, vmF, vmT, evo, wr, wrC, frame, Nat.reduceAdd, Nat.reduceMul, Nat.reduceSub, beq_self_eq_true, List.cons_append, List.nil_append, beq_dec, vmI]
      refine op_app1 (show OwE _ vo 12 EvR.enc m fo from ho) .refl (x := ⟨q, u', w'⟩) rfl (by omega) ?_
      intro v3 s4 f4 r7 r8 r9
      have hS4 := up (oW v3 12 EvR.enc (m ++ [(⟨q, u', w'⟩ : EvR)])) r7 r8 r9
      have hS5 := Sep.held (((hS4.re ((List.perm_middle (l₁ := [_])).trans (.cons _ ((List.perm_middle (l₁ := [_])).trans (.cons _ ((List.perm_middle (l₁ := [_])).trans (.cons _ ((List.perm_middle (l₁ := [_])).trans (.cons _ (.refl _)))))))))).drop))
      simp (disch := omega) only [vm0, vm1, vm2, vm3, vm4, vm5, vm6, vm7, vmF, vmT, evo, wr, wrC, frame, Nat.reduceAdd, Nat.reduceMul, Nat.reduceSub, beq_self_eq_true, List.cons_append, List.nil_append, beq_dec, vmI]
      refine ⟨100 - (i + 1), by omega, i + 1, _, _, _, _, _, _, rfl, by omega, by omega, rfl, by simp [hmi], fun z hz => ?_, ((hS5.re ((List.perm_middle (l₁ := [_])).trans (.cons _ (.refl _)))))⟩
      rcases List.mem_append.1 hz with hz | hz
      · exact hsm z hz
      · simp at hz; subst hz; exact ⟨ql, qpl, q8, q9⟩
end
end Go.Proofs.Ytgckbcljlkkceaa.ctr
namespace Go.Proofs.Ytgckbcljlkkceaa.ctr
open Go Go.Vm Go.RowKit
set_option linter.unusedVariables false
set_option linter.constructorNameAsVariable false
set_option linter.unusedSimpArgs false
section
variable {bd : Bd} {fu : Nat}
theorem e_unpack0 (n : Nat) (s : St) (hfu : 10 < fu) :
    OutOk (callF bd tab.get fu (n + 3) 21 [.nils] s) (fun x s' => Is x (.tup [.nils, num 0, num 0]) ∧ Fr s s' []) := by
  refine call_code t21 rfl ?_
  simp (disch := omega) only [vm0, vm1, vm2, vm3, vm4, vm5, vm6, vm7, vmF, vmT, evo, wr, wrC, frame, Nat.reduceAdd, Nat.reduceMul, Nat.reduceSub, beq_self_eq_true, List.cons_append, List.nil_append, beq_dec, vmI, vc21]
  refine call_ok rfl rfl (r_new n s [] .nils [] Sep.nil (OwE.nil encB_w (by omega)).rd (by simp)) ?_
  rintro x s1 ⟨p, rfl, hS⟩
  simp (disch := omega) only [vm0, vm1, vm2, vm3, vm4, vm5, vm6, vm7, vmF, vmT, evo, wr, wrC, frame, Nat.reduceAdd, Nat.reduceMul, Nat.reduceSub, beq_self_eq_true, List.cons_append, List.nil_append, beq_dec, vmI]
  refine x_loop (fun k F s' => k = 0 ∧ F = [some .nils, some (.ptr p 0), some (num 0), some .nils, none, none, none, none, some .nils, some (num 0)] ∧ s' = s1) 0 (by omega) ⟨rfl, rfl, rfl⟩ ?_
  rintro k F s2 ⟨rfl, rfl, rfl⟩ hk
  simp (disch := omega) only [vm0, vm1, vm2, vm3, vm4, vm5, vm6, vm7, vmF, vmT, evo, wr, wrC, frame, Nat.reduceAdd, Nat.reduceMul, Nat.reduceSub, beq_self_eq_true, List.cons_append, List.nil_append, beq_dec, vmI]
  refine call_ok rfl rfl (r_left (n + 1) s2 p ⟨[], 0, false⟩ [] hS ⟨by simp, by simp, by simp⟩) ?_
  rintro y s3 ⟨rfl, rfl⟩
  simp (disch := omega) only [vm0, vm1, vm2, vm3, vm4, vm5, vm6, vm7, vmF, vmT, evo, wr, wrC, frame, Nat.reduceAdd, Nat.reduceMul, Nat.reduceSub, beq_self_eq_true, List.cons_append, List.nil_append, beq_dec, vmI, List.length_nil, Int.natCast_zero, Int.sub_self]
  exact ⟨rfl, hS.frm⟩
theorem e_pack_t (n : Nat) (s : St) (v : AV) (l : List EvR) (hv : RdE s v 12 EvR.enc l) (hl : evsOk s l) (hN : l.length < fu) (hN2 : l.length < 140737488355232) (hB : (evB l).length ≤ 140737488350000) (hfu : 10 < fu) (hr : allR l = true) :
    OutOk (callF bd tab.get fu (n + 6) 8 [v] s) (fun x s' => ∃ y fp, Is x (.tup [y, num 0]) ∧ OwE s' y 1 encB (evB l) fp ∧ Fr s s' [] ∧ Nw s [] fp) :=
  (e_pack n s v l hv hl hN hN2 hB hfu).mono fun x s' hx => by rw [if_pos hr] at hx; exact hx
theorem e_pack_f (n : Nat) (s : St) (v : AV) (l : List EvR) (hv : RdE s v 12 EvR.enc l) (hl : evsOk s l) (hN : l.length < fu) (hN2 : l.length < 140737488355232) (hB : (evB l).length ≤ 140737488350000) (hfu : 10 < fu) (hr : allR l = false) :
    OutOk (callF bd tab.get fu (n + 6) 8 [v] s) (fun x s' => Is x (.tup [.nils, num 1]) ∧ Fr s s' []) :=
  (e_pack n s v l hv hl hN hN2 hB hfu).mono fun x s' hx => by rw [if_neg (by rw [hr]; simp)] at hx; exact hx
theorem u_pack_t (n : Nat) (s : St) (v : AV) (l : List EvR) (hv : RdE s v 12 EvR.enc l) (hl : evsOk s l) (hN : l.length < fu) (hN2 : l.length < 140737488355232) (hB : (evB l).length ≤ 140737488350000) (hfu : 10 < fu) (hr : allR l = true) :
    OutOk (callF bd tab.get fu (n + 6) 9 [v] s) (fun x s' => ∃ y fp, Is x (.tup [y, .bool true]) ∧ OwE s' y 1 encB (evB l) fp ∧ Fr s s' [] ∧ Nw s [] fp) :=
  (u_pack n s v l hv hl hN hN2 hB hfu).mono fun x s' hx => by rw [if_pos hr] at hx; exact hx
theorem u_pack_f (n : Nat) (s : St) (v : AV) (l : List EvR) (hv : RdE s v 12 EvR.enc l) (hl : evsOk s l) (hN : l.length < fu) (hN2 : l.length < 140737488355232) (hB : (evB l).length ≤ 140737488350000) (hfu : 10 < fu) (hr : allR l = false) :
    OutOk (callF bd tab.get fu (n + 6) 9 [v] s) (fun x s' => Is x (.tup [.nils, .bool false]) ∧ Fr s s' []) :=
  (u_pack n s v l hv hl hN hN2 hB hfu).mono fun x s' hx => by rw [if_neg (by rw [hr]; simp)] at hx; exact hx
theorem ow1E {s : St} (x : EvR) {b : Nat} (hg : s.heap.get b = some (.cells x.enc .own)) (hb : b < s.next) : OwE s (.sl b 0 1 1 true 12) 12 EvR.enc [x] [b] :=
  ⟨.mk (J := []) (by rw [hg]; simp) rfl (Nat.le_refl _), EvR.wid, by omega, by intro z hz; simp at hz; subst hz; exact hb⟩
theorem wakes (n : Nat) (s : St) (hfu : 10 < fu) :
    OutOk (callF bd tab.get fu (n + 7) 18 [] s) (fun x s' => Is x (.bool true) ∧ Fr s s' []) := by
  refine call_code t18 rfl ?_
  simp (disch := omega) only [vm0, vm1, vm2, vm3, vm4, vm5, vm6, vm7, vmF, vmT, evo, wr, wrC, frame, Nat.reduceAdd, Nat.reduceMul, Nat.reduceSub, beq_self_eq_true, List.cons_append, List.nil_append, beq_dec, vmI, vc18]
  refine call_ok rfl rfl (e_unpack0 (n + 3) s hfu) ?_
  rintro x s1 ⟨rfl, hf1⟩
  have hf2 : Fr s1 (s1.new (.cells [num 3, num 5, .nils, num 0, num 0, num 0, num 0, num 0, .nils, .bool false, num 0, num 0] .own)) [] := .new
  have hn := (OwE.nil encB_w (by omega) : OwE (s1.new (.cells [num 3, num 5, .nils, num 0, num 0, num 0, num 0, num 0, .nils, .bool false, num 0, num 0] .own)) .nils 1 encB [] []).rd
  have hv := (ow1E (s := s1.new (.cells [num 3, num 5, .nils, num 0, num 0, num 0, num 0, num 0, .nils, .bool false, num 0, num 0] .own)) ⟨⟨3, 5, [], pk0⟩, .nils, .nils⟩ (b := s1.next) (get_new_eq rfl) (by rw [next_new]; omega)).rd
  have hp := e_pack_t (bd := bd)  (fu := fu) n (s1.new (.cells [num 3, num 5, .nils, num 0, num 0, num 0, num 0, num 0, .nils, .bool false, num 0, num 0] .own)) _ _ hv (by
    intro x hx; simp at hx; subst hx
    exact ⟨hn, hn, by simp, by simp [pk0], by simp, by simp [pk0]⟩) (by show 1 < fu; omega) (by show 1 < _; omega) (by decide) hfu (by decide)
  simp (disch := omega) only [vm0, vm1, vm2, vm3, vm4, vm5, vm6, vm7, vmF, vmT, evo, wr, wrC, frame, Nat.reduceAdd, Nat.reduceMul, Nat.reduceSub, beq_self_eq_true, List.cons_append, List.nil_append, beq_dec, vmI]
  refine call_ok rfl rfl hp ?_
  rintro _ s2 ⟨y, fp, rfl, q1, q2, q3⟩
  have hb : evB [⟨⟨3, 5, [], pk0⟩, .nils, .nils⟩] = [3, 5] := by decide
  rw [hb] at q1
  have hp2 : OwE (s2.new (.cells [byt 3, byt 5] .own)) (.sl s2.next 0 2 2 true 1) 1 encB [3, 5] [s2.next] :=
    ⟨.mk (J := []) (get_new_eq rfl) rfl (Nat.le_refl _), encB_w, by omega, by intro z hz; simp at hz; subst hz; rw [next_new]; omega⟩
  simp (disch := omega) only [vm0, vm1, vm2, vm3, vm4, vm5, vm6, vm7, vmF, vmT, evo, wr, wrC, frame, Nat.reduceAdd, Nat.reduceMul, Nat.reduceSub, beq_self_eq_true, List.cons_append, List.nil_append, beq_dec, vmI]
  refine call_ok rfl rfl (sameB (n + 5) _ y _ [3, 5] [3, 5] (q1.rd.fr0 .new) hp2.rd (by simp; omega) (by simp)) ?_
  rintro x s5 ⟨rfl, rfl⟩
  simp (disch := omega) only [vm0, vm1, vm2, vm3, vm4, vm5, vm6, vm7, vmF, vmT, evo, wr, wrC, frame, Nat.reduceAdd, Nat.reduceMul, Nat.reduceSub, beq_self_eq_true, List.cons_append, List.nil_append, beq_dec, vmI]
  exact ⟨rfl, ((hf1.trans hf2 (fp2 := []) (by simp) (by simp)).trans q2 (fp2 := []) (by simp) (by simp)).trans .new (fp2 := []) (fp1 := []) (by simp) (by simp)⟩
end
end Go.Proofs.Ytgckbcljlkkceaa.ctr
namespace Go.Proofs.Ytgckbcljlkkceaa.ctr
open Go Go.Vm Go.RowKit Go.ChangeShapes Go.WideShapes
set_option linter.unusedVariables false
set_option linter.constructorNameAsVariable false
set_option linter.unusedSimpArgs false
/-! ## structs within structs among the arguments -/
def fkN (P : Program) : Nat → TypeId → List Fk → Bool
  | 0, _, _ => false
  | n + 1, e, ks => P.cellsOf e == ks.length && (match P.underlying e with
    | some (.struct fs) => (List.range ks.length).all fun q => (List.range fs.size).any fun j => match fs[j]? with
      | some f => Nat.ble f.offset q && Nat.blt q (f.offset + P.cellsOf f.type) && fkN P n f.type ((ks.drop f.offset).take (P.cellsOf f.type))
      | none => false
    | _ => ks.length == 1 && fkTy P (ks.getD 0 .i) e)
section
variable {H : Type} {enc : TypeId × Value → H} {P : Program} {w : World} {base : Nat} {held : Bool}
theorem trod_cells : ∀ (n : Nat) {e : TypeId} {ks : List Fk} {fuel : Nat} {cs : List Value} {x : DataW H × List MemPlace}, fkN P n e ks = true → DataW.trod enc P w base (fun _ => true) held fuel e cs = some x → cs.length = ks.length →
    ∀ q, q < ks.length → ∃ v, cs[q]? = some v ∧ FkOk w (ks.getD q .i) v
  | 0, _, _, _, _, _, hk, _, _, _, _ => by cases hk
  | n + 1, e, ks, fuel, cs, x, hk, h, hl, q, hq => by
    unfold fkN at hk
    rw [Bool.and_eq_true] at hk
    obtain ⟨_, hk⟩ := hk
    split at hk
    · rename_i fs hu
      rw [List.all_eq_true] at hk
      have h1 := hk q (List.mem_range.2 hq)
      rw [List.any_eq_true] at h1
      obtain ⟨j, hj, h2⟩ := h1
      obtain ⟨xs, k, _, _, _, hxl, hf⟩ := DataW.trod_struct hu h
      split at h2
      · rename_i f hfj
        simp only [Bool.and_eq_true, Nat.ble_eq, Nat.blt_eq] at h2
        obtain ⟨⟨h3, h4⟩, h5⟩ := h2
        have g := hf j f hfj
        have hlt : j < xs.length := by rw [hxl]; exact List.mem_range.1 hj
        rw [List.getElem?_eq_getElem hlt] at g
        obtain ⟨v, hv, hkv⟩ := trod_cells n h5 g (by simp [hl]) (q - f.offset) (by simp; omega)
        refine ⟨v, ?_, ?_⟩
        · rw [List.getElem?_take, if_pos (by omega), List.getElem?_drop] at hv
          rwa [show f.offset + (q - f.offset) = q from by omega] at hv
        · have : ((ks.drop f.offset).take (P.cellsOf f.type)).getD (q - f.offset) .i = ks.getD q .i := by
            rw [List.getD, List.getD, List.getElem?_take, if_pos (by omega), List.getElem?_drop, show f.offset + (q - f.offset) = q from by omega]
          rwa [this] at hkv
      · cases h2
    · rename_i hu
      simp only [Bool.and_eq_true, beq_iff_eq] at hk
      have hq0 : q = 0 := by omega
      subst hq0
      match cs, hl.trans hk.1, h with
      | [y], _, h => exact ⟨y, rfl, fk_open hk.2 h⟩
theorem fkN_len {n : Nat} {e : TypeId} {ks : List Fk} (hk : fkN P n e ks = true) : P.cellsOf e = ks.length := by
  cases n with
  | zero => cases hk
  | succ n =>
    unfold fkN at hk
    rw [Bool.and_eq_true, beq_iff_eq] at hk
    exact hk.1
/-- a slice of nested structs -/
theorem open_rowN {t e : TypeId} {ks : List Fk} {fuel : Nat} {a : Option Addr} {len cap : Nat} {x : DataW H × List MemPlace} (ht : P.underlying t = some (.slice e)) (hk : fkN P 4 e ks = true) (hp : 0 < ks.length)
    (h : DataW.trod enc P w base (fun _ => true) held fuel t [.slice a len cap] = some x) :
    ∃ V, IsRowV w a len cap ks.length V ∧ ∀ i, i < cap * ks.length → FkOk w (ks.getD (i % ks.length) .i) (V i) := by
  have ce : P.cellsOf e = ks.length := fkN_len hk
  rcases Go.Deep.open_slice ht h with ⟨h0, _⟩ | ⟨b, l, c, m, n, D, Pl, h0, hb, hl, hm, hmm, rfl, hx⟩
  · cases h0
    exact ⟨fun _ => .int .i64 0, .inl ⟨rfl, rfl, rfl⟩, fun i hi => by simp at hi⟩
  · cases h0
    obtain rfl : m = cap := by simpa using hmm
    rw [ce] at hx
    have key : ∀ q, q < m * ks.length → ∃ v, w.cell? (b.add q) = some v ∧ FkOk w (ks.getD (q % ks.length) .i) v := by
      intro q hq
      have hj : q % ks.length < ks.length := Nat.mod_lt _ hp
      have hi : q / ks.length < m := by rw [Nat.div_lt_iff_lt_mul hp]; exact hq
      have hqe : q / ks.length * ks.length + q % ks.length = q := by rw [Nat.mul_comm]; exact Nat.div_add_mod q ks.length
      obtain ⟨cs', h1, h2⟩ := hx _ hi
      obtain ⟨_, hlen, hcell⟩ := World.cells?_some h1
      have e1 := hcell (q % ks.length) (by omega)
      rw [Go.Deep.add_add, hqe] at e1
      obtain ⟨v, hv, hkv⟩ := trod_cells 4 hk h2 (by omega) (q % ks.length) hj
      exact ⟨v, by rw [e1, hv], hkv⟩
    obtain ⟨V, hV⟩ : ∃ V : Nat → Value, ∀ q, q < m * ks.length → w.cell? (b.add q) = some (V q) ∧ FkOk w (ks.getD (q % ks.length) .i) (V q) := by
      haveI : Inhabited Value := ⟨.bool false⟩
      exact Go.Deep.choose_lt key
    exact ⟨V, .inr ⟨_, rfl, hl, hm, fun i hi => (hV i hi).1⟩, fun i hi => (hV i hi).2⟩
/-- a nested struct -/
theorem open_structN {r : Reach} {b0 : Nat} {t : TypeId} {ks : List Fk} {fs : Array Field} {v : Value} {d : DataW H} {p : List MemPlace} (hs : P.underlying t = some (.struct fs)) (hk : fkN P 4 t ks = true)
    (hv : Value.okWide P w r b0 t v) (h : DataW.Trod enc P w base (fun _ => true) held t v d p) :
    ∃ cs : Array Value, v = .agg cs ∧ cs.size = ks.length ∧ ∀ q, q < ks.length → ∃ u, cs.toList[q]? = some u ∧ FkOk w (ks.getD q .i) u := by
  obtain ⟨cs, rfl, hsz⟩ := okWide_struct hs hv
  obtain ⟨fuel, hf⟩ := h
  have hlen : cs.size = ks.length := hsz.trans (fkN_len hk)
  exact ⟨cs, rfl, hlen, trod_cells 4 hk hf (by simpa [Value.cells] using hlen)⟩
end
/-! ## .. in the walk -/
def evK : List Fk := [.i, .i, .S, .i, .i, .i, .i, .i, .S, .b, .i, .i]
noncomputable def evOf (f : Nat → Cl) : EvR := ⟨⟨(f 0).z, (f 1).z, (f 2).l, ⟨(f 3).z, (f 4).z, (f 5).z, (f 6).z, (f 7).z, (f 8).l, (f 9).x, (f 10).z, (f 11).z⟩⟩, (f 2).u, (f 8).u⟩
theorem evOf_ok {s : St} {f : Nat → Cl} (hf : ∀ j, j < 12 → ClOk s (f j) (evK.getD j .i)) : ((evOf f).e.In ∧ RdE s (evOf f).u 1 encB (evOf f).e.d ∧ RdE s (evOf f).w 1 encB (evOf f).e.p.d) ∧ ∀ j, j < 12 → (evOf f).enc[j]? = some (f j).av := by
  have k0 : ClOk s (f 0) .i := hf 0 (by decide)
  have k1 : ClOk s (f 1) .i := hf 1 (by decide)
  have k2 : ClOk s (f 2) .S := hf 2 (by decide)
  have k3 : ClOk s (f 3) .i := hf 3 (by decide)
  have k4 : ClOk s (f 4) .i := hf 4 (by decide)
  have k5 : ClOk s (f 5) .i := hf 5 (by decide)
  have k6 : ClOk s (f 6) .i := hf 6 (by decide)
  have k7 : ClOk s (f 7) .i := hf 7 (by decide)
  have k8 : ClOk s (f 8) .S := hf 8 (by decide)
  have k9 : ClOk s (f 9) .b := hf 9 (by decide)
  have k10 : ClOk s (f 10) .i := hf 10 (by decide)
  have k11 : ClOk s (f 11) .i := hf 11 (by decide)
  refine ⟨⟨⟨k0.i.2, k1.i.2, ⟨k3.i.2, k4.i.2, k5.i.2, k6.i.2, k7.i.2, k10.i.2, k11.i.2, k8.S.2.2⟩, k2.S.2.2⟩, k2.S.2.1, k8.S.2.1⟩, fun j hj => ?_⟩
  rcases j with _ | _ | _ | _ | _ | _ | _ | _ | _ | _ | _ | _ | j
  · rw [k0.i.1]; rfl
  · rw [k1.i.1]; rfl
  · rw [k2.S.1]; rfl
  · rw [k3.i.1]; rfl
  · rw [k4.i.1]; rfl
  · rw [k5.i.1]; rfl
  · rw [k6.i.1]; rfl
  · rw [k7.i.1]; rfl
  · rw [k8.S.1]; rfl
  · rw [k9.b]; rfl
  · rw [k10.i.1]; rfl
  · rw [k11.i.1]; rfl
  · omega
theorem _root_.Go.Vm.Arg0.evs {E : Env} {s : St} {w : World} (h : Arg0 E s w) {a : Option Addr} {len cap : Nat} {V : Nat → Value} (hq : IsRowV w a len cap 12 V) (hk : ∀ i, i < cap * 12 → FkOk w (evK.getD (i % 12) .i) (V i)) :
    ∃ v E' s' l, Arg0 E' s' w ∧ E.le E' ∧ Fr s s' [] ∧ VR rho0 E' v (.slice a len cap) ∧ RdE s' v 12 EvR.enc l ∧ ∀ x ∈ l, x.e.In ∧ RdE s' x.u 1 encB x.e.d ∧ RdE s' x.w 1 encB x.e.p.d := by
  obtain ⟨v, E', s', l, h1, h2, h3, h4, h5, _, h6⟩ := h.recs (ks := evK) hq hk (by decide) EvR.enc evOf EvR.wid (fun s f hf => (evOf_ok hf).2)
  refine ⟨v, E', s', l, h1, h2, h3, h4, h5, fun x hx => ?_⟩
  obtain ⟨f, rfl, hf⟩ := h6 x hx
  exact (evOf_ok hf).1
theorem vrs_of {ρ : Nat → Int} {E : Env} : ∀ {l : List AV} {xs : List Value}, l.length = xs.length → (∀ (j : Nat) (a : AV) (x : Value), l[j]? = some a → xs[j]? = some x → VR ρ E a x) → VRs ρ E l xs
  | [], [], _, _ => .nil
  | a :: l, x :: xs, h, hv => .cons (hv 0 a x rfl rfl) (vrs_of (by simpa using h) fun j a' x' h1 h2 => hv (j + 1) a' x' (by simpa using h1) (by simpa using h2))
  | [], _ :: _, h, _ => by simp at h
  | _ :: _, [], h, _ => by simp at h
theorem _root_.Go.Vm.Arg0.ev1 {E : Env} {s : St} {w : World} (h : Arg0 E s w) {cs : Array Value} (hl : cs.size = 12) (hk : ∀ q, q < 12 → ∃ u, cs.toList[q]? = some u ∧ FkOk w (evK.getD q .i) u) :
    ∃ (x : EvR) (E' : Env) (s' : St), Arg0 E' s' w ∧ E.le E' ∧ Fr s s' [] ∧ VR rho0 E' (.agg x.enc) (.agg cs) ∧ x.e.In ∧ RdE s' x.u 1 encB x.e.d ∧ RdE s' x.w 1 encB x.e.p.d := by
  obtain ⟨l⟩ := cs
  obtain ⟨V, hV⟩ : ∃ V : Nat → Value, ∀ q, q < 12 → l[q]? = some (V q) ∧ FkOk w (evK.getD q .i) (V q) := by
    haveI : Inhabited Value := ⟨.bool false⟩
    exact Go.Deep.choose_lt hk
  obtain ⟨cl, E1, s1, h1, e1, f1, c1⟩ := Go.Vm.Arg0.cells (V := V) (K := fun i => evK.getD i .i) 12 h (fun i hi => (hV i hi).2)
  obtain ⟨k1, k2⟩ := evOf_ok (s := s1) (f := cl) fun j hj => (c1 j hj).1
  refine ⟨evOf cl, E1, s1, h1, e1, f1, ?_, k1⟩
  have hl : l.length = 12 := hl
  refine .agg (xs := l) (vrs_of (by rw [hl]; rfl) fun j a x h1 h2 => ?_) fun c hc => ?_
  · have hj : j < 12 := by have := (List.getElem?_eq_some_iff.1 h2).1; omega
    rw [k2 j hj] at h1
    rw [(hV j hj).1] at h2
    cases h1; cases h2
    exact (c1 j hj).2.1
  · obtain ⟨j, hj, hc'⟩ := List.mem_iff_getElem.1 hc
    have hj12 : j < 12 := hj
    have h1 := k2 j hj12
    rw [List.getElem?_eq_getElem hj, hc'] at h1
    cases h1
    exact (c1 j hj12).2.2
end Go.Proofs.Ytgckbcljlkkceaa.ctr
