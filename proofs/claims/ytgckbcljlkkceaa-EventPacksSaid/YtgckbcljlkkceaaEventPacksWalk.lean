/- EventPacks, walked. -/
import Derived.Test.YtgckbcljlkkceaaCxEc
import Derived.WalkKit
import Derived.ProofKit
namespace Go.Proofs.Ytgckbcljlkkceaa.ctr
open Go Go.Vm Go.RowKit
set_option linter.unusedVariables false
set_option linter.constructorNameAsVariable false
set_option linter.unusedSimpArgs false
theorem evB_sm : ∀ {l : List EvR}, (∀ x ∈ l, x.e.Sm) → (evB l).length ≤ l.length * 250
  | [], _ => by simp [evB]
  | x :: l, h => by
    have h1 := evB_sm (l := l) fun y hy => h y (by simp [hy])
    have h2 := x.e.bytes_len
    have h3 := (h x (by simp)).l
    have h4 := (h x (by simp)).pl
    have : evB (x :: l) = x.e.bytes ++ evB l := by simp [evB]
    rw [this, List.length_append, List.length_cons]; omega
section
variable {bd : Bd} {fu : Nat}
theorem e_packU (n : Nat) (s : St) (v : AV) (l : List EvR) (hv : RdE s v 12 EvR.enc l) (hl : evsOk s l) (hN : l.length < fu) (hN2 : l.length < 140737488355232) (hB : (evB l).length ≤ 140737488350000) (hfu : 10 < fu) :
    OutOk (callF bd tab.get fu (n + 6) 8 [v] s) (fun x s' => ∃ y, Is x (.tup [y, num (if allR l then 0 else 1)]) ∧ RdE s' y 1 encB (if allR l then evB l else []) ∧ Fr s s' []) :=
  (e_pack n s v l hv hl hN hN2 hB hfu).mono fun x s' hx => by
    cases hr : allR l
    · rw [hr, if_neg (by simp)] at hx; exact ⟨_, hx.1, (OwE.nil encB_w (by omega)).rd, hx.2⟩
    · rw [hr, if_pos rfl] at hx
      obtain ⟨y, fp, h1, h2, h3, h4⟩ := hx
      exact ⟨y, h1, h2.rd, h3⟩
theorem u_packU (n : Nat) (s : St) (v : AV) (l : List EvR) (hv : RdE s v 12 EvR.enc l) (hl : evsOk s l) (hN : l.length < fu) (hN2 : l.length < 140737488355232) (hB : (evB l).length ≤ 140737488350000) (hfu : 10 < fu) :
    OutOk (callF bd tab.get fu (n + 6) 9 [v] s) (fun x s' => ∃ y, Is x (.tup [y, .bool (allR l)]) ∧ RdE s' y 1 encB (if allR l then evB l else []) ∧ Fr s s' []) :=
  (u_pack n s v l hv hl hN hN2 hB hfu).mono fun x s' hx => by
    cases hr : allR l
    · rw [hr, if_neg (by simp)] at hx; exact ⟨_, hx.1, (OwE.nil encB_w (by omega)).rd, hx.2⟩
    · rw [hr, if_pos rfl] at hx
      obtain ⟨y, fp, h1, h2, h3, h4⟩ := hx
      exact ⟨y, h1, h2.rd, h3⟩
set_option maxHeartbeats 8000000 in
theorem packs7 (n : Nat) (s : St) (v1 v2 vh : AV) (l m : List EvR) (hows : List Int) (x : EvR) (how : Int) (hv1 : RdE s v1 12 EvR.enc l) (hv2 : RdE s v2 12 EvR.enc m) (hvh : RdE s vh 1 encI hows)
    (hl : ∀ x ∈ l, x.e.In ∧ RdE s x.u 1 encB x.e.d ∧ RdE s x.w 1 encB x.e.p.d) (hm : ∀ x ∈ m, x.e.In ∧ RdE s x.u 1 encB x.e.d ∧ RdE s x.w 1 encB x.e.p.d) (hx : x.e.In ∧ RdE s x.u 1 encB x.e.d ∧ RdE s x.w 1 encB x.e.p.d)
    (hh : ∀ y ∈ hows, In64 y) (hw : In64 how) (hfu : 4000 < fu) :
    OutOk (callF bd tab.get fu (n + 8) 3 [v1, v2, vh, .agg x.enc, num how] s) (fun y s' => Is y (.bool true)) := by
  refine call_code t3 rfl ?_
  have hS0 := (Sep.nil (s := s)).newC x.enc
  have hf0 := hS0.frm
  have lup : ∀ {L : List EvR} {s' : St}, Fr s s' [] → (∀ x ∈ L, x.e.In ∧ RdE s x.u 1 encB x.e.d ∧ RdE s x.w 1 encB x.e.p.d) → ∀ x ∈ L, x.e.In ∧ RdE s' x.u 1 encB x.e.d ∧ RdE s' x.w 1 encB x.e.p.d := fun hf hL x hx => ⟨(hL x hx).1, (hL x hx).2.1.fr0 hf, (hL x hx).2.2.fr0 hf⟩
  have hp1 := playEs (bd := bd)  (fu := fu) n (s.new (.cells x.enc .own)) v1 vh l hows 8 (hv1.fr0 hf0) (hvh.fr0 hf0) (lup hf0 hl) hh (by omega) (by omega) (by omega)
  unfold EvR.enc at hS0 hp1 ⊢
  dsimp only [EvV.cs] at hS0 hp1 ⊢
  simp (disch := omega) only [vm0, vm1, vm2, vm3, vm4, vm5, vm6, vm7, fPick, fBox, fBuild, fBsl, fLd, fLda, fSt, fNilc, fBin, fEq, fUn, fMkf, fFa, fFld, fFlda, fExt, evo, wr, wrC, frame, Bool.not_true, Bool.not_false, beq_self_eq_true, List.cons_append, List.nil_append, Nat.add_zero, Nat.zero_add, Nat.reduceAdd, Nat.reduceMul, Nat.reduceSub, Bool.and_true, Bool.true_and, Bool.and_self, beq_dec, fApp, Int.toNat_natCast, Nat.sub_zero, vmI, vc3]
  refine call_ok rfl rfl hp1 ?_
  rintro va s1 ⟨la, hla, hsa, hSa⟩
  have hS1 := hS0.app hSa
  simp (disch := omega) only [vm0, vm1, vm2, vm3, vm4, vm5, vm6, vm7, fPick, fBox, fBuild, fBsl, fLd, fLda, fSt, fNilc, fBin, fEq, fUn, fMkf, fFa, fFld, fFlda, fExt, evo, wr, wrC, frame, Bool.not_true, Bool.not_false, beq_self_eq_true, List.cons_append, List.nil_append, Nat.add_zero, Nat.zero_add, Nat.reduceAdd, Nat.reduceMul, Nat.reduceSub, Bool.and_true, Bool.true_and, Bool.and_self, beq_dec, fApp, Int.toNat_natCast, Nat.sub_zero, vmI]
  refine call_ok rfl rfl (playEs n s1 v2 vh m hows 3 (hv2.fr0 hS1.frm) (hvh.fr0 hS1.frm) (lup hS1.frm hm) hh (by omega) (by omega) (by omega)) ?_
  rintro vb s2 ⟨lb, hlb, hsb, hSb⟩
  have hS2 := hS1.app hSb
  have rb := Sep.rdW (((hS2.re (.refl _))))
  have ob := Sep.oks (((hS2.re ((List.perm_middle (l₁ := [_])).trans (.cons _ (.refl _)))))) hsb
  have ra := Sep.rdW (((hS2.re ((List.perm_middle (l₁ := [_, _])).trans (.cons _ (.refl _))))))
  have oa := Sep.oks (((hS2.re ((List.perm_middle (l₁ := [_, _, _])).trans (.cons _ (.refl _)))))) hsa
  have hS2' := ((hS2.re (.refl _)).drop.drop.drop.drop)
  have hf02 := hS2'.frm
  have hS3 : Sep s s2 [oC s.next x.enc] := hS2'
  clear hS0 hS1 hS2 hS2' hSa hSb hp1
  have hba := evB_sm hsa
  simp (disch := omega) only [vm0, vm1, vm2, vm3, vm4, vm5, vm6, vm7, fPick, fBox, fBuild, fBsl, fLd, fLda, fSt, fNilc, fBin, fEq, fUn, fMkf, fFa, fFld, fFlda, fExt, evo, wr, wrC, frame, Bool.not_true, Bool.not_false, beq_self_eq_true, List.cons_append, List.nil_append, Nat.add_zero, Nat.zero_add, Nat.reduceAdd, Nat.reduceMul, Nat.reduceSub, Bool.and_true, Bool.true_and, Bool.and_self, beq_dec, fApp, Int.toNat_natCast, Nat.sub_zero, vmI]
  refine call_ok rfl rfl (e_packU (n + 1) s2 va la ra oa (by omega) (by omega) (by omega) (by omega)) ?_
  rintro _ s3 ⟨p, rfl, rp, hf3⟩
  simp (disch := omega) only [vm0, vm1, vm2, vm3, vm4, vm5, vm6, vm7, fPick, fBox, fBuild, fBsl, fLd, fLda, fSt, fNilc, fBin, fEq, fUn, fMkf, fFa, fFld, fFlda, fExt, evo, wr, wrC, frame, Bool.not_true, Bool.not_false, beq_self_eq_true, List.cons_append, List.nil_append, Nat.add_zero, Nat.zero_add, Nat.reduceAdd, Nat.reduceMul, Nat.reduceSub, Bool.and_true, Bool.true_and, Bool.and_self, beq_dec, fApp, Int.toNat_natCast, Nat.sub_zero, vmI]
  refine call_ok rfl rfl (u_packU (n + 1) s3 va la (ra.fr0 hf3) (oa.fr0 hf3) (by omega) (by omega) (by omega) (by omega)) ?_
  rintro _ s4 ⟨q, rfl, rq, hf4⟩
  have hf24 := hf3.trans hf4 (fp2 := []) (by simp) (by simp)
  have rp4 := rp.fr0 hf4
  have hS4 := hS3.fr hf24
  have ra4 := ra.fr0 hf24
  have oa4 := oa.fr0 hf24
  have rb4 := rb.fr0 hf24
  have ob4 := ob.fr0 hf24
  have g4 := hS4.getC
  have hpy := playE (bd := bd)  (fu := fu) (n + 1) s4 x.e x.u x.w how hx.1 hw (hx.2.1.fr0 hS4.frm) (hx.2.2.fr0 hS4.frm)
  have hpl : (if allR la then evB la else []).length ≤ 2000 := by
    by_cases hc : allR la = true
    · rw [if_pos hc]; omega
    · rw [if_neg hc]; show 0 ≤ 2000; omega
  unfold EvR.enc at g4
  dsimp only [EvV.cs] at g4 hpy
  clear hS3 hf3 hf4 rp ra oa rb ob hf24
  generalize (if allR la then evB la else []) = P at *
  simp (disch := omega) only [vm0, vm1, vm2, vm3, vm4, vm5, vm6, vm7, fPick, fBox, fBuild, fBsl, fLd, fLda, fSt, fNilc, fBin, fEq, fUn, fMkf, fFa, fFld, fFlda, fExt, evo, wr, wrC, frame, Bool.not_true, Bool.not_false, beq_self_eq_true, List.cons_append, List.nil_append, Nat.add_zero, Nat.zero_add, Nat.reduceAdd, Nat.reduceMul, Nat.reduceSub, Bool.and_true, Bool.true_and, Bool.and_self, beq_dec, fApp, Int.toNat_natCast, Nat.sub_zero, vmI]
  cases allR la
  all_goals
    simp only [Bool.false_eq_true, if_false, if_true]
    simp (disch := omega) only [vm0, vm1, vm2, vm3, vm4, vm5, vm6, vm7, fPick, fBox, fBuild, fBsl, fLd, fLda, fSt, fNilc, fBin, fEq, fUn, fMkf, fFa, fFld, fFlda, fExt, evo, wr, wrC, frame, Bool.not_true, Bool.not_false, beq_self_eq_true, List.cons_append, List.nil_append, Nat.add_zero, Nat.zero_add, Nat.reduceAdd, Nat.reduceMul, Nat.reduceSub, Bool.and_true, Bool.true_and, Bool.and_self, beq_dec, fApp, Int.toNat_natCast, Nat.sub_zero, vmI, g4]
    refine call_ok rfl rfl hpy ?_
    rintro _ s5 ⟨y, u, w, rfl, hyl, hypl, hy8, hy9, hSy⟩
    have ru5 := Sep.rdW hSy
    have rw5 := Sep.rdW (((hSy.re ((List.perm_middle (l₁ := [_])).trans (.cons _ (.refl _))))))
    have hS5 := (Sep.nil (s := s5)).cell [num 0, num 0, .nils, num 0, num 0, num 0, num 0, num 0, .nils, .bool false, num 0, num 0] (y.cs u w)
    dsimp only [EvV.cs] at hS5
    have g5 := hS5.getC
    have hf46 := hSy.frm.trans hS5.frm (fp2 := []) (by simp) (by simp)
    have ru := ru5.fr0 hS5.frm
    have rw6 := rw5.fr0 hS5.frm
    have ra6 := ra4.fr0 hf46
    have oa6 := oa4.fr0 hf46
    have rb6 := rb4.fr0 hf46
    have ob6 := ob4.fr0 hf46
    have rp6 := rp4.fr0 hf46
    have rq6 := rq.fr0 hf46
    have hur := u_rightE (bd := bd)  (fu := fu) (n + 3) ((s5.new (.cells [num 0, num 0, .nils, num 0, num 0, num 0, num 0, num 0, .nils, .bool false, num 0, num 0] .own)).put s5.next (some (.cells [num y.k, num y.n, u, num y.p.k, num y.p.pt, num y.p.nr, num y.p.of_, num y.p.fr, w, .bool y.p.fin, num y.p.se, num y.p.li] .own))) y u w ru rw6 (by omega) hy9
    dsimp only [EvV.cs] at hur
    clear hS4 hpy hSy g4 ra4 oa4 rb4 ob4 rp4 rq hf46
    simp (disch := omega) only [vm0, vm1, vm2, vm3, vm4, vm5, vm6, vm7, fPick, fBox, fBuild, fBsl, fLd, fLda, fSt, fNilc, fBin, fEq, fUn, fMkf, fFa, fFld, fFlda, fExt, evo, wr, wrC, frame, Bool.not_true, Bool.not_false, beq_self_eq_true, List.cons_append, List.nil_append, Nat.add_zero, Nat.zero_add, Nat.reduceAdd, Nat.reduceMul, Nat.reduceSub, Bool.and_true, Bool.true_and, Bool.and_self, beq_dec, fApp, Int.toNat_natCast, Nat.sub_zero, vmI]
    generalize ((s5.new (.cells [num 0, num 0, .nils, num 0, num 0, num 0, num 0, num 0, .nils, .bool false, num 0, num 0] .own)).put s5.next (some (.cells [num y.k, num y.n, u, num y.p.k, num y.p.pt, num y.p.nr, num y.p.of_, num y.p.fr, w, .bool y.p.fin, num y.p.se, num y.p.li] .own))) = s6 at *
    refine call_ok rfl rfl hur ?_
    rintro _ s7 ⟨rfl, hf7⟩
    have hS7 := (hS5.fr hf7)
    have g7 := hS7.getC
    simp (disch := omega) only [vm0, vm1, vm2, vm3, vm4, vm5, vm6, vm7, fPick, fBox, fBuild, fBsl, fLd, fLda, fSt, fNilc, fBin, fEq, fUn, fMkf, fFa, fFld, fFlda, fExt, evo, wr, wrC, frame, Bool.not_true, Bool.not_false, beq_self_eq_true, List.cons_append, List.nil_append, Nat.add_zero, Nat.zero_add, Nat.reduceAdd, Nat.reduceMul, Nat.reduceSub, Bool.and_true, Bool.true_and, Bool.and_self, beq_dec, fApp, Int.toNat_natCast, Nat.sub_zero, vmI]
    have ru7 := ru.fr0 hf7
    have rw7 := rw6.fr0 hf7
    have ra7 := ra6.fr0 hf7
    have oa7 := oa6.fr0 hf7
    have rb7 := rb6.fr0 hf7
    have ob7 := ob6.fr0 hf7
    have rp7 := rp6.fr0 hf7
    have rq7 := rq6.fr0 hf7
    clear ru5 rw5 ru rw6 ra6 oa6 rb6 ob6 rp6 rq6 hS5 g5 hf7 hur
    cases hyr : y.right
    all_goals
      simp (disch := omega) only [vm0, vm1, vm2, vm3, vm4, vm5, vm6, vm7, fPick, fBox, fBuild, fBsl, fLd, fLda, fSt, fNilc, fBin, fEq, fUn, fMkf, fFa, fFld, fFlda, fExt, evo, wr, wrC, frame, Bool.not_true, Bool.not_false, beq_self_eq_true, List.cons_append, List.nil_append, Nat.add_zero, Nat.zero_add, Nat.reduceAdd, Nat.reduceMul, Nat.reduceSub, Bool.and_true, Bool.true_and, Bool.and_self, beq_dec, fApp, Int.toNat_natCast, Nat.sub_zero, vmI]
      refine call_ok rfl rfl (sameB (fu := fu) (n + 6) s7 p q P P rp7 rq7 (by omega) (by omega)) ?_
      rintro _ s8 ⟨rfl, rfl⟩
      have hPP : decide (P = P) = true := by simp
      have hck := e_check (bd := bd)  (fu := fu) (n + 2) s8 y u w ru7 rw7 (by omega) hy8 hy9
      rw [hyr] at hck
      dsimp only [EvV.cs] at hck
      simp (disch := omega) only [vm0, vm1, vm2, vm3, vm4, vm5, vm6, vm7, fPick, fBox, fBuild, fBsl, fLd, fLda, fSt, fNilc, fBin, fEq, fUn, fMkf, fFa, fFld, fFlda, fExt, evo, wr, wrC, frame, Bool.not_true, Bool.not_false, beq_self_eq_true, List.cons_append, List.nil_append, Nat.add_zero, Nat.zero_add, Nat.reduceAdd, Nat.reduceMul, Nat.reduceSub, Bool.and_true, Bool.true_and, Bool.and_self, beq_dec, fApp, Int.toNat_natCast, Nat.sub_zero, vmI, hPP, g7]
      refine call_ok rfl rfl hck ?_
      rintro _ s9 ⟨rfl, f9⟩
      simp only [Bool.false_eq_true, if_false, if_true]
      simp (disch := omega) only [vm0, vm1, vm2, vm3, vm4, vm5, vm6, vm7, fPick, fBox, fBuild, fBsl, fLd, fLda, fSt, fNilc, fBin, fEq, fUn, fMkf, fFa, fFld, fFlda, fExt, evo, wr, wrC, frame, Bool.not_true, Bool.not_false, beq_self_eq_true, List.cons_append, List.nil_append, Nat.add_zero, Nat.zero_add, Nat.reduceAdd, Nat.reduceMul, Nat.reduceSub, Bool.and_true, Bool.true_and, Bool.and_self, beq_dec, fApp, Int.toNat_natCast, Nat.sub_zero, vmI]
      refine call_ok rfl rfl (e_all (fu := fu) (n + 2) s9 va vb la lb (ra7.fr0 f9) (rb7.fr0 f9) (oa7.fr0 f9) (ob7.fr0 f9) (by omega) (by omega)) ?_
      rintro _ s10 ⟨rfl, f10⟩
      have k10 := f9.trans f10 (fp2 := []) (by simp) (by simp)
      simp (disch := omega) only [vm0, vm1, vm2, vm3, vm4, vm5, vm6, vm7, fPick, fBox, fBuild, fBsl, fLd, fLda, fSt, fNilc, fBin, fEq, fUn, fMkf, fFa, fFld, fFlda, fExt, evo, wr, wrC, frame, Bool.not_true, Bool.not_false, beq_self_eq_true, List.cons_append, List.nil_append, Nat.add_zero, Nat.zero_add, Nat.reduceAdd, Nat.reduceMul, Nat.reduceSub, Bool.and_true, Bool.true_and, Bool.and_self, beq_dec, fApp, Int.toNat_natCast, Nat.sub_zero, vmI]
      refine call_ok rfl rfl (u_all (fu := fu) (n + 3) s10 va vb la lb (ra7.fr0 k10) (rb7.fr0 k10) (oa7.fr0 k10) (ob7.fr0 k10) (by omega) (by omega)) ?_
      rintro _ s11 ⟨rfl, f11⟩
      have k11 := k10.trans f11 (fp2 := []) (by simp) (by simp)
      have hbb : ∀ b : Bool, (b == b) = true := fun b => by cases b <;> rfl
      simp (disch := omega) only [vm0, vm1, vm2, vm3, vm4, vm5, vm6, vm7, fPick, fBox, fBuild, fBsl, fLd, fLda, fSt, fNilc, fBin, fEq, fUn, fMkf, fFa, fFld, fFlda, fExt, evo, wr, wrC, frame, Bool.not_true, Bool.not_false, beq_self_eq_true, List.cons_append, List.nil_append, Nat.add_zero, Nat.zero_add, Nat.reduceAdd, Nat.reduceMul, Nat.reduceSub, Bool.and_true, Bool.true_and, Bool.and_self, beq_dec, fApp, Int.toNat_natCast, Nat.sub_zero, vmI, eqE_b, hbb]
      refine call_ok rfl rfl (e_all (fu := fu) (n + 2) s11 va va la la (ra7.fr0 k11) (ra7.fr0 k11) (oa7.fr0 k11) (oa7.fr0 k11) (by omega) (by omega)) ?_
      rintro _ s12 ⟨rfl, f12⟩
      have k12 := k11.trans f12 (fp2 := []) (by simp) (by simp)
      have g12 := (hS7.fr k12).getC
      have hee : decide (evs la = evs la) = true := by simp
      have hes := e_same (bd := bd)  (fu := fu) (n + 4) s12 y y u w u w (ru7.fr0 k12) (rw7.fr0 k12) (ru7.fr0 k12) (rw7.fr0 k12) hy8 hy9 hy8 hy9
      dsimp only [EvV.cs] at hes
      simp (disch := omega) only [vm0, vm1, vm2, vm3, vm4, vm5, vm6, vm7, fPick, fBox, fBuild, fBsl, fLd, fLda, fSt, fNilc, fBin, fEq, fUn, fMkf, fFa, fFld, fFlda, fExt, evo, wr, wrC, frame, Bool.not_true, Bool.not_false, beq_self_eq_true, List.cons_append, List.nil_append, Nat.add_zero, Nat.zero_add, Nat.reduceAdd, Nat.reduceMul, Nat.reduceSub, Bool.and_true, Bool.true_and, Bool.and_self, beq_dec, fApp, Int.toNat_natCast, Nat.sub_zero, vmI, hee, g12]
      refine call_ok rfl rfl hes ?_
      rintro _ s13 ⟨rfl, f13⟩
      have k13 := k12.trans f13 (fp2 := []) (by simp) (by simp)
      have hyy : decide (y = y) = true := by simp
      have hlen := (ra7.fr0 k13).lenV
      have g13 := (hS7.fr k13).getC
      by_cases hl0 : (la.length : Int) = 0
      · simp (disch := omega) only [vm0, vm1, vm2, vm3, vm4, vm5, vm6, vm7, fPick, fBox, fBuild, fBsl, fLd, fLda, fSt, fNilc, fBin, fEq, fUn, fMkf, fFa, fFld, fFlda, fExt, evo, wr, wrC, frame, Bool.not_true, Bool.not_false, beq_self_eq_true, List.cons_append, List.nil_append, Nat.add_zero, Nat.zero_add, Nat.reduceAdd, Nat.reduceMul, Nat.reduceSub, Bool.and_true, Bool.true_and, Bool.and_self, beq_dec, fApp, Int.toNat_natCast, Nat.sub_zero, vmI, hyy, hlen, vmU, du_lda]
        refine call_ok rfl rfl (wakes (fu := fu) n s13 (by omega)) ?_
        rintro _ s14 ⟨rfl, f14⟩
        simp (disch := omega) only [vm0, vm1, vm2, vm3, vm4, vm5, vm6, vm7, fPick, fBox, fBuild, fBsl, fLd, fLda, fSt, fNilc, fBin, fEq, fUn, fMkf, fFa, fFld, fFlda, fExt, evo, wr, wrC, frame, Bool.not_true, Bool.not_false, beq_self_eq_true, List.cons_append, List.nil_append, Nat.add_zero, Nat.zero_add, Nat.reduceAdd, Nat.reduceMul, Nat.reduceSub, Bool.and_true, Bool.true_and, Bool.and_self, beq_dec, fApp, Int.toNat_natCast, Nat.sub_zero, vmI, rw_7, rw_8]
        rfl
      · obtain ⟨a0, ha0⟩ : ∃ a0, la[0]? = some a0 := ⟨_, List.getElem?_eq_getElem (by omega)⟩
        have ham : a0 ∈ la := List.mem_of_getElem? ha0
        have e1 : iaV 12 va (some (num 0)) = some (.ptr (sblk va) (soff va + 0 * 12)) := (ra7.fr0 k13).ia ha0
        have e2 := (ra7.fr0 k13).at ha0
        rw [Nat.zero_mul, Nat.add_zero] at e2
        have ao := (oa7 a0 ham).fr0 k13
        have hes2 := e_same (bd := bd)  (fu := fu) (n + 4) s13 a0.e y a0.u a0.w u w ao.u ao.w (ru7.fr0 k13) (rw7.fr0 k13) ao.h8 ao.h9 hy8 hy9
        dsimp only [EvV.cs] at hes2
        have e2 : ob (s13.heap.get (sblk va)) (rdC (soff va) 12) = some [num a0.e.k, num a0.e.n, a0.u, num a0.e.p.k, num a0.e.p.pt, num a0.e.p.nr, num a0.e.p.of_, num a0.e.p.fr, a0.w, .bool a0.e.p.fin, num a0.e.p.se, num a0.e.p.li] := e2
        simp (disch := omega) only [vm0, vm1, vm2, vm3, vm4, vm5, vm6, vm7, fPick, fBox, fBuild, fBsl, fLd, fLda, fSt, fNilc, fBin, fEq, fUn, fMkf, fFa, fFld, fFlda, fExt, evo, wr, wrC, frame, Bool.not_true, Bool.not_false, beq_self_eq_true, List.cons_append, List.nil_append, Nat.add_zero, Nat.zero_add, Nat.reduceAdd, Nat.reduceMul, Nat.reduceSub, Bool.and_true, Bool.true_and, Bool.and_self, beq_dec, fApp, Int.toNat_natCast, Nat.sub_zero, vmI, hyy, hlen, g13, e1, e2, vmU, du_lda]
        refine call_ok rfl rfl hes2 ?_
        rintro _ s14 ⟨rfl, f14⟩
        have k14 := k13.trans f14 (fp2 := []) (by simp) (by simp)
        have g14 := (hS7.fr k14).getC
        have e3 : iaV 12 va (some (num 0)) = some (.ptr (sblk va) (soff va + 0 * 12)) := (ra7.fr0 k14).ia ha0
        have e4 := (ra7.fr0 k14).at ha0
        rw [Nat.zero_mul, Nat.add_zero] at e4
        have ao2 := (oa7 a0 ham).fr0 k14
        have hes3 := u_sameE (bd := bd)  (fu := fu) (n + 4) s14 a0.e y a0.u a0.w u w ao2.u ao2.w (ru7.fr0 k14) (rw7.fr0 k14) ao2.h8 ao2.h9 hy8 hy9
        dsimp only [EvV.cs] at hes3
        have e4 : ob (s14.heap.get (sblk va)) (rdC (soff va) 12) = some [num a0.e.k, num a0.e.n, a0.u, num a0.e.p.k, num a0.e.p.pt, num a0.e.p.nr, num a0.e.p.of_, num a0.e.p.fr, a0.w, .bool a0.e.p.fin, num a0.e.p.se, num a0.e.p.li] := e4
        simp (disch := omega) only [vm0, vm1, vm2, vm3, vm4, vm5, vm6, vm7, fPick, fBox, fBuild, fBsl, fLd, fLda, fSt, fNilc, fBin, fEq, fUn, fMkf, fFa, fFld, fFlda, fExt, evo, wr, wrC, frame, Bool.not_true, Bool.not_false, beq_self_eq_true, List.cons_append, List.nil_append, Nat.add_zero, Nat.zero_add, Nat.reduceAdd, Nat.reduceMul, Nat.reduceSub, Bool.and_true, Bool.true_and, Bool.and_self, beq_dec, fApp, Int.toNat_natCast, Nat.sub_zero, vmI, hyy, hlen, g14, e3, e4, vmU, du_lda]
        refine call_ok rfl rfl hes3 ?_
        rintro _ s15 ⟨rfl, f15⟩
        have k15 := k14.trans f15 (fp2 := []) (by simp) (by simp)
        have g15 := (hS7.fr k15).getC
        simp (disch := omega) only [vm0, vm1, vm2, vm3, vm4, vm5, vm6, vm7, fPick, fBox, fBuild, fBsl, fLd, fLda, fSt, fNilc, fBin, fEq, fUn, fMkf, fFa, fFld, fFlda, fExt, evo, wr, wrC, frame, Bool.not_true, Bool.not_false, beq_self_eq_true, List.cons_append, List.nil_append, Nat.add_zero, Nat.zero_add, Nat.reduceAdd, Nat.reduceMul, Nat.reduceSub, Bool.and_true, Bool.true_and, Bool.and_self, beq_dec, fApp, Int.toNat_natCast, Nat.sub_zero, vmI, hyy, hlen, g15, eqE_b, hbb, vmU, du_lda]
        refine call_ok rfl rfl (wakes (fu := fu) n s15 (by omega)) ?_
        rintro _ s16 ⟨rfl, f16⟩
        simp (disch := omega) only [vm0, vm1, vm2, vm3, vm4, vm5, vm6, vm7, fPick, fBox, fBuild, fBsl, fLd, fLda, fSt, fNilc, fBin, fEq, fUn, fMkf, fFa, fFld, fFlda, fExt, evo, wr, wrC, frame, Bool.not_true, Bool.not_false, beq_self_eq_true, List.cons_append, List.nil_append, Nat.add_zero, Nat.zero_add, Nat.reduceAdd, Nat.reduceMul, Nat.reduceSub, Bool.and_true, Bool.true_and, Bool.and_self, beq_dec, fApp, Int.toNat_natCast, Nat.sub_zero, vmI, rw_7, rw_8, rw_9, rw_10, rw_11, rw_12, g13, g14, g15, e2, e4, sv_sl ao.u.rd.sl, sv_sl ao.w.rd.sl, sv_sl ru7.rd.sl, sv_sl rw7.rd.sl, sv_bool]
        rfl
end
end Go.Proofs.Ytgckbcljlkkceaa.ctr
namespace Go.Proofs.Ytgckbcljlkkceaa.eventPacksRun
open Go Go.Vm Go.RowKit Go.Proofs.Ytgckbcljlkkceaa.ctr
set_option linter.unusedVariables false
set_option linter.unusedSimpArgs false
theorem mixed : Try.prog.follows .mixedOrders = true := by kernel_rfl
theorem walk (a0 : Option Addr) (len0 cap0 : Nat) (z0 : Nat → Value) (a1 : Option Addr) (len1 cap1 : Nat) (z1 : Nat → Value) (a2 : Option Addr) (len2 cap2 : Nat) (z2 : List Int) (cs : Array Value) (a4 : Int) (w : World)
    (hc3 : cs.size = 12) (hk3 : ∀ q, q < 12 → ∃ u, cs.toList[q]? = some u ∧ FkOk w (evK.getD q .i) u) (w4 : (Lit.int .i64 a4).wf = true)
    (hq0 : IsRowV w a0 len0 cap0 12 z0) (hk0 : ∀ i, i < cap0 * 12 → FkOk w (evK.getD (i % 12) .i) (z0 i)) (hq1 : IsRowV w a1 len1 cap1 12 z1) (hk1 : ∀ i, i < cap1 * 12 → FkOk w (evK.getD (i % 12) .i) (z1 i)) (hq2 : IsRowI w a2 len2 cap2 z2) :
    Calls Try.prog 3 #[.slice a0 len0 cap0, .slice a1 len1 cap1, .slice a2 len2 cap2, .agg cs, .int .i64 a4] w fun e w' => e = .returned (.bool true) ∧ Below w.heap.size w w' := by
  obtain ⟨v0, E0, s0, L0, g0, l0, f0, r0, d0, i0⟩ := (Arg0.start w).evs hq0 hk0
  obtain ⟨v1, E1, s1, L1, g1, l1, f1, r1, d1, i1⟩ := g0.evs hq1 hk1
  obtain ⟨v2, E2, s2, g2, l2, f2, r2, d2, i2⟩ := g1.ints hq2
  obtain ⟨x, E3, s3, g3, l3, f3, r3, d3⟩ := g2.ev1 hc3 hk3
  have lup : ∀ {L : List EvR} {s s' : St}, Fr s s' [] → (∀ x ∈ L, x.e.In ∧ RdE s x.u 1 encB x.e.d ∧ RdE s x.w 1 encB x.e.p.d) → ∀ x ∈ L, x.e.In ∧ RdE s' x.u 1 encB x.e.d ∧ RdE s' x.w 1 encB x.e.p.d := fun hf hL x hx => ⟨(hL x hx).1, (hL x hx).2.1.fr0 hf, (hL x hx).2.2.fr0 hf⟩
  have h := packs7 (bd := bd0) (fu := 5000) 40 s3 v0 v1 v2 L0 L1 _ x a4 (((d0.fr0 f1).fr0 f2).fr0 f3) ((d1.fr0 f2).fr0 f3) (d2.fr0 f3) (lup f3 (lup f2 (lup f1 i0))) (lup f3 (lup f2 i1)) d3 i2 (wf64 w4) (by omega)
  exact law_okE bd0_ok mixed (tab_all rho0) t3 g3.hr g3.own (.cons (((r0.mono l1).mono l2).mono l3) (.cons ((r1.mono l2).mono l3) (.cons (r2.mono l3) (.cons r3 (.cons vr_int .nil))))) (yes_of' h fun _ _ h => h)
end Go.Proofs.Ytgckbcljlkkceaa.eventPacksRun
