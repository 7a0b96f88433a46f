/- SpanReads, walked. -/
import Derived.Test.YtekhpohcjfjhfabCySp
import Derived.SizedLaws
import Derived.WalkKit
import Derived.ProofKit
namespace Go.Proofs.Ytekhpohcjfjhfab.ctr
open Go Go.Vm Go.RowKit
set_option linter.unusedVariables false
set_option linter.constructorNameAsVariable false
set_option linter.unusedSimpArgs false
noncomputable def yr2 : VC := (.seq (.reg [.i (.call (.c (.fn 30 [] [])) [(.w 5), (.w 13)]), .i (.call (.c (.fn 31 [] [])) [(.w 8), (.w 13)]), .i (.call (.c (.fn 15 [] [])) [(.t 1), (.t 0)]), .i (.un .not (.t 0))] [(22, (.t 0))]) (.cond (.w 22) (.seq (.reg [] [(25, (.c (.bool false)))]) .ret) .skip))
theorem vc62_eq : vc6_2 = (.seq (.seq (.reg [.i (.bin .eql (.w 10) (.c (.int .i64 (.c 0))))] [(12, (.t 0))]) (.cond (.w 12) .skip (.reg [.i (.bin .eql (.w 10) (.c (.int .i64 (.c 1))))] [(12, (.t 0))]))) (.cond (.w 12) (.seq (.reg [.i (.call (.c (.fn 28 [] [])) [(.w 5)]), .i (.call (.c (.fn 29 [] [])) [(.w 8)]), .i (.bin .neq (.t 1) (.t 0))] [(19, (.t 0))]) (.cond (.w 19) (.seq (.reg [] [(25, (.c (.bool false)))]) .ret) .skip)) (.seq (.reg [.i (.bin .eql (.w 10) (.c (.int .i64 (.c 2))))] [(20, (.t 0))]) (.cond (.w 20) (.seq (.reg [.i (.ia 1 (.w 3) (.w 6)), .i (.ld (.t 0)), .i (.call (.c (.fn 8 [] [])) [(.t 0), (.c (.int .i64 (.c 100)))])] [(13, (.t 0))]) (.seq (.seq (.reg [.i (.ia 1 (.w 3) (.w 6)), .i (.ld (.t 0)), .i (.bin .rem (.t 0) (.c (.int .i64 (.c 7)))), .i (.bin .eql (.t 0) (.c (.int .i64 (.c 6))))] [(21, (.t 0))]) (.cond (.w 21) (.reg [.i (.ia 1 (.w 3) (.w 6)), .i (.ld (.t 0)), .i (.bin .rem (.t 0) (.c (.int .i64 (.c 9)))), .i (.bin .sub (.c (.int .i64 (.c 4))) (.t 0))] [(13, (.t 0))]) .skip)) yr2)) (.seq (.reg [.i (.call (.c (.fn 32 [] [])) [(.w 5)]), .i (.call (.c (.fn 33 [] [])) [(.w 8)]), .i (.bin .neq (.t 1) (.t 0))] [(23, (.t 0))]) (.cond (.w 23) (.seq (.reg [] [(25, (.c (.bool false)))]) .ret) .skip)))))) := rfl
theorem RD.Ok.num {r : RD} (h : r.Ok) : r.num.2.Ok ∧ r.num.2.B = r.B := by
  obtain ⟨B, a, bad⟩ := r
  obtain ⟨a1, a2, a3⟩ := h
  dsimp only at a1 a2 a3
  obtain ⟨t1, t2, t3, t4⟩ := takeV_bd (l := B.drop a.toNat) (fun x hx => a2 x (List.mem_of_mem_drop hx))
  rw [List.length_drop] at t4
  unfold RD.num
  split
  · exact ⟨⟨a1, a2, a3⟩, rfl⟩
  · exact ⟨⟨by unfold RD.take; dsimp only; omega, a2, a3⟩, rfl⟩
theorem RD.Ok.byte {r : RD} (h : r.Ok) : r.byte.2.Ok ∧ r.byte.2.B = r.B := by
  obtain ⟨B, a, bad⟩ := r
  obtain ⟨a1, a2, a3⟩ := h
  dsimp only at a1 a2 a3
  unfold RD.byte
  split
  · exact ⟨⟨a1, a2, a3⟩, rfl⟩
  · rename_i hc
    have : a ≠ B.length := fun e => hc (.inr e)
    exact ⟨⟨by dsimp only; omega, a2, a3⟩, rfl⟩
theorem RD.Ok.bytes {r : RD} (h : r.Ok) (most : Int) : (r.bytes most).2.Ok ∧ (r.bytes most).2.B = r.B := by
  obtain ⟨B, a, bad⟩ := r
  obtain ⟨a1, a2, a3⟩ := h
  dsimp only at a1 a2 a3
  obtain ⟨t1, t2, t3, t4⟩ := takeV_bd (l := B.drop a.toNat) (fun x hx => a2 x (List.mem_of_mem_drop hx))
  rw [List.length_drop] at t4
  unfold RD.bytes
  split
  · exact ⟨⟨a1, a2, a3⟩, rfl⟩
  · rename_i hc
    have hc3 : ¬ ((B.length : Int) - a - (RD.take ⟨B, a, bad⟩).2.1 < (RD.take ⟨B, a, bad⟩).1) := fun e => hc (.inr (.inr (.inr e)))
    unfold RD.take at *
    dsimp only at *
    exact ⟨⟨by dsimp only; omega, a2, a3⟩, rfl⟩
theorem RD.bytes_len {r : RD} (h : r.Ok) (most : Int) : (r.bytes most).1.length ≤ r.B.length := by
  unfold RD.bytes
  split
  · simp
  · simp; omega
theorem Sep.getR {s0 s : St} {p : Nat} {r : RD} {Ps : List Obj} (h : Sep s0 s (oR p r :: Ps)) : ∃ v, s.heap.get p = some (.cells [v, num r.a, .bool r.bad] .own) := by
  obtain ⟨f, ⟨v, fv, h1, _⟩, _⟩ := h.hd; exact ⟨v, h1⟩
section
variable {bd : Bd} {fu : Nat}
theorem u_wrap (n : Nat) (s : St) (v : AV) (l : List Int) (hv : RdE s v 1 encB l) (hl : l.length ≤ 140737488351232) (hfu : 10 < fu) :
    OutOk (callF bd tab.get fu (n + 3) 26 [v] s) (fun x s' => ∃ fp, OwE s' x 1 encB (putV l.length ++ l) fp ∧ Fr s s' [] ∧ Nw s [] fp) := by
  refine call_code t26 rfl ?_
  have e := hv.lenV
  simp (disch := omega) only [vm0, vm1, vm2, vm3, vm4, vm5, vm6, vm7, fPick, fBox, fBuild, fBsl, fLd, fLda, fSt, fNilc, fBin, fEq, fUn, fMkf, fFa, fFld, fFlda, fExt, evo, wr, wrC, frame, Bool.not_true, Bool.not_false, beq_self_eq_true, List.cons_append, List.nil_append, Nat.add_zero, Nat.zero_add, Nat.reduceAdd, Nat.reduceMul, Nat.reduceSub, Bool.and_true, Bool.true_and, Bool.and_self, beq_dec, fApp, Int.toNat_natCast, Nat.sub_zero, vmI, vc26, e]
  refine call_ok rfl rfl (w_put n s (l.length : Int) ⟨by omega, by omega⟩ hfu) ?_
  rintro x s1 ⟨fp, q1, q2, q3⟩
  have hv1 := hv.fr0 q2
  have k1 := hv1.lenOf
  have k2 := hv1.cellsOf
  have hpl := putV_len (l.length : Int)
  have hsz : sizeV (l.length : Int) ≤ 8 := by rcases sizeV_in (l.length : Int) with h | h | h | h | h <;> omega
  simp (disch := omega) only [vm0, vm1, vm2, vm3, vm4, vm5, vm6, vm7, fPick, fBox, fBuild, fBsl, fLd, fLda, fSt, fNilc, fBin, fEq, fUn, fMkf, fFa, fFld, fFlda, fExt, evo, wr, wrC, frame, Bool.not_true, Bool.not_false, beq_self_eq_true, List.cons_append, List.nil_append, Nat.add_zero, Nat.zero_add, Nat.reduceAdd, Nat.reduceMul, Nat.reduceSub, Bool.and_true, Bool.true_and, Bool.and_self, beq_dec, fApp, Int.toNat_natCast, Nat.sub_zero, vmI, k1, k2]
  refine op_app q1 .refl (new := l) rfl rfl (by omega) ?_
  intro y s2 fo ho hf hn
  simp (disch := omega) only [vm0, vm1, vm2, vm3, vm4, vm5, vm6, vm7, fPick, fBox, fBuild, fBsl, fLd, fLda, fSt, fNilc, fBin, fEq, fUn, fMkf, fFa, fFld, fFlda, fExt, evo, wr, wrC, frame, Bool.not_true, Bool.not_false, beq_self_eq_true, List.cons_append, List.nil_append, Nat.add_zero, Nat.zero_add, Nat.reduceAdd, Nat.reduceMul, Nat.reduceSub, Bool.and_true, Bool.true_and, Bool.and_self, beq_dec, fApp, Int.toNat_natCast, Nat.sub_zero, vmI]
  refine ⟨fo, ho, q2.trans hf (by simp) (fun b hb hl => by have := q3 b hb; simp at this; omega), fun b hb => ?_⟩
  rcases hn b hb with hh | hh
  · exact q3 b hh
  · exact .inr (Nat.le_trans q2.1 hh)
/-! ## one act -/
def RPost (s0 : St) (bv v1 v2 v3 : AV) (raw : Bool) (L : List Int) (p q b i : Nat) (d : Int) (e : Ex) (F : LF) (s : St) : Prop :=
  e = .normal ∧ ∃ r : RD, r.Ok ∧ r.B = L ∧ Sep s0 s [oR p r, oR q r, oC b (lentC L)] ∧ ∃ z7 z9 z12 z13 z14 z15 z16 z17 z18 z19 z20 z21 z22 z23 z24, F = [some bv, some v1, some v2, some v3, some (.bool raw), some (.ptr p 0), some (num (i : Int)), z7, some (.ptr q 0), z9, some (num d), some (.sl b 0 L.length (L.length + 3) true 1), z12, z13, z14, z15, z16, z17, z18, z19, z20, z21, z22, z23, z24, some (.bool false)]
theorem sr_act (n : Nat) {s0 : St} (s : St) (bv v1 v2 v3 : AV) (raw : Bool) (L l3 : List Int) (r : RD) (p q b i : Nat) (d N : Int) (z7 z9 z12 z13 z14 z15 z16 z17 z18 z19 z20 z21 z22 z23 z24 : Option AV) (hr : r.Ok) (hrB : r.B = L) (hd : 0 ≤ d ∧ d < 4) (hv3 : RdE s0 v3 1 Vm.encI l3) (hN : l3[i]? = some N) (hN64 : In64 N)
    (hS : Sep s0 s [oR p r, oR q r, oC b (lentC L)]) (hfu : L.length + 4000 < fu) :
    RsOk (exec bd (callF bd tab.get fu (n + 5)) fu vc6_2 [some bv, some v1, some v2, some v3, some (.bool raw), some (.ptr p 0), some (num (i : Int)), z7, some (.ptr q 0), z9, some (num d), some (.sl b 0 L.length (L.length + 3) true 1), z12, z13, z14, z15, z16, z17, z18, z19, z20, z21, z22, z23, z24, some (.bool false)] s) (RPost s0 bv v1 v2 v3 raw L p q b i d) := by
  have hc : d = 0 ∨ d = 1 ∨ d = 2 ∨ 3 ≤ d := by omega
  rcases hc with rfl | rfl | rfl | hc
  iterate 2
    · simp (disch := omega) only [vm0, vm1, vm2, vm3, vm4, vm5, vm6, vm7, fPick, fBox, fBuild, fBsl, fLd, fLda, fSt, fNilc, fBin, fEq, fUn, fMkf, fFa, fFld, fFlda, fExt, evo, wr, wrC, frame, Bool.not_true, Bool.not_false, beq_self_eq_true, List.cons_append, List.nil_append, Nat.add_zero, Nat.zero_add, Nat.reduceAdd, Nat.reduceMul, Nat.reduceSub, Bool.and_true, Bool.true_and, Bool.and_self, beq_dec, fApp, Int.toNat_natCast, Nat.sub_zero, vmI, vc6_2]
      refine call_ok rfl rfl (r_num (n + 1) s p r _ hS hr (by omega)) ?_
      rintro y s1 ⟨rfl, hS1⟩
      simp (disch := omega) only [vm0, vm1, vm2, vm3, vm4, vm5, vm6, vm7, fPick, fBox, fBuild, fBsl, fLd, fLda, fSt, fNilc, fBin, fEq, fUn, fMkf, fFa, fFld, fFlda, fExt, evo, wr, wrC, frame, Bool.not_true, Bool.not_false, beq_self_eq_true, List.cons_append, List.nil_append, Nat.add_zero, Nat.zero_add, Nat.reduceAdd, Nat.reduceMul, Nat.reduceSub, Bool.and_true, Bool.true_and, Bool.and_self, beq_dec, fApp, Int.toNat_natCast, Nat.sub_zero, vmI]
      refine call_ok rfl rfl (x_num (n + 1) s1 q r _ hS1.swap hr (by omega)) ?_
      rintro y s2 ⟨rfl, hS2⟩
      simp (disch := omega) only [vm0, vm1, vm2, vm3, vm4, vm5, vm6, vm7, fPick, fBox, fBuild, fBsl, fLd, fLda, fSt, fNilc, fBin, fEq, fUn, fMkf, fFa, fFld, fFlda, fExt, evo, wr, wrC, frame, Bool.not_true, Bool.not_false, beq_self_eq_true, List.cons_append, List.nil_append, Nat.add_zero, Nat.zero_add, Nat.reduceAdd, Nat.reduceMul, Nat.reduceSub, Bool.and_true, Bool.true_and, Bool.and_self, beq_dec, fApp, Int.toNat_natCast, Nat.sub_zero, vmI]
      exact ⟨rfl, r.num.2, hr.num.1, hr.num.2.trans hrB, hS2.swap, _, _, _, _, _, _, _, _, _, _, _, _, _, _, _, rfl⟩
  · have e1 := (hv3.fr0 hS.frm).ia hN
    have e2 := (hv3.fr0 hS.frm).at1 (f := num) hN
    have h70 : (7 : Int) ≠ 0 := by decide
    have h90 : (9 : Int) ≠ 0 := by decide
    obtain ⟨m7, hm7⟩ : ∃ m, N.tmod 7 = m := ⟨_, rfl⟩
    obtain ⟨m9, hm9⟩ : ∃ m, N.tmod 9 = m := ⟨_, rfl⟩
    have hb1 : m9 < 9 := by rw [← hm9]; exact Int.tmod_lt_of_pos N (by decide)
    have hb2 : -9 < m9 := by
      have h1 := Int.tmod_lt_of_pos (-N) (b := 9) (by decide)
      rw [Int.neg_tmod, hm9] at h1
      omega
    simp (disch := omega) only [vm0, vm1, vm2, vm3, vm4, vm5, vm6, vm7, fPick, fBox, fBuild, fBsl, fLd, fLda, fSt, fNilc, fBin, fEq, fUn, fMkf, fFa, fFld, fFlda, fExt, evo, wr, wrC, frame, Bool.not_true, Bool.not_false, beq_self_eq_true, List.cons_append, List.nil_append, Nat.add_zero, Nat.zero_add, Nat.reduceAdd, Nat.reduceMul, Nat.reduceSub, Bool.and_true, Bool.true_and, Bool.and_self, beq_dec, fApp, Int.toNat_natCast, Nat.sub_zero, vmI, vc62_eq, e1, e2]
    refine call_ok rfl rfl (withinP (n + 4) s N 100 hN64 (by omega) (by omega)) ?_
    rintro y s1 ⟨rfl, rfl⟩
    have fin : ∀ most : Int, most ≤ 1000 → ∀ (z7 z9 z12 z14 z15 z16 z17 z18 z19 z20 z21 z22 z23 z24 : Option AV), RsOk (exec bd (callF bd tab.get fu (n + 5)) fu yr2 [some bv, some v1, some v2, some v3, some (.bool raw), some (.ptr p 0), some (num (i : Int)), z7, some (.ptr q 0), z9, some (num 2), some (.sl b 0 L.length (L.length + 3) true 1), z12, some (num most), z14, z15, z16, z17, z18, z19, z20, z21, z22, z23, z24, some (.bool false)] s1) (RPost s0 bv v1 v2 v3 raw L p q b i 2) := by
      intro most hmo z7 z9 z12 z14 z15 z16 z17 z18 z19 z20 z21 z22 z23 z24
      simp (disch := omega) only [vm0, vm1, vm2, vm3, vm4, vm5, vm6, vm7, fPick, fBox, fBuild, fBsl, fLd, fLda, fSt, fNilc, fBin, fEq, fUn, fMkf, fFa, fFld, fFlda, fExt, evo, wr, wrC, frame, Bool.not_true, Bool.not_false, beq_self_eq_true, List.cons_append, List.nil_append, Nat.add_zero, Nat.zero_add, Nat.reduceAdd, Nat.reduceMul, Nat.reduceSub, Bool.and_true, Bool.true_and, Bool.and_self, beq_dec, fApp, Int.toNat_natCast, Nat.sub_zero, vmI, yr2]
      refine call_ok rfl rfl (r_bytes (n + 1) s1 p r most _ hS hr (by omega) (by omega)) ?_
      rintro t s2 hS2
      simp (disch := omega) only [vm0, vm1, vm2, vm3, vm4, vm5, vm6, vm7, fPick, fBox, fBuild, fBsl, fLd, fLda, fSt, fNilc, fBin, fEq, fUn, fMkf, fFa, fFld, fFlda, fExt, evo, wr, wrC, frame, Bool.not_true, Bool.not_false, beq_self_eq_true, List.cons_append, List.nil_append, Nat.add_zero, Nat.zero_add, Nat.reduceAdd, Nat.reduceMul, Nat.reduceSub, Bool.and_true, Bool.true_and, Bool.and_self, beq_dec, fApp, Int.toNat_natCast, Nat.sub_zero, vmI]
      refine call_ok rfl rfl (x_bytes (n + 1) s2 q r most _ (((hS2.re ((List.perm_middle (l₁ := [_, _])).trans (.cons _ (.refl _)))))) hr (by omega) (by omega)) ?_
      rintro u s3 hS3
      have hl := RD.bytes_len hr most
      rw [hrB] at hl
      have hl2 := hr.l
      rw [hrB] at hl2
      simp (disch := omega) only [vm0, vm1, vm2, vm3, vm4, vm5, vm6, vm7, fPick, fBox, fBuild, fBsl, fLd, fLda, fSt, fNilc, fBin, fEq, fUn, fMkf, fFa, fFld, fFlda, fExt, evo, wr, wrC, frame, Bool.not_true, Bool.not_false, beq_self_eq_true, List.cons_append, List.nil_append, Nat.add_zero, Nat.zero_add, Nat.reduceAdd, Nat.reduceMul, Nat.reduceSub, Bool.and_true, Bool.true_and, Bool.and_self, beq_dec, fApp, Int.toNat_natCast, Nat.sub_zero, vmI]
      refine call_ok rfl rfl (sameB (n + 4) s3 t u _ _ (Sep.rdW (((hS3.re ((List.perm_middle (l₁ := [_, _])).trans (.cons _ (.refl _))))))) hS3.rdW (by omega) (by omega)) ?_
      rintro z s4 ⟨rfl, rfl⟩
      have hde : decide ((r.bytes most).1 = (r.bytes most).1) = true := by simp
      simp (disch := omega) only [vm0, vm1, vm2, vm3, vm4, vm5, vm6, vm7, fPick, fBox, fBuild, fBsl, fLd, fLda, fSt, fNilc, fBin, fEq, fUn, fMkf, fFa, fFld, fFlda, fExt, evo, wr, wrC, frame, Bool.not_true, Bool.not_false, beq_self_eq_true, List.cons_append, List.nil_append, Nat.add_zero, Nat.zero_add, Nat.reduceAdd, Nat.reduceMul, Nat.reduceSub, Bool.and_true, Bool.true_and, Bool.and_self, beq_dec, fApp, Int.toNat_natCast, Nat.sub_zero, vmI, hde]
      exact ⟨rfl, (r.bytes most).2, (hr.bytes most).1, (hr.bytes most).2.trans hrB, ((hS3.re (.cons _ ((List.perm_middle (l₁ := [_])).trans (.cons _ ((List.perm_middle (l₁ := [_])).trans (.cons _ (.refl _))))))).drop.drop), _, _, _, _, _, _, _, _, _, _, _, _, _, _, _, rfl⟩
    by_cases h6 : m7 = 6
    · subst h6
      simp (disch := omega) only [vm0, vm1, vm2, vm3, vm4, vm5, vm6, vm7, fPick, fBox, fBuild, fBsl, fLd, fLda, fSt, fNilc, fBin, fEq, fUn, fMkf, fFa, fFld, fFlda, fExt, evo, wr, wrC, frame, Bool.not_true, Bool.not_false, beq_self_eq_true, List.cons_append, List.nil_append, Nat.add_zero, Nat.zero_add, Nat.reduceAdd, Nat.reduceMul, Nat.reduceSub, Bool.and_true, Bool.true_and, Bool.and_self, beq_dec, fApp, Int.toNat_natCast, Nat.sub_zero, vmI, e1, e2, b_rem h70, b_rem h90, hm7, hm9]
      exact fin (4 - m9) (by omega) _ _ _ _ _ _ _ _ _ _ _ _ _ _
    · have hq : N % 100 ≤ 1000 := by omega
      simp (disch := omega) only [vm0, vm1, vm2, vm3, vm4, vm5, vm6, vm7, fPick, fBox, fBuild, fBsl, fLd, fLda, fSt, fNilc, fBin, fEq, fUn, fMkf, fFa, fFld, fFlda, fExt, evo, wr, wrC, frame, Bool.not_true, Bool.not_false, beq_self_eq_true, List.cons_append, List.nil_append, Nat.add_zero, Nat.zero_add, Nat.reduceAdd, Nat.reduceMul, Nat.reduceSub, Bool.and_true, Bool.true_and, Bool.and_self, beq_dec, fApp, Int.toNat_natCast, Nat.sub_zero, vmI, e1, e2, b_rem h70, b_rem h90, hm7, hm9]
      exact fin (N % 100) hq _ _ _ _ _ _ _ _ _ _ _ _ _ _
  · simp (disch := omega) only [vm0, vm1, vm2, vm3, vm4, vm5, vm6, vm7, fPick, fBox, fBuild, fBsl, fLd, fLda, fSt, fNilc, fBin, fEq, fUn, fMkf, fFa, fFld, fFlda, fExt, evo, wr, wrC, frame, Bool.not_true, Bool.not_false, beq_self_eq_true, List.cons_append, List.nil_append, Nat.add_zero, Nat.zero_add, Nat.reduceAdd, Nat.reduceMul, Nat.reduceSub, Bool.and_true, Bool.true_and, Bool.and_self, beq_dec, fApp, Int.toNat_natCast, Nat.sub_zero, vmI, vc6_2]
    refine call_ok rfl rfl (r_byte (n + 3) s p r _ hS hr) ?_
    rintro y s1 ⟨rfl, hS1⟩
    simp (disch := omega) only [vm0, vm1, vm2, vm3, vm4, vm5, vm6, vm7, fPick, fBox, fBuild, fBsl, fLd, fLda, fSt, fNilc, fBin, fEq, fUn, fMkf, fFa, fFld, fFlda, fExt, evo, wr, wrC, frame, Bool.not_true, Bool.not_false, beq_self_eq_true, List.cons_append, List.nil_append, Nat.add_zero, Nat.zero_add, Nat.reduceAdd, Nat.reduceMul, Nat.reduceSub, Bool.and_true, Bool.true_and, Bool.and_self, beq_dec, fApp, Int.toNat_natCast, Nat.sub_zero, vmI]
    refine call_ok rfl rfl (x_byte (n + 3) s1 q r _ hS1.swap hr) ?_
    rintro y s2 ⟨rfl, hS2⟩
    simp (disch := omega) only [vm0, vm1, vm2, vm3, vm4, vm5, vm6, vm7, fPick, fBox, fBuild, fBsl, fLd, fLda, fSt, fNilc, fBin, fEq, fUn, fMkf, fFa, fFld, fFlda, fExt, evo, wr, wrC, frame, Bool.not_true, Bool.not_false, beq_self_eq_true, List.cons_append, List.nil_append, Nat.add_zero, Nat.zero_add, Nat.reduceAdd, Nat.reduceMul, Nat.reduceSub, Bool.and_true, Bool.true_and, Bool.and_self, beq_dec, fApp, Int.toNat_natCast, Nat.sub_zero, vmI]
    exact ⟨rfl, r.byte.2, hr.byte.1, hr.byte.2.trans hrB, hS2.swap, _, _, _, _, _, _, _, _, _, _, _, _, _, _, _, rfl⟩
end
end Go.Proofs.Ytekhpohcjfjhfab.ctr
namespace Go.Proofs.Ytekhpohcjfjhfab.ctr
open Go Go.Vm Go.RowKit
set_option linter.unusedVariables false
set_option linter.constructorNameAsVariable false
set_option linter.unusedSimpArgs false
section
variable {bd : Bd} {fu : Nat}
theorem sr_check (n : Nat) {s0 : St} (s : St) (bv v1 v2 v3 : AV) (raw : Bool) (L : List Int) (r : RD) (p q b i : Nat) (z7 z9 z10 z12 z13 z14 z15 z16 z17 z18 z19 z20 z21 z22 z23 z24 : Option AV) (hr : r.Ok) (hrB : r.B = L) (hb : RdE s0 bv 1 encB L)
    (hS : Sep s0 s [oR p r, oR q r, oC b (lentC L)]) (hfu : L.length + 4000 < fu) :
    RsOk (exec bd (callF bd tab.get fu (n + 5)) fu vc6_3 [some bv, some v1, some v2, some v3, some (.bool raw), some (.ptr p 0), some (num (i : Int)), z7, some (.ptr q 0), z9, z10, some (.sl b 0 L.length (L.length + 3) true 1), z12, z13, z14, z15, z16, z17, z18, z19, z20, z21, z22, z23, z24, some (.bool false)] s) (fun e F s' => e = .normal ∧ Sep s0 s' [oR p r, oR q r, oC b (lentC L)] ∧ ∃ z7 z9 z10 z12 z13 z14 z15 z16 z17 z18 z19 z20 z21 z22 z23 z24, F = [some bv, some v1, some v2, some v3, some (.bool raw), some (.ptr p 0), some (num (i : Int)), z7, some (.ptr q 0), z9, z10, some (.sl b 0 L.length (L.length + 3) true 1), z12, z13, z14, z15, z16, z17, z18, z19, z20, z21, z22, z23, z24, some (.bool false)]) := by
  obtain ⟨v, gq⟩ := Sep.getR (((hS.re ((List.perm_middle (l₁ := [_])).trans (.cons _ (.refl _))))))
  have hl := (hb.fr0 hS.frm).lenV
  have ha := hr.a
  rw [← hrB] at hl
  have hLb := hr.l
  simp (disch := omega) only [vm0, vm1, vm2, vm3, vm4, vm5, vm6, vm7, fPick, fBox, fBuild, fBsl, fLd, fLda, fSt, fNilc, fBin, fEq, fUn, fMkf, fFa, fFld, fFlda, fExt, evo, wr, wrC, frame, Bool.not_true, Bool.not_false, beq_self_eq_true, List.cons_append, List.nil_append, Nat.add_zero, Nat.zero_add, Nat.reduceAdd, Nat.reduceMul, Nat.reduceSub, Bool.and_true, Bool.true_and, Bool.and_self, beq_dec, fApp, Int.toNat_natCast, Nat.sub_zero, vmI, vc6_3]
  refine call_ok rfl rfl (r_at (n + 4) s p r _ hS) ?_
  rintro y s1 ⟨rfl, rfl⟩
  simp (disch := omega) only [vm0, vm1, vm2, vm3, vm4, vm5, vm6, vm7, fPick, fBox, fBuild, fBsl, fLd, fLda, fSt, fNilc, fBin, fEq, fUn, fMkf, fFa, fFld, fFlda, fExt, evo, wr, wrC, frame, Bool.not_true, Bool.not_false, beq_self_eq_true, List.cons_append, List.nil_append, Nat.add_zero, Nat.zero_add, Nat.reduceAdd, Nat.reduceMul, Nat.reduceSub, Bool.and_true, Bool.true_and, Bool.and_self, beq_dec, fApp, Int.toNat_natCast, Nat.sub_zero, vmI, gq]
  refine call_ok rfl rfl (r_left (n + 4) s1 p r _ hS hr) ?_
  rintro y s1 ⟨rfl, rfl⟩
  simp (disch := omega) only [vm0, vm1, vm2, vm3, vm4, vm5, vm6, vm7, fPick, fBox, fBuild, fBsl, fLd, fLda, fSt, fNilc, fBin, fEq, fUn, fMkf, fFa, fFld, fFlda, fExt, evo, wr, wrC, frame, Bool.not_true, Bool.not_false, beq_self_eq_true, List.cons_append, List.nil_append, Nat.add_zero, Nat.zero_add, Nat.reduceAdd, Nat.reduceMul, Nat.reduceSub, Bool.and_true, Bool.true_and, Bool.and_self, beq_dec, fApp, Int.toNat_natCast, Nat.sub_zero, vmI, gq, hl]
  refine call_ok rfl rfl (r_bad (n + 4) s1 p r _ hS) ?_
  rintro y s1 ⟨rfl, rfl⟩
  simp (disch := omega) only [vm0, vm1, vm2, vm3, vm4, vm5, vm6, vm7, fPick, fBox, fBuild, fBsl, fLd, fLda, fSt, fNilc, fBin, fEq, fUn, fMkf, fFa, fFld, fFlda, fExt, evo, wr, wrC, frame, Bool.not_true, Bool.not_false, beq_self_eq_true, List.cons_append, List.nil_append, Nat.add_zero, Nat.zero_add, Nat.reduceAdd, Nat.reduceMul, Nat.reduceSub, Bool.and_true, Bool.true_and, Bool.and_self, beq_dec, fApp, Int.toNat_natCast, Nat.sub_zero, vmI, gq, hl]
  exact ⟨trivial, hS, _, _, _, _, _, _, _, _, _, _, _, _, _, _, _, _, rfl⟩
theorem sr_round (n : Nat) {s0 : St} (s : St) (bv v1 v2 v3 : AV) (raw : Bool) (L l3 : List Int) (r : RD) (p q b i : Nat) (N : Int) (z7 z9 z10 z12 z13 z14 z15 z16 z17 z18 z19 z20 z21 z22 z23 z24 : Option AV) (hr : r.Ok) (hrB : r.B = L) (hb : RdE s0 bv 1 encB L) (hv3 : RdE s0 v3 1 Vm.encI l3) (hN : l3[i]? = some N) (hN64 : In64 N)
    (hS : Sep s0 s [oR p r, oR q r, oC b (lentC L)]) (hfu : L.length + 4000 < fu) :
    RsOk (exec bd (callF bd tab.get fu (n + 5)) fu vc6_4 [some bv, some v1, some v2, some v3, some (.bool raw), some (.ptr p 0), some (num (i : Int)), z7, some (.ptr q 0), z9, z10, some (.sl b 0 L.length (L.length + 3) true 1), z12, z13, z14, z15, z16, z17, z18, z19, z20, z21, z22, z23, z24, some (.bool false)] s) (fun e F s' => e = .normal ∧ ∃ r : RD, r.Ok ∧ r.B = L ∧ Sep s0 s' [oR p r, oR q r, oC b (lentC L)] ∧ ∃ z7 z9 z10 z12 z13 z14 z15 z16 z17 z18 z19 z20 z21 z22 z23 z24, F = [some bv, some v1, some v2, some v3, some (.bool raw), some (.ptr p 0), some (num (i : Int)), z7, some (.ptr q 0), z9, z10, some (.sl b 0 L.length (L.length + 3) true 1), z12, z13, z14, z15, z16, z17, z18, z19, z20, z21, z22, z23, z24, some (.bool false)]) := by
  have e1 := (hv3.fr0 hS.frm).ia hN
  have e2 := (hv3.fr0 hS.frm).at1 (f := num) hN
  simp (disch := omega) only [vm0, vm1, vm2, vm3, vm4, vm5, vm6, vm7, fPick, fBox, fBuild, fBsl, fLd, fLda, fSt, fNilc, fBin, fEq, fUn, fMkf, fFa, fFld, fFlda, fExt, evo, wr, wrC, frame, Bool.not_true, Bool.not_false, beq_self_eq_true, List.cons_append, List.nil_append, Nat.add_zero, Nat.zero_add, Nat.reduceAdd, Nat.reduceMul, Nat.reduceSub, Bool.and_true, Bool.true_and, Bool.and_self, beq_dec, fApp, Int.toNat_natCast, Nat.sub_zero, vmI, vc6_4, e1, e2]
  refine call_ok rfl rfl (withinP (n + 4) s N 4 hN64 (by omega) (by omega)) ?_
  rintro y s1 ⟨rfl, rfl⟩
  simp (disch := omega) only [vm0, vm1, vm2, vm3, vm4, vm5, vm6, vm7, fPick, fBox, fBuild, fBsl, fLd, fLda, fSt, fNilc, fBin, fEq, fUn, fMkf, fFa, fFld, fFlda, fExt, evo, wr, wrC, frame, Bool.not_true, Bool.not_false, beq_self_eq_true, List.cons_append, List.nil_append, Nat.add_zero, Nat.zero_add, Nat.reduceAdd, Nat.reduceMul, Nat.reduceSub, Bool.and_true, Bool.true_and, Bool.and_self, beq_dec, fApp, Int.toNat_natCast, Nat.sub_zero, vmI]
  refine (sr_act n s1 bv v1 v2 v3 raw L l3 r p q b i (N % 4) N _ _ _ _ _ _ _ _ _ _ _ _ _ _ _ hr hrB (by omega) hv3 hN hN64 hS hfu).mono ?_
  rintro e F s2 ⟨rfl, r', hr', hrB', hS2, z7, z9, z12, z13, z14, z15, z16, z17, z18, z19, z20, z21, z22, z23, z24, rfl⟩
  simp (disch := omega) only [vm0, vm1, vm2, vm3, vm4, vm5, vm6, vm7, fPick, fBox, fBuild, fBsl, fLd, fLda, fSt, fNilc, fBin, fEq, fUn, fMkf, fFa, fFld, fFlda, fExt, evo, wr, wrC, frame, Bool.not_true, Bool.not_false, beq_self_eq_true, List.cons_append, List.nil_append, Nat.add_zero, Nat.zero_add, Nat.reduceAdd, Nat.reduceMul, Nat.reduceSub, Bool.and_true, Bool.true_and, Bool.and_self, beq_dec, fApp, Int.toNat_natCast, Nat.sub_zero, vmI]
  refine (sr_check n s2 bv v1 v2 v3 raw L r' p q b i _ _ _ _ _ _ _ _ _ _ _ _ _ _ _ _ hr' hrB' hb hS2 hfu).mono ?_
  rintro e F s3 ⟨rfl, hS3, z7, z9, z10, z12, z13, z14, z15, z16, z17, z18, z19, z20, z21, z22, z23, z24, rfl⟩
  exact ⟨rfl, r', hr', hrB', hS3, _, _, _, _, _, _, _, _, _, _, _, _, _, _, _, _, rfl⟩
theorem sr_main (n : Nat) (s : St) (bv v1 v2 v3 : AV) (raw : Bool) (L l3 : List Int) (z5 z6 z7 z8 z9 z10 z11 z12 z13 z14 z15 z16 z17 z18 z19 z20 z21 z22 z23 z24 : Option AV) (hb : RdE s bv 1 encB L) (h8 : ∀ x ∈ L, In8 x) (hLl : L.length ≤ 140737488351232) (hv3 : RdE s v3 1 Vm.encI l3) (h3 : ∀ x ∈ l3, In64 x) (hfu : L.length + 4000 < fu) :
    RsOk (exec bd (callF bd tab.get fu (n + 5)) fu vc6_7 [some bv, some v1, some v2, some v3, some (.bool raw), z5, z6, z7, z8, z9, z10, z11, z12, z13, z14, z15, z16, z17, z18, z19, z20, z21, z22, z23, z24, some (.bool false)] s) (retQ [.tmp 25] fun x s' => Is x (.bool true)) := by
  simp (disch := omega) only [vm0, vm1, vm2, vm3, vm4, vm5, vm6, vm7, fPick, fBox, fBuild, fBsl, fLd, fLda, fSt, fNilc, fBin, fEq, fUn, fMkf, fFa, fFld, fFlda, fExt, evo, wr, wrC, frame, Bool.not_true, Bool.not_false, beq_self_eq_true, List.cons_append, List.nil_append, Nat.add_zero, Nat.zero_add, Nat.reduceAdd, Nat.reduceMul, Nat.reduceSub, Bool.and_true, Bool.true_and, Bool.and_self, beq_dec, fApp, Int.toNat_natCast, Nat.sub_zero, vmI, vc6_7]
  refine call_ok rfl rfl (lend (n + 4) s bv L hb (by omega) (by omega)) ?_
  rintro y s1 ⟨b, rfl, w1, w2, w3, w4⟩
  have hS1 := Sep.push (Sep.nil (s := s)) (P := oC b (lentC L)) (f := [b]) ⟨w1, w3, rfl⟩ w4 (by intro z hz; simp at hz; subst hz; exact .inr w2)
  simp (disch := omega) only [vm0, vm1, vm2, vm3, vm4, vm5, vm6, vm7, fPick, fBox, fBuild, fBsl, fLd, fLda, fSt, fNilc, fBin, fEq, fUn, fMkf, fFa, fFld, fFlda, fExt, evo, wr, wrC, frame, Bool.not_true, Bool.not_false, beq_self_eq_true, List.cons_append, List.nil_append, Nat.add_zero, Nat.zero_add, Nat.reduceAdd, Nat.reduceMul, Nat.reduceSub, Bool.and_true, Bool.true_and, Bool.and_self, beq_dec, fApp, Int.toNat_natCast, Nat.sub_zero, vmI]
  refine call_ok rfl rfl (r_new (n + 3) s1 _ _ L hS1 (lent_rd w1 w3) hLl) ?_
  rintro y s2 ⟨p, rfl, hS2⟩
  simp (disch := omega) only [vm0, vm1, vm2, vm3, vm4, vm5, vm6, vm7, fPick, fBox, fBuild, fBsl, fLd, fLda, fSt, fNilc, fBin, fEq, fUn, fMkf, fFa, fFld, fFlda, fExt, evo, wr, wrC, frame, Bool.not_true, Bool.not_false, beq_self_eq_true, List.cons_append, List.nil_append, Nat.add_zero, Nat.zero_add, Nat.reduceAdd, Nat.reduceMul, Nat.reduceSub, Bool.and_true, Bool.true_and, Bool.and_self, beq_dec, fApp, Int.toNat_natCast, Nat.sub_zero, vmI]
  refine call_ok rfl rfl (copyB (n + 4) s2 bv L (hb.fr0 hS2.frm) (by omega)) ?_
  rintro y s3 ⟨fo, k1, k2, k3⟩
  have hS3 := hS2.push (P := oW y 1 encB L) k1 k2 k3
  have hyc : y.cells = some [y] := by
    have := k1.rd.rd.sl
    cases y <;> first | rfl | exact this.elim
  simp (disch := omega) only [vm0, vm1, vm2, vm3, vm4, vm5, vm6, vm7, fPick, fBox, fBuild, fBsl, fLd, fLda, fSt, fNilc, fBin, fEq, fUn, fMkf, fFa, fFld, fFlda, fExt, evo, wr, wrC, frame, Bool.not_true, Bool.not_false, beq_self_eq_true, List.cons_append, List.nil_append, Nat.add_zero, Nat.zero_add, Nat.reduceAdd, Nat.reduceMul, Nat.reduceSub, Bool.and_true, Bool.true_and, Bool.and_self, beq_dec, fApp, Int.toNat_natCast, Nat.sub_zero, vmI, hyc]
  obtain ⟨f, ko, up⟩ := hS3.hd
  have ko : OwE s3 y 1 encB L f := ko
  have hlt : s3.next ∉ f := fun hm => by have := ko.lt _ hm; omega
  have hS4 := up (oR s3.next ⟨L, 0, false⟩) (s' := s3.new (.cells [y, num 0, .bool false] .own)) (f' := s3.next :: f) ⟨y, f, get_new_eq rfl, ko.fr0 .new, hlt, rfl, by rw [next_new]; omega⟩ .new (fun z hz => by rcases List.mem_cons.1 hz with rfl | hz; (· exact .inr (Nat.le_refl _)); (· exact .inl hz))
  generalize s3.new (.cells [y, num 0, .bool false] .own) = s4 at *
  generalize s3.next = q at *
  have ok0 : RD.Ok ⟨L, 0, false⟩ := ⟨⟨by dsimp only; omega, by dsimp only; omega⟩, h8, hLl⟩
  refine x_loop (fun m F s' => ∃ (i : Nat) (r : RD), m = 20 - i ∧ i ≤ 20 ∧ r.Ok ∧ r.B = L ∧ Sep s s' [oR p r, oR q r, oC b (lentC L)] ∧ ∃ z7 z9 z10 z12 z13 z14 z15 z16 z17 z18 z19 z20 z21 z22 z23 z24, F = [some bv, some v1, some v2, some v3, some (.bool raw), some (.ptr p 0), some (num (i : Int)), z7, some (.ptr q 0), z9, z10, some (.sl b 0 L.length (L.length + 3) true 1), z12, z13, z14, z15, z16, z17, z18, z19, z20, z21, z22, z23, z24, some (.bool false)]) 20 (by omega) ?_ ?_
  · exact ⟨0, ⟨L, 0, false⟩, by omega, by omega, ok0, rfl, ((hS4.re ((List.perm_middle (l₁ := [_])).trans (.cons _ (.refl _))))), _, _, _, _, _, _, _, _, _, _, _, _, _, _, _, _, rfl⟩
  · rintro m F s5 ⟨i, r, rfl, hi, hr, hrB, hS5, z7, z9, z10, z12, z13, z14, z15, z16, z17, z18, z19, z20, z21, z22, z23, z24, rfl⟩ hm
    have e3 := (hv3.fr0 hS5.frm).lenV
    have fin : ∀ (z7 z9 z10 z12 z13 z14 z15 z16 z17 z18 z19 z20 z21 z22 z23 z24 : Option AV), RsOk (exec bd (callF bd tab.get fu (n + 5)) fu vc6_6 [some bv, some v1, some v2, some v3, some (.bool raw), some (.ptr p 0), some (num (i : Int)), z7, some (.ptr q 0), z9, z10, some (.sl b 0 L.length (L.length + 3) true 1), z12, z13, z14, z15, z16, z17, z18, z19, z20, z21, z22, z23, z24, some (.bool false)] s5) (retQ [.tmp 25] fun x s' => Is x (.bool true)) := by
      intro z7 z9 z10 z12 z13 z14 z15 z16 z17 z18 z19 z20 z21 z22 z23 z24
      have hb5 := hb.fr0 hS5.frm
      obtain ⟨_, ⟨w5, w6, _⟩, _⟩ := (((hS5.re ((List.perm_middle (l₁ := [_, _])).trans (.cons _ (.refl _)))))).hd
      simp (disch := omega) only [vm0, vm1, vm2, vm3, vm4, vm5, vm6, vm7, fPick, fBox, fBuild, fBsl, fLd, fLda, fSt, fNilc, fBin, fEq, fUn, fMkf, fFa, fFld, fFlda, fExt, evo, wr, wrC, frame, Bool.not_true, Bool.not_false, beq_self_eq_true, List.cons_append, List.nil_append, Nat.add_zero, Nat.zero_add, Nat.reduceAdd, Nat.reduceMul, Nat.reduceSub, Bool.and_true, Bool.true_and, Bool.and_self, beq_dec, fApp, Int.toNat_natCast, Nat.sub_zero, vmI, vc6_6]
      refine call_ok rfl rfl (intact (n + 4) s5 bv L b hb5 (by omega) w5 w6 (by omega)) ?_
      rintro y s6 ⟨rfl, rfl⟩
      simp (disch := omega) only [vm0, vm1, vm2, vm3, vm4, vm5, vm6, vm7, fPick, fBox, fBuild, fBsl, fLd, fLda, fSt, fNilc, fBin, fEq, fUn, fMkf, fFa, fFld, fFlda, fExt, evo, wr, wrC, frame, Bool.not_true, Bool.not_false, beq_self_eq_true, List.cons_append, List.nil_append, Nat.add_zero, Nat.zero_add, Nat.reduceAdd, Nat.reduceMul, Nat.reduceSub, Bool.and_true, Bool.true_and, Bool.and_self, beq_dec, fApp, Int.toNat_natCast, Nat.sub_zero, vmI]
      refine call_ok rfl rfl (pack (n + 2) s6 bv L hb5 hLl (by omega)) ?_
      rintro t s7 ⟨f1, a1, a2, a3⟩
      simp (disch := omega) only [vm0, vm1, vm2, vm3, vm4, vm5, vm6, vm7, fPick, fBox, fBuild, fBsl, fLd, fLda, fSt, fNilc, fBin, fEq, fUn, fMkf, fFa, fFld, fFlda, fExt, evo, wr, wrC, frame, Bool.not_true, Bool.not_false, beq_self_eq_true, List.cons_append, List.nil_append, Nat.add_zero, Nat.zero_add, Nat.reduceAdd, Nat.reduceMul, Nat.reduceSub, Bool.and_true, Bool.true_and, Bool.and_self, beq_dec, fApp, Int.toNat_natCast, Nat.sub_zero, vmI]
      refine call_ok rfl rfl (u_wrap (n + 2) s7 bv L (hb5.fr0 a2) hLl (by omega)) ?_
      rintro u s8 ⟨f2, d1, d2, d3⟩
      have hpl := putV_len (L.length : Int)
      have hsz : sizeV (L.length : Int) ≤ 8 := by rcases sizeV_in (L.length : Int) with h | h | h | h | h <;> omega
      simp (disch := omega) only [vm0, vm1, vm2, vm3, vm4, vm5, vm6, vm7, fPick, fBox, fBuild, fBsl, fLd, fLda, fSt, fNilc, fBin, fEq, fUn, fMkf, fFa, fFld, fFlda, fExt, evo, wr, wrC, frame, Bool.not_true, Bool.not_false, beq_self_eq_true, List.cons_append, List.nil_append, Nat.add_zero, Nat.zero_add, Nat.reduceAdd, Nat.reduceMul, Nat.reduceSub, Bool.and_true, Bool.true_and, Bool.and_self, beq_dec, fApp, Int.toNat_natCast, Nat.sub_zero, vmI]
      refine call_ok rfl rfl (sameB (n + 4) s8 t u _ _ (a1.rd.fr0 d2) d1.rd (by rw [List.length_append]; omega) (by rw [List.length_append]; omega)) ?_
      rintro z s9 ⟨rfl, rfl⟩
      have hde : decide (putV (L.length : Int) ++ L = putV (L.length : Int) ++ L) = true := by simp
      rw [hde]
      simp (disch := omega) only [vm0, vm1, vm2, vm3, vm4, vm5, vm6, vm7, fPick, fBox, fBuild, fBsl, fLd, fLda, fSt, fNilc, fBin, fEq, fUn, fMkf, fFa, fFld, fFlda, fExt, evo, wr, wrC, frame, Bool.not_true, Bool.not_false, beq_self_eq_true, List.cons_append, List.nil_append, Nat.add_zero, Nat.zero_add, Nat.reduceAdd, Nat.reduceMul, Nat.reduceSub, Bool.and_true, Bool.true_and, Bool.and_self, beq_dec, fApp, Int.toNat_natCast, Nat.sub_zero, vmI]
      refine call_ok rfl rfl (wakes04 (n + 1) s9 (by omega)) ?_
      rintro z s10 rfl
      simp (disch := omega) only [vm0, vm1, vm2, vm3, vm4, vm5, vm6, vm7, fPick, fBox, fBuild, fBsl, fLd, fLda, fSt, fNilc, fBin, fEq, fUn, fMkf, fFa, fFld, fFlda, fExt, evo, wr, wrC, frame, Bool.not_true, Bool.not_false, beq_self_eq_true, List.cons_append, List.nil_append, Nat.add_zero, Nat.zero_add, Nat.reduceAdd, Nat.reduceMul, Nat.reduceSub, Bool.and_true, Bool.true_and, Bool.and_self, beq_dec, fApp, Int.toNat_natCast, Nat.sub_zero, vmI]
      rfl
    by_cases hl : i < l3.length
    · by_cases h20 : i < 20
      · obtain ⟨N, hN⟩ : ∃ N, l3[i]? = some N := ⟨_, List.getElem?_eq_getElem hl⟩
        simp (disch := omega) only [vm0, vm1, vm2, vm3, vm4, vm5, vm6, vm7, fPick, fBox, fBuild, fBsl, fLd, fLda, fSt, fNilc, fBin, fEq, fUn, fMkf, fFa, fFld, fFlda, fExt, evo, wr, wrC, frame, Bool.not_true, Bool.not_false, beq_self_eq_true, List.cons_append, List.nil_append, Nat.add_zero, Nat.zero_add, Nat.reduceAdd, Nat.reduceMul, Nat.reduceSub, Bool.and_true, Bool.true_and, Bool.and_self, beq_dec, fApp, Int.toNat_natCast, Nat.sub_zero, vmI, vc6_5, e3]
        refine (sr_round n s5 bv v1 v2 v3 raw L l3 r p q b i N _ _ _ _ _ _ _ _ _ _ _ _ _ _ _ _ hr hrB hb hv3 hN (h3 N (List.mem_of_getElem? hN)) hS5 hfu).mono ?_
        rintro e F s6 ⟨rfl, r', hr', hrB', hS6, z7, z9, z10, z12, z13, z14, z15, z16, z17, z18, z19, z20, z21, z22, z23, z24, rfl⟩
        simp (disch := omega) only [vm0, vm1, vm2, vm3, vm4, vm5, vm6, vm7, fPick, fBox, fBuild, fBsl, fLd, fLda, fSt, fNilc, fBin, fEq, fUn, fMkf, fFa, fFld, fFlda, fExt, evo, wr, wrC, frame, Bool.not_true, Bool.not_false, beq_self_eq_true, List.cons_append, List.nil_append, Nat.add_zero, Nat.zero_add, Nat.reduceAdd, Nat.reduceMul, Nat.reduceSub, Bool.and_true, Bool.true_and, Bool.and_self, beq_dec, fApp, Int.toNat_natCast, Nat.sub_zero, vmI]
        exact ⟨20 - (i + 1), by omega, i + 1, r', rfl, by omega, hr', hrB', hS6, _, _, _, _, _, _, _, _, _, _, _, _, _, _, _, _, rfl⟩
      · simp (disch := omega) only [vm0, vm1, vm2, vm3, vm4, vm5, vm6, vm7, fPick, fBox, fBuild, fBsl, fLd, fLda, fSt, fNilc, fBin, fEq, fUn, fMkf, fFa, fFld, fFlda, fExt, evo, wr, wrC, frame, Bool.not_true, Bool.not_false, beq_self_eq_true, List.cons_append, List.nil_append, Nat.add_zero, Nat.zero_add, Nat.reduceAdd, Nat.reduceMul, Nat.reduceSub, Bool.and_true, Bool.true_and, Bool.and_self, beq_dec, fApp, Int.toNat_natCast, Nat.sub_zero, vmI, vc6_5, e3]
        exact fin _ _ _ _ _ _ _ _ _ _ _ _ _ _ _ _
    · simp (disch := omega) only [vm0, vm1, vm2, vm3, vm4, vm5, vm6, vm7, fPick, fBox, fBuild, fBsl, fLd, fLda, fSt, fNilc, fBin, fEq, fUn, fMkf, fFa, fFld, fFlda, fExt, evo, wr, wrC, frame, Bool.not_true, Bool.not_false, beq_self_eq_true, List.cons_append, List.nil_append, Nat.add_zero, Nat.zero_add, Nat.reduceAdd, Nat.reduceMul, Nat.reduceSub, Bool.and_true, Bool.true_and, Bool.and_self, beq_dec, fApp, Int.toNat_natCast, Nat.sub_zero, vmI, vc6_5, e3]
      exact fin _ _ _ _ _ _ _ _ _ _ _ _ _ _ _ _
end
end Go.Proofs.Ytekhpohcjfjhfab.ctr
namespace Go.Proofs.Ytekhpohcjfjhfab.ctr
open Go Go.Vm Go.RowKit
set_option linter.unusedVariables false
set_option linter.constructorNameAsVariable false
set_option linter.unusedSimpArgs false
noncomputable def yr6 : VC := (.reg [.i (.call (.c (.fn 22 [] [])) [(.w 0), (.c (.int .i64 (.c 4)))]), .i (.app 1 1 (.w 9) (.t 0))] [(0, (.t 0))])
theorem vc6_eqr : vc6 = (.seq (.reg [] [(25, (.c (.bool false)))]) (.seq (.seq (.reg [.i (.un .not (.w 4))] [(14, (.t 0))]) (.cond (.w 14) (.seq (.reg [] [(9, (.c (.nils)))]) (.seq (.seq (.reg [] [(7, (.c (.int .i64 (.c 0))))]) (.block 0 (.loop vc6_1))) yr6)) .skip)) vc6_7)) := rfl
section
variable {bd : Bd} {fu : Nat}
theorem sr_write (n : Nat) {s0 : St} (s : St) (bv v1 v2 v3 cv : AV) (raw : Bool) (l1 : List Int) (l2 : List A13) (W : List Int) (k : Nat) (z15 z16 : Option AV) (hv1 : RdE s0 v1 1 Vm.encI l1) (hv2 : RdE s0 v2 1 encL l2) (h1 : ∀ x ∈ l1, In64 x) (h2 : ∀ x ∈ l2, RdE s0 x.u 1 encB x.b ∧ ∀ y ∈ x.b, In8 y)
    (hk : k < l1.length) (hW : W.length ≤ 1000) (h8 : ∀ x ∈ W, In8 x) (hS : Sep s0 s [oW cv 1 encB W]) (hfu : 4000 < fu) :
    RsOk (exec bd (callF bd tab.get fu (n + 5)) fu vc6_0 [some bv, some v1, some v2, some v3, some (.bool raw), none, none, some (num (k : Int)), none, some cv, none, none, none, none, some (.bool true), z15, z16, none, none, none, none, none, none, none, none, some (.bool false)] s) (fun e F s' => e = .normal ∧ ∃ (cv : AV) (W' : List Int), W'.length ≤ W.length + 90 ∧ (∀ x ∈ W', In8 x) ∧ Sep s0 s' [oW cv 1 encB W'] ∧ ∃ z15 z16, F = [some bv, some v1, some v2, some v3, some (.bool raw), none, none, some (num (k : Int)), none, some cv, none, none, none, none, some (.bool true), z15, z16, none, none, none, none, none, none, none, none, some (.bool false)]) := by
  obtain ⟨x, hx⟩ : ∃ x, l1[k]? = some x := ⟨_, List.getElem?_eq_getElem hk⟩
  have e1 := (hv1.fr0 hS.frm).ia hx
  have e2 := (hv1.fr0 hS.frm).at1 (f := num) hx
  have hx64 := h1 x (List.mem_of_getElem? hx)
  have e3 := (hv2.fr0 hS.frm).lenV
  simp (disch := omega) only [vm0, vm1, vm2, vm3, vm4, vm5, vm6, vm7, fPick, fBox, fBuild, fBsl, fLd, fLda, fSt, fNilc, fBin, fEq, fUn, fMkf, fFa, fFld, fFlda, fExt, evo, wr, wrC, frame, Bool.not_true, Bool.not_false, beq_self_eq_true, List.cons_append, List.nil_append, Nat.add_zero, Nat.zero_add, Nat.reduceAdd, Nat.reduceMul, Nat.reduceSub, Bool.and_true, Bool.true_and, Bool.and_self, beq_dec, fApp, Int.toNat_natCast, Nat.sub_zero, vmI, vc6_0, e1, e2]
  refine call_ok rfl rfl (withinP (n + 4) s x 1073741824 hx64 (by omega) (by omega)) ?_
  rintro y s1 ⟨rfl, rfl⟩
  have hm0 : 0 ≤ x % 1073741824 ∧ x % 1073741824 < 1073741824 := by omega
  generalize x % 1073741824 = m at *
  simp (disch := omega) only [vm0, vm1, vm2, vm3, vm4, vm5, vm6, vm7, fPick, fBox, fBuild, fBsl, fLd, fLda, fSt, fNilc, fBin, fEq, fUn, fMkf, fFa, fFld, fFlda, fExt, evo, wr, wrC, frame, Bool.not_true, Bool.not_false, beq_self_eq_true, List.cons_append, List.nil_append, Nat.add_zero, Nat.zero_add, Nat.reduceAdd, Nat.reduceMul, Nat.reduceSub, Bool.and_true, Bool.true_and, Bool.and_self, beq_dec, fApp, Int.toNat_natCast, Nat.sub_zero, vmI]
  refine call_ok rfl rfl (w_put (n + 3) s1 m ⟨by omega, by omega⟩ (by omega)) ?_
  rintro p s2 ⟨fp, q1, q2, q3⟩
  have hpl := putV_len m
  have hsz : sizeV m ≤ 8 := by rcases sizeV_in m with h | h | h | h | h <;> omega
  have hS2 := hS.push (P := oW p 1 encB (putV m)) q1 q2 q3
  have k4 := q1.rd.lenOf
  have k5 := q1.rd.cellsOf
  obtain ⟨fo, ho, up⟩ := (((hS2.re ((List.perm_middle (l₁ := [_])).trans (.cons _ (.refl _)))))).hd
  simp (disch := omega) only [vm0, vm1, vm2, vm3, vm4, vm5, vm6, vm7, fPick, fBox, fBuild, fBsl, fLd, fLda, fSt, fNilc, fBin, fEq, fUn, fMkf, fFa, fFld, fFlda, fExt, evo, wr, wrC, frame, Bool.not_true, Bool.not_false, beq_self_eq_true, List.cons_append, List.nil_append, Nat.add_zero, Nat.zero_add, Nat.reduceAdd, Nat.reduceMul, Nat.reduceSub, Bool.and_true, Bool.true_and, Bool.and_self, beq_dec, fApp, Int.toNat_natCast, Nat.sub_zero, vmI, k4, k5]
  refine op_app (show OwE s2 cv 1 encB W fo from ho) .refl (new := putV m) rfl rfl (by omega) ?_
  intro c2 s3 f2 r1 r2 r3
  have hS3 := (((hS2.re ((List.perm_middle (l₁ := [_])).trans (.cons _ (.refl _))))))
  have hS3 := up (oW c2 1 encB (W ++ putV m)) r1 r2 r3
  have h8a : ∀ x ∈ W ++ putV m, In8 x := fun x hx => by
    rcases List.mem_append.1 hx with hx | hx
    · exact h8 x hx
    · exact putV_in _ x hx
  have hla : (W ++ putV m).length ≤ W.length + 8 := by rw [List.length_append]; omega
  generalize W ++ putV m = W1 at *
  by_cases hk2 : k < l2.length
  · obtain ⟨y, hy⟩ : ∃ y, l2[k]? = some y := ⟨_, List.getElem?_eq_getElem hk2⟩
    obtain ⟨hyr, hy8⟩ := h2 y (List.mem_of_getElem? hy)
    have kk := hv2.fr0 hS3.frm
    have e4 := kk.ia hy
    have e5 := kk.fld0 hy (c := y.u) rfl
    simp (disch := omega) only [vm0, vm1, vm2, vm3, vm4, vm5, vm6, vm7, fPick, fBox, fBuild, fBsl, fLd, fLda, fSt, fNilc, fBin, fEq, fUn, fMkf, fFa, fFld, fFlda, fExt, evo, wr, wrC, frame, Bool.not_true, Bool.not_false, beq_self_eq_true, List.cons_append, List.nil_append, Nat.add_zero, Nat.zero_add, Nat.reduceAdd, Nat.reduceMul, Nat.reduceSub, Bool.and_true, Bool.true_and, Bool.and_self, beq_dec, fApp, Int.toNat_natCast, Nat.sub_zero, vmI, e3, e4, e5]
    refine call_ok rfl rfl (cutB (n + 3) s3 y.u y.b 70 (by omega) (by omega) (hyr.fr0 hS3.frm)) ?_
    rintro t s4 ⟨ft, c1, c2', c3⟩
    have ht : (y.b.take (70 : Int).toNat).length ≤ 70 := List.length_take_le _ _
    have ht8 : ∀ x ∈ y.b.take (70 : Int).toNat, In8 x := fun x hx => hy8 x (List.mem_of_mem_take hx)
    generalize y.b.take (70 : Int).toNat = T at *
    have hS4 := hS3.push (P := oW t 1 encB T) c1 c2' c3
    simp (disch := omega) only [vm0, vm1, vm2, vm3, vm4, vm5, vm6, vm7, fPick, fBox, fBuild, fBsl, fLd, fLda, fSt, fNilc, fBin, fEq, fUn, fMkf, fFa, fFld, fFlda, fExt, evo, wr, wrC, frame, Bool.not_true, Bool.not_false, beq_self_eq_true, List.cons_append, List.nil_append, Nat.add_zero, Nat.zero_add, Nat.reduceAdd, Nat.reduceMul, Nat.reduceSub, Bool.and_true, Bool.true_and, Bool.and_self, beq_dec, fApp, Int.toNat_natCast, Nat.sub_zero, vmI]
    refine call_ok rfl rfl (u_wrap (n + 2) s4 t T c1.rd (by omega) (by omega)) ?_
    rintro g s5 ⟨fg, d1, d2, d3⟩
    have hpl2 := putV_len (T.length : Int)
    have hsz2 : sizeV (T.length : Int) ≤ 8 := by rcases sizeV_in (T.length : Int) with h | h | h | h | h <;> omega
    have hgl : (putV (T.length : Int) ++ T).length ≤ 78 := by rw [List.length_append]; omega
    have hg8 : ∀ x ∈ putV (T.length : Int) ++ T, In8 x := fun x hx => by
      rcases List.mem_append.1 hx with hx | hx
      · exact putV_in _ x hx
      · exact ht8 x hx
    generalize putV (T.length : Int) ++ T = G at *
    have hS5 := hS4.push (P := oW g 1 encB G) d1 d2 d3
    have k6 := d1.rd.lenOf
    have k7 := d1.rd.cellsOf
    obtain ⟨fo2, ho2, up2⟩ := (((hS5.re ((List.perm_middle (l₁ := [_, _])).trans (.cons _ (.refl _)))))).hd
    simp (disch := omega) only [vm0, vm1, vm2, vm3, vm4, vm5, vm6, vm7, fPick, fBox, fBuild, fBsl, fLd, fLda, fSt, fNilc, fBin, fEq, fUn, fMkf, fFa, fFld, fFlda, fExt, evo, wr, wrC, frame, Bool.not_true, Bool.not_false, beq_self_eq_true, List.cons_append, List.nil_append, Nat.add_zero, Nat.zero_add, Nat.reduceAdd, Nat.reduceMul, Nat.reduceSub, Bool.and_true, Bool.true_and, Bool.and_self, beq_dec, fApp, Int.toNat_natCast, Nat.sub_zero, vmI, k6, k7]
    refine op_app (show OwE s5 c2 1 encB W1 fo2 from ho2) .refl (new := G) rfl rfl (by omega) ?_
    intro c4 s6 f4 r4 r5 r6
    have hS6 := up2 (oW c4 1 encB (W1 ++ G)) r4 r5 r6
    simp (disch := omega) only [vm0, vm1, vm2, vm3, vm4, vm5, vm6, vm7, fPick, fBox, fBuild, fBsl, fLd, fLda, fSt, fNilc, fBin, fEq, fUn, fMkf, fFa, fFld, fFlda, fExt, evo, wr, wrC, frame, Bool.not_true, Bool.not_false, beq_self_eq_true, List.cons_append, List.nil_append, Nat.add_zero, Nat.zero_add, Nat.reduceAdd, Nat.reduceMul, Nat.reduceSub, Bool.and_true, Bool.true_and, Bool.and_self, beq_dec, fApp, Int.toNat_natCast, Nat.sub_zero, vmI]
    refine ⟨trivial, c4, W1 ++ G, by rw [List.length_append]; omega, fun x hx => ?_, ((hS6.re ((List.perm_middle (l₁ := [_])).trans (.cons _ ((List.perm_middle (l₁ := [_])).trans (.cons _ ((List.perm_middle (l₁ := [_])).trans (.cons _ (.refl _)))))))).drop.drop.drop), _, _, rfl⟩
    rcases List.mem_append.1 hx with hx | hx
    · exact h8a x hx
    · exact hg8 x hx
  · simp (disch := omega) only [vm0, vm1, vm2, vm3, vm4, vm5, vm6, vm7, fPick, fBox, fBuild, fBsl, fLd, fLda, fSt, fNilc, fBin, fEq, fUn, fMkf, fFa, fFld, fFlda, fExt, evo, wr, wrC, frame, Bool.not_true, Bool.not_false, beq_self_eq_true, List.cons_append, List.nil_append, Nat.add_zero, Nat.zero_add, Nat.reduceAdd, Nat.reduceMul, Nat.reduceSub, Bool.and_true, Bool.true_and, Bool.and_self, beq_dec, fApp, Int.toNat_natCast, Nat.sub_zero, vmI, e3]
    exact ⟨trivial, c2, W1, by omega, h8a, ((hS3.re ((List.perm_middle (l₁ := [_])).trans (.cons _ (.refl _)))).drop), _, _, rfl⟩
theorem reads (n : Nat) (s : St) (bv v1 v2 v3 : AV) (raw : Bool) (L l1 l3 : List Int) (l2 : List A13) (hb : RdE s bv 1 encB L) (h8 : ∀ x ∈ L, In8 x) (hLl : L.length ≤ 140737488351232) (hv1 : RdE s v1 1 Vm.encI l1) (h1 : ∀ x ∈ l1, In64 x) (hv2 : RdE s v2 1 encL l2) (h2 : ∀ x ∈ l2, RdE s x.u 1 encB x.b ∧ ∀ y ∈ x.b, In8 y) (hv3 : RdE s v3 1 Vm.encI l3) (h3 : ∀ x ∈ l3, In64 x) (hfu : L.length + 6000 < fu) :
    OutOk (callF bd tab.get fu (n + 6) 6 [bv, v1, v2, v3, .bool raw] s) (fun x s' => Is x (.bool true)) := by
  refine call_code t6 rfl ?_
  cases raw
  · simp (disch := omega) only [vm0, vm1, vm2, vm3, vm4, vm5, vm6, vm7, fPick, fBox, fBuild, fBsl, fLd, fLda, fSt, fNilc, fBin, fEq, fUn, fMkf, fFa, fFld, fFlda, fExt, evo, wr, wrC, frame, Bool.not_true, Bool.not_false, beq_self_eq_true, List.cons_append, List.nil_append, Nat.add_zero, Nat.zero_add, Nat.reduceAdd, Nat.reduceMul, Nat.reduceSub, Bool.and_true, Bool.true_and, Bool.and_self, beq_dec, fApp, Int.toNat_natCast, Nat.sub_zero, vmI, vc6_eqr]
    refine x_loop (fun m F s' => ∃ (k : Nat) (cv : AV) (W : List Int), m = 6 - k ∧ k ≤ 6 ∧ W.length ≤ 90 * k ∧ (∀ x ∈ W, In8 x) ∧ Sep s s' [oW cv 1 encB W] ∧ ∃ z15 z16, F = [some bv, some v1, some v2, some v3, some (.bool false), none, none, some (num (k : Int)), none, some cv, none, none, none, none, some (.bool true), z15, z16, none, none, none, none, none, none, none, none, some (.bool false)]) 6 (by omega) ?_ ?_
    · exact ⟨0, .nils, [], by omega, by omega, by simp, by simp, Sep.push Sep.nil (P := oW .nils 1 encB _) (f := []) (.nil encB_w (by omega)) .refl (by simp [Nw]), _, _, rfl⟩
    · rintro m F s1 ⟨k, cv, W, rfl, hk, hW, hW8, hS, z15, z16, rfl⟩ hm
      have e1 := (hv1.fr0 hS.frm).lenV
      have fin : ∀ z15 z16 : Option AV, RsOk (exec bd (callF bd tab.get fu (n + 5)) fu yr6 [some bv, some v1, some v2, some v3, some (.bool false), none, none, some (num (k : Int)), none, some cv, none, none, none, none, some (.bool true), z15, z16, none, none, none, none, none, none, none, none, some (.bool false)] s1) (thenQ bd (callF bd tab.get fu (n + 5)) fu vc6_7 (retQ [.tmp 25] fun x s' => Is x (.bool true))) := by
        intro z15 z16
        simp (disch := omega) only [vm0, vm1, vm2, vm3, vm4, vm5, vm6, vm7, fPick, fBox, fBuild, fBsl, fLd, fLda, fSt, fNilc, fBin, fEq, fUn, fMkf, fFa, fFld, fFlda, fExt, evo, wr, wrC, frame, Bool.not_true, Bool.not_false, beq_self_eq_true, List.cons_append, List.nil_append, Nat.add_zero, Nat.zero_add, Nat.reduceAdd, Nat.reduceMul, Nat.reduceSub, Bool.and_true, Bool.true_and, Bool.and_self, beq_dec, fApp, Int.toNat_natCast, Nat.sub_zero, vmI, yr6]
        refine call_ok rfl rfl (cutB (n + 3) s1 bv L 4 (by omega) (by omega) (hb.fr0 hS.frm)) ?_
        rintro t s2 ⟨ft, c1, c2, c3⟩
        have ht : (L.take (4 : Int).toNat).length ≤ 4 := List.length_take_le _ _
        have ht8 : ∀ x ∈ L.take (4 : Int).toNat, In8 x := fun x hx => h8 x (List.mem_of_mem_take hx)
        generalize L.take (4 : Int).toNat = T at *
        have hS2 := hS.push (P := oW t 1 encB T) c1 c2 c3
        have k4 := c1.rd.lenOf
        have k5 := c1.rd.cellsOf
        obtain ⟨fo, ho, up⟩ := (((hS2.re ((List.perm_middle (l₁ := [_])).trans (.cons _ (.refl _)))))).hd
        simp (disch := omega) only [vm0, vm1, vm2, vm3, vm4, vm5, vm6, vm7, fPick, fBox, fBuild, fBsl, fLd, fLda, fSt, fNilc, fBin, fEq, fUn, fMkf, fFa, fFld, fFlda, fExt, evo, wr, wrC, frame, Bool.not_true, Bool.not_false, beq_self_eq_true, List.cons_append, List.nil_append, Nat.add_zero, Nat.zero_add, Nat.reduceAdd, Nat.reduceMul, Nat.reduceSub, Bool.and_true, Bool.true_and, Bool.and_self, beq_dec, fApp, Int.toNat_natCast, Nat.sub_zero, vmI, k4, k5]
        refine op_app (show OwE s2 cv 1 encB W fo from ho) .refl (new := T) rfl rfl (by omega) ?_
        intro c4 s3 f2 r1 r2 r3
        have hS3 := up (oW c4 1 encB (W ++ T)) r1 r2 r3
        simp (disch := omega) only [vm0, vm1, vm2, vm3, vm4, vm5, vm6, vm7, fPick, fBox, fBuild, fBsl, fLd, fLda, fSt, fNilc, fBin, fEq, fUn, fMkf, fFa, fFld, fFlda, fExt, evo, wr, wrC, frame, Bool.not_true, Bool.not_false, beq_self_eq_true, List.cons_append, List.nil_append, Nat.add_zero, Nat.zero_add, Nat.reduceAdd, Nat.reduceMul, Nat.reduceSub, Bool.and_true, Bool.true_and, Bool.and_self, beq_dec, fApp, Int.toNat_natCast, Nat.sub_zero, vmI]
        have hWT : (W ++ T).length ≤ 600 := by rw [List.length_append]; omega
        exact sr_main n s3 c4 v1 v2 v3 false (W ++ T) l3 _ _ _ _ _ _ _ _ _ _ _ _ _ _ _ _ _ _ _ _ hS3.rdW (fun x hx => by rcases List.mem_append.1 hx with hx | hx; (· exact hW8 x hx); (· exact ht8 x hx)) (by omega) (hv3.fr0 hS3.frm) h3 (by omega)
      by_cases hl : k < l1.length
      · by_cases h6 : k < 6
        · simp (disch := omega) only [vm0, vm1, vm2, vm3, vm4, vm5, vm6, vm7, fPick, fBox, fBuild, fBsl, fLd, fLda, fSt, fNilc, fBin, fEq, fUn, fMkf, fFa, fFld, fFlda, fExt, evo, wr, wrC, frame, Bool.not_true, Bool.not_false, beq_self_eq_true, List.cons_append, List.nil_append, Nat.add_zero, Nat.zero_add, Nat.reduceAdd, Nat.reduceMul, Nat.reduceSub, Bool.and_true, Bool.true_and, Bool.and_self, beq_dec, fApp, Int.toNat_natCast, Nat.sub_zero, vmI, vc6_1, e1]
          refine (sr_write n s1 bv v1 v2 v3 cv false l1 l2 W k _ _ hv1 hv2 h1 h2 hl (by omega) hW8 hS (by omega)).mono ?_
          rintro e F s2 ⟨rfl, cv', W', w1, w2, w3, z15, z16, rfl⟩
          simp (disch := omega) only [vm0, vm1, vm2, vm3, vm4, vm5, vm6, vm7, fPick, fBox, fBuild, fBsl, fLd, fLda, fSt, fNilc, fBin, fEq, fUn, fMkf, fFa, fFld, fFlda, fExt, evo, wr, wrC, frame, Bool.not_true, Bool.not_false, beq_self_eq_true, List.cons_append, List.nil_append, Nat.add_zero, Nat.zero_add, Nat.reduceAdd, Nat.reduceMul, Nat.reduceSub, Bool.and_true, Bool.true_and, Bool.and_self, beq_dec, fApp, Int.toNat_natCast, Nat.sub_zero, vmI]
          exact ⟨6 - (k + 1), by omega, k + 1, cv', W', rfl, by omega, by omega, w2, w3, _, _, rfl⟩
        · simp (disch := omega) only [vm0, vm1, vm2, vm3, vm4, vm5, vm6, vm7, fPick, fBox, fBuild, fBsl, fLd, fLda, fSt, fNilc, fBin, fEq, fUn, fMkf, fFa, fFld, fFlda, fExt, evo, wr, wrC, frame, Bool.not_true, Bool.not_false, beq_self_eq_true, List.cons_append, List.nil_append, Nat.add_zero, Nat.zero_add, Nat.reduceAdd, Nat.reduceMul, Nat.reduceSub, Bool.and_true, Bool.true_and, Bool.and_self, beq_dec, fApp, Int.toNat_natCast, Nat.sub_zero, vmI, vc6_1, e1]
          exact fin _ _
      · simp (disch := omega) only [vm0, vm1, vm2, vm3, vm4, vm5, vm6, vm7, fPick, fBox, fBuild, fBsl, fLd, fLda, fSt, fNilc, fBin, fEq, fUn, fMkf, fFa, fFld, fFlda, fExt, evo, wr, wrC, frame, Bool.not_true, Bool.not_false, beq_self_eq_true, List.cons_append, List.nil_append, Nat.add_zero, Nat.zero_add, Nat.reduceAdd, Nat.reduceMul, Nat.reduceSub, Bool.and_true, Bool.true_and, Bool.and_self, beq_dec, fApp, Int.toNat_natCast, Nat.sub_zero, vmI, vc6_1, e1]
        exact fin _ _
  · simp (disch := omega) only [vm0, vm1, vm2, vm3, vm4, vm5, vm6, vm7, fPick, fBox, fBuild, fBsl, fLd, fLda, fSt, fNilc, fBin, fEq, fUn, fMkf, fFa, fFld, fFlda, fExt, evo, wr, wrC, frame, Bool.not_true, Bool.not_false, beq_self_eq_true, List.cons_append, List.nil_append, Nat.add_zero, Nat.zero_add, Nat.reduceAdd, Nat.reduceMul, Nat.reduceSub, Bool.and_true, Bool.true_and, Bool.and_self, beq_dec, fApp, Int.toNat_natCast, Nat.sub_zero, vmI, vc6_eqr]
    exact sr_main n s bv v1 v2 v3 true L l3 _ _ _ _ _ _ _ _ _ _ _ _ _ _ _ _ _ _ _ _ hb h8 hLl hv3 h3 (by omega)
end
end Go.Proofs.Ytekhpohcjfjhfab.ctr
namespace Go.Proofs.Ytekhpohcjfjhfab.ctr
open Go Go.Vm Go.RowKit
set_option linter.unusedVariables false
set_option linter.unusedSimpArgs false
section
open Go.ChangeShapes Go.WideShapes
variable {H : Type} {enc : TypeId × Value → H} {P : Program} {w : World} {base : Nat} {held : Bool}
/-- what a slice of bytes among the arguments weighs bounds its length -/
theorem weight_len {k : IntKind} {t e : TypeId} {fuel : Nat} {a : Option Addr} {len cap : Nat} {x : DataW H × List MemPlace} (ht : P.underlying t = some (.slice e)) (he : P.underlying e = some (.int k)) (hc : P.cellsOf e = 1) (hb : P.bytesOf e = 1)
    (h : DataW.trod enc P w base (fun _ => true) held fuel t [.slice a len cap] = some x) (hw : (x.1.weights P t).all (· ≤ reachBytes) = true) : len ≤ 140737488351232 := by
  rcases open_ints ht he hc h with ⟨hcs, _⟩ | ⟨y, l, c, zs, hcs, _, hl, hm, hz, rfl, _, _⟩
  · cases hcs; omega
  · cases hcs
    have hzl : zs.length = cap := by simpa using hz
    simp only [DataW.weights, ht, List.all_cons, Bool.and_eq_true, decide_eq_true_eq, hb] at hw
    have h1 := hw.1
    simp [lits] at h1
    have hr : reachBytes = 140737488351232 := rfl
    omega
end
end Go.Proofs.Ytekhpohcjfjhfab.ctr
namespace Go.Proofs.Ytekhpohcjfjhfab.spanReadsRun
open Go.Vm Go.RowKit Go.Proofs.Ytekhpohcjfjhfab.ctr
set_option linter.unusedVariables false
set_option linter.unusedSimpArgs false
theorem mixed : Try.prog.follows .mixedOrders = true := by kernel_rfl
theorem walk (a0 : Option Addr) (len0 cap0 : Nat) (z0 : List Int) (a1 : Option Addr) (len1 cap1 : Nat) (z1 : List Int) (a2 : Option Addr) (len2 cap2 : Nat) (z2 : Nat → Value) (a3 : Option Addr) (len3 cap3 : Nat) (z3 : List Int) (a4 : Bool) (w : World) (hq0 : IsRow8 w a0 len0 cap0 z0) (hs0 : len0 ≤ 140737488351232) (hq1 : IsRowI w a1 len1 cap1 z1) (hq2 : IsRowV w a2 len2 cap2 1 z2) (hk2 : ∀ i, i < cap2 * 1 → FkOk w (([.S] : List Fk).getD (i % 1) .i) (z2 i)) (hq3 : IsRowI w a3 len3 cap3 z3) :
    Calls Try.prog 6 #[.slice a0 len0 cap0, .slice a1 len1 cap1, .slice a2 len2 cap2, .slice a3 len3 cap3, .bool a4] w fun e w' => e = .returned (.bool true) ∧ Below w.heap.size w w' := by
  obtain ⟨v0, E0, s0, g0, l0, f0, r0, d0, i0⟩ := (Arg0.start w).bytes hq0
  obtain ⟨v1, E1, s1, g1, l1, f1, r1, d1, i1⟩ := g0.ints hq1
  obtain ⟨v2, E2, s2, L2, g2, l2, f2, r2, d2, i2⟩ := g1.acts13 hq2 hk2
  obtain ⟨v3, E3, s3, g3, l3, f3, r3, d3, i3⟩ := g2.ints hq3
  have hl : (z0.take len0).length ≤ 140737488351232 := by rw [List.length_take]; omega
  have h := reads (bd := bd0) (fu := (z0.take len0).length + 7000) 40 s3 v0 v1 v2 v3 a4 _ _ _ _ (((d0.fr0 f1).fr0 f2).fr0 f3) i0 hl ((d1.fr0 f2).fr0 f3) i1 (d2.fr0 f3) (fun x hx => ⟨(i2 x hx).1.fr0 f3, (i2 x hx).2⟩) d3 i3 (by omega)
  exact law_okE bd0_ok mixed (tab_all rho0) t6 g3.hr g3.own (.cons (((r0.mono l1).mono l2).mono l3) (.cons ((r1.mono l2).mono l3) (.cons (r2.mono l3) (.cons r3 (.cons (.bool _) .nil))))) (yes_of' h fun _ _ h => h)
end Go.Proofs.Ytekhpohcjfjhfab.spanReadsRun
