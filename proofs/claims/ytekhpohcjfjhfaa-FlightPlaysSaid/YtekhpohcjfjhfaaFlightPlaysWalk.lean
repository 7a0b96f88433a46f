/- The law FlightPlays returns true for every input, and leaves what was there as it was. -/
import Derived.Test.YtekhpohcjfjhfaaCtFl
import Derived.WalkKit
import Derived.ProofKit
namespace Go.Proofs.Ytekhpohcjfjhfaa.ctr
open Go.Vm Go.RowKit
set_option linter.unusedVariables false
set_option linter.unusedSimpArgs false
/-- two of them, apart from each other and from all that was there -/
structure P2 (s0 : St) (f r : Nat) (l m : List O) (X Y : List Nat) (s : St) : Prop where
  fr : Fr s0 s []
  f : IsF s f l X
  r : IsF s r m Y
  nx : Nw s0 [] X
  ny : Nw s0 [] Y
  d : ∀ b ∈ X, b ∉ Y
theorem P2.step0 {s0 s s' : St} {f r : Nat} {l m : List O} {X Y : List Nat} (hp : P2 s0 f r l m X Y s) (hf : Fr s s' []) : P2 s0 f r l m X Y s' :=
  ⟨hp.fr.trans hf (by simp) (by simp), hp.f.fr hf (by simp), hp.r.fr hf (by simp), hp.nx, hp.ny, hp.d⟩
theorem P2.stepF {s0 s s' : St} {f r : Nat} {l m l' : List O} {X Y X' : List Nat} (hp : P2 s0 f r l m X Y s) (hF : IsF s' f l' X') (hf : Fr s s' X) (hn : Nw s X X') : P2 s0 f r l' m X' Y s' :=
  ⟨hp.fr.nn hf hp.nx, hF, hp.r.fr hf (fun b hb hm => hp.d b hm hb), hp.nx.nn hn hp.fr.1, hp.ny, fun b hb hm => by
    rcases hn b hb with h | h
    · exact hp.d b h hm
    · have := hp.r.lt b hm; omega⟩
theorem P2.stepR {s0 s s' : St} {f r : Nat} {l m m' : List O} {X Y Y' : List Nat} (hp : P2 s0 f r l m X Y s) (hF : IsF s' r m' Y') (hf : Fr s s' Y) (hn : Nw s Y Y') : P2 s0 f r l m' X Y' s' :=
  ⟨hp.fr.nn hf hp.ny, hp.f.fr hf hp.d, hF, hp.nx, hp.ny.nn hn hp.fr.1, fun b hb hm => by
    rcases hn b hm with h | h
    · exact hp.d b hb h
    · have := hp.f.lt b hb; omega⟩
/-- the law's own memory -/
def FF (va vn vt : AV) (i : Nat) (f r : Nat) (F : LF) : Prop := ∃ x4 x6 x8 x9 x10 x11 x12 x13 x14 x15 x16 x17 x18 x19 x20 x21 x22 x23, F = [some va, some vn, some vt, some (num (i : Int)), x4, some (.ptr f 0), x6, some (.ptr r 0), x8, x9, x10, x11, x12, x13, x14, x15, x16, x17, x18, x19, x20, x21, x22, x23, some (.bool false)]
section
variable {bd : Bd} {h : VF} {fu : Nat}
theorem plays_tail (n : Nat) (s0 s : St) (f r : Nat) (va vn vt : AV) (i : Nat) (l : List O) (X Y : List Nat) (hp : P2 s0 f r l l X Y s) (hl : l.length < 900) (hfu : 1000 < fu) (F : LF) (hF : FF va vn vt i f r F) :
    RsOk (exec bd (callF bd (tab h).get fu (n + 10)) fu vc4_1 F s) (fun e F s' => Is e .normal ∧ FF va vn vt i f r F ∧ P2 s0 f r l l X Y s') := by
  obtain ⟨x4, x6, x8, x9, x10, x11, x12, x13, x14, x15, x16, x17, x18, x19, x20, x21, x22, x23, rfl⟩ := hF
  obtain ⟨v, fv, r1, r2, r3, rfl, r5⟩ := hp.r
  simp (disch := omega) only [vm0, vm1, vm2, vm3, vm4, vm5, vm6, vm7, fPick, fBox, fBuild, fBsl, fLd, fLda, fSt, fNilc, fBin, fEq, fUn, fMkf, fFa, fFld, fFlda, fExt, evo, wr, wrC, frame, Bool.not_true, Bool.not_false, beq_self_eq_true, List.cons_append, List.nil_append, Nat.add_zero, Nat.zero_add, Nat.reduceAdd, Nat.reduceMul, Nat.reduceSub, Bool.and_true, Bool.true_and, Bool.and_self, beq_dec, fApp, Int.toNat_natCast, Nat.sub_zero, vc4_1]
  refine call_ok rfl rfl (f_all (n + 8) s f l X hp.f (by omega)) ?_
  rintro x s1 ⟨fa, ho, hf1, hn1⟩
  have hp1 := hp.step0 hf1
  have q1 := (hf1.get r5 (by simp)).trans r1
  have e1 := r2.rd.fr0 hf1
  simp (disch := omega) only [vm0, vm1, vm2, vm3, vm4, vm5, vm6, vm7, fPick, fBox, fBuild, fBsl, fLd, fLda, fSt, fNilc, fBin, fEq, fUn, fMkf, fFa, fFld, fFlda, fExt, evo, wr, wrC, frame, Bool.not_true, Bool.not_false, beq_self_eq_true, List.cons_append, List.nil_append, Nat.add_zero, Nat.zero_add, Nat.reduceAdd, Nat.reduceMul, Nat.reduceSub, Bool.and_true, Bool.true_and, Bool.and_self, beq_dec, fApp, Int.toNat_natCast, Nat.sub_zero, q1]
  refine call_ok rfl rfl (sameR (n + 9) s1 x v l l ho.rd e1 (by omega) (by omega)) ?_
  rintro x s2 ⟨rfl, rfl⟩
  simp (disch := omega) only [vm0, vm1, vm2, vm3, vm4, vm5, vm6, vm7, fPick, fBox, fBuild, fBsl, fLd, fLda, fSt, fNilc, fBin, fEq, fUn, fMkf, fFa, fFld, fFlda, fExt, evo, wr, wrC, frame, Bool.not_true, Bool.not_false, beq_self_eq_true, List.cons_append, List.nil_append, Nat.add_zero, Nat.zero_add, Nat.reduceAdd, Nat.reduceMul, Nat.reduceSub, Bool.and_true, Bool.true_and, Bool.and_self, beq_dec, fApp, Int.toNat_natCast, Nat.sub_zero, q1, decide_true, e1.lenV]
  refine call_ok rfl rfl (f_len_ (n + 9) s2 f l X hp1.f) ?_
  rintro x s3 ⟨rfl, rfl⟩
  have hne : v ≠ .emp := by
    rintro rfl
    rcases r2.ow with ⟨h, _⟩ | ⟨_, _, _, _, _, _, h, _⟩ <;> cases h
  have hsm := sm_sl r2.rd.rd.sl hne
  simp (disch := omega) only [vm0, vm1, vm2, vm3, vm4, vm5, vm6, vm7, fPick, fBox, fBuild, fBsl, fLd, fLda, fSt, fNilc, fBin, fEq, fUn, fMkf, fFa, fFld, fFlda, fExt, evo, wr, wrC, frame, Bool.not_true, Bool.not_false, beq_self_eq_true, List.cons_append, List.nil_append, Nat.add_zero, Nat.zero_add, Nat.reduceAdd, Nat.reduceMul, Nat.reduceSub, Bool.and_true, Bool.true_and, Bool.and_self, beq_dec, fApp, Int.toNat_natCast, Nat.sub_zero, q1, r1, decide_true, e1.lenV, hsm]
  exact ⟨rfl, ⟨_, _, _, _, _, _, _, _, _, _, _, _, _, _, _, _, _, _, rfl⟩, hp1⟩
/-- what is done: one of the nine -/
theorem plays_switch (n : Nat) (s0 s : St) (f r : Nat) (va vn vt : AV) (i : Nat) (l : List O) (X Y : List Nat) (hp : P2 s0 f r l l X Y s) (hl : l.length < 800) (hfu : 1000 < fu) (F : LF) (ls : List Int) (hva : RdE s vn 1 encI ls) (hi : ∃ x, ls[i]? = some x ∧ In64 x)
    (a k at_ : Int) (ha : 0 ≤ a ∧ a < 9) (hk : 0 ≤ k ∧ k < 12) (hat : 0 ≤ at_ ∧ at_ < 30) (x8 x10 x11 x12 x13 x14 x15 x16 x17 x18 x19 x20 x21 x22 x23 : Option AV)
    (hF : F = [some va, some vn, some vt, some (num (i : Int)), some (num a), some (.ptr f 0), some (num k), some (.ptr r 0), x8, some (num at_), x10, x11, x12, x13, x14, x15, x16, x17, x18, x19, x20, x21, x22, x23, some (.bool false)]) :
    RsOk (exec bd (callF bd (tab h).get fu (n + 10)) fu vc4_0 F s) (fun e F s' => Is e .normal ∧ FF va vn vt i f r F ∧ ∃ l' X' Y', l'.length ≤ l.length + 1 ∧ P2 s0 f r l' l' X' Y' s') := by
  subst hF
  unfold vc4_0
  rw [x_seq]
  refine RsOk.mono (Q := fun e F' s' => e = .normal ∧ s = s' ∧ F' = [some va, some vn, some vt, some (num (i : Int)), some (num a), some (.ptr f 0), some (num k), some (.ptr r 0), some (.bool (decide (a ≤ 4))), some (num at_), x10, x11, x12, x13, x14, x15, x16, x17, x18, x19, x20, x21, x22, x23, some (.bool false)]) ?_ ?_
  · rcases (show a = 0 ∨ a = 1 ∨ a = 2 ∨ a = 3 ∨ a = 4 ∨ 4 < a by omega) with rfl | rfl | rfl | rfl | rfl | h4
    all_goals simp (disch := omega) only [vm0, vm1, vm2, vm3, vm4, vm5, vm6, vm7, fPick, fBox, fBuild, fBsl, fLd, fLda, fSt, fNilc, fBin, fEq, fUn, fMkf, fFa, fFld, fFlda, fExt, evo, wr, wrC, frame, Bool.not_true, Bool.not_false, beq_self_eq_true, List.cons_append, List.nil_append, Nat.add_zero, Nat.zero_add, Nat.reduceAdd, Nat.reduceMul, Nat.reduceSub, Bool.and_true, Bool.true_and, Bool.and_self, beq_dec, fApp, Int.toNat_natCast, Nat.sub_zero]
    all_goals first | exact ⟨rfl, rfl, rfl⟩ | simp
  rintro _ _ _ ⟨rfl, rfl, rfl⟩
  rw [q_then]
  by_cases h4 : a ≤ 4
  · -- one more goes out
    simp (disch := omega) only [vm0, vm1, vm2, vm3, vm4, vm5, vm6, vm7, fPick, fBox, fBuild, fBsl, fLd, fLda, fSt, fNilc, fBin, fEq, fUn, fMkf, fFa, fFld, fFlda, fExt, evo, wr, wrC, frame, Bool.not_true, Bool.not_false, beq_self_eq_true, List.cons_append, List.nil_append, Nat.add_zero, Nat.zero_add, Nat.reduceAdd, Nat.reduceMul, Nat.reduceSub, Bool.and_true, Bool.true_and, Bool.and_self, beq_dec, fApp, Int.toNat_natCast, Nat.sub_zero, wr64]
    have hfa : Fr s ((s.new (.cells [num 0, num 0, num 0, num 0] .own)).put s.next (some (.cells [num k, num at_, num (at_ + k), num at_] .own))) [] := (by (repeat' (first | exact Fr.refl | assumption | apply Fr.new' | apply Fr.mk' | apply Fr.put')) <;> (first | omega | (left; simp; done) | (right; simp only [next_put, next_new, next_mk]; omega) | (simp only [next_put, next_new, next_mk]; omega)))
    have hg : ((s.new (.cells [num 0, num 0, num 0, num 0] .own)).put s.next (some (.cells [num k, num at_, num (at_ + k), num at_] .own))).heap.get s.next = some (.cells [num k, num at_, num (at_ + k), num at_] .own) := get_put_eq rfl
    have hgn : s.next < ((s.new (.cells [num 0, num 0, num 0, num 0] .own)).put s.next (some (.cells [num k, num at_, num (at_ + k), num at_] .own))).next := by rw [next_put, next_new]; omega
    generalize (s.new (.cells [num 0, num 0, num 0, num 0] .own)).put s.next (some (.cells [num k, num at_, num (at_ + k), num at_] .own)) = s1 at *
    have hp1 := hp.step0 hfa
    have hXn : s.next ∉ X := fun hm => by have := hp.f.lt _ hm; omega
    refine call_ok rfl rfl (f_add (n + 6) s1 f l X (k, at_, at_ + k, at_) hp1.f (by omega) (by omega)) ?_
    rintro x s2 ⟨X2, rfl, hF2, hf2, hn2⟩
    have hp2 := hp1.stepF hF2 hf2 hn2
    have hg2 := (hf2.get hgn hXn).trans hg
    simp (disch := omega) only [vm0, vm1, vm2, vm3, vm4, vm5, vm6, vm7, fPick, fBox, fBuild, fBsl, fLd, fLda, fSt, fNilc, fBin, fEq, fUn, fMkf, fFa, fFld, fFlda, fExt, evo, wr, wrC, frame, Bool.not_true, Bool.not_false, beq_self_eq_true, List.cons_append, List.nil_append, Nat.add_zero, Nat.zero_add, Nat.reduceAdd, Nat.reduceMul, Nat.reduceSub, Bool.and_true, Bool.true_and, Bool.and_self, beq_dec, fApp, Int.toNat_natCast, Nat.sub_zero, hg2, hg]
    refine call_ok rfl rfl (r_add (n + 9) s2 r l Y (k, at_, at_ + k, at_) hp2.r (by omega) (by omega)) ?_
    rintro x s3 ⟨Y3, rfl, hF3, hf3, hn3⟩
    have hp3 := hp2.stepR hF3 hf3 hn3
    simp (disch := omega) only [vm0, vm1, vm2, vm3, vm4, vm5, vm6, vm7, fPick, fBox, fBuild, fBsl, fLd, fLda, fSt, fNilc, fBin, fEq, fUn, fMkf, fFa, fFld, fFlda, fExt, evo, wr, wrC, frame, Bool.not_true, Bool.not_false, beq_self_eq_true, List.cons_append, List.nil_append, Nat.add_zero, Nat.zero_add, Nat.reduceAdd, Nat.reduceMul, Nat.reduceSub, Bool.and_true, Bool.true_and, Bool.and_self, beq_dec, fApp, Int.toNat_natCast, Nat.sub_zero, hg2, hg, beq_self_eq_true]
    exact ⟨rfl, ⟨_, _, _, _, _, _, _, _, _, _, _, _, _, _, _, _, _, _, rfl⟩, _, X2, Y3, by split <;> simp, hp3⟩
  · have hz4 : s.new (.cells [num 0, num 0, num 0, num 0] .own) = s.new (.cells [num 0, num 0, num 0, num 0] .own) := rfl
    by_cases h56 : a = 5 ∨ a = 6
    · -- one is taken
      have hmid : ∀ b : Bool, (b = decide (a = 5) ∨ b = decide (a = 6)) → True := fun _ _ => trivial
      have htk : ∀ (tw : Nat) (x1 : AV), ∃ o : O, ∃ b : Bool, (if fst k l 0 < 0 then x1 = .tup [.agg (encO o0), .bool false] else x1 = .tup [.agg (encO (l.getD (ixO k l) o0)), .bool true]) → x1 = .tup [.agg (encO o), .bool b] ∧ o = (if fst k l 0 < 0 then o0 else l.getD (ixO k l) o0) ∧ b = decide (¬ fst k l 0 < 0) := by
        intro _ x1
        by_cases hz : fst k l 0 < 0
        · exact ⟨o0, false, fun h => by rw [if_pos hz] at h ⊢; exact ⟨h, rfl, by simp [hz]⟩⟩
        · exact ⟨l.getD (ixO k l) o0, true, fun h => by rw [if_neg hz] at h ⊢; exact ⟨h, rfl, by simp [hz]⟩⟩
      rcases h56 with rfl | rfl
      all_goals
        simp (disch := omega) only [vm0, vm1, vm2, vm3, vm4, vm5, vm6, vm7, fPick, fBox, fBuild, fBsl, fLd, fLda, fSt, fNilc, fBin, fEq, fUn, fMkf, fFa, fFld, fFlda, fExt, evo, wr, wrC, frame, Bool.not_true, Bool.not_false, beq_self_eq_true, List.cons_append, List.nil_append, Nat.add_zero, Nat.zero_add, Nat.reduceAdd, Nat.reduceMul, Nat.reduceSub, Bool.and_true, Bool.true_and, Bool.and_self, beq_dec, fApp, Int.toNat_natCast, Nat.sub_zero]
        refine call_ok rfl rfl (f_take (n + 6) s f l X k hp.f (by omega) (by omega)) ?_
        rintro x1 s1 ⟨X1, hx1, hF1, hf1, hn1⟩
        obtain ⟨o1, b1, hh1⟩ := htk 0 x1
        obtain ⟨rfl, ho1, hb1⟩ := hh1 hx1
        have hp1 := hp.stepF hF1 hf1 hn1
        obtain ⟨ao, bo, co, do_⟩ := o1
        simp (disch := omega) only [vm0, vm1, vm2, vm3, vm4, vm5, vm6, vm7, fPick, fBox, fBuild, fBsl, fLd, fLda, fSt, fNilc, fBin, fEq, fUn, fMkf, fFa, fFld, fFlda, fExt, evo, wr, wrC, frame, Bool.not_true, Bool.not_false, beq_self_eq_true, List.cons_append, List.nil_append, Nat.add_zero, Nat.zero_add, Nat.reduceAdd, Nat.reduceMul, Nat.reduceSub, Bool.and_true, Bool.true_and, Bool.and_self, beq_dec, fApp, Int.toNat_natCast, Nat.sub_zero, encO, nt_0, nt_s]
        have hfa : Fr s1 ((s1.new (.cells [num 0, num 0, num 0, num 0] .own)).put s1.next (some (.cells [num ao, num bo, num co, num do_] .own))) [] := (by (repeat' (first | exact Fr.refl | assumption | apply Fr.new' | apply Fr.mk' | apply Fr.put')) <;> (first | omega | (left; simp; done) | (right; simp only [next_put, next_new, next_mk]; omega) | (simp only [next_put, next_new, next_mk]; omega)))
        have hg : ((s1.new (.cells [num 0, num 0, num 0, num 0] .own)).put s1.next (some (.cells [num ao, num bo, num co, num do_] .own))).heap.get s1.next = some (.cells [num ao, num bo, num co, num do_] .own) := get_put_eq rfl
        have hgn : s1.next < ((s1.new (.cells [num 0, num 0, num 0, num 0] .own)).put s1.next (some (.cells [num ao, num bo, num co, num do_] .own))).next := by rw [next_put, next_new]; omega
        generalize (s1.new (.cells [num 0, num 0, num 0, num 0] .own)).put s1.next (some (.cells [num ao, num bo, num co, num do_] .own)) = s2 at *
        have hp2 := hp1.step0 hfa
        have hYn : s1.next ∉ Y := fun hm => by have := hp1.r.lt _ hm; omega
        refine call_ok rfl rfl (r_take (n + 9) s2 r l Y k hp2.r (by omega) (by omega)) ?_
        rintro x2 s3 ⟨Y3, hx2, hF3, hf3, hn3⟩
        obtain ⟨o2, b2, hh2⟩ := htk 1 x2
        obtain ⟨rfl, ho2, hb2⟩ := hh2 hx2
        have hp3 := hp2.stepR hF3 hf3 hn3
        have hg3 := (hf3.get hgn hYn).trans hg
        have hgn3 := Nat.lt_of_lt_of_le hgn hf3.1
        rw [← ho1] at ho2
        rw [← hb1] at hb2
        subst ho2; subst hb2
        simp (disch := omega) only [vm0, vm1, vm2, vm3, vm4, vm5, vm6, vm7, fPick, fBox, fBuild, fBsl, fLd, fLda, fSt, fNilc, fBin, fEq, fUn, fMkf, fFa, fFld, fFlda, fExt, evo, wr, wrC, frame, Bool.not_true, Bool.not_false, beq_self_eq_true, List.cons_append, List.nil_append, Nat.add_zero, Nat.zero_add, Nat.reduceAdd, Nat.reduceMul, Nat.reduceSub, Bool.and_true, Bool.true_and, Bool.and_self, beq_dec, fApp, Int.toNat_natCast, Nat.sub_zero, encO, nt_0, nt_s, hg3, beq_self_eq_true]
        refine ⟨rfl, ⟨_, _, _, _, _, _, _, _, _, _, _, _, _, _, _, _, _, _, rfl⟩, _, X1, Y3, ?_, hp3.step0 (by (repeat' (first | exact Fr.refl | assumption | apply Fr.new' | apply Fr.mk' | apply Fr.put')) <;> (first | omega | (left; simp; done) | (right; simp only [next_put, next_new, next_mk]; omega) | (simp only [next_put, next_new, next_mk]; omega)))⟩
        split
        · omega
        · exact Nat.le_trans (List.length_eraseIdx_le _ _) (by omega)
    · by_cases h7 : a = 7
      · subst h7
        simp (disch := omega) only [vm0, vm1, vm2, vm3, vm4, vm5, vm6, vm7, fPick, fBox, fBuild, fBsl, fLd, fLda, fSt, fNilc, fBin, fEq, fUn, fMkf, fFa, fFld, fFlda, fExt, evo, wr, wrC, frame, Bool.not_true, Bool.not_false, beq_self_eq_true, List.cons_append, List.nil_append, Nat.add_zero, Nat.zero_add, Nat.reduceAdd, Nat.reduceMul, Nat.reduceSub, Bool.and_true, Bool.true_and, Bool.and_self, beq_dec, fApp, Int.toNat_natCast, Nat.sub_zero]
        refine call_ok rfl rfl (f_late (n + 8) s f l X at_ k hp.f (by omega) (by omega) (by omega) (by omega) (by omega) (by omega)) ?_
        rintro x1 s1 ⟨fl1, fr1, ho1, hF1, hf1, hn1, hm1, hd1⟩
        have hp1 := hp.stepF hF1 (hf1.mono (by
          intro b hb _
          obtain ⟨v, fv, _, _, _, rfl, _⟩ := hp.f
          simp at hb; simp [hb])) (fun b hb => by
          rcases hm1 b hb with h | h
          · obtain ⟨v, fv, _, _, _, rfl, _⟩ := hp.f
            simp at h; simp [h]
          · exact .inr h)
        simp (disch := omega) only [vm0, vm1, vm2, vm3, vm4, vm5, vm6, vm7, fPick, fBox, fBuild, fBsl, fLd, fLda, fSt, fNilc, fBin, fEq, fUn, fMkf, fFa, fFld, fFlda, fExt, evo, wr, wrC, frame, Bool.not_true, Bool.not_false, beq_self_eq_true, List.cons_append, List.nil_append, Nat.add_zero, Nat.zero_add, Nat.reduceAdd, Nat.reduceMul, Nat.reduceSub, Bool.and_true, Bool.true_and, Bool.and_self, beq_dec, fApp, Int.toNat_natCast, Nat.sub_zero]
        refine call_ok rfl rfl (r_late (n + 8) s1 r l Y at_ k hp1.r (by omega) (by omega) (by omega) (by omega) (by omega) (by omega)) ?_
        rintro x2 s2 ⟨fl2, fr2, ho2, hF2, hf2, hn2, hm2, hd2⟩
        have hp2 := hp1.stepR hF2 (hf2.mono (by
          intro b hb _
          obtain ⟨v, fv, _, _, _, rfl, _⟩ := hp.r
          simp at hb; simp [hb])) (fun b hb => by
          rcases hm2 b hb with h | h
          · obtain ⟨v, fv, _, _, _, rfl, _⟩ := hp.r
            simp at h; simp [h]
          · exact .inr h)
        have hll : (l.filter (lateO at_ k)).length ≤ l.length := List.length_filter_le _ _
        have ho1' := ho1.fr hf2 (fun b hb hm => by
          simp at hm; subst hm
          have h1 := hn1 b hb
          simp at h1
          have h2 : b < s.next := hp.r.lt b (by obtain ⟨v, fv, _, _, _, rfl, _⟩ := hp.r; simp)
          omega)
        simp (disch := omega) only [vm0, vm1, vm2, vm3, vm4, vm5, vm6, vm7, fPick, fBox, fBuild, fBsl, fLd, fLda, fSt, fNilc, fBin, fEq, fUn, fMkf, fFa, fFld, fFlda, fExt, evo, wr, wrC, frame, Bool.not_true, Bool.not_false, beq_self_eq_true, List.cons_append, List.nil_append, Nat.add_zero, Nat.zero_add, Nat.reduceAdd, Nat.reduceMul, Nat.reduceSub, Bool.and_true, Bool.true_and, Bool.and_self, beq_dec, fApp, Int.toNat_natCast, Nat.sub_zero]
        refine call_ok rfl rfl (sameR (n + 9) s2 x1 x2 _ _ ho1'.rd ho2.rd (by omega) (by omega)) ?_
        rintro x s3 ⟨rfl, rfl⟩
        simp (disch := omega) only [vm0, vm1, vm2, vm3, vm4, vm5, vm6, vm7, fPick, fBox, fBuild, fBsl, fLd, fLda, fSt, fNilc, fBin, fEq, fUn, fMkf, fFa, fFld, fFlda, fExt, evo, wr, wrC, frame, Bool.not_true, Bool.not_false, beq_self_eq_true, List.cons_append, List.nil_append, Nat.add_zero, Nat.zero_add, Nat.reduceAdd, Nat.reduceMul, Nat.reduceSub, Bool.and_true, Bool.true_and, Bool.and_self, beq_dec, fApp, Int.toNat_natCast, Nat.sub_zero, decide_true]
        exact ⟨rfl, ⟨_, _, _, _, _, _, _, _, _, _, _, _, _, _, _, _, _, _, rfl⟩, _, fr1, fr2, Nat.le_trans (List.length_filter_le _ _) (by omega), hp2⟩
      · obtain rfl : a = 8 := by omega
        obtain ⟨x, hx, hx1, hx2⟩ := hi
        have e1 := hva.ia hx
        have e2 := hva.at1 hx
        by_cases h5 : x.tmod 5 = 4
        · simp (disch := omega) only [vm0, vm1, vm2, vm3, vm4, vm5, vm6, vm7, fPick, fBox, fBuild, fBsl, fLd, fLda, fSt, fNilc, fBin, fEq, fUn, fMkf, fFa, fFld, fFlda, fExt, evo, wr, wrC, frame, Bool.not_true, Bool.not_false, beq_self_eq_true, List.cons_append, List.nil_append, Nat.add_zero, Nat.zero_add, Nat.reduceAdd, Nat.reduceMul, Nat.reduceSub, Bool.and_true, Bool.true_and, Bool.and_self, beq_dec, fApp, Int.toNat_natCast, Nat.sub_zero, e1, e2, b_rem, h5]
          refine call_ok rfl rfl (f_drop (n + 9) s f l X hp.f) ?_
          rintro x1 s1 ⟨fv1, ho1, hF1, hf1, hX, hd1⟩
          subst hX
          have hp1 := hp.stepF hF1 hf1 (fun b hb => by simp at hb; simp [hb])
          simp (disch := omega) only [vm0, vm1, vm2, vm3, vm4, vm5, vm6, vm7, fPick, fBox, fBuild, fBsl, fLd, fLda, fSt, fNilc, fBin, fEq, fUn, fMkf, fFa, fFld, fFlda, fExt, evo, wr, wrC, frame, Bool.not_true, Bool.not_false, beq_self_eq_true, List.cons_append, List.nil_append, Nat.add_zero, Nat.zero_add, Nat.reduceAdd, Nat.reduceMul, Nat.reduceSub, Bool.and_true, Bool.true_and, Bool.and_self, beq_dec, fApp, Int.toNat_natCast, Nat.sub_zero]
          refine call_ok rfl rfl (r_drop (n + 9) s1 r l Y hp1.r) ?_
          rintro x2 s2 ⟨fv2, ho2, hF2, hf2, hY, hd2⟩
          subst hY
          have hp2 := hp1.stepR hF2 hf2 (fun b hb => by simp at hb; simp [hb])
          have ho1' := ho1.fr hf2 (fun b hb hm => hp.d b (by simp [hb]) hm)
          simp (disch := omega) only [vm0, vm1, vm2, vm3, vm4, vm5, vm6, vm7, fPick, fBox, fBuild, fBsl, fLd, fLda, fSt, fNilc, fBin, fEq, fUn, fMkf, fFa, fFld, fFlda, fExt, evo, wr, wrC, frame, Bool.not_true, Bool.not_false, beq_self_eq_true, List.cons_append, List.nil_append, Nat.add_zero, Nat.zero_add, Nat.reduceAdd, Nat.reduceMul, Nat.reduceSub, Bool.and_true, Bool.true_and, Bool.and_self, beq_dec, fApp, Int.toNat_natCast, Nat.sub_zero]
          refine call_ok rfl rfl (sameR (n + 9) s2 x1 x2 _ _ ho1'.rd ho2.rd (by omega) (by omega)) ?_
          rintro x s3 ⟨rfl, rfl⟩
          simp (disch := omega) only [vm0, vm1, vm2, vm3, vm4, vm5, vm6, vm7, fPick, fBox, fBuild, fBsl, fLd, fLda, fSt, fNilc, fBin, fEq, fUn, fMkf, fFa, fFld, fFlda, fExt, evo, wr, wrC, frame, Bool.not_true, Bool.not_false, beq_self_eq_true, List.cons_append, List.nil_append, Nat.add_zero, Nat.zero_add, Nat.reduceAdd, Nat.reduceMul, Nat.reduceSub, Bool.and_true, Bool.true_and, Bool.and_self, beq_dec, fApp, Int.toNat_natCast, Nat.sub_zero, decide_true]
          exact ⟨rfl, ⟨_, _, _, _, _, _, _, _, _, _, _, _, _, _, _, _, _, _, rfl⟩, [], [f], [r], by simp, hp2⟩
        · simp (disch := omega) only [vm0, vm1, vm2, vm3, vm4, vm5, vm6, vm7, fPick, fBox, fBuild, fBsl, fLd, fLda, fSt, fNilc, fBin, fEq, fUn, fMkf, fFa, fFld, fFlda, fExt, evo, wr, wrC, frame, Bool.not_true, Bool.not_false, beq_self_eq_true, List.cons_append, List.nil_append, Nat.add_zero, Nat.zero_add, Nat.reduceAdd, Nat.reduceMul, Nat.reduceSub, Bool.and_true, Bool.true_and, Bool.and_self, beq_dec, fApp, Int.toNat_natCast, Nat.sub_zero, e1, e2, b_rem, h5]
          exact ⟨rfl, ⟨_, _, _, _, _, _, _, _, _, _, _, _, _, _, _, _, _, _, rfl⟩, l, X, Y, by omega, hp⟩
theorem plays (n : Nat) (s : St) (va vn vt : AV) (la ln lt : List Int) (ha : RdE s va 1 encI la) (hn : RdE s vn 1 encI ln) (ht : RdE s vt 1 encI lt) (ba : ∀ x ∈ la, In64 x) (bn : ∀ x ∈ ln, In64 x) (bt : ∀ x ∈ lt, In64 x) (hfu : 1000 < fu) :
    OutOk (callF bd (tab h).get fu (n + 11) 4 [va, vn, vt] s) (fun x s' => Is x (.bool true)) := by
  refine call_code (t4 h) rfl ?_
  simp (disch := omega) only [vm0, vm1, vm2, vm3, vm4, vm5, vm6, vm7, fPick, fBox, fBuild, fBsl, fLd, fLda, fSt, fNilc, fBin, fEq, fUn, fMkf, fFa, fFld, fFlda, fExt, evo, wr, wrC, frame, Bool.not_true, Bool.not_false, beq_self_eq_true, List.cons_append, List.nil_append, Nat.add_zero, Nat.zero_add, Nat.reduceAdd, Nat.reduceMul, Nat.reduceSub, Bool.and_true, Bool.true_and, Bool.and_self, beq_dec, fApp, Int.toNat_natCast, Nat.sub_zero, vc4]
  refine call_ok rfl rfl (f_new (n + 9) s) ?_
  rintro x s1 ⟨f, rfl, hf0, hf1, hF1⟩
  simp (disch := omega) only [vm0, vm1, vm2, vm3, vm4, vm5, vm6, vm7, fPick, fBox, fBuild, fBsl, fLd, fLda, fSt, fNilc, fBin, fEq, fUn, fMkf, fFa, fFld, fFlda, fExt, evo, wr, wrC, frame, Bool.not_true, Bool.not_false, beq_self_eq_true, List.cons_append, List.nil_append, Nat.add_zero, Nat.zero_add, Nat.reduceAdd, Nat.reduceMul, Nat.reduceSub, Bool.and_true, Bool.true_and, Bool.and_self, beq_dec, fApp, Int.toNat_natCast, Nat.sub_zero]
  have hfa : Fr s1 (s1.new (.cells [.nils] .own)) [] := .new
  have hp1 : P2 s f s1.next [] [] [f] [s1.next] (s1.new (.cells [.nils] .own)) := ⟨hf1.trans hfa (by simp) (by simp), hF1.fr hfa (by simp), ⟨.nils, [], get_new_eq rfl, .nil (by intro x; rfl) (by omega), by simp, rfl, by rw [next_new]; omega⟩, .one hf0, .one hf1.1, by
    intro b hb hm
    have := hF1.lt f (by simp)
    simp at hb hm; omega⟩
  generalize s1.new (.cells [.nils] .own) = s2 at *
  generalize s1.next = r at *
  refine x_loop (fun m F s' => ∃ i : Nat, ∃ l X Y, m = 30 - i ∧ i ≤ 30 ∧ l.length ≤ i ∧ FF va vn vt i f r F ∧ P2 s f r l l X Y s') 30 (by omega) ?_ ?_
  · exact ⟨0, [], [f], [r], by omega, by omega, by simp, ⟨_, _, _, _, _, _, _, _, _, _, _, _, _, _, _, _, _, _, rfl⟩, hp1⟩
  · rintro m F s3 ⟨i, l, X, Y, rfl, hi, hl, hFF, hp⟩ hm
    have hFF0 := hFF
    obtain ⟨x4, x6, x8, x9, x10, x11, x12, x13, x14, x15, x16, x17, x18, x19, x20, x21, x22, x23, rfl⟩ := hFF
    have ha3 := ha.fr0 hp.fr
    have hn3 := hn.fr0 hp.fr
    have ht3 := ht.fr0 hp.fr
    by_cases hgo : i < la.length ∧ i < ln.length ∧ i < lt.length ∧ i < 30
    · obtain ⟨g1, g2, g3, g4⟩ := hgo
      obtain ⟨xa, hxa⟩ : ∃ x, la[i]? = some x := ⟨_, List.getElem?_eq_getElem g1⟩
      obtain ⟨xn, hxn⟩ : ∃ x, ln[i]? = some x := ⟨_, List.getElem?_eq_getElem g2⟩
      obtain ⟨xt, hxt⟩ : ∃ x, lt[i]? = some x := ⟨_, List.getElem?_eq_getElem g3⟩
      have ca := ba xa (List.mem_of_getElem? hxa)
      have cn := bn xn (List.mem_of_getElem? hxn)
      have ct := bt xt (List.mem_of_getElem? hxt)
      have a1 := ha3.ia hxa
      have a2 := ha3.at1 hxa
      have n1 := hn3.ia hxn
      have n2 := hn3.at1 hxn
      have t1 := ht3.ia hxt
      have t2 := ht3.at1 hxt
      simp (disch := omega) only [vm0, vm1, vm2, vm3, vm4, vm5, vm6, vm7, fPick, fBox, fBuild, fBsl, fLd, fLda, fSt, fNilc, fBin, fEq, fUn, fMkf, fFa, fFld, fFlda, fExt, evo, wr, wrC, frame, Bool.not_true, Bool.not_false, beq_self_eq_true, List.cons_append, List.nil_append, Nat.add_zero, Nat.zero_add, Nat.reduceAdd, Nat.reduceMul, Nat.reduceSub, Bool.and_true, Bool.true_and, Bool.and_self, beq_dec, fApp, Int.toNat_natCast, Nat.sub_zero, vc4_3, vc4_2, ha3.lenV, hn3.lenV, ht3.lenV, n1, n2]
      refine call_ok rfl rfl (within (n + 9) s3 xn 12 cn (by omega) (by omega)) ?_
      rintro x s4 ⟨rfl, rfl⟩
      simp (disch := omega) only [vm0, vm1, vm2, vm3, vm4, vm5, vm6, vm7, fPick, fBox, fBuild, fBsl, fLd, fLda, fSt, fNilc, fBin, fEq, fUn, fMkf, fFa, fFld, fFlda, fExt, evo, wr, wrC, frame, Bool.not_true, Bool.not_false, beq_self_eq_true, List.cons_append, List.nil_append, Nat.add_zero, Nat.zero_add, Nat.reduceAdd, Nat.reduceMul, Nat.reduceSub, Bool.and_true, Bool.true_and, Bool.and_self, beq_dec, fApp, Int.toNat_natCast, Nat.sub_zero, t1, t2]
      refine call_ok rfl rfl (within (n + 9) s4 xt 30 ct (by omega) (by omega)) ?_
      rintro x s5 ⟨rfl, rfl⟩
      simp (disch := omega) only [vm0, vm1, vm2, vm3, vm4, vm5, vm6, vm7, fPick, fBox, fBuild, fBsl, fLd, fLda, fSt, fNilc, fBin, fEq, fUn, fMkf, fFa, fFld, fFlda, fExt, evo, wr, wrC, frame, Bool.not_true, Bool.not_false, beq_self_eq_true, List.cons_append, List.nil_append, Nat.add_zero, Nat.zero_add, Nat.reduceAdd, Nat.reduceMul, Nat.reduceSub, Bool.and_true, Bool.true_and, Bool.and_self, beq_dec, fApp, Int.toNat_natCast, Nat.sub_zero, t1, t2, a1, a2]
      refine call_ok rfl rfl (within (n + 9) s5 xa 9 ca (by omega) (by omega)) ?_
      rintro x s6 ⟨rfl, rfl⟩
      simp (disch := omega) only [vm0, vm1, vm2, vm3, vm4, vm5, vm6, vm7, fPick, fBox, fBuild, fBsl, fLd, fLda, fSt, fNilc, fBin, fEq, fUn, fMkf, fFa, fFld, fFlda, fExt, evo, wr, wrC, frame, Bool.not_true, Bool.not_false, beq_self_eq_true, List.cons_append, List.nil_append, Nat.add_zero, Nat.zero_add, Nat.reduceAdd, Nat.reduceMul, Nat.reduceSub, Bool.and_true, Bool.true_and, Bool.and_self, beq_dec, fApp, Int.toNat_natCast, Nat.sub_zero]
      refine RsOk.mono (plays_switch n s s6 f r va vn vt i l X Y hp (by omega) hfu _ ln hn3 ⟨xn, hxn, cn⟩ (xa % 9) (xn % 12) (xt % 30) ⟨Int.emod_nonneg _ (by omega), Int.emod_lt_of_pos _ (by omega)⟩ ⟨Int.emod_nonneg _ (by omega), Int.emod_lt_of_pos _ (by omega)⟩ ⟨Int.emod_nonneg _ (by omega), Int.emod_lt_of_pos _ (by omega)⟩ _ _ _ _ _ _ _ _ _ _ _ _ _ _ _ rfl) ?_
      rintro e F' s7 ⟨rfl, hFF1, l', X', Y', hl', hp'⟩
      simp (disch := omega) only [vm0, vm1, vm2, vm3, vm4, vm5, vm6, vm7, fPick, fBox, fBuild, fBsl, fLd, fLda, fSt, fNilc, fBin, fEq, fUn, fMkf, fFa, fFld, fFlda, fExt, evo, wr, wrC, frame, Bool.not_true, Bool.not_false, beq_self_eq_true, List.cons_append, List.nil_append, Nat.add_zero, Nat.zero_add, Nat.reduceAdd, Nat.reduceMul, Nat.reduceSub, Bool.and_true, Bool.true_and, Bool.and_self, beq_dec, fApp, Int.toNat_natCast, Nat.sub_zero]
      refine RsOk.mono (plays_tail n s s7 f r va vn vt i l' X' Y' hp' (by omega) hfu F' hFF1) ?_
      rintro e F2 s8 ⟨rfl, hFF2, hp2⟩
      obtain ⟨y4, y6, y8, y9, y10, y11, y12, y13, y14, y15, y16, y17, y18, y19, y20, y21, y22, y23, rfl⟩ := hFF2
      simp (disch := omega) only [vm0, vm1, vm2, vm3, vm4, vm5, vm6, vm7, fPick, fBox, fBuild, fBsl, fLd, fLda, fSt, fNilc, fBin, fEq, fUn, fMkf, fFa, fFld, fFlda, fExt, evo, wr, wrC, frame, Bool.not_true, Bool.not_false, beq_self_eq_true, List.cons_append, List.nil_append, Nat.add_zero, Nat.zero_add, Nat.reduceAdd, Nat.reduceMul, Nat.reduceSub, Bool.and_true, Bool.true_and, Bool.and_self, beq_dec, fApp, Int.toNat_natCast, Nat.sub_zero, wr64]
      exact ⟨30 - (i + 1), by omega, i + 1, l', X', Y', rfl, by omega, by omega, ⟨_, _, _, _, _, _, _, _, _, _, _, _, _, _, _, _, _, _, rfl⟩, hp2⟩
    · have hw : ∀ s', OutOk (callF bd (tab h).get fu (n + 10) 25 [] s') (fun x s'' => Is x (.bool true) ∧ Fr s' s'' []) := fun s' => wakes15 n s' hfu
      have h30 : ¬ (i < la.length) ∨ (i < la.length ∧ ¬ (i < ln.length)) ∨ (i < la.length ∧ i < ln.length ∧ ¬ (i < lt.length)) ∨ (i < la.length ∧ i < ln.length ∧ i < lt.length ∧ ¬ (i < 30)) := by omega
      rcases h30 with g1 | ⟨g1, g2⟩ | ⟨g1, g2, g3⟩ | ⟨g1, g2, g3, g4⟩
      all_goals
        simp (disch := omega) only [vm0, vm1, vm2, vm3, vm4, vm5, vm6, vm7, fPick, fBox, fBuild, fBsl, fLd, fLda, fSt, fNilc, fBin, fEq, fUn, fMkf, fFa, fFld, fFlda, fExt, evo, wr, wrC, frame, Bool.not_true, Bool.not_false, beq_self_eq_true, List.cons_append, List.nil_append, Nat.add_zero, Nat.zero_add, Nat.reduceAdd, Nat.reduceMul, Nat.reduceSub, Bool.and_true, Bool.true_and, Bool.and_self, beq_dec, fApp, Int.toNat_natCast, Nat.sub_zero, vc4_3, ha3.lenV, hn3.lenV, ht3.lenV]
        refine call_ok rfl rfl (hw s3) ?_
        rintro x s4 ⟨rfl, _⟩
        simp (disch := omega) only [vm0, vm1, vm2, vm3, vm4, vm5, vm6, vm7, fPick, fBox, fBuild, fBsl, fLd, fLda, fSt, fNilc, fBin, fEq, fUn, fMkf, fFa, fFld, fFlda, fExt, evo, wr, wrC, frame, Bool.not_true, Bool.not_false, beq_self_eq_true, List.cons_append, List.nil_append, Nat.add_zero, Nat.zero_add, Nat.reduceAdd, Nat.reduceMul, Nat.reduceSub, Bool.and_true, Bool.true_and, Bool.and_self, beq_dec, fApp, Int.toNat_natCast, Nat.sub_zero]
        exact rfl
end
end Go.Proofs.Ytekhpohcjfjhfaa.ctr
namespace Go.Proofs.Ytekhpohcjfjhfaa.flightPlaysRun
open Go.Vm Go.RowKit Go.Proofs.Ytekhpohcjfjhfaa.ctr
set_option linter.unusedVariables false
set_option linter.unusedSimpArgs false
theorem mixed : Try.prog.follows .mixedOrders = true := by kernel_rfl
theorem walk (a0 : Option Addr) (len0 cap0 : Nat) (z0 : List Int) (a1 : Option Addr) (len1 cap1 : Nat) (z1 : List Int) (a2 : Option Addr) (len2 cap2 : Nat) (z2 : List Int) (w : World) (hq0 : IsRowI w a0 len0 cap0 z0) (hq1 : IsRowI w a1 len1 cap1 z1) (hq2 : IsRowI w a2 len2 cap2 z2) :
    Calls Try.prog 4 #[.slice a0 len0 cap0, .slice a1 len1 cap1, .slice a2 len2 cap2] w fun e w' => e = .returned (.bool true) ∧ Below w.heap.size w w' := by
  obtain ⟨v0, E0, s0, g0, l0, f0, r0, d0, i0⟩ := (Arg0.start w).ints hq0
  obtain ⟨v1, E1, s1, g1, l1, f1, r1, d1, i1⟩ := g0.ints hq1
  obtain ⟨v2, E2, s2, g2, l2, f2, r2, d2, i2⟩ := g1.ints hq2
  have h := plays (bd := bd0) (h := vf97) (fu := 5000) 40 s2 v0 v1 v2 _ _ _ ((d0.fr0 f1).fr0 f2) (d1.fr0 f2) d2 i0 i1 i2 (by omega)
  exact law_okE bd0_ok mixed (tab_all rho0 vf97 (ok97 rho0)) (t4 vf97) g2.hr g2.own (.cons ((r0.mono l1).mono l2) (.cons (r1.mono l2) (.cons r2 .nil))) (yes_of' h fun _ _ h => h)
end Go.Proofs.Ytekhpohcjfjhfaa.flightPlaysRun
