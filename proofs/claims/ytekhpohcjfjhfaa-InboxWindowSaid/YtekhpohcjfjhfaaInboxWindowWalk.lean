/- InboxWindow, walked. -/
import Derived.Test.YtekhpohcjfjhfaaCtIn
import Derived.WalkKit
import Derived.ProofKit
namespace Go.Proofs.Ytekhpohcjfjhfaa.ctr
open Go.Vm Go.RowKit Go.Ranges
set_option linter.unusedVariables false
set_option linter.constructorNameAsVariable false
set_option linter.unusedSimpArgs false
/-- how many are new, when the first ones are and the others may not come -/
theorem Has.new_split {T : List Int} {i : IB} {w tk e : Int} {kn : Bool} {P : Int → Prop} (hi : Has T i w tk e kn P) {f : Int} {l : List Int} {m : Nat} (hm : m ≤ l.length) (h1 : ∀ p, f ≤ p → p < f + m → canP w tk e kn p ∧ ¬ P p) (h2 : ∀ p, f + m ≤ p → p < f + l.length → ¬ canP w tk e kn p) : i.new_ f l = m := by
  have hlen : (l.take m).length = m := by rw [List.length_take]; omega
  obtain ⟨g1, g2, g3, g4, g5, g6, g7, g8⟩ := feed_good hi.g f (l.take m)
  have ha := feed_all (l.take m) i f 0 hi.g fun p a b => ⟨(hi.can p).2 (h1 p a (by omega)).1, fun hmm => (h1 p a (by omega)).2 ((hi.m p).1 hmm)⟩
  obtain ⟨⟨i1, n1, a1⟩, hq⟩ : ∃ q, feed i f (l.take m) = q := ⟨_, rfl⟩
  have hq' : (l.take m).foldl fd (i, 0, f) = (i1, n1, a1) := hq
  rw [hq'] at ha
  rw [hq] at g1 g2 g3 g4 g5 g6 g7 g8
  dsimp only at ha g1 g2 g3 g4 g5 g6 g7 g8
  have hb := feed_none (l.drop m) i1 a1 n1 fun p a b => by
    rcases Bool.eq_false_or_eq_true (i1.may p) with hmm | hmm
    · have hc := (may_can.1 hmm).1
      have hc' : i.can p = true := by
        unfold IB.can IB.limit at hc ⊢
        rw [g5, g6, g7, g8] at hc
        exact hc
      rw [List.length_drop] at b
      exact absurd ((hi.can p).1 hc') (h2 p (by omega) (by omega))
    · exact hmm
  have : feed i f l = (l.drop m).foldl fd (i1, n1, a1) := by
    unfold feed
    rw [← hq', ← List.foldl_append, List.take_append_drop]
  unfold IB.new_
  rw [this, hb.1, ha]; omega
noncomputable def vc13t : VC := (.seq (.reg [.i (.len (.w 2)), .i (.bin .sub (.t 0) (.w 0)), .i (.mn [(.w 1), (.t 0)])] [(4, (.t 0))]) (.seq (.drw [.i (.mv (.w 3)), .i (.mv (.w 0)), .i (.mv (.w 2)), .i (.mv (.w 0)), .i (.sli 1 (.t 1) (some (.t 0)) none none), .i (.call (.c (.fn 65 [] [])) [(.t 4), (.t 3), (.t 0), (.c (.bool false))]), .i (.mv (.w 4)), .i (.bin .eql (.t 1) (.t 0)), .i (.mv (.t 0)), .g (.t 0) true (.mv (.w 3)), .g (.t 1) true (.call (.c (.fn 66 [] [])) [(.t 0)]), .g (.t 2) true (.mv (.w 0)), .g (.t 3) true (.mv (.w 4)), .g (.t 4) true (.bin .add (.t 1) (.t 0)), .g (.t 5) true (.bin .eql (.t 3) (.t 0)), .i (.pick (.t 6) (.t 0) (.c (.bool false))), .i (.mv (.t 0)), .g (.t 0) true (.mv (.w 3)), .g (.t 1) true (.call (.c (.fn 69 [] [])) [(.t 0), (.c (.int .i64 (.c 4096)))]), .g (.t 2) true (.mv (.w 2)), .g (.t 3) true (.mv (.w 1)), .g (.t 4) true (.mv (.w 0)), .g (.t 5) true (.mv (.w 4)), .g (.t 6) true (.bin .add (.t 1) (.t 0)), .g (.t 7) true (.sli 1 (.t 4) (some (.t 3)) (some (.t 0)) none), .g (.t 8) true (.call (.c (.fn 51 [] [])) [(.t 6), (.t 0)]), .i (.pick (.t 9) (.t 0) (.c (.bool false))), .i (.mv (.t 0)), .g (.t 0) true (.mv (.w 3)), .g (.t 1) true (.call (.c (.fn 68 [] [])) [(.t 0)]), .g (.t 2) true (.un .not (.t 0)), .i (.pick (.t 3) (.t 0) (.c (.bool false))), .i (.mv (.t 0)), .g (.t 0) true (.call (.c (.fn 71 [] [])) []), .i (.pick (.t 1) (.t 0) (.c (.bool false))), .i (.mv (.t 0))] [(7, (.t 0))] [⟨0, 0, 0⟩, ⟨0, 0, 0⟩, ⟨0, 0, 0⟩, ⟨0, 0, 0⟩, ⟨0, 0, 12⟩, ⟨0, 0, 31⟩, ⟨0, 0, 0⟩, ⟨0, 0, 127⟩, ⟨0, 0, 255⟩, ⟨0, 0, 511⟩, ⟨0, 0, 1023⟩, ⟨0, 0, 511⟩, ⟨0, 0, 511⟩, ⟨0, 0, 6655⟩, ⟨0, 0, 16383⟩, ⟨0, 0, 32767⟩, ⟨0, 0, 65535⟩, ⟨0, 0, 131071⟩, ⟨0, 0, 262143⟩, ⟨0, 0, 131071⟩, ⟨0, 0, 131071⟩, ⟨0, 0, 131071⟩, ⟨0, 0, 131071⟩, ⟨0, 0, 6422527⟩, ⟨0, 0, 16383999⟩, ⟨0, 0, 33554431⟩, ⟨0, 0, 67108863⟩, ⟨0, 0, 134217727⟩, ⟨0, 0, 268435455⟩, ⟨0, 0, 536870911⟩, ⟨0, 0, 1073741823⟩, ⟨0, 0, 2147483647⟩, ⟨0, 0, 4294967295⟩, ⟨0, 0, 8589934591⟩, ⟨0, 0, 17179869183⟩, ⟨0, 0, 34359738367⟩] 0) .ret))
noncomputable def vc13m : VC := (.seq (.seq (.drw [.i (.mv (.w 3)), .i (.mv (.w 1)), .i (.call (.c (.fn 69 [] [])) [(.t 1), (.t 0)]), .i (.mv (.w 2)), .i (.mv (.w 1)), .i (.sli 1 (.t 1) none (some (.t 0)) none), .i (.call (.c (.fn 51 [] [])) [(.t 3), (.t 0)]), .i (.un .not (.t 0)), .i (.mv (.t 0)), .g (.t 0) false (.mv (.w 3)), .g (.t 1) false (.call (.c (.fn 70 [] [])) [(.t 0)]), .g (.t 2) false (.mv (.w 0)), .g (.t 3) false (.mv (.w 1)), .g (.t 4) false (.bin .add (.t 1) (.t 0)), .g (.t 5) false (.bin .neq (.t 3) (.t 0)), .i (.pick (.t 6) (.c (.bool true)) (.t 0)), .i (.mv (.t 0)), .g (.t 0) false (.mv (.w 3)), .g (.t 1) false (.call (.c (.fn 67 [] [])) [(.t 0)]), .g (.t 2) false (.mv (.w 0)), .g (.t 3) false (.mv (.w 1)), .g (.t 4) false (.bin .sub (.t 1) (.t 0)), .g (.t 5) false (.bin .neq (.t 3) (.t 0)), .i (.pick (.t 6) (.c (.bool true)) (.t 0)), .i (.mv (.t 0)), .g (.t 0) false (.mv (.w 3)), .g (.t 1) false (.call (.c (.fn 72 [] [])) [(.t 0)]), .g (.t 2) false (.mv (.w 1)), .g (.t 3) false (.bin .neq (.t 1) (.t 0)), .i (.pick (.t 4) (.c (.bool true)) (.t 0)), .i (.mv (.t 0)), .g (.t 0) false (.mv (.w 3)), .g (.t 1) false (.call (.c (.fn 69 [] [])) [(.t 0), (.c (.int .i64 (.c 0)))]), .g (.t 2) false (.len (.t 0)), .g (.t 3) false (.bin .neq (.t 0) (.c (.int .i64 (.c 0)))), .i (.pick (.t 4) (.c (.bool true)) (.t 0)), .i (.mv (.t 0)), .g (.t 0) false (.mv (.w 3)), .g (.t 1) false (.mv (.w 1)), .g (.t 2) false (.un .neg (.t 0)), .g (.t 3) false (.call (.c (.fn 69 [] [])) [(.t 2), (.t 0)]), .g (.t 4) false (.len (.t 0)), .g (.t 5) false (.bin .neq (.t 0) (.c (.int .i64 (.c 0)))), .i (.pick (.t 6) (.c (.bool true)) (.t 0))] [(6, (.t 0))] [⟨0, 0, 0⟩, ⟨0, 0, 0⟩, ⟨0, 0, 3⟩, ⟨0, 0, 0⟩, ⟨0, 0, 0⟩, ⟨0, 0, 24⟩, ⟨0, 0, 63⟩, ⟨0, 0, 127⟩, ⟨0, 0, 255⟩, ⟨0, 0, 511⟩, ⟨0, 0, 1023⟩, ⟨0, 0, 511⟩, ⟨0, 0, 511⟩, ⟨0, 0, 6655⟩, ⟨0, 0, 16383⟩, ⟨0, 0, 32767⟩, ⟨0, 0, 65535⟩, ⟨0, 0, 131071⟩, ⟨0, 0, 262143⟩, ⟨0, 0, 131071⟩, ⟨0, 0, 131071⟩, ⟨0, 0, 1703935⟩, ⟨0, 0, 4194303⟩, ⟨0, 0, 8388607⟩, ⟨0, 0, 16777215⟩, ⟨0, 0, 33554431⟩, ⟨0, 0, 67108863⟩, ⟨0, 0, 33554431⟩, ⟨0, 0, 268435455⟩, ⟨0, 0, 536870911⟩, ⟨0, 0, 1073741823⟩, ⟨0, 0, 2147483647⟩, ⟨0, 0, 4294967295⟩, ⟨0, 0, 8589934591⟩, ⟨0, 0, 17179869183⟩, ⟨0, 0, 34359738367⟩, ⟨0, 0, 68719476735⟩, ⟨0, 0, 137438953471⟩, ⟨0, 0, 137438953471⟩, ⟨0, 0, 412316860415⟩, ⟨0, 0, 1099511627775⟩, ⟨0, 0, 2199023255551⟩, ⟨0, 0, 4398046511103⟩, ⟨0, 0, 8796093022207⟩] 0) (.cond (.w 6) (.seq (.reg [] [(7, (.c (.bool false)))]) .ret) .skip)) vc13t)
theorem vc13_eq : vc13 = (.seq (.reg [] [(7, (.c (.bool false)))]) (.seq (.reg [.i (.call (.c (.fn 17 [] [])) [(.w 0), (.c (.int .i64 (.c 30)))]), .i (.bin .add (.c (.int .i64 (.c 1))) (.t 0))] [(0, (.t 0))]) (.seq (.reg [.i (.call (.c (.fn 31 [] [])) [(.w 2), (.c (.int .i64 (.c 50)))]), .i (.apz 1 1 [.int .u8 (.c 0)] (.t 0) (.c (.int .i64 (.c 40))))] [(2, (.t 0))]) (.seq (.reg [.i (.call (.c (.fn 64 [] [])) [(.w 0)])] [(3, (.t 0))]) (.seq (.seq (.reg [.i (.eq false .p (.w 3) (.c (.nilp))), .g (.t 0) false (.mv (.w 3)), .g (.t 1) false (.call (.c (.fn 70 [] [])) [(.t 0)]), .g (.t 2) false (.mv (.w 0)), .g (.t 3) false (.bin .neq (.t 1) (.t 0)), .i (.pick (.t 4) (.c (.bool true)) (.t 0)), .g (.t 0) false (.mv (.w 3)), .g (.t 1) false (.mv (.w 2)), .g (.t 2) false (.call (.c (.fn 65 [] [])) [(.t 1), (.c (.int .i64 (.c 0))), (.t 0), (.c (.bool false))]), .g (.t 3) false (.mv (.w 0)), .g (.t 4) false (.bin .neq (.t 1) (.t 0)), .i (.pick (.t 5) (.c (.bool true)) (.t 0)), .g (.t 0) false (.mv (.w 3)), .g (.t 1) false (.call (.c (.fn 66 [] [])) [(.t 0)]), .g (.t 2) false (.mv (.w 0)), .g (.t 3) false (.bin .neq (.t 1) (.t 0)), .i (.pick (.t 4) (.c (.bool true)) (.t 0)), .g (.t 0) false (.mv (.w 3)), .g (.t 1) false (.call (.c (.fn 67 [] [])) [(.t 0)]), .g (.t 2) false (.mv (.w 0)), .g (.t 3) false (.bin .neq (.t 1) (.t 0)), .i (.pick (.t 4) (.c (.bool true)) (.t 0)), .g (.t 0) false (.mv (.w 3)), .g (.t 1) false (.mv (.w 2)), .g (.t 2) false (.call (.c (.fn 65 [] [])) [(.t 1), (.c (.int .i64 (.c 0))), (.t 0), (.c (.bool false))]), .g (.t 3) false (.bin .neq (.t 0) (.c (.int .i64 (.c 0)))), .i (.pick (.t 4) (.c (.bool true)) (.t 0))] [(5, (.t 0))]) (.cond (.w 5) (.seq (.reg [] [(7, (.c (.bool false)))]) .ret) .skip)) (.seq (.reg [.i (.call (.c (.fn 17 [] [])) [(.w 1), (.w 0)]), .i (.bin .add (.c (.int .i64 (.c 1))) (.t 0))] [(1, (.t 0))]) vc13m)))))) := rfl
section
variable {bd : Bd} {h : VF} {fu : Nat}
set_option maxHeartbeats 1000000 in
theorem win_t (hs : SortOk h) (n : Nat) (s2 s : St) (W M N : Int) (p : Nat) (v2 : AV) (B : List Int) (hrd : RdE s2 v2 1 encB B) (hN : (B.length : Int) = N) (hN2 : 40 ≤ N ∧ N ≤ 90) (hW2 : 1 ≤ W ∧ W ≤ 30) (hM2 : 1 ≤ M ∧ M ≤ W) (hfu : 4000 < fu) (i5 : IB) (hS11 : Sep s2 s [oI p i5]) (H5 : Has B i5 W M 0 false (fun p => 0 ≤ p ∧ p < W)) :
    RsOk (exec bd (callF bd (tab h).get fu (n + 8)) fu vc13t [some (num W), some (num M), some v2, some (.ptr p 0), none, some (.bool false), some (.bool false), some (.bool false)] s) (retQ [.tmp 7] fun x s' => Is x (.bool true)) := by
  have e2 := hrd.lenV
  rw [hN] at e2
  obtain ⟨D, hD⟩ : ∃ D, min M (N - W) = D := ⟨_, rfl⟩
  have hD2 : 0 ≤ D ∧ D ≤ M ∧ W + D ≤ N ∧ (D = M ∨ D = N - W) := by omega
  obtain ⟨u2, g2, k5⟩ := hrd.sliL (a := W) (by omega) (by omega)
  simp (disch := omega) only [vm0, vm1, vm2, vm3, vm4, vm5, vm6, vm7, fPick, fBox, fBuild, fBsl, fLd, fLda, fSt, fNilc, fBin, fEq, fUn, fMkf, fFa, fFld, fFlda, fExt, evo, wr, wrC, frame, Bool.not_true, Bool.not_false, beq_self_eq_true, List.cons_append, List.nil_append, Nat.add_zero, Nat.zero_add, Nat.reduceAdd, Nat.reduceMul, Nat.reduceSub, Bool.and_true, Bool.true_and, Bool.and_self, beq_dec, fApp, Int.toNat_natCast, Nat.sub_zero, vmI, vc13t, e2, hD, g2]
  have l2 : ((B.drop W.toNat).length : Int) = N - W := by simp; omega
  refine call_ok rfl rfl (e_put hs (n + 2) s p i5 [] W u2 _ false hS11 H5.g (by omega) k5 (by omega) hfu) ?_
  rintro x s12 ⟨rfl, hS12⟩
  have H6 := H5.put (piece_drop (T := B) (a := W) (by omega))
  have n6 := H5.new_split (f := W) (l := B.drop W.toNat) (m := D.toNat) (by omega) (fun p a b => ⟨⟨by omega, by omega, by simp⟩, fun h => by omega⟩) (fun p a b => by simp only [canP]; omega)
  rw [n6, show (D.toNat : Int) = D by omega]
  rw [l2] at H6
  generalize i5.put W (B.drop W.toNat) false = i6 at H6 hS12
  replace H6 := H6.congr (Q := fun p => 0 ≤ p ∧ p < W + D) (fun p => ⟨fun h => by rcases h with h | ⟨_, _, _, h', _⟩ <;> omega, fun h => by
    by_cases hh : p < W
    · exact .inl (by omega)
    · exact .inr ⟨by omega, by omega, by omega, by omega, by simp⟩⟩)
  have f6 := H6.front (n := W + D) (by omega) (fun p h1 h2 => ⟨h1, h2⟩) (by omega)
  have se6 : i6.seen = W + D := by rw [H6.seen f6, if_neg (by simp)]
  simp (disch := omega) only [vm0, vm1, vm2, vm3, vm4, vm5, vm6, vm7, fPick, fBox, fBuild, fBsl, fLd, fLda, fSt, fNilc, fBin, fEq, fUn, fMkf, fFa, fFld, fFlda, fExt, evo, wr, wrC, frame, Bool.not_true, Bool.not_false, beq_self_eq_true, List.cons_append, List.nil_append, Nat.add_zero, Nat.zero_add, Nat.reduceAdd, Nat.reduceMul, Nat.reduceSub, Bool.and_true, Bool.true_and, Bool.and_self, beq_dec, fApp, Int.toNat_natCast, Nat.sub_zero, vmI]
  refine call_ok rfl rfl (e_seen (n + 4) s12 p i6 [] hS12 H6.g) ?_
  rintro x s13 ⟨rfl, hS13⟩
  rw [se6]
  simp (disch := omega) only [vm0, vm1, vm2, vm3, vm4, vm5, vm6, vm7, fPick, fBox, fBuild, fBsl, fLd, fLda, fSt, fNilc, fBin, fEq, fUn, fMkf, fFa, fFld, fFlda, fExt, evo, wr, wrC, frame, Bool.not_true, Bool.not_false, beq_self_eq_true, List.cons_append, List.nil_append, Nat.add_zero, Nat.zero_add, Nat.reduceAdd, Nat.reduceMul, Nat.reduceSub, Bool.and_true, Bool.true_and, Bool.and_self, beq_dec, fApp, Int.toNat_natCast, Nat.sub_zero, vmI]
  refine call_ok rfl rfl (e_read (n + 3) s13 p i6 [] 4096 hS13 H6.g) ?_
  rintro x s14 ⟨k6, hS14⟩
  have hn6 : i6.n_ 4096 = W + D - M := by rw [H6.n_ f6]; omega
  have H7 := H6.read hn6 (by omega)
  have ho6 : i6.out 4096 = (B.take (W + D).toNat).drop M.toNat := by rw [H6.out hn6, show M + (W + D - M) = W + D by omega]
  rw [ho6] at k6
  replace hS14 := hS14.drop
  generalize i6.read 4096 = i7 at H7 hS14
  obtain ⟨u3, g3, k7⟩ := hrd.sli' (a := M) (b := W + D) (by omega) (by omega) (by omega)
  simp (disch := omega) only [vm0, vm1, vm2, vm3, vm4, vm5, vm6, vm7, fPick, fBox, fBuild, fBsl, fLd, fLda, fSt, fNilc, fBin, fEq, fUn, fMkf, fFa, fFld, fFlda, fExt, evo, wr, wrC, frame, Bool.not_true, Bool.not_false, beq_self_eq_true, List.cons_append, List.nil_append, Nat.add_zero, Nat.zero_add, Nat.reduceAdd, Nat.reduceMul, Nat.reduceSub, Bool.and_true, Bool.true_and, Bool.and_self, beq_dec, fApp, Int.toNat_natCast, Nat.sub_zero, vmI, g3]
  refine call_ok rfl rfl (sameB (n + 7) s14 _ u3 _ _ k6 (k7.fr0 hS14.frm) (by simp; omega) (by simp; omega)) ?_
  rintro x s14 ⟨rfl, rfl⟩
  have do7 : i7.done = false := by rw [H7.done]; rfl
  simp (disch := omega) only [vm0, vm1, vm2, vm3, vm4, vm5, vm6, vm7, fPick, fBox, fBuild, fBsl, fLd, fLda, fSt, fNilc, fBin, fEq, fUn, fMkf, fFa, fFld, fFlda, fExt, evo, wr, wrC, frame, Bool.not_true, Bool.not_false, beq_self_eq_true, List.cons_append, List.nil_append, Nat.add_zero, Nat.zero_add, Nat.reduceAdd, Nat.reduceMul, Nat.reduceSub, Bool.and_true, Bool.true_and, Bool.and_self, beq_dec, fApp, Int.toNat_natCast, Nat.sub_zero, vmI, decide_true]
  refine call_ok rfl rfl (e_done (n + 7) s14 p i7 [] hS14) ?_
  rintro x s14 ⟨rfl, rfl⟩
  rw [do7]
  simp (disch := omega) only [vm0, vm1, vm2, vm3, vm4, vm5, vm6, vm7, fPick, fBox, fBuild, fBsl, fLd, fLda, fSt, fNilc, fBin, fEq, fUn, fMkf, fFa, fFld, fFlda, fExt, evo, wr, wrC, frame, Bool.not_true, Bool.not_false, beq_self_eq_true, List.cons_append, List.nil_append, Nat.add_zero, Nat.zero_add, Nat.reduceAdd, Nat.reduceMul, Nat.reduceSub, Bool.and_true, Bool.true_and, Bool.and_self, beq_dec, fApp, Int.toNat_natCast, Nat.sub_zero, vmI]
  refine call_ok rfl rfl (wakes16 hs (n + 1) s14 hfu) ?_
  rintro x s15 rfl
  simp (disch := omega) only [vm0, vm1, vm2, vm3, vm4, vm5, vm6, vm7, fPick, fBox, fBuild, fBsl, fLd, fLda, fSt, fNilc, fBin, fEq, fUn, fMkf, fFa, fFld, fFlda, fExt, evo, wr, wrC, frame, Bool.not_true, Bool.not_false, beq_self_eq_true, List.cons_append, List.nil_append, Nat.add_zero, Nat.zero_add, Nat.reduceAdd, Nat.reduceMul, Nat.reduceSub, Bool.and_true, Bool.true_and, Bool.and_self, beq_dec, fApp, Int.toNat_natCast, Nat.sub_zero, vmI]
  exact rfl
set_option maxHeartbeats 1000000 in
theorem win_m (hs : SortOk h) (n : Nat) (s2 s : St) (W M N : Int) (p : Nat) (v2 : AV) (B : List Int) (hrd : RdE s2 v2 1 encB B) (hN : (B.length : Int) = N) (hN2 : 40 ≤ N ∧ N ≤ 90) (hW2 : 1 ≤ W ∧ W ≤ 30) (hM2 : 1 ≤ M ∧ M ≤ W) (hfu : 4000 < fu) (i2 : IB) (hS7 : Sep s2 s [oI p i2]) (H2 : Has B i2 W 0 0 false (fun p => 0 ≤ p ∧ p < W)) :
    RsOk (exec bd (callF bd (tab h).get fu (n + 8)) fu vc13m [some (num W), some (num M), some v2, some (.ptr p 0), none, some (.bool false), none, some (.bool false)] s) (retQ [.tmp 7] fun x s' => Is x (.bool true)) := by
  have e2 := hrd.lenV
  rw [hN] at e2
  simp (disch := omega) only [vm0, vm1, vm2, vm3, vm4, vm5, vm6, vm7, fPick, fBox, fBuild, fBsl, fLd, fLda, fSt, fNilc, fBin, fEq, fUn, fMkf, fFa, fFld, fFlda, fExt, evo, wr, wrC, frame, Bool.not_true, Bool.not_false, beq_self_eq_true, List.cons_append, List.nil_append, Nat.add_zero, Nat.zero_add, Nat.reduceAdd, Nat.reduceMul, Nat.reduceSub, Bool.and_true, Bool.true_and, Bool.and_self, beq_dec, fApp, Int.toNat_natCast, Nat.sub_zero, vmI, vc13m]
  have f2 := H2.front (n := W) (by omega) (fun p h1 h2 => ⟨h1, h2⟩) (by omega)
  refine call_ok rfl rfl (e_read (n + 3) s p i2 [] M hS7 H2.g) ?_
  rintro x s8 ⟨k1, hS8⟩
  have hn2 : i2.n_ M = M := by rw [H2.n_ f2]; omega
  have H3 := H2.read hn2 (by omega)
  have ho2 : i2.out M = B.take M.toNat := by rw [H2.out hn2, show ((0 : Int) + M).toNat = M.toNat by omega]; rfl
  rw [ho2] at k1
  replace hS8 := hS8.drop
  generalize i2.read M = i3 at H3 hS8
  rw [show 0 + M = M by omega] at H3
  obtain ⟨u1, g1, k2⟩ := hrd.sliH (b := M) (by omega) (by omega)
  simp (disch := omega) only [vm0, vm1, vm2, vm3, vm4, vm5, vm6, vm7, fPick, fBox, fBuild, fBsl, fLd, fLda, fSt, fNilc, fBin, fEq, fUn, fMkf, fFa, fFld, fFlda, fExt, evo, wr, wrC, frame, Bool.not_true, Bool.not_false, beq_self_eq_true, List.cons_append, List.nil_append, Nat.add_zero, Nat.zero_add, Nat.reduceAdd, Nat.reduceMul, Nat.reduceSub, Bool.and_true, Bool.true_and, Bool.and_self, beq_dec, fApp, Int.toNat_natCast, Nat.sub_zero, vmI, g1]
  refine call_ok rfl rfl (sameB (n + 7) s8 _ u1 _ _ k1 (k2.fr0 hS8.frm) (by simp; omega) (by simp; omega)) ?_
  rintro x s8 ⟨rfl, rfl⟩
  have f3 := H3.front (n := W) (by omega) (fun p h1 h2 => ⟨h1, h2⟩) (by omega)
  have re3 : i3.ready = W - M := by rw [H3.ready f3]
  have li3 : i3.limit = W + M := by rw [H3.limit]; omega
  simp (disch := omega) only [vm0, vm1, vm2, vm3, vm4, vm5, vm6, vm7, fPick, fBox, fBuild, fBsl, fLd, fLda, fSt, fNilc, fBin, fEq, fUn, fMkf, fFa, fFld, fFlda, fExt, evo, wr, wrC, frame, Bool.not_true, Bool.not_false, beq_self_eq_true, List.cons_append, List.nil_append, Nat.add_zero, Nat.zero_add, Nat.reduceAdd, Nat.reduceMul, Nat.reduceSub, Bool.and_true, Bool.true_and, Bool.and_self, beq_dec, fApp, Int.toNat_natCast, Nat.sub_zero, vmI, decide_true]
  refine call_ok rfl rfl (e_limit (n + 7) s8 p i3 [] hS8 H3.g) ?_
  rintro x s8 ⟨rfl, rfl⟩
  rw [li3]
  simp (disch := omega) only [vm0, vm1, vm2, vm3, vm4, vm5, vm6, vm7, fPick, fBox, fBuild, fBsl, fLd, fLda, fSt, fNilc, fBin, fEq, fUn, fMkf, fFa, fFld, fFlda, fExt, evo, wr, wrC, frame, Bool.not_true, Bool.not_false, beq_self_eq_true, List.cons_append, List.nil_append, Nat.add_zero, Nat.zero_add, Nat.reduceAdd, Nat.reduceMul, Nat.reduceSub, Bool.and_true, Bool.true_and, Bool.and_self, beq_dec, fApp, Int.toNat_natCast, Nat.sub_zero, vmI]
  refine call_ok rfl rfl (e_ready (n + 4) s8 p i3 [] hS8 H3.g) ?_
  rintro x s9 ⟨rfl, hS9⟩
  rw [re3]
  simp (disch := omega) only [vm0, vm1, vm2, vm3, vm4, vm5, vm6, vm7, fPick, fBox, fBuild, fBsl, fLd, fLda, fSt, fNilc, fBin, fEq, fUn, fMkf, fFa, fFld, fFlda, fExt, evo, wr, wrC, frame, Bool.not_true, Bool.not_false, beq_self_eq_true, List.cons_append, List.nil_append, Nat.add_zero, Nat.zero_add, Nat.reduceAdd, Nat.reduceMul, Nat.reduceSub, Bool.and_true, Bool.true_and, Bool.and_self, beq_dec, fApp, Int.toNat_natCast, Nat.sub_zero, vmI]
  refine call_ok rfl rfl (e_taken (n + 7) s9 p i3 [] hS9) ?_
  rintro x s9 ⟨rfl, rfl⟩
  rw [H3.tk]
  simp (disch := omega) only [vm0, vm1, vm2, vm3, vm4, vm5, vm6, vm7, fPick, fBox, fBuild, fBsl, fLd, fLda, fSt, fNilc, fBin, fEq, fUn, fMkf, fFa, fFld, fFlda, fExt, evo, wr, wrC, frame, Bool.not_true, Bool.not_false, beq_self_eq_true, List.cons_append, List.nil_append, Nat.add_zero, Nat.zero_add, Nat.reduceAdd, Nat.reduceMul, Nat.reduceSub, Bool.and_true, Bool.true_and, Bool.and_self, beq_dec, fApp, Int.toNat_natCast, Nat.sub_zero, vmI]
  refine call_ok rfl rfl (e_read (n + 3) s9 p i3 [] 0 hS9 H3.g) ?_
  rintro x s10 ⟨k3, hS10⟩
  have hn3 : i3.n_ 0 = 0 := by rw [H3.n_ f3]; omega
  have H4 := H3.read hn3 (by omega)
  have ho3 : i3.out 0 = [] := by rw [H3.out hn3]; apply List.drop_eq_nil_of_le; rw [List.length_take]; omega
  rw [ho3] at k3
  have e3 := k3.lenV
  simp only [List.length_nil, Int.natCast_zero] at e3
  replace hS10 := hS10.drop
  generalize i3.read 0 = i4 at H4 hS10
  rw [show M + 0 = M by omega] at H4
  have f4 := H4.front (n := W) (by omega) (fun p h1 h2 => ⟨h1, h2⟩) (by omega)
  simp (disch := omega) only [vm0, vm1, vm2, vm3, vm4, vm5, vm6, vm7, fPick, fBox, fBuild, fBsl, fLd, fLda, fSt, fNilc, fBin, fEq, fUn, fMkf, fFa, fFld, fFlda, fExt, evo, wr, wrC, frame, Bool.not_true, Bool.not_false, beq_self_eq_true, List.cons_append, List.nil_append, Nat.add_zero, Nat.zero_add, Nat.reduceAdd, Nat.reduceMul, Nat.reduceSub, Bool.and_true, Bool.true_and, Bool.and_self, beq_dec, fApp, Int.toNat_natCast, Nat.sub_zero, vmI, e3]
  refine call_ok rfl rfl (e_read (n + 3) s10 p i4 [] (0 - M) hS10 H4.g) ?_
  rintro x s11 ⟨k4, hS11⟩
  have hn4 : i4.n_ (0 - M) = 0 := by rw [H4.n_ f4]; omega
  have H5 := H4.read hn4 (by omega)
  have ho4 : i4.out (0 - M) = [] := by rw [H4.out hn4]; apply List.drop_eq_nil_of_le; rw [List.length_take]; omega
  rw [ho4] at k4
  have e4 := k4.lenV
  simp only [List.length_nil, Int.natCast_zero] at e4
  replace hS11 := hS11.drop
  generalize i4.read (0 - M) = i5 at H5 hS11
  rw [show M + 0 = M by omega] at H5
  simp (disch := omega) only [vm0, vm1, vm2, vm3, vm4, vm5, vm6, vm7, fPick, fBox, fBuild, fBsl, fLd, fLda, fSt, fNilc, fBin, fEq, fUn, fMkf, fFa, fFld, fFlda, fExt, evo, wr, wrC, frame, Bool.not_true, Bool.not_false, beq_self_eq_true, List.cons_append, List.nil_append, Nat.add_zero, Nat.zero_add, Nat.reduceAdd, Nat.reduceMul, Nat.reduceSub, Bool.and_true, Bool.true_and, Bool.and_self, beq_dec, fApp, Int.toNat_natCast, Nat.sub_zero, vmI, e4]
  exact win_t hs n s2 s11 W M N p v2 B hrd hN hN2 hW2 hM2 hfu i5 hS11 H5
set_option maxHeartbeats 1000000 in
theorem windowed (hs : SortOk h) (n : Nat) (s : St) (w0 n0 : Int) (v : AV) (b : List Int) (hv : RdE s v 1 encB b) (hw : In64 w0) (hn : In64 n0) (hfu : 4000 < fu) :
    OutOk (callF bd (tab h).get fu (n + 9) 13 [num w0, num n0, v] s) (fun x s' => Is x (.bool true)) := by
  refine call_code (t13 h) rfl ?_
  rw [vc13_eq]
  simp (disch := omega) only [vm0, vm1, vm2, vm3, vm4, vm5, vm6, vm7, fPick, fBox, fBuild, fBsl, fLd, fLda, fSt, fNilc, fBin, fEq, fUn, fMkf, fFa, fFld, fFlda, fExt, evo, wr, wrC, frame, Bool.not_true, Bool.not_false, beq_self_eq_true, List.cons_append, List.nil_append, Nat.add_zero, Nat.zero_add, Nat.reduceAdd, Nat.reduceMul, Nat.reduceSub, Bool.and_true, Bool.true_and, Bool.and_self, beq_dec, fApp, Int.toNat_natCast, Nat.sub_zero, vmI]
  refine call_ok rfl rfl (withinP (n + 7) s w0 30 hw (by omega) (by omega)) ?_
  rintro x s ⟨rfl, rfl⟩
  obtain ⟨W, hW⟩ : ∃ W, 1 + w0 % 30 = W := ⟨_, rfl⟩
  have hW2 : 1 ≤ W ∧ W ≤ 30 := by omega
  simp (disch := omega) only [vm0, vm1, vm2, vm3, vm4, vm5, vm6, vm7, fPick, fBox, fBuild, fBsl, fLd, fLda, fSt, fNilc, fBin, fEq, fUn, fMkf, fFa, fFld, fFlda, fExt, evo, wr, wrC, frame, Bool.not_true, Bool.not_false, beq_self_eq_true, List.cons_append, List.nil_append, Nat.add_zero, Nat.zero_add, Nat.reduceAdd, Nat.reduceMul, Nat.reduceSub, Bool.and_true, Bool.true_and, Bool.and_self, beq_dec, fApp, Int.toNat_natCast, Nat.sub_zero, vmI, hW]
  refine call_ok rfl rfl (cutB (n + 6) s v b 50 (by omega) (by omega) hv) ?_
  rintro x s1 ⟨f1, q1, q2, q3⟩
  obtain ⟨b1, hb1⟩ : ∃ b1, b.take (Int.toNat 50) = b1 := ⟨_, rfl⟩
  have hbl : b1.length ≤ 50 := by rw [← hb1]; exact List.length_take_le _ _
  rw [hb1] at q1
  simp (disch := omega) only [vm0, vm1, vm2, vm3, vm4, vm5, vm6, vm7, fPick, fBox, fBuild, fBsl, fLd, fLda, fSt, fNilc, fBin, fEq, fUn, fMkf, fFa, fFld, fFlda, fExt, evo, wr, wrC, frame, Bool.not_true, Bool.not_false, beq_self_eq_true, List.cons_append, List.nil_append, Nat.add_zero, Nat.zero_add, Nat.reduceAdd, Nat.reduceMul, Nat.reduceSub, Bool.and_true, Bool.true_and, Bool.and_self, beq_dec, fApp, Int.toNat_natCast, Nat.sub_zero, vmI, fApz, rep_flat]
  refine op_app q1 (by (repeat' (first | exact Fr.refl | assumption | apply Fr.new' | apply Fr.mk' | apply Fr.put')) <;> (first | omega | (left; simp; done) | (right; simp only [next_put, next_new, next_mk]; omega) | (simp only [next_put, next_new, next_mk]; omega))) (new := List.replicate 40 (0 : Int)) rfl (by simp) (by simp; omega) ?_
  intro v2 s2 f2 q4 q5 q6
  obtain ⟨B, hB⟩ : ∃ B, b1 ++ List.replicate 40 (0 : Int) = B := ⟨_, rfl⟩
  obtain ⟨N, hN⟩ : ∃ N : Int, (B.length : Int) = N := ⟨_, rfl⟩
  have hN2 : 40 ≤ N ∧ N ≤ 90 := by rw [← hN, ← hB]; simp; omega
  rw [hB] at q4
  have hrd := q4.rd
  clear hB hb1 q1
  have hS0 : Sep s2 s2 [] := .nil
  have e2 := hrd.lenV
  rw [hN] at e2
  simp (disch := omega) only [vm0, vm1, vm2, vm3, vm4, vm5, vm6, vm7, fPick, fBox, fBuild, fBsl, fLd, fLda, fSt, fNilc, fBin, fEq, fUn, fMkf, fFa, fFld, fFlda, fExt, evo, wr, wrC, frame, Bool.not_true, Bool.not_false, beq_self_eq_true, List.cons_append, List.nil_append, Nat.add_zero, Nat.zero_add, Nat.reduceAdd, Nat.reduceMul, Nat.reduceSub, Bool.and_true, Bool.true_and, Bool.and_self, beq_dec, fApp, Int.toNat_natCast, Nat.sub_zero, vmI]
  refine call_ok rfl rfl (i_new (n + 6) s2 W) ?_
  rintro x s3 ⟨p, fp, rfl, r1, r2, r3⟩
  have hS3 := hS0.push (P := oI p _) r1 r2 r3
  have H0 := Has.new B W
  rw [show min (max W 1) 400 = W by omega] at H0 hS3
  generalize (⟨[], [], W, 0, 0, false⟩ : IB) = i0 at H0 hS3
  simp (disch := omega) only [vm0, vm1, vm2, vm3, vm4, vm5, vm6, vm7, fPick, fBox, fBuild, fBsl, fLd, fLda, fSt, fNilc, fBin, fEq, fUn, fMkf, fFa, fFld, fFlda, fExt, evo, wr, wrC, frame, Bool.not_true, Bool.not_false, beq_self_eq_true, List.cons_append, List.nil_append, Nat.add_zero, Nat.zero_add, Nat.reduceAdd, Nat.reduceMul, Nat.reduceSub, Bool.and_true, Bool.true_and, Bool.and_self, beq_dec, fApp, Int.toNat_natCast, Nat.sub_zero, vmI]
  refine call_ok rfl rfl (e_limit (n + 7) s3 p i0 [] hS3 H0.g) ?_
  rintro x s3 ⟨rfl, rfl⟩
  rw [H0.limit, show 0 + W = W by omega]
  simp (disch := omega) only [vm0, vm1, vm2, vm3, vm4, vm5, vm6, vm7, fPick, fBox, fBuild, fBsl, fLd, fLda, fSt, fNilc, fBin, fEq, fUn, fMkf, fFa, fFld, fFlda, fExt, evo, wr, wrC, frame, Bool.not_true, Bool.not_false, beq_self_eq_true, List.cons_append, List.nil_append, Nat.add_zero, Nat.zero_add, Nat.reduceAdd, Nat.reduceMul, Nat.reduceSub, Bool.and_true, Bool.true_and, Bool.and_self, beq_dec, fApp, Int.toNat_natCast, Nat.sub_zero, vmI]
  refine call_ok rfl rfl (e_put hs (n + 2) s3 p i0 [] 0 v2 _ false hS3 H0.g (by omega) hrd (by omega) hfu) ?_
  rintro x s4 ⟨rfl, hS4⟩
  have H1 := H0.put (piece_all (T := B))
  have n1 := H0.new_split (f := 0) (l := B) (m := W.toNat) (by omega) (fun p a b => ⟨⟨a, by omega, by simp⟩, fun h => h⟩) (fun p a b => by simp only [canP]; omega)
  rw [n1, show (W.toNat : Int) = W by omega]
  generalize i0.put 0 B false = i1 at H1 hS4
  replace H1 := H1.congr (Q := fun p => 0 ≤ p ∧ p < W) (fun p => ⟨fun h => by rcases h with h | ⟨_, _, h, h', _⟩; (· exact h.elim); (· omega), fun h => .inr ⟨by omega, by omega, by omega, by omega, by simp⟩⟩)
  have f1 := H1.front (n := W) (by omega) (fun p h1 h2 => ⟨h1, h2⟩) (by omega)
  have se1 : i1.seen = W := by rw [H1.seen f1, if_neg (by simp)]
  have re1 : i1.ready = W := by rw [H1.ready f1]; omega
  simp (disch := omega) only [vm0, vm1, vm2, vm3, vm4, vm5, vm6, vm7, fPick, fBox, fBuild, fBsl, fLd, fLda, fSt, fNilc, fBin, fEq, fUn, fMkf, fFa, fFld, fFlda, fExt, evo, wr, wrC, frame, Bool.not_true, Bool.not_false, beq_self_eq_true, List.cons_append, List.nil_append, Nat.add_zero, Nat.zero_add, Nat.reduceAdd, Nat.reduceMul, Nat.reduceSub, Bool.and_true, Bool.true_and, Bool.and_self, beq_dec, fApp, Int.toNat_natCast, Nat.sub_zero, vmI]
  refine call_ok rfl rfl (e_seen (n + 4) s4 p i1 [] hS4 H1.g) ?_
  rintro x s5 ⟨rfl, hS5⟩
  rw [se1]
  simp (disch := omega) only [vm0, vm1, vm2, vm3, vm4, vm5, vm6, vm7, fPick, fBox, fBuild, fBsl, fLd, fLda, fSt, fNilc, fBin, fEq, fUn, fMkf, fFa, fFld, fFlda, fExt, evo, wr, wrC, frame, Bool.not_true, Bool.not_false, beq_self_eq_true, List.cons_append, List.nil_append, Nat.add_zero, Nat.zero_add, Nat.reduceAdd, Nat.reduceMul, Nat.reduceSub, Bool.and_true, Bool.true_and, Bool.and_self, beq_dec, fApp, Int.toNat_natCast, Nat.sub_zero, vmI]
  refine call_ok rfl rfl (e_ready (n + 4) s5 p i1 [] hS5 H1.g) ?_
  rintro x s6 ⟨rfl, hS6⟩
  rw [re1]
  simp (disch := omega) only [vm0, vm1, vm2, vm3, vm4, vm5, vm6, vm7, fPick, fBox, fBuild, fBsl, fLd, fLda, fSt, fNilc, fBin, fEq, fUn, fMkf, fFa, fFld, fFlda, fExt, evo, wr, wrC, frame, Bool.not_true, Bool.not_false, beq_self_eq_true, List.cons_append, List.nil_append, Nat.add_zero, Nat.zero_add, Nat.reduceAdd, Nat.reduceMul, Nat.reduceSub, Bool.and_true, Bool.true_and, Bool.and_self, beq_dec, fApp, Int.toNat_natCast, Nat.sub_zero, vmI]
  refine call_ok rfl rfl (e_put hs (n + 2) s6 p i1 [] 0 v2 _ false hS6 H1.g (by omega) hrd (by omega) hfu) ?_
  rintro x s7 ⟨rfl, hS7⟩
  have H2 := H1.put (piece_all (T := B))
  have n2 := H1.new_none (f := 0) (l := B) (fun p a b c => ⟨a, by have := c.2.1; omega⟩)
  rw [n2]
  generalize i1.put 0 B false = i2 at H2 hS7
  replace H2 := H2.congr (Q := fun p => 0 ≤ p ∧ p < W) (fun p => ⟨fun h => by rcases h with h | ⟨_, _, h, h', _⟩ <;> omega, fun h => .inl h⟩)
  simp (disch := omega) only [vm0, vm1, vm2, vm3, vm4, vm5, vm6, vm7, fPick, fBox, fBuild, fBsl, fLd, fLda, fSt, fNilc, fBin, fEq, fUn, fMkf, fFa, fFld, fFlda, fExt, evo, wr, wrC, frame, Bool.not_true, Bool.not_false, beq_self_eq_true, List.cons_append, List.nil_append, Nat.add_zero, Nat.zero_add, Nat.reduceAdd, Nat.reduceMul, Nat.reduceSub, Bool.and_true, Bool.true_and, Bool.and_self, beq_dec, fApp, Int.toNat_natCast, Nat.sub_zero, vmI]
  refine call_ok rfl rfl (withinP (n + 7) s7 n0 W hn (by omega) (by omega)) ?_
  rintro x s7 ⟨rfl, rfl⟩
  have hm0 := Int.emod_nonneg n0 (show W ≠ 0 by omega)
  have hm1 := Int.emod_lt_of_pos n0 (show 0 < W by omega)
  obtain ⟨M, hM⟩ : ∃ M, 1 + n0 % W = M := ⟨_, rfl⟩
  have hM2 : 1 ≤ M ∧ M ≤ W := by omega
  clear hm0 hm1
  simp (disch := omega) only [vm0, vm1, vm2, vm3, vm4, vm5, vm6, vm7, fPick, fBox, fBuild, fBsl, fLd, fLda, fSt, fNilc, fBin, fEq, fUn, fMkf, fFa, fFld, fFlda, fExt, evo, wr, wrC, frame, Bool.not_true, Bool.not_false, beq_self_eq_true, List.cons_append, List.nil_append, Nat.add_zero, Nat.zero_add, Nat.reduceAdd, Nat.reduceMul, Nat.reduceSub, Bool.and_true, Bool.true_and, Bool.and_self, beq_dec, fApp, Int.toNat_natCast, Nat.sub_zero, vmI, hM]
  exact win_m hs n s2 s7 W M N p v2 B hrd hN hN2 hW2 hM2 hfu i2 hS7 H2
end
end Go.Proofs.Ytekhpohcjfjhfaa.ctr
namespace Go.Proofs.Ytekhpohcjfjhfaa.inboxWindowRun
open Go.Vm Go.RowKit Go.Proofs.Ytekhpohcjfjhfaa.ctr
set_option linter.unusedVariables false
set_option linter.unusedSimpArgs false
theorem mixed : Try.prog.follows .mixedOrders = true := by kernel_rfl
theorem walk (a0 : Int) (a1 : Int) (a2 : Option Addr) (len2 cap2 : Nat) (z2 : List Int) (w : World) (w0 : (Lit.int .i64 a0).wf = true) (w1 : (Lit.int .i64 a1).wf = true) (hq2 : IsRow8 w a2 len2 cap2 z2) :
    Calls Try.prog 13 #[.int .i64 a0, .int .i64 a1, .slice a2 len2 cap2] w fun e w' => e = .returned (.bool true) ∧ Below w.heap.size w w' := by
  obtain ⟨v2, E2, s2, g2, l2, f2, r2, d2, i2⟩ := (Arg0.start w).bytes hq2
  have h := windowed srt_ok (bd := bd0) (h := srt) (fu := 5000) 40 s2 a0 a1 v2 _ d2  (wf64 w0) (wf64 w1) (by omega)
  exact law_okE bd0_ok mixed (tabS_all rho0) (t13 srt) g2.hr g2.own (.cons vr_int (.cons vr_int (.cons r2 .nil))) (yes_of' h fun _ _ h => h)
end Go.Proofs.Ytekhpohcjfjhfaa.inboxWindowRun
