/- SpanBack, walked. -/
import Derived.Test.YtekhpohcjfjhfabCxSp
import Derived.WalkKit
import Derived.ProofKit
namespace Go.Proofs.Ytekhpohcjfjhfab.ctr
open Go Go.Vm Go.RowKit
set_option linter.unusedVariables false
set_option linter.constructorNameAsVariable false
set_option linter.unusedSimpArgs false
/-! ## what is written is read -/
theorem num_at {B P R : List Int} {m : Int} (hB : B = P ++ (putV m ++ R)) (h0 : 0 ≤ m) (h1 : m ≤ 4611686018427387903) : RD.num ⟨B, (P.length : Int), false⟩ = (m, ⟨B, ((P ++ putV m).length : Int), false⟩) := by
  have ht : RD.take ⟨B, (P.length : Int), false⟩ = (m, sizeV m, true) := by
    unfold RD.take
    dsimp only
    rw [Int.toNat_natCast, hB, List.drop_left, take_put h0 h1]
  have hl := putV_len m
  unfold RD.num
  rw [ht]
  dsimp only
  rw [if_neg (by simp), List.length_append]
  congr 2
  omega
theorem bytes_at {B P R T : List Int} {most : Int} (hB : B = P ++ (putV (T.length : Int) ++ (T ++ R))) (hm : (T.length : Int) ≤ most) (h1 : (T.length : Int) ≤ 4611686018427387903) : RD.bytes ⟨B, (P.length : Int), false⟩ most = (T, ⟨B, ((P ++ putV (T.length : Int) ++ T).length : Int), false⟩) := by
  have ht : RD.take ⟨B, (P.length : Int), false⟩ = ((T.length : Int), sizeV (T.length : Int), true) := by
    unfold RD.take
    dsimp only
    rw [Int.toNat_natCast, hB, List.drop_left, take_put (by omega) h1]
  have hl := putV_len (T.length : Int)
  have hBl : B.length = P.length + ((putV (T.length : Int)).length + (T.length + R.length)) := by rw [hB]; simp only [List.length_append]
  unfold RD.bytes
  rw [ht]
  dsimp only
  rw [if_neg (by simp; omega)]
  have e1 : ((P.length : Int) + sizeV (T.length : Int) + (T.length : Int)).toNat = (P ++ putV (T.length : Int) ++ T).length := by simp only [List.length_append]; omega
  have e2 : ((P.length : Int) + sizeV (T.length : Int)).toNat = (P ++ putV (T.length : Int)).length := by simp only [List.length_append]; omega
  rw [e1, e2]
  have hB2 : B = (P ++ putV (T.length : Int) ++ T) ++ R := by rw [hB]; simp [List.append_assoc]
  congr 1
  · rw [hB2, List.take_left, List.drop_left]
  · congr 1
    simp only [List.length_append]; omega
theorem byte_at {B P R : List Int} {c : Int} (hB : B = P ++ ([c] ++ R)) : RD.byte ⟨B, (P.length : Int), false⟩ = (c, ⟨B, ((P ++ [c]).length : Int), false⟩) := by
  have hBl : B.length = P.length + (1 + R.length) := by rw [hB]; simp only [List.length_append, List.length_cons, List.length_nil]
  unfold RD.byte
  dsimp only
  rw [if_neg (by simp; omega), Int.toNat_natCast, hB]
  congr 1
  · simp [List.getD]
  · congr 1
    simp only [List.length_append, List.length_cons, List.length_nil]; omega
def WW (c : Int) (l1 : List Int) (l2 : List A13) (k : Nat) : List Int := (ptsOf l1 l2 k).flatMap (seg c)
def ptA (l1 : List Int) (l2 : List A13) (k : Nat) : Int × List Int := (l1.getD k 0 % 1099511627776, ((l2.getD k ⟨.nils, []⟩).b).take 80)
theorem WW_succ (c : Int) (l1 : List Int) (l2 : List A13) (k : Nat) : WW c l1 l2 (k + 1) = WW c l1 l2 k ++ seg c (ptA l1 l2 k) := by
  unfold WW; rw [pts_succ, List.flatMap_append, List.flatMap_singleton]; rfl
theorem WW_split (c : Int) (l1 : List Int) (l2 : List A13) {i : Nat} : ∀ {N : Nat}, i < N → ∃ R, WW c l1 l2 N = WW c l1 l2 i ++ (seg c (ptA l1 l2 i) ++ R)
  | 0, h => by omega
  | N + 1, h => by
    by_cases hN : i = N
    · subst hN; exact ⟨[], by rw [WW_succ, List.append_nil]⟩
    · obtain ⟨R, hR⟩ := WW_split c l1 l2 (i := i) (N := N) (by omega)
      exact ⟨R ++ seg c (ptA l1 l2 N), by rw [WW_succ, hR]; simp [List.append_assoc]⟩
theorem ptA_len (l1 : List Int) (l2 : List A13) (k : Nat) : (ptA l1 l2 k).2.length ≤ 80 := List.length_take_le _ _
theorem WW_len (c : Int) (l1 : List Int) (l2 : List A13) : ∀ k, (WW c l1 l2 k).length ≤ 100 * k
  | 0 => by simp [WW, ptsOf]
  | k + 1 => by
    have h1 := WW_len c l1 l2 k
    have h2 := seg_len c (ptA l1 l2 k) (ptA_len _ _ _)
    rw [WW_succ, List.length_append]; omega
theorem seg_in {c : Int} (hc : In8 c) {p : Int × List Int} (hp : ∀ y ∈ p.2, In8 y) : ∀ x ∈ seg c p, In8 x := by
  intro x hx
  unfold seg at hx
  simp only [List.mem_append, List.mem_singleton] at hx
  rcases hx with (hx | hx | hx) | hx
  · exact putV_in _ x hx
  · exact putV_in _ x hx
  · exact hp x hx
  · subst hx; exact hc
theorem WW_in {c : Int} (hc : In8 c) {l1 : List Int} {l2 : List A13} (h2 : ∀ x ∈ l2, ∀ y ∈ x.b, In8 y) : ∀ k, ∀ x ∈ WW c l1 l2 k, In8 x
  | 0 => by intro x hx; simp [WW, ptsOf] at hx
  | k + 1 => by
    intro x hx
    rw [WW_succ] at hx
    rcases List.mem_append.1 hx with hx | hx
    · exact WW_in hc h2 k x hx
    · refine seg_in hc ?_ x hx
      intro y hy
      have hy := List.mem_of_mem_take hy
      rw [List.getD] at hy
      cases hq : l2[k]? with
      | none => rw [hq] at hy; simp at hy
      | some q => rw [hq] at hy; exact h2 q (List.mem_of_getElem? hq) y hy
section
variable {bd : Bd} {fu : Nat}
theorem back_2 (n : Nat) (s0 s : St) (v1 v2 b : AV) (c : Int) (i N p : Nat) (l1 : List Int) (l2 : List A13) (z4 z8 z9 z10 z11 z12 : Option AV) (hc : In8 c) (hv1 : RdE s0 v1 1 Vm.encI l1) (hv2 : RdE s0 v2 1 encL l2) (h1 : ∀ x ∈ l1, In64 x) (h2 : ∀ x ∈ l2, RdE s0 x.u 1 encB x.b ∧ ∀ y ∈ x.b, In8 y)
    (hi1 : i < l1.length) (hi2 : i < l2.length) (hiN : i < N) (hN : N ≤ 6) (hS : Sep s0 s [oR p ⟨WW c l1 l2 N, ((WW c l1 l2 i).length : Int), false⟩, oW b 1 encB (WW c l1 l2 N)]) (hfu : 4000 < fu) :
    RsOk (exec bd (callF bd tab.get fu (n + 5)) fu vc7_2 [some v1, some v2, some (byt c), some (.ptr p 0), z4, some (num (i : Int)), some b, some (num (N : Int)), z8, z9, z10, z11, z12, some (.bool false)] s)
      (fun e F s' => e = .normal ∧ (∃ z12, F = [some v1, some v2, some (byt c), some (.ptr p 0), z4, some (num (i : Int)), some b, some (num (N : Int)), z8, z9, z10, z11, z12, some (.bool false)]) ∧ Sep s0 s' [oR p ⟨WW c l1 l2 N, ((WW c l1 l2 (i + 1)).length : Int), false⟩, oW b 1 encB (WW c l1 l2 N)]) := by
  obtain ⟨x, hx⟩ : ∃ x, l1[i]? = some x := ⟨_, List.getElem?_eq_getElem hi1⟩
  obtain ⟨y, hy⟩ : ∃ y, l2[i]? = some y := ⟨_, List.getElem?_eq_getElem hi2⟩
  obtain ⟨R, hR⟩ := WW_split c l1 l2 hiN
  have hsu := WW_succ c l1 l2 i
  have hBl := WW_len c l1 l2 N
  have hBi := WW_in (l1 := l1) hc (fun x hx => (h2 x hx).2) N
  have hWl := WW_len c l1 l2 i
  have hpt : ptA l1 l2 i = (x % 1099511627776, y.b.take 80) := by unfold ptA; rw [List.getD, List.getD, hx, hy]; rfl
  rw [hpt] at hR hsu
  generalize WW c l1 l2 N = B at *
  rw [hsu]
  generalize WW c l1 l2 i = P at *
  have ht80 : (y.b.take 80).length ≤ 80 := List.length_take_le _ _
  have hx64 := h1 x (List.mem_of_getElem? hx)
  obtain ⟨hyr, hy8⟩ := h2 y (List.mem_of_getElem? hy)
  obtain ⟨m, hm⟩ : ∃ m, x % 1099511627776 = m := ⟨_, rfl⟩
  have hm0 : 0 ≤ m ∧ m < 1099511627776 := by omega
  rw [hm] at hR ⊢
  have ok1 : RD.Ok ⟨B, (P.length : Int), false⟩ := ⟨⟨by dsimp only; omega, by dsimp only; rw [hR, List.length_append]; omega⟩, hBi, by dsimp only; omega⟩
  have hn := num_at (B := B) (P := P) (m := m) (R := putV ((y.b.take 80).length : Int) ++ (y.b.take 80) ++ [c] ++ R) (by rw [hR]; unfold seg; simp [List.append_assoc]) hm0.1 (by omega)
  have hb := bytes_at (B := B) (P := P ++ putV m) (T := y.b.take 80) (R := [c] ++ R) (most := 80) (by rw [hR]; unfold seg; simp [List.append_assoc]) (by omega) (by omega)
  have hy1 := byte_at (B := B) (P := P ++ putV m ++ putV ((y.b.take 80).length : Int) ++ y.b.take 80) (c := c) (R := R) (by rw [hR]; unfold seg; simp [List.append_assoc])
  have hfin : P ++ putV m ++ putV ((y.b.take 80).length : Int) ++ y.b.take 80 ++ [c] = P ++ seg c (m, y.b.take 80) := by unfold seg; simp [List.append_assoc]
  have hBe : B.length = (P ++ seg c (m, y.b.take 80)).length + R.length := by rw [hR]; simp only [List.length_append]; omega
  rw [← hfin] at hBe ⊢
  have q1 := hv1.ia hx
  have q2 := hv2.ia hy
  have e0 := (hv1.fr0 hS.frm).at1 (f := num) hx
  have f0 := (hv2.fr0 hS.frm).fld0 hy (c := y.u) rfl
  simp (disch := omega) only [vm0, vm1, vm2, vm3, vm4, vm5, vm6, vm7, fPick, fBox, fBuild, fBsl, fLd, fLda, fSt, fNilc, fBin, fEq, fUn, fMkf, fFa, fFld, fFlda, fExt, evo, wr, wrC, frame, Bool.not_true, Bool.not_false, beq_self_eq_true, List.cons_append, List.nil_append, Nat.add_zero, Nat.zero_add, Nat.reduceAdd, Nat.reduceMul, Nat.reduceSub, Bool.and_true, Bool.true_and, Bool.and_self, beq_dec, fApp, Int.toNat_natCast, Nat.sub_zero, vmI, vc7_2]
  refine call_ok rfl rfl (r_num (n + 1) s p _ _ hS ok1 (by omega)) ?_
  rintro z s1 ⟨rfl, hS1⟩
  rw [hn] at hS1 ⊢
  dsimp only at hS1
  have e1 := (hv1.fr0 hS1.frm).at1 (f := num) hx
  have f1 := (hv2.fr0 hS1.frm).fld0 hy (c := y.u) rfl
  simp (disch := omega) only [vm0, vm1, vm2, vm3, vm4, vm5, vm6, vm7, fPick, fBox, fBuild, fBsl, fLd, fLda, fSt, fNilc, fBin, fEq, fUn, fMkf, fFa, fFld, fFlda, fExt, evo, wr, wrC, frame, Bool.not_true, Bool.not_false, beq_self_eq_true, List.cons_append, List.nil_append, Nat.add_zero, Nat.zero_add, Nat.reduceAdd, Nat.reduceMul, Nat.reduceSub, Bool.and_true, Bool.true_and, Bool.and_self, beq_dec, fApp, Int.toNat_natCast, Nat.sub_zero, vmI, q1, e1]
  refine call_ok rfl rfl (withinP (n + 4) s1 x 1099511627776 hx64 (by omega) (by omega)) ?_
  rintro z s1 ⟨rfl, rfl⟩
  rw [hm]
  simp (disch := omega) only [vm0, vm1, vm2, vm3, vm4, vm5, vm6, vm7, fPick, fBox, fBuild, fBsl, fLd, fLda, fSt, fNilc, fBin, fEq, fUn, fMkf, fFa, fFld, fFlda, fExt, evo, wr, wrC, frame, Bool.not_true, Bool.not_false, beq_self_eq_true, List.cons_append, List.nil_append, Nat.add_zero, Nat.zero_add, Nat.reduceAdd, Nat.reduceMul, Nat.reduceSub, Bool.and_true, Bool.true_and, Bool.and_self, beq_dec, fApp, Int.toNat_natCast, Nat.sub_zero, vmI, q1, e1]
  have ok2 : RD.Ok ⟨B, ((P ++ putV m).length : Int), false⟩ := ⟨⟨by dsimp only; omega, by dsimp only; simp only [List.length_append] at *; omega⟩, hBi, by dsimp only; omega⟩
  refine call_ok rfl rfl (r_bytes (n + 1) s1 p _ 80 _ hS1 ok2 (by omega) (by omega)) ?_
  rintro t s2 hS2
  rw [hb] at hS2
  dsimp only at hS2
  have e2 := (hv1.fr0 hS2.frm).at1 (f := num) hx
  have f2 := (hv2.fr0 hS2.frm).fld0 hy (c := y.u) rfl
  simp (disch := omega) only [vm0, vm1, vm2, vm3, vm4, vm5, vm6, vm7, fPick, fBox, fBuild, fBsl, fLd, fLda, fSt, fNilc, fBin, fEq, fUn, fMkf, fFa, fFld, fFlda, fExt, evo, wr, wrC, frame, Bool.not_true, Bool.not_false, beq_self_eq_true, List.cons_append, List.nil_append, Nat.add_zero, Nat.zero_add, Nat.reduceAdd, Nat.reduceMul, Nat.reduceSub, Bool.and_true, Bool.true_and, Bool.and_self, beq_dec, fApp, Int.toNat_natCast, Nat.sub_zero, vmI, q2, e2, f2]
  refine call_ok rfl rfl (cutB (n + 3) s2 y.u y.b 80 (by omega) (by omega) (hyr.fr0 hS2.frm)) ?_
  rintro t2 s3 ⟨ft, c1, c2, c3⟩
  have hte : y.b.take (80 : Int).toNat = y.b.take 80 := rfl
  rw [hte] at c1
  have hS3 := hS2.push (P := oW t2 1 encB (y.b.take 80)) c1 c2 c3
  have e3 := (hv1.fr0 hS3.frm).at1 (f := num) hx
  have f3 := (hv2.fr0 hS3.frm).fld0 hy (c := y.u) rfl
  simp (disch := omega) only [vm0, vm1, vm2, vm3, vm4, vm5, vm6, vm7, fPick, fBox, fBuild, fBsl, fLd, fLda, fSt, fNilc, fBin, fEq, fUn, fMkf, fFa, fFld, fFlda, fExt, evo, wr, wrC, frame, Bool.not_true, Bool.not_false, beq_self_eq_true, List.cons_append, List.nil_append, Nat.add_zero, Nat.zero_add, Nat.reduceAdd, Nat.reduceMul, Nat.reduceSub, Bool.and_true, Bool.true_and, Bool.and_self, beq_dec, fApp, Int.toNat_natCast, Nat.sub_zero, vmI, q2, e3, f3]
  refine call_ok rfl rfl (sameB (n + 4) s3 t t2 (y.b.take 80) (y.b.take 80) (Sep.rdW (((hS3.re ((List.perm_middle (l₁ := [_])).trans (.cons _ (.refl _))))))) hS3.rdW (by omega) (by omega)) ?_
  rintro z s3 ⟨rfl, rfl⟩
  have hde : decide (y.b.take 80 = y.b.take 80) = true := by simp
  rw [hde]
  simp (disch := omega) only [vm0, vm1, vm2, vm3, vm4, vm5, vm6, vm7, fPick, fBox, fBuild, fBsl, fLd, fLda, fSt, fNilc, fBin, fEq, fUn, fMkf, fFa, fFld, fFlda, fExt, evo, wr, wrC, frame, Bool.not_true, Bool.not_false, beq_self_eq_true, List.cons_append, List.nil_append, Nat.add_zero, Nat.zero_add, Nat.reduceAdd, Nat.reduceMul, Nat.reduceSub, Bool.and_true, Bool.true_and, Bool.and_self, beq_dec, fApp, Int.toNat_natCast, Nat.sub_zero, vmI, q2, e3, f3]
  have ok3 : RD.Ok ⟨B, ((P ++ putV m ++ putV ((y.b.take 80).length : Int) ++ y.b.take 80).length : Int), false⟩ := ⟨⟨by dsimp only; omega, by dsimp only; simp only [List.length_append] at *; omega⟩, hBi, by dsimp only; omega⟩
  refine call_ok rfl rfl (r_byte (n + 3) s3 p _ _ (((hS3.re ((List.perm_middle (l₁ := [_, _])).trans (.cons _ (.refl _)))))) ok3) ?_
  rintro z s4 ⟨rfl, hS4⟩
  rw [hy1] at hS4 ⊢
  dsimp only at hS4
  have e4 := (hv1.fr0 hS4.frm).at1 (f := num) hx
  have f4 := (hv2.fr0 hS4.frm).fld0 hy (c := y.u) rfl
  simp (disch := omega) only [vm0, vm1, vm2, vm3, vm4, vm5, vm6, vm7, fPick, fBox, fBuild, fBsl, fLd, fLda, fSt, fNilc, fBin, fEq, fUn, fMkf, fFa, fFld, fFlda, fExt, evo, wr, wrC, frame, Bool.not_true, Bool.not_false, beq_self_eq_true, List.cons_append, List.nil_append, Nat.add_zero, Nat.zero_add, Nat.reduceAdd, Nat.reduceMul, Nat.reduceSub, Bool.and_true, Bool.true_and, Bool.and_self, beq_dec, fApp, Int.toNat_natCast, Nat.sub_zero, vmI]
  refine call_ok rfl rfl (r_bad (n + 4) s4 p _ _ hS4) ?_
  rintro z s5 ⟨rfl, rfl⟩
  have hsm := sm_v hyr.rd.sl
  simp (disch := omega) only [vm0, vm1, vm2, vm3, vm4, vm5, vm6, vm7, fPick, fBox, fBuild, fBsl, fLd, fLda, fSt, fNilc, fBin, fEq, fUn, fMkf, fFa, fFld, fFlda, fExt, evo, wr, wrC, frame, Bool.not_true, Bool.not_false, beq_self_eq_true, List.cons_append, List.nil_append, Nat.add_zero, Nat.zero_add, Nat.reduceAdd, Nat.reduceMul, Nat.reduceSub, Bool.and_true, Bool.true_and, Bool.and_self, beq_dec, fApp, Int.toNat_natCast, Nat.sub_zero, vmI, e0, e1, e2, e3, e4, f0, f1, f2, f3, f4, hsm, rv_8]
  exact ⟨trivial, ⟨_, rfl⟩, ((hS4.re ((List.perm_middle (l₁ := [_])).trans (.cons _ ((List.perm_middle (l₁ := [_])).trans (.cons _ (.refl _)))))).drop.drop)⟩
theorem back (n : Nat) (s : St) (v1 v2 : AV) (c : Int) (l1 : List Int) (l2 : List A13) (hv1 : RdE s v1 1 Vm.encI l1) (hv2 : RdE s v2 1 encL l2) (h1 : ∀ x ∈ l1, In64 x) (h2 : ∀ x ∈ l2, RdE s x.u 1 encB x.b ∧ ∀ y ∈ x.b, In8 y) (hc : In8 c) (hfu : 4000 < fu) :
    OutOk (callF bd tab.get fu (n + 6) 7 [v1, v2, byt c] s) (fun x s' => Is x (.bool true)) := by
  refine call_code t7 rfl ?_
  have k1 := hv1.lenV
  have k2 := hv2.lenV
  obtain ⟨N, hN⟩ : ∃ N : Nat, min (min (l1.length : Int) (l2.length : Int)) 6 = (N : Int) := ⟨(min (min (l1.length : Int) (l2.length : Int)) 6).toNat, by omega⟩
  simp (disch := omega) only [vm0, vm1, vm2, vm3, vm4, vm5, vm6, vm7, fPick, fBox, fBuild, fBsl, fLd, fLda, fSt, fNilc, fBin, fEq, fUn, fMkf, fFa, fFld, fFlda, fExt, evo, wr, wrC, frame, Bool.not_true, Bool.not_false, beq_self_eq_true, List.cons_append, List.nil_append, Nat.add_zero, Nat.zero_add, Nat.reduceAdd, Nat.reduceMul, Nat.reduceSub, Bool.and_true, Bool.true_and, Bool.and_self, beq_dec, fApp, Int.toNat_natCast, Nat.sub_zero, vmI, vc7, k1, k2, hN]
  refine x_loop (fun m F s' => ∃ i : Nat, ∃ b z9, m = N - i ∧ i ≤ N ∧ F = [some v1, some v2, some (byt c), none, some (num (i : Int)), none, some b, some (num (N : Int)), none, z9, none, none, none, some (.bool false)] ∧ Sep s s' [oW b 1 encB (WW c l1 l2 i)]) N (by omega) ?_ ?_
  · exact ⟨0, .nils, _, by omega, by omega, rfl, Sep.push Sep.nil (P := oW .nils 1 encB _) (f := []) (.nil (by intro x; rfl) (by omega)) .refl (by simp [Nw])⟩
  · rintro m F s1 ⟨i, b, z9, rfl, hi, rfl, hS1⟩ hm
    by_cases hlt : i < N
    · simp (disch := omega) only [vm0, vm1, vm2, vm3, vm4, vm5, vm6, vm7, fPick, fBox, fBuild, fBsl, fLd, fLda, fSt, fNilc, fBin, fEq, fUn, fMkf, fFa, fFld, fFlda, fExt, evo, wr, wrC, frame, Bool.not_true, Bool.not_false, beq_self_eq_true, List.cons_append, List.nil_append, Nat.add_zero, Nat.zero_add, Nat.reduceAdd, Nat.reduceMul, Nat.reduceSub, Bool.and_true, Bool.true_and, Bool.and_self, beq_dec, fApp, Int.toNat_natCast, Nat.sub_zero, vmI, vc7_1]
      refine (back_1 n s s1 v1 v2 b c i N l1 l2 (WW c l1 l2 i) _ _ _ _ _ _ _ hv1 hv2 h1 h2 (by omega) (by omega) hS1 (by have := WW_len c l1 l2 i; omega) hfu).mono ?_
      rintro e F s2 ⟨rfl, b', rfl, hS2⟩
      simp (disch := omega) only [vm0, vm1, vm2, vm3, vm4, vm5, vm6, vm7, fPick, fBox, fBuild, fBsl, fLd, fLda, fSt, fNilc, fBin, fEq, fUn, fMkf, fFa, fFld, fFlda, fExt, evo, wr, wrC, frame, Bool.not_true, Bool.not_false, beq_self_eq_true, List.cons_append, List.nil_append, Nat.add_zero, Nat.zero_add, Nat.reduceAdd, Nat.reduceMul, Nat.reduceSub, Bool.and_true, Bool.true_and, Bool.and_self, beq_dec, fApp, Int.toNat_natCast, Nat.sub_zero, vmI]
      refine ⟨N - (i + 1), by omega, i + 1, b', _, rfl, by omega, rfl, ?_⟩
      rw [WW_succ]
      exact hS2
    · obtain rfl : i = N := by omega
      simp (disch := omega) only [vm0, vm1, vm2, vm3, vm4, vm5, vm6, vm7, fPick, fBox, fBuild, fBsl, fLd, fLda, fSt, fNilc, fBin, fEq, fUn, fMkf, fFa, fFld, fFlda, fExt, evo, wr, wrC, frame, Bool.not_true, Bool.not_false, beq_self_eq_true, List.cons_append, List.nil_append, Nat.add_zero, Nat.zero_add, Nat.reduceAdd, Nat.reduceMul, Nat.reduceSub, Bool.and_true, Bool.true_and, Bool.and_self, beq_dec, fApp, Int.toNat_natCast, Nat.sub_zero, vmI, vc7_1, vc7_5]
      have hBl := WW_len c l1 l2 i
      refine call_ok rfl rfl (r_new (n + 3) s1 _ b (WW c l1 l2 i) hS1 hS1.rdW (by omega)) ?_
      rintro y s2 ⟨p, rfl, hS2⟩
      simp (disch := omega) only [vm0, vm1, vm2, vm3, vm4, vm5, vm6, vm7, fPick, fBox, fBuild, fBsl, fLd, fLda, fSt, fNilc, fBin, fEq, fUn, fMkf, fFa, fFld, fFlda, fExt, evo, wr, wrC, frame, Bool.not_true, Bool.not_false, beq_self_eq_true, List.cons_append, List.nil_append, Nat.add_zero, Nat.zero_add, Nat.reduceAdd, Nat.reduceMul, Nat.reduceSub, Bool.and_true, Bool.true_and, Bool.and_self, beq_dec, fApp, Int.toNat_natCast, Nat.sub_zero, vmI]
      refine x_loop (fun m F s' => ∃ j : Nat, ∃ z11 z12, m = i - j ∧ j ≤ i ∧ F = [some v1, some v2, some (byt c), some (.ptr p 0), some (num (i : Int)), some (num (j : Int)), some b, some (num (i : Int)), none, some (.bool false), some (.bool false), z11, z12, some (.bool false)] ∧ Sep s s' [oR p ⟨WW c l1 l2 i, ((WW c l1 l2 j).length : Int), false⟩, oW b 1 encB (WW c l1 l2 i)]) i (by omega) ?_ ?_
      · exact ⟨0, _, _, by omega, by omega, rfl, hS2⟩
      · rintro m F s3 ⟨j, z11, z12, rfl, hj, rfl, hS3⟩ hm2
        by_cases hlt2 : j < i
        · simp (disch := omega) only [vm0, vm1, vm2, vm3, vm4, vm5, vm6, vm7, fPick, fBox, fBuild, fBsl, fLd, fLda, fSt, fNilc, fBin, fEq, fUn, fMkf, fFa, fFld, fFlda, fExt, evo, wr, wrC, frame, Bool.not_true, Bool.not_false, beq_self_eq_true, List.cons_append, List.nil_append, Nat.add_zero, Nat.zero_add, Nat.reduceAdd, Nat.reduceMul, Nat.reduceSub, Bool.and_true, Bool.true_and, Bool.and_self, beq_dec, fApp, Int.toNat_natCast, Nat.sub_zero, vmI, vc7_3]
          refine (back_2 n s s3 v1 v2 b c j i p l1 l2 _ _ _ _ _ _ hc hv1 hv2 h1 h2 (by omega) (by omega) hlt2 (by omega) hS3 hfu).mono ?_
          rintro e F s4 ⟨rfl, ⟨z12', rfl⟩, hS4⟩
          simp (disch := omega) only [vm0, vm1, vm2, vm3, vm4, vm5, vm6, vm7, fPick, fBox, fBuild, fBsl, fLd, fLda, fSt, fNilc, fBin, fEq, fUn, fMkf, fFa, fFld, fFlda, fExt, evo, wr, wrC, frame, Bool.not_true, Bool.not_false, beq_self_eq_true, List.cons_append, List.nil_append, Nat.add_zero, Nat.zero_add, Nat.reduceAdd, Nat.reduceMul, Nat.reduceSub, Bool.and_true, Bool.true_and, Bool.and_self, beq_dec, fApp, Int.toNat_natCast, Nat.sub_zero, vmI]
          exact ⟨i - (j + 1), by omega, j + 1, _, _, rfl, by omega, rfl, hS4⟩
        · obtain rfl : j = i := by omega
          have hBi := WW_in (l1 := l1) hc (fun x hx => (h2 x hx).2) j
          generalize WW c l1 l2 j = B at *
          have okr : RD.Ok ⟨B, (B.length : Int), false⟩ := ⟨⟨by dsimp only; omega, by dsimp only; omega⟩, hBi, by dsimp only; omega⟩
          have okb : RD.Ok ⟨B, (B.length : Int), true⟩ := ⟨⟨by dsimp only; omega, by dsimp only; omega⟩, hBi, by dsimp only; omega⟩
          have hby : RD.byte ⟨B, (B.length : Int), false⟩ = (0, ⟨B, (B.length : Int), true⟩) := by unfold RD.byte; dsimp only; rw [if_pos (.inr rfl)]
          have hnu : RD.num ⟨B, (B.length : Int), true⟩ = (0, ⟨B, (B.length : Int), true⟩) := by unfold RD.num; dsimp only; rw [if_pos (.inl rfl)]
          have hbs : RD.bytes ⟨B, (B.length : Int), true⟩ 9 = ([], ⟨B, (B.length : Int), true⟩) := by unfold RD.bytes; dsimp only; rw [if_pos (.inl rfl)]
          have kb := (Sep.rdW (((hS3.re ((List.perm_middle (l₁ := [_])).trans (.cons _ (.refl _))))))).lenV
          simp (disch := omega) only [vm0, vm1, vm2, vm3, vm4, vm5, vm6, vm7, fPick, fBox, fBuild, fBsl, fLd, fLda, fSt, fNilc, fBin, fEq, fUn, fMkf, fFa, fFld, fFlda, fExt, evo, wr, wrC, frame, Bool.not_true, Bool.not_false, beq_self_eq_true, List.cons_append, List.nil_append, Nat.add_zero, Nat.zero_add, Nat.reduceAdd, Nat.reduceMul, Nat.reduceSub, Bool.and_true, Bool.true_and, Bool.and_self, beq_dec, fApp, Int.toNat_natCast, Nat.sub_zero, vmI, vc7_3, vc7_4]
          refine call_ok rfl rfl (r_at (n + 4) s3 p _ _ hS3) ?_
          rintro y s4 ⟨rfl, rfl⟩
          simp (disch := omega) only [vm0, vm1, vm2, vm3, vm4, vm5, vm6, vm7, fPick, fBox, fBuild, fBsl, fLd, fLda, fSt, fNilc, fBin, fEq, fUn, fMkf, fFa, fFld, fFlda, fExt, evo, wr, wrC, frame, Bool.not_true, Bool.not_false, beq_self_eq_true, List.cons_append, List.nil_append, Nat.add_zero, Nat.zero_add, Nat.reduceAdd, Nat.reduceMul, Nat.reduceSub, Bool.and_true, Bool.true_and, Bool.and_self, beq_dec, fApp, Int.toNat_natCast, Nat.sub_zero, vmI, kb]
          refine call_ok rfl rfl (r_left (n + 4) s4 p _ _ hS3 okr) ?_
          rintro y s4 ⟨rfl, rfl⟩
          dsimp only
          rw [Int.sub_self]
          simp (disch := omega) only [vm0, vm1, vm2, vm3, vm4, vm5, vm6, vm7, fPick, fBox, fBuild, fBsl, fLd, fLda, fSt, fNilc, fBin, fEq, fUn, fMkf, fFa, fFld, fFlda, fExt, evo, wr, wrC, frame, Bool.not_true, Bool.not_false, beq_self_eq_true, List.cons_append, List.nil_append, Nat.add_zero, Nat.zero_add, Nat.reduceAdd, Nat.reduceMul, Nat.reduceSub, Bool.and_true, Bool.true_and, Bool.and_self, beq_dec, fApp, Int.toNat_natCast, Nat.sub_zero, vmI]
          refine call_ok rfl rfl (r_byte (n + 3) s4 p _ _ hS3 okr) ?_
          rintro y s5 ⟨rfl, hS5⟩
          rw [hby] at hS5 ⊢
          simp (disch := omega) only [vm0, vm1, vm2, vm3, vm4, vm5, vm6, vm7, fPick, fBox, fBuild, fBsl, fLd, fLda, fSt, fNilc, fBin, fEq, fUn, fMkf, fFa, fFld, fFlda, fExt, evo, wr, wrC, frame, Bool.not_true, Bool.not_false, beq_self_eq_true, List.cons_append, List.nil_append, Nat.add_zero, Nat.zero_add, Nat.reduceAdd, Nat.reduceMul, Nat.reduceSub, Bool.and_true, Bool.true_and, Bool.and_self, beq_dec, fApp, Int.toNat_natCast, Nat.sub_zero, vmI]
          refine call_ok rfl rfl (r_bad (n + 4) s5 p _ _ hS5) ?_
          rintro y s5 ⟨rfl, rfl⟩
          simp (disch := omega) only [vm0, vm1, vm2, vm3, vm4, vm5, vm6, vm7, fPick, fBox, fBuild, fBsl, fLd, fLda, fSt, fNilc, fBin, fEq, fUn, fMkf, fFa, fFld, fFlda, fExt, evo, wr, wrC, frame, Bool.not_true, Bool.not_false, beq_self_eq_true, List.cons_append, List.nil_append, Nat.add_zero, Nat.zero_add, Nat.reduceAdd, Nat.reduceMul, Nat.reduceSub, Bool.and_true, Bool.true_and, Bool.and_self, beq_dec, fApp, Int.toNat_natCast, Nat.sub_zero, vmI]
          refine call_ok rfl rfl (r_num (n + 1) s5 p _ _ hS5 okb (by omega)) ?_
          rintro y s6 ⟨rfl, hS6⟩
          rw [hnu] at hS6 ⊢
          simp (disch := omega) only [vm0, vm1, vm2, vm3, vm4, vm5, vm6, vm7, fPick, fBox, fBuild, fBsl, fLd, fLda, fSt, fNilc, fBin, fEq, fUn, fMkf, fFa, fFld, fFlda, fExt, evo, wr, wrC, frame, Bool.not_true, Bool.not_false, beq_self_eq_true, List.cons_append, List.nil_append, Nat.add_zero, Nat.zero_add, Nat.reduceAdd, Nat.reduceMul, Nat.reduceSub, Bool.and_true, Bool.true_and, Bool.and_self, beq_dec, fApp, Int.toNat_natCast, Nat.sub_zero, vmI]
          refine call_ok rfl rfl (r_bytes (n + 1) s6 p _ 9 _ hS6 okb (by omega) (by omega)) ?_
          rintro t s7 hS7
          rw [hbs] at hS7
          dsimp only at hS7
          have kt : lenV t = some (num 0) := hS7.rdW.lenV
          simp (disch := omega) only [vm0, vm1, vm2, vm3, vm4, vm5, vm6, vm7, fPick, fBox, fBuild, fBsl, fLd, fLda, fSt, fNilc, fBin, fEq, fUn, fMkf, fFa, fFld, fFlda, fExt, evo, wr, wrC, frame, Bool.not_true, Bool.not_false, beq_self_eq_true, List.cons_append, List.nil_append, Nat.add_zero, Nat.zero_add, Nat.reduceAdd, Nat.reduceMul, Nat.reduceSub, Bool.and_true, Bool.true_and, Bool.and_self, beq_dec, fApp, Int.toNat_natCast, Nat.sub_zero, vmI, kt]
          refine call_ok rfl rfl (r_at (n + 4) s7 p _ _ hS7.drop) ?_
          rintro y s7 ⟨rfl, rfl⟩
          simp (disch := omega) only [vm0, vm1, vm2, vm3, vm4, vm5, vm6, vm7, fPick, fBox, fBuild, fBsl, fLd, fLda, fSt, fNilc, fBin, fEq, fUn, fMkf, fFa, fFld, fFlda, fExt, evo, wr, wrC, frame, Bool.not_true, Bool.not_false, beq_self_eq_true, List.cons_append, List.nil_append, Nat.add_zero, Nat.zero_add, Nat.reduceAdd, Nat.reduceMul, Nat.reduceSub, Bool.and_true, Bool.true_and, Bool.and_self, beq_dec, fApp, Int.toNat_natCast, Nat.sub_zero, vmI]
          refine call_ok rfl rfl (r_bad (n + 4) s7 p _ _ hS7.drop) ?_
          rintro y s7 ⟨rfl, rfl⟩
          simp (disch := omega) only [vm0, vm1, vm2, vm3, vm4, vm5, vm6, vm7, fPick, fBox, fBuild, fBsl, fLd, fLda, fSt, fNilc, fBin, fEq, fUn, fMkf, fFa, fFld, fFlda, fExt, evo, wr, wrC, frame, Bool.not_true, Bool.not_false, beq_self_eq_true, List.cons_append, List.nil_append, Nat.add_zero, Nat.zero_add, Nat.reduceAdd, Nat.reduceMul, Nat.reduceSub, Bool.and_true, Bool.true_and, Bool.and_self, beq_dec, fApp, Int.toNat_natCast, Nat.sub_zero, vmI]
          refine call_ok rfl rfl (wakes04 (n + 1) s7 (by omega)) ?_
          rintro y s8 rfl
          simp (disch := omega) only [vm0, vm1, vm2, vm3, vm4, vm5, vm6, vm7, fPick, fBox, fBuild, fBsl, fLd, fLda, fSt, fNilc, fBin, fEq, fUn, fMkf, fFa, fFld, fFlda, fExt, evo, wr, wrC, frame, Bool.not_true, Bool.not_false, beq_self_eq_true, List.cons_append, List.nil_append, Nat.add_zero, Nat.zero_add, Nat.reduceAdd, Nat.reduceMul, Nat.reduceSub, Bool.and_true, Bool.true_and, Bool.and_self, beq_dec, fApp, Int.toNat_natCast, Nat.sub_zero, vmI]
          rfl
end
end Go.Proofs.Ytekhpohcjfjhfab.ctr
namespace Go.Proofs.Ytekhpohcjfjhfab.spanBackRun
open Go.Vm Go.RowKit Go.Proofs.Ytekhpohcjfjhfab.ctr
set_option linter.unusedVariables false
set_option linter.unusedSimpArgs false
theorem mixed : Try.prog.follows .mixedOrders = true := by kernel_rfl
theorem walk (a0 : Option Addr) (len0 cap0 : Nat) (z0 : List Int) (a1 : Option Addr) (len1 cap1 : Nat) (z1 : Nat → Value) (a2 : Int) (w : World) (w2 : (Lit.int .u8 a2).wf = true) (hq0 : IsRowI w a0 len0 cap0 z0) (hq1 : IsRowV w a1 len1 cap1 1 z1) (hk1 : ∀ i, i < cap1 * 1 → FkOk w (([.S] : List Fk).getD (i % 1) .i) (z1 i)) :
    Calls Try.prog 7 #[.slice a0 len0 cap0, .slice a1 len1 cap1, .int .u8 a2] w fun e w' => e = .returned (.bool true) ∧ Below w.heap.size w w' := by
  obtain ⟨v0, E0, s0, g0, l0, f0, r0, d0, i0⟩ := (Arg0.start w).ints hq0
  obtain ⟨v1, E1, s1, L1, g1, l1, f1, r1, d1, i1⟩ := g0.acts13 hq1 hk1
  have h := back (bd := bd0) (fu := 5000) 40 s1 v0 v1 a2 _ _ (d0.fr0 f1) d1 i0 i1 (wf8 w2) (by omega)
  exact law_okE bd0_ok mixed (tab_all rho0) t7 g1.hr g1.own (.cons (r0.mono l1) (.cons r1 (.cons vr_int .nil))) (yes_of' h fun _ _ h => h)
end Go.Proofs.Ytekhpohcjfjhfab.spanBackRun
