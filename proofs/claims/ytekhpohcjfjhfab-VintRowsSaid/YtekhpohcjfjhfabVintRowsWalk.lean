/- VintRows, walked. -/
import Derived.Test.YtekhpohcjfjhfabCtVi
import Derived.WalkKit
import Derived.ProofKit
namespace Go.Proofs.Ytekhpohcjfjhfab.ctr
open Go Go.Vm Go.RowKit
set_option linter.unusedVariables false
set_option linter.constructorNameAsVariable false
set_option linter.unusedSimpArgs false
theorem encI_w : ∀ x : Int, (Vm.encI x).length = 1 := fun _ => rfl
theorem flat_split (W : List Int) (j : Nat) : (W.flatMap putV).drop ((W.take j).flatMap putV).length = (W.drop j).flatMap putV := by
  have : W.flatMap putV = (W.take j).flatMap putV ++ (W.drop j).flatMap putV := by rw [← List.flatMap_append, List.take_append_drop]
  rw [this, List.drop_left]
theorem flat_in (W : List Int) : ∀ x ∈ W.flatMap putV, In8 x := by
  intro x hx
  obtain ⟨n, _, h⟩ := List.mem_flatMap.1 hx
  exact putV_in n x h
theorem flat_le (W : List Int) : (W.flatMap putV).length ≤ 8 * W.length := by
  induction W with
  | nil => simp
  | cons x W ih =>
    have := putV_len x
    have h8 : sizeV x ≤ 8 := by rcases sizeV_in x with h | h | h | h | h <;> omega
    rw [List.flatMap_cons, List.length_append, List.length_cons]; omega
section
variable {bd : Bd} {fu : Nat}
theorem rows_t (n : Nat) (s s1 : St) (v1 v2 b w : AV) (W : List Int) (i z6 z9 : Option AV) (hS : Sep s s1 [oW b 1 encB (W.flatMap putV), oW w 1 Vm.encI W]) (hW : ∀ x ∈ W, 0 ≤ x ∧ x ≤ 4611686018427387903) (hl : W.length ≤ 12) (hfu : 4000 < fu) :
    RsOk (exec bd (callF bd tab.get fu (n + 4)) fu vc3_5 [some v1, some v2, i, some b, none, none, z6, some w, none, z9, none, none, none, none, none, none, none, none, none, some (.bool false)] s1) (retQ [.tmp 19] fun x s' => Is x (.bool true)) := by
  have e1 := hS.swap.rdW.lenV
  have hfl := flat_le W
  simp (disch := omega) only [vm0, vm1, vm2, vm3, vm4, vm5, vm6, vm7, fPick, fBox, fBuild, fBsl, fLd, fLda, fSt, fNilc, fBin, fEq, fUn, fMkf, fFa, fFld, fFlda, fExt, evo, wr, wrC, frame, Bool.not_true, Bool.not_false, beq_self_eq_true, List.cons_append, List.nil_append, Nat.add_zero, Nat.zero_add, Nat.reduceAdd, Nat.reduceMul, Nat.reduceSub, Bool.and_true, Bool.true_and, Bool.and_self, beq_dec, fApp, Int.toNat_natCast, Nat.sub_zero, vmI, vc3_5, e1]
  refine x_loop (fun m F s' => ∃ j : Nat, ∃ y8 y11 y13 y14 y15 y16 y17, m = W.length - j ∧ j ≤ W.length ∧ F = [some v1, some v2, i, some b, some (num (((W.take j).flatMap putV).length : Int)), some (num (j : Int)), z6, some w, y8, z9, some (num (W.length : Int)), y11, some w, y13, y14, y15, y16, y17, none, some (.bool false)] ∧ Sep s s' [oW b 1 encB (W.flatMap putV), oW w 1 Vm.encI W]) W.length (by omega) ?_ ?_
  · exact ⟨0, _, _, _, _, _, _, _, by omega, by omega, rfl, hS⟩
  · rintro m F s2 ⟨j, y8, y11, y13, y14, y15, y16, y17, rfl, hj, rfl, hS2⟩ _
    have kb := hS2.rdW
    have kw := hS2.swap.rdW
    have eb := kb.lenV
    have hal : ((W.take j).flatMap putV).length ≤ (W.flatMap putV).length := by
      have := flat_split W j
      have h2 : W.flatMap putV = (W.take j).flatMap putV ++ (W.drop j).flatMap putV := by rw [← List.flatMap_append, List.take_append_drop]
      rw [h2, List.length_append]; omega
    by_cases hjl : j < W.length
    · obtain ⟨x, hx⟩ : ∃ x, W[j]? = some x := ⟨_, List.getElem?_eq_getElem hjl⟩
      have hx2 := hW x (List.mem_of_getElem? hx)
      have e6 := kw.ia hx
      have e7 := kw.at1 (f := num) hx
      obtain ⟨A, hA⟩ : ∃ A : Nat, ((W.take j).flatMap putV).length = A := ⟨_, rfl⟩
      have hA2 : (((W.take (j + 1)).flatMap putV).length : Int) = A + sizeV x := by
        rw [List.take_add_one, hx, List.flatMap_append, List.length_append, hA, ← putV_len x]; simp
      obtain ⟨u, g1, ku⟩ := kb.sliL (a := (A : Int)) (by omega) (by omega)
      rw [Int.toNat_natCast, ← hA, flat_split, drop_of hx, List.flatMap_cons] at ku
      rw [hA] at hal ⊢
      have hfl2 : (putV x ++ (W.drop (j + 1)).flatMap putV).length ≤ (W.flatMap putV).length := by
        have := flat_split W j
        rw [drop_of hx, List.flatMap_cons] at this
        rw [← this, List.length_drop]; omega
      have htp := take_put hx2.1 hx2.2 ((W.drop (j + 1)).flatMap putV)
      have hin : ∀ y ∈ putV x ++ (W.drop (j + 1)).flatMap putV, In8 y := fun y hy => by
        rcases List.mem_append.1 hy with hy | hy
        · exact putV_in x y hy
        · exact flat_in _ y hy
      have hsz := sizeV_of hx2.1 hx2.2
      simp (disch := omega) only [vm0, vm1, vm2, vm3, vm4, vm5, vm6, vm7, fPick, fBox, fBuild, fBsl, fLd, fLda, fSt, fNilc, fBin, fEq, fUn, fMkf, fFa, fFld, fFlda, fExt, evo, wr, wrC, frame, Bool.not_true, Bool.not_false, beq_self_eq_true, List.cons_append, List.nil_append, Nat.add_zero, Nat.zero_add, Nat.reduceAdd, Nat.reduceMul, Nat.reduceSub, Bool.and_true, Bool.true_and, Bool.and_self, beq_dec, fApp, Int.toNat_natCast, Nat.sub_zero, vmI, vc3_3, vc3_2, e6, e7, eb, g1]
      refine call_ok rfl rfl (v_take (n + 1) s2 u _ ku hin (by omega) (by omega)) ?_
      rintro y s3 ⟨rfl, q2⟩
      rw [htp]
      dsimp only
      simp (disch := omega) only [vm0, vm1, vm2, vm3, vm4, vm5, vm6, vm7, fPick, fBox, fBuild, fBsl, fLd, fLda, fSt, fNilc, fBin, fEq, fUn, fMkf, fFa, fFld, fFlda, fExt, evo, wr, wrC, frame, Bool.not_true, Bool.not_false, beq_self_eq_true, List.cons_append, List.nil_append, Nat.add_zero, Nat.zero_add, Nat.reduceAdd, Nat.reduceMul, Nat.reduceSub, Bool.and_true, Bool.true_and, Bool.and_self, beq_dec, fApp, Int.toNat_natCast, Nat.sub_zero, vmI]
      exact ⟨W.length - (j + 1), by omega, j + 1, _, _, _, _, _, _, _, rfl, by omega, by rw [hA2]; rfl, hS2.fr q2⟩
    · have hjW : j = W.length := by omega
      subst hjW
      rw [List.take_length] at *
      simp (disch := omega) only [vm0, vm1, vm2, vm3, vm4, vm5, vm6, vm7, fPick, fBox, fBuild, fBsl, fLd, fLda, fSt, fNilc, fBin, fEq, fUn, fMkf, fFa, fFld, fFlda, fExt, evo, wr, wrC, frame, Bool.not_true, Bool.not_false, beq_self_eq_true, List.cons_append, List.nil_append, Nat.add_zero, Nat.zero_add, Nat.reduceAdd, Nat.reduceMul, Nat.reduceSub, Bool.and_true, Bool.true_and, Bool.and_self, beq_dec, fApp, Int.toNat_natCast, Nat.sub_zero, vmI, vc3_3, vc3_4]
      refine call_ok rfl rfl (v_take (n + 1) s2 .nils [] (.nil encB_w (by omega)) (by simp) (by simp) (by omega)) ?_
      rintro y s3 ⟨rfl, q2⟩
      dsimp only [takeV]
      simp (disch := omega) only [vm0, vm1, vm2, vm3, vm4, vm5, vm6, vm7, fPick, fBox, fBuild, fBsl, fLd, fLda, fSt, fNilc, fBin, fEq, fUn, fMkf, fFa, fFld, fFlda, fExt, evo, wr, wrC, frame, Bool.not_true, Bool.not_false, beq_self_eq_true, List.cons_append, List.nil_append, Nat.add_zero, Nat.zero_add, Nat.reduceAdd, Nat.reduceMul, Nat.reduceSub, Bool.and_true, Bool.true_and, Bool.and_self, beq_dec, fApp, Int.toNat_natCast, Nat.sub_zero, vmI, eb]
      refine call_ok rfl rfl (wakes01 (n + 1) s3 (by omega)) ?_
      rintro y s4 rfl
      simp (disch := omega) only [vm0, vm1, vm2, vm3, vm4, vm5, vm6, vm7, fPick, fBox, fBuild, fBsl, fLd, fLda, fSt, fNilc, fBin, fEq, fUn, fMkf, fFa, fFld, fFlda, fExt, evo, wr, wrC, frame, Bool.not_true, Bool.not_false, beq_self_eq_true, List.cons_append, List.nil_append, Nat.add_zero, Nat.zero_add, Nat.reduceAdd, Nat.reduceMul, Nat.reduceSub, Bool.and_true, Bool.true_and, Bool.and_self, beq_dec, fApp, Int.toNat_natCast, Nat.sub_zero, vmI]
      rfl
theorem rows01 (n : Nat) (s : St) (v1 v2 : AV) (l1 l2 : List Int) (hv1 : RdE s v1 1 Vm.encI l1) (hv2 : RdE s v2 1 Vm.encI l2) (h1 : ∀ x ∈ l1, In64 x) (h2 : ∀ x ∈ l2, In64 x) (hfu : 4000 < fu) :
    OutOk (callF bd tab.get fu (n + 5) 3 [v1, v2] s) (fun x s' => Is x (.bool true)) := by
  refine call_code t3 rfl ?_
  have hS0 : Sep s s [] := .nil
  have hS1 := hS0.push (P := oW .nils 1 Vm.encI ([] : List Int)) (f := []) (.nil encI_w (by omega)) .refl (by simp [Nw])
  have hS2 := hS1.push (P := oW .nils 1 encB ([] : List Int)) (f := []) (.nil encB_w (by omega)) .refl (by simp [Nw])
  simp (disch := omega) only [vm0, vm1, vm2, vm3, vm4, vm5, vm6, vm7, fPick, fBox, fBuild, fBsl, fLd, fLda, fSt, fNilc, fBin, fEq, fUn, fMkf, fFa, fFld, fFlda, fExt, evo, wr, wrC, frame, Bool.not_true, Bool.not_false, beq_self_eq_true, List.cons_append, List.nil_append, Nat.add_zero, Nat.zero_add, Nat.reduceAdd, Nat.reduceMul, Nat.reduceSub, Bool.and_true, Bool.true_and, Bool.and_self, beq_dec, fApp, Int.toNat_natCast, Nat.sub_zero, vmI, vc3]
  refine x_loop (fun m F s' => ∃ (i : Nat) (W : List Int) (b w : AV) (z6 z9 : Option AV), m = 12 - i ∧ i ≤ 12 ∧ W.length = i ∧ (∀ x ∈ W, 0 ≤ x ∧ x ≤ 4611686018427387903) ∧ Sep s s' [oW b 1 encB (W.flatMap putV), oW w 1 Vm.encI W] ∧ F = [some v1, some v2, some (num (i : Int)), some b, none, none, z6, some w, none, z9, none, none, none, none, none, none, none, none, none, some (.bool false)]) 12 (by omega) ?_ ?_
  · exact ⟨0, [], .nils, .nils, _, _, by omega, by omega, rfl, by simp, hS2, rfl⟩
  · rintro m F s1 ⟨i, W, b, w, z6, z9, rfl, hi, hWl, hW, hS3, rfl⟩ _
    have k1 := hv1.fr0 hS3.frm
    have k2 := hv2.fr0 hS3.frm
    have e1 := k1.lenV
    have e2 := k2.lenV
    by_cases c1 : i < l1.length
    · by_cases c2 : i < l2.length
      · by_cases c3 : i < 12
        · obtain ⟨x, hx⟩ : ∃ x, l1[i]? = some x := ⟨_, List.getElem?_eq_getElem c1⟩
          obtain ⟨y, hy⟩ : ∃ y, l2[i]? = some y := ⟨_, List.getElem?_eq_getElem c2⟩
          have e3 := k1.ia hx
          have e4 := k1.at1 (f := num) hx
          have e5 := k2.ia hy
          have e6 := k2.at1 (f := num) hy
          have eb1 := k1.blk' hx
          have eb2 := k2.blk' hy
          simp (disch := omega) only [vm0, vm1, vm2, vm3, vm4, vm5, vm6, vm7, fPick, fBox, fBuild, fBsl, fLd, fLda, fSt, fNilc, fBin, fEq, fUn, fMkf, fFa, fFld, fFlda, fExt, evo, wr, wrC, frame, Bool.not_true, Bool.not_false, beq_self_eq_true, List.cons_append, List.nil_append, Nat.add_zero, Nat.zero_add, Nat.reduceAdd, Nat.reduceMul, Nat.reduceSub, Bool.and_true, Bool.true_and, Bool.and_self, beq_dec, fApp, Int.toNat_natCast, Nat.sub_zero, vmI, vc3_1, vc3_0, e1, e2, e3, e4, e5, e6]
          refine call_ok rfl rfl (v_n (n + 2) s1 x y (h1 x (List.mem_of_getElem? hx)) (h2 y (List.mem_of_getElem? hy))) ?_
          rintro z s2 ⟨m, rfl, hm, hf⟩
          have e7 := (k1.fr0 hf).at1 (f := num) hx
          have e8 := (k2.fr0 hf).at1 (f := num) hy
          simp (disch := omega) only [vm0, vm1, vm2, vm3, vm4, vm5, vm6, vm7, fPick, fBox, fBuild, fBsl, fLd, fLda, fSt, fNilc, fBin, fEq, fUn, fMkf, fFa, fFld, fFlda, fExt, evo, wr, wrC, frame, Bool.not_true, Bool.not_false, beq_self_eq_true, List.cons_append, List.nil_append, Nat.add_zero, Nat.zero_add, Nat.reduceAdd, Nat.reduceMul, Nat.reduceSub, Bool.and_true, Bool.true_and, Bool.and_self, beq_dec, fApp, Int.toNat_natCast, Nat.sub_zero, vmI, e7, e8]
          refine call_ok rfl rfl (withinP (n + 3) s2 m 4611686018427387903 hm (by omega) (by omega)) ?_
          rintro z s3 ⟨rfl, rfl⟩
          obtain ⟨q, hq⟩ : ∃ q, m % 4611686018427387903 = q := ⟨_, rfl⟩
          have hq2 : 0 ≤ q ∧ q ≤ 4611686018427387903 := by rw [← hq]; exact ⟨Int.emod_nonneg _ (by omega), by have := Int.emod_lt_of_pos m (show (0 : Int) < 4611686018427387903 by omega); omega⟩
          rw [hq]
          simp (disch := omega) only [vm0, vm1, vm2, vm3, vm4, vm5, vm6, vm7, fPick, fBox, fBuild, fBsl, fLd, fLda, fSt, fNilc, fBin, fEq, fUn, fMkf, fFa, fFld, fFlda, fExt, evo, wr, wrC, frame, Bool.not_true, Bool.not_false, beq_self_eq_true, List.cons_append, List.nil_append, Nat.add_zero, Nat.zero_add, Nat.reduceAdd, Nat.reduceMul, Nat.reduceSub, Bool.and_true, Bool.true_and, Bool.and_self, beq_dec, fApp, Int.toNat_natCast, Nat.sub_zero, vmI, e4, e6, e7, e8]
          refine call_ok rfl rfl (v_put (n + 2) s3 q ⟨by omega, by omega⟩ (by omega)) ?_
          rintro y s4 ⟨fp, q1, q2, q3⟩
          have hS4 := (hS3.fr hf).push (P := oW y 1 encB (putV q)) q1 q2 q3
          have k4 := q1.rd.lenOf
          have k5 := q1.rd.cellsOf
          have hfl := flat_le W
          have hpl := putV_len q
          have hsz : sizeV q ≤ 8 := by rcases sizeV_in q with h | h | h | h | h <;> omega
          have hL : (putV q).length ≤ 1048576 := by omega
          obtain ⟨fo, ho3, up⟩ := hS4.swap.hd
          simp (disch := omega) only [vm0, vm1, vm2, vm3, vm4, vm5, vm6, vm7, fPick, fBox, fBuild, fBsl, fLd, fLda, fSt, fNilc, fBin, fEq, fUn, fMkf, fFa, fFld, fFlda, fExt, evo, wr, wrC, frame, Bool.not_true, Bool.not_false, beq_self_eq_true, List.cons_append, List.nil_append, Nat.add_zero, Nat.zero_add, Nat.reduceAdd, Nat.reduceMul, Nat.reduceSub, Bool.and_true, Bool.true_and, Bool.and_self, beq_dec, fApp, Int.toNat_natCast, Nat.sub_zero, vmI, k4, k5]
          refine op_app (show OwE s4 b 1 encB (W.flatMap putV) fo from ho3) (by (repeat' (first | exact Fr.refl | assumption | apply Fr.new' | apply Fr.mk' | apply Fr.put')) <;> (first | omega | (left; simp; done) | (right; simp only [next_put, next_new, next_mk]; omega) | (simp only [next_put, next_new, next_mk]; omega))) (new := putV q) rfl rfl (by omega) ?_
          intro b' s5 fp' r1 r2 r3
          have hS5 := up (oW b' 1 encB (W.flatMap putV ++ putV q)) r1 r2 r3
          obtain ⟨fo2, ho4, up2⟩ := (((hS5.re ((List.perm_middle (l₁ := [_])).trans (.cons _ ((List.perm_middle (l₁ := [_])).trans (.cons _ (.refl _)))))).drop)).hd
          simp (disch := omega) only [vm0, vm1, vm2, vm3, vm4, vm5, vm6, vm7, fPick, fBox, fBuild, fBsl, fLd, fLda, fSt, fNilc, fBin, fEq, fUn, fMkf, fFa, fFld, fFlda, fExt, evo, wr, wrC, frame, Bool.not_true, Bool.not_false, beq_self_eq_true, List.cons_append, List.nil_append, Nat.add_zero, Nat.zero_add, Nat.reduceAdd, Nat.reduceMul, Nat.reduceSub, Bool.and_true, Bool.true_and, Bool.and_self, beq_dec, fApp, Int.toNat_natCast, Nat.sub_zero, vmI]
          refine op_app1 (show OwE s5 w 1 Vm.encI W fo2 from ho4) (by (repeat' (first | exact Fr.refl | assumption | apply Fr.new' | apply Fr.mk' | apply Fr.put')) <;> (first | omega | (left; simp; done) | (right; simp only [next_put, next_new, next_mk]; omega) | (simp only [next_put, next_new, next_mk]; omega))) (x := q) rfl (by omega) ?_
          intro w' s6 fp2 r4 r5 r6
          have hS6 := up2 (oW w' 1 Vm.encI (W ++ [q])) r4 r5 r6
          simp (disch := omega) only [vm0, vm1, vm2, vm3, vm4, vm5, vm6, vm7, fPick, fBox, fBuild, fBsl, fLd, fLda, fSt, fNilc, fBin, fEq, fUn, fMkf, fFa, fFld, fFlda, fExt, evo, wr, wrC, frame, Bool.not_true, Bool.not_false, beq_self_eq_true, List.cons_append, List.nil_append, Nat.add_zero, Nat.zero_add, Nat.reduceAdd, Nat.reduceMul, Nat.reduceSub, Bool.and_true, Bool.true_and, Bool.and_self, beq_dec, fApp, Int.toNat_natCast, Nat.sub_zero, vmI]
          refine ⟨12 - (i + 1), by omega, i + 1, W ++ [q], b', w', _, _, rfl, by omega, by simp [hWl], ?_, ?_, rfl⟩
          · intro z hz
            rcases List.mem_append.1 hz with hz | hz
            · exact hW z hz
            · simp at hz; subst hz; exact hq2
          · have hfe : (W ++ [q]).flatMap putV = W.flatMap putV ++ putV q := by simp
            rw [hfe]
            exact hS6.swap
        · simp (disch := omega) only [vm0, vm1, vm2, vm3, vm4, vm5, vm6, vm7, fPick, fBox, fBuild, fBsl, fLd, fLda, fSt, fNilc, fBin, fEq, fUn, fMkf, fFa, fFld, fFlda, fExt, evo, wr, wrC, frame, Bool.not_true, Bool.not_false, beq_self_eq_true, List.cons_append, List.nil_append, Nat.add_zero, Nat.zero_add, Nat.reduceAdd, Nat.reduceMul, Nat.reduceSub, Bool.and_true, Bool.true_and, Bool.and_self, beq_dec, fApp, Int.toNat_natCast, Nat.sub_zero, vmI, vc3_1, e1, e2]
          exact rows_t n s s1 v1 v2 b w W _ _ _ hS3 hW (by omega) hfu
      · simp (disch := omega) only [vm0, vm1, vm2, vm3, vm4, vm5, vm6, vm7, fPick, fBox, fBuild, fBsl, fLd, fLda, fSt, fNilc, fBin, fEq, fUn, fMkf, fFa, fFld, fFlda, fExt, evo, wr, wrC, frame, Bool.not_true, Bool.not_false, beq_self_eq_true, List.cons_append, List.nil_append, Nat.add_zero, Nat.zero_add, Nat.reduceAdd, Nat.reduceMul, Nat.reduceSub, Bool.and_true, Bool.true_and, Bool.and_self, beq_dec, fApp, Int.toNat_natCast, Nat.sub_zero, vmI, vc3_1, e1, e2]
        exact rows_t n s s1 v1 v2 b w W _ _ _ hS3 hW (by omega) hfu
    · simp (disch := omega) only [vm0, vm1, vm2, vm3, vm4, vm5, vm6, vm7, fPick, fBox, fBuild, fBsl, fLd, fLda, fSt, fNilc, fBin, fEq, fUn, fMkf, fFa, fFld, fFlda, fExt, evo, wr, wrC, frame, Bool.not_true, Bool.not_false, beq_self_eq_true, List.cons_append, List.nil_append, Nat.add_zero, Nat.zero_add, Nat.reduceAdd, Nat.reduceMul, Nat.reduceSub, Bool.and_true, Bool.true_and, Bool.and_self, beq_dec, fApp, Int.toNat_natCast, Nat.sub_zero, vmI, vc3_1, e1, e2]
      exact rows_t n s s1 v1 v2 b w W _ _ _ hS3 hW (by omega) hfu
end
end Go.Proofs.Ytekhpohcjfjhfab.ctr
namespace Go.Proofs.Ytekhpohcjfjhfab.vintRowsRun
open Go.Vm Go.RowKit Go.Proofs.Ytekhpohcjfjhfab.ctr
set_option linter.unusedVariables false
set_option linter.unusedSimpArgs false
theorem mixed : Try.prog.follows .mixedOrders = true := by kernel_rfl
theorem walk (a0 : Option Addr) (len0 cap0 : Nat) (z0 : List Int) (a1 : Option Addr) (len1 cap1 : Nat) (z1 : List Int) (w : World)  (hq0 : IsRowI w a0 len0 cap0 z0) (hq1 : IsRowI w a1 len1 cap1 z1) :
    Calls Try.prog 3 #[.slice a0 len0 cap0, .slice a1 len1 cap1] w fun e w' => e = .returned (.bool true) ∧ Below w.heap.size w w' := by
  obtain ⟨v0, E0, s0, g0, l0, f0, r0, d0, i0⟩ := (Arg0.start w).ints hq0
  obtain ⟨v1, E1, s1, g1, l1, f1, r1, d1, i1⟩ := g0.ints hq1
  have h := rows01 (bd := bd0) (fu := 5000) 40 s1 v0 v1 _ _ (d0.fr0 f1) d1 i0 i1  (by omega)
  exact law_okE bd0_ok mixed (tab_all rho0) t3 g1.hr g1.own (.cons (r0.mono l1) (.cons r1 .nil)) (yes_of' h fun _ _ h => h)
end Go.Proofs.Ytekhpohcjfjhfab.vintRowsRun
