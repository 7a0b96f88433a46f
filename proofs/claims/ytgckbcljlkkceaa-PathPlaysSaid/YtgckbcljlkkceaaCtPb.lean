/- Contracts: a path's state; a new one. -/
import Derived.Test.YtgckbcljlkkceaaCtPa
namespace Go.Proofs.Ytgckbcljlkkceaa.ctr
open Go Go.Vm Go.RowKit
set_option linter.unusedVariables false
set_option linter.constructorNameAsVariable false
set_option linter.unusedSimpArgs false
set_option linter.defProp false
theorem rv_7 {α : Type} {x0 x1 x2 x3 x4 x5 x6 : α} : List.reverse [x0, x1, x2, x3, x4, x5, x6] = [x6, x5, x4, x3, x2, x1, x0] := rfl
theorem rv_8 {α : Type} {x0 x1 x2 x3 x4 x5 x6 x7 : α} : List.reverse [x0, x1, x2, x3, x4, x5, x6, x7] = [x7, x6, x5, x4, x3, x2, x1, x0] := rfl
theorem rv_9 {α : Type} {x0 x1 x2 x3 x4 x5 x6 x7 x8 : α} : List.reverse [x0, x1, x2, x3, x4, x5, x6, x7, x8] = [x8, x7, x6, x5, x4, x3, x2, x1, x0] := rfl
theorem rv_10 {α : Type} {x0 x1 x2 x3 x4 x5 x6 x7 x8 x9 : α} : List.reverse [x0, x1, x2, x3, x4, x5, x6, x7, x8, x9] = [x9, x8, x7, x6, x5, x4, x3, x2, x1, x0] := rfl
theorem rv_11 {α : Type} {x0 x1 x2 x3 x4 x5 x6 x7 x8 x9 x10 : α} : List.reverse [x0, x1, x2, x3, x4, x5, x6, x7, x8, x9, x10] = [x10, x9, x8, x7, x6, x5, x4, x3, x2, x1, x0] := rfl
theorem rv_12 {α : Type} {x0 x1 x2 x3 x4 x5 x6 x7 x8 x9 x10 x11 : α} : List.reverse [x0, x1, x2, x3, x4, x5, x6, x7, x8, x9, x10, x11] = [x11, x10, x9, x8, x7, x6, x5, x4, x3, x2, x1, x0] := rfl
theorem rv_13 {α : Type} {x0 x1 x2 x3 x4 x5 x6 x7 x8 x9 x10 x11 x12 : α} : List.reverse [x0, x1, x2, x3, x4, x5, x6, x7, x8, x9, x10, x11, x12] = [x12, x11, x10, x9, x8, x7, x6, x5, x4, x3, x2, x1, x0] := rfl
theorem rv_14 {α : Type} {x0 x1 x2 x3 x4 x5 x6 x7 x8 x9 x10 x11 x12 x13 : α} : List.reverse [x0, x1, x2, x3, x4, x5, x6, x7, x8, x9, x10, x11, x12, x13] = [x13, x12, x11, x10, x9, x8, x7, x6, x5, x4, x3, x2, x1, x0] := rfl
theorem rv_15 {α : Type} {x0 x1 x2 x3 x4 x5 x6 x7 x8 x9 x10 x11 x12 x13 x14 : α} : List.reverse [x0, x1, x2, x3, x4, x5, x6, x7, x8, x9, x10, x11, x12, x13, x14] = [x14, x13, x12, x11, x10, x9, x8, x7, x6, x5, x4, x3, x2, x1, x0] := rfl
theorem rv_16 {α : Type} {x0 x1 x2 x3 x4 x5 x6 x7 x8 x9 x10 x11 x12 x13 x14 x15 : α} : List.reverse [x0, x1, x2, x3, x4, x5, x6, x7, x8, x9, x10, x11, x12, x13, x14, x15] = [x15, x14, x13, x12, x11, x10, x9, x8, x7, x6, x5, x4, x3, x2, x1, x0] := rfl
theorem rv_17 {α : Type} {x0 x1 x2 x3 x4 x5 x6 x7 x8 x9 x10 x11 x12 x13 x14 x15 x16 : α} : List.reverse [x0, x1, x2, x3, x4, x5, x6, x7, x8, x9, x10, x11, x12, x13, x14, x15, x16] = [x16, x15, x14, x13, x12, x11, x10, x9, x8, x7, x6, x5, x4, x3, x2, x1, x0] := rfl
theorem rv_18 {α : Type} {x0 x1 x2 x3 x4 x5 x6 x7 x8 x9 x10 x11 x12 x13 x14 x15 x16 x17 : α} : List.reverse [x0, x1, x2, x3, x4, x5, x6, x7, x8, x9, x10, x11, x12, x13, x14, x15, x16, x17] = [x17, x16, x15, x14, x13, x12, x11, x10, x9, x8, x7, x6, x5, x4, x3, x2, x1, x0] := rfl
def vmR := And.intro @rv_7 <| And.intro @rv_8 <| And.intro @rv_9 <| And.intro @rv_10 <| And.intro @rv_11 <| And.intro @rv_12 <| And.intro @rv_13 <| And.intro @rv_14 <| And.intro @rv_15 <| And.intro @rv_16 <| And.intro @rv_17 <| @rv_18
section
variable {bd : Bd} {fu : Nat}
theorem sameI (n : Nat) (s : St) (v w : AV) (l m : List Int) (hv : RdE s v 1 encI l) (hw : RdE s w 1 encI m) (hlen : l.length < fu) (hf : l.length < 4611686018427387904) :
    OutOk (callF bd tab.get fu (n + 1) 48 [v, w] s) (fun x s' => Is x (.bool (decide (l = m))) ∧ Is s' s) := by
  refine call_code t48 rfl ?_
  by_cases hl : l.length = m.length
  · simp (disch := omega) only [vm0, vm1, vm2, vm3, vm4, vm5, vm6, vm7, fPick, fBox, fBuild, fBsl, fLd, fLda, fSt, fNilc, fBin, fEq, fUn, fMkf, fFa, fFld, fFlda, fExt, evo, wr, wrC, frame, Bool.not_true, Bool.not_false, beq_self_eq_true, List.cons_append, List.nil_append, Nat.add_zero, Nat.zero_add, Nat.reduceAdd, Nat.reduceMul, Nat.reduceSub, Bool.and_true, Bool.true_and, Bool.and_self, beq_dec, fApp, Int.toNat_natCast, Nat.sub_zero, vc48, hv.lenV, hw.lenV]
    refine x_loop (fun k F s' => ∃ i : Nat, ∃ z x4 x5, k = l.length - i ∧ i ≤ l.length ∧ z = (i : Int) ∧ F = [some v, some w, some (num z), some (.bool false), x4, x5, some (.bool false)] ∧ s' = s ∧ l.take i = m.take i) l.length (by omega) ?_ ?_
    · exact ⟨0, _, _, _, by omega, by omega, rfl, rfl, rfl, by simp⟩
    · rintro k F s1 ⟨i, _, x4, x5, rfl, hi, rfl, rfl, rfl, ht⟩ hm
      by_cases hlt : i < l.length
      · obtain ⟨x, hx⟩ : ∃ x, l[i]? = some x := ⟨_, List.getElem?_eq_getElem hlt⟩
        obtain ⟨y, hy⟩ : ∃ y, m[i]? = some y := ⟨_, List.getElem?_eq_getElem (by omega)⟩
        have e1 := hv.ia hx
        have e2 := hv.at1 (f := num) hx
        have e3 := hw.ia hy
        have e4 := hw.at1 (f := num) hy
        have ht' : l.take (i + 1) = l.take i ++ [x] := by rw [List.take_add_one, hx]; rfl
        have ht2 : m.take (i + 1) = m.take i ++ [y] := by rw [List.take_add_one, hy]; rfl
        by_cases hxy : x = y
        · subst hxy
          simp (disch := omega) only [vm0, vm1, vm2, vm3, vm4, vm5, vm6, vm7, fPick, fBox, fBuild, fBsl, fLd, fLda, fSt, fNilc, fBin, fEq, fUn, fMkf, fFa, fFld, fFlda, fExt, evo, wr, wrC, frame, Bool.not_true, Bool.not_false, beq_self_eq_true, List.cons_append, List.nil_append, Nat.add_zero, Nat.zero_add, Nat.reduceAdd, Nat.reduceMul, Nat.reduceSub, Bool.and_true, Bool.true_and, Bool.and_self, beq_dec, fApp, Int.toNat_natCast, Nat.sub_zero, hv.lenV, e1, e2, e3, e4, decide_true, decide_true, wr64]
          exact ⟨l.length - (i + 1), by omega, i + 1, _, _, _, rfl, by omega, by omega, rfl, rfl, by rw [ht', ht2, ht]⟩
        · simp (disch := omega) only [vm0, vm1, vm2, vm3, vm4, vm5, vm6, vm7, fPick, fBox, fBuild, fBsl, fLd, fLda, fSt, fNilc, fBin, fEq, fUn, fMkf, fFa, fFld, fFlda, fExt, evo, wr, wrC, frame, Bool.not_true, Bool.not_false, beq_self_eq_true, List.cons_append, List.nil_append, Nat.add_zero, Nat.zero_add, Nat.reduceAdd, Nat.reduceMul, Nat.reduceSub, Bool.and_true, Bool.true_and, Bool.and_self, beq_dec, fApp, Int.toNat_natCast, Nat.sub_zero, hv.lenV, e1, e2, e3, e4, decide_true, decide_true, decide_eq_false hxy, Bool.not_false, wr64]
          refine ⟨?_, rfl⟩
          rw [decide_eq_false]; rfl
          rintro rfl
          rw [hx] at hy; cases hy; exact hxy rfl
      · simp (disch := omega) only [vm0, vm1, vm2, vm3, vm4, vm5, vm6, vm7, fPick, fBox, fBuild, fBsl, fLd, fLda, fSt, fNilc, fBin, fEq, fUn, fMkf, fFa, fFld, fFlda, fExt, evo, wr, wrC, frame, Bool.not_true, Bool.not_false, beq_self_eq_true, List.cons_append, List.nil_append, Nat.add_zero, Nat.zero_add, Nat.reduceAdd, Nat.reduceMul, Nat.reduceSub, Bool.and_true, Bool.true_and, Bool.and_self, beq_dec, fApp, Int.toNat_natCast, Nat.sub_zero, hv.lenV]
        refine ⟨?_, rfl⟩
        rw [decide_eq_true]; rfl
        rw [List.take_of_length_le (by omega), List.take_of_length_le (by omega)] at ht
        exact ht
  · simp (disch := omega) only [vm0, vm1, vm2, vm3, vm4, vm5, vm6, vm7, fPick, fBox, fBuild, fBsl, fLd, fLda, fSt, fNilc, fBin, fEq, fUn, fMkf, fFa, fFld, fFlda, fExt, evo, wr, wrC, frame, Bool.not_true, Bool.not_false, beq_self_eq_true, List.cons_append, List.nil_append, Nat.add_zero, Nat.zero_add, Nat.reduceAdd, Nat.reduceMul, Nat.reduceSub, Bool.and_true, Bool.true_and, Bool.and_self, beq_dec, fApp, Int.toNat_natCast, Nat.sub_zero, vc48, hv.lenV, hw.lenV]
    refine ⟨?_, rfl⟩
    rw [decide_eq_false]; rfl
    rintro rfl; exact hl rfl
theorem encI_len (l : List Int) : (l.flatMap encI).length = l.length := by
  induction l with
  | nil => rfl
  | cons a l ih => rw [List.flatMap_cons, List.length_append, ih, List.length_cons]; show 1 + _ = _; omega
theorem bsl_ow {s : St} {b k : Nat} {l : List Int} (hk : l.length = k) (hb : s.heap.get b = some (.cells (l.flatMap encI) .own)) (hn : b < s.next) : OwE s (.sl b 0 k k true 1) 1 encI l [b] := by
  subst hk
  exact ⟨.inr ⟨b, l.length, l.length, true, .own, [], rfl, Nat.le_refl _, by rw [Nat.mul_one]; exact encI_len l, by rw [List.append_nil]; exact hb, .inl ⟨rfl, rfl⟩⟩, fun _ => rfl, by omega, fun z hz => by simp at hz; subst hz; exact hn⟩
theorem st_loop (call : Nat → List AV → St → Out) {s0 : St} (s : St) (a0 : AV) (x1 x5 x7 : Option AV) (u vo : AV) (H : List Int) (F : List O) (Ps : List Obj) (hS : Sep s0 s (oW vo 1 encI H :: oW u 4 encO F :: Ps)) (hH : H.length ≤ 8) (hlen : F.length < fu) (hf : F.length < 1000) (Q : Ex → LF → St → Prop)
    (hQ : ∀ y1 z y5 v s', Sep s0 s' (oW v 1 encI (H ++ F.flatMap o4) :: oW u 4 encO F :: Ps) → Q (.exit 0) [some a0, y1, z, some v, some (num (F.length : Int)), y5, some u, x7] s') :
    RsOk (exec bd call fu (.loop (.seq (.reg [.i (.bin .lss (.w 2) (.w 4))] [(5, (.t 0))]) (.seq (.cond (.w 5) .skip (.exit 0)) (.seq (.block 1 (.seq (.reg [.i (.ia 4 (.w 6) (.w 2)), .i (.lda 4 (.t 0)), .i (.new [.int .i64 (.c 0), .int .i64 (.c 0), .int .i64 (.c 0), .int .i64 (.c 0)]), .i (.st 4 (.t 0) (.t 1))] [(1, (.t 1))]) (.reg [.i (.fa 0 (.w 1)), .i (.ld (.t 0)), .i (.fa 1 (.w 1)), .i (.ld (.t 0)), .i (.fa 2 (.w 1)), .i (.ld (.t 0)), .i (.fa 3 (.w 1)), .i (.ld (.t 0)), .i (.bsl [.int .i64 (.c 0), .int .i64 (.c 0), .int .i64 (.c 0), .int .i64 (.c 0)] 4 1 [(0, 1, (.t 6)), (1, 1, (.t 4)), (2, 1, (.t 2)), (3, 1, (.t 0))]), .i (.app 1 8 (.w 3) (.t 0))] [(3, (.t 0))]))) (.reg [.i (.bin .add (.w 2) (.c (.int .i64 (.c 1))))] [(2, (.t 0))]))))) [some a0, x1, some (num 0), some vo, some (num (F.length : Int)), x5, some u, x7] s) Q := by
  have hu := hS.swap.rdW
  have hul := hu.lenV
  refine x_loop (fun m F' s' => ∃ i : Nat, ∃ z x1 x5 vo, m = F.length - i ∧ i ≤ F.length ∧ z = (i : Int) ∧ F' = [some a0, x1, some (num z), some vo, some (num (F.length : Int)), x5, some u, x7] ∧ Sep s0 s' (oW vo 1 encI (H ++ (F.take i).flatMap o4) :: oW u 4 encO F :: Ps)) F.length (by omega) ?_ ?_
  · exact ⟨0, _, _, _, _, by omega, by omega, rfl, rfl, by simpa using hS⟩
  · rintro m F' s3 ⟨i, _, x1, x5, vo, rfl, hi, rfl, rfl, hS4⟩ hm
    by_cases hlt : i < F.length
    · obtain ⟨⟨a, b, c, d⟩, hx⟩ : ∃ x, F[i]? = some x := ⟨_, List.getElem?_eq_getElem hlt⟩
      have hu4 := hS4.swap.rdW
      have e1 := hu4.ia hx
      have e2 := hu4.at hx
      have ht : (F.take (i + 1)).flatMap o4 = (F.take i).flatMap o4 ++ [a, b, c, d] := by rw [List.take_add_one, hx]; simp [o4]
      have htl : (H ++ (F.take i).flatMap o4).length ≤ 8 + 4 * i := by rw [List.length_append, o4_len, List.length_take]; omega
      simp (disch := omega) only [vm0, vm1, vm2, vm3, vm4, vm5, vm6, vm7, fPick, fBox, fBuild, fBsl, fLd, fLda, fSt, fNilc, fBin, fEq, fUn, fMkf, fFa, fFld, fFlda, fExt, evo, wr, wrC, frame, Bool.not_true, Bool.not_false, beq_self_eq_true, List.cons_append, List.nil_append, Nat.add_zero, Nat.zero_add, Nat.reduceAdd, Nat.reduceMul, Nat.reduceSub, Bool.and_true, Bool.true_and, Bool.and_self, beq_dec, fApp, Int.toNat_natCast, Nat.sub_zero, vmI, e1, e2, encO]
      have hfa : Fr s3 ((s3.new (.cells [num 0, num 0, num 0, num 0] .own)).put s3.next (some (.cells [num a, num b, num c, num d] .own))) [] := by exact (by (repeat' (first | exact Fr.refl | assumption | apply Fr.new' | apply Fr.mk' | apply Fr.put')) <;> (first | omega | (left; simp; done) | (right; simp only [next_put, next_new, next_mk]; omega) | (simp only [next_put, next_new, next_mk]; omega)))
      have hn4 : ((s3.new (.cells [num 0, num 0, num 0, num 0] .own)).put s3.next (some (.cells [num a, num b, num c, num d] .own))).next = s3.next + 1 := by rw [next_put, next_new]
      generalize (s3.new (.cells [num 0, num 0, num 0, num 0] .own)).put s3.next (some (.cells [num a, num b, num c, num d] .own)) = s4 at *
      obtain ⟨fo, ko, up⟩ := hS4.hd
      simp (disch := omega) only [vm0, vm1, vm2, vm3, vm4, vm5, vm6, vm7, fPick, fBox, fBuild, fBsl, fLd, fLda, fSt, fNilc, fBin, fEq, fUn, fMkf, fFa, fFld, fFlda, fExt, evo, wr, wrC, frame, Bool.not_true, Bool.not_false, beq_self_eq_true, List.cons_append, List.nil_append, Nat.add_zero, Nat.zero_add, Nat.reduceAdd, Nat.reduceMul, Nat.reduceSub, Bool.and_true, Bool.true_and, Bool.and_self, beq_dec, fApp, Int.toNat_natCast, Nat.sub_zero, vmI]
      have hfb : Fr s3 (s4.new (.cells [num a, num b, num c, num d] .own)) [] := hfa.trans (Fr.new : Fr s4 (s4.new (.cells [num a, num b, num c, num d] .own)) []) (fp2 := []) (by simp) (by simp)
      refine op_app ko hfb (new := [a, b, c, d]) rfl rfl (by omega) ?_
      intro v' s5 fo' ho' hf' hn'
      have hS5 := up (oW v' 1 encI _) ho' hf' hn'
      simp (disch := omega) only [vm0, vm1, vm2, vm3, vm4, vm5, vm6, vm7, fPick, fBox, fBuild, fBsl, fLd, fLda, fSt, fNilc, fBin, fEq, fUn, fMkf, fFa, fFld, fFlda, fExt, evo, wr, wrC, frame, Bool.not_true, Bool.not_false, beq_self_eq_true, List.cons_append, List.nil_append, Nat.add_zero, Nat.zero_add, Nat.reduceAdd, Nat.reduceMul, Nat.reduceSub, Bool.and_true, Bool.true_and, Bool.and_self, beq_dec, fApp, Int.toNat_natCast, Nat.sub_zero, vmI]
      refine ⟨F.length - (i + 1), by omega, i + 1, _, _, _, _, rfl, by omega, by omega, rfl, ?_⟩
      rw [ht, ← List.append_assoc]
      exact hS5
    · simp (disch := omega) only [vm0, vm1, vm2, vm3, vm4, vm5, vm6, vm7, fPick, fBox, fBuild, fBsl, fLd, fLda, fSt, fNilc, fBin, fEq, fUn, fMkf, fFa, fFld, fFlda, fExt, evo, wr, wrC, frame, Bool.not_true, Bool.not_false, beq_self_eq_true, List.cons_append, List.nil_append, Nat.add_zero, Nat.zero_add, Nat.reduceAdd, Nat.reduceMul, Nat.reduceSub, Bool.and_true, Bool.true_and, Bool.and_self, beq_dec, fApp, Int.toNat_natCast, Nat.sub_zero, vmI]
      rw [List.take_of_length_le (by omega)] at hS4
      exact hQ _ _ _ _ _ hS4
theorem p_state (n : Nat) {s0 : St} (s : St) (p g w f : Nat) (t : PT) (Ps : List Obj) (hS : Sep s0 s (oC p (t.pc g w f) :: oC g t.G.cs :: oC w t.W.cs :: oF f t.F :: Ps)) (hg : t.G.Ok) (hlen : t.F.length < fu) (hf : t.F.length < 1000) :
    OutOk (callF bd tab.get fu (n + 3) 49 [.ptr p 0] s) (fun x s' => Sep s0 s' (oW x 1 encI t.state :: oC p (t.pc g w f) :: oC g t.G.cs :: oC w t.W.cs :: oF f t.F :: Ps)) := by
  refine call_code t49 rfl ?_
  obtain ⟨up, jn, bh, sn, G, W, F⟩ := t
  dsimp only [PT.pc] at *
  have g1 := hS.getC
  have hS0 : Sep s0 { heap := s.heap, next := s.next + 1 } _ := hS.fr (by (repeat' (first | exact Fr.refl | assumption | apply Fr.new' | apply Fr.mk' | apply Fr.put')) <;> (first | omega | (left; simp; done) | (right; simp only [next_put, next_new, next_mk]; omega) | (simp only [next_put, next_new, next_mk]; omega)))
  simp (disch := omega) only [vm0, vm1, vm2, vm3, vm4, vm5, vm6, vm7, fPick, fBox, fBuild, fBsl, fLd, fLda, fSt, fNilc, fBin, fEq, fUn, fMkf, fFa, fFld, fFlda, fExt, evo, wr, wrC, frame, Bool.not_true, Bool.not_false, beq_self_eq_true, List.cons_append, List.nil_append, Nat.add_zero, Nat.zero_add, Nat.reduceAdd, Nat.reduceMul, Nat.reduceSub, Bool.and_true, Bool.true_and, Bool.and_self, beq_dec, fApp, Int.toNat_natCast, Nat.sub_zero, vmI, vc49, g1]
  obtain ⟨S, hSe⟩ : ∃ S : St, S = { heap := s.heap, next := s.next + 1 } := ⟨_, rfl⟩
  have hn : S.next = s.next + 1 := by rw [hSe]
  have hfs : Fr s S [] := by rw [hSe]; exact (by (repeat' (first | exact Fr.refl | assumption | apply Fr.new' | apply Fr.mk' | apply Fr.put')) <;> (first | omega | (left; simp; done) | (right; simp only [next_put, next_new, next_mk]; omega) | (simp only [next_put, next_new, next_mk]; omega)))
  rw [← hSe] at hS0 ⊢
  have g2 := hS0.getC
  clear hSe
  refine call_ok rfl rfl (p_truth (n + 1) S up) ?_
  rintro y S ⟨rfl, rfl⟩
  simp (disch := omega) only [vm0, vm1, vm2, vm3, vm4, vm5, vm6, vm7, fPick, fBox, fBuild, fBsl, fLd, fLda, fSt, fNilc, fBin, fEq, fUn, fMkf, fFa, fFld, fFlda, fExt, evo, wr, wrC, frame, Bool.not_true, Bool.not_false, beq_self_eq_true, List.cons_append, List.nil_append, Nat.add_zero, Nat.zero_add, Nat.reduceAdd, Nat.reduceMul, Nat.reduceSub, Bool.and_true, Bool.true_and, Bool.and_self, beq_dec, fApp, Int.toNat_natCast, Nat.sub_zero, vmI, g1, g2]
  refine call_ok rfl rfl (p_truth (n + 1) S jn) ?_
  rintro y S ⟨rfl, rfl⟩
  simp (disch := omega) only [vm0, vm1, vm2, vm3, vm4, vm5, vm6, vm7, fPick, fBox, fBuild, fBsl, fLd, fLda, fSt, fNilc, fBin, fEq, fUn, fMkf, fFa, fFld, fFlda, fExt, evo, wr, wrC, frame, Bool.not_true, Bool.not_false, beq_self_eq_true, List.cons_append, List.nil_append, Nat.add_zero, Nat.zero_add, Nat.reduceAdd, Nat.reduceMul, Nat.reduceSub, Bool.and_true, Bool.true_and, Bool.and_self, beq_dec, fApp, Int.toNat_natCast, Nat.sub_zero, vmI, g1, g2]
  refine call_ok rfl rfl (p_truth (n + 1) S bh) ?_
  rintro y S ⟨rfl, rfl⟩
  simp (disch := omega) only [vm0, vm1, vm2, vm3, vm4, vm5, vm6, vm7, fPick, fBox, fBuild, fBsl, fLd, fLda, fSt, fNilc, fBin, fEq, fUn, fMkf, fFa, fFld, fFlda, fExt, evo, wr, wrC, frame, Bool.not_true, Bool.not_false, beq_self_eq_true, List.cons_append, List.nil_append, Nat.add_zero, Nat.zero_add, Nat.reduceAdd, Nat.reduceMul, Nat.reduceSub, Bool.and_true, Bool.true_and, Bool.and_self, beq_dec, fApp, Int.toNat_natCast, Nat.sub_zero, vmI, g1, g2]
  refine call_ok rfl rfl (g_mean (n + 1) S g G _ (((hS0.re ((List.perm_middle (l₁ := [_])).trans (.cons _ (.refl _))))))) ?_
  rintro y S ⟨rfl, rfl⟩
  simp (disch := omega) only [vm0, vm1, vm2, vm3, vm4, vm5, vm6, vm7, fPick, fBox, fBuild, fBsl, fLd, fLda, fSt, fNilc, fBin, fEq, fUn, fMkf, fFa, fFld, fFlda, fExt, evo, wr, wrC, frame, Bool.not_true, Bool.not_false, beq_self_eq_true, List.cons_append, List.nil_append, Nat.add_zero, Nat.zero_add, Nat.reduceAdd, Nat.reduceMul, Nat.reduceSub, Bool.and_true, Bool.true_and, Bool.and_self, beq_dec, fApp, Int.toNat_natCast, Nat.sub_zero, vmI, g1, g2]
  refine call_ok rfl rfl (g_wait n S g G _ (((hS0.re ((List.perm_middle (l₁ := [_])).trans (.cons _ (.refl _)))))) hg) ?_
  rintro y S ⟨rfl, rfl⟩
  simp (disch := omega) only [vm0, vm1, vm2, vm3, vm4, vm5, vm6, vm7, fPick, fBox, fBuild, fBsl, fLd, fLda, fSt, fNilc, fBin, fEq, fUn, fMkf, fFa, fFld, fFlda, fExt, evo, wr, wrC, frame, Bool.not_true, Bool.not_false, beq_self_eq_true, List.cons_append, List.nil_append, Nat.add_zero, Nat.zero_add, Nat.reduceAdd, Nat.reduceMul, Nat.reduceSub, Bool.and_true, Bool.true_and, Bool.and_self, beq_dec, fApp, Int.toNat_natCast, Nat.sub_zero, vmI, g1, g2]
  refine call_ok rfl rfl (c_size (n + 1) S w W _ (((hS0.re ((List.perm_middle (l₁ := [_, _])).trans (.cons _ (.refl _))))))) ?_
  rintro y S ⟨rfl, rfl⟩
  simp (disch := omega) only [vm0, vm1, vm2, vm3, vm4, vm5, vm6, vm7, fPick, fBox, fBuild, fBsl, fLd, fLda, fSt, fNilc, fBin, fEq, fUn, fMkf, fFa, fFld, fFlda, fExt, evo, wr, wrC, frame, Bool.not_true, Bool.not_false, beq_self_eq_true, List.cons_append, List.nil_append, Nat.add_zero, Nat.zero_add, Nat.reduceAdd, Nat.reduceMul, Nat.reduceSub, Bool.and_true, Bool.true_and, Bool.and_self, beq_dec, fApp, Int.toNat_natCast, Nat.sub_zero, vmI, g1, g2]
  refine call_ok rfl rfl (d_flen (n + 1) S f F _ (((hS0.re ((List.perm_middle (l₁ := [_, _, _])).trans (.cons _ (.refl _))))))) ?_
  rintro y S ⟨rfl, rfl⟩
  obtain ⟨_, ⟨_, hpn, _⟩, _⟩ := hS.hd
  have hpq : p ≠ s.next := by omega
  simp (disch := omega) only [vm0, vm1, vm2, vm3, vm4, vm5, vm6, vm7, fPick, fBox, fBuild, fBsl, fLd, fLda, fSt, fNilc, fBin, fEq, fUn, fMkf, fFa, fFld, fFlda, fExt, evo, wr, wrC, frame, Bool.not_true, Bool.not_false, beq_self_eq_true, List.cons_append, List.nil_append, Nat.add_zero, Nat.zero_add, Nat.reduceAdd, Nat.reduceMul, Nat.reduceSub, Bool.and_true, Bool.true_and, Bool.and_self, beq_dec, fApp, Int.toNat_natCast, Nat.sub_zero, vmI, vmR, g1, g2]
  have hS1 := hS.push (P := oW (.sl s.next 0 8 8 true 1) 1 encI (PT.hdS ⟨up, jn, bh, sn, G, W, F⟩)) (s' := S.put s.next (some (.cells [num (b2i up), num (b2i jn), num (b2i bh), num sn, num G.me, num G.wait, num W.si, num F.length] .own))) (f := [s.next]) (bsl_ow rfl (get_put_eq rfl) (by rw [next_put]; omega)) (by exact (by (repeat' (first | exact Fr.refl | assumption | apply Fr.new' | apply Fr.mk' | apply Fr.put')) <;> (first | omega | (left; simp; done) | (right; simp only [next_put, next_new, next_mk]; omega) | (simp only [next_put, next_new, next_mk]; omega)))) (by intro z hz; simp at hz; right; omega)
  have hL : (PT.hdS ⟨up, jn, bh, sn, G, W, F⟩).length = 8 := rfl
  have hst : PT.state ⟨up, jn, bh, sn, G, W, F⟩ = PT.hdS ⟨up, jn, bh, sn, G, W, F⟩ ++ F.flatMap o4 := rfl
  rw [hst]
  generalize PT.hdS ⟨up, jn, bh, sn, G, W, F⟩ = H at *
  generalize S.put s.next (some (.cells [num (b2i up), num (b2i jn), num (b2i bh), num sn, num G.me, num G.wait, num W.si, num F.length] .own)) = s1 at *
  generalize (AV.sl s.next 0 8 8 true 1) = vo at *
  refine call_ok rfl rfl (d_fall n s1 f F _ (((hS1.re ((List.perm_middle (l₁ := [_, _, _, _])).trans (.cons _ (.refl _)))))) (by omega)) ?_
  rintro u s2 hS2
  have hS3 := ((hS2.re ((List.perm_middle (l₁ := [_, _])).trans (.cons _ (.cons _ ((List.perm_middle (l₁ := [_])).trans (.cons _ ((List.perm_middle (l₁ := [_])).trans (.cons _ ((List.perm_middle (l₁ := [_])).trans (.cons _ (.refl _))))))))))))
  have hu := hS2.rdW
  have hul := hu.lenV
  simp (disch := omega) only [vm0, vm1, vm2, vm3, vm4, vm5, vm6, vm7, fPick, fBox, fBuild, fBsl, fLd, fLda, fSt, fNilc, fBin, fEq, fUn, fMkf, fFa, fFld, fFlda, fExt, evo, wr, wrC, frame, Bool.not_true, Bool.not_false, beq_self_eq_true, List.cons_append, List.nil_append, Nat.add_zero, Nat.zero_add, Nat.reduceAdd, Nat.reduceMul, Nat.reduceSub, Bool.and_true, Bool.true_and, Bool.and_self, beq_dec, fApp, Int.toNat_natCast, Nat.sub_zero, vmI, hul]
  refine st_loop _ s2 _ _ _ _ u vo H F _ hS3 (by omega) hlen hf _ ?_
  intro y1 z y5 v s3 hS4
  simp (disch := omega) only [vm0, vm1, vm2, vm3, vm4, vm5, vm6, vm7, fPick, fBox, fBuild, fBsl, fLd, fLda, fSt, fNilc, fBin, fEq, fUn, fMkf, fFa, fFld, fFlda, fExt, evo, wr, wrC, frame, Bool.not_true, Bool.not_false, beq_self_eq_true, List.cons_append, List.nil_append, Nat.add_zero, Nat.zero_add, Nat.reduceAdd, Nat.reduceMul, Nat.reduceSub, Bool.and_true, Bool.true_and, Bool.and_self, beq_dec, fApp, Int.toNat_natCast, Nat.sub_zero, vmI]
  exact ((hS4.re ((List.perm_middle (l₁ := [_])).trans (.cons _ (.refl _)))).drop)
end
end Go.Proofs.Ytgckbcljlkkceaa.ctr
namespace Go.Proofs.Ytgckbcljlkkceaa.ctr
open Go Go.Vm Go.RowKit
set_option linter.unusedVariables false
set_option linter.constructorNameAsVariable false
set_option linter.unusedSimpArgs false
theorem OwE.isSame {α : Type} {s : St} {v : AV} {sz : Nat} {enc : α → List AV} {l : List α} {fp : List Nat} (h : OwE s v sz enc l fp) : sameA v v = true := by
  rcases h.ow with ⟨rfl, _⟩ | ⟨_, _, _, _, _, _, rfl, _⟩
  · exact sm_n
  · exact sm_s
/-- a copy of what is out, as a thing of its own -/
theorem Sep.openU {s0 s : St} {p : Nat} {a1 a2 a3 : Bool} {sn : Int} {g w : Nat} {l : List O} {Ps : List Obj} (h : Sep s0 s (oU p a1 a2 a3 sn g w l :: Ps)) : ∃ v, Sep s0 s (oC p [.bool a1, .bool a2, .bool a3, num sn, .ptr g 0, .ptr w 0, v] :: oW v 4 encO l :: Ps) := by
  obtain ⟨f, ⟨v, fv, h1, h2, h3, rfl, h5⟩, up⟩ := h.hd
  refine ⟨v, (up (oPair (oC p [.bool a1, .bool a2, .bool a3, num sn, .ptr g 0, .ptr w 0, v]) (oW v 4 encO l)) ⟨[p], fv, ⟨h1, h5, rfl⟩, h2, by intro b hb hm; simp at hb; subst hb; exact h3 hm, rfl⟩ .refl (fun b hb => .inl hb)).split⟩
theorem Sep.pairOf {s0 s : St} {P Q : Obj} {Ps : List Obj} (h : Sep s0 s (P :: Q :: Ps)) : Sep s0 s (oPair P Q :: Ps) := by
  obtain ⟨fp, ⟨f, g, h1, ⟨f2, g2, h2, h3, h4, rfl⟩, h5, rfl⟩, h6, h7⟩ := h
  refine ⟨(f ++ f2) ++ g2, ⟨f ++ f2, g2, ⟨f, f2, h1, h2, fun b hb hm => h5 b hb (by simp [hm]), rfl⟩, h3, ?_, rfl⟩, fun b hb => h6 b (by simp only [List.mem_append] at *; rcases hb with (h | h) | h <;> simp [h]), h7⟩
  intro b hb hm
  rcases List.mem_append.1 hb with hb | hb
  · exact h5 b hb (by simp [hm])
  · exact h4 b hb hm
theorem Sep.closeU {s0 s : St} {p : Nat} {a1 a2 a3 : Bool} {sn : Int} {g w : Nat} {l : List O} {v : AV} {Ps : List Obj} (h : Sep s0 s (oC p [.bool a1, .bool a2, .bool a3, num sn, .ptr g 0, .ptr w 0, v] :: oW v 4 encO l :: Ps)) : Sep s0 s (oU p a1 a2 a3 sn g w l :: Ps) := by
  obtain ⟨f, ⟨f1, f2, ⟨h1, h5, rfl⟩, h2, h3, rfl⟩, up⟩ := h.pairOf.hd
  exact up (oU p a1 a2 a3 sn g w l) (f' := p :: f2) ⟨v, f2, h1, h2, h3 p (by simp), rfl, h5⟩ .refl (fun b hb => .inl (by simpa using hb))
section
variable {bd : Bd} {fu : Nat}
theorem q_state (n : Nat) {s0 : St} (s : St) (r g w : Nat) (t : PT) (v : AV) (Ps : List Obj) (hS : Sep s0 s (oC r [.bool t.up, .bool t.jn, .bool t.bh, num t.sent, .ptr g 0, .ptr w 0, v] :: oW v 4 encO t.F :: oC g t.G.cs :: oC w t.W.cs :: Ps)) (hg : t.G.Ok) (hlen : t.F.length < fu) (hf : t.F.length < 1000) (hfu : 10 < fu) :
    OutOk (callF bd tab.get fu (n + 3) 50 [.ptr r 0] s) (fun x s' => Sep s0 s' (oW x 1 encI t.state :: oC r [.bool t.up, .bool t.jn, .bool t.bh, num t.sent, .ptr g 0, .ptr w 0, v] :: oW v 4 encO t.F :: oC g t.G.cs :: oC w t.W.cs :: Ps)) := by
  refine call_code t50 rfl ?_
  obtain ⟨up, jn, bh, sn, G, W, F⟩ := t
  dsimp only at *
  have g1 := hS.getC
  have hv := hS.swap.rdW
  have hvl := hv.lenV
  have hvs := hS.swap.sameW
  have hS0 : Sep s0 { heap := s.heap, next := s.next + 1 } _ := hS.fr (by (repeat' (first | exact Fr.refl | assumption | apply Fr.new' | apply Fr.mk' | apply Fr.put')) <;> (first | omega | (left; simp; done) | (right; simp only [next_put, next_new, next_mk]; omega) | (simp only [next_put, next_new, next_mk]; omega)))
  obtain ⟨fi, me, sp, la, kn⟩ := G
  obtain ⟨mo, si, tu, co⟩ := W
  have gg1 : s.heap.get g = some (.cells [num fi, num me, num sp, num la, .bool kn] .own) := (((hS.re ((List.perm_middle (l₁ := [_, _])).trans (.cons _ (.refl _)))))).getC
  have gw1 : s.heap.get w = some (.cells [num mo, num si, num tu, num co] .own) := (((hS.re ((List.perm_middle (l₁ := [_, _, _])).trans (.cons _ (.refl _)))))).getC
  simp (disch := omega) only [vm0, vm1, vm2, vm3, vm4, vm5, vm6, vm7, fPick, fBox, fBuild, fBsl, fLd, fLda, fSt, fNilc, fBin, fEq, fUn, fMkf, fFa, fFld, fFlda, fExt, evo, wr, wrC, frame, Bool.not_true, Bool.not_false, beq_self_eq_true, List.cons_append, List.nil_append, Nat.add_zero, Nat.zero_add, Nat.reduceAdd, Nat.reduceMul, Nat.reduceSub, Bool.and_true, Bool.true_and, Bool.and_self, beq_dec, fApp, Int.toNat_natCast, Nat.sub_zero, vmI, vc50, g1]
  obtain ⟨S, hSe⟩ : ∃ S : St, S = { heap := s.heap, next := s.next + 1 } := ⟨_, rfl⟩
  have hn : S.next = s.next + 1 := by rw [hSe]
  have hfs : Fr s S [] := by rw [hSe]; exact (by (repeat' (first | exact Fr.refl | assumption | apply Fr.new' | apply Fr.mk' | apply Fr.put')) <;> (first | omega | (left; simp; done) | (right; simp only [next_put, next_new, next_mk]; omega) | (simp only [next_put, next_new, next_mk]; omega)))
  rw [← hSe] at hS0 ⊢
  have g2 := hS0.getC
  have gg2 : S.heap.get g = some (.cells [num fi, num me, num sp, num la, .bool kn] .own) := (((hS0.re ((List.perm_middle (l₁ := [_, _])).trans (.cons _ (.refl _)))))).getC
  have gw2 : S.heap.get w = some (.cells [num mo, num si, num tu, num co] .own) := (((hS0.re ((List.perm_middle (l₁ := [_, _, _])).trans (.cons _ (.refl _)))))).getC
  clear hSe
  refine call_ok rfl rfl (u_one (n + 1) S up) ?_
  rintro y S ⟨rfl, rfl⟩
  simp (disch := omega) only [vm0, vm1, vm2, vm3, vm4, vm5, vm6, vm7, fPick, fBox, fBuild, fBsl, fLd, fLda, fSt, fNilc, fBin, fEq, fUn, fMkf, fFa, fFld, fFlda, fExt, evo, wr, wrC, frame, Bool.not_true, Bool.not_false, beq_self_eq_true, List.cons_append, List.nil_append, Nat.add_zero, Nat.zero_add, Nat.reduceAdd, Nat.reduceMul, Nat.reduceSub, Bool.and_true, Bool.true_and, Bool.and_self, beq_dec, fApp, Int.toNat_natCast, Nat.sub_zero, vmI, g1, g2]
  refine call_ok rfl rfl (u_one (n + 1) S jn) ?_
  rintro y S ⟨rfl, rfl⟩
  simp (disch := omega) only [vm0, vm1, vm2, vm3, vm4, vm5, vm6, vm7, fPick, fBox, fBuild, fBsl, fLd, fLda, fSt, fNilc, fBin, fEq, fUn, fMkf, fFa, fFld, fFlda, fExt, evo, wr, wrC, frame, Bool.not_true, Bool.not_false, beq_self_eq_true, List.cons_append, List.nil_append, Nat.add_zero, Nat.zero_add, Nat.reduceAdd, Nat.reduceMul, Nat.reduceSub, Bool.and_true, Bool.true_and, Bool.and_self, beq_dec, fApp, Int.toNat_natCast, Nat.sub_zero, vmI, g1, g2]
  refine call_ok rfl rfl (u_one (n + 1) S bh) ?_
  rintro y S ⟨rfl, rfl⟩
  simp (disch := omega) only [vm0, vm1, vm2, vm3, vm4, vm5, vm6, vm7, fPick, fBox, fBuild, fBsl, fLd, fLda, fSt, fNilc, fBin, fEq, fUn, fMkf, fFa, fFld, fFlda, fExt, evo, wr, wrC, frame, Bool.not_true, Bool.not_false, beq_self_eq_true, List.cons_append, List.nil_append, Nat.add_zero, Nat.zero_add, Nat.reduceAdd, Nat.reduceMul, Nat.reduceSub, Bool.and_true, Bool.true_and, Bool.and_self, beq_dec, fApp, Int.toNat_natCast, Nat.sub_zero, vmI, g1, g2, gg1, gg2]
  refine call_ok rfl rfl (w_wait n S g ⟨fi, me, sp, la, kn⟩ _ (((hS0.re ((List.perm_middle (l₁ := [_, _])).trans (.cons _ (.refl _)))))) hg hfu) ?_
  rintro y S ⟨rfl, rfl⟩
  obtain ⟨_, ⟨_, hpn, _⟩, _⟩ := hS.hd
  have hpq : r ≠ s.next := by omega
  obtain ⟨_, ⟨_, hgn, _⟩, _⟩ := (((hS.re ((List.perm_middle (l₁ := [_, _])).trans (.cons _ (.refl _)))))).hd
  have hgq : g ≠ s.next := by omega
  obtain ⟨_, ⟨_, hwn, _⟩, _⟩ := (((hS.re ((List.perm_middle (l₁ := [_, _, _])).trans (.cons _ (.refl _)))))).hd
  have hwq : w ≠ s.next := by omega
  simp (disch := omega) only [vm0, vm1, vm2, vm3, vm4, vm5, vm6, vm7, fPick, fBox, fBuild, fBsl, fLd, fLda, fSt, fNilc, fBin, fEq, fUn, fMkf, fFa, fFld, fFlda, fExt, evo, wr, wrC, frame, Bool.not_true, Bool.not_false, beq_self_eq_true, List.cons_append, List.nil_append, Nat.add_zero, Nat.zero_add, Nat.reduceAdd, Nat.reduceMul, Nat.reduceSub, Bool.and_true, Bool.true_and, Bool.and_self, beq_dec, fApp, Int.toNat_natCast, Nat.sub_zero, vmI, vmR, g1, g2, gg1, gg2, gw1, gw2, hvl, hvs]
  have hS1 := hS.push (P := oW (.sl s.next 0 8 8 true 1) 1 encI (PT.hdS ⟨up, jn, bh, sn, ⟨fi, me, sp, la, kn⟩, ⟨mo, si, tu, co⟩, F⟩)) (s' := S.put s.next (some (.cells [num (b2i up), num (b2i jn), num (b2i bh), num sn, num me, num (GS.wait ⟨fi, me, sp, la, kn⟩), num si, num F.length] .own))) (f := [s.next]) (bsl_ow rfl (get_put_eq rfl) (by rw [next_put]; omega)) (by exact (by (repeat' (first | exact Fr.refl | assumption | apply Fr.new' | apply Fr.mk' | apply Fr.put')) <;> (first | omega | (left; simp; done) | (right; simp only [next_put, next_new, next_mk]; omega) | (simp only [next_put, next_new, next_mk]; omega)))) (by intro z hz; simp at hz; right; omega)
  have hst : PT.state ⟨up, jn, bh, sn, ⟨fi, me, sp, la, kn⟩, ⟨mo, si, tu, co⟩, F⟩ = PT.hdS ⟨up, jn, bh, sn, ⟨fi, me, sp, la, kn⟩, ⟨mo, si, tu, co⟩, F⟩ ++ F.flatMap o4 := rfl
  have hL : (PT.hdS ⟨up, jn, bh, sn, ⟨fi, me, sp, la, kn⟩, ⟨mo, si, tu, co⟩, F⟩).length = 8 := rfl
  rw [hst]
  generalize PT.hdS ⟨up, jn, bh, sn, ⟨fi, me, sp, la, kn⟩, ⟨mo, si, tu, co⟩, F⟩ = H at *
  refine st_loop _ _ _ _ _ _ v _ H F _ (((hS1.re (.cons _ ((List.perm_middle (l₁ := [_])).trans (.cons _ (.refl _))))))) (by omega) hlen hf _ ?_
  intro y1 z y5 v3 s3 hS4
  simp (disch := omega) only [vm0, vm1, vm2, vm3, vm4, vm5, vm6, vm7, fPick, fBox, fBuild, fBsl, fLd, fLda, fSt, fNilc, fBin, fEq, fUn, fMkf, fFa, fFld, fFlda, fExt, evo, wr, wrC, frame, Bool.not_true, Bool.not_false, beq_self_eq_true, List.cons_append, List.nil_append, Nat.add_zero, Nat.zero_add, Nat.reduceAdd, Nat.reduceMul, Nat.reduceSub, Bool.and_true, Bool.true_and, Bool.and_self, beq_dec, fApp, Int.toNat_natCast, Nat.sub_zero, vmI]
  exact ((hS4.re (.cons _ ((List.perm_middle (l₁ := [_])).trans (.cons _ (.refl _))))))
end
end Go.Proofs.Ytgckbcljlkkceaa.ctr
namespace Go.Proofs.Ytgckbcljlkkceaa.ctr
open Go Go.Vm Go.RowKit
set_option linter.unusedVariables false
set_option linter.constructorNameAsVariable false
set_option linter.unusedSimpArgs false
def GS.new (k : Int) : GS := ⟨min (max k 1) 64, 0, 0, 0, false⟩
def WS.new (k : Int) : WS := ⟨min (max k 1) 16, min 2 (min (max k 1) 16), min (max k 1) 16, 0⟩
def PT.new (mo fi : Int) : PT := ⟨false, false, false, 0, GS.new fi, WS.new mo, []⟩
theorem GS.new_ok (k : Int) : (GS.new k).Ok := ⟨by unfold GS.new; dsimp only; omega, by unfold GS.new; dsimp only; omega, by unfold GS.new; dsimp only; omega, by unfold GS.new; dsimp only; omega⟩
theorem WS.new_ok (k : Int) : (WS.new k).Ok := ⟨by unfold WS.new; dsimp only; omega, by unfold WS.new; dsimp only; omega, by unfold WS.new; dsimp only; omega, by unfold WS.new; dsimp only; omega, fun _ => rfl⟩
/-- a block that is kept free -/
def oN (b : Nat) : Obj := ⟨fun s fp => b < s.next ∧ fp = [b], fun {s s' fp fp'} ⟨h1, h2⟩ hf hd => ⟨Nat.lt_of_lt_of_le h1 hf.1, h2⟩, fun {s fp} ⟨h1, h2⟩ => by intro b' hb; rw [h2] at hb; simp at hb; subst hb; exact h1⟩
theorem Sep.fill {s0 s : St} {b : Nat} {Ps : List Obj} (h : Sep s0 s (oN b :: Ps)) (c : List AV) : Sep s0 (s.put b (some (.cells c .own))) (oC b c :: Ps) := by
  obtain ⟨f, ⟨h1, rfl⟩, up⟩ := h.hd
  exact up (oC b c) ⟨get_put_eq rfl, by rw [next_put]; exact h1, rfl⟩ (.put (.inl (by simp))) (fun z hz => .inl hz)
section
variable {bd : Bd} {fu : Nat}
theorem pushC {s0 s : St} {Ps : List Obj} (hS : Sep s0 s Ps) (c : List AV) : Sep s0 (s.new (.cells c .own)) (oC s.next c :: Ps) :=
  hS.push (P := oC s.next c) (f := [s.next]) ⟨get_new_eq rfl, by rw [next_new]; omega, rfl⟩ .new (by intro z hz; simp at hz; right; omega)
theorem g_new (n : Nat) {s0 : St} (s : St) (k : Int) (Ps : List Obj) (hS : Sep s0 s Ps) : OutOk (callF bd tab.get fu (n + 2) 76 [num k] s) (fun x s' => ∃ p, Is x (.ptr p 0) ∧ Sep s0 s' (oC p (GS.new k).cs :: Ps)) := by
  refine call_code t76 rfl ?_
  simp (disch := omega) only [vm0, vm1, vm2, vm3, vm4, vm5, vm6, vm7, fPick, fBox, fBuild, fBsl, fLd, fLda, fSt, fNilc, fBin, fEq, fUn, fMkf, fFa, fFld, fFlda, fExt, evo, wr, wrC, frame, Bool.not_true, Bool.not_false, beq_self_eq_true, List.cons_append, List.nil_append, Nat.add_zero, Nat.zero_add, Nat.reduceAdd, Nat.reduceMul, Nat.reduceSub, Bool.and_true, Bool.true_and, Bool.and_self, beq_dec, fApp, Int.toNat_natCast, Nat.sub_zero, vmI, vc76]
  refine call_ok rfl rfl (g_within n s k 1 64) ?_
  rintro y s1 ⟨rfl, rfl⟩
  simp (disch := omega) only [vm0, vm1, vm2, vm3, vm4, vm5, vm6, vm7, fPick, fBox, fBuild, fBsl, fLd, fLda, fSt, fNilc, fBin, fEq, fUn, fMkf, fFa, fFld, fFlda, fExt, evo, wr, wrC, frame, Bool.not_true, Bool.not_false, beq_self_eq_true, List.cons_append, List.nil_append, Nat.add_zero, Nat.zero_add, Nat.reduceAdd, Nat.reduceMul, Nat.reduceSub, Bool.and_true, Bool.true_and, Bool.and_self, beq_dec, fApp, Int.toNat_natCast, Nat.sub_zero, vmI]
  exact ⟨_, rfl, pushC hS _⟩
theorem w_new (n : Nat) {s0 : St} (s : St) (k : Int) (Ps : List Obj) (hS : Sep s0 s Ps) : OutOk (callF bd tab.get fu (n + 2) 79 [num k] s) (fun x s' => ∃ p, Is x (.ptr p 0) ∧ Sep s0 s' (oC p (GS.new k).cs :: Ps)) := by
  refine call_code t79 rfl ?_
  simp (disch := omega) only [vm0, vm1, vm2, vm3, vm4, vm5, vm6, vm7, fPick, fBox, fBuild, fBsl, fLd, fLda, fSt, fNilc, fBin, fEq, fUn, fMkf, fFa, fFld, fFlda, fExt, evo, wr, wrC, frame, Bool.not_true, Bool.not_false, beq_self_eq_true, List.cons_append, List.nil_append, Nat.add_zero, Nat.zero_add, Nat.reduceAdd, Nat.reduceMul, Nat.reduceSub, Bool.and_true, Bool.true_and, Bool.and_self, beq_dec, fApp, Int.toNat_natCast, Nat.sub_zero, vmI, vc79]
  refine call_ok rfl rfl (g_clamp n s k 1 64) ?_
  rintro y s1 ⟨rfl, rfl⟩
  simp (disch := omega) only [vm0, vm1, vm2, vm3, vm4, vm5, vm6, vm7, fPick, fBox, fBuild, fBsl, fLd, fLda, fSt, fNilc, fBin, fEq, fUn, fMkf, fFa, fFld, fFlda, fExt, evo, wr, wrC, frame, Bool.not_true, Bool.not_false, beq_self_eq_true, List.cons_append, List.nil_append, Nat.add_zero, Nat.zero_add, Nat.reduceAdd, Nat.reduceMul, Nat.reduceSub, Bool.and_true, Bool.true_and, Bool.and_self, beq_dec, fApp, Int.toNat_natCast, Nat.sub_zero, vmI]
  exact ⟨_, rfl, pushC hS _⟩
theorem c_new (n : Nat) {s0 : St} (s : St) (k : Int) (Ps : List Obj) (hS : Sep s0 s Ps) : OutOk (callF bd tab.get fu (n + 2) 77 [num k] s) (fun x s' => ∃ p, Is x (.ptr p 0) ∧ Sep s0 s' (oC p (WS.new k).cs :: Ps)) := by
  refine call_code t77 rfl ?_
  simp (disch := omega) only [vm0, vm1, vm2, vm3, vm4, vm5, vm6, vm7, fPick, fBox, fBuild, fBsl, fLd, fLda, fSt, fNilc, fBin, fEq, fUn, fMkf, fFa, fFld, fFlda, fExt, evo, wr, wrC, frame, Bool.not_true, Bool.not_false, beq_self_eq_true, List.cons_append, List.nil_append, Nat.add_zero, Nat.zero_add, Nat.reduceAdd, Nat.reduceMul, Nat.reduceSub, Bool.and_true, Bool.true_and, Bool.and_self, beq_dec, fApp, Int.toNat_natCast, Nat.sub_zero, vmI, vc77]
  exact ⟨_, rfl, pushC hS _⟩
theorem w_newW (n : Nat) {s0 : St} (s : St) (k : Int) (Ps : List Obj) (hS : Sep s0 s Ps) : OutOk (callF bd tab.get fu (n + 2) 80 [num k] s) (fun x s' => ∃ p, Is x (.ptr p 0) ∧ Sep s0 s' (oC p (WS.new k).cs :: Ps)) := by
  refine call_code t80 rfl ?_
  simp (disch := omega) only [vm0, vm1, vm2, vm3, vm4, vm5, vm6, vm7, fPick, fBox, fBuild, fBsl, fLd, fLda, fSt, fNilc, fBin, fEq, fUn, fMkf, fFa, fFld, fFlda, fExt, evo, wr, wrC, frame, Bool.not_true, Bool.not_false, beq_self_eq_true, List.cons_append, List.nil_append, Nat.add_zero, Nat.zero_add, Nat.reduceAdd, Nat.reduceMul, Nat.reduceSub, Bool.and_true, Bool.true_and, Bool.and_self, beq_dec, fApp, Int.toNat_natCast, Nat.sub_zero, vmI, vc80]
  refine call_ok rfl rfl (g_clamp n s k 1 16) ?_
  rintro y s1 ⟨rfl, rfl⟩
  simp (disch := omega) only [vm0, vm1, vm2, vm3, vm4, vm5, vm6, vm7, fPick, fBox, fBuild, fBsl, fLd, fLda, fSt, fNilc, fBin, fEq, fUn, fMkf, fFa, fFld, fFlda, fExt, evo, wr, wrC, frame, Bool.not_true, Bool.not_false, beq_self_eq_true, List.cons_append, List.nil_append, Nat.add_zero, Nat.zero_add, Nat.reduceAdd, Nat.reduceMul, Nat.reduceSub, Bool.and_true, Bool.true_and, Bool.and_self, beq_dec, fApp, Int.toNat_natCast, Nat.sub_zero, vmI]
  exact ⟨_, rfl, pushC hS _⟩
theorem f_new_ (n : Nat) {s0 : St} (s : St) (Ps : List Obj) (hS : Sep s0 s Ps) : OutOk (callF bd tab.get fu (n + 1) 78 [] s) (fun x s' => ∃ p, Is x (.ptr p 0) ∧ Sep s0 s' (oF p [] :: Ps)) := by
  refine call_code t78 rfl ?_
  simp (disch := omega) only [vm0, vm1, vm2, vm3, vm4, vm5, vm6, vm7, fPick, fBox, fBuild, fBsl, fLd, fLda, fSt, fNilc, fBin, fEq, fUn, fMkf, fFa, fFld, fFlda, fExt, evo, wr, wrC, frame, Bool.not_true, Bool.not_false, beq_self_eq_true, List.cons_append, List.nil_append, Nat.add_zero, Nat.zero_add, Nat.reduceAdd, Nat.reduceMul, Nat.reduceSub, Bool.and_true, Bool.true_and, Bool.and_self, beq_dec, fApp, Int.toNat_natCast, Nat.sub_zero, vmI, vc78]
  exact ⟨_, rfl, hS.push (P := oF s.next []) (f := [s.next]) ⟨.nils, [], get_new_eq rfl, .nil (by intro x; rfl) (by omega), by simp, rfl, by rw [next_new]; omega⟩ .new (by intro z hz; simp at hz; right; omega)⟩
theorem p_new (n : Nat) {s0 : St} (s : St) (a1 a2 a3 a4 mo fi a7 : Int) (Ps : List Obj) (hS : Sep s0 s Ps) : OutOk (callF bd tab.get fu (n + 3) 25 [.agg [num a1, num a2, num a3, num a4, num mo, num fi, num a7]] s) (fun x s' => ∃ p g w f, Is x (.ptr p 0) ∧ Sep s0 s' (oC p ((PT.new mo fi).pc g w f) :: oC g (PT.new mo fi).G.cs :: oC w (PT.new mo fi).W.cs :: oF f [] :: Ps)) := by
  refine call_code t25 rfl ?_
  simp (disch := omega) only [vm0, vm1, vm2, vm3, vm4, vm5, vm6, vm7, fPick, fBox, fBuild, fBsl, fLd, fLda, fSt, fNilc, fBin, fEq, fUn, fMkf, fFa, fFld, fFlda, fExt, evo, wr, wrC, frame, Bool.not_true, Bool.not_false, beq_self_eq_true, List.cons_append, List.nil_append, Nat.add_zero, Nat.zero_add, Nat.reduceAdd, Nat.reduceMul, Nat.reduceSub, Bool.and_true, Bool.true_and, Bool.and_self, beq_dec, fApp, Int.toNat_natCast, Nat.sub_zero, vmI, vc25]
  have hS1 := pushC hS [num a1, num a2, num a3, num a4, num mo, num fi, num a7]
  have hn1 : (s.new (.cells [num a1, num a2, num a3, num a4, num mo, num fi, num a7] .own)).next = s.next + 1 := next_new ..
  generalize s.new (.cells [num a1, num a2, num a3, num a4, num mo, num fi, num a7] .own) = s1 at *
  have hS2 := hS1.push (P := oN (s.next + 1)) (s' := { heap := s1.heap, next := s.next + 1 + 1 }) (f := [s.next + 1]) ⟨Nat.lt_succ_self _, rfl⟩ (by exact (by (repeat' (first | exact Fr.refl | assumption | apply Fr.new' | apply Fr.mk' | apply Fr.put')) <;> (first | omega | (left; simp; done) | (right; simp only [next_put, next_new, next_mk]; omega) | (simp only [next_put, next_new, next_mk]; omega)))) (by intro z hz; simp at hz; right; omega)
  generalize ({ heap := s1.heap, next := s.next + 1 + 1 } : St) = s2 at *
  have g1 := hS2.swap.getC
  refine call_ok rfl rfl (g_new n s2 fi _ hS2) ?_
  rintro y s3 ⟨g, rfl, hS3⟩
  have g2 := (((hS3.re ((List.perm_middle (l₁ := [_, _])).trans (.cons _ (.refl _)))))).getC
  simp (disch := omega) only [vm0, vm1, vm2, vm3, vm4, vm5, vm6, vm7, fPick, fBox, fBuild, fBsl, fLd, fLda, fSt, fNilc, fBin, fEq, fUn, fMkf, fFa, fFld, fFlda, fExt, evo, wr, wrC, frame, Bool.not_true, Bool.not_false, beq_self_eq_true, List.cons_append, List.nil_append, Nat.add_zero, Nat.zero_add, Nat.reduceAdd, Nat.reduceMul, Nat.reduceSub, Bool.and_true, Bool.true_and, Bool.and_self, beq_dec, fApp, Int.toNat_natCast, Nat.sub_zero, vmI, g1, g2]
  refine call_ok rfl rfl (c_new n s3 mo _ hS3) ?_
  rintro y s4 ⟨w, rfl, hS4⟩
  have g3 := (((hS4.re ((List.perm_middle (l₁ := [_, _, _])).trans (.cons _ (.refl _)))))).getC
  simp (disch := omega) only [vm0, vm1, vm2, vm3, vm4, vm5, vm6, vm7, fPick, fBox, fBuild, fBsl, fLd, fLda, fSt, fNilc, fBin, fEq, fUn, fMkf, fFa, fFld, fFlda, fExt, evo, wr, wrC, frame, Bool.not_true, Bool.not_false, beq_self_eq_true, List.cons_append, List.nil_append, Nat.add_zero, Nat.zero_add, Nat.reduceAdd, Nat.reduceMul, Nat.reduceSub, Bool.and_true, Bool.true_and, Bool.and_self, beq_dec, fApp, Int.toNat_natCast, Nat.sub_zero, vmI, g1, g2, g3]
  refine call_ok rfl rfl (f_new_ (n + 1) s4 _ hS4) ?_
  rintro y s5 ⟨f, rfl, hS5⟩
  have g4 := (((hS5.re ((List.perm_middle (l₁ := [_, _, _, _])).trans (.cons _ (.refl _)))))).getC
  have hS6 := (((hS5.re ((List.perm_middle (l₁ := [_, _, _, _])).trans (.cons _ ((List.perm_middle (l₁ := [_, _, _])).trans (.cons _ ((List.perm_middle (l₁ := [_, _])).trans (.cons _ ((List.perm_middle (l₁ := [_])).trans (.cons _ (.refl _)))))))))).drop)).fill [.bool false, .bool false, .ptr g 0, .ptr w 0, .ptr f 0, num 0, .bool false]
  simp (disch := omega) only [vm0, vm1, vm2, vm3, vm4, vm5, vm6, vm7, fPick, fBox, fBuild, fBsl, fLd, fLda, fSt, fNilc, fBin, fEq, fUn, fMkf, fFa, fFld, fFlda, fExt, evo, wr, wrC, frame, Bool.not_true, Bool.not_false, beq_self_eq_true, List.cons_append, List.nil_append, Nat.add_zero, Nat.zero_add, Nat.reduceAdd, Nat.reduceMul, Nat.reduceSub, Bool.and_true, Bool.true_and, Bool.and_self, beq_dec, fApp, Int.toNat_natCast, Nat.sub_zero, vmI, g1, g2, g3, g4]
  exact ⟨_, g, w, f, rfl, hS6⟩
end
end Go.Proofs.Ytgckbcljlkkceaa.ctr
namespace Go.Proofs.Ytgckbcljlkkceaa.ctr
open Go Go.Vm Go.RowKit
set_option linter.unusedVariables false
set_option linter.constructorNameAsVariable false
set_option linter.unusedSimpArgs false
section
variable {bd : Bd} {fu : Nat}
theorem q_new (n : Nat) {s0 : St} (s : St) (a1 a2 a3 a4 mo fi a7 : Int) (Ps : List Obj) (hS : Sep s0 s Ps) : OutOk (callF bd tab.get fu (n + 3) 26 [.agg [num a1, num a2, num a3, num a4, num mo, num fi, num a7]] s) (fun x s' => ∃ r g w, Is x (.ptr r 0) ∧ Sep s0 s' (oU r false false false 0 g w [] :: oC g (PT.new mo fi).G.cs :: oC w (PT.new mo fi).W.cs :: Ps)) := by
  refine call_code t26 rfl ?_
  simp (disch := omega) only [vm0, vm1, vm2, vm3, vm4, vm5, vm6, vm7, fPick, fBox, fBuild, fBsl, fLd, fLda, fSt, fNilc, fBin, fEq, fUn, fMkf, fFa, fFld, fFlda, fExt, evo, wr, wrC, frame, Bool.not_true, Bool.not_false, beq_self_eq_true, List.cons_append, List.nil_append, Nat.add_zero, Nat.zero_add, Nat.reduceAdd, Nat.reduceMul, Nat.reduceSub, Bool.and_true, Bool.true_and, Bool.and_self, beq_dec, fApp, Int.toNat_natCast, Nat.sub_zero, vmI, vc26]
  have hS1 := pushC hS [num a1, num a2, num a3, num a4, num mo, num fi, num a7]
  have hn1 : (s.new (.cells [num a1, num a2, num a3, num a4, num mo, num fi, num a7] .own)).next = s.next + 1 := next_new ..
  generalize s.new (.cells [num a1, num a2, num a3, num a4, num mo, num fi, num a7] .own) = s1 at *
  have hS2 := hS1.push (P := oN (s.next + 1)) (s' := { heap := s1.heap, next := s.next + 1 + 1 }) (f := [s.next + 1]) ⟨Nat.lt_succ_self _, rfl⟩ (by exact (by (repeat' (first | exact Fr.refl | assumption | apply Fr.new' | apply Fr.mk' | apply Fr.put')) <;> (first | omega | (left; simp; done) | (right; simp only [next_put, next_new, next_mk]; omega) | (simp only [next_put, next_new, next_mk]; omega)))) (by intro z hz; simp at hz; right; omega)
  generalize ({ heap := s1.heap, next := s.next + 1 + 1 } : St) = s2 at *
  have g1 := hS2.swap.getC
  refine call_ok rfl rfl (w_new n s2 fi _ hS2) ?_
  rintro y s3 ⟨g, rfl, hS3⟩
  have g2 := (((hS3.re ((List.perm_middle (l₁ := [_, _])).trans (.cons _ (.refl _)))))).getC
  simp (disch := omega) only [vm0, vm1, vm2, vm3, vm4, vm5, vm6, vm7, fPick, fBox, fBuild, fBsl, fLd, fLda, fSt, fNilc, fBin, fEq, fUn, fMkf, fFa, fFld, fFlda, fExt, evo, wr, wrC, frame, Bool.not_true, Bool.not_false, beq_self_eq_true, List.cons_append, List.nil_append, Nat.add_zero, Nat.zero_add, Nat.reduceAdd, Nat.reduceMul, Nat.reduceSub, Bool.and_true, Bool.true_and, Bool.and_self, beq_dec, fApp, Int.toNat_natCast, Nat.sub_zero, vmI, g1, g2]
  refine call_ok rfl rfl (w_newW n s3 mo _ hS3) ?_
  rintro y s4 ⟨w, rfl, hS4⟩
  have g3 := (((hS4.re ((List.perm_middle (l₁ := [_, _, _])).trans (.cons _ (.refl _)))))).getC
  have hS6 := (((hS4.re ((List.perm_middle (l₁ := [_, _, _])).trans (.cons _ ((List.perm_middle (l₁ := [_, _])).trans (.cons _ ((List.perm_middle (l₁ := [_])).trans (.cons _ (.refl _)))))))).drop)).fill [.bool false, .bool false, .bool false, num 0, .ptr g 0, .ptr w 0, .nils]
  have hS7 : Sep s0 (s4.put (s.next + 1) (some (.cells [.bool false, .bool false, .bool false, num 0, .ptr g 0, .ptr w 0, .nils] .own))) (oU (s.next + 1) false false false 0 g w [] :: oC g (GS.new fi).cs :: oC w (WS.new mo).cs :: Ps) := by
    obtain ⟨f, ⟨h1, h2, rfl⟩, up⟩ := hS6.hd
    exact up (oU (s.next + 1) false false false 0 g w []) ⟨.nils, [], h1, .nil (by intro x; rfl) (by omega), by simp, rfl, h2⟩ .refl (fun b hb => .inl hb)
  simp (disch := omega) only [vm0, vm1, vm2, vm3, vm4, vm5, vm6, vm7, fPick, fBox, fBuild, fBsl, fLd, fLda, fSt, fNilc, fBin, fEq, fUn, fMkf, fFa, fFld, fFlda, fExt, evo, wr, wrC, frame, Bool.not_true, Bool.not_false, beq_self_eq_true, List.cons_append, List.nil_append, Nat.add_zero, Nat.zero_add, Nat.reduceAdd, Nat.reduceMul, Nat.reduceSub, Bool.and_true, Bool.true_and, Bool.and_self, beq_dec, fApp, Int.toNat_natCast, Nat.sub_zero, vmI, g1, g2, g3]
  exact ⟨_, g, w, rfl, hS7⟩
theorem p_config (n : Nat) (s : St) (b1 b2 b3 b4 b5 b6 b7 : Int) (h1 : In64 b1) (h2 : In64 b2) (h3 : In64 b3) (h4 : In64 b4) (h5 : In64 b5) (h6 : In64 b6) (h7 : In64 b7) :
    OutOk (callF bd tab.get fu (n + 2) 24 [.agg [num b1, num b2, num b3, num b4, num b5, num b6, num b7]] s) (fun x s' => Is x (.agg [num (1 + b1 % 3), num (1 + b2 % 60), num (1 + b3 % 50), num (1 + b4 % 20), num (1 + b5 % 6), num (1 + b6 % 8), num (1 + b7 % 3)]) ∧ Fr s s' []) := by
  refine call_code t24 rfl ?_
  simp (disch := omega) only [vm0, vm1, vm2, vm3, vm4, vm5, vm6, vm7, fPick, fBox, fBuild, fBsl, fLd, fLda, fSt, fNilc, fBin, fEq, fUn, fMkf, fFa, fFld, fFlda, fExt, evo, wr, wrC, frame, Bool.not_true, Bool.not_false, beq_self_eq_true, List.cons_append, List.nil_append, Nat.add_zero, Nat.zero_add, Nat.reduceAdd, Nat.reduceMul, Nat.reduceSub, Bool.and_true, Bool.true_and, Bool.and_self, beq_dec, fApp, Int.toNat_natCast, Nat.sub_zero, vmI, vc24]
  have hfa : Fr s ((s.new (.cells [num b1, num b2, num b3, num b4, num b5, num b6, num b7] .own)).new (.cells [num 0, num 0, num 0, num 0, num 0, num 0, num 0] .own)) [] := by exact (by (repeat' (first | exact Fr.refl | assumption | apply Fr.new' | apply Fr.mk' | apply Fr.put')) <;> (first | omega | (left; simp; done) | (right; simp only [next_put, next_new, next_mk]; omega) | (simp only [next_put, next_new, next_mk]; omega)))
  have g1 : ((s.new (.cells [num b1, num b2, num b3, num b4, num b5, num b6, num b7] .own)).new (.cells [num 0, num 0, num 0, num 0, num 0, num 0, num 0] .own)).heap.get s.next = some (.cells [num b1, num b2, num b3, num b4, num b5, num b6, num b7] .own) := by
    rw [get_new_ne (by rw [next_new]; omega)]; exact get_new_eq rfl
  have g2 : ((s.new (.cells [num b1, num b2, num b3, num b4, num b5, num b6, num b7] .own)).new (.cells [num 0, num 0, num 0, num 0, num 0, num 0, num 0] .own)).heap.get (s.next + 1) = some (.cells [num 0, num 0, num 0, num 0, num 0, num 0, num 0] .own) := get_new_eq (by simp only [next_new])
  have hpn : s.next ≠ s.next + 1 := by omega
  generalize (s.new (.cells [num b1, num b2, num b3, num b4, num b5, num b6, num b7] .own)).new (.cells [num 0, num 0, num 0, num 0, num 0, num 0, num 0] .own) = X at *
  simp (disch := omega) only [vm0, vm1, vm2, vm3, vm4, vm5, vm6, vm7, fPick, fBox, fBuild, fBsl, fLd, fLda, fSt, fNilc, fBin, fEq, fUn, fMkf, fFa, fFld, fFlda, fExt, evo, wr, wrC, frame, Bool.not_true, Bool.not_false, beq_self_eq_true, List.cons_append, List.nil_append, Nat.add_zero, Nat.zero_add, Nat.reduceAdd, Nat.reduceMul, Nat.reduceSub, Bool.and_true, Bool.true_and, Bool.and_self, beq_dec, fApp, Int.toNat_natCast, Nat.sub_zero, vmI, g1]
  refine call_ok rfl rfl (within n X b1 3 h1 (by omega) (by omega)) ?_
  rintro y X ⟨rfl, rfl⟩
  have q1 : 0 ≤ b1 % 3 ∧ b1 % 3 < 3 := by omega
  simp (disch := omega) only [vm0, vm1, vm2, vm3, vm4, vm5, vm6, vm7, fPick, fBox, fBuild, fBsl, fLd, fLda, fSt, fNilc, fBin, fEq, fUn, fMkf, fFa, fFld, fFlda, fExt, evo, wr, wrC, frame, Bool.not_true, Bool.not_false, beq_self_eq_true, List.cons_append, List.nil_append, Nat.add_zero, Nat.zero_add, Nat.reduceAdd, Nat.reduceMul, Nat.reduceSub, Bool.and_true, Bool.true_and, Bool.and_self, beq_dec, fApp, Int.toNat_natCast, Nat.sub_zero, vmI, vmR, g1, g2]
  refine call_ok rfl rfl (within n X b2 60 h2 (by omega) (by omega)) ?_
  rintro y X ⟨rfl, rfl⟩
  have q2 : 0 ≤ b2 % 60 ∧ b2 % 60 < 60 := by omega
  simp (disch := omega) only [vm0, vm1, vm2, vm3, vm4, vm5, vm6, vm7, fPick, fBox, fBuild, fBsl, fLd, fLda, fSt, fNilc, fBin, fEq, fUn, fMkf, fFa, fFld, fFlda, fExt, evo, wr, wrC, frame, Bool.not_true, Bool.not_false, beq_self_eq_true, List.cons_append, List.nil_append, Nat.add_zero, Nat.zero_add, Nat.reduceAdd, Nat.reduceMul, Nat.reduceSub, Bool.and_true, Bool.true_and, Bool.and_self, beq_dec, fApp, Int.toNat_natCast, Nat.sub_zero, vmI, vmR, g1, g2]
  refine call_ok rfl rfl (within n X b3 50 h3 (by omega) (by omega)) ?_
  rintro y X ⟨rfl, rfl⟩
  have q3 : 0 ≤ b3 % 50 ∧ b3 % 50 < 50 := by omega
  simp (disch := omega) only [vm0, vm1, vm2, vm3, vm4, vm5, vm6, vm7, fPick, fBox, fBuild, fBsl, fLd, fLda, fSt, fNilc, fBin, fEq, fUn, fMkf, fFa, fFld, fFlda, fExt, evo, wr, wrC, frame, Bool.not_true, Bool.not_false, beq_self_eq_true, List.cons_append, List.nil_append, Nat.add_zero, Nat.zero_add, Nat.reduceAdd, Nat.reduceMul, Nat.reduceSub, Bool.and_true, Bool.true_and, Bool.and_self, beq_dec, fApp, Int.toNat_natCast, Nat.sub_zero, vmI, vmR, g1, g2]
  refine call_ok rfl rfl (within n X b4 20 h4 (by omega) (by omega)) ?_
  rintro y X ⟨rfl, rfl⟩
  have q4 : 0 ≤ b4 % 20 ∧ b4 % 20 < 20 := by omega
  simp (disch := omega) only [vm0, vm1, vm2, vm3, vm4, vm5, vm6, vm7, fPick, fBox, fBuild, fBsl, fLd, fLda, fSt, fNilc, fBin, fEq, fUn, fMkf, fFa, fFld, fFlda, fExt, evo, wr, wrC, frame, Bool.not_true, Bool.not_false, beq_self_eq_true, List.cons_append, List.nil_append, Nat.add_zero, Nat.zero_add, Nat.reduceAdd, Nat.reduceMul, Nat.reduceSub, Bool.and_true, Bool.true_and, Bool.and_self, beq_dec, fApp, Int.toNat_natCast, Nat.sub_zero, vmI, vmR, g1, g2]
  refine call_ok rfl rfl (within n X b5 6 h5 (by omega) (by omega)) ?_
  rintro y X ⟨rfl, rfl⟩
  have q5 : 0 ≤ b5 % 6 ∧ b5 % 6 < 6 := by omega
  simp (disch := omega) only [vm0, vm1, vm2, vm3, vm4, vm5, vm6, vm7, fPick, fBox, fBuild, fBsl, fLd, fLda, fSt, fNilc, fBin, fEq, fUn, fMkf, fFa, fFld, fFlda, fExt, evo, wr, wrC, frame, Bool.not_true, Bool.not_false, beq_self_eq_true, List.cons_append, List.nil_append, Nat.add_zero, Nat.zero_add, Nat.reduceAdd, Nat.reduceMul, Nat.reduceSub, Bool.and_true, Bool.true_and, Bool.and_self, beq_dec, fApp, Int.toNat_natCast, Nat.sub_zero, vmI, vmR, g1, g2]
  refine call_ok rfl rfl (within n X b6 8 h6 (by omega) (by omega)) ?_
  rintro y X ⟨rfl, rfl⟩
  have q6 : 0 ≤ b6 % 8 ∧ b6 % 8 < 8 := by omega
  simp (disch := omega) only [vm0, vm1, vm2, vm3, vm4, vm5, vm6, vm7, fPick, fBox, fBuild, fBsl, fLd, fLda, fSt, fNilc, fBin, fEq, fUn, fMkf, fFa, fFld, fFlda, fExt, evo, wr, wrC, frame, Bool.not_true, Bool.not_false, beq_self_eq_true, List.cons_append, List.nil_append, Nat.add_zero, Nat.zero_add, Nat.reduceAdd, Nat.reduceMul, Nat.reduceSub, Bool.and_true, Bool.true_and, Bool.and_self, beq_dec, fApp, Int.toNat_natCast, Nat.sub_zero, vmI, vmR, g1, g2]
  refine call_ok rfl rfl (within n X b7 3 h7 (by omega) (by omega)) ?_
  rintro y X ⟨rfl, rfl⟩
  have q7 : 0 ≤ b7 % 3 ∧ b7 % 3 < 3 := by omega
  simp (disch := omega) only [vm0, vm1, vm2, vm3, vm4, vm5, vm6, vm7, fPick, fBox, fBuild, fBsl, fLd, fLda, fSt, fNilc, fBin, fEq, fUn, fMkf, fFa, fFld, fFlda, fExt, evo, wr, wrC, frame, Bool.not_true, Bool.not_false, beq_self_eq_true, List.cons_append, List.nil_append, Nat.add_zero, Nat.zero_add, Nat.reduceAdd, Nat.reduceMul, Nat.reduceSub, Bool.and_true, Bool.true_and, Bool.and_self, beq_dec, fApp, Int.toNat_natCast, Nat.sub_zero, vmI, vmR, g1, g2]
  exact ⟨rfl, by exact (by (repeat' (first | exact Fr.refl | assumption | apply Fr.new' | apply Fr.mk' | apply Fr.put')) <;> (first | omega | (left; simp; done) | (right; simp only [next_put, next_new, next_mk]; omega) | (simp only [next_put, next_new, next_mk]; omega)))⟩
end
end Go.Proofs.Ytgckbcljlkkceaa.ctr
namespace Go.Proofs.Ytgckbcljlkkceaa.ctr
open Go Go.Vm Go.RowKit
set_option linter.unusedVariables false
set_option linter.constructorNameAsVariable false
set_option linter.unusedSimpArgs false
section
variable {bd : Bd} {fu : Nat}
theorem p_plain (n : Nat) (s : St) : OutOk (callF bd tab.get fu (n + 1) 105 [] s) (fun x s' => Is x (.agg [num 1, num 50, num 50, num 10, num 4, num 3, num 1]) ∧ Fr s s' []) := by
  refine call_code t105 rfl ?_
  simp (disch := omega) only [vm0, vm1, vm2, vm3, vm4, vm5, vm6, vm7, fPick, fBox, fBuild, fBsl, fLd, fLda, fSt, fNilc, fBin, fEq, fUn, fMkf, fFa, fFld, fFlda, fExt, evo, wr, wrC, frame, Bool.not_true, Bool.not_false, beq_self_eq_true, List.cons_append, List.nil_append, Nat.add_zero, Nat.zero_add, Nat.reduceAdd, Nat.reduceMul, Nat.reduceSub, Bool.and_true, Bool.true_and, Bool.and_self, beq_dec, fApp, Int.toNat_natCast, Nat.sub_zero, vmI, vc105]
  exact ⟨rfl, by exact (by (repeat' (first | exact Fr.refl | assumption | apply Fr.new' | apply Fr.mk' | apply Fr.put')) <;> (first | omega | (left; simp; done) | (right; simp only [next_put, next_new, next_mk]; omega) | (simp only [next_put, next_new, next_mk]; omega)))⟩
theorem wakes18 (n : Nat) (s : St) : OutOk (callF bd tab.get fu (n + 4) 51 [] s) (fun x s' => Is x (.bool true)) := by
  refine call_code t51 rfl ?_
  simp (disch := omega) only [vm0, vm1, vm2, vm3, vm4, vm5, vm6, vm7, fPick, fBox, fBuild, fBsl, fLd, fLda, fSt, fNilc, fBin, fEq, fUn, fMkf, fFa, fFld, fFlda, fExt, evo, wr, wrC, frame, Bool.not_true, Bool.not_false, beq_self_eq_true, List.cons_append, List.nil_append, Nat.add_zero, Nat.zero_add, Nat.reduceAdd, Nat.reduceMul, Nat.reduceSub, Bool.and_true, Bool.true_and, Bool.and_self, beq_dec, fApp, Int.toNat_natCast, Nat.sub_zero, vmI, vc51]
  refine call_ok rfl rfl (p_plain (n + 2) s) ?_
  rintro y s1 ⟨rfl, hf1⟩
  simp (disch := omega) only [vm0, vm1, vm2, vm3, vm4, vm5, vm6, vm7, fPick, fBox, fBuild, fBsl, fLd, fLda, fSt, fNilc, fBin, fEq, fUn, fMkf, fFa, fFld, fFlda, fExt, evo, wr, wrC, frame, Bool.not_true, Bool.not_false, beq_self_eq_true, List.cons_append, List.nil_append, Nat.add_zero, Nat.zero_add, Nat.reduceAdd, Nat.reduceMul, Nat.reduceSub, Bool.and_true, Bool.true_and, Bool.and_self, beq_dec, fApp, Int.toNat_natCast, Nat.sub_zero, vmI]
  refine call_ok rfl rfl (p_new n s1 1 50 50 10 4 3 1 _ Sep.nil) ?_
  rintro y s2 ⟨p, g, w, f, rfl, hS⟩
  simp (disch := omega) only [vm0, vm1, vm2, vm3, vm4, vm5, vm6, vm7, fPick, fBox, fBuild, fBsl, fLd, fLda, fSt, fNilc, fBin, fEq, fUn, fMkf, fFa, fFld, fFlda, fExt, evo, wr, wrC, frame, Bool.not_true, Bool.not_false, beq_self_eq_true, List.cons_append, List.nil_append, Nat.add_zero, Nat.zero_add, Nat.reduceAdd, Nat.reduceMul, Nat.reduceSub, Bool.and_true, Bool.true_and, Bool.and_self, beq_dec, fApp, Int.toNat_natCast, Nat.sub_zero, vmI]
  refine call_ok rfl rfl (p_usable (n + 1) s2 p g w f (PT.new 4 3) _ hS (by decide)) ?_
  rintro y s3 ⟨rfl, rfl⟩
  have hu : (PT.new 4 3).usable = false := rfl
  rw [hu]
  simp (disch := omega) only [vm0, vm1, vm2, vm3, vm4, vm5, vm6, vm7, fPick, fBox, fBuild, fBsl, fLd, fLda, fSt, fNilc, fBin, fEq, fUn, fMkf, fFa, fFld, fFlda, fExt, evo, wr, wrC, frame, Bool.not_true, Bool.not_false, beq_self_eq_true, List.cons_append, List.nil_append, Nat.add_zero, Nat.zero_add, Nat.reduceAdd, Nat.reduceMul, Nat.reduceSub, Bool.and_true, Bool.true_and, Bool.and_self, beq_dec, fApp, Int.toNat_natCast, Nat.sub_zero, vmI]
  refine call_ok rfl rfl (p_up (n + 2) s3 p g w f (PT.new 4 3) _ hS) ?_
  rintro y s4 ⟨rfl, hS4⟩
  have hu : (!(PT.new 4 3).up) = true := rfl
  rw [hu]
  simp (disch := omega) only [vm0, vm1, vm2, vm3, vm4, vm5, vm6, vm7, fPick, fBox, fBuild, fBsl, fLd, fLda, fSt, fNilc, fBin, fEq, fUn, fMkf, fFa, fFld, fFlda, fExt, evo, wr, wrC, frame, Bool.not_true, Bool.not_false, beq_self_eq_true, List.cons_append, List.nil_append, Nat.add_zero, Nat.zero_add, Nat.reduceAdd, Nat.reduceMul, Nat.reduceSub, Bool.and_true, Bool.true_and, Bool.and_self, beq_dec, fApp, Int.toNat_natCast, Nat.sub_zero, vmI]
  refine call_ok rfl rfl (p_join (n + 2) s4 p g w f _ _ hS4) ?_
  rintro y s5 ⟨rfl, hS5⟩
  have hu : (!({ PT.new 4 3 with up := true } : PT).jn) = true := rfl
  rw [hu]
  simp (disch := omega) only [vm0, vm1, vm2, vm3, vm4, vm5, vm6, vm7, fPick, fBox, fBuild, fBsl, fLd, fLda, fSt, fNilc, fBin, fEq, fUn, fMkf, fFa, fFld, fFlda, fExt, evo, wr, wrC, frame, Bool.not_true, Bool.not_false, beq_self_eq_true, List.cons_append, List.nil_append, Nat.add_zero, Nat.zero_add, Nat.reduceAdd, Nat.reduceMul, Nat.reduceSub, Bool.and_true, Bool.true_and, Bool.and_self, beq_dec, fApp, Int.toNat_natCast, Nat.sub_zero, vmI]
  refine call_ok rfl rfl (p_usable (n + 1) s5 p g w f { { PT.new 4 3 with up := true } with jn := true } _ hS5 (by decide)) ?_
  rintro y s6 ⟨rfl, rfl⟩
  have hu : (PT.usable { { PT.new 4 3 with up := true } with jn := true }) = true := by decide
  rw [hu]
  simp (disch := omega) only [vm0, vm1, vm2, vm3, vm4, vm5, vm6, vm7, fPick, fBox, fBuild, fBsl, fLd, fLda, fSt, fNilc, fBin, fEq, fUn, fMkf, fFa, fFld, fFlda, fExt, evo, wr, wrC, frame, Bool.not_true, Bool.not_false, beq_self_eq_true, List.cons_append, List.nil_append, Nat.add_zero, Nat.zero_add, Nat.reduceAdd, Nat.reduceMul, Nat.reduceSub, Bool.and_true, Bool.true_and, Bool.and_self, beq_dec, fApp, Int.toNat_natCast, Nat.sub_zero, vmI]
  refine call_ok rfl rfl (p_up (n + 2) s6 p g w f { { PT.new 4 3 with up := true } with jn := true } _ hS5) ?_
  rintro y s7 ⟨rfl, hS7⟩
  simp (disch := omega) only [vm0, vm1, vm2, vm3, vm4, vm5, vm6, vm7, fPick, fBox, fBuild, fBsl, fLd, fLda, fSt, fNilc, fBin, fEq, fUn, fMkf, fFa, fFld, fFlda, fExt, evo, wr, wrC, frame, Bool.not_true, Bool.not_false, beq_self_eq_true, List.cons_append, List.nil_append, Nat.add_zero, Nat.zero_add, Nat.reduceAdd, Nat.reduceMul, Nat.reduceSub, Bool.and_true, Bool.true_and, Bool.and_self, beq_dec, fApp, Int.toNat_natCast, Nat.sub_zero, vmI]
  refine call_ok rfl rfl (p_join (n + 2) s7 p g w f _ _ hS7) ?_
  rintro y s8 ⟨rfl, hS8⟩
  simp (disch := omega) only [vm0, vm1, vm2, vm3, vm4, vm5, vm6, vm7, fPick, fBox, fBuild, fBsl, fLd, fLda, fSt, fNilc, fBin, fEq, fUn, fMkf, fFa, fFld, fFlda, fExt, evo, wr, wrC, frame, Bool.not_true, Bool.not_false, beq_self_eq_true, List.cons_append, List.nil_append, Nat.add_zero, Nat.zero_add, Nat.reduceAdd, Nat.reduceMul, Nat.reduceSub, Bool.and_true, Bool.true_and, Bool.and_self, beq_dec, fApp, Int.toNat_natCast, Nat.sub_zero, vmI]
  exact rfl
end
end Go.Proofs.Ytgckbcljlkkceaa.ctr
