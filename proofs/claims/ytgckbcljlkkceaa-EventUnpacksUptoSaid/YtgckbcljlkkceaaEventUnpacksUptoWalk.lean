/- EventUnpacks, walked. -/
import Derived.Test.YtgckbcljlkkceaaCyEd
import Derived.WalkKit
import Derived.ProofKit
namespace Go.Proofs.Ytgckbcljlkkceaa.ctr
open Go Go.Vm Go.RowKit
set_option linter.unusedVariables false
set_option linter.constructorNameAsVariable false
set_option linter.unusedSimpArgs false
theorem b_xor {bd : Bd} {k : IntKind} {a b : Int} : binop bd .xor (.int k (.c a)) (.int k (.c b)) = some (.int k (.c (k.wrap (BitVec.ofInt k.bits a ^^^ BitVec.ofInt k.bits b).toNat))) := by
  show cnd (Nat.beq (ik k) (ik k)) (some (AV.int k (.c (k.wrap (BitVec.ofInt k.bits a ^^^ BitVec.ofInt k.bits b).toNat)))) none = _
  rw [ikk]; rfl
/-- a beginning of a slice that is one's own -/
theorem OwE.cutn {α : Type} {s : St} {v : AV} {sz : Nat} {enc : α → List AV} {l : List α} {fp : List Nat} (h : OwE s v sz enc l fp) {n : Nat} (hn : n < l.length) : ∃ v', sliceV sz v none (some (num (n : Int))) none = some v' ∧ OwE s v' sz enc (l.take n) fp := by
  rcases h.ow with ⟨_, h0, _⟩ | ⟨b, len, lo, ex, k, J, rfl, h2, h3, h4, h5⟩
  · have := flat_len h.wid l
    rw [h0] at this
    rcases Nat.mul_eq_zero.1 this.symm with h1 | h1
    · omega
    · have := h.pos; omega
  · have hlen : len = l.length := h.len
    have hsp : l.flatMap enc = (l.take n).flatMap enc ++ (l.drop n).flatMap enc := by rw [← List.flatMap_append, List.take_append_drop]
    refine ⟨.sl b 0 n lo ex sz, ?_, ⟨.inr ⟨b, n, lo, ex, k, (l.drop n).flatMap enc ++ J, rfl, by omega, by rw [flat_len h.wid, List.length_take]; congr 1; omega, by rw [← List.append_assoc, ← hsp]; exact h4, h5⟩, h.wid, h.pos, h.lt⟩⟩
    rw [sv_s, bnd_n, bnd_s (by omega), ob_some, ob_some, sli_k (by simp) (by simp; omega) (by omega)]
    simp
section
variable {bd : Bd} {fu : Nat}
set_option maxHeartbeats 8000000 in
theorem unp_3 (n : Nat) (s : St) (bv : AV) (B : List Int) (hb : RdE s bv 1 encB B) (h8 : ∀ x ∈ B, In8 x) (hl : B.length < 1048576) (hfu : 1048600 < fu) (x1 x2 x3 x4 x5 x6 x7 x8 x9 x10 x11 x12 x13 x14 x15 x16 x17 x18 x19 x20 x21 x22 x23 x24 : Option AV) :
    RsOk (exec bd (callF bd tab.get fu (n + 8)) fu vc4_3 [some bv, x1, x2, x3, x4, x5, x6, x7, x8, x9, x10, x11, x12, x13, x14, x15, x16, x17, x18, x19, x20, x21, x22, x23, x24, some (.bool false)] s) (retQ [.tmp 25] fun y s' => Is y (.bool true)) := by
  simp (disch := omega) only [vm0, vm1, vm2, vm3, vm4, vm5, vm6, vm7, vmF, vmT, evo, wr, wrC, frame, Nat.reduceAdd, Nat.reduceMul, Nat.reduceSub, beq_self_eq_true, List.cons_append, List.nil_append, beq_dec, vmI, vc4_3]
  refine call_ok rfl rfl (lend (n + 7) s bv B hb (by omega) (by omega)) ?_
  rintro _ s1 ⟨b, rfl, hg, hsb, hbl, f1⟩
  have hlr := lent_rd hg hbl
  have hb1 := hb.fr0 f1
  simp (disch := omega) only [vm0, vm1, vm2, vm3, vm4, vm5, vm6, vm7, vmF, vmT, evo, wr, wrC, frame, Nat.reduceAdd, Nat.reduceMul, Nat.reduceSub, beq_self_eq_true, List.cons_append, List.nil_append, beq_dec, vmI]
  refine call_ok rfl rfl (e_unpack (n + 1) s1 _ B hlr h8 hl hfu) ?_
  rintro _ s2 hU
  rcases hU with ⟨m, y, hun, hbm, har, hml, rfl, hok, hS⟩ | ⟨a, hun, ha, rfl, f2⟩
  · have hb2 := hb1.fr0 hS.frm
    have hg2 := (hS.frm.get hbl (by simp)).trans hg
    have hbl2 : b < s2.next := Nat.lt_of_lt_of_le hbl hS.frm.1
    have ry := Sep.rdW hS
    simp (disch := omega) only [vm0, vm1, vm2, vm3, vm4, vm5, vm6, vm7, vmF, vmT, evo, wr, wrC, frame, Nat.reduceAdd, Nat.reduceMul, Nat.reduceSub, beq_self_eq_true, List.cons_append, List.nil_append, beq_dec, vmI]
    refine call_ok rfl rfl (u_unpack (n + 1) s2 bv B hb2 h8 hl hfu) ?_
    rintro _ s3 hV
    rcases hV with ⟨m2, y2, hun2, rfl, hok2, hS2⟩ | ⟨a2, hun2, _⟩
    · have he : evs m = evs m2 := by
        rw [hun] at hun2
        exact Option.some.inj (congrArg Prod.fst hun2)
      have hf3 := hS2.frm
      have hb3 := hb2.fr0 hf3
      have hg3 := (hf3.get hbl2 (by simp)).trans hg2
      have hbl3 : b < s3.next := Nat.lt_of_lt_of_le hbl2 hf3.1
      have hdd : decide (evs m = evs m2) = true := decide_eq_true he
      simp (disch := omega) only [vm0, vm1, vm2, vm3, vm4, vm5, vm6, vm7, vmF, vmT, evo, wr, wrC, frame, Nat.reduceAdd, Nat.reduceMul, Nat.reduceSub, beq_self_eq_true, List.cons_append, List.nil_append, beq_dec, vmI]
      refine call_ok rfl rfl (u_all (fu := fu) (n + 4) s3 y y2 m m2 (ry.fr0 hf3) (Sep.rdW hS2) (hok.fr0 hf3) hok2 (by omega) (by omega)) ?_
      rintro _ s4 ⟨rfl, f4⟩
      have hg4 := (f4.get hbl3 (by simp)).trans hg3
      have hbl4 : b < s4.next := Nat.lt_of_lt_of_le hbl3 f4.1
      simp (disch := omega) only [vm0, vm1, vm2, vm3, vm4, vm5, vm6, vm7, vmF, vmT, evo, wr, wrC, frame, Nat.reduceAdd, Nat.reduceMul, Nat.reduceSub, beq_self_eq_true, List.cons_append, List.nil_append, beq_dec, vmI, hdd]
      refine call_ok rfl rfl (intact (fu := fu) (n + 7) s4 bv B b (hb3.fr0 f4) (by omega) hg4 hbl4 (by omega)) ?_
      rintro _ s5 ⟨rfl, rfl⟩
      simp (disch := omega) only [vm0, vm1, vm2, vm3, vm4, vm5, vm6, vm7, vmF, vmT, evo, wr, wrC, frame, Nat.reduceAdd, Nat.reduceMul, Nat.reduceSub, beq_self_eq_true, List.cons_append, List.nil_append, beq_dec, vmI]
      refine call_ok rfl rfl (wakes (fu := fu) (n + 1) s5 (by omega)) ?_
      rintro _ s6 ⟨rfl, f6⟩
      simp (disch := omega) only [vm0, vm1, vm2, vm3, vm4, vm5, vm6, vm7, vmF, vmT, evo, wr, wrC, frame, Nat.reduceAdd, Nat.reduceMul, Nat.reduceSub, beq_self_eq_true, List.cons_append, List.nil_append, beq_dec, vmI]
      rfl
    · rw [hun] at hun2; cases hun2
  · have hb2 := hb1.fr0 f2
    have hg2 := (f2.get hbl (by simp)).trans hg
    have hbl2 : b < s2.next := Nat.lt_of_lt_of_le hbl f2.1
    simp (disch := omega) only [vm0, vm1, vm2, vm3, vm4, vm5, vm6, vm7, vmF, vmT, evo, wr, wrC, frame, Nat.reduceAdd, Nat.reduceMul, Nat.reduceSub, beq_self_eq_true, List.cons_append, List.nil_append, beq_dec, vmI]
    refine call_ok rfl rfl (u_unpack (n + 1) s2 bv B hb2 h8 hl hfu) ?_
    rintro _ s3 hV
    rcases hV with ⟨m2, y2, hun2, _⟩ | ⟨a2, hun2, ha2, rfl, f3⟩
    · rw [hun] at hun2; cases hun2
    · have he : a = a2 := by rw [hun] at hun2; exact congrArg Prod.snd hun2
      subst he
      have hb3 := hb2.fr0 f3
      have hg3 := (f3.get hbl2 (by simp)).trans hg2
      have hbl3 : b < s3.next := Nat.lt_of_lt_of_le hbl2 f3.1
      simp (disch := omega) only [vm0, vm1, vm2, vm3, vm4, vm5, vm6, vm7, vmF, vmT, evo, wr, wrC, frame, Nat.reduceAdd, Nat.reduceMul, Nat.reduceSub, beq_self_eq_true, List.cons_append, List.nil_append, beq_dec, vmI]
      refine call_ok rfl rfl (intact (fu := fu) (n + 7) s3 bv B b hb3 (by omega) hg3 hbl3 (by omega)) ?_
      rintro _ s5 ⟨rfl, rfl⟩
      simp (disch := omega) only [vm0, vm1, vm2, vm3, vm4, vm5, vm6, vm7, vmF, vmT, evo, wr, wrC, frame, Nat.reduceAdd, Nat.reduceMul, Nat.reduceSub, beq_self_eq_true, List.cons_append, List.nil_append, beq_dec, vmI]
      refine call_ok rfl rfl (wakes (fu := fu) (n + 1) s5 (by omega)) ?_
      rintro _ s6 ⟨rfl, f6⟩
      simp (disch := omega) only [vm0, vm1, vm2, vm3, vm4, vm5, vm6, vm7, vmF, vmT, evo, wr, wrC, frame, Nat.reduceAdd, Nat.reduceMul, Nat.reduceSub, beq_self_eq_true, List.cons_append, List.nil_append, beq_dec, vmI]
      rfl
end
end Go.Proofs.Ytgckbcljlkkceaa.ctr
namespace Go.Proofs.Ytgckbcljlkkceaa.ctr
open Go Go.Vm Go.RowKit
set_option linter.unusedVariables false
set_option linter.constructorNameAsVariable false
set_option linter.unusedSimpArgs false
theorem EvV.bytes_in {e : EvV} (h8 : ∀ x ∈ e.d, In8 x) (h9 : ∀ x ∈ e.p.d, In8 x) : ∀ x ∈ e.bytes, In8 x := by
  have hk : In8 (e.k % 256) := ⟨by omega, by omega⟩
  have h0 : ∀ x ∈ ([e.k % 256] : List Int), In8 x := by intro x hx; simp at hx; subst hx; exact hk
  have ap : ∀ {a b : List Int}, (∀ x ∈ a, In8 x) → (∀ x ∈ b, In8 x) → ∀ x ∈ a ++ b, In8 x := fun ha hb x hx => (List.mem_append.1 hx).elim (ha x) (hb x)
  unfold EvV.bytes
  refine ap h0 ?_
  unfold EvV.tail
  split
  · exact ap (putV_in _) h8
  · split
    · exact putV_in _
    · split
      · exact PkV.bytes_in h9
      · simp
section
variable {bd : Bd} {fu : Nat}
set_option maxHeartbeats 8000000 in
theorem unp_2 (n : Nat) (s : St) (va : AV) (l : List EvR) (cut flip : Int) (hv : RdE s va 12 EvR.enc l) (hok : evsOk s l) (har : allR l = true) (hsm : ∀ x ∈ l, x.e.Sm) (hll : l.length ≤ 8) (hcut : In64 cut) (hflip : In64 flip) (hfu : 1048600 < fu) (x0 x1 x2 x5 x6 x7 x8 x9 x11 x12 x13 x14 x15 x16 x17 x18 x19 x20 x21 x22 x23 x24 : Option AV) :
    RsOk (exec bd (callF bd tab.get fu (n + 8)) fu vc4_2 [x0, x1, x2, some (num cut), some (num flip), x5, x6, x7, x8, x9, some va, x11, x12, x13, x14, x15, x16, x17, x18, x19, x20, x21, x22, x23, x24, some (.bool false)] s) (fun e F' s' => Is e .normal ∧ ∃ (bv : AV) (B : List Int), ∃ y7 y11 y21 y22, F' = [some bv, x1, x2, some (num cut), some (num flip), x5, x6, y7, x8, x9, some va, y11, x12, x13, x14, x15, x16, x17, x18, x19, x20, y21, y22, x23, x24, some (.bool false)] ∧ RdE s' bv 1 encB B ∧ (∀ x ∈ B, In8 x) ∧ B.length ≤ 3000 ∧ Fr s s' []) := by
  have hbl := evB_sm hsm
  have hb8 : ∀ x ∈ evB l, In8 x := by
    intro x hx
    unfold evB at hx
    obtain ⟨e, he, hxe⟩ := List.mem_flatMap.1 hx
    exact EvV.bytes_in (hsm e he).h8 (hsm e he).h9 x hxe
  simp (disch := omega) only [vm0, vm1, vm2, vm3, vm4, vm5, vm6, vm7, vmF, vmT, evo, wr, wrC, frame, Nat.reduceAdd, Nat.reduceMul, Nat.reduceSub, beq_self_eq_true, List.cons_append, List.nil_append, beq_dec, vmI, vc4_2]
  refine call_ok rfl rfl (u_pack_t (n + 2) s va l hv hok (by omega) (by omega) (by omega) (by omega) har) ?_
  rintro _ s1 ⟨y, fp, rfl, q1, q2, q3⟩
  have e1 := q1.rd.lenV
  generalize evB l = B at *
  simp (disch := omega) only [vm0, vm1, vm2, vm3, vm4, vm5, vm6, vm7, vmF, vmT, evo, wr, wrC, frame, Nat.reduceAdd, Nat.reduceMul, Nat.reduceSub, beq_self_eq_true, List.cons_append, List.nil_append, beq_dec, vmI, e1]
  refine call_ok rfl rfl (wth (n + 7) s1 cut (2 * (B.length : Int) + 1) hcut (by omega) (by omega)) ?_
  rintro _ s2 ⟨z, rfl, hz, rfl⟩
  obtain ⟨k, rfl⟩ := Int.eq_ofNat_of_zero_le hz.1
  have key : ∃ (y' : AV) (B' : List Int), (k < B.length → sliceV 1 y none (some (num (k : Int))) none = some y') ∧ (¬ k < B.length → y' = y ∧ B' = B) ∧ OwE s2 y' 1 encB B' fp ∧ B'.length ≤ B.length ∧ ∀ x ∈ B', In8 x := by
    by_cases hk : k < B.length
    · obtain ⟨y', g1, o1⟩ := OwE.cutn q1 hk
      exact ⟨y', B.take k, fun _ => g1, fun h => absurd hk h, o1, List.length_take_le' .., fun x hx => hb8 x (List.mem_of_mem_take hx)⟩
    · exact ⟨y, B, fun h => absurd h hk, fun _ => ⟨rfl, rfl⟩, q1, Nat.le_refl _, hb8⟩
  obtain ⟨y', B', g1, g2, o1, hB', hB8⟩ := key
  have e2 := o1.rd.lenV
  have hf0 : (8 : Int) ≠ 0 := by omega
  have goal : ∀ s' bv BB, RdE s' bv 1 encB BB → (∀ x ∈ BB, In8 x) → BB.length ≤ 3000 → Fr s s' [] → True := fun _ _ _ _ _ _ _ => trivial
  by_cases hk : (k : Int) < B.length
  all_goals
    first
      | (have g1' := g1 (by omega)
         simp (disch := omega) only [vm0, vm1, vm2, vm3, vm4, vm5, vm6, vm7, vmF, vmT, evo, wr, wrC, frame, Nat.reduceAdd, Nat.reduceMul, Nat.reduceSub, beq_self_eq_true, List.cons_append, List.nil_append, beq_dec, vmI, e1, g1', e2])
      | (obtain ⟨rfl, rfl⟩ := g2 (by omega)
         simp (disch := omega) only [vm0, vm1, vm2, vm3, vm4, vm5, vm6, vm7, vmF, vmT, evo, wr, wrC, frame, Nat.reduceAdd, Nat.reduceMul, Nat.reduceSub, beq_self_eq_true, List.cons_append, List.nil_append, beq_dec, vmI, e1, e2])
    refine call_ok rfl rfl (wth (n + 7) s2 flip (16 * (B'.length : Int) + 1) hflip (by omega) (by omega)) ?_
    rintro _ s3 ⟨f, rfl, hf, rfl⟩
    by_cases hff : f < 8 * (B'.length : Int)
    · obtain ⟨i, hi⟩ := Int.eq_ofNat_of_zero_le (show 0 ≤ f / 8 by omega)
      have hq : f.tdiv 8 = (i : Int) := by rw [Int.tdiv_eq_ediv_of_nonneg hf.1, hi]
      have hm : f.tmod 8 = f % 8 := Int.tmod_eq_emod_of_nonneg hf.1
      have hw64 : IntKind.u64.wrap (f % 8) = f % 8 := wrap_in (k := .u64) (by show (0 : Int) ≤ _; omega) (by show _ ≤ (18446744073709551615 : Int); omega)
      obtain ⟨c, hc⟩ : ∃ c, B'[i]? = some c := ⟨_, List.getElem?_eq_getElem (by omega)⟩
      have a1 := o1.rd.ia hc
      have a2 := o1.rd.at1 (f := byt) hc
      have hj : (0 : Int) ≤ f % 8 := by omega
      obtain ⟨X, hX⟩ : ∃ X : Int, X = IntKind.u8.wrap (BitVec.ofInt IntKind.u8.bits c ^^^ BitVec.ofInt IntKind.u8.bits (IntKind.u8.wrap (1 * 2 ^ min (f % 8).toNat IntKind.u8.bits))).toNat := ⟨_, rfl⟩
      have hX8 : In8 X := by rw [hX, cvi8]; exact ⟨by omega, by omega⟩
      obtain ⟨s4, fp', w1, w2, w3, w4, w5⟩ := OwE.set o1 (i := i) (j := 0) (y := byt X) (x' := X) hc (by omega) rfl
      rw [Nat.add_zero] at w1
      simp (disch := omega) only [vm0, vm1, vm2, vm3, vm4, vm5, vm6, vm7, vmF, vmT, evo, frame, Nat.reduceAdd, Nat.reduceMul, Nat.reduceSub, beq_self_eq_true, List.cons_append, List.nil_append, beq_dec, vmI, e1, e2, b_quo hf0, b_rem hf0, hq, hm, f_cvi, cvi_c, hw64, b_shl hj, b_xor, ← hX, a1, a2, w1]
      exact ⟨rfl, _, B'.set i X, _, _, _, _, rfl, w2.rd, fun x hx => by
        rcases List.mem_or_eq_of_mem_set hx with h1 | h1
        · exact hB8 x h1
        · rw [h1]; exact hX8, by rw [List.length_set]; omega, q2.nn w3 q3⟩
    · simp (disch := omega) only [vm0, vm1, vm2, vm3, vm4, vm5, vm6, vm7, vmF, vmT, evo, wr, wrC, frame, Nat.reduceAdd, Nat.reduceMul, Nat.reduceSub, beq_self_eq_true, List.cons_append, List.nil_append, beq_dec, vmI, e1, e2]
      exact ⟨rfl, _, B', _, _, _, _, rfl, o1.rd, hB8, by omega, q2⟩
end
end Go.Proofs.Ytgckbcljlkkceaa.ctr
namespace Go.Proofs.Ytgckbcljlkkceaa.ctr
open Go Go.Vm Go.RowKit
set_option linter.unusedVariables false
set_option linter.constructorNameAsVariable false
set_option linter.unusedSimpArgs false
def rights (l : List EvR) : List EvR := l.filter fun x => x.e.right
section
variable {bd : Bd} {fu : Nat}
set_option maxHeartbeats 8000000 in
theorem unpacks7 (n : Nat) (s : St) (bv v1 vh : AV) (B : List Int) (l : List EvR) (hows : List Int) (cut flip : Int) (raw : Bool) (hb : RdE s bv 1 encB B) (h8 : ∀ x ∈ B, In8 x) (hB : B.length < 1048576) (hv1 : RdE s v1 12 EvR.enc l) (hvh : RdE s vh 1 encI hows)
    (hl : ∀ x ∈ l, x.e.In ∧ RdE s x.u 1 encB x.e.d ∧ RdE s x.w 1 encB x.e.p.d) (hh : ∀ y ∈ hows, In64 y) (hcut : In64 cut) (hflip : In64 flip) (hfu : 1048600 < fu) :
    OutOk (callF bd tab.get fu (n + 9) 4 [bv, v1, vh, num cut, num flip, .bool raw] s) (fun y s' => Is y (.bool true)) := by
  refine call_code t4 rfl ?_
  cases raw
  case true =>
    simp (disch := omega) only [vm0, vm1, vm2, vm3, vm4, vm5, vm6, vm7, vmF, vmT, evo, wr, wrC, frame, Nat.reduceAdd, Nat.reduceMul, Nat.reduceSub, beq_self_eq_true, List.cons_append, List.nil_append, beq_dec, vmI, vc4]
    exact unp_3 n s bv B hb h8 hB hfu _ _ _ _ _ _ _ _ _ _ _ _ _ _ _ _ _ _ _ _ _ _ _ _
  simp (disch := omega) only [vm0, vm1, vm2, vm3, vm4, vm5, vm6, vm7, vmF, vmT, evo, wr, wrC, frame, Nat.reduceAdd, Nat.reduceMul, Nat.reduceSub, beq_self_eq_true, List.cons_append, List.nil_append, beq_dec, vmI, vc4]
  refine call_ok rfl rfl (playEs (n + 1) s v1 vh l hows 8 hv1 hvh hl hh (by omega) (by omega) (by omega)) ?_
  rintro vx s1 ⟨la, hla, hsa, hSa⟩
  have ra := Sep.rdW hSa
  have oa := Sep.oks (((hSa.re ((List.perm_middle (l₁ := [_])).trans (.cons _ (.refl _)))))) hsa
  have hlen := ra.lenV
  simp (disch := omega) only [vm0, vm1, vm2, vm3, vm4, vm5, vm6, vm7, vmF, vmT, evo, wr, wrC, frame, Nat.reduceAdd, Nat.reduceMul, Nat.reduceSub, beq_self_eq_true, List.cons_append, List.nil_append, beq_dec, vmI, hlen]
  refine x_loop (fun k F s' => ∃ i : Nat, ∃ x7 x8 x9 vo x11 x12 x13 x14 x15 x18 x20 x21 x22 x23 x24, k = la.length - i ∧ i ≤ la.length ∧ F = [some bv, some v1, some vh, some (num cut), some (num flip), some (.bool false), some (num (i : Int)), x7, x8, x9, some vo, x11, x12, x13, x14, x15, some (.bool true), some (num (la.length : Int)), x18, some vx, x20, x21, x22, x23, x24, some (.bool false)] ∧ Sep s1 s' [oW vo 12 EvR.enc (rights (la.take i))]) la.length (by omega) ?_ ?_
  · exact ⟨0, _, _, _, _, _, _, _, _, _, _, _, _, _, _, _, by omega, by omega, rfl, Sep.nil.push (P := oW .nils 12 EvR.enc []) (f := []) (.nil EvR.wid (by omega)) .refl (by simp [Nw])⟩
  · rintro k F s2 ⟨i, x7, x8, x9, vo, x11, x12, x13, x14, x15, x18, x20, x21, x22, x23, x24, rfl, hi, rfl, hS⟩ hk
    by_cases hlt : i < la.length
    · obtain ⟨x, hx⟩ : ∃ x, la[i]? = some x := ⟨_, List.getElem?_eq_getElem hlt⟩
      have hxm : x ∈ la := List.mem_of_getElem? hx
      have e1 := (ra.fr0 hS.frm).ia hx
      have e2 := (ra.fr0 hS.frm).at hx
      have hxo := oa x hxm
      have ht : la.take (i + 1) = la.take i ++ [x] := by rw [List.take_add_one, hx]; rfl
      have hfl : (rights (la.take i)).length ≤ 8 := by
        have h1 := List.length_filter_le (fun x : EvR => x.e.right) (la.take i)
        have h2 := List.length_take_le i la
        unfold rights; omega
      have hS2 := hS.cell [num 0, num 0, .nils, num 0, num 0, num 0, num 0, num 0, .nils, .bool false, num 0, num 0] (x.e.cs x.u x.w)
      have g2 := hS2.getC
      have e2 : ob (s2.heap.get (sblk vx)) (rdC (soff vx + i * 12) 12) = some (x.e.cs x.u x.w) := e2
      have hck := u_rightE (bd := bd)  (fu := fu) (n + 4) ((s2.new (.cells [num 0, num 0, .nils, num 0, num 0, num 0, num 0, num 0, .nils, .bool false, num 0, num 0] .own)).put s2.next (some (.cells (x.e.cs x.u x.w) .own))) x.e x.u x.w (hxo.u.fr0 hS2.frm) (hxo.w.fr0 hS2.frm) hxo.hpl hxo.h9
      have hcs : ∀ e u w, EvV.cs e u w = [num e.k, num e.n, u, num e.p.k, num e.p.pt, num e.p.nr, num e.p.of_, num e.p.fr, w, .bool e.p.fin, num e.p.se, num e.p.li] := fun _ _ _ => rfl
      simp only [hcs] at e2 hS2 g2 hck
      simp (disch := omega) only [vm0, vm1, vm2, vm3, vm4, vm5, vm6, vm7, vmF, vmT, evo, wr, wrC, frame, Nat.reduceAdd, Nat.reduceMul, Nat.reduceSub, beq_self_eq_true, List.cons_append, List.nil_append, beq_dec, vmI, vc4_1, vc4_0, e1, e2]
      refine call_ok rfl rfl hck ?_
      clear hck
      generalize ((s2.new (.cells [num 0, num 0, .nils, num 0, num 0, num 0, num 0, num 0, .nils, .bool false, num 0, num 0] .own)).put s2.next (some (.cells [num x.e.k, num x.e.n, x.u, num x.e.p.k, num x.e.p.pt, num x.e.p.nr, num x.e.p.of_, num x.e.p.fr, x.w, .bool x.e.p.fin, num x.e.p.se, num x.e.p.li] .own))) = s3 at *
      generalize s2.next = b3 at *
      rintro y s4 ⟨rfl, hf4⟩
      have hS4 := hS2.fr hf4
      have g4 := hS4.getC
      cases hr : x.e.right
      · simp (disch := omega) only [vm0, vm1, vm2, vm3, vm4, vm5, vm6, vm7, vmF, vmT, evo, wr, wrC, frame, Nat.reduceAdd, Nat.reduceMul, Nat.reduceSub, beq_self_eq_true, List.cons_append, List.nil_append, beq_dec, vmI]
        exact ⟨la.length - (i + 1), by omega, i + 1, _, _, _, _, _, _, _, _, _, _, _, _, _, _, _, rfl, by omega, rfl, by
          rw [show rights (la.take (i + 1)) = rights (la.take i) by rw [ht]; simp [rights, hr]]
          exact ((hS4.re (.refl _)).drop)⟩
      · have hS5 := hS4.newC [num x.e.k, num x.e.n, x.u, num x.e.p.k, num x.e.p.pt, num x.e.p.nr, num x.e.p.of_, num x.e.p.fr, x.w, .bool x.e.p.fin, num x.e.p.se, num x.e.p.li]
        obtain ⟨fo, ho, up⟩ := Sep.hd (((hS5.re ((List.perm_middle (l₁ := [_, _])).trans (.cons _ (.refl _))))))
        simp (disch := omega) only [vm0, vm1, vm2, vm3, vm4, vm5, vm6, vm7, vmF, vmT, evo, wr, wrC, frame, Nat.reduceAdd, Nat.reduceMul, Nat.reduceSub, beq_self_eq_true, List.cons_append, List.nil_append, beq_dec, vmI, g4]
        refine op_app1 (show OwE _ vo 12 EvR.enc (rights (la.take i)) fo from ho) .refl (x := x) rfl (by omega) ?_
        intro v3 s6 f4 r7 r8 r9
        have hS6 := up (oW v3 12 EvR.enc (rights (la.take i) ++ [x])) r7 r8 r9
        simp (disch := omega) only [vm0, vm1, vm2, vm3, vm4, vm5, vm6, vm7, vmF, vmT, evo, wr, wrC, frame, Nat.reduceAdd, Nat.reduceMul, Nat.reduceSub, beq_self_eq_true, List.cons_append, List.nil_append, beq_dec, vmI]
        exact ⟨la.length - (i + 1), by omega, i + 1, _, _, _, _, _, _, _, _, _, _, _, _, _, _, _, rfl, by omega, rfl, by
          rw [show rights (la.take (i + 1)) = rights (la.take i) ++ [x] by rw [ht]; simp [rights, hr]]
          exact ((hS6.re ((List.perm_middle (l₁ := [_])).trans (.cons _ ((List.perm_middle (l₁ := [_])).trans (.cons _ (.refl _)))))).drop.drop)⟩
    · obtain rfl : i = la.length := by omega
      rw [List.take_length] at hS
      simp (disch := omega) only [vm0, vm1, vm2, vm3, vm4, vm5, vm6, vm7, vmF, vmT, evo, wr, wrC, frame, Nat.reduceAdd, Nat.reduceMul, Nat.reduceSub, beq_self_eq_true, List.cons_append, List.nil_append, beq_dec, vmI, vc4_1]
      have hsub : ∀ x ∈ rights la, x ∈ la := fun x hx => (List.mem_filter.1 hx).1
      have hrl : (rights la).length ≤ 8 := by
        have h1 := List.length_filter_le (fun x : EvR => x.e.right) la
        unfold rights; omega
      refine RsOk.mono (unp_2 n s2 vo (rights la) cut flip (Sep.rdW hS) (fun x hx => (oa x (hsub x hx)).fr0 hS.frm) ?_ (fun x hx => hsa x (hsub x hx)) hrl hcut hflip hfu _ _ _ _ _ _ _ _ _ _ _ _ _ _ _ _ _ _ _ _ _ _) ?_
      · unfold allR; rw [List.all_eq_true]; intro x hx; exact (List.mem_filter.1 hx).2
      · rintro e F s3 ⟨rfl, bv2, B2, y7, y11, y21, y22, rfl, rb, rb8, rbl, f3⟩
        simp (disch := omega) only [vm0, vm1, vm2, vm3, vm4, vm5, vm6, vm7, vmF, vmT, evo, wr, wrC, frame, Nat.reduceAdd, Nat.reduceMul, Nat.reduceSub, beq_self_eq_true, List.cons_append, List.nil_append, beq_dec, vmI]
        exact unp_3 n s3 bv2 B2 rb rb8 (by omega) hfu _ _ _ _ _ _ _ _ _ _ _ _ _ _ _ _ _ _ _ _ _ _ _ _
end
end Go.Proofs.Ytgckbcljlkkceaa.ctr
namespace Go.Proofs.Ytgckbcljlkkceaa.eventUnpacksRun
open Go Go.Vm Go.RowKit Go.Proofs.Ytgckbcljlkkceaa.ctr
set_option linter.unusedVariables false
set_option linter.unusedSimpArgs false
theorem mixed : Try.prog.follows .mixedOrders = true := by kernel_rfl
theorem walk (a0 : Option Addr) (len0 cap0 : Nat) (z0 : List Int) (a1 : Option Addr) (len1 cap1 : Nat) (z1 : Nat → Value) (a2 : Option Addr) (len2 cap2 : Nat) (z2 : List Int) (a3 a4 : Int) (a5 : Bool) (w : World)
    (w3 : (Lit.int .i64 a3).wf = true) (w4 : (Lit.int .i64 a4).wf = true)
    (hq0 : IsRow8 w a0 len0 cap0 z0) (hs0 : len0 < 1048576) (hq1 : IsRowV w a1 len1 cap1 12 z1) (hk1 : ∀ i, i < cap1 * 12 → FkOk w (evK.getD (i % 12) .i) (z1 i)) (hq2 : IsRowI w a2 len2 cap2 z2) :
    Calls Try.prog 4 #[.slice a0 len0 cap0, .slice a1 len1 cap1, .slice a2 len2 cap2, .int .i64 a3, .int .i64 a4, .bool a5] w fun e w' => e = .returned (.bool true) ∧ Below w.heap.size w w' := by
  obtain ⟨v0, E0, s0, g0, l0, f0, r0, d0, i0⟩ := (Arg0.start w).bytes hq0
  obtain ⟨v1, E1, s1, L1, g1, l1, f1, r1, d1, i1⟩ := g0.evs hq1 hk1
  obtain ⟨v2, E2, s2, g2, l2, f2, r2, d2, i2⟩ := g1.ints hq2
  have hl : (z0.take len0).length < 1048576 := by rw [List.length_take]; omega
  have lup : ∀ {L : List EvR} {s s' : St}, Fr s s' [] → (∀ x ∈ L, x.e.In ∧ RdE s x.u 1 encB x.e.d ∧ RdE s x.w 1 encB x.e.p.d) → ∀ x ∈ L, x.e.In ∧ RdE s' x.u 1 encB x.e.d ∧ RdE s' x.w 1 encB x.e.p.d := fun hf hL x hx => ⟨(hL x hx).1, (hL x hx).2.1.fr0 hf, (hL x hx).2.2.fr0 hf⟩
  have h := unpacks7 (bd := bd0) (fu := 2000000) 40 s2 v0 v1 v2 _ L1 _ a3 a4 a5 ((d0.fr0 f1).fr0 f2) i0 hl (d1.fr0 f2) d2 (lup f2 i1) i2 (wf64 w3) (wf64 w4) (by omega)
  exact law_okE bd0_ok mixed (tab_all rho0) t4 g2.hr g2.own (.cons ((r0.mono l1).mono l2) (.cons (r1.mono l2) (.cons r2 (.cons vr_int (.cons vr_int (.cons (.bool _) .nil)))))) (yes_of' h fun _ _ h => h)
end Go.Proofs.Ytgckbcljlkkceaa.eventUnpacksRun
