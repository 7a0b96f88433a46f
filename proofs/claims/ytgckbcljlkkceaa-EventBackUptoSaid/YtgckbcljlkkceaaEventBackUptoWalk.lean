/- EventBack, walked. -/
import Derived.Test.YtgckbcljlkkceaaCzEf
import Derived.WalkKit
import Derived.ProofKit
namespace Go.Proofs.Ytgckbcljlkkceaa.ctr
open Go Go.Vm Go.RowKit
set_option linter.unusedVariables false
set_option linter.constructorNameAsVariable false
set_option linter.unusedSimpArgs false
theorem EvV.bytes_in {e : EvV} (h8 : ∀ x ∈ e.d, In8 x) (h9 : ∀ x ∈ e.p.d, In8 x) : ∀ x ∈ e.bytes, In8 x := by
  have hk : In8 (e.k % 256) := ⟨by omega, by omega⟩
  have h0 : ∀ x ∈ ([e.k % 256] : List Int), In8 x := by intro x hx; simp at hx; subst hx; exact hk
  have ap : ∀ {a b : List Int}, (∀ x ∈ a, In8 x) → (∀ x ∈ b, In8 x) → ∀ x ∈ a ++ b, In8 x := fun ha hb x hx => (List.mem_append.1 hx).elim (ha x) (hb x)
  unfold EvV.bytes
  refine ap h0 ?_
  unfold EvV.tail
  split
  · exact ap (putV_in _) h8
  · split
    · exact putV_in _
    · split
      · exact PkV.bytes_in h9
      · simp
def rights (l : List EvR) : List EvR := l.filter fun x => x.e.right
section
variable {bd : Bd} {fu : Nat}
set_option maxHeartbeats 8000000 in
theorem back_2 (n : Nat) (s : St) (va bv : AV) (L : List EvR) (B : List Int) (cut : Int) (hv : RdE s va 12 EvR.enc L) (hok : evsOk s L) (har : allR L = true) (hsm : ∀ x ∈ L, x.e.Sm) (hll : L.length ≤ 10) (hb : RdE s bv 1 encB B) (h8 : ∀ x ∈ B, In8 x) (hl : B.length < 1048576) (hcut : In64 cut) (hfu : 1048600 < fu) (x0 x1 x5 x6 x7 x8 x9 x10 x11 x12 x13 x14 x15 x16 x17 x18 x19 x20 x21 x22 x23 x24 x25 x26 x27 x28 x29 x30 x31 : Option AV) :
    RsOk (exec bd (callF bd tab.get fu (n + 7)) fu vc5_2 [x0, x1, some bv, some (num cut), some va, x5, x6, x7, x8, x9, x10, x11, x12, x13, x14, x15, x16, x17, x18, x19, x20, x21, x22, x23, x24, x25, x26, x27, x28, x29, x30, x31, some (.bool false)] s) (retQ [.tmp 32] fun y s' => Is y (.bool true)) := by
  have hbl := evB_sm hsm
  have hb8 : ∀ x ∈ evB L, In8 x := by
    intro x hx
    unfold evB at hx
    obtain ⟨e, he, hxe⟩ := List.mem_flatMap.1 hx
    exact EvV.bytes_in (hsm e he).h8 (hsm e he).h9 x hxe
  simp (disch := omega) only [vm0, vm1, vm2, vm3, vm4, vm5, vm6, vm7, vmF, vmT, evo, wr, wrC, frame, Nat.reduceAdd, Nat.reduceMul, Nat.reduceSub, beq_self_eq_true, List.cons_append, List.nil_append, beq_dec, vmI, vc5_2]
  refine call_ok rfl rfl (e_pack_t (n + 1) s va L hv hok (by omega) (by omega) (by omega) (by omega) har) ?_
  rintro _ s1 ⟨p, fp, rfl, q1, f1, _⟩
  simp (disch := omega) only [vm0, vm1, vm2, vm3, vm4, vm5, vm6, vm7, vmF, vmT, evo, wr, wrC, frame, Nat.reduceAdd, Nat.reduceMul, Nat.reduceSub, beq_self_eq_true, List.cons_append, List.nil_append, beq_dec, vmI]
  refine call_ok rfl rfl (e_unpack n s1 p _ q1.rd hb8 (by omega) hfu) ?_
  rintro _ s2 hU
  rcases hU with ⟨m, y, hun, _, _, hml, rfl, hok2, hS⟩ | ⟨a, hun, _⟩
  case inr => rw [un_back L har] at hun; cases hun
  have he : evs L = evs m := by
    rw [un_back L har] at hun
    exact Option.some.inj (congrArg Prod.fst hun)
  have hdd : decide (evs L = evs m) = true := decide_eq_true he
  have f12 := f1.trans hS.frm (fp2 := []) (by simp) (by simp)
  simp (disch := omega) only [vm0, vm1, vm2, vm3, vm4, vm5, vm6, vm7, vmF, vmT, evo, wr, wrC, frame, Nat.reduceAdd, Nat.reduceMul, Nat.reduceSub, beq_self_eq_true, List.cons_append, List.nil_append, beq_dec, vmI]
  refine call_ok rfl rfl (e_all (fu := fu) (n + 2) s2 va y L m (hv.fr0 f12) (Sep.rdW hS) (hok.fr0 f12) hok2 (by omega) (by omega)) ?_
  rintro _ s3 ⟨rfl, f3⟩
  have f13 := f12.trans f3 (fp2 := []) (by simp) (by simp)
  have f23 := hS.frm.trans f3 (fp2 := []) (by simp) (by simp)
  simp (disch := omega) only [vm0, vm1, vm2, vm3, vm4, vm5, vm6, vm7, vmF, vmT, evo, wr, wrC, frame, Nat.reduceAdd, Nat.reduceMul, Nat.reduceSub, beq_self_eq_true, List.cons_append, List.nil_append, beq_dec, vmI, hdd]
  refine call_ok rfl rfl (e_unpack n s3 bv B (hb.fr0 f13) h8 hl hfu) ?_
  rintro _ s4 hV
  rcases hV with ⟨m2, y2, _, hbm, har2, hml2, rfl, hok4, hS4⟩ | ⟨a, _, ha, rfl, f4⟩
  · have ry2 := Sep.rdW hS4
    simp (disch := omega) only [vm0, vm1, vm2, vm3, vm4, vm5, vm6, vm7, vmF, vmT, evo, wr, wrC, frame, Nat.reduceAdd, Nat.reduceMul, Nat.reduceSub, beq_self_eq_true, List.cons_append, List.nil_append, beq_dec, vmI]
    refine call_ok rfl rfl (e_pack_t (fu := fu) (n + 1) s4 y2 m2 ry2 hok4 (by omega) (by omega) (by rw [hbm]; omega) (by omega) har2) ?_
    rintro _ s5a ⟨q, fpq, rfl, qq, fq, _⟩
    rw [hbm] at qq
    have hBB : decide (B = B) = true := by simp
    have fD0 := (f13.trans hS4.frm (fp2 := []) (by simp) (by simp)).trans fq (fp2 := []) (by simp) (by simp)
    have fD1 := (f23.trans hS4.frm (fp2 := []) (by simp) (by simp)).trans fq (fp2 := []) (by simp) (by simp)
    simp (disch := omega) only [vm0, vm1, vm2, vm3, vm4, vm5, vm6, vm7, vmF, vmT, evo, wr, wrC, frame, Nat.reduceAdd, Nat.reduceMul, Nat.reduceSub, beq_self_eq_true, List.cons_append, List.nil_append, beq_dec, vmI]
    refine call_ok rfl rfl (sameB (fu := fu) (n + 6) s5a q bv B B qq.rd (hb.fr0 fD0) (by omega) (by omega)) ?_
    rintro _ sD ⟨rfl, rfl⟩
    have raD := hv.fr0 fD0
    have oaD := hok.fr0 fD0
    have rpD := q1.rd.fr0 fD1
    simp (disch := omega) only [vm0, vm1, vm2, vm3, vm4, vm5, vm6, vm7, vmF, vmT, evo, wr, wrC, frame, Nat.reduceAdd, Nat.reduceMul, Nat.reduceSub, beq_self_eq_true, List.cons_append, List.nil_append, beq_dec, vmI, hBB]
    have hlenL := raD.lenV
    have hlenP := rpD.lenV
    by_cases hL0 : (L.length : Int) = 0
    · have hL : L = [] := List.eq_nil_of_length_eq_zero (by omega)
      have hP0 : ((evB L).length : Int) = 0 := by rw [hL]; rfl
      simp (disch := omega) only [vm0, vm1, vm2, vm3, vm4, vm5, vm6, vm7, vmF, vmT, evo, wr, wrC, frame, Nat.reduceAdd, Nat.reduceMul, Nat.reduceSub, beq_self_eq_true, List.cons_append, List.nil_append, beq_dec, vmI, hlenL, hlenP]
      refine call_ok rfl rfl (wakes (fu := fu) n sD (by omega)) ?_
      rintro _ s9 ⟨rfl, f9⟩
      simp (disch := omega) only [vm0, vm1, vm2, vm3, vm4, vm5, vm6, vm7, vmF, vmT, evo, wr, wrC, frame, Nat.reduceAdd, Nat.reduceMul, Nat.reduceSub, beq_self_eq_true, List.cons_append, List.nil_append, beq_dec, vmI]
      rfl
    obtain ⟨k, hk⟩ : ∃ k, L.length = k + 1 := ⟨L.length - 1, by omega⟩
    obtain ⟨x, hx⟩ : ∃ x, L[k]? = some x := ⟨_, List.getElem?_eq_getElem (by omega)⟩
    have hxm : x ∈ L := List.mem_of_getElem? hx
    have hLe : L = L.take k ++ [x] := by
      have := List.take_add_one (l := L) (i := k)
      rw [hx, List.take_of_length_le (by omega)] at this
      exact this
    have hxr : x.e.right = true := by unfold allR at har; rw [List.all_eq_true] at har; exact har x hxm
    have har2 : allR (L.take k) = true := by unfold allR at har ⊢; rw [List.all_eq_true] at har ⊢; exact fun y hy => har y (List.mem_of_mem_take hy)
    have hBe : evB L = evB (L.take k) ++ x.e.bytes := by
      conv => lhs; rw [hLe]
      simp [evB]
    have hBl : (evB L).length = (evB (L.take k)).length + x.e.bytes.length := by rw [hBe, List.length_append]
    have hx1 := ev_pos x.e
    obtain ⟨vk, gk, rk⟩ := raD.sliH (b := (L.length : Int) - 1) (by omega) (by omega)
    have hkn : ((L.length : Int) - 1).toNat = k := by omega
    rw [hkn] at rk
    have gk' : sliceV 12 va none (some (num ((L.length : Int) - 1))) none = some vk := gk
    simp (disch := omega) only [vm0, vm1, vm2, vm3, vm4, vm5, vm6, vm7, vmF, vmT, evo, wr, wrC, frame, Nat.reduceAdd, Nat.reduceMul, Nat.reduceSub, beq_self_eq_true, List.cons_append, List.nil_append, beq_dec, vmI, hlenL, hlenP, gk']
    refine call_ok rfl rfl (e_pack_t (n + 1) sD vk (L.take k) rk (fun y hy => oaD y (List.mem_of_mem_take hy)) (by rw [List.length_take]; omega) (by rw [List.length_take]; omega) (by omega) (by omega) har2) ?_
    rintro _ s5 ⟨ah, fp5, rfl, q5, f5, _⟩
    have hlenA := q5.rd.lenV
    have rp5 := rpD.fr0 f5
    have ra5 := raD.fr0 f5
    have hlenP5 := rp5.lenV
    have hlenL5 := ra5.lenV
    have hsub : ((evB L).length : Int) - ((evB (L.take k)).length : Int) = (x.e.bytes.length : Int) := by omega
    simp (disch := omega) only [vm0, vm1, vm2, vm3, vm4, vm5, vm6, vm7, vmF, vmT, evo, wr, wrC, frame, Nat.reduceAdd, Nat.reduceMul, Nat.reduceSub, beq_self_eq_true, List.cons_append, List.nil_append, beq_dec, vmI, hlenP5, hlenA, hsub]
    by_cases hN : (x.e.bytes.length : Int) = 1
    · have hk6 := ev_one hxr (by omega)
      have e1 : iaV 12 va (some (num ((L.length : Int) - 1))) = some (.ptr (sblk va) (soff va + k * 12)) := by
        rw [show (L.length : Int) - 1 = (k : Int) by omega]; exact ra5.ia hx
      have e2 := ra5.fld0 hx (c := num x.e.k) rfl
      rw [hk6] at e2
      simp (disch := omega) only [vm0, vm1, vm2, vm3, vm4, vm5, vm6, vm7, vmF, vmT, evo, wr, wrC, frame, Nat.reduceAdd, Nat.reduceMul, Nat.reduceSub, beq_self_eq_true, List.cons_append, List.nil_append, beq_dec, vmI, hlenL5, e1, e2]
      refine call_ok rfl rfl (wakes (fu := fu) n s5 (by omega)) ?_
      rintro _ s9 ⟨rfl, f9⟩
      simp (disch := omega) only [vm0, vm1, vm2, vm3, vm4, vm5, vm6, vm7, vmF, vmT, evo, wr, wrC, frame, Nat.reduceAdd, Nat.reduceMul, Nat.reduceSub, beq_self_eq_true, List.cons_append, List.nil_append, beq_dec, vmI]
      rfl
    · simp (disch := omega) only [vm0, vm1, vm2, vm3, vm4, vm5, vm6, vm7, vmF, vmT, evo, wr, wrC, frame, Nat.reduceAdd, Nat.reduceMul, Nat.reduceSub, beq_self_eq_true, List.cons_append, List.nil_append, beq_dec, vmI, hlenA]
      refine call_ok rfl rfl (wth (n + 6) s5 cut ((x.e.bytes.length : Int) - 1) hcut (by omega) (by omega)) ?_
      rintro _ s6 ⟨z, rfl, hz, rfl⟩
      obtain ⟨vp, gp, rp6⟩ := rp5.sliH (b := ((evB (L.take k)).length : Int) + 1 + z) (by omega) (by omega)
      obtain ⟨zn, hzn⟩ := Int.eq_ofNat_of_zero_le hz.1
      have hzt : (((evB (L.take k)).length : Int) + 1 + z).toNat = (evB (L.take k)).length + (1 + zn) := by omega
      rw [hzt, hBe, List.take_length_add_append] at rp6
      have h8c : ∀ y ∈ evB (L.take k) ++ x.e.bytes.take (1 + zn), In8 y := fun y hy => by
        rcases List.mem_append.1 hy with h1 | h1
        · exact hb8 y (by rw [hBe]; simp [h1])
        · exact hb8 y (by rw [hBe]; simp [List.mem_of_mem_take h1])
      have hlc : (evB (L.take k) ++ x.e.bytes.take (1 + zn)).length < 1048576 := by rw [List.length_append, List.length_take]; omega
      have huc := un_cut (L.take k) har2 x.e hxr (1 + zn) (by omega) (by omega) _ rfl h8c (by omega)
      simp (disch := omega) only [vm0, vm1, vm2, vm3, vm4, vm5, vm6, vm7, vmF, vmT, evo, wr, wrC, frame, Nat.reduceAdd, Nat.reduceMul, Nat.reduceSub, beq_self_eq_true, List.cons_append, List.nil_append, beq_dec, vmI, gp]
      refine call_ok rfl rfl (e_unpack n s6 vp _ rp6 h8c hlc hfu) ?_
      rintro _ s7 hW
      rcases hW with ⟨m3, y3, hun3, _⟩ | ⟨a3, hun3, ha3, rfl, f7⟩
      · rw [huc] at hun3; cases hun3
      · have he3 : a3 = ((evB (L.take k)).length : Int) := by rw [huc] at hun3; exact (congrArg Prod.snd hun3).symm
        subst he3
        have hlenA7 := (q5.rd.fr0 f7).lenV
        simp (disch := omega) only [vm0, vm1, vm2, vm3, vm4, vm5, vm6, vm7, vmF, vmT, evo, wr, wrC, frame, Nat.reduceAdd, Nat.reduceMul, Nat.reduceSub, beq_self_eq_true, List.cons_append, List.nil_append, beq_dec, vmI, hlenA7]
        refine call_ok rfl rfl (wakes (fu := fu) n s7 (by omega)) ?_
        rintro _ s9 ⟨rfl, f9⟩
        simp (disch := omega) only [vm0, vm1, vm2, vm3, vm4, vm5, vm6, vm7, vmF, vmT, evo, wr, wrC, frame, Nat.reduceAdd, Nat.reduceMul, Nat.reduceSub, beq_self_eq_true, List.cons_append, List.nil_append, beq_dec, vmI]
        rfl
  · have hlenB := (hb.fr0 (f13.trans f4 (fp2 := []) (by simp) (by simp))).lenV
    have fD0 := f13.trans f4 (fp2 := []) (by simp) (by simp)
    have fD1 := f23.trans f4 (fp2 := []) (by simp) (by simp)
    have raD := hv.fr0 fD0
    have oaD := hok.fr0 fD0
    have rpD := q1.rd.fr0 fD1
    simp (disch := omega) only [vm0, vm1, vm2, vm3, vm4, vm5, vm6, vm7, vmF, vmT, evo, wr, wrC, frame, Nat.reduceAdd, Nat.reduceMul, Nat.reduceSub, beq_self_eq_true, List.cons_append, List.nil_append, beq_dec, vmI, hlenB, vmU, du_lda]
    generalize s4 = sD at *
    have hlenL := raD.lenV
    have hlenP := rpD.lenV
    by_cases hL0 : (L.length : Int) = 0
    · have hL : L = [] := List.eq_nil_of_length_eq_zero (by omega)
      have hP0 : ((evB L).length : Int) = 0 := by rw [hL]; rfl
      simp (disch := omega) only [vm0, vm1, vm2, vm3, vm4, vm5, vm6, vm7, vmF, vmT, evo, wr, wrC, frame, Nat.reduceAdd, Nat.reduceMul, Nat.reduceSub, beq_self_eq_true, List.cons_append, List.nil_append, beq_dec, vmI, hlenL, hlenP]
      refine call_ok rfl rfl (wakes (fu := fu) n sD (by omega)) ?_
      rintro _ s9 ⟨rfl, f9⟩
      simp (disch := omega) only [vm0, vm1, vm2, vm3, vm4, vm5, vm6, vm7, vmF, vmT, evo, wr, wrC, frame, Nat.reduceAdd, Nat.reduceMul, Nat.reduceSub, beq_self_eq_true, List.cons_append, List.nil_append, beq_dec, vmI]
      rfl
    obtain ⟨k, hk⟩ : ∃ k, L.length = k + 1 := ⟨L.length - 1, by omega⟩
    obtain ⟨x, hx⟩ : ∃ x, L[k]? = some x := ⟨_, List.getElem?_eq_getElem (by omega)⟩
    have hxm : x ∈ L := List.mem_of_getElem? hx
    have hLe : L = L.take k ++ [x] := by
      have := List.take_add_one (l := L) (i := k)
      rw [hx, List.take_of_length_le (by omega)] at this
      exact this
    have hxr : x.e.right = true := by unfold allR at har; rw [List.all_eq_true] at har; exact har x hxm
    have har2 : allR (L.take k) = true := by unfold allR at har ⊢; rw [List.all_eq_true] at har ⊢; exact fun y hy => har y (List.mem_of_mem_take hy)
    have hBe : evB L = evB (L.take k) ++ x.e.bytes := by
      conv => lhs; rw [hLe]
      simp [evB]
    have hBl : (evB L).length = (evB (L.take k)).length + x.e.bytes.length := by rw [hBe, List.length_append]
    have hx1 := ev_pos x.e
    obtain ⟨vk, gk, rk⟩ := raD.sliH (b := (L.length : Int) - 1) (by omega) (by omega)
    have hkn : ((L.length : Int) - 1).toNat = k := by omega
    rw [hkn] at rk
    have gk' : sliceV 12 va none (some (num ((L.length : Int) - 1))) none = some vk := gk
    simp (disch := omega) only [vm0, vm1, vm2, vm3, vm4, vm5, vm6, vm7, vmF, vmT, evo, wr, wrC, frame, Nat.reduceAdd, Nat.reduceMul, Nat.reduceSub, beq_self_eq_true, List.cons_append, List.nil_append, beq_dec, vmI, hlenL, hlenP, gk']
    refine call_ok rfl rfl (e_pack_t (n + 1) sD vk (L.take k) rk (fun y hy => oaD y (List.mem_of_mem_take hy)) (by rw [List.length_take]; omega) (by rw [List.length_take]; omega) (by omega) (by omega) har2) ?_
    rintro _ s5 ⟨ah, fp5, rfl, q5, f5, _⟩
    have hlenA := q5.rd.lenV
    have rp5 := rpD.fr0 f5
    have ra5 := raD.fr0 f5
    have hlenP5 := rp5.lenV
    have hlenL5 := ra5.lenV
    have hsub : ((evB L).length : Int) - ((evB (L.take k)).length : Int) = (x.e.bytes.length : Int) := by omega
    simp (disch := omega) only [vm0, vm1, vm2, vm3, vm4, vm5, vm6, vm7, vmF, vmT, evo, wr, wrC, frame, Nat.reduceAdd, Nat.reduceMul, Nat.reduceSub, beq_self_eq_true, List.cons_append, List.nil_append, beq_dec, vmI, hlenP5, hlenA, hsub]
    by_cases hN : (x.e.bytes.length : Int) = 1
    · have hk6 := ev_one hxr (by omega)
      have e1 : iaV 12 va (some (num ((L.length : Int) - 1))) = some (.ptr (sblk va) (soff va + k * 12)) := by
        rw [show (L.length : Int) - 1 = (k : Int) by omega]; exact ra5.ia hx
      have e2 := ra5.fld0 hx (c := num x.e.k) rfl
      rw [hk6] at e2
      simp (disch := omega) only [vm0, vm1, vm2, vm3, vm4, vm5, vm6, vm7, vmF, vmT, evo, wr, wrC, frame, Nat.reduceAdd, Nat.reduceMul, Nat.reduceSub, beq_self_eq_true, List.cons_append, List.nil_append, beq_dec, vmI, hlenL5, e1, e2]
      refine call_ok rfl rfl (wakes (fu := fu) n s5 (by omega)) ?_
      rintro _ s9 ⟨rfl, f9⟩
      simp (disch := omega) only [vm0, vm1, vm2, vm3, vm4, vm5, vm6, vm7, vmF, vmT, evo, wr, wrC, frame, Nat.reduceAdd, Nat.reduceMul, Nat.reduceSub, beq_self_eq_true, List.cons_append, List.nil_append, beq_dec, vmI]
      rfl
    · simp (disch := omega) only [vm0, vm1, vm2, vm3, vm4, vm5, vm6, vm7, vmF, vmT, evo, wr, wrC, frame, Nat.reduceAdd, Nat.reduceMul, Nat.reduceSub, beq_self_eq_true, List.cons_append, List.nil_append, beq_dec, vmI, hlenA]
      refine call_ok rfl rfl (wth (n + 6) s5 cut ((x.e.bytes.length : Int) - 1) hcut (by omega) (by omega)) ?_
      rintro _ s6 ⟨z, rfl, hz, rfl⟩
      obtain ⟨vp, gp, rp6⟩ := rp5.sliH (b := ((evB (L.take k)).length : Int) + 1 + z) (by omega) (by omega)
      obtain ⟨zn, hzn⟩ := Int.eq_ofNat_of_zero_le hz.1
      have hzt : (((evB (L.take k)).length : Int) + 1 + z).toNat = (evB (L.take k)).length + (1 + zn) := by omega
      rw [hzt, hBe, List.take_length_add_append] at rp6
      have h8c : ∀ y ∈ evB (L.take k) ++ x.e.bytes.take (1 + zn), In8 y := fun y hy => by
        rcases List.mem_append.1 hy with h1 | h1
        · exact hb8 y (by rw [hBe]; simp [h1])
        · exact hb8 y (by rw [hBe]; simp [List.mem_of_mem_take h1])
      have hlc : (evB (L.take k) ++ x.e.bytes.take (1 + zn)).length < 1048576 := by rw [List.length_append, List.length_take]; omega
      have huc := un_cut (L.take k) har2 x.e hxr (1 + zn) (by omega) (by omega) _ rfl h8c (by omega)
      simp (disch := omega) only [vm0, vm1, vm2, vm3, vm4, vm5, vm6, vm7, vmF, vmT, evo, wr, wrC, frame, Nat.reduceAdd, Nat.reduceMul, Nat.reduceSub, beq_self_eq_true, List.cons_append, List.nil_append, beq_dec, vmI, gp]
      refine call_ok rfl rfl (e_unpack n s6 vp _ rp6 h8c hlc hfu) ?_
      rintro _ s7 hW
      rcases hW with ⟨m3, y3, hun3, _⟩ | ⟨a3, hun3, ha3, rfl, f7⟩
      · rw [huc] at hun3; cases hun3
      · have he3 : a3 = ((evB (L.take k)).length : Int) := by rw [huc] at hun3; exact (congrArg Prod.snd hun3).symm
        subst he3
        have hlenA7 := (q5.rd.fr0 f7).lenV
        simp (disch := omega) only [vm0, vm1, vm2, vm3, vm4, vm5, vm6, vm7, vmF, vmT, evo, wr, wrC, frame, Nat.reduceAdd, Nat.reduceMul, Nat.reduceSub, beq_self_eq_true, List.cons_append, List.nil_append, beq_dec, vmI, hlenA7]
        refine call_ok rfl rfl (wakes (fu := fu) n s7 (by omega)) ?_
        rintro _ s9 ⟨rfl, f9⟩
        simp (disch := omega) only [vm0, vm1, vm2, vm3, vm4, vm5, vm6, vm7, vmF, vmT, evo, wr, wrC, frame, Nat.reduceAdd, Nat.reduceMul, Nat.reduceSub, beq_self_eq_true, List.cons_append, List.nil_append, beq_dec, vmI]
        rfl
set_option maxHeartbeats 8000000 in
theorem back7 (n : Nat) (s : St) (v1 vh bv : AV) (l : List EvR) (hows : List Int) (B : List Int) (cut : Int) (hv1 : RdE s v1 12 EvR.enc l) (hvh : RdE s vh 1 encI hows)
    (hl : ∀ x ∈ l, x.e.In ∧ RdE s x.u 1 encB x.e.d ∧ RdE s x.w 1 encB x.e.p.d) (hh : ∀ y ∈ hows, In64 y) (hb : RdE s bv 1 encB B) (h8 : ∀ x ∈ B, In8 x) (hB : B.length < 1048576) (hcut : In64 cut) (hfu : 1048600 < fu) :
    OutOk (callF bd tab.get fu (n + 8) 5 [v1, vh, bv, num cut] s) (fun y s' => Is y (.bool true)) := by
  refine call_code t5 rfl ?_
  simp (disch := omega) only [vm0, vm1, vm2, vm3, vm4, vm5, vm6, vm7, vmF, vmT, evo, wr, wrC, frame, Nat.reduceAdd, Nat.reduceMul, Nat.reduceSub, beq_self_eq_true, List.cons_append, List.nil_append, beq_dec, vmI, vc5]
  refine call_ok rfl rfl (playEs n s v1 vh l hows 10 hv1 hvh hl hh (by omega) (by omega) (by omega)) ?_
  rintro vx s1 ⟨la, hla, hsa, hSa⟩
  have ra := Sep.rdW hSa
  have oa := Sep.oks (((hSa.re ((List.perm_middle (l₁ := [_])).trans (.cons _ (.refl _)))))) hsa
  have hlen := ra.lenV
  simp (disch := omega) only [vm0, vm1, vm2, vm3, vm4, vm5, vm6, vm7, vmF, vmT, evo, wr, wrC, frame, Nat.reduceAdd, Nat.reduceMul, Nat.reduceSub, beq_self_eq_true, List.cons_append, List.nil_append, beq_dec, vmI, hlen]
  refine x_loop (fun k F s' => ∃ i : Nat, ∃ x5 x7 x8 x9 x10 x11 x13 x15 x16 x17 x18 x19 x20 x21 x22 x23 x24 x25 x26 x27 x28 x29 x30 x31 vo, k = la.length - i ∧ i ≤ la.length ∧ F = [some v1, some vh, some bv, some (num cut), some vo, x5, some (num (i : Int)), x7, x8, x9, x10, x11, some (num (la.length : Int)), x13, some vx, x15, x16, x17, x18, x19, x20, x21, x22, x23, x24, x25, x26, x27, x28, x29, x30, x31, some (.bool false)] ∧ Sep s1 s' [oW vo 12 EvR.enc (rights (la.take i))]) la.length (by omega) ?_ ?_
  · exact ⟨0, _, _, _, _, _, _, _, _, _, _, _, _, _, _, _, _, _, _, _, _, _, _, _, _, _, by omega, by omega, rfl, Sep.nil.push (P := oW .nils 12 EvR.enc []) (f := []) (.nil EvR.wid (by omega)) .refl (by simp [Nw])⟩
  · rintro k F s2 ⟨i, x5, x7, x8, x9, x10, x11, x13, x15, x16, x17, x18, x19, x20, x21, x22, x23, x24, x25, x26, x27, x28, x29, x30, x31, vo, rfl, hi, rfl, hS⟩ hk
    by_cases hlt : i < la.length
    · obtain ⟨x, hx⟩ : ∃ x, la[i]? = some x := ⟨_, List.getElem?_eq_getElem hlt⟩
      have hxm : x ∈ la := List.mem_of_getElem? hx
      have e1 := (ra.fr0 hS.frm).ia hx
      have e2 := (ra.fr0 hS.frm).at hx
      have hxo := oa x hxm
      have ht : la.take (i + 1) = la.take i ++ [x] := by rw [List.take_add_one, hx]; rfl
      have hfl : (rights (la.take i)).length ≤ 10 := by
        have h1 := List.length_filter_le (fun x : EvR => x.e.right) (la.take i)
        have h2 := List.length_take_le i la
        unfold rights; omega
      have hS2 := hS.cell [num 0, num 0, .nils, num 0, num 0, num 0, num 0, num 0, .nils, .bool false, num 0, num 0] (x.e.cs x.u x.w)
      have g2 := hS2.getC
      have e2 : ob (s2.heap.get (sblk vx)) (rdC (soff vx + i * 12) 12) = some (x.e.cs x.u x.w) := e2
      have hck := e_check (bd := bd)  (fu := fu) (n + 2) ((s2.new (.cells [num 0, num 0, .nils, num 0, num 0, num 0, num 0, num 0, .nils, .bool false, num 0, num 0] .own)).put s2.next (some (.cells (x.e.cs x.u x.w) .own))) x.e x.u x.w (hxo.u.fr0 hS2.frm) (hxo.w.fr0 hS2.frm) hxo.hpl hxo.h8 hxo.h9
      have hcs : ∀ e u w, EvV.cs e u w = [num e.k, num e.n, u, num e.p.k, num e.p.pt, num e.p.nr, num e.p.of_, num e.p.fr, w, .bool e.p.fin, num e.p.se, num e.p.li] := fun _ _ _ => rfl
      simp only [hcs] at e2 hS2 g2 hck
      simp (disch := omega) only [vm0, vm1, vm2, vm3, vm4, vm5, vm6, vm7, vmF, vmT, evo, wr, wrC, frame, Nat.reduceAdd, Nat.reduceMul, Nat.reduceSub, beq_self_eq_true, List.cons_append, List.nil_append, beq_dec, vmI, vc5_1, vc5_0, e1, e2]
      refine call_ok rfl rfl hck ?_
      clear hck
      generalize ((s2.new (.cells [num 0, num 0, .nils, num 0, num 0, num 0, num 0, num 0, .nils, .bool false, num 0, num 0] .own)).put s2.next (some (.cells [num x.e.k, num x.e.n, x.u, num x.e.p.k, num x.e.p.pt, num x.e.p.nr, num x.e.p.of_, num x.e.p.fr, x.w, .bool x.e.p.fin, num x.e.p.se, num x.e.p.li] .own))) = s3 at *
      generalize s2.next = b3 at *
      rintro y s4 ⟨rfl, hf4⟩
      have hS4 := hS2.fr hf4
      have g4 := hS4.getC
      cases hr : x.e.right
      · simp only [Bool.false_eq_true, if_false]
        simp (disch := omega) only [vm0, vm1, vm2, vm3, vm4, vm5, vm6, vm7, vmF, vmT, evo, wr, wrC, frame, Nat.reduceAdd, Nat.reduceMul, Nat.reduceSub, beq_self_eq_true, List.cons_append, List.nil_append, beq_dec, vmI]
        exact ⟨la.length - (i + 1), by omega, i + 1, _, _, _, _, _, _, _, _, _, _, _, _, _, _, _, _, _, _, _, _, _, _, _, _, _, rfl, by omega, rfl, by
          rw [show rights (la.take (i + 1)) = rights (la.take i) by rw [ht]; simp [rights, hr]]
          exact ((hS4.re (.refl _)).drop)⟩
      · simp only [if_true]
        have hS5 := hS4.newC [num x.e.k, num x.e.n, x.u, num x.e.p.k, num x.e.p.pt, num x.e.p.nr, num x.e.p.of_, num x.e.p.fr, x.w, .bool x.e.p.fin, num x.e.p.se, num x.e.p.li]
        obtain ⟨fo, ho, up⟩ := Sep.hd (((hS5.re ((List.perm_middle (l₁ := [_, _])).trans (.cons _ (.refl _))))))
        simp (disch := omega) only [vm0, vm1, vm2, vm3, vm4, vm5, vm6, vm7, vmF, vmT, evo, wr, wrC, frame, Nat.reduceAdd, Nat.reduceMul, Nat.reduceSub, beq_self_eq_true, List.cons_append, List.nil_append, beq_dec, vmI, g4]
        refine op_app1 (show OwE _ vo 12 EvR.enc (rights (la.take i)) fo from ho) .refl (x := x) rfl (by omega) ?_
        intro v3 s6 f4 r7 r8 r9
        have hS6 := up (oW v3 12 EvR.enc (rights (la.take i) ++ [x])) r7 r8 r9
        simp (disch := omega) only [vm0, vm1, vm2, vm3, vm4, vm5, vm6, vm7, vmF, vmT, evo, wr, wrC, frame, Nat.reduceAdd, Nat.reduceMul, Nat.reduceSub, beq_self_eq_true, List.cons_append, List.nil_append, beq_dec, vmI]
        exact ⟨la.length - (i + 1), by omega, i + 1, _, _, _, _, _, _, _, _, _, _, _, _, _, _, _, _, _, _, _, _, _, _, _, _, _, rfl, by omega, rfl, by
          rw [show rights (la.take (i + 1)) = rights (la.take i) ++ [x] by rw [ht]; simp [rights, hr]]
          exact ((hS6.re ((List.perm_middle (l₁ := [_])).trans (.cons _ ((List.perm_middle (l₁ := [_])).trans (.cons _ (.refl _)))))).drop.drop)⟩
    · obtain rfl : i = la.length := by omega
      rw [List.take_length] at hS
      simp (disch := omega) only [vm0, vm1, vm2, vm3, vm4, vm5, vm6, vm7, vmF, vmT, evo, wr, wrC, frame, Nat.reduceAdd, Nat.reduceMul, Nat.reduceSub, beq_self_eq_true, List.cons_append, List.nil_append, beq_dec, vmI, vc5_1]
      have hsub : ∀ x ∈ rights la, x ∈ la := fun x hx => (List.mem_filter.1 hx).1
      have hrl : (rights la).length ≤ 10 := by
        have h1 := List.length_filter_le (fun x : EvR => x.e.right) la
        unfold rights; omega
      have fS := hSa.frm.trans hS.frm (fp2 := []) (by simp) (by simp)
      refine back_2 n s2 vo bv (rights la) B cut (Sep.rdW hS) (fun x hx => (oa x (hsub x hx)).fr0 hS.frm) ?_ (fun x hx => hsa x (hsub x hx)) hrl (hb.fr0 fS) h8 hB hcut hfu _ _ _ _ _ _ _ _ _ _ _ _ _ _ _ _ _ _ _ _ _ _ _ _ _ _ _ _ _
      unfold allR; rw [List.all_eq_true]; intro x hx; exact (List.mem_filter.1 hx).2
end
end Go.Proofs.Ytgckbcljlkkceaa.ctr
namespace Go.Proofs.Ytgckbcljlkkceaa.eventBackRun
open Go Go.Vm Go.RowKit Go.Proofs.Ytgckbcljlkkceaa.ctr
set_option linter.unusedVariables false
set_option linter.unusedSimpArgs false
theorem mixed : Try.prog.follows .mixedOrders = true := by kernel_rfl
theorem walk (a0 : Option Addr) (len0 cap0 : Nat) (z0 : Nat → Value) (a1 : Option Addr) (len1 cap1 : Nat) (z1 : List Int) (a2 : Option Addr) (len2 cap2 : Nat) (z2 : List Int) (a3 : Int) (w : World)
    (w3 : (Lit.int .i64 a3).wf = true) (hq0 : IsRowV w a0 len0 cap0 12 z0) (hk0 : ∀ i, i < cap0 * 12 → FkOk w (evK.getD (i % 12) .i) (z0 i)) (hq1 : IsRowI w a1 len1 cap1 z1) (hq2 : IsRow8 w a2 len2 cap2 z2) (hs2 : len2 < 1048576) :
    Calls Try.prog 5 #[.slice a0 len0 cap0, .slice a1 len1 cap1, .slice a2 len2 cap2, .int .i64 a3] w fun e w' => e = .returned (.bool true) ∧ Below w.heap.size w w' := by
  obtain ⟨v0, E0, s0, L0, g0, l0, f0, r0, d0, i0⟩ := (Arg0.start w).evs hq0 hk0
  obtain ⟨v1, E1, s1, g1, l1, f1, r1, d1, i1⟩ := g0.ints hq1
  obtain ⟨v2, E2, s2, g2, l2, f2, r2, d2, i2⟩ := g1.bytes hq2
  have hl : (z2.take len2).length < 1048576 := by rw [List.length_take]; omega
  have lup : ∀ {L : List EvR} {s s' : St}, Fr s s' [] → (∀ x ∈ L, x.e.In ∧ RdE s x.u 1 encB x.e.d ∧ RdE s x.w 1 encB x.e.p.d) → ∀ x ∈ L, x.e.In ∧ RdE s' x.u 1 encB x.e.d ∧ RdE s' x.w 1 encB x.e.p.d := fun hf hL x hx => ⟨(hL x hx).1, (hL x hx).2.1.fr0 hf, (hL x hx).2.2.fr0 hf⟩
  have h := back7 (bd := bd0) (fu := 2000000) 40 s2 v0 v1 v2 L0 _ _ a3 ((d0.fr0 f1).fr0 f2) (d1.fr0 f2) (lup f2 (lup f1 i0)) i1 d2 i2 hl (wf64 w3) (by omega)
  exact law_okE bd0_ok mixed (tab_all rho0) t5 g2.hr g2.own (.cons ((r0.mono l1).mono l2) (.cons (r1.mono l2) (.cons r2 (.cons vr_int .nil)))) (yes_of' h fun _ _ h => h)
end Go.Proofs.Ytgckbcljlkkceaa.eventBackRun
