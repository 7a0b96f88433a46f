/- Contracts: a reader of bytes, and the reference's. -/
import Derived.Test.YtekhpohcjfjhfabCyVi
namespace Go.Proofs.Ytekhpohcjfjhfab.ctr
open Go Go.Vm Go.RowKit
set_option linter.unusedVariables false
set_option linter.constructorNameAsVariable false
set_option linter.unusedSimpArgs false
/-! ## bytes, read field by field -/
structure RD where
  B : List Int
  a : Int
  bad : Bool
structure RD.Ok (r : RD) : Prop where
  a : 0 ≤ r.a ∧ r.a ≤ r.B.length
  i : ∀ x ∈ r.B, In8 x
  l : r.B.length ≤ 140737488351232
def IsRd (s : St) (p : Nat) (r : RD) (fp : List Nat) : Prop := ∃ v fv, s.heap.get p = some (.cells [v, num r.a, .bool r.bad] .own) ∧ OwE s v 1 encB r.B fv ∧ p ∉ fv ∧ fp = p :: fv ∧ p < s.next
theorem IsRd.fr {s s' : St} {p : Nat} {r : RD} {fp fp' : List Nat} (hF : IsRd s p r fp) (hf : Fr s s' fp') (hd : ∀ b ∈ fp, b ∉ fp') : IsRd s' p r fp := by
  obtain ⟨v, fv, h1, h2, h3, rfl, h5⟩ := hF
  exact ⟨v, fv, (hf.2 p h5 (hd p (by simp))).trans h1, h2.fr hf fun b hb => hd b (by simp [hb]), h3, rfl, Nat.lt_of_lt_of_le h5 hf.1⟩
theorem IsRd.lt {s : St} {p : Nat} {r : RD} {fp : List Nat} (hF : IsRd s p r fp) : Lt s fp := by
  obtain ⟨v, fv, h1, h2, h3, rfl, h5⟩ := hF
  intro b hb
  rcases List.mem_cons.1 hb with rfl | hb
  · exact h5
  · exact h2.lt b hb
def oR (p : Nat) (r : RD) : Obj := ⟨fun s fp => IsRd s p r fp, IsRd.fr, IsRd.lt⟩
/-- its place, and whether it is bad, are set -/
theorem IsRd.put {s s2 : St} {p : Nat} {v : AV} {fv : List Nat} {B : List Int} (h2 : OwE s v 1 encB B fv) (h3 : p ∉ fv) (h5 : p < s.next) (hf : Fr s s2 []) (a : Int) (b : Bool) :
    IsRd (s2.put p (some (.cells [v, num a, .bool b] .own))) p ⟨B, a, b⟩ (p :: fv) ∧ Fr s (s2.put p (some (.cells [v, num a, .bool b] .own))) (p :: fv) :=
  ⟨⟨v, fv, get_put_eq rfl, (h2.fr0 hf).fr (fp' := [p]) (.put (.inl (by simp))) (by rintro z hz hm; simp at hm; subst hm; exact h3 hz), h3, rfl, by rw [next_put]; exact Nat.lt_of_lt_of_le h5 hf.1⟩, .put' (.inl (by simp)) (hf.mono (by simp))⟩
def RD.take (r : RD) : Int × Int × Bool := takeV (r.B.drop r.a.toNat)
def RD.num (r : RD) : Int × RD := if r.bad = true ∨ r.take.2.2 = false then (0, { r with bad := true }) else (r.take.1, { r with a := r.a + r.take.2.1 })
def RD.bytes (r : RD) (most : Int) : List Int × RD :=
  if r.bad = true ∨ r.take.2.2 = false ∨ most < r.take.1 ∨ (r.B.length : Int) - r.a - r.take.2.1 < r.take.1 then ([], { r with bad := true })
  else ((r.B.take (r.a + r.take.2.1 + r.take.1).toNat).drop (r.a + r.take.2.1).toNat, { r with a := r.a + r.take.2.1 + r.take.1 })
def RD.byte (r : RD) : Int × RD := if r.bad = true ∨ r.a = r.B.length then (0, { r with bad := true }) else (r.B.getD r.a.toNat 0, { r with a := r.a + 1 })
theorem takeV_bd {l : List Int} (h8 : ∀ x ∈ l, In8 x) : 0 ≤ (takeV l).1 ∧ (takeV l).1 ≤ 4611686018427387903 ∧ 0 ≤ (takeV l).2.1 ∧ (takeV l).2.1 ≤ l.length := by
  cases l with
  | nil => simp [takeV]
  | cons b r =>
    have hb : 0 ≤ b ∧ b < 256 := by have := h8 b (by simp); exact ⟨this.1, by have := this.2; omega⟩
    rw [takeV_cons]
    have hs := szB_in hb
    by_cases hlt : (r.length : Int) + 1 < szB b
    · rw [if_pos hlt]; simp; omega
    · rw [if_neg hlt]
      split
      · have h2 : ∀ x ∈ r.take (szB b - 1).toNat, In8 x := fun x hx => h8 x (by simp [List.mem_of_mem_take hx])
        have hl : (r.take (szB b - 1).toNat).length ≤ 7 := by rw [List.length_take]; omega
        obtain ⟨f1, f2, _⟩ := fold_in (b := b) h2 (Nat.le_refl _) hl
        rw [List.take_length] at f1 f2
        exact ⟨f1, f2, by dsimp only; omega, by dsimp only; rw [List.length_cons]; omega⟩
      · simp; omega
theorem Sep.hdw {s0 s : St} {P : Obj} {Ps : List Obj} (h : Sep s0 s (P :: Ps)) : ∃ f, P.P s f ∧ ∀ (P' Q : Obj) {s' : St} {g : List Nat}, P'.P s' f → Q.P s' g → Fr s s' f → Nw s [] g → Sep s0 s' (Q :: P' :: Ps) := by
  obtain ⟨fp, ⟨f, g1, h1, h2, h3, rfl⟩, h4, h5⟩ := h
  refine ⟨f, h1, fun P' Q s' g k1 k2 k3 k4 => ?_⟩
  have hd : ∀ b ∈ g1, b ∉ f := fun b hb hm => h3 b hm hb
  refine ⟨g ++ (f ++ g1), ⟨g, f ++ g1, k2, ⟨f, g1, k1, h2.fr k3 hd, h3, rfl⟩, ?_, rfl⟩, ?_, h5.nn k3 fun b hb => h4 b (by simp [hb])⟩
  · intro b hb hm
    have hge : s.next ≤ b := by rcases k4 b hb with hh | hh; (· simp at hh); (· exact hh)
    rcases List.mem_append.1 hm with hm | hm
    · have := P.lt h1 b hm; omega
    · have := h2.lt b hm; omega
  · intro b hb
    rcases List.mem_append.1 hb with hb | hb
    · rcases k4 b hb with hh | hh
      · simp at hh
      · exact .inr (Nat.le_trans h5.1 hh)
    · exact h4 b (by simp only [List.mem_append] at *; exact hb)
section
variable {bd : Bd} {fu : Nat}
theorem cloneB (n : Nat) (s : St) (v : AV) (l : List Int) (hv : RdE s v 1 encB l) (hf : l.length ≤ 140737488351232) :
    OutOk (callF bd tab.get fu (n + 1) 41 [v] s) (fun x s' => ∃ fp, OwE s' x 1 encB l fp ∧ Fr s s' [] ∧ Nw s [] fp) :=
  (clone_lim t41 (by omega) n s v l hv (by rw [lim_1]; omega)).mono fun x s' ⟨fp, h1, h2, h3, _⟩ => ⟨fp, h1, h2, h3⟩
theorem r_new (n : Nat) {s0 : St} (s : St) (Ps : List Obj) (v : AV) (l : List Int) (hS : Sep s0 s Ps) (hv : RdE s v 1 encB l) (hf : l.length ≤ 140737488351232) :
    OutOk (callF bd tab.get fu (n + 2) 27 [v] s) (fun x s' => ∃ p, Is x (.ptr p 0) ∧ Sep s0 s' (oR p ⟨l, 0, false⟩ :: Ps)) := by
  refine call_code t27 rfl ?_
  simp (disch := omega) only [vm0, vm1, vm2, vm3, vm4, vm5, vm6, vm7, fPick, fBox, fBuild, fBsl, fLd, fLda, fSt, fNilc, fBin, fEq, fUn, fMkf, fFa, fFld, fFlda, fExt, evo, wr, wrC, frame, Bool.not_true, Bool.not_false, beq_self_eq_true, List.cons_append, List.nil_append, Nat.add_zero, Nat.zero_add, Nat.reduceAdd, Nat.reduceMul, Nat.reduceSub, Bool.and_true, Bool.true_and, Bool.and_self, beq_dec, fApp, Int.toNat_natCast, Nat.sub_zero, vmI, vc27]
  refine call_ok rfl rfl (cloneB n s v l hv hf) ?_
  rintro x s1 ⟨fp, q1, q2, q3⟩
  have hxc : x.cells = some [x] := by
    have := q1.rd.rd.sl
    cases x <;> first | rfl | exact this.elim
  simp (disch := omega) only [vm0, vm1, vm2, vm3, vm4, vm5, vm6, vm7, fPick, fBox, fBuild, fBsl, fLd, fLda, fSt, fNilc, fBin, fEq, fUn, fMkf, fFa, fFld, fFlda, fExt, evo, wr, wrC, frame, Bool.not_true, Bool.not_false, beq_self_eq_true, List.cons_append, List.nil_append, Nat.add_zero, Nat.zero_add, Nat.reduceAdd, Nat.reduceMul, Nat.reduceSub, Bool.and_true, Bool.true_and, Bool.and_self, beq_dec, fApp, Int.toNat_natCast, Nat.sub_zero, vmI, hxc]
  have hlt : s1.next ∉ fp := fun hm => by have := q1.lt _ hm; omega
  have hfa : Fr s1 (s1.new (.cells [x, num 0, .bool false] .own)) [] := .new
  have hnw : Nw s [] (s1.next :: fp) := by
    intro b hb
    rcases List.mem_cons.1 hb with rfl | hb
    · exact .inr q2.1
    · exact q3 b hb
  have hob : (oR s1.next ⟨l, 0, false⟩).P (s1.new (.cells [x, num 0, .bool false] .own)) (s1.next :: fp) := ⟨x, fp, get_new_eq rfl, q1.fr0 hfa, hlt, rfl, by rw [next_new]; omega⟩
  exact ⟨s1.next, rfl, hS.push hob (q2.trans hfa (fp2 := []) (by simp) (by simp)) hnw⟩
theorem r_at (n : Nat) {s0 : St} (s : St) (p : Nat) (r : RD) (Ps : List Obj) (hS : Sep s0 s (oR p r :: Ps)) : OutOk (callF bd tab.get fu (n + 1) 34 [.ptr p 0] s) (fun x s' => Is x (num r.a) ∧ Is s' s) := by
  refine call_code t34 rfl ?_
  obtain ⟨f, ⟨v, fv, h1, h2, h3, rfl, h5⟩, up⟩ := hS.hd
  simp (disch := omega) only [vm0, vm1, vm2, vm3, vm4, vm5, vm6, vm7, fPick, fBox, fBuild, fBsl, fLd, fLda, fSt, fNilc, fBin, fEq, fUn, fMkf, fFa, fFld, fFlda, fExt, evo, wr, wrC, frame, Bool.not_true, Bool.not_false, beq_self_eq_true, List.cons_append, List.nil_append, Nat.add_zero, Nat.zero_add, Nat.reduceAdd, Nat.reduceMul, Nat.reduceSub, Bool.and_true, Bool.true_and, Bool.and_self, beq_dec, fApp, Int.toNat_natCast, Nat.sub_zero, vmI, vc34, h1]
  exact ⟨rfl, rfl⟩
theorem r_bad (n : Nat) {s0 : St} (s : St) (p : Nat) (r : RD) (Ps : List Obj) (hS : Sep s0 s (oR p r :: Ps)) : OutOk (callF bd tab.get fu (n + 1) 36 [.ptr p 0] s) (fun x s' => Is x (.bool r.bad) ∧ Is s' s) := by
  refine call_code t36 rfl ?_
  obtain ⟨f, ⟨v, fv, h1, h2, h3, rfl, h5⟩, up⟩ := hS.hd
  simp (disch := omega) only [vm0, vm1, vm2, vm3, vm4, vm5, vm6, vm7, fPick, fBox, fBuild, fBsl, fLd, fLda, fSt, fNilc, fBin, fEq, fUn, fMkf, fFa, fFld, fFlda, fExt, evo, wr, wrC, frame, Bool.not_true, Bool.not_false, beq_self_eq_true, List.cons_append, List.nil_append, Nat.add_zero, Nat.zero_add, Nat.reduceAdd, Nat.reduceMul, Nat.reduceSub, Bool.and_true, Bool.true_and, Bool.and_self, beq_dec, fApp, Int.toNat_natCast, Nat.sub_zero, vmI, vc36, h1]
  exact ⟨rfl, rfl⟩
theorem r_left (n : Nat) {s0 : St} (s : St) (p : Nat) (r : RD) (Ps : List Obj) (hS : Sep s0 s (oR p r :: Ps)) (hr : r.Ok) : OutOk (callF bd tab.get fu (n + 1) 35 [.ptr p 0] s) (fun x s' => Is x (num ((r.B.length : Int) - r.a)) ∧ Is s' s) := by
  refine call_code t35 rfl ?_
  obtain ⟨f, ⟨v, fv, h1, h2, h3, rfl, h5⟩, up⟩ := hS.hd
  have e := h2.rd.lenV
  obtain ⟨a1, a2, a3⟩ := hr
  simp (disch := omega) only [vm0, vm1, vm2, vm3, vm4, vm5, vm6, vm7, fPick, fBox, fBuild, fBsl, fLd, fLda, fSt, fNilc, fBin, fEq, fUn, fMkf, fFa, fFld, fFlda, fExt, evo, wr, wrC, frame, Bool.not_true, Bool.not_false, beq_self_eq_true, List.cons_append, List.nil_append, Nat.add_zero, Nat.zero_add, Nat.reduceAdd, Nat.reduceMul, Nat.reduceSub, Bool.and_true, Bool.true_and, Bool.and_self, beq_dec, fApp, Int.toNat_natCast, Nat.sub_zero, vmI, vc35, h1, e]
  exact ⟨rfl, rfl⟩
theorem r_num (n : Nat) {s0 : St} (s : St) (p : Nat) (r : RD) (Ps : List Obj) (hS : Sep s0 s (oR p r :: Ps)) (hr : r.Ok) (hfu : 10 < fu) : OutOk (callF bd tab.get fu (n + 4) 28 [.ptr p 0] s) (fun x s' => Is x (num r.num.1) ∧ Sep s0 s' (oR p r.num.2 :: Ps)) := by
  refine call_code t28 rfl ?_
  obtain ⟨f, ⟨v, fv, h1, h2, h3, rfl, h5⟩, up⟩ := hS.hd
  obtain ⟨B, a, bad⟩ := r
  obtain ⟨a1, a2, a3⟩ := hr
  dsimp only at h1 h2 a1 a2 a3
  obtain ⟨w, g1, kw⟩ := h2.rd.sliL (a := a) a1.1 a1.2
  have h8 : ∀ x ∈ B.drop a.toNat, In8 x := fun x hx => a2 x (List.mem_of_mem_drop hx)
  obtain ⟨t1, t2, t3, t4⟩ := takeV_bd h8
  simp (disch := omega) only [vm0, vm1, vm2, vm3, vm4, vm5, vm6, vm7, fPick, fBox, fBuild, fBsl, fLd, fLda, fSt, fNilc, fBin, fEq, fUn, fMkf, fFa, fFld, fFlda, fExt, evo, wr, wrC, frame, Bool.not_true, Bool.not_false, beq_self_eq_true, List.cons_append, List.nil_append, Nat.add_zero, Nat.zero_add, Nat.reduceAdd, Nat.reduceMul, Nat.reduceSub, Bool.and_true, Bool.true_and, Bool.and_self, beq_dec, fApp, Int.toNat_natCast, Nat.sub_zero, vmI, vc28, h1, g1]
  refine call_ok rfl rfl (v_take n s w _ kw h8 (by simp; omega) hfu) ?_
  rintro y s2 ⟨rfl, hf⟩
  have h1' := (hf.get h5 (by simp)).trans h1
  have hput := IsRd.put h2 h3 h5 hf
  unfold RD.num RD.take
  dsimp only
  rw [List.length_drop] at t4
  generalize takeV (B.drop a.toNat) = T at *
  obtain ⟨x, sz, ok⟩ := T
  dsimp only at t1 t2 t3 t4 ⊢
  cases bad
  · cases ok
    · rw [if_pos (.inr rfl)]
      simp (disch := omega) only [vm0, vm1, vm2, vm3, vm4, vm5, vm6, vm7, fPick, fBox, fBuild, fBsl, fLd, fLda, fSt, fNilc, fBin, fEq, fUn, fMkf, fFa, fFld, fFlda, fExt, evo, wr, wrC, frame, Bool.not_true, Bool.not_false, beq_self_eq_true, List.cons_append, List.nil_append, Nat.add_zero, Nat.zero_add, Nat.reduceAdd, Nat.reduceMul, Nat.reduceSub, Bool.and_true, Bool.true_and, Bool.and_self, beq_dec, fApp, Int.toNat_natCast, Nat.sub_zero, vmI, h1', g1]
      exact ⟨rfl, up (oR p _) (hput a true).1 (hput a true).2 (fun b hb => .inl hb)⟩
    · rw [if_neg (by simp)]
      simp (disch := omega) only [vm0, vm1, vm2, vm3, vm4, vm5, vm6, vm7, fPick, fBox, fBuild, fBsl, fLd, fLda, fSt, fNilc, fBin, fEq, fUn, fMkf, fFa, fFld, fFlda, fExt, evo, wr, wrC, frame, Bool.not_true, Bool.not_false, beq_self_eq_true, List.cons_append, List.nil_append, Nat.add_zero, Nat.zero_add, Nat.reduceAdd, Nat.reduceMul, Nat.reduceSub, Bool.and_true, Bool.true_and, Bool.and_self, beq_dec, fApp, Int.toNat_natCast, Nat.sub_zero, vmI, h1', g1]
      exact ⟨rfl, up (oR p _) (hput _ false).1 (hput _ false).2 (fun b hb => .inl hb)⟩
  · rw [if_pos (.inl rfl)]
    simp (disch := omega) only [vm0, vm1, vm2, vm3, vm4, vm5, vm6, vm7, fPick, fBox, fBuild, fBsl, fLd, fLda, fSt, fNilc, fBin, fEq, fUn, fMkf, fFa, fFld, fFlda, fExt, evo, wr, wrC, frame, Bool.not_true, Bool.not_false, beq_self_eq_true, List.cons_append, List.nil_append, Nat.add_zero, Nat.zero_add, Nat.reduceAdd, Nat.reduceMul, Nat.reduceSub, Bool.and_true, Bool.true_and, Bool.and_self, beq_dec, fApp, Int.toNat_natCast, Nat.sub_zero, vmI, h1', g1]
    exact ⟨rfl, up (oR p _) (hput a true).1 (hput a true).2 (fun b hb => .inl hb)⟩
theorem r_byte (n : Nat) {s0 : St} (s : St) (p : Nat) (r : RD) (Ps : List Obj) (hS : Sep s0 s (oR p r :: Ps)) (hr : r.Ok) : OutOk (callF bd tab.get fu (n + 2) 32 [.ptr p 0] s) (fun x s' => Is x (byt r.byte.1) ∧ Sep s0 s' (oR p r.byte.2 :: Ps)) := by
  refine call_code t32 rfl ?_
  have hS0 := hS
  obtain ⟨f, ⟨v, fv, h1, h2, h3, rfl, h5⟩, up⟩ := hS.hd
  obtain ⟨B, a, bad⟩ := r
  have hr0 := hr
  obtain ⟨a1, a2, a3⟩ := hr
  dsimp only at h1 h2 a1 a2 a3
  have hput := IsRd.put h2 h3 h5 .refl
  unfold RD.byte
  dsimp only
  cases bad
  · simp (disch := omega) only [vm0, vm1, vm2, vm3, vm4, vm5, vm6, vm7, fPick, fBox, fBuild, fBsl, fLd, fLda, fSt, fNilc, fBin, fEq, fUn, fMkf, fFa, fFld, fFlda, fExt, evo, wr, wrC, frame, Bool.not_true, Bool.not_false, beq_self_eq_true, List.cons_append, List.nil_append, Nat.add_zero, Nat.zero_add, Nat.reduceAdd, Nat.reduceMul, Nat.reduceSub, Bool.and_true, Bool.true_and, Bool.and_self, beq_dec, fApp, Int.toNat_natCast, Nat.sub_zero, vmI, vc32, h1]
    refine call_ok rfl rfl (r_left n s p _ Ps hS0 hr0) ?_
    rintro y s ⟨rfl, rfl⟩
    dsimp only
    by_cases hz : a = B.length
    · rw [if_pos (.inr hz)]
      have hz2 : (B.length : Int) - a = 0 := by omega
      simp (disch := omega) only [vm0, vm1, vm2, vm3, vm4, vm5, vm6, vm7, fPick, fBox, fBuild, fBsl, fLd, fLda, fSt, fNilc, fBin, fEq, fUn, fMkf, fFa, fFld, fFlda, fExt, evo, wr, wrC, frame, Bool.not_true, Bool.not_false, beq_self_eq_true, List.cons_append, List.nil_append, Nat.add_zero, Nat.zero_add, Nat.reduceAdd, Nat.reduceMul, Nat.reduceSub, Bool.and_true, Bool.true_and, Bool.and_self, beq_dec, fApp, Int.toNat_natCast, Nat.sub_zero, vmI, hz2, h1]
      exact ⟨rfl, up (oR p _) (hput a true).1 (hput a true).2 (fun b hb => .inl hb)⟩
    · rw [if_neg (by simp [hz])]
      obtain ⟨c, hc⟩ : ∃ c, B[a.toNat]? = some c := ⟨_, List.getElem?_eq_getElem (by omega)⟩
      have e1 := h2.rd.ia hc
      have e2 := h2.rd.at1 (f := byt) hc
      have eb := h2.rd.blk' hc
      rw [Int.toNat_of_nonneg a1.1] at e1
      have hgd : B.getD a.toNat 0 = c := by rw [List.getD, hc]; rfl
      have hpb : sblk v ≠ p := by
        intro hp
        rcases h2.ow with ⟨rfl, h0, _⟩ | ⟨b, len, lo, ex, k, J, rfl, _, _, _, h5'⟩
        · have h9 := congrArg List.length h0
          rw [flat_len encB_w, List.length_nil, Nat.mul_one] at h9
          have := (List.getElem?_eq_some_iff.1 hc).1
          omega
        · have hp : b = p := hp
          subst hp
          exact h3 (by rcases h5' with ⟨_, rfl⟩ | ⟨m, _, _, rfl⟩ <;> simp)
      have ha1 : a + 1 - 1 = a := by omega
      rw [hgd]
      simp (disch := omega) only [vm0, vm1, vm2, vm3, vm4, vm5, vm6, vm7, fPick, fBox, fBuild, fBsl, fLd, fLda, fSt, fNilc, fBin, fEq, fUn, fMkf, fFa, fFld, fFlda, fExt, evo, wr, wrC, frame, Bool.not_true, Bool.not_false, beq_self_eq_true, List.cons_append, List.nil_append, Nat.add_zero, Nat.zero_add, Nat.reduceAdd, Nat.reduceMul, Nat.reduceSub, Bool.and_true, Bool.true_and, Bool.and_self, beq_dec, fApp, Int.toNat_natCast, Nat.sub_zero, vmI, h1, e1, e2, ha1]
      exact ⟨rfl, up (oR p _) (hput _ false).1 (hput _ false).2 (fun b hb => .inl hb)⟩
  · rw [if_pos (.inl rfl)]
    simp (disch := omega) only [vm0, vm1, vm2, vm3, vm4, vm5, vm6, vm7, fPick, fBox, fBuild, fBsl, fLd, fLda, fSt, fNilc, fBin, fEq, fUn, fMkf, fFa, fFld, fFlda, fExt, evo, wr, wrC, frame, Bool.not_true, Bool.not_false, beq_self_eq_true, List.cons_append, List.nil_append, Nat.add_zero, Nat.zero_add, Nat.reduceAdd, Nat.reduceMul, Nat.reduceSub, Bool.and_true, Bool.true_and, Bool.and_self, beq_dec, fApp, Int.toNat_natCast, Nat.sub_zero, vmI, vc32, h1]
    exact ⟨rfl, up (oR p _) (hput a true).1 (hput a true).2 (fun b hb => .inl hb)⟩
theorem r_bytes (n : Nat) {s0 : St} (s : St) (p : Nat) (r : RD) (most : Int) (Ps : List Obj) (hS : Sep s0 s (oR p r :: Ps)) (hr : r.Ok) (hm : most ≤ 1000000000) (hfu : 10 < fu) : OutOk (callF bd tab.get fu (n + 4) 30 [.ptr p 0, num most] s) (fun x s' => Sep s0 s' (oW x 1 encB (r.bytes most).1 :: oR p (r.bytes most).2 :: Ps)) := by
  refine call_code t30 rfl ?_
  have hS0 := hS
  obtain ⟨f, ⟨v, fv, h1, h2, h3, rfl, h5⟩, up⟩ := hS.hdw
  obtain ⟨B, a, bad⟩ := r
  have hr0 := hr
  obtain ⟨a1, a2, a3⟩ := hr
  dsimp only at h1 h2 a1 a2 a3
  obtain ⟨w, g1, kw⟩ := h2.rd.sliL (a := a) a1.1 a1.2
  have h8 : ∀ x ∈ B.drop a.toNat, In8 x := fun x hx => a2 x (List.mem_of_mem_drop hx)
  obtain ⟨t1, t2, t3, t4⟩ := takeV_bd h8
  simp (disch := omega) only [vm0, vm1, vm2, vm3, vm4, vm5, vm6, vm7, fPick, fBox, fBuild, fBsl, fLd, fLda, fSt, fNilc, fBin, fEq, fUn, fMkf, fFa, fFld, fFlda, fExt, evo, wr, wrC, frame, Bool.not_true, Bool.not_false, beq_self_eq_true, List.cons_append, List.nil_append, Nat.add_zero, Nat.zero_add, Nat.reduceAdd, Nat.reduceMul, Nat.reduceSub, Bool.and_true, Bool.true_and, Bool.and_self, beq_dec, fApp, Int.toNat_natCast, Nat.sub_zero, vmI, vc30, h1, g1]
  refine call_ok rfl rfl (v_take n s w _ kw h8 (by simp; omega) hfu) ?_
  rintro y s2 ⟨rfl, hf⟩
  have h1' := (hf.get h5 (by simp)).trans h1
  have hput := IsRd.put h2 h3 h5 hf
  unfold RD.bytes RD.take
  dsimp only
  rw [List.length_drop] at t4
  generalize takeV (B.drop a.toNat) = T at *
  obtain ⟨x, sz, ok⟩ := T
  dsimp only at t1 t2 t3 t4 ⊢
  have fail : Sep s0 (s2.put p (some (.cells [v, num a, .bool true] .own))) (oW .nils 1 encB ([] : List Int) :: oR p ⟨B, a, true⟩ :: Ps) :=
    up (oR p _) (oW .nils 1 encB _) (hput a true).1 (OwE.nil encB_w (by omega)) (hput a true).2 (by simp [Nw])
  cases bad
  · cases ok
    · rw [if_pos (.inr (.inl rfl))]
      simp (disch := omega) only [vm0, vm1, vm2, vm3, vm4, vm5, vm6, vm7, fPick, fBox, fBuild, fBsl, fLd, fLda, fSt, fNilc, fBin, fEq, fUn, fMkf, fFa, fFld, fFlda, fExt, evo, wr, wrC, frame, Bool.not_true, Bool.not_false, beq_self_eq_true, List.cons_append, List.nil_append, Nat.add_zero, Nat.zero_add, Nat.reduceAdd, Nat.reduceMul, Nat.reduceSub, Bool.and_true, Bool.true_and, Bool.and_self, beq_dec, fApp, Int.toNat_natCast, Nat.sub_zero, vmI, h1', g1]
      exact fail
    · by_cases c1 : most < x
      · rw [if_pos (.inr (.inr (.inl c1)))]
        simp (disch := omega) only [vm0, vm1, vm2, vm3, vm4, vm5, vm6, vm7, fPick, fBox, fBuild, fBsl, fLd, fLda, fSt, fNilc, fBin, fEq, fUn, fMkf, fFa, fFld, fFlda, fExt, evo, wr, wrC, frame, Bool.not_true, Bool.not_false, beq_self_eq_true, List.cons_append, List.nil_append, Nat.add_zero, Nat.zero_add, Nat.reduceAdd, Nat.reduceMul, Nat.reduceSub, Bool.and_true, Bool.true_and, Bool.and_self, beq_dec, fApp, Int.toNat_natCast, Nat.sub_zero, vmI, h1', g1]
        exact fail
      · simp (disch := omega) only [vm0, vm1, vm2, vm3, vm4, vm5, vm6, vm7, fPick, fBox, fBuild, fBsl, fLd, fLda, fSt, fNilc, fBin, fEq, fUn, fMkf, fFa, fFld, fFlda, fExt, evo, wr, wrC, frame, Bool.not_true, Bool.not_false, beq_self_eq_true, List.cons_append, List.nil_append, Nat.add_zero, Nat.zero_add, Nat.reduceAdd, Nat.reduceMul, Nat.reduceSub, Bool.and_true, Bool.true_and, Bool.and_self, beq_dec, fApp, Int.toNat_natCast, Nat.sub_zero, vmI, h1', g1]
        refine call_ok rfl rfl (r_left (n + 2) s2 p _ Ps (hS0.fr hf) hr0) ?_
        rintro y s3 ⟨rfl, rfl⟩
        dsimp only
        by_cases c2 : (B.length : Int) - a - sz < x
        · rw [if_pos (.inr (.inr (.inr c2)))]
          simp (disch := omega) only [vm0, vm1, vm2, vm3, vm4, vm5, vm6, vm7, fPick, fBox, fBuild, fBsl, fLd, fLda, fSt, fNilc, fBin, fEq, fUn, fMkf, fFa, fFld, fFlda, fExt, evo, wr, wrC, frame, Bool.not_true, Bool.not_false, beq_self_eq_true, List.cons_append, List.nil_append, Nat.add_zero, Nat.zero_add, Nat.reduceAdd, Nat.reduceMul, Nat.reduceSub, Bool.and_true, Bool.true_and, Bool.and_self, beq_dec, fApp, Int.toNat_natCast, Nat.sub_zero, vmI, h1']
          exact fail
        · rw [if_neg (by simp [c1, c2])]
          obtain ⟨k1, k2⟩ := hput (a + sz + x) false
          have h2n : OwE (s3.put p (some (.cells [v, num (a + sz + x), .bool false] .own))) v 1 encB B fv := (h2.fr0 hf).fr (fp' := [p]) (.put (.inl (by simp))) (by rintro z hz hm; simp at hm; subst hm; exact h3 hz)
          obtain ⟨u, g2, ku⟩ := h2n.rd.sli' (a := a + sz) (b := a + sz + x) (by omega) (by omega) (by omega)
          have hnx : (s3.put p (some (.cells [v, num (a + sz + x), .bool false] .own))).next = s3.next := by rw [next_put]
          simp (disch := omega) only [vm0, vm1, vm2, vm3, vm4, vm5, vm6, vm7, fPick, fBox, fBuild, fBsl, fLd, fLda, fSt, fNilc, fBin, fEq, fUn, fMkf, fFa, fFld, fFlda, fExt, evo, wr, wrC, frame, Bool.not_true, Bool.not_false, beq_self_eq_true, List.cons_append, List.nil_append, Nat.add_zero, Nat.zero_add, Nat.reduceAdd, Nat.reduceMul, Nat.reduceSub, Bool.and_true, Bool.true_and, Bool.and_self, beq_dec, fApp, Int.toNat_natCast, Nat.sub_zero, vmI, h1', g2]
          refine call_ok rfl rfl (cloneB (n + 2) _ u _ ku (by simp; omega)) ?_
          rintro y s4 ⟨fo, q1, q2, q3⟩
          have h1n : s4.heap.get p = some (.cells [v, num (a + sz + x), .bool false] .own) := (q2.get (by rw [hnx]; exact Nat.lt_of_lt_of_le h5 hf.1) (by simp)).trans (get_put_eq rfl)
          simp (disch := omega) only [vm0, vm1, vm2, vm3, vm4, vm5, vm6, vm7, fPick, fBox, fBuild, fBsl, fLd, fLda, fSt, fNilc, fBin, fEq, fUn, fMkf, fFa, fFld, fFlda, fExt, evo, wr, wrC, frame, Bool.not_true, Bool.not_false, beq_self_eq_true, List.cons_append, List.nil_append, Nat.add_zero, Nat.zero_add, Nat.reduceAdd, Nat.reduceMul, Nat.reduceSub, Bool.and_true, Bool.true_and, Bool.and_self, beq_dec, fApp, Int.toNat_natCast, Nat.sub_zero, vmI, h1n, g2]
          refine up (oR p _) (oW y 1 encB _) (IsRd.fr k1 q2 (by simp)) q1 (k2.trans q2 (fun b hb _ => hb) (by simp)) (fun b hb => ?_)
          rcases q3 b hb with hh | hh
          · simp at hh
          · rw [next_put] at hh
            exact .inr (Nat.le_trans hf.1 hh)
  · rw [if_pos (.inl rfl)]
    simp (disch := omega) only [vm0, vm1, vm2, vm3, vm4, vm5, vm6, vm7, fPick, fBox, fBuild, fBsl, fLd, fLda, fSt, fNilc, fBin, fEq, fUn, fMkf, fFa, fFld, fFlda, fExt, evo, wr, wrC, frame, Bool.not_true, Bool.not_false, beq_self_eq_true, List.cons_append, List.nil_append, Nat.add_zero, Nat.zero_add, Nat.reduceAdd, Nat.reduceMul, Nat.reduceSub, Bool.and_true, Bool.true_and, Bool.and_self, beq_dec, fApp, Int.toNat_natCast, Nat.sub_zero, vmI, h1', g1]
    exact fail
theorem pack (n : Nat) (s : St) (v : AV) (l : List Int) (hv : RdE s v 1 encB l) (hl : l.length ≤ 140737488351232) (hfu : 10 < fu) :
    OutOk (callF bd tab.get fu (n + 3) 37 [v] s) (fun x s' => ∃ fp, OwE s' x 1 encB (putV l.length ++ l) fp ∧ Fr s s' [] ∧ Nw s [] fp) := by
  refine call_code t37 rfl ?_
  have e := hv.lenV
  simp (disch := omega) only [vm0, vm1, vm2, vm3, vm4, vm5, vm6, vm7, fPick, fBox, fBuild, fBsl, fLd, fLda, fSt, fNilc, fBin, fEq, fUn, fMkf, fFa, fFld, fFlda, fExt, evo, wr, wrC, frame, Bool.not_true, Bool.not_false, beq_self_eq_true, List.cons_append, List.nil_append, Nat.add_zero, Nat.zero_add, Nat.reduceAdd, Nat.reduceMul, Nat.reduceSub, Bool.and_true, Bool.true_and, Bool.and_self, beq_dec, fApp, Int.toNat_natCast, Nat.sub_zero, vmI, vc37, e]
  refine call_ok rfl rfl (v_put n s (l.length : Int) ⟨by omega, by omega⟩ hfu) ?_
  rintro x s1 ⟨fp, q1, q2, q3⟩
  have hxc : x.cells = some [x] := by
    have := q1.rd.rd.sl
    cases x <;> first | rfl | exact this.elim
  have hvc : v.cells = some [v] := by
    have := hv.rd.sl
    cases v <;> first | rfl | exact this.elim
  simp (disch := omega) only [vm0, vm1, vm2, vm3, vm4, vm5, vm6, vm7, fPick, fBox, fBuild, fBsl, fLd, fLda, fSt, fNilc, fBin, fEq, fUn, fMkf, fFa, fFld, fFlda, fExt, evo, wr, wrC, frame, Bool.not_true, Bool.not_false, beq_self_eq_true, List.cons_append, List.nil_append, Nat.add_zero, Nat.zero_add, Nat.reduceAdd, Nat.reduceMul, Nat.reduceSub, Bool.and_true, Bool.true_and, Bool.and_self, beq_dec, fApp, Int.toNat_natCast, Nat.sub_zero, vmI, hxc, hvc]
  have hfa : Fr s1 (s1.new (.cells [x, v] .own)) [] := .new
  have hU : RdE (s1.new (.cells [x, v] .own)) (.sl s1.next 0 2 2 true 1) 1 encU [x, v] := by
    refine ⟨⟨⟨rfl, Nat.le_refl _⟩, rfl, ?_⟩, fun _ => rfl, by omega, by show s1.next < _; rw [next_new]; omega⟩
    show ob ((s1.new _).heap.get s1.next) (rdC 0 (2 * 1)) = _
    rw [get_new_eq rfl]; rfl
  have hpl := putV_len (l.length : Int)
  have hsz : sizeV (l.length : Int) ≤ 8 := by rcases sizeV_in (l.length : Int) with h | h | h | h | h <;> omega
  refine call_ok rfl rfl (concatB (n + 0) _ s1.next true x v _ l hU (q1.rd.fr0 hfa) ((hv.fr0 q2).fr0 hfa) (by omega) hfu) ?_
  rintro y s2 ⟨fo, k1, k2, k3⟩
  simp (disch := omega) only [vm0, vm1, vm2, vm3, vm4, vm5, vm6, vm7, fPick, fBox, fBuild, fBsl, fLd, fLda, fSt, fNilc, fBin, fEq, fUn, fMkf, fFa, fFld, fFlda, fExt, evo, wr, wrC, frame, Bool.not_true, Bool.not_false, beq_self_eq_true, List.cons_append, List.nil_append, Nat.add_zero, Nat.zero_add, Nat.reduceAdd, Nat.reduceMul, Nat.reduceSub, Bool.and_true, Bool.true_and, Bool.and_self, beq_dec, fApp, Int.toNat_natCast, Nat.sub_zero, vmI]
  refine ⟨fo, k1, (q2.trans hfa (fp2 := []) (by simp) (by simp)).trans k2 (fp2 := []) (by simp) (by simp), fun b hb => ?_⟩
  rcases k3 b hb with hh | hh
  · simp at hh
  · exact .inr (Nat.le_trans q2.1 (Nat.le_trans hfa.1 hh))
theorem wakes04 (n : Nat) (s : St) (hfu : 10 < fu) : OutOk (callF bd tab.get fu (n + 4) 38 [] s) (fun y s' => Is y (.bool true)) := by
  refine call_code t38 rfl ?_
  simp (disch := omega) only [vm0, vm1, vm2, vm3, vm4, vm5, vm6, vm7, fPick, fBox, fBuild, fBsl, fLd, fLda, fSt, fNilc, fBin, fEq, fUn, fMkf, fFa, fFld, fFlda, fExt, evo, wr, wrC, frame, Bool.not_true, Bool.not_false, beq_self_eq_true, List.cons_append, List.nil_append, Nat.add_zero, Nat.zero_add, Nat.reduceAdd, Nat.reduceMul, Nat.reduceSub, Bool.and_true, Bool.true_and, Bool.and_self, beq_dec, fApp, Int.toNat_natCast, Nat.sub_zero, vmI, vc38]
  refine call_ok rfl rfl (pack n s .nils [] (.nil encB_w (by omega)) (by simp) hfu) ?_
  rintro y s1 ⟨fp, q1, q2, q3⟩
  have hp : putV (([] : List Int).length : Int) ++ [] = [0] := by decide
  rw [hp] at q1
  simp (disch := omega) only [vm0, vm1, vm2, vm3, vm4, vm5, vm6, vm7, fPick, fBox, fBuild, fBsl, fLd, fLda, fSt, fNilc, fBin, fEq, fUn, fMkf, fFa, fFld, fFlda, fExt, evo, wr, wrC, frame, Bool.not_true, Bool.not_false, beq_self_eq_true, List.cons_append, List.nil_append, Nat.add_zero, Nat.zero_add, Nat.reduceAdd, Nat.reduceMul, Nat.reduceSub, Bool.and_true, Bool.true_and, Bool.and_self, beq_dec, fApp, Int.toNat_natCast, Nat.sub_zero, vmI]
  have hp2 : OwE (s1.new (.cells [byt 0] .own)) (.sl s1.next 0 1 1 true 1) 1 encB [0] [s1.next] :=
    ⟨.mk (J := []) (get_new_eq rfl) rfl (Nat.le_refl _), encB_w, by omega, by intro z hz; simp at hz; subst hz; rw [next_new]; omega⟩
  refine call_ok rfl rfl (sameB (n + 2) _ y _ [0] [0] (q1.rd.fr0 .new) hp2.rd (by simp; omega) (by simp)) ?_
  rintro x s5 ⟨rfl, rfl⟩
  simp (disch := omega) only [vm0, vm1, vm2, vm3, vm4, vm5, vm6, vm7, fPick, fBox, fBuild, fBsl, fLd, fLda, fSt, fNilc, fBin, fEq, fUn, fMkf, fFa, fFld, fFlda, fExt, evo, wr, wrC, frame, Bool.not_true, Bool.not_false, beq_self_eq_true, List.cons_append, List.nil_append, Nat.add_zero, Nat.zero_add, Nat.reduceAdd, Nat.reduceMul, Nat.reduceSub, Bool.and_true, Bool.true_and, Bool.and_self, beq_dec, fApp, Int.toNat_natCast, Nat.sub_zero, vmI]
  rfl
end
end Go.Proofs.Ytekhpohcjfjhfab.ctr
namespace Go.Proofs.Ytekhpohcjfjhfab.ctr
open Go Go.Vm Go.RowKit
set_option linter.unusedVariables false
set_option linter.constructorNameAsVariable false
set_option linter.unusedSimpArgs false
structure A13 where
  u : AV
  b : List Int
def encL (x : A13) : List AV := [x.u]
theorem encL_w : ∀ x, (encL x).length = 1 := fun _ => rfl
theorem _root_.Go.Vm.Arg0.acts13 {E : Env} {s : St} {w : World} (h : Arg0 E s w) {a : Option Addr} {len cap : Nat} {V : Nat → Value} (hq : IsRowV w a len cap 1 V) (hk : ∀ i, i < cap * 1 → FkOk w (([.S] : List Fk).getD (i % 1) .i) (V i)) :
    ∃ v E' s' l, Arg0 E' s' w ∧ E.le E' ∧ Fr s s' [] ∧ VR rho0 E' v (.slice a len cap) ∧ RdE s' v 1 encL l ∧ ∀ x ∈ l, RdE s' x.u 1 encB x.b ∧ ∀ y ∈ x.b, In8 y := by
  obtain ⟨v, E', s', l, h1, h2, h3, h4, h5, _, h6⟩ := h.recs (ks := [.S]) hq hk (by decide) encL (fun f => ⟨(f 0).u, (f 0).l⟩) encL_w (by
    intro s f hf j hj
    have hj : j < 1 := hj
    have k2 : ClOk s (f 0) .S := hf 0 (by decide)
    rcases j with _ | j
    · rw [k2.S.1]; rfl
    · omega)
  refine ⟨v, E', s', l, h1, h2, h3, h4, h5, fun x hx => ?_⟩
  obtain ⟨f, rfl, hf⟩ := h6 x hx
  have k2 : ClOk s' (f 0) .S := hf 0 (by decide)
  exact ⟨k2.S.2.1, k2.S.2.2⟩
/-- what is written of a number, bytes and one byte -/
def seg (c : Int) (p : Int × List Int) : List Int := putV p.1 ++ (putV p.2.length ++ p.2) ++ [c]
def ptsOf (l1 : List Int) (l2 : List A13) (k : Nat) : List (Int × List Int) := (List.range k).map fun i => (l1.getD i 0 % 1099511627776, ((l2.getD i ⟨.nils, []⟩).b).take 80)
theorem pts_succ (l1 : List Int) (l2 : List A13) (k : Nat) : ptsOf l1 l2 (k + 1) = ptsOf l1 l2 k ++ [(l1.getD k 0 % 1099511627776, ((l2.getD k ⟨.nils, []⟩).b).take 80)] := by
  unfold ptsOf; rw [List.range_succ, List.map_append]; rfl
theorem seg_len (c : Int) (p : Int × List Int) (h : p.2.length ≤ 80) : (seg c p).length ≤ 100 := by
  have h1 := putV_len p.1
  have h2 := putV_len (p.2.length : Int)
  have h3 : sizeV p.1 ≤ 8 := by rcases sizeV_in p.1 with h | h | h | h | h <;> omega
  have h4 : sizeV (p.2.length : Int) ≤ 8 := by rcases sizeV_in (p.2.length : Int) with h | h | h | h | h <;> omega
  unfold seg
  simp only [List.length_append, List.length_cons, List.length_nil]; omega
/-- a block that is set aside -/
def oT (b : Nat) : Obj := ⟨fun s fp => b < s.next ∧ fp = [b], fun {s s' fp fp'} h hf _ => ⟨Nat.lt_of_lt_of_le h.1 hf.1, h.2⟩, fun {s fp} h => by intro z hz; rw [h.2] at hz; simp at hz; subst hz; exact h.1⟩
theorem Sep.aside {s0 s : St} {Ps : List Obj} (h : Sep s0 s Ps) : Sep s0 (⟨s.heap, s.next + 1⟩ : St) (oT s.next :: Ps) :=
  h.push (P := oT s.next) (f := [s.next]) ⟨Nat.lt_succ_self _, rfl⟩ ⟨Nat.le_succ _, fun _ _ _ => rfl⟩ (Nw.one (Nat.le_refl _))
theorem Sep.fill {s0 s : St} {b : Nat} {Ps : List Obj} (h : Sep s0 s (oT b :: Ps)) (c : List AV) : Sep s0 (s.put b (some (.cells c .own))) (oC b c :: Ps) := by
  obtain ⟨f, ⟨h1, rfl⟩, up⟩ := h.hd
  exact up (oC b c) ⟨get_put_eq rfl, by rw [next_put]; exact h1, rfl⟩ (.put (.inl (by simp))) (fun z hz => .inl hz)
theorem rv_8 {a b c d e f g i : St} : [a, b, c, d, e, f, g, i].reverse = [i, g, f, e, d, c, b, a] := rfl
section
variable {bd : Bd} {fu : Nat}
theorem back_1 (n : Nat) (s0 s : St) (v1 v2 b : AV) (c : Int) (i N : Nat) (l1 : List Int) (l2 : List A13) (W : List Int) (z3 z5 z8 z9 z10 z11 z12 : Option AV) (hv1 : RdE s0 v1 1 Vm.encI l1) (hv2 : RdE s0 v2 1 encL l2) (h1 : ∀ x ∈ l1, In64 x) (h2 : ∀ x ∈ l2, RdE s0 x.u 1 encB x.b ∧ ∀ y ∈ x.b, In8 y)
    (hi1 : i < l1.length) (hi2 : i < l2.length) (hS : Sep s0 s [oW b 1 encB W]) (hW : W.length ≤ 1000) (hfu : 4000 < fu) :
    RsOk (exec bd (callF bd tab.get fu (n + 5)) fu vc7_0 [some v1, some v2, some (byt c), z3, some (num (i : Int)), z5, some b, some (num (N : Int)), z8, z9, z10, z11, z12, some (.bool false)] s)
      (fun e F s' => e = .normal ∧ ∃ b', F = [some v1, some v2, some (byt c), z3, some (num (i : Int)), z5, some b', some (num (N : Int)), z8, z9, z10, z11, z12, some (.bool false)] ∧ Sep s0 s' [oW b' 1 encB (W ++ seg c (l1.getD i 0 % 1099511627776, ((l2.getD i ⟨.nils, []⟩).b).take 80))]) := by
  obtain ⟨x, hx⟩ : ∃ x, l1[i]? = some x := ⟨_, List.getElem?_eq_getElem hi1⟩
  obtain ⟨y, hy⟩ : ∃ y, l2[i]? = some y := ⟨_, List.getElem?_eq_getElem hi2⟩
  have hgx : l1.getD i 0 = x := by rw [List.getD, hx]; rfl
  have hgy : l2.getD i ⟨.nils, []⟩ = y := by rw [List.getD, hy]; rfl
  rw [hgx, hgy]
  have k1 := hv1.fr0 hS.frm
  have e1 := k1.ia hx
  have e2 := k1.at1 (f := num) hx
  have hx64 := h1 x (List.mem_of_getElem? hx)
  obtain ⟨hyr, hy8⟩ := h2 y (List.mem_of_getElem? hy)
  have hS1 := hS.aside
  simp (disch := omega) only [vm0, vm1, vm2, vm3, vm4, vm5, vm6, vm7, fPick, fBox, fBuild, fBsl, fLd, fLda, fSt, fNilc, fBin, fEq, fUn, fMkf, fFa, fFld, fFlda, fExt, evo, wr, wrC, frame, Bool.not_true, Bool.not_false, beq_self_eq_true, List.cons_append, List.nil_append, Nat.add_zero, Nat.zero_add, Nat.reduceAdd, Nat.reduceMul, Nat.reduceSub, Bool.and_true, Bool.true_and, Bool.and_self, beq_dec, fApp, Int.toNat_natCast, Nat.sub_zero, vmI, vc7_0, e1, e2]
  generalize (⟨s.heap, s.next + 1⟩ : St) = s1 at *
  have k1 := hv1.fr0 hS1.frm
  have e2 := k1.at1 (f := num) hx
  generalize s.next = q at *
  refine call_ok rfl rfl (withinP (n + 4) s1 x 1099511627776 hx64 (by omega) (by omega)) ?_
  rintro z s2 ⟨rfl, rfl⟩
  obtain ⟨m, hm⟩ : ∃ m, x % 1099511627776 = m := ⟨_, rfl⟩
  rw [hm]
  simp (disch := omega) only [vm0, vm1, vm2, vm3, vm4, vm5, vm6, vm7, fPick, fBox, fBuild, fBsl, fLd, fLda, fSt, fNilc, fBin, fEq, fUn, fMkf, fFa, fFld, fFlda, fExt, evo, wr, wrC, frame, Bool.not_true, Bool.not_false, beq_self_eq_true, List.cons_append, List.nil_append, Nat.add_zero, Nat.zero_add, Nat.reduceAdd, Nat.reduceMul, Nat.reduceSub, Bool.and_true, Bool.true_and, Bool.and_self, beq_dec, fApp, Int.toNat_natCast, Nat.sub_zero, vmI, e2]
  refine call_ok rfl rfl (w_put (n + 3) s2 m ⟨by omega, by omega⟩ (by omega)) ?_
  rintro p s3 ⟨fp, q1, q2, q3⟩
  have e3 := (k1.fr0 q2).at1 (f := num) hx
  have hS2 := hS1.push (P := oW p 1 encB (putV m)) q1 q2 q3
  have k4 := q1.rd.lenOf
  have k5 := q1.rd.cellsOf
  have hpl := putV_len m
  have hsz : sizeV m ≤ 8 := by rcases sizeV_in m with h | h | h | h | h <;> omega
  have hL : (putV m).length ≤ 1048576 := by omega
  obtain ⟨fo, ho3, up⟩ := (((hS2.re ((List.perm_middle (l₁ := [_, _])).trans (.cons _ ((List.perm_middle (l₁ := [_])).trans (.cons _ (.refl _)))))))).hd
  simp (disch := omega) only [vm0, vm1, vm2, vm3, vm4, vm5, vm6, vm7, fPick, fBox, fBuild, fBsl, fLd, fLda, fSt, fNilc, fBin, fEq, fUn, fMkf, fFa, fFld, fFlda, fExt, evo, wr, wrC, frame, Bool.not_true, Bool.not_false, beq_self_eq_true, List.cons_append, List.nil_append, Nat.add_zero, Nat.zero_add, Nat.reduceAdd, Nat.reduceMul, Nat.reduceSub, Bool.and_true, Bool.true_and, Bool.and_self, beq_dec, fApp, Int.toNat_natCast, Nat.sub_zero, vmI, k4, k5, e3]
  refine op_app (show OwE s3 b 1 encB W fo from ho3) (by (repeat' (first | exact Fr.refl | assumption | apply Fr.new' | apply Fr.mk' | apply Fr.put')) <;> (first | omega | (left; simp; done) | (right; simp only [next_put, next_new, next_mk]; omega) | (simp only [next_put, next_new, next_mk]; omega))) (new := putV m) rfl rfl (by omega) ?_
  intro b2 s4 fp' r1 r2 r3
  have hS3 := up (oW b2 1 encB (W ++ putV m)) r1 r2 r3
  have kk1 := hv1.fr0 hS3.frm
  have e4 := kk1.at1 (f := num) hx
  have kk2 := hv2.fr0 hS3.frm
  have e5 := kk2.ia hy
  have e6 := kk2.fld0 hy (c := y.u) rfl
  simp (disch := omega) only [vm0, vm1, vm2, vm3, vm4, vm5, vm6, vm7, fPick, fBox, fBuild, fBsl, fLd, fLda, fSt, fNilc, fBin, fEq, fUn, fMkf, fFa, fFld, fFlda, fExt, evo, wr, wrC, frame, Bool.not_true, Bool.not_false, beq_self_eq_true, List.cons_append, List.nil_append, Nat.add_zero, Nat.zero_add, Nat.reduceAdd, Nat.reduceMul, Nat.reduceSub, Bool.and_true, Bool.true_and, Bool.and_self, beq_dec, fApp, Int.toNat_natCast, Nat.sub_zero, vmI, e4, e5, e6]
  refine call_ok rfl rfl (cutB (n + 3) s4 y.u y.b 80 (by omega) (by omega) (hyr.fr0 hS3.frm)) ?_
  rintro t s5 ⟨ft, c1, c2, c3⟩
  have ht80 : (y.b.take (80 : Int).toNat).length ≤ 80 := List.length_take_le _ _
  have hte : y.b.take (80 : Int).toNat = y.b.take 80 := rfl
  rw [hte] at c1 ht80
  generalize y.b.take 80 = T at *
  have e7 := (kk1.fr0 c2).at1 (f := num) hx
  have e8 := (kk2.fr0 c2).fld0 hy (c := y.u) rfl
  have hS5 := hS3.push (P := oW t 1 encB T) c1 c2 c3
  simp (disch := omega) only [vm0, vm1, vm2, vm3, vm4, vm5, vm6, vm7, fPick, fBox, fBuild, fBsl, fLd, fLda, fSt, fNilc, fBin, fEq, fUn, fMkf, fFa, fFld, fFlda, fExt, evo, wr, wrC, frame, Bool.not_true, Bool.not_false, beq_self_eq_true, List.cons_append, List.nil_append, Nat.add_zero, Nat.zero_add, Nat.reduceAdd, Nat.reduceMul, Nat.reduceSub, Bool.and_true, Bool.true_and, Bool.and_self, beq_dec, fApp, Int.toNat_natCast, Nat.sub_zero, vmI, e7, e8]
  refine call_ok rfl rfl (pack (n + 2) s5 t T c1.rd (by omega) (by omega)) ?_
  rintro g s6 ⟨fg, d1, d2, d3⟩
  have hS6 := hS5.push (P := oW g 1 encB (putV T.length ++ T)) d1 d2 d3
  have hpl2 := putV_len (T.length : Int)
  have hsz2 : sizeV (T.length : Int) ≤ 8 := by rcases sizeV_in (T.length : Int) with h | h | h | h | h <;> omega
  have hL2 : (putV (T.length : Int) ++ T).length ≤ 1048576 := by rw [List.length_append]; omega
  have k6 := d1.rd.lenOf
  have k7 := d1.rd.cellsOf
  have e9 := ((kk1.fr0 c2).fr0 d2).at1 (f := num) hx
  have e10 := ((kk2.fr0 c2).fr0 d2).fld0 hy (c := y.u) rfl
  obtain ⟨fo2, ho4, up2⟩ := (((hS6.re ((List.perm_middle (l₁ := [_, _])).trans (.cons _ (.refl _)))))).hd
  simp (disch := omega) only [vm0, vm1, vm2, vm3, vm4, vm5, vm6, vm7, fPick, fBox, fBuild, fBsl, fLd, fLda, fSt, fNilc, fBin, fEq, fUn, fMkf, fFa, fFld, fFlda, fExt, evo, wr, wrC, frame, Bool.not_true, Bool.not_false, beq_self_eq_true, List.cons_append, List.nil_append, Nat.add_zero, Nat.zero_add, Nat.reduceAdd, Nat.reduceMul, Nat.reduceSub, Bool.and_true, Bool.true_and, Bool.and_self, beq_dec, fApp, Int.toNat_natCast, Nat.sub_zero, vmI, k6, k7, e9, e10]
  refine op_app (show OwE s6 b2 1 encB (W ++ putV m) fo2 from ho4) (by (repeat' (first | exact Fr.refl | assumption | apply Fr.new' | apply Fr.mk' | apply Fr.put')) <;> (first | omega | (left; simp; done) | (right; simp only [next_put, next_new, next_mk]; omega) | (simp only [next_put, next_new, next_mk]; omega))) (new := putV T.length ++ T) rfl rfl (by simp only [List.length_append] at *; omega) ?_
  intro b3 s7 fp2 r4 r5 r6
  have hS7 := up2 (oW b3 1 encB (W ++ putV m ++ (putV T.length ++ T))) r4 r5 r6
  have e11 := (hv1.fr0 hS7.frm).at1 (f := num) hx
  have e12 := (hv2.fr0 hS7.frm).fld0 hy (c := y.u) rfl
  simp (disch := omega) only [vm0, vm1, vm2, vm3, vm4, vm5, vm6, vm7, fPick, fBox, fBuild, fBsl, fLd, fLda, fSt, fNilc, fBin, fEq, fUn, fMkf, fFa, fFld, fFlda, fExt, evo, wr, wrC, frame, Bool.not_true, Bool.not_false, beq_self_eq_true, List.cons_append, List.nil_append, Nat.add_zero, Nat.zero_add, Nat.reduceAdd, Nat.reduceMul, Nat.reduceSub, Bool.and_true, Bool.true_and, Bool.and_self, beq_dec, fApp, Int.toNat_natCast, Nat.sub_zero, vmI, e11, e12]
  have hS8 := (((hS7.re ((List.perm_middle (l₁ := [_, _, _])).trans (.cons _ (.refl _)))))).fill [byt c]
  have hf8 : Fr s7 (s7.put q (some (.cells [byt c] .own))) [q] := .put (.inl (by simp))
  have e13 := (hv2.fr0 hS8.frm).fld0 hy (c := y.u) rfl
  obtain ⟨fo3, ho5, up3⟩ := (((hS8.re ((List.perm_middle (l₁ := [_])).trans (.cons _ (.refl _)))))).hd
  refine op_app1 (show OwE (s7.put q (some (.cells [byt c] .own))) b3 1 encB (W ++ putV m ++ (putV T.length ++ T)) fo3 from ho5) (by (repeat' (first | exact Fr.refl | assumption | apply Fr.new' | apply Fr.mk' | apply Fr.put')) <;> (first | omega | (left; simp; done) | (right; simp only [next_put, next_new, next_mk]; omega) | (simp only [next_put, next_new, next_mk]; omega))) (x := c) rfl (by simp only [List.length_append] at *; omega) ?_
  intro b4 s8 fp3 r7 r8 r9
  have hS9 := up3 (oW b4 1 encB (W ++ putV m ++ (putV T.length ++ T) ++ [c])) r7 r8 r9
  have e14 := (hv2.fr0 hS9.frm).fld0 hy (c := y.u) rfl
  have e15 := (hv2.fr0 hS1.frm).fld0 hy (c := y.u) rfl
  have e16 := (hv2.fr0 hS2.frm).fld0 hy (c := y.u) rfl
  have hsm := sm_v hyr.rd.sl
  simp (disch := omega) only [vm0, vm1, vm2, vm3, vm4, vm5, vm6, vm7, fPick, fBox, fBuild, fBsl, fLd, fLda, fSt, fNilc, fBin, fEq, fUn, fMkf, fFa, fFld, fFlda, fExt, evo, wr, wrC, frame, Bool.not_true, Bool.not_false, beq_self_eq_true, List.cons_append, List.nil_append, Nat.add_zero, Nat.zero_add, Nat.reduceAdd, Nat.reduceMul, Nat.reduceSub, Bool.and_true, Bool.true_and, Bool.and_self, beq_dec, fApp, Int.toNat_natCast, Nat.sub_zero, vmI, rv_8, hsm, e6, e15, e16, e12, e13, e14]
  refine ⟨trivial, b4, rfl, ?_⟩
  have he : W ++ seg c (m, T) = W ++ putV m ++ (putV T.length ++ T) ++ [c] := by unfold seg; simp [List.append_assoc]
  rw [he]
  exact ((hS9.re ((List.perm_middle (l₁ := [_])).trans (.cons _ ((List.perm_middle (l₁ := [_])).trans (.cons _ ((List.perm_middle (l₁ := [_])).trans (.cons _ ((List.perm_middle (l₁ := [_])).trans (.cons _ (.refl _)))))))))).drop.drop.drop.drop)
end
end Go.Proofs.Ytekhpohcjfjhfab.ctr
namespace Go.Proofs.Ytekhpohcjfjhfab.ctr
open Go Go.Vm Go.RowKit
set_option linter.unusedVariables false
set_option linter.constructorNameAsVariable false
set_option linter.unusedSimpArgs false
/-! ## the reference's reader -/
section
variable {bd : Bd} {fu : Nat}
theorem x_num (n : Nat) {s0 : St} (s : St) (p : Nat) (r : RD) (Ps : List Obj) (hS : Sep s0 s (oR p r :: Ps)) (hr : r.Ok) (hfu : 10 < fu) : OutOk (callF bd tab.get fu (n + 4) 29 [.ptr p 0] s) (fun x s' => Is x (num r.num.1) ∧ Sep s0 s' (oR p r.num.2 :: Ps)) := by
  refine call_code t29 rfl ?_
  obtain ⟨f, ⟨v, fv, h1, h2, h3, rfl, h5⟩, up⟩ := hS.hd
  obtain ⟨B, a, bad⟩ := r
  obtain ⟨a1, a2, a3⟩ := hr
  dsimp only at h1 h2 a1 a2 a3
  obtain ⟨w, g1, kw⟩ := h2.rd.sliL (a := a) a1.1 a1.2
  have h8 : ∀ x ∈ B.drop a.toNat, In8 x := fun x hx => a2 x (List.mem_of_mem_drop hx)
  obtain ⟨t1, t2, t3, t4⟩ := takeV_bd h8
  simp (disch := omega) only [vm0, vm1, vm2, vm3, vm4, vm5, vm6, vm7, fPick, fBox, fBuild, fBsl, fLd, fLda, fSt, fNilc, fBin, fEq, fUn, fMkf, fFa, fFld, fFlda, fExt, evo, wr, wrC, frame, Bool.not_true, Bool.not_false, beq_self_eq_true, List.cons_append, List.nil_append, Nat.add_zero, Nat.zero_add, Nat.reduceAdd, Nat.reduceMul, Nat.reduceSub, Bool.and_true, Bool.true_and, Bool.and_self, beq_dec, fApp, Int.toNat_natCast, Nat.sub_zero, vmI, vc29, h1, g1]
  refine call_ok rfl rfl (w_take (n + 1) s w _ kw h8 (by simp; omega) hfu) ?_
  rintro y s2 ⟨rfl, rfl⟩
  have hput := IsRd.put h2 h3 h5 .refl
  have hsm := sm_v h2.rd.rd.sl
  unfold RD.num RD.take
  dsimp only
  rw [List.length_drop] at t4
  generalize takeV (B.drop a.toNat) = T at *
  obtain ⟨x, sz, ok⟩ := T
  dsimp only at t1 t2 t3 t4 ⊢
  cases bad
  · cases ok
    · rw [if_pos (.inr rfl)]
      simp (disch := omega) only [vm0, vm1, vm2, vm3, vm4, vm5, vm6, vm7, fPick, fBox, fBuild, fBsl, fLd, fLda, fSt, fNilc, fBin, fEq, fUn, fMkf, fFa, fFld, fFlda, fExt, evo, wr, wrC, frame, Bool.not_true, Bool.not_false, beq_self_eq_true, List.cons_append, List.nil_append, Nat.add_zero, Nat.zero_add, Nat.reduceAdd, Nat.reduceMul, Nat.reduceSub, Bool.and_true, Bool.true_and, Bool.and_self, beq_dec, fApp, Int.toNat_natCast, Nat.sub_zero, vmI, h1, g1, hsm]
      exact ⟨rfl, up (oR p _) (hput a true).1 (hput a true).2 (fun b hb => .inl hb)⟩
    · rw [if_neg (by simp)]
      simp (disch := omega) only [vm0, vm1, vm2, vm3, vm4, vm5, vm6, vm7, fPick, fBox, fBuild, fBsl, fLd, fLda, fSt, fNilc, fBin, fEq, fUn, fMkf, fFa, fFld, fFlda, fExt, evo, wr, wrC, frame, Bool.not_true, Bool.not_false, beq_self_eq_true, List.cons_append, List.nil_append, Nat.add_zero, Nat.zero_add, Nat.reduceAdd, Nat.reduceMul, Nat.reduceSub, Bool.and_true, Bool.true_and, Bool.and_self, beq_dec, fApp, Int.toNat_natCast, Nat.sub_zero, vmI, h1, g1, hsm]
      exact ⟨rfl, up (oR p _) (hput _ false).1 (hput _ false).2 (fun b hb => .inl hb)⟩
  · rw [if_pos (.inl rfl)]
    simp (disch := omega) only [vm0, vm1, vm2, vm3, vm4, vm5, vm6, vm7, fPick, fBox, fBuild, fBsl, fLd, fLda, fSt, fNilc, fBin, fEq, fUn, fMkf, fFa, fFld, fFlda, fExt, evo, wr, wrC, frame, Bool.not_true, Bool.not_false, beq_self_eq_true, List.cons_append, List.nil_append, Nat.add_zero, Nat.zero_add, Nat.reduceAdd, Nat.reduceMul, Nat.reduceSub, Bool.and_true, Bool.true_and, Bool.and_self, beq_dec, fApp, Int.toNat_natCast, Nat.sub_zero, vmI, h1, g1, hsm]
    exact ⟨rfl, up (oR p _) (hput a true).1 (hput a true).2 (fun b hb => .inl hb)⟩
theorem x_byte (n : Nat) {s0 : St} (s : St) (p : Nat) (r : RD) (Ps : List Obj) (hS : Sep s0 s (oR p r :: Ps)) (hr : r.Ok) : OutOk (callF bd tab.get fu (n + 2) 33 [.ptr p 0] s) (fun x s' => Is x (byt r.byte.1) ∧ Sep s0 s' (oR p r.byte.2 :: Ps)) := by
  refine call_code t33 rfl ?_
  have hS0 := hS
  obtain ⟨f, ⟨v, fv, h1, h2, h3, rfl, h5⟩, up⟩ := hS.hd
  obtain ⟨B, a, bad⟩ := r
  have hr0 := hr
  obtain ⟨a1, a2, a3⟩ := hr
  dsimp only at h1 h2 a1 a2 a3
  have hput := IsRd.put h2 h3 h5 .refl
  have hsm := sm_v h2.rd.rd.sl
  have e := h2.rd.lenV
  unfold RD.byte
  dsimp only
  cases bad
  · by_cases hz : a = B.length
    · rw [if_pos (.inr hz)]
      have hz2 : ¬ a < (B.length : Int) := by omega
      simp (disch := omega) only [vm0, vm1, vm2, vm3, vm4, vm5, vm6, vm7, fPick, fBox, fBuild, fBsl, fLd, fLda, fSt, fNilc, fBin, fEq, fUn, fMkf, fFa, fFld, fFlda, fExt, evo, wr, wrC, frame, Bool.not_true, Bool.not_false, beq_self_eq_true, List.cons_append, List.nil_append, Nat.add_zero, Nat.zero_add, Nat.reduceAdd, Nat.reduceMul, Nat.reduceSub, Bool.and_true, Bool.true_and, Bool.and_self, beq_dec, fApp, Int.toNat_natCast, Nat.sub_zero, vmI, vc33, h1, e, hsm, vmU]
      exact ⟨rfl, up (oR p _) (hput a true).1 (hput a true).2 (fun b hb => .inl hb)⟩
    · rw [if_neg (by simp [hz])]
      obtain ⟨c, hc⟩ : ∃ c, B[a.toNat]? = some c := ⟨_, List.getElem?_eq_getElem (by omega)⟩
      have e1 := h2.rd.ia hc
      have e2 := h2.rd.at1 (f := byt) hc
      have eb := h2.rd.blk' hc
      rw [Int.toNat_of_nonneg a1.1] at e1
      have hgd : B.getD a.toNat 0 = c := by rw [List.getD, hc]; rfl
      have hpb : sblk v ≠ p := by
        intro hp
        rcases h2.ow with ⟨rfl, h0, _⟩ | ⟨b, len, lo, ex, k, J, rfl, _, _, _, h5'⟩
        · have h9 := congrArg List.length h0
          rw [flat_len encB_w, List.length_nil, Nat.mul_one] at h9
          have := (List.getElem?_eq_some_iff.1 hc).1
          omega
        · have hp : b = p := hp
          subst hp
          exact h3 (by rcases h5' with ⟨_, rfl⟩ | ⟨m, _, _, rfl⟩ <;> simp)
      have ha1 : a + 1 - 1 = a := by omega
      rw [hgd]
      simp (disch := omega) only [vm0, vm1, vm2, vm3, vm4, vm5, vm6, vm7, fPick, fBox, fBuild, fBsl, fLd, fLda, fSt, fNilc, fBin, fEq, fUn, fMkf, fFa, fFld, fFlda, fExt, evo, wr, wrC, frame, Bool.not_true, Bool.not_false, beq_self_eq_true, List.cons_append, List.nil_append, Nat.add_zero, Nat.zero_add, Nat.reduceAdd, Nat.reduceMul, Nat.reduceSub, Bool.and_true, Bool.true_and, Bool.and_self, beq_dec, fApp, Int.toNat_natCast, Nat.sub_zero, vmI, vc33, h1, e, hsm, e1, e2, ha1, vmU]
      exact ⟨rfl, up (oR p _) (hput _ false).1 (hput _ false).2 (fun b hb => .inl hb)⟩
  · rw [if_pos (.inl rfl)]
    simp (disch := omega) only [vm0, vm1, vm2, vm3, vm4, vm5, vm6, vm7, fPick, fBox, fBuild, fBsl, fLd, fLda, fSt, fNilc, fBin, fEq, fUn, fMkf, fFa, fFld, fFlda, fExt, evo, wr, wrC, frame, Bool.not_true, Bool.not_false, beq_self_eq_true, List.cons_append, List.nil_append, Nat.add_zero, Nat.zero_add, Nat.reduceAdd, Nat.reduceMul, Nat.reduceSub, Bool.and_true, Bool.true_and, Bool.and_self, beq_dec, fApp, Int.toNat_natCast, Nat.sub_zero, vmI, vc33, h1, e, hsm, vmU]
    exact ⟨rfl, up (oR p _) (hput a true).1 (hput a true).2 (fun b hb => .inl hb)⟩
set_option maxHeartbeats 1000000 in
theorem x_bytes (n : Nat) {s0 : St} (s : St) (p : Nat) (r : RD) (most : Int) (Ps : List Obj) (hS : Sep s0 s (oR p r :: Ps)) (hr : r.Ok) (hm : most ≤ 1000000000) (hfu : 10 < fu) : OutOk (callF bd tab.get fu (n + 4) 31 [.ptr p 0, num most] s) (fun x s' => Sep s0 s' (oW x 1 encB (r.bytes most).1 :: oR p (r.bytes most).2 :: Ps)) := by
  refine call_code t31 rfl ?_
  have hS0 := hS
  obtain ⟨f, ⟨v, fv, h1, h2, h3, rfl, h5⟩, up⟩ := hS.hdw
  obtain ⟨B, a, bad⟩ := r
  have hr0 := hr
  obtain ⟨a1, a2, a3⟩ := hr
  dsimp only at h1 h2 a1 a2 a3
  obtain ⟨w, g1, kw⟩ := h2.rd.sliL (a := a) a1.1 a1.2
  have h8 : ∀ x ∈ B.drop a.toNat, In8 x := fun x hx => a2 x (List.mem_of_mem_drop hx)
  obtain ⟨t1, t2, t3, t4⟩ := takeV_bd h8
  have hsm := sm_v h2.rd.rd.sl
  have e := h2.rd.lenV
  simp (disch := omega) only [vm0, vm1, vm2, vm3, vm4, vm5, vm6, vm7, fPick, fBox, fBuild, fBsl, fLd, fLda, fSt, fNilc, fBin, fEq, fUn, fMkf, fFa, fFld, fFlda, fExt, evo, wr, wrC, frame, Bool.not_true, Bool.not_false, beq_self_eq_true, List.cons_append, List.nil_append, Nat.add_zero, Nat.zero_add, Nat.reduceAdd, Nat.reduceMul, Nat.reduceSub, Bool.and_true, Bool.true_and, Bool.and_self, beq_dec, fApp, Int.toNat_natCast, Nat.sub_zero, vmI, vc31, h1, g1]
  refine call_ok rfl rfl (w_take (n + 1) s w _ kw h8 (by simp; omega) hfu) ?_
  rintro y s2 ⟨rfl, rfl⟩
  have hput := IsRd.put h2 h3 h5 .refl
  unfold RD.bytes RD.take
  dsimp only
  rw [List.length_drop] at t4
  generalize takeV (B.drop a.toNat) = T at *
  obtain ⟨x, sz, ok⟩ := T
  dsimp only at t1 t2 t3 t4 ⊢
  have fail : Sep s0 (s2.put p (some (.cells [v, num a, .bool true] .own))) (oW .nils 1 encB ([] : List Int) :: oR p ⟨B, a, true⟩ :: Ps) :=
    up (oR p _) (oW .nils 1 encB _) (hput a true).1 (OwE.nil encB_w (by omega)) (hput a true).2 (by simp [Nw])
  cases bad
  · cases ok
    · rw [if_pos (.inr (.inl rfl))]
      simp (disch := omega) only [vm0, vm1, vm2, vm3, vm4, vm5, vm6, vm7, fPick, fBox, fBuild, fBsl, fLd, fLda, fSt, fNilc, fBin, fEq, fUn, fMkf, fFa, fFld, fFlda, fExt, evo, wr, wrC, frame, Bool.not_true, Bool.not_false, beq_self_eq_true, List.cons_append, List.nil_append, Nat.add_zero, Nat.zero_add, Nat.reduceAdd, Nat.reduceMul, Nat.reduceSub, Bool.and_true, Bool.true_and, Bool.and_self, beq_dec, fApp, Int.toNat_natCast, Nat.sub_zero, vmI, h1, g1, hsm, e, vmU]
      exact fail
    · by_cases c1 : most < x
      · rw [if_pos (.inr (.inr (.inl c1)))]
        simp (disch := omega) only [vm0, vm1, vm2, vm3, vm4, vm5, vm6, vm7, fPick, fBox, fBuild, fBsl, fLd, fLda, fSt, fNilc, fBin, fEq, fUn, fMkf, fFa, fFld, fFlda, fExt, evo, wr, wrC, frame, Bool.not_true, Bool.not_false, beq_self_eq_true, List.cons_append, List.nil_append, Nat.add_zero, Nat.zero_add, Nat.reduceAdd, Nat.reduceMul, Nat.reduceSub, Bool.and_true, Bool.true_and, Bool.and_self, beq_dec, fApp, Int.toNat_natCast, Nat.sub_zero, vmI, h1, g1, hsm, e, vmU]
        exact fail
      · by_cases c2 : (B.length : Int) - a - sz < x
        · rw [if_pos (.inr (.inr (.inr c2)))]
          simp (disch := omega) only [vm0, vm1, vm2, vm3, vm4, vm5, vm6, vm7, fPick, fBox, fBuild, fBsl, fLd, fLda, fSt, fNilc, fBin, fEq, fUn, fMkf, fFa, fFld, fFlda, fExt, evo, wr, wrC, frame, Bool.not_true, Bool.not_false, beq_self_eq_true, List.cons_append, List.nil_append, Nat.add_zero, Nat.zero_add, Nat.reduceAdd, Nat.reduceMul, Nat.reduceSub, Bool.and_true, Bool.true_and, Bool.and_self, beq_dec, fApp, Int.toNat_natCast, Nat.sub_zero, vmI, h1, g1, hsm, e, vmU]
          exact fail
        · rw [if_neg (by simp [c1, c2])]
          obtain ⟨u, g2, ku⟩ := h2.rd.sli' (a := a + sz) (b := a + sz + x) (by omega) (by omega) (by omega)
          have k1 := ku.lenOf
          have k2 := ku.cellsOf
          have hul := ku.len
          have hul2 : ((B.take (a + sz + x).toNat).drop (a + sz).toNat).length ≤ B.length := by simp; omega
          simp (disch := omega) only [vm0, vm1, vm2, vm3, vm4, vm5, vm6, vm7, fPick, fBox, fBuild, fBsl, fLd, fLda, fSt, fNilc, fBin, fEq, fUn, fMkf, fFa, fFld, fFlda, fExt, evo, wr, wrC, frame, Bool.not_true, Bool.not_false, beq_self_eq_true, List.cons_append, List.nil_append, Nat.add_zero, Nat.zero_add, Nat.reduceAdd, Nat.reduceMul, Nat.reduceSub, Bool.and_true, Bool.true_and, Bool.and_self, beq_dec, fApp, Int.toNat_natCast, Nat.sub_zero, vmI, h1, g1, g2, hsm, e, vmU, k1, k2]
          refine op_app (OwE.nil (s := s2) encB_w (by omega)) .refl (new := (B.take (a + sz + x).toNat).drop (a + sz).toNat) rfl rfl (by simp only [List.length_nil]; omega) ?_
          intro y s3 fo ho hf hn
          have h1n := (hf.get h5 (by simp)).trans h1
          have hpo : p ∉ fo := fun hm => by have := hn p hm; simp at this; omega
          have hax : a + (sz + x) = a + sz + x := by omega
          simp (disch := omega) only [vm0, vm1, vm2, vm3, vm4, vm5, vm6, vm7, fPick, fBox, fBuild, fBsl, fLd, fLda, fSt, fNilc, fBin, fEq, fUn, fMkf, fFa, fFld, fFlda, fExt, evo, wr, wrC, frame, Bool.not_true, Bool.not_false, beq_self_eq_true, List.cons_append, List.nil_append, Nat.add_zero, Nat.zero_add, Nat.reduceAdd, Nat.reduceMul, Nat.reduceSub, Bool.and_true, Bool.true_and, Bool.and_self, beq_dec, fApp, Int.toNat_natCast, Nat.sub_zero, vmI, h1, h1n, g1, g2, hsm, e, hax]
          refine up (oR p ⟨B, a + sz + x, false⟩) (oW y 1 encB _) (IsRd.put h2 h3 h5 hf (a + sz + x) false).1 ?_ (IsRd.put h2 h3 h5 hf (a + sz + x) false).2 hn
          rw [List.nil_append] at ho
          exact ho.fr (fp' := [p]) (.put (.inl (by simp))) (by rintro z hz hm; simp at hm; subst hm; exact hpo hz)
  · rw [if_pos (.inl rfl)]
    simp (disch := omega) only [vm0, vm1, vm2, vm3, vm4, vm5, vm6, vm7, fPick, fBox, fBuild, fBsl, fLd, fLda, fSt, fNilc, fBin, fEq, fUn, fMkf, fFa, fFld, fFlda, fExt, evo, wr, wrC, frame, Bool.not_true, Bool.not_false, beq_self_eq_true, List.cons_append, List.nil_append, Nat.add_zero, Nat.zero_add, Nat.reduceAdd, Nat.reduceMul, Nat.reduceSub, Bool.and_true, Bool.true_and, Bool.and_self, beq_dec, fApp, Int.toNat_natCast, Nat.sub_zero, vmI, h1, g1, hsm, e, vmU]
    exact fail
end
end Go.Proofs.Ytekhpohcjfjhfab.ctr
