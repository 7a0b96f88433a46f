/- Packets and events as bytes. -/
import Derived.Test.YtgckbcljlkkceaaCyEa
namespace Go.Proofs.Ytgckbcljlkkceaa.ctr
open Go Go.Vm Go.RowKit
set_option linter.unusedVariables false
set_option linter.constructorNameAsVariable false
set_option linter.unusedSimpArgs false
/-- a packet's bytes -/
def PkV.tail (p : PkV) : List Int := if p.k = 2 then putV p.of_ else if p.k = 3 then putV p.fr ++ (putV p.d.length ++ p.d) ++ [if p.fin then 1 else 0] else if p.k = 4 then putV p.of_ ++ putV p.se ++ putV p.li else []
def PkV.bytes (p : PkV) : List Int := [p.k % 256] ++ putV p.pt ++ putV p.nr ++ p.tail
/-- an event's bytes -/
def EvV.tail (e : EvV) : List Int := if e.k = 1 ∨ e.k = 2 then putV e.d.length ++ e.d else if e.k = 3 ∨ e.k = 7 ∨ e.k = 8 then putV e.n else if e.k = 4 ∨ e.k = 5 then e.p.bytes else []
def EvV.bytes (e : EvV) : List Int := [e.k % 256] ++ e.tail
theorem putV_le (n : Int) : (putV n).length ≤ 8 := by
  have h := putV_len n
  rcases sizeV_in n with h1 | h1 | h1 | h1 | h1 <;> omega
theorem PkV.bytes_len (p : PkV) : p.bytes.length ≤ p.d.length + 60 := by
  have h1 := putV_le p.pt
  have h2 := putV_le p.nr
  have h3 := putV_le p.of_
  have h4 := putV_le p.fr
  have h5 := putV_le p.se
  have h6 := putV_le p.li
  have h7 := putV_le (p.d.length : Int)
  unfold PkV.bytes PkV.tail
  repeat' split
  all_goals simp only [List.length_append, List.length_cons, List.length_nil]; omega
theorem EvV.bytes_len (e : EvV) : e.bytes.length ≤ e.d.length + e.p.d.length + 70 := by
  have h1 := putV_le (e.d.length : Int)
  have h2 := putV_le e.n
  have h3 := e.p.bytes_len
  unfold EvV.bytes EvV.tail
  repeat' split
  all_goals simp only [List.length_append, List.length_cons, List.length_nil]; omega
theorem PkV.bytes_in {p : PkV} (h8 : ∀ x ∈ p.d, In8 x) : ∀ x ∈ p.bytes, In8 x := by
  have hk : In8 (p.k % 256) := ⟨by omega, by omega⟩
  have h0 : ∀ x ∈ ([p.k % 256] : List Int), In8 x := by intro x hx; simp at hx; subst hx; exact hk
  have hf : ∀ x ∈ ([if p.fin then 1 else 0] : List Int), In8 x := by intro x hx; simp at hx; subst hx; unfold In8; split <;> omega
  have ap : ∀ {a b : List Int}, (∀ x ∈ a, In8 x) → (∀ x ∈ b, In8 x) → ∀ x ∈ a ++ b, In8 x := fun ha hb x hx => (List.mem_append.1 hx).elim (ha x) (hb x)
  unfold PkV.bytes
  refine ap (ap (ap h0 (putV_in _)) (putV_in _)) ?_
  unfold PkV.tail
  by_cases h2 : p.k = 2
  · rw [if_pos h2]; exact putV_in _
  · rw [if_neg h2]
    by_cases h3 : p.k = 3
    · rw [if_pos h3]; exact ap (ap (putV_in _) (ap (putV_in _) h8)) hf
    · rw [if_neg h3]
      by_cases h4 : p.k = 4
      · rw [if_pos h4]; exact ap (ap (putV_in _) (putV_in _)) (putV_in _)
      · rw [if_neg h4]; simp
end Go.Proofs.Ytgckbcljlkkceaa.ctr
namespace Go.Proofs.Ytgckbcljlkkceaa.ctr
open Go Go.Vm Go.RowKit
set_option linter.unusedVariables false
set_option linter.constructorNameAsVariable false
set_option linter.unusedSimpArgs false
/-- a block that is set aside -/
def oT (b : Nat) : Obj := ⟨fun s fp => b < s.next ∧ fp = [b], fun {s s' fp fp'} h hf _ => ⟨Nat.lt_of_lt_of_le h.1 hf.1, h.2⟩, fun {s fp} h => by intro z hz; rw [h.2] at hz; simp at hz; subst hz; exact h.1⟩
def oB (b : Nat) (cs : List AV) : Obj := ⟨fun s fp => s.heap.get b = some (.cells cs .own) ∧ b < s.next ∧ fp = [b], fun {s s' fp fp'} ⟨h1, h2, h3⟩ hf hd => ⟨(hf.2 b h2 (hd b (by rw [h3]; simp))).trans h1, Nat.lt_of_lt_of_le h2 hf.1, h3⟩, fun {s fp} ⟨h1, h2, h3⟩ => by intro b' hb; rw [h3] at hb; simp at hb; subst hb; exact h2⟩
theorem Sep.fillT {s0 s : St} {b : Nat} {Ps : List Obj} (h : Sep s0 s (oT b :: Ps)) (c : Int) : Sep s0 (s.put b (some (.cells [byt c] .own))) (oW (.sl b 0 1 1 true 1) 1 encB [c] :: Ps) := by
  obtain ⟨f, ⟨h1, rfl⟩, up⟩ := h.hd
  exact up (oW (.sl b 0 1 1 true 1) 1 encB [c]) (f' := [b]) ⟨.inr ⟨b, 1, 1, true, .own, [], rfl, Nat.le_refl _, rfl, get_put_eq rfl, .inl ⟨rfl, rfl⟩⟩, fun _ => rfl, by omega, fun z hz => by simp at hz; subst hz; rw [next_put]; exact h1⟩ (.put (.inl (by simp))) (fun z hz => .inl hz)
section
variable {bd : Bd} {fu : Nat}
theorem u_plain0 (n : Nat) (s : St) (p : PkV) (u : AV) (hu : RdE s u 1 encB p.d) (hl : p.d.length ≤ 1000000) (hr : p.right = false) (hfu : 10 < fu) :
    OutOk (callF bd tab.get fu (n + 4) 55 [.agg (p.cs u)] s) (fun x s' => Is x (.tup [.nils, .bool false]) ∧ Fr s s' []) := by
  refine call_code t55 rfl ?_
  have hf : Fr s (s.new (.cells (p.cs u) .own)) [] := .new
  have g1 : (s.new (.cells (p.cs u) .own)).heap.get s.next = some (.cells (p.cs u) .own) := get_new_eq rfl
  have hur := u_right (bd := bd)  (fu := fu) (n + 1) (s.new (.cells (p.cs u) .own)) p u (hu.fr0 hf) hl
  rw [hr] at hur
  dsimp only [PkV.cs] at hf g1 hur ⊢
  simp (disch := omega) only [vm0, vm1, vm2, vm3, vm4, vm5, vm6, vm7, vmF, vmT, evo, wr, wrC, frame, Nat.reduceAdd, Nat.reduceMul, Nat.reduceSub, beq_self_eq_true, List.cons_append, List.nil_append, beq_dec, vmI, vc55]
  refine call_ok rfl rfl hur ?_
  rintro y s2 ⟨rfl, hf2⟩
  simp (disch := omega) only [vm0, vm1, vm2, vm3, vm4, vm5, vm6, vm7, vmF, vmT, evo, wr, wrC, frame, Nat.reduceAdd, Nat.reduceMul, Nat.reduceSub, beq_self_eq_true, List.cons_append, List.nil_append, beq_dec, vmI]
  exact ⟨rfl, hf.trans hf2 (fp2 := []) (by simp) (by simp)⟩
set_option maxHeartbeats 2000000 in
theorem u_plain1 (n : Nat) (s : St) (p : PkV) (u : AV) (hu : RdE s u 1 encB p.d) (hl : p.d.length ≤ 1000000) (hr : p.right = true) (hk : 1 ≤ p.k ∧ p.k ≤ 4) (hpt : In64 p.pt) (hnr : In64 p.nr) (hof : In64 p.of_) (hfr : In64 p.fr) (hse : In64 p.se) (hli : In64 p.li) (hfu : 10 < fu) :
    OutOk (callF bd tab.get fu (n + 4) 55 [.agg (p.cs u)] s) (fun x s' => ∃ v, Is x (.tup [v, .bool true]) ∧ Sep s s' [oW v 1 encB p.bytes]) := by
  refine call_code t55 rfl ?_
  have hf : Fr s (s.new (.cells (p.cs u) .own)) [] := .new
  have g1 : (s.new (.cells (p.cs u) .own)).heap.get s.next = some (.cells (p.cs u) .own) := get_new_eq rfl
  have hur := u_right (bd := bd)  (fu := fu) (n + 1) (s.new (.cells (p.cs u) .own)) p u (hu.fr0 hf) hl
  rw [hr] at hur
  have hS := Sep.push (Sep.nil (s := s)) (P := oB s.next (p.cs u)) (s' := s.new (.cells (p.cs u) .own)) (f := [s.next]) ⟨g1, by rw [next_new]; omega, rfl⟩ .new (by intro z hz; simp at hz; right; omega)
  obtain ⟨k, pt, nr, of_, fr, d, fin, se, li⟩ := p
  dsimp only [PkV.cs] at *
  simp (disch := omega) only [vm0, vm1, vm2, vm3, vm4, vm5, vm6, vm7, vmF, vmT, evo, wr, wrC, frame, Nat.reduceAdd, Nat.reduceMul, Nat.reduceSub, beq_self_eq_true, List.cons_append, List.nil_append, beq_dec, vmI, vc55]
  refine call_ok rfl rfl hur ?_
  rintro y s2 ⟨rfl, hf2⟩
  have hS2 := hS.fr hf2
  generalize s.next = b at *
  obtain ⟨_, ⟨g2, hb2, _⟩, _⟩ := hS2.hd
  have hS3 := hS2.push (P := oT s2.next) (s' := ⟨s2.heap, s2.next + 1⟩) (f := [s2.next]) ⟨Nat.lt_succ_self _, rfl⟩ ⟨Nat.le_succ _, fun _ _ _ => rfl⟩ (by intro z hz; simp at hz; right; omega)
  have hk8 : k % 256 = k := by omega
  obtain ⟨q, hq⟩ : ∃ q, q = s2.next := ⟨_, rfl⟩
  simp (disch := omega) only [vm0, vm1, vm2, vm3, vm4, vm5, vm6, vm7, vmF, vmT, evo, wr, wrC, frame, Nat.reduceAdd, Nat.reduceMul, Nat.reduceSub, beq_self_eq_true, List.cons_append, List.nil_append, beq_dec, vmI, g2, f_cvi, cvi_c, cvi8, hk8]
  generalize (⟨s2.heap, s2.next + 1⟩ : St) = s3 at *
  rw [← hq] at *
  have g3 := (Sep.hd (((hS3.re ((List.perm_middle (l₁ := [_])).trans (.cons _ (.refl _)))))))
  obtain ⟨_, ⟨g3, _, _⟩, _⟩ := g3
  refine call_ok rfl rfl (w_put (n + 1) s3 pt hpt hfu) ?_
  rintro x s4 ⟨f1, q1, q2, q3⟩
  have hS4 := hS3.push (P := oW x 1 encB (putV pt)) q1 q2 q3
  obtain ⟨_, ⟨g4, _, _⟩, _⟩ := Sep.hd (((hS4.re ((List.perm_middle (l₁ := [_, _])).trans (.cons _ (.refl _))))))
  have hS5 := Sep.fillT (((hS4.re ((List.perm_middle (l₁ := [_])).trans (.cons _ (.refl _)))))) k
  have hx5 := Sep.rdW (((hS5.re ((List.perm_middle (l₁ := [_])).trans (.cons _ (.refl _))))))
  have k1 := hx5.lenOf
  have k2 := hx5.cellsOf
  have g5 := (Sep.hd (((hS5.re ((List.perm_middle (l₁ := [_, _])).trans (.cons _ (.refl _)))))))
  obtain ⟨_, ⟨g5, _, _⟩, _⟩ := g5
  have hp8 := putV_le pt
  obtain ⟨fo, ho, up⟩ := hS5.hd
  simp (disch := omega) only [vm0, vm1, vm2, vm3, vm4, vm5, vm6, vm7, vmF, vmT, evo, wr, wrC, frame, Nat.reduceAdd, Nat.reduceMul, Nat.reduceSub, beq_self_eq_true, List.cons_append, List.nil_append, beq_dec, vmI, g2, g3, g4, k1, k2]
  refine op_app (show OwE (s4.put q (some (.cells [byt k] .own))) (.sl q 0 1 1 true 1) 1 encB [k] fo from ho) .refl (new := putV pt) rfl rfl (by simp only [List.length_cons, List.length_nil]; omega) ?_
  intro v1 s6 f6 r1 r2 r3
  have hS6 := up (oW v1 1 encB ([k] ++ putV pt)) r1 r2 r3
  obtain ⟨_, ⟨g6, _, _⟩, _⟩ := Sep.hd (((hS6.re ((List.perm_middle (l₁ := [_, _])).trans (.cons _ (.refl _))))))
  simp (disch := omega) only [vm0, vm1, vm2, vm3, vm4, vm5, vm6, vm7, vmF, vmT, evo, wr, wrC, frame, Nat.reduceAdd, Nat.reduceMul, Nat.reduceSub, beq_self_eq_true, List.cons_append, List.nil_append, beq_dec, vmI, g2, g3, g4, g5, g6]
  refine call_ok rfl rfl (w_put (n + 1) s6 nr hnr hfu) ?_
  rintro y s7 ⟨f7, d1, d2, d3⟩
  have hS7 := hS6.push (P := oW y 1 encB (putV nr)) d1 d2 d3
  obtain ⟨_, ⟨g7, _, _⟩, _⟩ := Sep.hd (((hS7.re ((List.perm_middle (l₁ := [_, _, _])).trans (.cons _ (.refl _))))))
  have k3 := d1.rd.lenOf
  have k4 := d1.rd.cellsOf
  have hn8 := putV_le nr
  obtain ⟨fo2, ho2, up2⟩ := Sep.hd (((hS7.re ((List.perm_middle (l₁ := [_])).trans (.cons _ (.refl _))))))
  simp (disch := omega) only [vm0, vm1, vm2, vm3, vm4, vm5, vm6, vm7, vmF, vmT, evo, wr, wrC, frame, Nat.reduceAdd, Nat.reduceMul, Nat.reduceSub, beq_self_eq_true, List.cons_append, List.nil_append, beq_dec, vmI, g2, g3, g4, g5, g6, g7, k3, k4]
  refine op_app (show OwE s7 v1 1 encB ([k] ++ putV pt) fo2 from ho2) .refl (new := putV nr) rfl rfl (by simp only [List.length_append, List.length_cons, List.length_nil]; omega) ?_
  intro v2 s8 f8 r4 r5 r6
  have hS8 := up2 (oW v2 1 encB ([k] ++ putV pt ++ putV nr)) r4 r5 r6
  obtain ⟨_, ⟨g8, _, _⟩, _⟩ := Sep.hd (((hS8.re ((List.perm_middle (l₁ := [_, _, _])).trans (.cons _ (.refl _))))))
  simp (disch := omega) only [vm0, vm1, vm2, vm3, vm4, vm5, vm6, vm7, vmF, vmT, evo, wr, wrC, frame, Nat.reduceAdd, Nat.reduceMul, Nat.reduceSub, beq_self_eq_true, List.cons_append, List.nil_append, beq_dec, vmI, g2, g3, g4, g5, g6, g7, g8]
  have hW : ([k] ++ putV pt ++ putV nr : List Int).length ≤ 17 := by simp only [List.length_append, List.length_cons, List.length_nil]; omega
  have hbt : ∀ t, PkV.tail ⟨k, pt, nr, of_, fr, d, fin, se, li⟩ = t → PkV.bytes ⟨k, pt, nr, of_, fr, d, fin, se, li⟩ = [k] ++ putV pt ++ putV nr ++ t := fun t h => by unfold PkV.bytes; dsimp only; rw [h, hk8]
  generalize [k] ++ putV pt ++ putV nr = W at *
  have hS9 := (((hS8.re ((List.perm_middle (l₁ := [_])).trans (.cons _ ((List.perm_middle (l₁ := [_])).trans (.cons _ (.refl _)))))).drop.drop))
  rcases (show k = 1 ∨ k = 2 ∨ k = 3 ∨ k = 4 by omega) with rfl | rfl | rfl | rfl
  · simp (disch := omega) only [vm0, vm1, vm2, vm3, vm4, vm5, vm6, vm7, vmF, vmT, evo, wr, wrC, frame, Nat.reduceAdd, Nat.reduceMul, Nat.reduceSub, beq_self_eq_true, List.cons_append, List.nil_append, beq_dec, vmI]
    rw [hbt [] (by simp [PkV.tail]), List.append_nil]
    exact ⟨v2, rfl, ((hS9.re ((List.perm_middle (l₁ := [_])).trans (.cons _ (.refl _)))).drop)⟩
  · simp (disch := omega) only [vm0, vm1, vm2, vm3, vm4, vm5, vm6, vm7, vmF, vmT, evo, wr, wrC, frame, Nat.reduceAdd, Nat.reduceMul, Nat.reduceSub, beq_self_eq_true, List.cons_append, List.nil_append, beq_dec, vmI, g8]
    refine call_ok rfl rfl (w_put (n + 1) s8 of_ hof hfu) ?_
    rintro z s9 ⟨f9, e1, e2, e3⟩
    have hS10 := hS9.push (P := oW z 1 encB (putV of_)) e1 e2 e3
    have k5 := e1.rd.lenOf
    have k6 := e1.rd.cellsOf
    have ho8 := putV_le of_
    obtain ⟨fo3, ho3, up3⟩ := Sep.hd (((hS10.re ((List.perm_middle (l₁ := [_])).trans (.cons _ (.refl _))))))
    simp (disch := omega) only [vm0, vm1, vm2, vm3, vm4, vm5, vm6, vm7, vmF, vmT, evo, wr, wrC, frame, Nat.reduceAdd, Nat.reduceMul, Nat.reduceSub, beq_self_eq_true, List.cons_append, List.nil_append, beq_dec, vmI, k5, k6]
    refine op_app (show OwE s9 v2 1 encB W fo3 from ho3) .refl (new := putV of_) rfl rfl (by omega) ?_
    intro v3 s10 f10 r7 r8 r9
    have hS11 := up3 (oW v3 1 encB (W ++ putV of_)) r7 r8 r9
    simp (disch := omega) only [vm0, vm1, vm2, vm3, vm4, vm5, vm6, vm7, vmF, vmT, evo, wr, wrC, frame, Nat.reduceAdd, Nat.reduceMul, Nat.reduceSub, beq_self_eq_true, List.cons_append, List.nil_append, beq_dec, vmI]
    rw [hbt (putV of_) (by simp [PkV.tail])]
    exact ⟨v3, rfl, ((hS11.re ((List.perm_middle (l₁ := [_])).trans (.cons _ ((List.perm_middle (l₁ := [_])).trans (.cons _ (.refl _)))))).drop.drop)⟩
  · have hS9b := hS9.push (P := oT s8.next) (s' := ⟨s8.heap, s8.next + 1⟩) (f := [s8.next]) ⟨Nat.lt_succ_self _, rfl⟩ ⟨Nat.le_succ _, fun _ _ _ => rfl⟩ (by intro z hz; simp at hz; right; omega)
    obtain ⟨q2', hq2'⟩ : ∃ q2', q2' = s8.next := ⟨_, rfl⟩
    obtain ⟨c, hc⟩ : ∃ c : Int, c = (if fin = true then 1 else 0) := ⟨_, rfl⟩
    have huS := hu
    cases fin
    all_goals
      simp (disch := omega) only [vm0, vm1, vm2, vm3, vm4, vm5, vm6, vm7, vmF, vmT, evo, wr, wrC, frame, Nat.reduceAdd, Nat.reduceMul, Nat.reduceSub, beq_self_eq_true, List.cons_append, List.nil_append, beq_dec, vmI, g8]
      generalize (⟨s8.heap, s8.next + 1⟩ : St) = s8b at *
      rw [← hq2'] at *
      obtain ⟨_, ⟨g8b, _, _⟩, _⟩ := Sep.hd (((hS9b.re ((List.perm_middle (l₁ := [_, _])).trans (.cons _ (.refl _))))))
      refine call_ok rfl rfl (w_put (n + 1) s8b fr hfr hfu) ?_
      rintro z s9 ⟨f9, e1, e2, e3⟩
      have hS10 := hS9b.push (P := oW z 1 encB (putV fr)) e1 e2 e3
      have k5 := e1.rd.lenOf
      have k6 := e1.rd.cellsOf
      have ho8 := putV_le fr
      obtain ⟨_, ⟨g9, _, _⟩, _⟩ := Sep.hd (((hS10.re ((List.perm_middle (l₁ := [_, _, _])).trans (.cons _ (.refl _))))))
      obtain ⟨fo3, ho3, up3⟩ := Sep.hd (((hS10.re ((List.perm_middle (l₁ := [_, _])).trans (.cons _ (.refl _))))))
      simp (disch := omega) only [vm0, vm1, vm2, vm3, vm4, vm5, vm6, vm7, vmF, vmT, evo, wr, wrC, frame, Nat.reduceAdd, Nat.reduceMul, Nat.reduceSub, beq_self_eq_true, List.cons_append, List.nil_append, beq_dec, vmI, g8, g8b, g9, k5, k6]
      refine op_app (show OwE s9 v2 1 encB W fo3 from ho3) .refl (new := putV fr) rfl rfl (by omega) ?_
      intro v3 s10 f10 r7 r8 r9
      have hS11a := up3 (oW v3 1 encB (W ++ putV fr)) r7 r8 r9
      have hS11 := ((hS11a.re ((List.perm_middle (l₁ := [_])).trans (.cons _ (.refl _)))).drop)
      obtain ⟨_, ⟨g10, _, _⟩, _⟩ := Sep.hd (((hS11.re ((List.perm_middle (l₁ := [_, _])).trans (.cons _ (.refl _))))))
      have hl1 : (W ++ putV fr).length ≤ 25 := by rw [List.length_append]; omega
      simp (disch := omega) only [vm0, vm1, vm2, vm3, vm4, vm5, vm6, vm7, vmF, vmT, evo, wr, wrC, frame, Nat.reduceAdd, Nat.reduceMul, Nat.reduceSub, beq_self_eq_true, List.cons_append, List.nil_append, beq_dec, vmI, g8, g8b, g9, g10]
      refine call_ok rfl rfl (u_wrap n s10 u d (huS.fr0 hS11.frm) (by omega) hfu) ?_
      rintro z2 s11 ⟨f11, a1, a2, a3⟩
      have hS12 := hS11.push (P := oW z2 1 encB (putV d.length ++ d)) a1 a2 a3
      have k7 := a1.rd.lenOf
      have k8 := a1.rd.cellsOf
      have hs8 := putV_le (d.length : Int)
      have hdl : (putV (d.length : Int) ++ d).length ≤ 1000010 := by rw [List.length_append]; omega
      obtain ⟨_, ⟨g11, _, _⟩, _⟩ := Sep.hd (((hS12.re ((List.perm_middle (l₁ := [_, _, _])).trans (.cons _ (.refl _))))))
      obtain ⟨fo4, ho4, up4⟩ := Sep.hd (((hS12.re ((List.perm_middle (l₁ := [_])).trans (.cons _ (.refl _))))))
      simp (disch := omega) only [vm0, vm1, vm2, vm3, vm4, vm5, vm6, vm7, vmF, vmT, evo, wr, wrC, frame, Nat.reduceAdd, Nat.reduceMul, Nat.reduceSub, beq_self_eq_true, List.cons_append, List.nil_append, beq_dec, vmI, g8, g8b, g9, g10, g11, k7, k8]
      refine op_app (show OwE s11 v3 1 encB (W ++ putV fr) fo4 from ho4) .refl (new := putV d.length ++ d) rfl rfl (by omega) ?_
      intro v4 s12 f12 b1 b2 b3
      have hS13 := up4 (oW v4 1 encB (W ++ putV fr ++ (putV d.length ++ d))) b1 b2 b3
      have hl2 : (W ++ putV fr ++ (putV (d.length : Int) ++ d)).length ≤ 1000040 := by rw [List.length_append]; omega
      have hS14 := Sep.fillT (((hS13.re ((List.perm_middle (l₁ := [_])).trans (.cons _ ((List.perm_middle (l₁ := [_])).trans (.cons _ (.refl _)))))).drop)) c
      obtain ⟨_, ⟨g12, _, _⟩, _⟩ := Sep.hd (((hS13.re ((List.perm_middle (l₁ := [_, _, _])).trans (.cons _ (.refl _))))))
      obtain ⟨fo5, ho5, up5⟩ := Sep.hd (((hS14.re ((List.perm_middle (l₁ := [_])).trans (.cons _ (.refl _))))))
      subst hc
      simp (disch := omega) only [vm0, vm1, vm2, vm3, vm4, vm5, vm6, vm7, vmF, vmT, evo, wr, wrC, frame, Nat.reduceAdd, Nat.reduceMul, Nat.reduceSub, beq_self_eq_true, List.cons_append, List.nil_append, beq_dec, vmI, g8, g8b, g9, g10, g11, g12]
      refine op_app1 (show OwE _ v4 1 encB (W ++ putV fr ++ (putV d.length ++ d)) fo5 from ho5) .refl rfl (by omega) ?_
      intro v5 s14 f14 m1 m2 m3
      have hS16 := up5 (oW v5 1 encB _) m1 m2 m3
      have hS17 := ((hS16.re ((List.perm_middle (l₁ := [_])).trans (.cons _ (.refl _)))).drop)
      obtain ⟨_, ⟨g14, _, _⟩, _⟩ := Sep.hd (((hS17.re ((List.perm_middle (l₁ := [_])).trans (.cons _ (.refl _))))))
      simp (disch := omega) only [vm0, vm1, vm2, vm3, vm4, vm5, vm6, vm7, vmF, vmT, evo, wr, wrC, frame, Nat.reduceAdd, Nat.reduceMul, Nat.reduceSub, beq_self_eq_true, List.cons_append, List.nil_append, beq_dec, vmI, g8, g8b, g9, g10, g11, g12, g14, rw_7, rw_8, sm_v hu.rd.sl]
      refine ⟨v5, rfl, ?_⟩
      rw [hbt _ rfl]
      have hfin := ((hS17.re ((List.perm_middle (l₁ := [_])).trans (.cons _ (.refl _)))).drop)
      simpa [PkV.tail, List.append_assoc] using hfin
  · simp (disch := omega) only [vm0, vm1, vm2, vm3, vm4, vm5, vm6, vm7, vmF, vmT, evo, wr, wrC, frame, Nat.reduceAdd, Nat.reduceMul, Nat.reduceSub, beq_self_eq_true, List.cons_append, List.nil_append, beq_dec, vmI, g8]
    refine call_ok rfl rfl (w_put (n + 1) s8 of_ hof hfu) ?_
    rintro z s9 ⟨f9, e1, e2, e3⟩
    have hS10 := hS9.push (P := oW z 1 encB (putV of_)) e1 e2 e3
    have k5 := e1.rd.lenOf
    have k6 := e1.rd.cellsOf
    have ho8 := putV_le of_
    obtain ⟨_, ⟨g9, _, _⟩, _⟩ := Sep.hd (((hS10.re ((List.perm_middle (l₁ := [_, _])).trans (.cons _ (.refl _))))))
    obtain ⟨fo3, ho3, up3⟩ := Sep.hd (((hS10.re ((List.perm_middle (l₁ := [_])).trans (.cons _ (.refl _))))))
    simp (disch := omega) only [vm0, vm1, vm2, vm3, vm4, vm5, vm6, vm7, vmF, vmT, evo, wr, wrC, frame, Nat.reduceAdd, Nat.reduceMul, Nat.reduceSub, beq_self_eq_true, List.cons_append, List.nil_append, beq_dec, vmI, g8, g9, k5, k6]
    refine op_app (show OwE s9 v2 1 encB W fo3 from ho3) .refl (new := putV of_) rfl rfl (by omega) ?_
    intro v3 s10 f10 r7 r8 r9
    have hS11a := up3 (oW v3 1 encB (W ++ putV of_)) r7 r8 r9
    have hS11 := ((hS11a.re ((List.perm_middle (l₁ := [_])).trans (.cons _ (.refl _)))).drop)
    obtain ⟨_, ⟨g10, _, _⟩, _⟩ := Sep.hd (((hS11.re ((List.perm_middle (l₁ := [_])).trans (.cons _ (.refl _))))))
    have hl1 : (W ++ putV of_).length ≤ 25 := by rw [List.length_append]; omega
    simp (disch := omega) only [vm0, vm1, vm2, vm3, vm4, vm5, vm6, vm7, vmF, vmT, evo, wr, wrC, frame, Nat.reduceAdd, Nat.reduceMul, Nat.reduceSub, beq_self_eq_true, List.cons_append, List.nil_append, beq_dec, vmI, g8, g9, g10]
    refine call_ok rfl rfl (w_put (n + 1) s10 se hse hfu) ?_
    rintro z2 s11 ⟨f11, a1, a2, a3⟩
    have hS12 := hS11.push (P := oW z2 1 encB (putV se)) a1 a2 a3
    have k7 := a1.rd.lenOf
    have k8 := a1.rd.cellsOf
    have hs8 := putV_le se
    obtain ⟨_, ⟨g11, _, _⟩, _⟩ := Sep.hd (((hS12.re ((List.perm_middle (l₁ := [_, _])).trans (.cons _ (.refl _))))))
    obtain ⟨fo4, ho4, up4⟩ := Sep.hd (((hS12.re ((List.perm_middle (l₁ := [_])).trans (.cons _ (.refl _))))))
    simp (disch := omega) only [vm0, vm1, vm2, vm3, vm4, vm5, vm6, vm7, vmF, vmT, evo, wr, wrC, frame, Nat.reduceAdd, Nat.reduceMul, Nat.reduceSub, beq_self_eq_true, List.cons_append, List.nil_append, beq_dec, vmI, g8, g9, g10, g11, k7, k8]
    refine op_app (show OwE s11 v3 1 encB (W ++ putV of_) fo4 from ho4) .refl (new := putV se) rfl rfl (by omega) ?_
    intro v4 s12 f12 b1 b2 b3
    have hS13 := up4 (oW v4 1 encB (W ++ putV of_ ++ putV se)) b1 b2 b3
    have hS14 := ((hS13.re ((List.perm_middle (l₁ := [_])).trans (.cons _ (.refl _)))).drop)
    obtain ⟨_, ⟨g12, _, _⟩, _⟩ := Sep.hd (((hS14.re ((List.perm_middle (l₁ := [_])).trans (.cons _ (.refl _))))))
    have hl2 : (W ++ putV of_ ++ putV se).length ≤ 33 := by rw [List.length_append]; omega
    simp (disch := omega) only [vm0, vm1, vm2, vm3, vm4, vm5, vm6, vm7, vmF, vmT, evo, wr, wrC, frame, Nat.reduceAdd, Nat.reduceMul, Nat.reduceSub, beq_self_eq_true, List.cons_append, List.nil_append, beq_dec, vmI, g8, g9, g10, g11, g12]
    refine call_ok rfl rfl (w_put (n + 1) s12 li hli hfu) ?_
    rintro z3 s13 ⟨f13, c1, c2, c3⟩
    have hS15 := hS14.push (P := oW z3 1 encB (putV li)) c1 c2 c3
    have k9 := c1.rd.lenOf
    have k10 := c1.rd.cellsOf
    have hi8 := putV_le li
    obtain ⟨_, ⟨g13, _, _⟩, _⟩ := Sep.hd (((hS15.re ((List.perm_middle (l₁ := [_, _])).trans (.cons _ (.refl _))))))
    obtain ⟨fo5, ho5, up5⟩ := Sep.hd (((hS15.re ((List.perm_middle (l₁ := [_])).trans (.cons _ (.refl _))))))
    simp (disch := omega) only [vm0, vm1, vm2, vm3, vm4, vm5, vm6, vm7, vmF, vmT, evo, wr, wrC, frame, Nat.reduceAdd, Nat.reduceMul, Nat.reduceSub, beq_self_eq_true, List.cons_append, List.nil_append, beq_dec, vmI, g8, g9, g10, g11, g12, g13, k9, k10]
    refine op_app (show OwE s13 v4 1 encB (W ++ putV of_ ++ putV se) fo5 from ho5) .refl (new := putV li) rfl rfl (by omega) ?_
    intro v5 s14 f14 m1 m2 m3
    have hS16 := up5 (oW v5 1 encB (W ++ putV of_ ++ putV se ++ putV li)) m1 m2 m3
    have hS17 := ((hS16.re ((List.perm_middle (l₁ := [_])).trans (.cons _ (.refl _)))).drop)
    obtain ⟨_, ⟨g14, _, _⟩, _⟩ := Sep.hd (((hS17.re ((List.perm_middle (l₁ := [_])).trans (.cons _ (.refl _))))))
    simp (disch := omega) only [vm0, vm1, vm2, vm3, vm4, vm5, vm6, vm7, vmF, vmT, evo, wr, wrC, frame, Nat.reduceAdd, Nat.reduceMul, Nat.reduceSub, beq_self_eq_true, List.cons_append, List.nil_append, beq_dec, vmI, g8, g9, g10, g11, g12, g13, g14, rw_7, rw_8]
    rw [hbt (putV of_ ++ putV se ++ putV li) (by simp [PkV.tail]), show W ++ (putV of_ ++ putV se ++ putV li) = W ++ putV of_ ++ putV se ++ putV li by simp [List.append_assoc]]
    exact ⟨v5, rfl, ((hS17.re ((List.perm_middle (l₁ := [_])).trans (.cons _ (.refl _)))).drop)⟩
end
end Go.Proofs.Ytgckbcljlkkceaa.ctr
namespace Go.Proofs.Ytgckbcljlkkceaa.ctr
open Go Go.Vm Go.RowKit
set_option linter.unusedVariables false
set_option linter.constructorNameAsVariable false
set_option linter.unusedSimpArgs false
section
variable {bd : Bd} {fu : Nat}
/-- some byte slices, one behind the other -/
def RdU (s : St) (us : List AV) (ls : List (List Int)) : Prop := us.length = ls.length ∧ ∀ (i : Nat) (u : AV) (l : List Int), us[i]? = some u → ls[i]? = some l → RdE s u 1 encB l
theorem RdU.nil {s : St} : RdU s [] [] := ⟨rfl, by intro i u l h; simp at h⟩
theorem RdU.cons {s : St} {u : AV} {l : List Int} {us : List AV} {ls : List (List Int)} (h : RdE s u 1 encB l) (hr : RdU s us ls) : RdU s (u :: us) (l :: ls) := by
  refine ⟨by simp [hr.1], fun i u' l' h1 h2 => ?_⟩
  cases i with
  | zero => simp at h1 h2; subst h1; subst h2; exact h
  | succ i => exact hr.2 i u' l' (by simpa using h1) (by simpa using h2)
theorem flat_le (ls : List (List Int)) : ∀ i, (ls.take i).flatten.length ≤ ls.flatten.length := by
  intro i
  have : ls.flatten = (ls.take i).flatten ++ (ls.drop i).flatten := by rw [← List.flatten_append, List.take_append_drop]
  rw [this, List.length_append]; omega
theorem concatL (n : Nat) (s : St) (v : AV) (us : List AV) (ls : List (List Int)) (hv : RdE s v 1 encU us) (hu : RdU s us ls) (hN : us.length < fu) (hN2 : us.length < 1000) (hl : ls.flatten.length < 140737488355232) :
    OutOk (callF bd tab.get fu (n + 2) 126 [v] s) (fun x s' => ∃ fp, OwE s' x 1 encB ls.flatten fp ∧ Fr s s' [] ∧ Nw s [] fp) := by
  refine call_code t126 rfl ?_
  obtain ⟨N, hNe⟩ : ∃ N, us.length = N := ⟨_, rfl⟩
  have hlen : lenV v = some (num (N : Int)) := by rw [hv.lenV, hNe]
  have hls : ls.length = N := by rw [← hu.1, hNe]
  have key : ∀ i : Nat, i < N → ∃ u l, us[i]? = some u ∧ RdE s u 1 encB l ∧ ls[i]? = some l := by
    intro i hi
    have h1 : us[i]? = some us[i] := List.getElem?_eq_getElem (by omega)
    have h2 : ls[i]? = some ls[i] := List.getElem?_eq_getElem (by omega)
    exact ⟨_, _, h1, hu.2 i _ _ h1 h2, h2⟩
  rw [hNe] at hN hN2
  simp (disch := omega) only [vm0, vm1, vm2, vm3, vm4, vm5, vm6, vm7, vmF, vmT, evo, wr, wrC, frame, Nat.reduceAdd, Nat.reduceMul, Nat.reduceSub, beq_self_eq_true, List.cons_append, List.nil_append, beq_dec, vmI, vc126, hlen]
  refine x_loop (fun k F s' => ∃ i : Nat, ∃ z x6 x8 x9, k = N - i ∧ i ≤ N ∧ z = (i : Int) ∧ F = [some v, some (num z), some (num (((ls.take i).flatten.length : Nat) : Int)), none, none, some (num (N : Int)), x6, some v, x8, x9, none, none, none, none, some .nils] ∧ s' = s) N (by omega) ?_ ?_
  · exact ⟨0, _, _, _, _, by omega, by omega, rfl, rfl, rfl⟩
  · rintro k F s0 ⟨i, _, x6, x8, x9, rfl, hi, rfl, rfl, rfl⟩ hk
    by_cases hlt : i < N
    · obtain ⟨u, l, hu, hul, hl'⟩ := key i hlt
      have e1 := hv.ia hu
      have e2 := hv.at1 (f := fun u => u) hu
      have ht : (ls.take (i + 1)).flatten.length = (ls.take i).flatten.length + l.length := by rw [List.take_add_one, hl']; simp
      have htb := flat_le ls (i + 1)
      simp (disch := omega) only [vm0, vm1, vm2, vm3, vm4, vm5, vm6, vm7, vmF, vmT, evo, wr, wrC, frame, Nat.reduceAdd, Nat.reduceMul, Nat.reduceSub, beq_self_eq_true, List.cons_append, List.nil_append, beq_dec, vmI, e1, e2, hul.lenV]
      exact ⟨N - (i + 1), by omega, i + 1, (i : Int) + 1, _, _, _, rfl, by omega, by omega, by rw [ht, Int.natCast_add], rfl⟩
    · obtain rfl : i = N := by omega
      have hfl : (ls.take i).flatten = ls.flatten := by rw [List.take_of_length_le (by omega)]
      rw [hfl]
      simp (disch := omega) only [vm0, vm1, vm2, vm3, vm4, vm5, vm6, vm7, vmF, vmT, evo, wr, wrC, frame, Nat.reduceAdd, Nat.reduceMul, Nat.reduceSub, beq_self_eq_true, List.cons_append, List.nil_append, beq_dec, vmI]
      refine call_ok rfl rfl (growB n s0 _ (by omega)) ?_
      rintro x s1 ⟨fx, q1, q2, q3⟩
      simp (disch := omega) only [vm0, vm1, vm2, vm3, vm4, vm5, vm6, vm7, vmF, vmT, evo, wr, wrC, frame, Nat.reduceAdd, Nat.reduceMul, Nat.reduceSub, beq_self_eq_true, List.cons_append, List.nil_append, beq_dec, vmI, hlen]
      refine x_loop (fun k F s' => ∃ j : Nat, ∃ z x11 x13 vo fo, k = i - j ∧ j ≤ i ∧ z = (j : Int) ∧ F = [some v, some (num (i : Int)), some (num ((ls.flatten.length : Nat) : Int)), some (num z), some vo, some (num (i : Int)), some (.bool false), some v, x8, x9, some (num (i : Int)), x11, some v, x13, some .nils] ∧ Fr s0 s' [] ∧ OwE s' vo 1 encB (ls.take j).flatten fo ∧ Nw s0 [] fo) i (by omega) ?_ ?_
      · exact ⟨0, _, _, _, _, fx, by omega, by omega, rfl, rfl, q2, by simpa using q1, q3⟩
      · rintro k F s2 ⟨j, _, x11, x13, vo, fo, rfl, hj, rfl, rfl, hf2, ho, hn⟩ hk
        by_cases hlt : j < i
        · obtain ⟨u, l, hu, hul, hl'⟩ := key j hlt
          have hv2 := hv.fr0 hf2
          have hul2 := hul.fr0 hf2
          have e1 := hv2.ia hu
          have e2 := hv2.at1 (f := fun u => u) hu
          have ht : (ls.take (j + 1)).flatten = (ls.take j).flatten ++ l := by rw [List.take_add_one, hl']; simp
          have htb : (ls.take j).flatten.length + l.length ≤ ls.flatten.length := by
            have := flat_le ls (j + 1)
            rw [ht, List.length_append] at this; exact this
          simp (disch := omega) only [vm0, vm1, vm2, vm3, vm4, vm5, vm6, vm7, vmF, vmT, evo, wr, wrC, frame, Nat.reduceAdd, Nat.reduceMul, Nat.reduceSub, beq_self_eq_true, List.cons_append, List.nil_append, beq_dec, vmI, e1, e2, hul2.lenOf, hul2.cellsOf]
          refine op_app ho (by (repeat' (first | exact Fr.refl | assumption | apply Fr.new' | apply Fr.mk' | apply Fr.put')) <;> (first | omega | (left; simp; done) | (right; simp only [next_put, next_new, next_mk]; omega) | (simp only [next_put, next_new, next_mk]; omega))) (new := l) rfl rfl (by omega) ?_
          intro v' s3 fo' p1 p2 p3
          simp (disch := omega) only [vm0, vm1, vm2, vm3, vm4, vm5, vm6, vm7, vmF, vmT, evo, wr, wrC, frame, Nat.reduceAdd, Nat.reduceMul, Nat.reduceSub, beq_self_eq_true, List.cons_append, List.nil_append, beq_dec, vmI]
          exact ⟨i - (j + 1), by omega, j + 1, (j : Int) + 1, _, _, _, fo', rfl, by omega, by omega, rfl, hf2.nn p2 hn, by rw [ht]; exact p1, hn.nn p3 hf2.1⟩
        · obtain rfl : j = i := by omega
          rw [hfl] at ho
          simp (disch := omega) only [vm0, vm1, vm2, vm3, vm4, vm5, vm6, vm7, vmF, vmT, evo, wr, wrC, frame, Nat.reduceAdd, Nat.reduceMul, Nat.reduceSub, beq_self_eq_true, List.cons_append, List.nil_append, beq_dec, vmI]
          exact ⟨fo, ho, hf2, hn⟩
theorem truth_t (n : Nat) (s : St) : OutOk (callF bd tab.get fu (n + 1) 129 [.bool true] s) (fun x s' => Is x (byt 1) ∧ Is s' s) := by
  refine call_code t129 rfl ?_
  simp (disch := omega) only [vm0, vm1, vm2, vm3, vm4, vm5, vm6, vm7, vmF, vmT, evo, wr, wrC, frame, Nat.reduceAdd, Nat.reduceMul, Nat.reduceSub, beq_self_eq_true, List.cons_append, List.nil_append, beq_dec, vmI, vc129]
  exact ⟨rfl, rfl⟩
theorem truth_f (n : Nat) (s : St) : OutOk (callF bd tab.get fu (n + 1) 129 [.bool false] s) (fun x s' => Is x (byt 0) ∧ Is s' s) := by
  refine call_code t129 rfl ?_
  simp (disch := omega) only [vm0, vm1, vm2, vm3, vm4, vm5, vm6, vm7, vmF, vmT, evo, wr, wrC, frame, Nat.reduceAdd, Nat.reduceMul, Nat.reduceSub, beq_self_eq_true, List.cons_append, List.nil_append, beq_dec, vmI, vc129]
  exact ⟨rfl, rfl⟩
end
end Go.Proofs.Ytgckbcljlkkceaa.ctr
namespace Go.Proofs.Ytgckbcljlkkceaa.ctr
open Go Go.Vm Go.RowKit
set_option linter.unusedVariables false
set_option linter.constructorNameAsVariable false
set_option linter.unusedSimpArgs false
theorem Sep.fillU {s0 s : St} {b : Nat} {Ps : List Obj} (h : Sep s0 s (oT b :: Ps)) (cs : List AV) : Sep s0 (s.put b (some (.cells cs .own))) (oB b cs :: Ps) := by
  obtain ⟨f, ⟨h1, rfl⟩, up⟩ := h.hd
  exact up (oB b cs) (f' := [b]) ⟨get_put_eq rfl, by rw [next_put]; exact h1, rfl⟩ (.put (.inl (by simp))) (fun z hz => .inl hz)
theorem flatU (us : List AV) : us.flatMap encU = us := by induction us with | nil => rfl | cons a l ih => show a :: l.flatMap encU = _; rw [ih]
theorem rdU_of {s : St} {b n : Nat} {us : List AV} (hg : s.heap.get b = some (.cells us .own)) (hb : b < s.next) (hn : us.length = n) : RdE s (.sl b 0 n n true 1) 1 encU us := by
  subst hn
  refine ⟨⟨⟨rfl, Nat.le_refl _⟩, by rw [flatU]; simp [slen], ?_⟩, fun _ => rfl, by omega, hb⟩
  show ob (s.heap.get b) (rdC 0 (us.length * 1)) = _
  rw [hg, flatU]
  show sub us 0 (us.length * 1) = _
  rw [sub_of (by omega)]; simp
theorem cells1 {sz : Nat} {v : AV} (h : isSl sz v) : v.cells = some [v] := by cases v <;> first | rfl | exact h.elim
section
variable {bd : Bd} {fu : Nat}
theorem p_plain0 (n : Nat) (s : St) (p : PkV) (u : AV) (hu : RdE s u 1 encB p.d) (hl : p.d.length ≤ 1000000) (h8 : ∀ x ∈ p.d, In8 x) (hr : p.right = false) (hfu : 10 < fu) :
    OutOk (callF bd tab.get fu (n + 4) 108 [.agg (p.cs u)] s) (fun x s' => Is x (.tup [.nils, num 1]) ∧ Fr s s' []) := by
  refine call_code t108 rfl ?_
  have hf : Fr s (s.new (.cells (p.cs u) .own)) [] := .new
  have g1 : (s.new (.cells (p.cs u) .own)).heap.get s.next = some (.cells (p.cs u) .own) := get_new_eq rfl
  have hur := p_check (bd := bd)  (fu := fu) n (s.new (.cells (p.cs u) .own)) p u (hu.fr0 hf) hl h8
  rw [hr] at hur
  dsimp only [PkV.cs] at hf g1 hur ⊢
  simp (disch := omega) only [vm0, vm1, vm2, vm3, vm4, vm5, vm6, vm7, vmF, vmT, evo, wr, wrC, frame, Nat.reduceAdd, Nat.reduceMul, Nat.reduceSub, beq_self_eq_true, List.cons_append, List.nil_append, beq_dec, vmI, vc108]
  refine call_ok rfl rfl hur ?_
  rintro y s2 ⟨rfl, hf2⟩
  rw [if_neg (by simp)]
  simp (disch := omega) only [vm0, vm1, vm2, vm3, vm4, vm5, vm6, vm7, vmF, vmT, evo, wr, wrC, frame, Nat.reduceAdd, Nat.reduceMul, Nat.reduceSub, beq_self_eq_true, List.cons_append, List.nil_append, beq_dec, vmI]
  exact ⟨rfl, hf.trans hf2 (fp2 := []) (by simp) (by simp)⟩
set_option maxHeartbeats 2000000 in
theorem p_plain1 (n : Nat) (s : St) (p : PkV) (u : AV) (hu : RdE s u 1 encB p.d) (hl : p.d.length ≤ 1000000) (h8 : ∀ x ∈ p.d, In8 x) (hr : p.right = true) (hk : 1 ≤ p.k ∧ p.k ≤ 4) (hpt : In64 p.pt) (hnr : In64 p.nr) (hof : In64 p.of_) (hfr : In64 p.fr) (hse : In64 p.se) (hli : In64 p.li) (hfu : 10 < fu) :
    OutOk (callF bd tab.get fu (n + 4) 108 [.agg (p.cs u)] s) (fun x s' => ∃ v, Is x (.tup [v, num 0]) ∧ Sep s s' [oW v 1 encB p.bytes]) := by
  refine call_code t108 rfl ?_
  have hf : Fr s (s.new (.cells (p.cs u) .own)) [] := .new
  have g1 : (s.new (.cells (p.cs u) .own)).heap.get s.next = some (.cells (p.cs u) .own) := get_new_eq rfl
  have hur := p_check (bd := bd)  (fu := fu) n (s.new (.cells (p.cs u) .own)) p u (hu.fr0 hf) hl h8
  rw [hr] at hur
  have hS := Sep.push (Sep.nil (s := s)) (P := oB s.next (p.cs u)) (s' := s.new (.cells (p.cs u) .own)) (f := [s.next]) ⟨g1, by rw [next_new]; omega, rfl⟩ .new (by intro z hz; simp at hz; right; omega)
  have hsv := sv_sl hu.rd.sl
  have hsm := sm_v hu.rd.sl
  obtain ⟨k, pt, nr, of_, fr, d, fin, se, li⟩ := p
  dsimp only [PkV.cs] at *
  simp (disch := omega) only [vm0, vm1, vm2, vm3, vm4, vm5, vm6, vm7, vmF, vmT, evo, wr, wrC, frame, Nat.reduceAdd, Nat.reduceMul, Nat.reduceSub, beq_self_eq_true, List.cons_append, List.nil_append, beq_dec, vmI, vc108]
  refine call_ok rfl rfl hur ?_
  rintro y s2 ⟨rfl, hf2⟩
  rw [if_pos rfl]
  have hS2 := hS.fr hf2
  generalize s.next = b at *
  obtain ⟨_, ⟨g2, hb2, _⟩, _⟩ := hS2.hd
  have hS3a := hS2.push (P := oT s2.next) (s' := ⟨s2.heap, s2.next + 1⟩) (f := [s2.next]) ⟨Nat.lt_succ_self _, rfl⟩ ⟨Nat.le_succ _, fun _ _ _ => rfl⟩ (by intro z hz; simp at hz; right; omega)
  have hS3 := hS3a.push (P := oT (s2.next + 1)) (s' := ⟨s2.heap, s2.next + 2⟩) (f := [s2.next + 1]) ⟨Nat.lt_succ_self _, rfl⟩ ⟨Nat.le_succ _, fun _ _ _ => rfl⟩ (by intro z hz; simp at hz; right; show s2.next + 1 ≤ z; omega)
  clear hS3a
  have hk8 : k % 256 = k := by omega
  obtain ⟨q, hq⟩ : ∃ q, q = s2.next := ⟨_, rfl⟩
  simp (disch := omega) only [vm0, vm1, vm2, vm3, vm4, vm5, vm6, vm7, vmF, vmT, evo, wr, wrC, frame, Nat.reduceAdd, Nat.reduceMul, Nat.reduceSub, beq_self_eq_true, List.cons_append, List.nil_append, beq_dec, vmI, g2, f_cvi, cvi_c, cvi8, hk8]
  generalize (⟨s2.heap, s2.next + 2⟩ : St) = s3 at *
  rw [← hq] at *
  clear hq
  obtain ⟨_, ⟨g3, _, _⟩, _⟩ := (Sep.hd (((hS3.re ((List.perm_middle (l₁ := [_, _])).trans (.cons _ (.refl _)))))))
  refine call_ok rfl rfl (v_put (n + 1) s3 pt hpt hfu) ?_
  rintro x s4 ⟨f1, q1, q2, q3⟩
  have hS4 := hS3.push (P := oW x 1 encB (putV pt)) q1 q2 q3
  clear g1 hS hS2 hur hf hf2 hS3
  obtain ⟨_, ⟨g4, _, _⟩, _⟩ := Sep.hd (((hS4.re ((List.perm_middle (l₁ := [_, _, _])).trans (.cons _ (.refl _))))))
  simp (disch := omega) only [vm0, vm1, vm2, vm3, vm4, vm5, vm6, vm7, vmF, vmT, evo, wr, wrC, frame, Nat.reduceAdd, Nat.reduceMul, Nat.reduceSub, beq_self_eq_true, List.cons_append, List.nil_append, beq_dec, vmI, g2, g3, g4]
  refine call_ok rfl rfl (v_put (n + 1) s4 nr hnr hfu) ?_
  rintro y s5 ⟨f2, d1, d2, d3⟩
  have hS5 := hS4.push (P := oW y 1 encB (putV nr)) d1 d2 d3
  obtain ⟨_, ⟨g5, _, _⟩, _⟩ := Sep.hd (((hS5.re ((List.perm_middle (l₁ := [_, _, _, _])).trans (.cons _ (.refl _))))))
  have hxc := cells1 q1.rd.rd.sl
  have hyc := cells1 d1.rd.rd.sl
  have hS6 := Sep.fillU (((hS5.re ((List.perm_middle (l₁ := [_, _])).trans (.cons _ (.refl _)))))) [.sl q 0 1 1 true 1, x, y]
  have hS7 := Sep.fillT (((hS6.re ((List.perm_middle (l₁ := [_, _, _])).trans (.cons _ (.refl _)))))) k
  have r0 := Sep.rdW hS7
  have r1 := Sep.rdW (((hS7.re ((List.perm_middle (l₁ := [_, _, _])).trans (.cons _ (.refl _))))))
  have r2 := Sep.rdW (((hS7.re ((List.perm_middle (l₁ := [_, _])).trans (.cons _ (.refl _))))))
  obtain ⟨_, ⟨gU, hUl, _⟩, _⟩ := Sep.hd (((hS7.re ((List.perm_middle (l₁ := [_])).trans (.cons _ (.refl _))))))
  have hU := rdU_of gU hUl (n := 3) rfl
  have hRU := RdU.cons r0 (RdU.cons r1 (RdU.cons r2 RdU.nil))
  have hp8 := putV_le pt
  have hn8 := putV_le nr
  obtain ⟨_, ⟨g7, _, _⟩, _⟩ := Sep.hd (((hS7.re ((List.perm_middle (l₁ := [_, _, _, _])).trans (.cons _ (.refl _))))))
  have hS8 := ((hS7.re (.refl _)).drop.drop.drop.drop)
  simp (disch := omega) only [vm0, vm1, vm2, vm3, vm4, vm5, vm6, vm7, vmF, vmT, evo, wr, wrC, frame, Nat.reduceAdd, Nat.reduceMul, Nat.reduceSub, beq_self_eq_true, List.cons_append, List.nil_append, beq_dec, vmI, g2, g3, g4, g5, hxc, hyc]
  have hfl : ([[k], putV pt, putV nr] : List (List Int)).flatten = [k] ++ putV pt ++ putV nr := by simp
  have hW : ([k] ++ putV pt ++ putV nr : List Int).length ≤ 17 := by simp only [List.length_append, List.length_cons, List.length_nil]; omega
  refine call_ok rfl rfl (concatL (n + 1) _ _ _ _ hU hRU (by show 3 < fu; omega) (by show 3 < 1000; omega) (by rw [hfl]; omega)) ?_
  rintro v2 s8 ⟨f3, c1, c2, c3⟩
  rw [hfl] at c1
  have hS9 := hS8.push (P := oW v2 1 encB ([k] ++ putV pt ++ putV nr)) c1 c2 c3
  obtain ⟨_, ⟨g8, _, _⟩, _⟩ := Sep.hd (((hS9.re ((List.perm_middle (l₁ := [_])).trans (.cons _ (.refl _))))))
  simp (disch := omega) only [vm0, vm1, vm2, vm3, vm4, vm5, vm6, vm7, vmF, vmT, evo, wr, wrC, frame, Nat.reduceAdd, Nat.reduceMul, Nat.reduceSub, beq_self_eq_true, List.cons_append, List.nil_append, beq_dec, vmI, g2, g3, g4, g5, g7, g8]
  have hbt : ∀ t, PkV.tail ⟨k, pt, nr, of_, fr, d, fin, se, li⟩ = t → PkV.bytes ⟨k, pt, nr, of_, fr, d, fin, se, li⟩ = [k] ++ putV pt ++ putV nr ++ t := fun t h => by unfold PkV.bytes; dsimp only; rw [h, hk8]
  clear hS4 hS5 hS6 hS7 hS8 hRU hU r0 r1 r2 gU g7 hfl
  generalize [k] ++ putV pt ++ putV nr = W at *
  rcases (show k = 1 ∨ k = 2 ∨ k = 3 ∨ k = 4 by omega) with rfl | rfl | rfl | rfl
  · simp (disch := omega) only [vm0, vm1, vm2, vm3, vm4, vm5, vm6, vm7, vmF, vmT, evo, wr, wrC, frame, Nat.reduceAdd, Nat.reduceMul, Nat.reduceSub, beq_self_eq_true, List.cons_append, List.nil_append, beq_dec, vmI, g8]
    rw [hbt [] (by simp [PkV.tail]), List.append_nil]
    exact ⟨v2, rfl, ((hS9.re ((List.perm_middle (l₁ := [_])).trans (.cons _ (.refl _)))).drop)⟩
  · simp (disch := omega) only [vm0, vm1, vm2, vm3, vm4, vm5, vm6, vm7, vmF, vmT, evo, wr, wrC, frame, Nat.reduceAdd, Nat.reduceMul, Nat.reduceSub, beq_self_eq_true, List.cons_append, List.nil_append, beq_dec, vmI, g8]
    refine call_ok rfl rfl (v_put (n + 1) s8 of_ hof hfu) ?_
    rintro z s9 ⟨f9, e1, e2, e3⟩
    have hS10 := hS9.push (P := oW z 1 encB (putV of_)) e1 e2 e3
    have k5 := e1.rd.lenOf
    have k6 := e1.rd.cellsOf
    have ho8 := putV_le of_
    obtain ⟨fo3, ho3, up3⟩ := Sep.hd (((hS10.re ((List.perm_middle (l₁ := [_])).trans (.cons _ (.refl _))))))
    simp (disch := omega) only [vm0, vm1, vm2, vm3, vm4, vm5, vm6, vm7, vmF, vmT, evo, wr, wrC, frame, Nat.reduceAdd, Nat.reduceMul, Nat.reduceSub, beq_self_eq_true, List.cons_append, List.nil_append, beq_dec, vmI, k5, k6]
    refine op_app (show OwE s9 v2 1 encB W fo3 from ho3) .refl (new := putV of_) rfl rfl (by omega) ?_
    intro v3 s10 f10 r7 r8 r9
    have hS11 := up3 (oW v3 1 encB (W ++ putV of_)) r7 r8 r9
    simp (disch := omega) only [vm0, vm1, vm2, vm3, vm4, vm5, vm6, vm7, vmF, vmT, evo, wr, wrC, frame, Nat.reduceAdd, Nat.reduceMul, Nat.reduceSub, beq_self_eq_true, List.cons_append, List.nil_append, beq_dec, vmI]
    rw [hbt (putV of_) (by simp [PkV.tail])]
    exact ⟨v3, rfl, ((hS11.re ((List.perm_middle (l₁ := [_])).trans (.cons _ ((List.perm_middle (l₁ := [_])).trans (.cons _ (.refl _)))))).drop.drop)⟩
  · have hA := hS9.push (P := oT s8.next) (s' := ⟨s8.heap, s8.next + 1⟩) (f := [s8.next]) ⟨Nat.lt_succ_self _, rfl⟩ ⟨Nat.le_succ _, fun _ _ _ => rfl⟩ (by intro z hz; simp at hz; right; omega)
    have hB := hA.push (P := oT (s8.next + 1)) (s' := ⟨s8.heap, s8.next + 2⟩) (f := [s8.next + 1]) ⟨Nat.lt_succ_self _, rfl⟩ ⟨Nat.le_succ _, fun _ _ _ => rfl⟩ (by intro z hz; simp at hz; right; show s8.next + 1 ≤ z; omega)
    clear hA
    obtain ⟨e, he⟩ : ∃ e, e = s8.next := ⟨_, rfl⟩
    have huc := cells1 hu.rd.sl
    have hv2c := cells1 c1.rd.rd.sl
    simp (disch := omega) only [vm0, vm1, vm2, vm3, vm4, vm5, vm6, vm7, vmF, vmT, evo, wr, wrC, frame, Nat.reduceAdd, Nat.reduceMul, Nat.reduceSub, beq_self_eq_true, List.cons_append, List.nil_append, beq_dec, vmI, g8]
    generalize (⟨s8.heap, s8.next + 2⟩ : St) = s9 at *
    rw [← he] at *
    obtain ⟨_, ⟨g9, _, _⟩, _⟩ := (Sep.hd (((hB.re ((List.perm_middle (l₁ := [_, _, _])).trans (.cons _ (.refl _)))))))
    refine call_ok rfl rfl (v_put (n + 1) s9 fr hfr hfu) ?_
    rintro z s10 ⟨f9, e1, e2, e3⟩
    have hC := hB.push (P := oW z 1 encB (putV fr)) e1 e2 e3
    obtain ⟨_, ⟨g10, _, _⟩, _⟩ := (Sep.hd (((hC.re ((List.perm_middle (l₁ := [_, _, _, _])).trans (.cons _ (.refl _)))))))
    simp (disch := omega) only [vm0, vm1, vm2, vm3, vm4, vm5, vm6, vm7, vmF, vmT, evo, wr, wrC, frame, Nat.reduceAdd, Nat.reduceMul, Nat.reduceSub, beq_self_eq_true, List.cons_append, List.nil_append, beq_dec, vmI, g8, g9, g10, hsv, hsm]
    refine call_ok rfl rfl (pack n s10 u d (hu.fr0 hC.frm) (by omega) hfu) ?_
    rintro a s11 ⟨f10, a1, a2, a3⟩
    have hD := hC.push (P := oW a 1 encB (putV d.length ++ d)) a1 a2 a3
    have hzc := cells1 e1.rd.rd.sl
    have hac := cells1 a1.rd.rd.sl
    have hE := Sep.fillU (((hD.re ((List.perm_middle (l₁ := [_, _, _])).trans (.cons _ (.refl _)))))) [v2, z, a]
    have r0 := Sep.rdW (((hE.re ((List.perm_middle (l₁ := [_, _, _, _])).trans (.cons _ (.refl _))))))
    have r1 := Sep.rdW (((hE.re ((List.perm_middle (l₁ := [_, _])).trans (.cons _ (.refl _))))))
    have r2 := Sep.rdW (((hE.re ((List.perm_middle (l₁ := [_])).trans (.cons _ (.refl _))))))
    obtain ⟨_, ⟨gU, hUl, _⟩, _⟩ := hE.hd
    have hU := rdU_of gU hUl (n := 3) rfl
    have hRU := RdU.cons r0 (RdU.cons r1 (RdU.cons r2 RdU.nil))
    obtain ⟨_, ⟨g11, _, _⟩, _⟩ := (Sep.hd (((hD.re ((List.perm_middle (l₁ := [_, _, _, _, _])).trans (.cons _ (.refl _)))))))
    have ho8 := putV_le fr
    have hs8 := putV_le (d.length : Int)
    have hfl : ([W, putV fr, putV d.length ++ d] : List (List Int)).flatten = W ++ putV fr ++ (putV d.length ++ d) := by simp
    have hlf : (W ++ putV fr ++ (putV (d.length : Int) ++ d)).length ≤ 1000040 := by simp only [List.length_append]; omega
    simp (disch := omega) only [vm0, vm1, vm2, vm3, vm4, vm5, vm6, vm7, vmF, vmT, evo, wr, wrC, frame, Nat.reduceAdd, Nat.reduceMul, Nat.reduceSub, beq_self_eq_true, List.cons_append, List.nil_append, beq_dec, vmI, g8, g9, g10, g11, hsv, hsm, hzc, hac, hv2c]
    refine call_ok rfl rfl (concatL (n + 1) _ _ _ _ hU hRU (by show 3 < fu; omega) (by show 3 < 1000; omega) (by rw [hfl]; omega)) ?_
    rintro v3 s12 ⟨f11, m1, m2, m3⟩
    rw [hfl] at m1
    have hF := hE.push (P := oW v3 1 encB (W ++ putV fr ++ (putV d.length ++ d))) m1 m2 m3
    have hG := ((hF.re ((List.perm_middle (l₁ := [_])).trans (.cons _ ((List.perm_middle (l₁ := [_])).trans (.cons _ ((List.perm_middle (l₁ := [_])).trans (.cons _ ((List.perm_middle (l₁ := [_, _])).trans (.cons _ (.refl _)))))))))).drop.drop.drop.drop)
    obtain ⟨_, ⟨g12, _, _⟩, _⟩ := (Sep.hd (((hG.re ((List.perm_middle (l₁ := [_, _])).trans (.cons _ (.refl _)))))))
    obtain ⟨c, hc⟩ : ∃ c : Int, c = (if fin = true then 1 else 0) := ⟨_, rfl⟩
    clear hE hD hC hB hRU hU r0 r1 r2 gU hF
    cases fin
    all_goals
      simp (disch := omega) only [vm0, vm1, vm2, vm3, vm4, vm5, vm6, vm7, vmF, vmT, evo, wr, wrC, frame, Nat.reduceAdd, Nat.reduceMul, Nat.reduceSub, beq_self_eq_true, List.cons_append, List.nil_append, beq_dec, vmI, g8, g9, g10, g11, g12, hsv, hsm, hzc, hac, hv2c]
      first
        | refine call_ok rfl rfl (truth_f (n + 2) s12) ?_
        | refine call_ok rfl rfl (truth_t (n + 2) s12) ?_
      rintro y s13 ⟨rfl, rfl⟩
      have hH := Sep.fillT (((hG.re ((List.perm_middle (l₁ := [_])).trans (.cons _ (.refl _)))))) c
      obtain ⟨fo5, ho5, up5⟩ := Sep.hd (((hH.re ((List.perm_middle (l₁ := [_])).trans (.cons _ (.refl _))))))
      obtain ⟨_, ⟨g13, _, _⟩, _⟩ := (Sep.hd (((hH.re ((List.perm_middle (l₁ := [_, _])).trans (.cons _ (.refl _)))))))
      subst hc
      simp (disch := omega) only [vm0, vm1, vm2, vm3, vm4, vm5, vm6, vm7, vmF, vmT, evo, wr, wrC, frame, Nat.reduceAdd, Nat.reduceMul, Nat.reduceSub, beq_self_eq_true, List.cons_append, List.nil_append, beq_dec, vmI, g8, g9, g10, g11, g12, hsv, hsm, hzc, hac, hv2c]
      refine op_app1 (show OwE _ v3 1 encB (W ++ putV fr ++ (putV d.length ++ d)) fo5 from ho5) .refl rfl (by omega) ?_
      intro v5 s14 f14 n1 n2 n3
      have hI := up5 (oW v5 1 encB _) n1 n2 n3
      obtain ⟨_, ⟨g14, _, _⟩, _⟩ := (Sep.hd (((hI.re ((List.perm_middle (l₁ := [_, _])).trans (.cons _ (.refl _)))))))
      simp (disch := omega) only [vm0, vm1, vm2, vm3, vm4, vm5, vm6, vm7, vmF, vmT, evo, wr, wrC, frame, Nat.reduceAdd, Nat.reduceMul, Nat.reduceSub, beq_self_eq_true, List.cons_append, List.nil_append, beq_dec, vmI, g8, g9, g10, g11, g12, g13, g14, hsv, hsm, rw_7, rw_8, sv_b]
      refine ⟨v5, rfl, ?_⟩
      rw [hbt _ rfl]
      have hfin := ((hI.re ((List.perm_middle (l₁ := [_])).trans (.cons _ ((List.perm_middle (l₁ := [_])).trans (.cons _ (.refl _)))))).drop.drop)
      simpa [PkV.tail, List.append_assoc] using hfin
  · have hB := hS9.push (P := oT s8.next) (s' := ⟨s8.heap, s8.next + 1⟩) (f := [s8.next]) ⟨Nat.lt_succ_self _, rfl⟩ ⟨Nat.le_succ _, fun _ _ _ => rfl⟩ (by intro z hz; simp at hz; right; omega)
    obtain ⟨e, he⟩ : ∃ e, e = s8.next := ⟨_, rfl⟩
    have hv2c := cells1 c1.rd.rd.sl
    simp (disch := omega) only [vm0, vm1, vm2, vm3, vm4, vm5, vm6, vm7, vmF, vmT, evo, wr, wrC, frame, Nat.reduceAdd, Nat.reduceMul, Nat.reduceSub, beq_self_eq_true, List.cons_append, List.nil_append, beq_dec, vmI, g8]
    generalize (⟨s8.heap, s8.next + 1⟩ : St) = s9 at *
    rw [← he] at *
    obtain ⟨_, ⟨g9, _, _⟩, _⟩ := (Sep.hd (((hB.re ((List.perm_middle (l₁ := [_, _])).trans (.cons _ (.refl _)))))))
    refine call_ok rfl rfl (v_put (n + 1) s9 of_ hof hfu) ?_
    rintro z s10 ⟨f9, e1, e2, e3⟩
    have hC := hB.push (P := oW z 1 encB (putV of_)) e1 e2 e3
    obtain ⟨_, ⟨g10, _, _⟩, _⟩ := (Sep.hd (((hC.re ((List.perm_middle (l₁ := [_, _, _])).trans (.cons _ (.refl _)))))))
    simp (disch := omega) only [vm0, vm1, vm2, vm3, vm4, vm5, vm6, vm7, vmF, vmT, evo, wr, wrC, frame, Nat.reduceAdd, Nat.reduceMul, Nat.reduceSub, beq_self_eq_true, List.cons_append, List.nil_append, beq_dec, vmI, g8, g9, g10]
    refine call_ok rfl rfl (v_put (n + 1) s10 se hse hfu) ?_
    rintro a s11 ⟨f10, a1, a2, a3⟩
    have hD := hC.push (P := oW a 1 encB (putV se)) a1 a2 a3
    obtain ⟨_, ⟨g11, _, _⟩, _⟩ := (Sep.hd (((hD.re ((List.perm_middle (l₁ := [_, _, _, _])).trans (.cons _ (.refl _)))))))
    simp (disch := omega) only [vm0, vm1, vm2, vm3, vm4, vm5, vm6, vm7, vmF, vmT, evo, wr, wrC, frame, Nat.reduceAdd, Nat.reduceMul, Nat.reduceSub, beq_self_eq_true, List.cons_append, List.nil_append, beq_dec, vmI, g8, g9, g10, g11]
    refine call_ok rfl rfl (v_put (n + 1) s11 li hli hfu) ?_
    rintro c s12 ⟨f11, b1, b2, b3⟩
    have hE := hD.push (P := oW c 1 encB (putV li)) b1 b2 b3
    obtain ⟨_, ⟨g12, _, _⟩, _⟩ := (Sep.hd (((hE.re ((List.perm_middle (l₁ := [_, _, _, _, _])).trans (.cons _ (.refl _)))))))
    have hzc := cells1 e1.rd.rd.sl
    have hac := cells1 a1.rd.rd.sl
    have hcc := cells1 b1.rd.rd.sl
    have hF := Sep.fillU (((hE.re ((List.perm_middle (l₁ := [_, _, _])).trans (.cons _ (.refl _)))))) [v2, z, a, c]
    have r0 := Sep.rdW (((hF.re ((List.perm_middle (l₁ := [_, _, _, _])).trans (.cons _ (.refl _))))))
    have r1 := Sep.rdW (((hF.re ((List.perm_middle (l₁ := [_, _, _])).trans (.cons _ (.refl _))))))
    have r2 := Sep.rdW (((hF.re ((List.perm_middle (l₁ := [_, _])).trans (.cons _ (.refl _))))))
    have r3 := Sep.rdW (((hF.re ((List.perm_middle (l₁ := [_])).trans (.cons _ (.refl _))))))
    obtain ⟨_, ⟨gU, hUl, _⟩, _⟩ := hF.hd
    have hU := rdU_of gU hUl (n := 4) rfl
    have hRU := RdU.cons r0 (RdU.cons r1 (RdU.cons r2 (RdU.cons r3 RdU.nil)))
    have hfl : ([W, putV of_, putV se, putV li] : List (List Int)).flatten = W ++ (putV of_ ++ putV se ++ putV li) := by simp
    have i1 := putV_le of_
    have i2 := putV_le se
    have i3 := putV_le li
    have hlf : (W ++ (putV of_ ++ putV se ++ putV li)).length ≤ 1000040 := by simp only [List.length_append]; omega
    obtain ⟨_, ⟨g13, _, _⟩, _⟩ := (Sep.hd (((hF.re ((List.perm_middle (l₁ := [_, _, _, _, _])).trans (.cons _ (.refl _)))))))
    simp (disch := omega) only [vm0, vm1, vm2, vm3, vm4, vm5, vm6, vm7, vmF, vmT, evo, wr, wrC, frame, Nat.reduceAdd, Nat.reduceMul, Nat.reduceSub, beq_self_eq_true, List.cons_append, List.nil_append, beq_dec, vmI, g8, g9, g10, g11, g12, g13, hzc, hac, hcc, hv2c]
    refine call_ok rfl rfl (concatL (n + 1) _ _ _ _ hU hRU (by show 4 < fu; omega) (by show 4 < 1000; omega) (by rw [hfl]; omega)) ?_
    rintro v3 s14 ⟨f12, m1, m2, m3⟩
    rw [hfl] at m1
    have hG := hF.push (P := oW v3 1 encB (W ++ (putV of_ ++ putV se ++ putV li))) m1 m2 m3
    obtain ⟨_, ⟨g14, _, _⟩, _⟩ := (Sep.hd (((hG.re ((List.perm_middle (l₁ := [_, _, _, _, _, _])).trans (.cons _ (.refl _)))))))
    simp (disch := omega) only [vm0, vm1, vm2, vm3, vm4, vm5, vm6, vm7, vmF, vmT, evo, wr, wrC, frame, Nat.reduceAdd, Nat.reduceMul, Nat.reduceSub, beq_self_eq_true, List.cons_append, List.nil_append, beq_dec, vmI, g8, g9, g10, g11, g12, g13, g14]
    rw [hbt (putV of_ ++ putV se ++ putV li) (by simp [PkV.tail])]
    exact ⟨v3, rfl, ((hG.re ((List.perm_middle (l₁ := [_])).trans (.cons _ ((List.perm_middle (l₁ := [_])).trans (.cons _ ((List.perm_middle (l₁ := [_])).trans (.cons _ ((List.perm_middle (l₁ := [_])).trans (.cons _ ((List.perm_middle (l₁ := [_])).trans (.cons _ ((List.perm_middle (l₁ := [_])).trans (.cons _ (.refl _)))))))))))))).drop.drop.drop.drop.drop.drop)⟩
end
end Go.Proofs.Ytgckbcljlkkceaa.ctr
namespace Go.Proofs.Ytgckbcljlkkceaa.ctr
open Go Go.Vm Go.RowKit
set_option linter.unusedVariables false
set_option linter.constructorNameAsVariable false
set_option linter.unusedSimpArgs false
theorem PkV.right_in {p : PkV} (h : p.right = true) : (1 ≤ p.k ∧ p.k ≤ 4) ∧ In64 p.pt ∧ In64 p.nr ∧ In64 p.of_ ∧ In64 p.fr ∧ In64 p.se ∧ In64 p.li ∧ p.d.length ≤ 64 := by
  unfold PkV.right at h
  simp only [Bool.and_eq_true, decide_eq_true_eq] at h
  obtain ⟨⟨⟨h1, h2⟩, h3⟩, h4⟩ := h
  have k2 : 0 ≤ p.of_ ∧ p.of_ ≤ 65535 := by
    split at h2
    · exact of_decide_eq_true h2
    · have := of_decide_eq_true h2; omega
  have k3 : 0 ≤ p.fr ∧ p.fr ≤ 4096 ∧ p.d.length ≤ 64 := by
    split at h3
    · have := of_decide_eq_true h3; exact ⟨this.1, this.2.1, this.2.2.1⟩
    · simp at h3
      rw [h3.1.2]; exact ⟨by omega, by omega, by simp⟩
  have k4 : 0 ≤ p.se ∧ p.se ≤ 4097 ∧ 0 ≤ p.li ∧ p.li ≤ 4496 := by
    split at h4
    · exact of_decide_eq_true h4
    · have := of_decide_eq_true h4; omega
  unfold In64
  omega
theorem EvV.right_in {e : EvV} (h : e.right = true) : (e.k = 1 ∨ e.k = 2 ∨ e.k = 3 ∨ e.k = 4 ∨ e.k = 5 ∨ e.k = 6 ∨ e.k = 7 ∨ e.k = 8) ∧ In64 e.n ∧ e.d.length ≤ 4096 ∧ ((e.k = 4 ∨ e.k = 5) → e.p.right = true) ∧ e.p.d.length ≤ 64 := by
  have hp0 : pk0.d.length ≤ 64 := by simp [pk0]
  unfold EvV.right at h
  unfold In64
  split at h
  · simp at h; rw [h.2]; exact ⟨by omega, by omega, by omega, by omega, hp0⟩
  · split at h
    · simp at h; rw [h.2, h.1.2]; exact ⟨by omega, by omega, by simp, by omega, hp0⟩
    · split at h
      · simp at h; rw [h.2]; exact ⟨by omega, by omega, by simp, fun _ => h.1.1, (PkV.right_in h.1.1).2.2.2.2.2.2.2⟩
      · split at h
        · simp at h; rw [h.2, h.1.2]; exact ⟨by omega, by omega, by simp, by omega, hp0⟩
        · split at h
          · simp at h; rw [h.2, h.1.2]; exact ⟨by omega, by omega, by simp, by omega, hp0⟩
          · simp at h
theorem Sep.out1 {s0 s : St} {P : Obj} (h : Sep s0 s [P]) : ∃ f, P.P s f ∧ Fr s0 s [] ∧ Nw s0 [] f := by
  obtain ⟨fp, ⟨f, g, h1, h2, h3, rfl⟩, h5, h6⟩ := h
  exact ⟨f, h1, h6, fun b hb => h5 b (by simp [hb])⟩
section
variable {bd : Bd} {fu : Nat}
set_option maxHeartbeats 2000000 in
theorem e_put (n : Nat) (s : St) (a : EvV) (u w : AV) (hu : RdE s u 1 encB a.d) (hw : RdE s w 1 encB a.p.d) (h8 : ∀ x ∈ a.p.d, In8 x) (hr : a.right = true) (hfu : 10 < fu) :
    OutOk (callF bd tab.get fu (n + 5) 52 [.agg (a.cs u w)] s) (fun x s' => ∃ fp, OwE s' x 1 encB a.bytes fp ∧ Fr s s' [] ∧ Nw s [] fp) := by
  refine call_code t52 rfl ?_
  obtain ⟨hk, hn, hdl, hpr, hpl⟩ := EvV.right_in hr
  obtain ⟨k, m, d, p⟩ := a
  dsimp only [EvV.cs] at *
  have hS0 := Sep.push (Sep.nil (s := s)) (P := oB s.next [num k, num m, u, num p.k, num p.pt, num p.nr, num p.of_, num p.fr, w, .bool p.fin, num p.se, num p.li]) (s' := s.new (.cells [num k, num m, u, num p.k, num p.pt, num p.nr, num p.of_, num p.fr, w, .bool p.fin, num p.se, num p.li] .own)) (f := [s.next]) ⟨get_new_eq rfl, by rw [next_new]; omega, rfl⟩ .new (by intro z hz; simp at hz; right; omega)
  have hS1 := hS0.push (P := oW (.sl (s.next + 1) 0 1 1 true 1) 1 encB [k % 256]) (s' := (s.new (.cells [num k, num m, u, num p.k, num p.pt, num p.nr, num p.of_, num p.fr, w, .bool p.fin, num p.se, num p.li] .own)).new (.cells [byt (k % 256)] .own)) (f := [s.next + 1]) ⟨.inr ⟨s.next + 1, 1, 1, true, .own, [], rfl, Nat.le_refl _, rfl, get_new_eq rfl, .inl ⟨rfl, rfl⟩⟩, fun _ => rfl, by omega, fun z hz => by simp at hz; subst hz; simp only [next_new]; omega⟩ .new (by intro z hz; simp at hz; right; simp only [next_new]; omega)
  obtain ⟨_, ⟨g1, _, _⟩, _⟩ := Sep.hd (((hS1.re ((List.perm_middle (l₁ := [_])).trans (.cons _ (.refl _))))))
  have hbt : ∀ t, EvV.tail ⟨k, m, d, p⟩ = t → EvV.bytes ⟨k, m, d, p⟩ = [k % 256] ++ t := fun t h => by unfold EvV.bytes; rw [h]
  simp (disch := omega) only [vm0, vm1, vm2, vm3, vm4, vm5, vm6, vm7, vmF, vmT, evo, wr, wrC, frame, Nat.reduceAdd, Nat.reduceMul, Nat.reduceSub, beq_self_eq_true, List.cons_append, List.nil_append, beq_dec, vmI, vc52, f_cvi, cvi_c, cvi8, g1]
  generalize (s.new (.cells [num k, num m, u, num p.k, num p.pt, num p.nr, num p.of_, num p.fr, w, .bool p.fin, num p.se, num p.li] .own)).new (.cells [byt (k % 256)] .own) = s2 at *
  rcases hk with rfl | rfl | rfl | rfl | rfl | rfl | rfl | rfl
  · simp (disch := omega) only [vm0, vm1, vm2, vm3, vm4, vm5, vm6, vm7, vmF, vmT, evo, wr, wrC, frame, Nat.reduceAdd, Nat.reduceMul, Nat.reduceSub, beq_self_eq_true, List.cons_append, List.nil_append, beq_dec, vmI, g1]
    refine call_ok rfl rfl (pack (n + 1) s2 u d (hu.fr0 hS1.frm) (by omega) hfu) ?_
    rintro x s3 ⟨f, a1, a2, a3⟩
    have hd8 := putV_le (d.length : Int)
    have hS2 := hS1.push (P := oW x 1 encB (putV (d.length : Int) ++ d)) a1 a2 a3
    have k1 := a1.rd.lenOf
    have k2 := a1.rd.cellsOf
    have hle : (putV (d.length : Int) ++ d).length ≤ 5000 := (by rw [List.length_append]; omega)
    obtain ⟨fo, ho, up⟩ := Sep.hd (((hS2.re ((List.perm_middle (l₁ := [_])).trans (.cons _ (.refl _))))))
    simp (disch := omega) only [vm0, vm1, vm2, vm3, vm4, vm5, vm6, vm7, vmF, vmT, evo, wr, wrC, frame, Nat.reduceAdd, Nat.reduceMul, Nat.reduceSub, beq_self_eq_true, List.cons_append, List.nil_append, beq_dec, vmI, k1, k2]
    refine op_app (show OwE s3 (.sl (s.next + 1) 0 1 1 true 1) 1 encB [(1 : Int) % 256] fo from ho) .refl (new := putV (d.length : Int) ++ d) rfl rfl (by simp only [List.length_cons, List.length_nil]; omega) ?_
    intro v3 s4 f4 r7 r8 r9
    have hS3 := up (oW v3 1 encB ([(1 : Int) % 256] ++ (putV (d.length : Int) ++ d))) r7 r8 r9
    simp (disch := omega) only [vm0, vm1, vm2, vm3, vm4, vm5, vm6, vm7, vmF, vmT, evo, wr, wrC, frame, Nat.reduceAdd, Nat.reduceMul, Nat.reduceSub, beq_self_eq_true, List.cons_append, List.nil_append, beq_dec, vmI]
    rw [hbt (putV (d.length : Int) ++ d) (by simp [EvV.tail])]
    exact Sep.out1 (((hS3.re ((List.perm_middle (l₁ := [_])).trans (.cons _ ((List.perm_middle (l₁ := [_])).trans (.cons _ (.refl _)))))).drop.drop))
  · simp (disch := omega) only [vm0, vm1, vm2, vm3, vm4, vm5, vm6, vm7, vmF, vmT, evo, wr, wrC, frame, Nat.reduceAdd, Nat.reduceMul, Nat.reduceSub, beq_self_eq_true, List.cons_append, List.nil_append, beq_dec, vmI, g1]
    refine call_ok rfl rfl (pack (n + 1) s2 u d (hu.fr0 hS1.frm) (by omega) hfu) ?_
    rintro x s3 ⟨f, a1, a2, a3⟩
    have hd8 := putV_le (d.length : Int)
    have hS2 := hS1.push (P := oW x 1 encB (putV (d.length : Int) ++ d)) a1 a2 a3
    have k1 := a1.rd.lenOf
    have k2 := a1.rd.cellsOf
    have hle : (putV (d.length : Int) ++ d).length ≤ 5000 := (by rw [List.length_append]; omega)
    obtain ⟨fo, ho, up⟩ := Sep.hd (((hS2.re ((List.perm_middle (l₁ := [_])).trans (.cons _ (.refl _))))))
    simp (disch := omega) only [vm0, vm1, vm2, vm3, vm4, vm5, vm6, vm7, vmF, vmT, evo, wr, wrC, frame, Nat.reduceAdd, Nat.reduceMul, Nat.reduceSub, beq_self_eq_true, List.cons_append, List.nil_append, beq_dec, vmI, k1, k2]
    refine op_app (show OwE s3 (.sl (s.next + 1) 0 1 1 true 1) 1 encB [(2 : Int) % 256] fo from ho) .refl (new := putV (d.length : Int) ++ d) rfl rfl (by simp only [List.length_cons, List.length_nil]; omega) ?_
    intro v3 s4 f4 r7 r8 r9
    have hS3 := up (oW v3 1 encB ([(2 : Int) % 256] ++ (putV (d.length : Int) ++ d))) r7 r8 r9
    simp (disch := omega) only [vm0, vm1, vm2, vm3, vm4, vm5, vm6, vm7, vmF, vmT, evo, wr, wrC, frame, Nat.reduceAdd, Nat.reduceMul, Nat.reduceSub, beq_self_eq_true, List.cons_append, List.nil_append, beq_dec, vmI]
    rw [hbt (putV (d.length : Int) ++ d) (by simp [EvV.tail])]
    exact Sep.out1 (((hS3.re ((List.perm_middle (l₁ := [_])).trans (.cons _ ((List.perm_middle (l₁ := [_])).trans (.cons _ (.refl _)))))).drop.drop))
  · simp (disch := omega) only [vm0, vm1, vm2, vm3, vm4, vm5, vm6, vm7, vmF, vmT, evo, wr, wrC, frame, Nat.reduceAdd, Nat.reduceMul, Nat.reduceSub, beq_self_eq_true, List.cons_append, List.nil_append, beq_dec, vmI, g1]
    refine call_ok rfl rfl (v_put (n + 2) s2 m hn hfu) ?_
    rintro x s3 ⟨f, a1, a2, a3⟩
    have hd8 := putV_le m
    have hS2 := hS1.push (P := oW x 1 encB (putV m)) a1 a2 a3
    have k1 := a1.rd.lenOf
    have k2 := a1.rd.cellsOf
    have hle : (putV m).length ≤ 5000 := (by omega)
    obtain ⟨fo, ho, up⟩ := Sep.hd (((hS2.re ((List.perm_middle (l₁ := [_])).trans (.cons _ (.refl _))))))
    simp (disch := omega) only [vm0, vm1, vm2, vm3, vm4, vm5, vm6, vm7, vmF, vmT, evo, wr, wrC, frame, Nat.reduceAdd, Nat.reduceMul, Nat.reduceSub, beq_self_eq_true, List.cons_append, List.nil_append, beq_dec, vmI, k1, k2]
    refine op_app (show OwE s3 (.sl (s.next + 1) 0 1 1 true 1) 1 encB [(3 : Int) % 256] fo from ho) .refl (new := putV m) rfl rfl (by simp only [List.length_cons, List.length_nil]; omega) ?_
    intro v3 s4 f4 r7 r8 r9
    have hS3 := up (oW v3 1 encB ([(3 : Int) % 256] ++ (putV m))) r7 r8 r9
    simp (disch := omega) only [vm0, vm1, vm2, vm3, vm4, vm5, vm6, vm7, vmF, vmT, evo, wr, wrC, frame, Nat.reduceAdd, Nat.reduceMul, Nat.reduceSub, beq_self_eq_true, List.cons_append, List.nil_append, beq_dec, vmI]
    rw [hbt (putV m) (by simp [EvV.tail])]
    exact Sep.out1 (((hS3.re ((List.perm_middle (l₁ := [_])).trans (.cons _ ((List.perm_middle (l₁ := [_])).trans (.cons _ (.refl _)))))).drop.drop))
  · have hpr1 := hpr (by omega)
    obtain ⟨j1, j2, j3, j4, j5, j6, j7, j8⟩ := PkV.right_in hpr1
    have hpl1 := p_plain1 (bd := bd)  (fu := fu) n s2 p w (hw.fr0 hS1.frm) (by omega) h8 hpr1 j1 j2 j3 j4 j5 j6 j7 hfu
    dsimp only [PkV.cs] at hpl1
    simp (disch := omega) only [vm0, vm1, vm2, vm3, vm4, vm5, vm6, vm7, vmF, vmT, evo, wr, wrC, frame, Nat.reduceAdd, Nat.reduceMul, Nat.reduceSub, beq_self_eq_true, List.cons_append, List.nil_append, beq_dec, vmI, g1]
    refine call_ok rfl rfl hpl1 ?_
    rintro _ s3 ⟨x, rfl, hSx⟩
    obtain ⟨f, a1, a2, a3⟩ := hSx.out1
    have hbl := p.bytes_len
    have hS2 := hS1.push (P := oW x 1 encB (p.bytes)) a1 a2 a3
    have k1 := a1.rd.lenOf
    have k2 := a1.rd.cellsOf
    have hle : (p.bytes).length ≤ 5000 := (by omega)
    obtain ⟨fo, ho, up⟩ := Sep.hd (((hS2.re ((List.perm_middle (l₁ := [_])).trans (.cons _ (.refl _))))))
    simp (disch := omega) only [vm0, vm1, vm2, vm3, vm4, vm5, vm6, vm7, vmF, vmT, evo, wr, wrC, frame, Nat.reduceAdd, Nat.reduceMul, Nat.reduceSub, beq_self_eq_true, List.cons_append, List.nil_append, beq_dec, vmI, k1, k2]
    refine op_app (show OwE s3 (.sl (s.next + 1) 0 1 1 true 1) 1 encB [(4 : Int) % 256] fo from ho) .refl (new := p.bytes) rfl rfl (by simp only [List.length_cons, List.length_nil]; omega) ?_
    intro v3 s4 f4 r7 r8 r9
    have hS3 := up (oW v3 1 encB ([(4 : Int) % 256] ++ (p.bytes))) r7 r8 r9
    simp (disch := omega) only [vm0, vm1, vm2, vm3, vm4, vm5, vm6, vm7, vmF, vmT, evo, wr, wrC, frame, Nat.reduceAdd, Nat.reduceMul, Nat.reduceSub, beq_self_eq_true, List.cons_append, List.nil_append, beq_dec, vmI]
    rw [hbt (p.bytes) (by simp [EvV.tail])]
    exact Sep.out1 (((hS3.re ((List.perm_middle (l₁ := [_])).trans (.cons _ ((List.perm_middle (l₁ := [_])).trans (.cons _ (.refl _)))))).drop.drop))
  · have hpr1 := hpr (by omega)
    obtain ⟨j1, j2, j3, j4, j5, j6, j7, j8⟩ := PkV.right_in hpr1
    have hpl1 := p_plain1 (bd := bd)  (fu := fu) n s2 p w (hw.fr0 hS1.frm) (by omega) h8 hpr1 j1 j2 j3 j4 j5 j6 j7 hfu
    dsimp only [PkV.cs] at hpl1
    simp (disch := omega) only [vm0, vm1, vm2, vm3, vm4, vm5, vm6, vm7, vmF, vmT, evo, wr, wrC, frame, Nat.reduceAdd, Nat.reduceMul, Nat.reduceSub, beq_self_eq_true, List.cons_append, List.nil_append, beq_dec, vmI, g1]
    refine call_ok rfl rfl hpl1 ?_
    rintro _ s3 ⟨x, rfl, hSx⟩
    obtain ⟨f, a1, a2, a3⟩ := hSx.out1
    have hbl := p.bytes_len
    have hS2 := hS1.push (P := oW x 1 encB (p.bytes)) a1 a2 a3
    have k1 := a1.rd.lenOf
    have k2 := a1.rd.cellsOf
    have hle : (p.bytes).length ≤ 5000 := (by omega)
    obtain ⟨fo, ho, up⟩ := Sep.hd (((hS2.re ((List.perm_middle (l₁ := [_])).trans (.cons _ (.refl _))))))
    simp (disch := omega) only [vm0, vm1, vm2, vm3, vm4, vm5, vm6, vm7, vmF, vmT, evo, wr, wrC, frame, Nat.reduceAdd, Nat.reduceMul, Nat.reduceSub, beq_self_eq_true, List.cons_append, List.nil_append, beq_dec, vmI, k1, k2]
    refine op_app (show OwE s3 (.sl (s.next + 1) 0 1 1 true 1) 1 encB [(5 : Int) % 256] fo from ho) .refl (new := p.bytes) rfl rfl (by simp only [List.length_cons, List.length_nil]; omega) ?_
    intro v3 s4 f4 r7 r8 r9
    have hS3 := up (oW v3 1 encB ([(5 : Int) % 256] ++ (p.bytes))) r7 r8 r9
    simp (disch := omega) only [vm0, vm1, vm2, vm3, vm4, vm5, vm6, vm7, vmF, vmT, evo, wr, wrC, frame, Nat.reduceAdd, Nat.reduceMul, Nat.reduceSub, beq_self_eq_true, List.cons_append, List.nil_append, beq_dec, vmI]
    rw [hbt (p.bytes) (by simp [EvV.tail])]
    exact Sep.out1 (((hS3.re ((List.perm_middle (l₁ := [_])).trans (.cons _ ((List.perm_middle (l₁ := [_])).trans (.cons _ (.refl _)))))).drop.drop))
  · simp (disch := omega) only [vm0, vm1, vm2, vm3, vm4, vm5, vm6, vm7, vmF, vmT, evo, wr, wrC, frame, Nat.reduceAdd, Nat.reduceMul, Nat.reduceSub, beq_self_eq_true, List.cons_append, List.nil_append, beq_dec, vmI, g1]
    rw [hbt [] (by simp [EvV.tail]), List.append_nil]
    exact Sep.out1 (((hS1.re ((List.perm_middle (l₁ := [_])).trans (.cons _ (.refl _)))).drop))
  · simp (disch := omega) only [vm0, vm1, vm2, vm3, vm4, vm5, vm6, vm7, vmF, vmT, evo, wr, wrC, frame, Nat.reduceAdd, Nat.reduceMul, Nat.reduceSub, beq_self_eq_true, List.cons_append, List.nil_append, beq_dec, vmI, g1]
    refine call_ok rfl rfl (v_put (n + 2) s2 m hn hfu) ?_
    rintro x s3 ⟨f, a1, a2, a3⟩
    have hd8 := putV_le m
    have hS2 := hS1.push (P := oW x 1 encB (putV m)) a1 a2 a3
    have k1 := a1.rd.lenOf
    have k2 := a1.rd.cellsOf
    have hle : (putV m).length ≤ 5000 := (by omega)
    obtain ⟨fo, ho, up⟩ := Sep.hd (((hS2.re ((List.perm_middle (l₁ := [_])).trans (.cons _ (.refl _))))))
    simp (disch := omega) only [vm0, vm1, vm2, vm3, vm4, vm5, vm6, vm7, vmF, vmT, evo, wr, wrC, frame, Nat.reduceAdd, Nat.reduceMul, Nat.reduceSub, beq_self_eq_true, List.cons_append, List.nil_append, beq_dec, vmI, k1, k2]
    refine op_app (show OwE s3 (.sl (s.next + 1) 0 1 1 true 1) 1 encB [(7 : Int) % 256] fo from ho) .refl (new := putV m) rfl rfl (by simp only [List.length_cons, List.length_nil]; omega) ?_
    intro v3 s4 f4 r7 r8 r9
    have hS3 := up (oW v3 1 encB ([(7 : Int) % 256] ++ (putV m))) r7 r8 r9
    simp (disch := omega) only [vm0, vm1, vm2, vm3, vm4, vm5, vm6, vm7, vmF, vmT, evo, wr, wrC, frame, Nat.reduceAdd, Nat.reduceMul, Nat.reduceSub, beq_self_eq_true, List.cons_append, List.nil_append, beq_dec, vmI]
    rw [hbt (putV m) (by simp [EvV.tail])]
    exact Sep.out1 (((hS3.re ((List.perm_middle (l₁ := [_])).trans (.cons _ ((List.perm_middle (l₁ := [_])).trans (.cons _ (.refl _)))))).drop.drop))
  · simp (disch := omega) only [vm0, vm1, vm2, vm3, vm4, vm5, vm6, vm7, vmF, vmT, evo, wr, wrC, frame, Nat.reduceAdd, Nat.reduceMul, Nat.reduceSub, beq_self_eq_true, List.cons_append, List.nil_append, beq_dec, vmI, g1]
    refine call_ok rfl rfl (v_put (n + 2) s2 m hn hfu) ?_
    rintro x s3 ⟨f, a1, a2, a3⟩
    have hd8 := putV_le m
    have hS2 := hS1.push (P := oW x 1 encB (putV m)) a1 a2 a3
    have k1 := a1.rd.lenOf
    have k2 := a1.rd.cellsOf
    have hle : (putV m).length ≤ 5000 := (by omega)
    obtain ⟨fo, ho, up⟩ := Sep.hd (((hS2.re ((List.perm_middle (l₁ := [_])).trans (.cons _ (.refl _))))))
    simp (disch := omega) only [vm0, vm1, vm2, vm3, vm4, vm5, vm6, vm7, vmF, vmT, evo, wr, wrC, frame, Nat.reduceAdd, Nat.reduceMul, Nat.reduceSub, beq_self_eq_true, List.cons_append, List.nil_append, beq_dec, vmI, k1, k2]
    refine op_app (show OwE s3 (.sl (s.next + 1) 0 1 1 true 1) 1 encB [(8 : Int) % 256] fo from ho) .refl (new := putV m) rfl rfl (by simp only [List.length_cons, List.length_nil]; omega) ?_
    intro v3 s4 f4 r7 r8 r9
    have hS3 := up (oW v3 1 encB ([(8 : Int) % 256] ++ (putV m))) r7 r8 r9
    simp (disch := omega) only [vm0, vm1, vm2, vm3, vm4, vm5, vm6, vm7, vmF, vmT, evo, wr, wrC, frame, Nat.reduceAdd, Nat.reduceMul, Nat.reduceSub, beq_self_eq_true, List.cons_append, List.nil_append, beq_dec, vmI]
    rw [hbt (putV m) (by simp [EvV.tail])]
    exact Sep.out1 (((hS3.re ((List.perm_middle (l₁ := [_])).trans (.cons _ ((List.perm_middle (l₁ := [_])).trans (.cons _ (.refl _)))))).drop.drop))
end
end Go.Proofs.Ytgckbcljlkkceaa.ctr
namespace Go.Proofs.Ytgckbcljlkkceaa.ctr
open Go Go.Vm Go.RowKit
set_option linter.unusedVariables false
set_option linter.constructorNameAsVariable false
set_option linter.unusedSimpArgs false
/-- an event of a list, with its slices -/
structure EvR where
  e : EvV
  u : AV
  w : AV
def EvR.enc (x : EvR) : List AV := x.e.cs x.u x.w
theorem EvR.wid : ∀ x : EvR, x.enc.length = 12 := fun _ => rfl
structure EvR.ok (s : St) (x : EvR) : Prop where
  u : RdE s x.u 1 encB x.e.d
  w : RdE s x.w 1 encB x.e.p.d
  h8 : ∀ y ∈ x.e.d, In8 y
  h9 : ∀ y ∈ x.e.p.d, In8 y
  hl : x.e.d.length ≤ 1000000
  hpl : x.e.p.d.length ≤ 1000000
theorem EvR.ok.fr0 {s s' : St} {x : EvR} (h : x.ok s) (f : Fr s s' []) : x.ok s' := ⟨h.u.fr0 f, h.w.fr0 f, h.h8, h.h9, h.hl, h.hpl⟩
def evsOk (s : St) (l : List EvR) : Prop := ∀ x ∈ l, x.ok s
theorem evsOk.fr0 {s s' : St} {l : List EvR} (h : evsOk s l) (f : Fr s s' []) : evsOk s' l := fun x hx => (h x hx).fr0 f
def allR (l : List EvR) : Bool := l.all fun x => x.e.right
def evB (l : List EvR) : List Int := l.flatMap fun x => x.e.bytes
theorem evB_le (l : List EvR) (i : Nat) : (evB (l.take i)).length ≤ (evB l).length := by
  have : evB l = evB (l.take i) ++ evB (l.drop i) := by unfold evB; rw [← List.flatMap_append, List.take_append_drop]
  rw [this, List.length_append]; omega
section
variable {bd : Bd} {fu : Nat}
set_option maxHeartbeats 2000000 in
theorem e_pack (n : Nat) (s : St) (v : AV) (l : List EvR) (hv : RdE s v 12 EvR.enc l) (hl : evsOk s l) (hN : l.length < fu) (hN2 : l.length < 140737488355232) (hB : (evB l).length ≤ 140737488350000) (hfu : 10 < fu) :
    OutOk (callF bd tab.get fu (n + 6) 8 [v] s) (fun x s' => if allR l then ∃ y fp, Is x (.tup [y, num 0]) ∧ OwE s' y 1 encB (evB l) fp ∧ Fr s s' [] ∧ Nw s [] fp else Is x (.tup [.nils, num 1]) ∧ Fr s s' []) := by
  refine call_code t8 rfl ?_
  have hlen := hv.lenV
  simp (disch := omega) only [vm0, vm1, vm2, vm3, vm4, vm5, vm6, vm7, vmF, vmT, evo, wr, wrC, frame, Nat.reduceAdd, Nat.reduceMul, Nat.reduceSub, beq_self_eq_true, List.cons_append, List.nil_append, beq_dec, vmI, vc8, hlen]
  refine x_loop (fun k F s' => ∃ i : Nat, ∃ z x2 x3 x6 x8 vo, k = l.length - i ∧ i ≤ l.length ∧ z = (i : Int) ∧ F = [some v, some (num z), x2, x3, some vo, some (num (l.length : Int)), x6, some v, x8, some .nils, some (num 0)] ∧ allR (l.take i) = true ∧ Sep s s' [oW vo 1 encB (evB (l.take i))]) l.length hN ?_ ?_
  · exact ⟨0, _, _, _, _, _, _, by omega, by omega, rfl, rfl, rfl, Sep.nil.push (P := oW .nils 1 encB []) (f := []) (.nil encB_w (by omega)) .refl (by simp [Nw])⟩
  · rintro k F s1 ⟨i, _, x2, x3, x6, x8, vo, rfl, hi, rfl, rfl, har, hS⟩ hk
    by_cases hlt : i < l.length
    · obtain ⟨x, hx⟩ : ∃ x, l[i]? = some x := ⟨_, List.getElem?_eq_getElem hlt⟩
      have hxm : x ∈ l := List.mem_of_getElem? hx
      have e1 := (hv.fr0 hS.frm).ia hx
      have e2 := (hv.fr0 hS.frm).at hx
      have hxo := hl x hxm
      have ht : l.take (i + 1) = l.take i ++ [x] := by rw [List.take_add_one, hx]; rfl
      have htb := evB_le l (i + 1)
      have hb1 : evB (l.take (i + 1)) = evB (l.take i) ++ x.e.bytes := by rw [ht]; simp [evB]
      have ha1 : allR (l.take (i + 1)) = (allR (l.take i) && x.e.right) := by rw [ht]; simp [allR]
      have ha2 : x.e.right = false → allR l = false := fun h => by
        unfold allR
        rw [List.all_eq_false]
        exact ⟨x, hxm, by simp [h]⟩
      have hS2 := hS.cell [num 0, num 0, .nils, num 0, num 0, num 0, num 0, num 0, .nils, .bool false, num 0, num 0] (x.e.cs x.u x.w)
      have g2 := hS2.getC
      unfold EvR.enc at e2
      have hck := e_check (bd := bd)  (fu := fu) n ((s1.new (.cells [num 0, num 0, .nils, num 0, num 0, num 0, num 0, num 0, .nils, .bool false, num 0, num 0] .own)).put s1.next (some (.cells (x.e.cs x.u x.w) .own))) x.e x.u x.w (hxo.u.fr0 hS2.frm) (hxo.w.fr0 hS2.frm) hxo.hpl hxo.h8 hxo.h9
      have hcs : ∀ e u w, EvV.cs e u w = [num e.k, num e.n, u, num e.p.k, num e.p.pt, num e.p.nr, num e.p.of_, num e.p.fr, w, .bool e.p.fin, num e.p.se, num e.p.li] := fun _ _ _ => rfl
      rw [hcs] at e2 hS2 g2 hck
      simp (disch := omega) only [vm0, vm1, vm2, vm3, vm4, vm5, vm6, vm7, vmF, vmT, evo, wr, wrC, frame, Nat.reduceAdd, Nat.reduceMul, Nat.reduceSub, beq_self_eq_true, List.cons_append, List.nil_append, beq_dec, vmI, e1, e2]
      refine call_ok rfl rfl hck ?_
      clear hck
      generalize ((s1.new (.cells [num 0, num 0, .nils, num 0, num 0, num 0, num 0, num 0, .nils, .bool false, num 0, num 0] .own)).put s1.next (some (.cells [num x.e.k, num x.e.n, x.u, num x.e.p.k, num x.e.p.pt, num x.e.p.nr, num x.e.p.of_, num x.e.p.fr, x.w, .bool x.e.p.fin, num x.e.p.se, num x.e.p.li] .own))) = s2 at *
      rintro y s3 ⟨rfl, hf3⟩
      have hS3 := hS2.fr hf3
      have g3 := hS3.getC
      cases hr : x.e.right
      · rw [if_neg (by simp)]
        simp (disch := omega) only [vm0, vm1, vm2, vm3, vm4, vm5, vm6, vm7, vmF, vmT, evo, wr, wrC, frame, Nat.reduceAdd, Nat.reduceMul, Nat.reduceSub, beq_self_eq_true, List.cons_append, List.nil_append, beq_dec, vmI, g2, g3]
        rw [ha2 hr, if_neg (by simp)]
        exact ⟨rfl, hS3.frm⟩
      · rw [if_pos rfl]
        have hpt := e_put (bd := bd)  (fu := fu) n s3 x.e x.u x.w (hxo.u.fr0 hS3.frm) (hxo.w.fr0 hS3.frm) hxo.h9 hr hfu
        rw [hcs] at hpt
        simp (disch := omega) only [vm0, vm1, vm2, vm3, vm4, vm5, vm6, vm7, vmF, vmT, evo, wr, wrC, frame, Nat.reduceAdd, Nat.reduceMul, Nat.reduceSub, beq_self_eq_true, List.cons_append, List.nil_append, beq_dec, vmI, g2, g3]
        refine call_ok rfl rfl hpt ?_
        rintro y s4 ⟨fp, a1, a2, a3⟩
        have hS4 := hS3.push (P := oW y 1 encB x.e.bytes) a1 a2 a3
        have k1 := a1.rd.lenOf
        have k2 := a1.rd.cellsOf
        obtain ⟨fo, ho, up⟩ := Sep.hd (((hS4.re ((List.perm_middle (l₁ := [_, _])).trans (.cons _ (.refl _))))))
        have htb2 : (evB (l.take i)).length + x.e.bytes.length ≤ (evB l).length := by rw [hb1, List.length_append] at htb; exact htb
        simp (disch := omega) only [vm0, vm1, vm2, vm3, vm4, vm5, vm6, vm7, vmF, vmT, evo, wr, wrC, frame, Nat.reduceAdd, Nat.reduceMul, Nat.reduceSub, beq_self_eq_true, List.cons_append, List.nil_append, beq_dec, vmI, k1, k2]
        refine op_app (show OwE s4 vo 1 encB (evB (l.take i)) fo from ho) .refl (new := x.e.bytes) rfl rfl (by omega) ?_
        intro v3 s5 f4 r7 r8 r9
        have hS5 := up (oW v3 1 encB (evB (l.take i) ++ x.e.bytes)) r7 r8 r9
        simp (disch := omega) only [vm0, vm1, vm2, vm3, vm4, vm5, vm6, vm7, vmF, vmT, evo, wr, wrC, frame, Nat.reduceAdd, Nat.reduceMul, Nat.reduceSub, beq_self_eq_true, List.cons_append, List.nil_append, beq_dec, vmI]
        exact ⟨l.length - (i + 1), by omega, i + 1, _, _, _, _, _, _, rfl, by omega, by omega, rfl, by rw [ha1, har, hr]; rfl, by rw [hb1]; exact ((hS5.re ((List.perm_middle (l₁ := [_])).trans (.cons _ ((List.perm_middle (l₁ := [_])).trans (.cons _ (.refl _)))))).drop.drop)⟩
    · obtain rfl : i = l.length := by omega
      rw [List.take_length] at har hS
      simp (disch := omega) only [vm0, vm1, vm2, vm3, vm4, vm5, vm6, vm7, vmF, vmT, evo, wr, wrC, frame, Nat.reduceAdd, Nat.reduceMul, Nat.reduceSub, beq_self_eq_true, List.cons_append, List.nil_append, beq_dec, vmI]
      rw [har, if_pos rfl]
      obtain ⟨fp, q1, q2, q3⟩ := hS.out1
      exact ⟨_, fp, rfl, q1, q2, q3⟩
end
end Go.Proofs.Ytgckbcljlkkceaa.ctr
namespace Go.Proofs.Ytgckbcljlkkceaa.ctr
open Go Go.Vm Go.RowKit
set_option linter.unusedVariables false
set_option linter.constructorNameAsVariable false
set_option linter.unusedSimpArgs false
section
variable {bd : Bd} {fu : Nat}
set_option maxHeartbeats 4000000 in
theorem u_pack (n : Nat) (s : St) (v : AV) (l : List EvR) (hv : RdE s v 12 EvR.enc l) (hl : evsOk s l) (hN : l.length < fu) (hN2 : l.length < 140737488355232) (hB : (evB l).length ≤ 140737488350000) (hfu : 10 < fu) :
    OutOk (callF bd tab.get fu (n + 6) 9 [v] s) (fun x s' => if allR l then ∃ y fp, Is x (.tup [y, .bool true]) ∧ OwE s' y 1 encB (evB l) fp ∧ Fr s s' [] ∧ Nw s [] fp else Is x (.tup [.nils, .bool false]) ∧ Fr s s' []) := by
  refine call_code t9 rfl ?_
  have hlen := hv.lenV
  simp (disch := omega) only [vm0, vm1, vm2, vm3, vm4, vm5, vm6, vm7, vmF, vmT, evo, wr, wrC, frame, Nat.reduceAdd, Nat.reduceMul, Nat.reduceSub, beq_self_eq_true, List.cons_append, List.nil_append, beq_dec, vmI, vc9, hlen]
  refine x_loop (fun k F s' => ∃ i : Nat, ∃ z x1 x2 x5 x6 x7 x9 x11 x12 vo, k = l.length - i ∧ i ≤ l.length ∧ z = (i : Int) ∧ F = [some v, x1, x2, some vo, some (num z), x5, x6, x7, some (num (l.length : Int)), x9, some v, x11, x12, some .nils, some (.bool false)] ∧ allR (l.take i) = true ∧ Sep s s' [oW vo 1 encB (evB (l.take i))]) l.length hN ?_ ?_
  · exact ⟨0, _, _, _, _, _, _, _, _, _, _, by omega, by omega, rfl, rfl, rfl, Sep.nil.push (P := oW .nils 1 encB []) (f := []) (.nil encB_w (by omega)) .refl (by simp [Nw])⟩
  · rintro k F s1 ⟨i, _, x1, x2, x5, x6, x7, x9, x11, x12, vo, rfl, hi, rfl, rfl, har, hS⟩ hk
    by_cases hlt : i < l.length
    · obtain ⟨x, hx⟩ : ∃ x, l[i]? = some x := ⟨_, List.getElem?_eq_getElem hlt⟩
      have hxm : x ∈ l := List.mem_of_getElem? hx
      have e1 := (hv.fr0 hS.frm).ia hx
      have e2 := (hv.fr0 hS.frm).at hx
      have hxo := hl x hxm
      have ht : l.take (i + 1) = l.take i ++ [x] := by rw [List.take_add_one, hx]; rfl
      have htb := evB_le l (i + 1)
      have hb1 : evB (l.take (i + 1)) = evB (l.take i) ++ x.e.bytes := by rw [ht]; simp [evB]
      have ha1 : allR (l.take (i + 1)) = (allR (l.take i) && x.e.right) := by rw [ht]; simp [allR]
      have ha2 : x.e.right = false → allR l = false := fun h => by
        unfold allR
        rw [List.all_eq_false]
        exact ⟨x, hxm, by simp [h]⟩
      have hS2 := hS.cell [num 0, num 0, .nils, num 0, num 0, num 0, num 0, num 0, .nils, .bool false, num 0, num 0] (x.e.cs x.u x.w)
      have g2 := hS2.getC
      unfold EvR.enc at e2
      have hck := u_rightE (bd := bd)  (fu := fu) (n + 1) ((s1.new (.cells [num 0, num 0, .nils, num 0, num 0, num 0, num 0, num 0, .nils, .bool false, num 0, num 0] .own)).put s1.next (some (.cells (x.e.cs x.u x.w) .own))) x.e x.u x.w (hxo.u.fr0 hS2.frm) (hxo.w.fr0 hS2.frm) hxo.hpl hxo.h9
      have hcs : ∀ e u w, EvV.cs e u w = [num e.k, num e.n, u, num e.p.k, num e.p.pt, num e.p.nr, num e.p.of_, num e.p.fr, w, .bool e.p.fin, num e.p.se, num e.p.li] := fun _ _ _ => rfl
      rw [hcs] at e2 hS2 g2 hck
      simp (disch := omega) only [vm0, vm1, vm2, vm3, vm4, vm5, vm6, vm7, vmF, vmT, evo, wr, wrC, frame, Nat.reduceAdd, Nat.reduceMul, Nat.reduceSub, beq_self_eq_true, List.cons_append, List.nil_append, beq_dec, vmI, e1, e2]
      refine call_ok rfl rfl hck ?_
      clear hck
      generalize ((s1.new (.cells [num 0, num 0, .nils, num 0, num 0, num 0, num 0, num 0, .nils, .bool false, num 0, num 0] .own)).put s1.next (some (.cells [num x.e.k, num x.e.n, x.u, num x.e.p.k, num x.e.p.pt, num x.e.p.nr, num x.e.p.of_, num x.e.p.fr, x.w, .bool x.e.p.fin, num x.e.p.se, num x.e.p.li] .own))) = s2 at *
      rintro y s3 ⟨rfl, hf3⟩
      have hS3 := hS2.fr hf3
      have g3 := hS3.getC
      have htb2 : (evB (l.take i)).length + x.e.bytes.length ≤ (evB l).length := by rw [hb1, List.length_append] at htb; exact htb
      cases hr : x.e.right
      · simp (disch := omega) only [vm0, vm1, vm2, vm3, vm4, vm5, vm6, vm7, vmF, vmT, evo, wr, wrC, frame, Nat.reduceAdd, Nat.reduceMul, Nat.reduceSub, beq_self_eq_true, List.cons_append, List.nil_append, beq_dec, vmI, g2, g3]
        rw [ha2 hr, if_neg (by simp)]
        exact ⟨rfl, hS3.frm⟩
      · obtain ⟨hk, hn, hdl, hpr, hpl⟩ := EvV.right_in hr
        have hb0 : 1 ≤ x.e.bytes.length := by unfold EvV.bytes; simp
        obtain ⟨fo, ho, up⟩ := Sep.hd (((hS3.re ((List.perm_middle (l₁ := [_])).trans (.cons _ (.refl _))))))
        simp (disch := omega) only [vm0, vm1, vm2, vm3, vm4, vm5, vm6, vm7, vmF, vmT, evo, wr, wrC, frame, Nat.reduceAdd, Nat.reduceMul, Nat.reduceSub, beq_self_eq_true, List.cons_append, List.nil_append, beq_dec, vmI, g2, g3, f_cvi, cvi_c, cvi8]
        refine op_app (show OwE s3 vo 1 encB (evB (l.take i)) fo from ho) .new (new := [x.e.k % 256]) rfl rfl (by show (evB (l.take i)).length + 1 ≤ _; omega) ?_
        intro v3 s5 f4 r7 r8 r9
        have hS5a := up (oW v3 1 encB (evB (l.take i) ++ [x.e.k % 256])) r7 r8 r9
        have hS5 := ((hS5a.re (.refl _)))
        obtain ⟨_, ⟨g5, _, _⟩, _⟩ := Sep.hd (((hS5.re ((List.perm_middle (l₁ := [_])).trans (.cons _ (.refl _))))))
        obtain ⟨⟨k, m, d, p⟩, u, w⟩ := x
        dsimp only at *
        rcases hk with rfl | rfl | rfl | rfl | rfl | rfl | rfl | rfl
        · simp (disch := omega) only [vm0, vm1, vm2, vm3, vm4, vm5, vm6, vm7, vmF, vmT, evo, wr, wrC, frame, Nat.reduceAdd, Nat.reduceMul, Nat.reduceSub, beq_self_eq_true, List.cons_append, List.nil_append, beq_dec, vmI, g5]
          refine call_ok rfl rfl (u_wrap (n + 2) s5 u d (hxo.u.fr0 hS5.frm) (by omega) hfu) ?_
          rintro y s6 ⟨f, a1, a2, a3⟩
          have hS6 := hS5.push (P := oW y 1 encB (putV (d.length : Int) ++ d)) a1 a2 a3
          have k1 := a1.rd.lenOf
          have k2 := a1.rd.cellsOf
          obtain ⟨fo2, ho2, up2⟩ := Sep.hd (((hS6.re ((List.perm_middle (l₁ := [_])).trans (.cons _ (.refl _))))))
          have hbt : EvV.bytes ⟨1, m, d, p⟩ = [(1 : Int) % 256] ++ (putV (d.length : Int) ++ d) := by simp [EvV.bytes, EvV.tail]
          rw [hbt] at hb1 htb2
          rw [List.length_append, List.length_singleton] at htb2
          simp (disch := omega) only [vm0, vm1, vm2, vm3, vm4, vm5, vm6, vm7, vmF, vmT, evo, wr, wrC, frame, Nat.reduceAdd, Nat.reduceMul, Nat.reduceSub, beq_self_eq_true, List.cons_append, List.nil_append, beq_dec, vmI, k1, k2]
          refine op_app (show OwE s6 v3 1 encB (evB (l.take i) ++ [(1 : Int) % 256]) fo2 from ho2) .refl (new := putV (d.length : Int) ++ d) rfl rfl (by rw [List.length_append, List.length_singleton]; omega) ?_
          intro v4 s7 f7 r10 r11 r12
          have hS7 := up2 (oW v4 1 encB (evB (l.take i) ++ [(1 : Int) % 256] ++ (putV (d.length : Int) ++ d))) r10 r11 r12
          simp (disch := omega) only [vm0, vm1, vm2, vm3, vm4, vm5, vm6, vm7, vmF, vmT, evo, wr, wrC, frame, Nat.reduceAdd, Nat.reduceMul, Nat.reduceSub, beq_self_eq_true, List.cons_append, List.nil_append, beq_dec, vmI]
          exact ⟨l.length - (i + 1), by omega, i + 1, _, _, _, _, _, _, _, _, _, _, rfl, by omega, by omega, rfl, by rw [ha1, har, hr]; rfl, by rw [hb1, ← List.append_assoc]; exact ((hS7.re ((List.perm_middle (l₁ := [_])).trans (.cons _ ((List.perm_middle (l₁ := [_])).trans (.cons _ (.refl _)))))).drop.drop)⟩
        · simp (disch := omega) only [vm0, vm1, vm2, vm3, vm4, vm5, vm6, vm7, vmF, vmT, evo, wr, wrC, frame, Nat.reduceAdd, Nat.reduceMul, Nat.reduceSub, beq_self_eq_true, List.cons_append, List.nil_append, beq_dec, vmI, g5]
          refine call_ok rfl rfl (u_wrap (n + 2) s5 u d (hxo.u.fr0 hS5.frm) (by omega) hfu) ?_
          rintro y s6 ⟨f, a1, a2, a3⟩
          have hS6 := hS5.push (P := oW y 1 encB (putV (d.length : Int) ++ d)) a1 a2 a3
          have k1 := a1.rd.lenOf
          have k2 := a1.rd.cellsOf
          obtain ⟨fo2, ho2, up2⟩ := Sep.hd (((hS6.re ((List.perm_middle (l₁ := [_])).trans (.cons _ (.refl _))))))
          have hbt : EvV.bytes ⟨2, m, d, p⟩ = [(2 : Int) % 256] ++ (putV (d.length : Int) ++ d) := by simp [EvV.bytes, EvV.tail]
          rw [hbt] at hb1 htb2
          rw [List.length_append, List.length_singleton] at htb2
          simp (disch := omega) only [vm0, vm1, vm2, vm3, vm4, vm5, vm6, vm7, vmF, vmT, evo, wr, wrC, frame, Nat.reduceAdd, Nat.reduceMul, Nat.reduceSub, beq_self_eq_true, List.cons_append, List.nil_append, beq_dec, vmI, k1, k2]
          refine op_app (show OwE s6 v3 1 encB (evB (l.take i) ++ [(2 : Int) % 256]) fo2 from ho2) .refl (new := putV (d.length : Int) ++ d) rfl rfl (by rw [List.length_append, List.length_singleton]; omega) ?_
          intro v4 s7 f7 r10 r11 r12
          have hS7 := up2 (oW v4 1 encB (evB (l.take i) ++ [(2 : Int) % 256] ++ (putV (d.length : Int) ++ d))) r10 r11 r12
          simp (disch := omega) only [vm0, vm1, vm2, vm3, vm4, vm5, vm6, vm7, vmF, vmT, evo, wr, wrC, frame, Nat.reduceAdd, Nat.reduceMul, Nat.reduceSub, beq_self_eq_true, List.cons_append, List.nil_append, beq_dec, vmI]
          exact ⟨l.length - (i + 1), by omega, i + 1, _, _, _, _, _, _, _, _, _, _, rfl, by omega, by omega, rfl, by rw [ha1, har, hr]; rfl, by rw [hb1, ← List.append_assoc]; exact ((hS7.re ((List.perm_middle (l₁ := [_])).trans (.cons _ ((List.perm_middle (l₁ := [_])).trans (.cons _ (.refl _)))))).drop.drop)⟩
        · simp (disch := omega) only [vm0, vm1, vm2, vm3, vm4, vm5, vm6, vm7, vmF, vmT, evo, wr, wrC, frame, Nat.reduceAdd, Nat.reduceMul, Nat.reduceSub, beq_self_eq_true, List.cons_append, List.nil_append, beq_dec, vmI, g5]
          refine call_ok rfl rfl (w_put (n + 3) s5 m hn hfu) ?_
          rintro y s6 ⟨f, a1, a2, a3⟩
          have hS6 := hS5.push (P := oW y 1 encB (putV m)) a1 a2 a3
          have k1 := a1.rd.lenOf
          have k2 := a1.rd.cellsOf
          obtain ⟨fo2, ho2, up2⟩ := Sep.hd (((hS6.re ((List.perm_middle (l₁ := [_])).trans (.cons _ (.refl _))))))
          have hbt : EvV.bytes ⟨3, m, d, p⟩ = [(3 : Int) % 256] ++ (putV m) := by simp [EvV.bytes, EvV.tail]
          rw [hbt] at hb1 htb2
          rw [List.length_append, List.length_singleton] at htb2
          simp (disch := omega) only [vm0, vm1, vm2, vm3, vm4, vm5, vm6, vm7, vmF, vmT, evo, wr, wrC, frame, Nat.reduceAdd, Nat.reduceMul, Nat.reduceSub, beq_self_eq_true, List.cons_append, List.nil_append, beq_dec, vmI, k1, k2]
          refine op_app (show OwE s6 v3 1 encB (evB (l.take i) ++ [(3 : Int) % 256]) fo2 from ho2) .refl (new := putV m) rfl rfl (by rw [List.length_append, List.length_singleton]; omega) ?_
          intro v4 s7 f7 r10 r11 r12
          have hS7 := up2 (oW v4 1 encB (evB (l.take i) ++ [(3 : Int) % 256] ++ (putV m))) r10 r11 r12
          simp (disch := omega) only [vm0, vm1, vm2, vm3, vm4, vm5, vm6, vm7, vmF, vmT, evo, wr, wrC, frame, Nat.reduceAdd, Nat.reduceMul, Nat.reduceSub, beq_self_eq_true, List.cons_append, List.nil_append, beq_dec, vmI]
          exact ⟨l.length - (i + 1), by omega, i + 1, _, _, _, _, _, _, _, _, _, _, rfl, by omega, by omega, rfl, by rw [ha1, har, hr]; rfl, by rw [hb1, ← List.append_assoc]; exact ((hS7.re ((List.perm_middle (l₁ := [_])).trans (.cons _ ((List.perm_middle (l₁ := [_])).trans (.cons _ (.refl _)))))).drop.drop)⟩
        · have hpr1 := hpr (by omega)
          obtain ⟨j1, j2, j3, j4, j5, j6, j7, j8⟩ := PkV.right_in hpr1
          have hpl1 := u_plain1 (bd := bd)  (fu := fu) (n + 1) s5 p w (hxo.w.fr0 hS5.frm) (by omega) hpr1 j1 j2 j3 j4 j5 j6 j7 hfu
          dsimp only [PkV.cs] at hpl1
          simp (disch := omega) only [vm0, vm1, vm2, vm3, vm4, vm5, vm6, vm7, vmF, vmT, evo, wr, wrC, frame, Nat.reduceAdd, Nat.reduceMul, Nat.reduceSub, beq_self_eq_true, List.cons_append, List.nil_append, beq_dec, vmI, g5]
          refine call_ok rfl rfl hpl1 ?_
          rintro _ s6 ⟨y, rfl, hSx⟩
          obtain ⟨f, a1, a2, a3⟩ := hSx.out1
          have hS6 := hS5.push (P := oW y 1 encB (p.bytes)) a1 a2 a3
          have k1 := a1.rd.lenOf
          have k2 := a1.rd.cellsOf
          obtain ⟨fo2, ho2, up2⟩ := Sep.hd (((hS6.re ((List.perm_middle (l₁ := [_])).trans (.cons _ (.refl _))))))
          have hbt : EvV.bytes ⟨4, m, d, p⟩ = [(4 : Int) % 256] ++ (p.bytes) := by simp [EvV.bytes, EvV.tail]
          rw [hbt] at hb1 htb2
          rw [List.length_append, List.length_singleton] at htb2
          simp (disch := omega) only [vm0, vm1, vm2, vm3, vm4, vm5, vm6, vm7, vmF, vmT, evo, wr, wrC, frame, Nat.reduceAdd, Nat.reduceMul, Nat.reduceSub, beq_self_eq_true, List.cons_append, List.nil_append, beq_dec, vmI, k1, k2]
          refine op_app (show OwE s6 v3 1 encB (evB (l.take i) ++ [(4 : Int) % 256]) fo2 from ho2) .refl (new := p.bytes) rfl rfl (by rw [List.length_append, List.length_singleton]; omega) ?_
          intro v4 s7 f7 r10 r11 r12
          have hS7 := up2 (oW v4 1 encB (evB (l.take i) ++ [(4 : Int) % 256] ++ (p.bytes))) r10 r11 r12
          simp (disch := omega) only [vm0, vm1, vm2, vm3, vm4, vm5, vm6, vm7, vmF, vmT, evo, wr, wrC, frame, Nat.reduceAdd, Nat.reduceMul, Nat.reduceSub, beq_self_eq_true, List.cons_append, List.nil_append, beq_dec, vmI]
          exact ⟨l.length - (i + 1), by omega, i + 1, _, _, _, _, _, _, _, _, _, _, rfl, by omega, by omega, rfl, by rw [ha1, har, hr]; rfl, by rw [hb1, ← List.append_assoc]; exact ((hS7.re ((List.perm_middle (l₁ := [_])).trans (.cons _ ((List.perm_middle (l₁ := [_])).trans (.cons _ (.refl _)))))).drop.drop)⟩
        · have hpr1 := hpr (by omega)
          obtain ⟨j1, j2, j3, j4, j5, j6, j7, j8⟩ := PkV.right_in hpr1
          have hpl1 := u_plain1 (bd := bd)  (fu := fu) (n + 1) s5 p w (hxo.w.fr0 hS5.frm) (by omega) hpr1 j1 j2 j3 j4 j5 j6 j7 hfu
          dsimp only [PkV.cs] at hpl1
          simp (disch := omega) only [vm0, vm1, vm2, vm3, vm4, vm5, vm6, vm7, vmF, vmT, evo, wr, wrC, frame, Nat.reduceAdd, Nat.reduceMul, Nat.reduceSub, beq_self_eq_true, List.cons_append, List.nil_append, beq_dec, vmI, g5]
          refine call_ok rfl rfl hpl1 ?_
          rintro _ s6 ⟨y, rfl, hSx⟩
          obtain ⟨f, a1, a2, a3⟩ := hSx.out1
          have hS6 := hS5.push (P := oW y 1 encB (p.bytes)) a1 a2 a3
          have k1 := a1.rd.lenOf
          have k2 := a1.rd.cellsOf
          obtain ⟨fo2, ho2, up2⟩ := Sep.hd (((hS6.re ((List.perm_middle (l₁ := [_])).trans (.cons _ (.refl _))))))
          have hbt : EvV.bytes ⟨5, m, d, p⟩ = [(5 : Int) % 256] ++ (p.bytes) := by simp [EvV.bytes, EvV.tail]
          rw [hbt] at hb1 htb2
          rw [List.length_append, List.length_singleton] at htb2
          simp (disch := omega) only [vm0, vm1, vm2, vm3, vm4, vm5, vm6, vm7, vmF, vmT, evo, wr, wrC, frame, Nat.reduceAdd, Nat.reduceMul, Nat.reduceSub, beq_self_eq_true, List.cons_append, List.nil_append, beq_dec, vmI, k1, k2]
          refine op_app (show OwE s6 v3 1 encB (evB (l.take i) ++ [(5 : Int) % 256]) fo2 from ho2) .refl (new := p.bytes) rfl rfl (by rw [List.length_append, List.length_singleton]; omega) ?_
          intro v4 s7 f7 r10 r11 r12
          have hS7 := up2 (oW v4 1 encB (evB (l.take i) ++ [(5 : Int) % 256] ++ (p.bytes))) r10 r11 r12
          simp (disch := omega) only [vm0, vm1, vm2, vm3, vm4, vm5, vm6, vm7, vmF, vmT, evo, wr, wrC, frame, Nat.reduceAdd, Nat.reduceMul, Nat.reduceSub, beq_self_eq_true, List.cons_append, List.nil_append, beq_dec, vmI]
          exact ⟨l.length - (i + 1), by omega, i + 1, _, _, _, _, _, _, _, _, _, _, rfl, by omega, by omega, rfl, by rw [ha1, har, hr]; rfl, by rw [hb1, ← List.append_assoc]; exact ((hS7.re ((List.perm_middle (l₁ := [_])).trans (.cons _ ((List.perm_middle (l₁ := [_])).trans (.cons _ (.refl _)))))).drop.drop)⟩
        · simp (disch := omega) only [vm0, vm1, vm2, vm3, vm4, vm5, vm6, vm7, vmF, vmT, evo, wr, wrC, frame, Nat.reduceAdd, Nat.reduceMul, Nat.reduceSub, beq_self_eq_true, List.cons_append, List.nil_append, beq_dec, vmI, g5]
          have hbt : EvV.bytes ⟨6, m, d, p⟩ = [(6 : Int) % 256] := by simp [EvV.bytes, EvV.tail]
          rw [hbt] at hb1 htb2
          exact ⟨l.length - (i + 1), by omega, i + 1, _, _, _, _, _, _, _, _, _, _, rfl, by omega, by omega, rfl, by rw [ha1, har, hr]; rfl, by rw [hb1]; exact ((hS5.re ((List.perm_middle (l₁ := [_])).trans (.cons _ (.refl _)))).drop)⟩
        · simp (disch := omega) only [vm0, vm1, vm2, vm3, vm4, vm5, vm6, vm7, vmF, vmT, evo, wr, wrC, frame, Nat.reduceAdd, Nat.reduceMul, Nat.reduceSub, beq_self_eq_true, List.cons_append, List.nil_append, beq_dec, vmI, g5]
          refine call_ok rfl rfl (w_put (n + 3) s5 m hn hfu) ?_
          rintro y s6 ⟨f, a1, a2, a3⟩
          have hS6 := hS5.push (P := oW y 1 encB (putV m)) a1 a2 a3
          have k1 := a1.rd.lenOf
          have k2 := a1.rd.cellsOf
          obtain ⟨fo2, ho2, up2⟩ := Sep.hd (((hS6.re ((List.perm_middle (l₁ := [_])).trans (.cons _ (.refl _))))))
          have hbt : EvV.bytes ⟨7, m, d, p⟩ = [(7 : Int) % 256] ++ (putV m) := by simp [EvV.bytes, EvV.tail]
          rw [hbt] at hb1 htb2
          rw [List.length_append, List.length_singleton] at htb2
          simp (disch := omega) only [vm0, vm1, vm2, vm3, vm4, vm5, vm6, vm7, vmF, vmT, evo, wr, wrC, frame, Nat.reduceAdd, Nat.reduceMul, Nat.reduceSub, beq_self_eq_true, List.cons_append, List.nil_append, beq_dec, vmI, k1, k2]
          refine op_app (show OwE s6 v3 1 encB (evB (l.take i) ++ [(7 : Int) % 256]) fo2 from ho2) .refl (new := putV m) rfl rfl (by rw [List.length_append, List.length_singleton]; omega) ?_
          intro v4 s7 f7 r10 r11 r12
          have hS7 := up2 (oW v4 1 encB (evB (l.take i) ++ [(7 : Int) % 256] ++ (putV m))) r10 r11 r12
          simp (disch := omega) only [vm0, vm1, vm2, vm3, vm4, vm5, vm6, vm7, vmF, vmT, evo, wr, wrC, frame, Nat.reduceAdd, Nat.reduceMul, Nat.reduceSub, beq_self_eq_true, List.cons_append, List.nil_append, beq_dec, vmI]
          exact ⟨l.length - (i + 1), by omega, i + 1, _, _, _, _, _, _, _, _, _, _, rfl, by omega, by omega, rfl, by rw [ha1, har, hr]; rfl, by rw [hb1, ← List.append_assoc]; exact ((hS7.re ((List.perm_middle (l₁ := [_])).trans (.cons _ ((List.perm_middle (l₁ := [_])).trans (.cons _ (.refl _)))))).drop.drop)⟩
        · simp (disch := omega) only [vm0, vm1, vm2, vm3, vm4, vm5, vm6, vm7, vmF, vmT, evo, wr, wrC, frame, Nat.reduceAdd, Nat.reduceMul, Nat.reduceSub, beq_self_eq_true, List.cons_append, List.nil_append, beq_dec, vmI, g5]
          refine call_ok rfl rfl (w_put (n + 3) s5 m hn hfu) ?_
          rintro y s6 ⟨f, a1, a2, a3⟩
          have hS6 := hS5.push (P := oW y 1 encB (putV m)) a1 a2 a3
          have k1 := a1.rd.lenOf
          have k2 := a1.rd.cellsOf
          obtain ⟨fo2, ho2, up2⟩ := Sep.hd (((hS6.re ((List.perm_middle (l₁ := [_])).trans (.cons _ (.refl _))))))
          have hbt : EvV.bytes ⟨8, m, d, p⟩ = [(8 : Int) % 256] ++ (putV m) := by simp [EvV.bytes, EvV.tail]
          rw [hbt] at hb1 htb2
          rw [List.length_append, List.length_singleton] at htb2
          simp (disch := omega) only [vm0, vm1, vm2, vm3, vm4, vm5, vm6, vm7, vmF, vmT, evo, wr, wrC, frame, Nat.reduceAdd, Nat.reduceMul, Nat.reduceSub, beq_self_eq_true, List.cons_append, List.nil_append, beq_dec, vmI, k1, k2]
          refine op_app (show OwE s6 v3 1 encB (evB (l.take i) ++ [(8 : Int) % 256]) fo2 from ho2) .refl (new := putV m) rfl rfl (by rw [List.length_append, List.length_singleton]; omega) ?_
          intro v4 s7 f7 r10 r11 r12
          have hS7 := up2 (oW v4 1 encB (evB (l.take i) ++ [(8 : Int) % 256] ++ (putV m))) r10 r11 r12
          simp (disch := omega) only [vm0, vm1, vm2, vm3, vm4, vm5, vm6, vm7, vmF, vmT, evo, wr, wrC, frame, Nat.reduceAdd, Nat.reduceMul, Nat.reduceSub, beq_self_eq_true, List.cons_append, List.nil_append, beq_dec, vmI]
          exact ⟨l.length - (i + 1), by omega, i + 1, _, _, _, _, _, _, _, _, _, _, rfl, by omega, by omega, rfl, by rw [ha1, har, hr]; rfl, by rw [hb1, ← List.append_assoc]; exact ((hS7.re ((List.perm_middle (l₁ := [_])).trans (.cons _ ((List.perm_middle (l₁ := [_])).trans (.cons _ (.refl _)))))).drop.drop)⟩
    · obtain rfl : i = l.length := by omega
      rw [List.take_length] at har hS
      simp (disch := omega) only [vm0, vm1, vm2, vm3, vm4, vm5, vm6, vm7, vmF, vmT, evo, wr, wrC, frame, Nat.reduceAdd, Nat.reduceMul, Nat.reduceSub, beq_self_eq_true, List.cons_append, List.nil_append, beq_dec, vmI]
      rw [har, if_pos rfl]
      obtain ⟨fp, q1, q2, q3⟩ := hS.out1
      exact ⟨_, fp, rfl, q1, q2, q3⟩
end
end Go.Proofs.Ytgckbcljlkkceaa.ctr
