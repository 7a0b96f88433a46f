/- Packets and events: which may be, which are alike. -/
import Derived.Test.YtgckbcljlkkceaaCyGe
namespace Go.Proofs.Ytgckbcljlkkceaa.ctr
open Go Go.Vm Go.RowKit
set_option linter.unusedVariables false
set_option linter.constructorNameAsVariable false
set_option linter.unusedSimpArgs false
/-- a packet -/
structure PkV where
  k : Int
  pt : Int
  nr : Int
  of_ : Int
  fr : Int
  d : List Int
  fin : Bool
  se : Int
  li : Int
  deriving DecidableEq
def PkV.cs (p : PkV) (u : AV) : List AV := [num p.k, num p.pt, num p.nr, num p.of_, num p.fr, u, .bool p.fin, num p.se, num p.li]
noncomputable def cvV (s : St) (x : AV) : Option AV := x.onSlice (some (.str [])) (fun b o len _ _ _ => ob (rd s b o len) fun cs => ob (bytesOf cs) fun l => some (.str l)) (some (.str [])) none
theorem f_cvs {L F : LF} {s : St} {x : Od} : fCvs L F s x = ob (ev L F x) (cvV s) := rfl
theorem cvV_is {s : St} {v : AV} {l : List Int} (hv : RdE s v 1 encB l) (h8 : ∀ x ∈ l, In8 x) : cvV s v = some (.str (l.map .c)) := by
  have := cvs_b (L := [some v]) (F := []) (x := .t 0) (v := v) rfl hv h8
  exact this
theorem bq1 : (true == false) = false := rfl
theorem bq2 : (false == true) = false := rfl
section
variable {bd : Bd} {fu : Nat}
set_option maxHeartbeats 1000000 in
theorem p_same (n : Nat) (s : St) (a b : PkV) (u w : AV) (hu : RdE s u 1 encB a.d) (hw : RdE s w 1 encB b.d) (h8 : ∀ x ∈ a.d, In8 x) (h9 : ∀ x ∈ b.d, In8 x) :
    OutOk (callF bd tab.get fu (n + 2) 66 [.agg (a.cs u), .agg (b.cs w)] s) (fun x s' => Is x (.bool (decide (a = b))) ∧ Fr s s' []) := by
  refine call_code t66 rfl ?_
  obtain ⟨k, pt, nr, of_, fr, d, fin, se, li⟩ := a
  obtain ⟨k', pt', nr', of_', fr', d', fin', se', li'⟩ := b
  dsimp only [PkV.cs] at *
  have hfa : Fr s ((s.new (.cells [num k, num pt, num nr, num of_, num fr, u, .bool fin, num se, num li] .own)).new (.cells [num k', num pt', num nr', num of_', num fr', w, .bool fin', num se', num li'] .own)) [] := by exact (by (repeat' (first | exact Fr.refl | assumption | apply Fr.new' | apply Fr.mk' | apply Fr.put')) <;> (first | omega | (left; simp; done) | (right; simp only [next_put, next_new, next_mk]; omega) | (simp only [next_put, next_new, next_mk]; omega)))
  have g1 : ((s.new (.cells [num k, num pt, num nr, num of_, num fr, u, .bool fin, num se, num li] .own)).new (.cells [num k', num pt', num nr', num of_', num fr', w, .bool fin', num se', num li'] .own)).heap.get s.next = some (.cells [num k, num pt, num nr, num of_, num fr, u, .bool fin, num se, num li] .own) := by
    rw [get_new_ne (by rw [next_new]; omega)]; exact get_new_eq rfl
  have g2 : ((s.new (.cells [num k, num pt, num nr, num of_, num fr, u, .bool fin, num se, num li] .own)).new (.cells [num k', num pt', num nr', num of_', num fr', w, .bool fin', num se', num li'] .own)).heap.get (s.next + 1) = some (.cells [num k', num pt', num nr', num of_', num fr', w, .bool fin', num se', num li'] .own) := get_new_eq (by simp only [next_new])
  have hu2 := hu.fr0 hfa
  have hw2 := hw.fr0 hfa
  have c1 := cvV_is hu2 h8
  have c2 := cvV_is hw2 h9
  by_cases qk : k = k'
  case neg =>
    simp (disch := omega) only [vm0, vm1, vm2, vm3, vm4, vm5, vm6, vm7, vmF, vmT, evo, wr, wrC, frame, Nat.reduceAdd, Nat.reduceMul, Nat.reduceSub, beq_self_eq_true, List.cons_append, List.nil_append, beq_dec, vmI, vc66, g1, g2, f_cvs, c1, c2, eqE_s, bq1, bq2]
    exact ⟨by rw [decide_eq_false (by intro e; injection e; contradiction)]; rfl, hfa⟩
  subst qk
  by_cases qpt : pt = pt'
  case neg =>
    simp (disch := omega) only [vm0, vm1, vm2, vm3, vm4, vm5, vm6, vm7, vmF, vmT, evo, wr, wrC, frame, Nat.reduceAdd, Nat.reduceMul, Nat.reduceSub, beq_self_eq_true, List.cons_append, List.nil_append, beq_dec, vmI, vc66, g1, g2, f_cvs, c1, c2, eqE_s, bq1, bq2]
    exact ⟨by rw [decide_eq_false (by intro e; injection e; contradiction)]; rfl, hfa⟩
  subst qpt
  by_cases qnr : nr = nr'
  case neg =>
    simp (disch := omega) only [vm0, vm1, vm2, vm3, vm4, vm5, vm6, vm7, vmF, vmT, evo, wr, wrC, frame, Nat.reduceAdd, Nat.reduceMul, Nat.reduceSub, beq_self_eq_true, List.cons_append, List.nil_append, beq_dec, vmI, vc66, g1, g2, f_cvs, c1, c2, eqE_s, bq1, bq2]
    exact ⟨by rw [decide_eq_false (by intro e; injection e; contradiction)]; rfl, hfa⟩
  subst qnr
  by_cases qof_ : of_ = of_'
  case neg =>
    simp (disch := omega) only [vm0, vm1, vm2, vm3, vm4, vm5, vm6, vm7, vmF, vmT, evo, wr, wrC, frame, Nat.reduceAdd, Nat.reduceMul, Nat.reduceSub, beq_self_eq_true, List.cons_append, List.nil_append, beq_dec, vmI, vc66, g1, g2, f_cvs, c1, c2, eqE_s, bq1, bq2]
    exact ⟨by rw [decide_eq_false (by intro e; injection e; contradiction)]; rfl, hfa⟩
  subst qof_
  by_cases qfr : fr = fr'
  case neg =>
    simp (disch := omega) only [vm0, vm1, vm2, vm3, vm4, vm5, vm6, vm7, vmF, vmT, evo, wr, wrC, frame, Nat.reduceAdd, Nat.reduceMul, Nat.reduceSub, beq_self_eq_true, List.cons_append, List.nil_append, beq_dec, vmI, vc66, g1, g2, f_cvs, c1, c2, eqE_s, bq1, bq2]
    exact ⟨by rw [decide_eq_false (by intro e; injection e; contradiction)]; rfl, hfa⟩
  subst qfr
  simp (disch := omega) only [vm0, vm1, vm2, vm3, vm4, vm5, vm6, vm7, vmF, vmT, evo, wr, wrC, frame, Nat.reduceAdd, Nat.reduceMul, Nat.reduceSub, beq_self_eq_true, List.cons_append, List.nil_append, beq_dec, vmI, vc66, g1, g2]
  refine call_ok rfl rfl (v_equal n _ u w d d' hu2 hw2 h8 h9) ?_
  rintro y s2 ⟨rfl, rfl⟩
  by_cases qd : d = d'
  case neg =>
    have hdd : decide (d = d') = false := decide_eq_false qd
    simp (disch := omega) only [vm0, vm1, vm2, vm3, vm4, vm5, vm6, vm7, vmF, vmT, evo, wr, wrC, frame, Nat.reduceAdd, Nat.reduceMul, Nat.reduceSub, beq_self_eq_true, List.cons_append, List.nil_append, beq_dec, vmI, g1, g2, hdd, bq1, bq2]
    exact ⟨by rw [decide_eq_false (by intro e; injection e; contradiction)]; rfl, hfa⟩
  subst qd
  have hdd : decide (d = d) = true := by simp
  by_cases qfin : fin = fin'
  case neg =>
    have hff : (fin == fin') = false := by simpa using qfin
    simp (disch := omega) only [vm0, vm1, vm2, vm3, vm4, vm5, vm6, vm7, vmF, vmT, evo, wr, wrC, frame, Nat.reduceAdd, Nat.reduceMul, Nat.reduceSub, beq_self_eq_true, List.cons_append, List.nil_append, beq_dec, vmI, g1, g2, hdd, hff, bq1, bq2]
    exact ⟨by rw [decide_eq_false (by intro e; injection e; contradiction)]; rfl, hfa⟩
  subst qfin
  by_cases qse : se = se'
  case neg =>
    simp (disch := omega) only [vm0, vm1, vm2, vm3, vm4, vm5, vm6, vm7, vmF, vmT, evo, wr, wrC, frame, Nat.reduceAdd, Nat.reduceMul, Nat.reduceSub, beq_self_eq_true, List.cons_append, List.nil_append, beq_dec, vmI, g1, g2, hdd, bq1, bq2]
    exact ⟨by rw [decide_eq_false (by intro e; injection e; contradiction)]; rfl, hfa⟩
  subst qse
  by_cases qli : li = li'
  case neg =>
    simp (disch := omega) only [vm0, vm1, vm2, vm3, vm4, vm5, vm6, vm7, vmF, vmT, evo, wr, wrC, frame, Nat.reduceAdd, Nat.reduceMul, Nat.reduceSub, beq_self_eq_true, List.cons_append, List.nil_append, beq_dec, vmI, g1, g2, hdd, bq1, bq2]
    exact ⟨by rw [decide_eq_false (by intro e; injection e; contradiction)]; rfl, hfa⟩
  subst qli
  simp (disch := omega) only [vm0, vm1, vm2, vm3, vm4, vm5, vm6, vm7, vmF, vmT, evo, wr, wrC, frame, Nat.reduceAdd, Nat.reduceMul, Nat.reduceSub, beq_self_eq_true, List.cons_append, List.nil_append, beq_dec, vmI, g1, g2, hdd, bq1, bq2]
  exact ⟨rfl, hfa⟩
set_option maxHeartbeats 1000000 in
theorem u_same (n : Nat) (s : St) (a b : PkV) (u w : AV) (hu : RdE s u 1 encB a.d) (hw : RdE s w 1 encB b.d) (h8 : ∀ x ∈ a.d, In8 x) (h9 : ∀ x ∈ b.d, In8 x) :
    OutOk (callF bd tab.get fu (n + 2) 67 [.agg (a.cs u), .agg (b.cs w)] s) (fun x s' => Is x (.bool (decide (a = b))) ∧ Fr s s' []) := by
  refine call_code t67 rfl ?_
  obtain ⟨k, pt, nr, of_, fr, d, fin, se, li⟩ := a
  obtain ⟨k', pt', nr', of_', fr', d', fin', se', li'⟩ := b
  dsimp only [PkV.cs] at *
  have hfa : Fr s ((s.new (.cells [num k, num pt, num nr, num of_, num fr, u, .bool fin, num se, num li] .own)).new (.cells [num k', num pt', num nr', num of_', num fr', w, .bool fin', num se', num li'] .own)) [] := by exact (by (repeat' (first | exact Fr.refl | assumption | apply Fr.new' | apply Fr.mk' | apply Fr.put')) <;> (first | omega | (left; simp; done) | (right; simp only [next_put, next_new, next_mk]; omega) | (simp only [next_put, next_new, next_mk]; omega)))
  have g1 : ((s.new (.cells [num k, num pt, num nr, num of_, num fr, u, .bool fin, num se, num li] .own)).new (.cells [num k', num pt', num nr', num of_', num fr', w, .bool fin', num se', num li'] .own)).heap.get s.next = some (.cells [num k, num pt, num nr, num of_, num fr, u, .bool fin, num se, num li] .own) := by
    rw [get_new_ne (by rw [next_new]; omega)]; exact get_new_eq rfl
  have g2 : ((s.new (.cells [num k, num pt, num nr, num of_, num fr, u, .bool fin, num se, num li] .own)).new (.cells [num k', num pt', num nr', num of_', num fr', w, .bool fin', num se', num li'] .own)).heap.get (s.next + 1) = some (.cells [num k', num pt', num nr', num of_', num fr', w, .bool fin', num se', num li'] .own) := get_new_eq (by simp only [next_new])
  have hu2 := hu.fr0 hfa
  have hw2 := hw.fr0 hfa
  have c1 := cvV_is hu2 h8
  have c2 := cvV_is hw2 h9
  by_cases qk : k = k'
  case neg =>
    simp (disch := omega) only [vm0, vm1, vm2, vm3, vm4, vm5, vm6, vm7, vmF, vmT, evo, wr, wrC, frame, Nat.reduceAdd, Nat.reduceMul, Nat.reduceSub, beq_self_eq_true, List.cons_append, List.nil_append, beq_dec, vmI, vc67, g1, g2, f_cvs, c1, c2, eqE_s, bq1, bq2]
    exact ⟨by rw [decide_eq_false (by intro e; injection e; contradiction)]; rfl, hfa⟩
  subst qk
  by_cases qpt : pt = pt'
  case neg =>
    simp (disch := omega) only [vm0, vm1, vm2, vm3, vm4, vm5, vm6, vm7, vmF, vmT, evo, wr, wrC, frame, Nat.reduceAdd, Nat.reduceMul, Nat.reduceSub, beq_self_eq_true, List.cons_append, List.nil_append, beq_dec, vmI, vc67, g1, g2, f_cvs, c1, c2, eqE_s, bq1, bq2]
    exact ⟨by rw [decide_eq_false (by intro e; injection e; contradiction)]; rfl, hfa⟩
  subst qpt
  by_cases qnr : nr = nr'
  case neg =>
    simp (disch := omega) only [vm0, vm1, vm2, vm3, vm4, vm5, vm6, vm7, vmF, vmT, evo, wr, wrC, frame, Nat.reduceAdd, Nat.reduceMul, Nat.reduceSub, beq_self_eq_true, List.cons_append, List.nil_append, beq_dec, vmI, vc67, g1, g2, f_cvs, c1, c2, eqE_s, bq1, bq2]
    exact ⟨by rw [decide_eq_false (by intro e; injection e; contradiction)]; rfl, hfa⟩
  subst qnr
  by_cases qof_ : of_ = of_'
  case neg =>
    simp (disch := omega) only [vm0, vm1, vm2, vm3, vm4, vm5, vm6, vm7, vmF, vmT, evo, wr, wrC, frame, Nat.reduceAdd, Nat.reduceMul, Nat.reduceSub, beq_self_eq_true, List.cons_append, List.nil_append, beq_dec, vmI, vc67, g1, g2, f_cvs, c1, c2, eqE_s, bq1, bq2]
    exact ⟨by rw [decide_eq_false (by intro e; injection e; contradiction)]; rfl, hfa⟩
  subst qof_
  by_cases qfr : fr = fr'
  case neg =>
    simp (disch := omega) only [vm0, vm1, vm2, vm3, vm4, vm5, vm6, vm7, vmF, vmT, evo, wr, wrC, frame, Nat.reduceAdd, Nat.reduceMul, Nat.reduceSub, beq_self_eq_true, List.cons_append, List.nil_append, beq_dec, vmI, vc67, g1, g2, f_cvs, c1, c2, eqE_s, bq1, bq2]
    exact ⟨by rw [decide_eq_false (by intro e; injection e; contradiction)]; rfl, hfa⟩
  subst qfr
  by_cases qd : d = d'
  case neg =>
    have hdd : decide (d = d') = false := decide_eq_false qd
    simp (disch := omega) only [vm0, vm1, vm2, vm3, vm4, vm5, vm6, vm7, vmF, vmT, evo, wr, wrC, frame, Nat.reduceAdd, Nat.reduceMul, Nat.reduceSub, beq_self_eq_true, List.cons_append, List.nil_append, beq_dec, vmI, vc67, g1, g2, f_cvs, c1, c2, eqE_s, hdd, bq1, bq2]
    exact ⟨by rw [decide_eq_false (by intro e; injection e; contradiction)]; rfl, hfa⟩
  subst qd
  have hdd : decide (d = d) = true := by simp
  by_cases qfin : fin = fin'
  case neg =>
    have hff : (fin == fin') = false := by simpa using qfin
    simp (disch := omega) only [vm0, vm1, vm2, vm3, vm4, vm5, vm6, vm7, vmF, vmT, evo, wr, wrC, frame, Nat.reduceAdd, Nat.reduceMul, Nat.reduceSub, beq_self_eq_true, List.cons_append, List.nil_append, beq_dec, vmI, vc67, g1, g2, f_cvs, c1, c2, eqE_s, hdd, hff, bq1, bq2]
    exact ⟨by rw [decide_eq_false (by intro e; injection e; contradiction)]; rfl, hfa⟩
  subst qfin
  by_cases qse : se = se'
  case neg =>
    simp (disch := omega) only [vm0, vm1, vm2, vm3, vm4, vm5, vm6, vm7, vmF, vmT, evo, wr, wrC, frame, Nat.reduceAdd, Nat.reduceMul, Nat.reduceSub, beq_self_eq_true, List.cons_append, List.nil_append, beq_dec, vmI, vc67, g1, g2, f_cvs, c1, c2, eqE_s, hdd, bq1, bq2]
    exact ⟨by rw [decide_eq_false (by intro e; injection e; contradiction)]; rfl, hfa⟩
  subst qse
  by_cases qli : li = li'
  case neg =>
    simp (disch := omega) only [vm0, vm1, vm2, vm3, vm4, vm5, vm6, vm7, vmF, vmT, evo, wr, wrC, frame, Nat.reduceAdd, Nat.reduceMul, Nat.reduceSub, beq_self_eq_true, List.cons_append, List.nil_append, beq_dec, vmI, vc67, g1, g2, f_cvs, c1, c2, eqE_s, hdd, bq1, bq2]
    exact ⟨by rw [decide_eq_false (by intro e; injection e; contradiction)]; rfl, hfa⟩
  subst qli
  simp (disch := omega) only [vm0, vm1, vm2, vm3, vm4, vm5, vm6, vm7, vmF, vmT, evo, wr, wrC, frame, Nat.reduceAdd, Nat.reduceMul, Nat.reduceSub, beq_self_eq_true, List.cons_append, List.nil_append, beq_dec, vmI, vc67, g1, g2, f_cvs, c1, c2, eqE_s, hdd, bq1, bq2]
  exact ⟨rfl, hfa⟩
end
end Go.Proofs.Ytgckbcljlkkceaa.ctr
namespace Go.Proofs.Ytgckbcljlkkceaa.ctr
open Go Go.Vm Go.RowKit
set_option linter.unusedVariables false
set_option linter.constructorNameAsVariable false
set_option linter.unusedSimpArgs false
/-- an event -/
structure EvV where
  k : Int
  n : Int
  d : List Int
  p : PkV
  deriving DecidableEq
def EvV.cs (e : EvV) (u w : AV) : List AV := [num e.k, num e.n, u, num e.p.k, num e.p.pt, num e.p.nr, num e.p.of_, num e.p.fr, w, .bool e.p.fin, num e.p.se, num e.p.li]
def pk0 : PkV := ⟨0, 0, 0, 0, 0, [], false, 0, 0⟩
/-- may a packet be? -/
def PkV.right (p : PkV) : Bool :=
  decide (1 ≤ p.k ∧ p.k ≤ 4 ∧ 0 ≤ p.pt ∧ p.pt ≤ 2 ∧ 0 ≤ p.nr ∧ p.nr ≤ 65535) &&
  (if p.k = 2 ∨ p.k = 4 then decide (0 ≤ p.of_ ∧ p.of_ ≤ 65535) else decide (p.of_ = 0)) &&
  (if p.k = 3 then decide (0 ≤ p.fr ∧ p.fr ≤ 4096 ∧ p.d.length ≤ 64 ∧ p.fr + p.d.length ≤ 4096) else (decide (p.fr = 0) && decide (p.d = []) && !p.fin)) &&
  (if p.k = 4 then decide (0 ≤ p.se ∧ p.se ≤ 4097 ∧ 0 ≤ p.li ∧ p.li ≤ 4496) else decide (p.se = 0 ∧ p.li = 0))
def EvV.right (e : EvV) : Bool :=
  if e.k = 1 ∨ e.k = 2 then decide (1 ≤ e.d.length ∧ e.d.length ≤ 4096 ∧ e.n = 0) && decide (e.p = pk0)
  else if e.k = 3 then decide (1 ≤ e.n ∧ e.n ≤ 1048576) && decide (e.d = []) && decide (e.p = pk0)
  else if e.k = 4 ∨ e.k = 5 then e.p.right && decide (e.n = 0) && decide (e.d = [])
  else if e.k = 6 then decide (e.n = 0) && decide (e.d = []) && decide (e.p = pk0)
  else if e.k = 7 ∨ e.k = 8 then decide (0 ≤ e.n ∧ e.n ≤ 2) && decide (e.d = []) && decide (e.p = pk0)
  else false
section
variable {bd : Bd} {fu : Nat}
theorem between (n : Nat) (s : St) (x a b : Int) : OutOk (callF bd tab.get fu (n + 1) 60 [num x, num a, num b] s) (fun y s' => Is y (.bool (decide (a ≤ x ∧ x ≤ b))) ∧ Is s' s) := by
  refine call_code t60 rfl ?_
  by_cases h1 : a ≤ x
  · by_cases h2 : x ≤ b
    · rw [decide_eq_true (show a ≤ x ∧ x ≤ b from ⟨h1, h2⟩)]
      simp (disch := omega) only [vm0, vm1, vm2, vm3, vm4, vm5, vm6, vm7, vmF, vmT, evo, wr, wrC, frame, Nat.reduceAdd, Nat.reduceMul, Nat.reduceSub, beq_self_eq_true, List.cons_append, List.nil_append, beq_dec, vmI, vc60]
      exact ⟨rfl, rfl⟩
    · rw [decide_eq_false (show ¬ (a ≤ x ∧ x ≤ b) from fun h => h2 h.2)]
      simp (disch := omega) only [vm0, vm1, vm2, vm3, vm4, vm5, vm6, vm7, vmF, vmT, evo, wr, wrC, frame, Nat.reduceAdd, Nat.reduceMul, Nat.reduceSub, beq_self_eq_true, List.cons_append, List.nil_append, beq_dec, vmI, vc60]
      exact ⟨rfl, rfl⟩
  · rw [decide_eq_false (show ¬ (a ≤ x ∧ x ≤ b) from fun h => h1 h.1)]
    simp (disch := omega) only [vm0, vm1, vm2, vm3, vm4, vm5, vm6, vm7, vmF, vmT, evo, wr, wrC, frame, Nat.reduceAdd, Nat.reduceMul, Nat.reduceSub, beq_self_eq_true, List.cons_append, List.nil_append, beq_dec, vmI, vc60]
    exact ⟨rfl, rfl⟩
theorem nothing (n : Nat) (s : St) (p : PkV) (u : AV) (hu : RdE s u 1 encB p.d) (h8 : ∀ x ∈ p.d, In8 x) : OutOk (callF bd tab.get fu (n + 3) 59 [.agg (p.cs u)] s) (fun y s' => Is y (.bool (decide (p = pk0))) ∧ Fr s s' []) := by
  refine call_code t59 rfl ?_
  have hf : Fr s (s.new (.cells (p.cs u) .own)) [] := .new
  have hb : (s.new (.cells (p.cs u) .own)).heap.get s.next = some (.cells (p.cs u) .own) := get_new_eq rfl
  have hm := u_same (bd := bd)  (fu := fu) n (s.new (.cells (p.cs u) .own)) p pk0 u .nils (hu.fr0 hf) (OwE.nil encB_w (by omega)).rd h8 (by simp [pk0])
  obtain ⟨k, pt, nr, of_, fr, d, fin, se, li⟩ := p
  dsimp only [PkV.cs, pk0] at *
  simp (disch := omega) only [vm0, vm1, vm2, vm3, vm4, vm5, vm6, vm7, vmF, vmT, evo, wr, wrC, frame, Nat.reduceAdd, Nat.reduceMul, Nat.reduceSub, beq_self_eq_true, List.cons_append, List.nil_append, beq_dec, vmI, vc59]
  refine call_ok rfl rfl hm ?_
  rintro y s2 ⟨rfl, hf2⟩
  simp (disch := omega) only [vm0, vm1, vm2, vm3, vm4, vm5, vm6, vm7, vmF, vmT, evo, wr, wrC, frame, Nat.reduceAdd, Nat.reduceMul, Nat.reduceSub, beq_self_eq_true, List.cons_append, List.nil_append, beq_dec, vmI]
  exact ⟨rfl, hf.trans hf2 (fp2 := []) (by simp) (by simp)⟩
end
end Go.Proofs.Ytgckbcljlkkceaa.ctr
namespace Go.Proofs.Ytgckbcljlkkceaa.ctr
open Go Go.Vm Go.RowKit
set_option linter.unusedVariables false
set_option linter.constructorNameAsVariable false
set_option linter.unusedSimpArgs false
section
variable {bd : Bd} {fu : Nat}
theorem e_same (n : Nat) (s : St) (a b : EvV) (u v u' v' : AV) (hu : RdE s u 1 encB a.d) (hv : RdE s v 1 encB a.p.d) (hu' : RdE s u' 1 encB b.d) (hv' : RdE s v' 1 encB b.p.d) (h8 : ∀ x ∈ a.d, In8 x) (h8p : ∀ x ∈ a.p.d, In8 x) (h9 : ∀ x ∈ b.d, In8 x) (h9p : ∀ x ∈ b.p.d, In8 x) :
    OutOk (callF bd tab.get fu (n + 3) 16 [.agg (a.cs u v), .agg (b.cs u' v')] s) (fun x s' => Is x (.bool (decide (a = b))) ∧ Fr s s' []) := by
  refine call_code t16 rfl ?_
  obtain ⟨k, m, d, p⟩ := a
  obtain ⟨k', m', d', p'⟩ := b
  dsimp only [EvV.cs] at *
  have hfa : Fr s ((s.new (.cells [num k, num m, u, num p.k, num p.pt, num p.nr, num p.of_, num p.fr, v, .bool p.fin, num p.se, num p.li] .own)).new (.cells [num k', num m', u', num p'.k, num p'.pt, num p'.nr, num p'.of_, num p'.fr, v', .bool p'.fin, num p'.se, num p'.li] .own)) [] := by exact (by (repeat' (first | exact Fr.refl | assumption | apply Fr.new' | apply Fr.mk' | apply Fr.put')) <;> (first | omega | (left; simp; done) | (right; simp only [next_put, next_new, next_mk]; omega) | (simp only [next_put, next_new, next_mk]; omega)))
  have g1 : ((s.new (.cells [num k, num m, u, num p.k, num p.pt, num p.nr, num p.of_, num p.fr, v, .bool p.fin, num p.se, num p.li] .own)).new (.cells [num k', num m', u', num p'.k, num p'.pt, num p'.nr, num p'.of_, num p'.fr, v', .bool p'.fin, num p'.se, num p'.li] .own)).heap.get s.next = some (.cells [num k, num m, u, num p.k, num p.pt, num p.nr, num p.of_, num p.fr, v, .bool p.fin, num p.se, num p.li] .own) := by
    rw [get_new_ne (by rw [next_new]; omega)]; exact get_new_eq rfl
  have g2 : ((s.new (.cells [num k, num m, u, num p.k, num p.pt, num p.nr, num p.of_, num p.fr, v, .bool p.fin, num p.se, num p.li] .own)).new (.cells [num k', num m', u', num p'.k, num p'.pt, num p'.nr, num p'.of_, num p'.fr, v', .bool p'.fin, num p'.se, num p'.li] .own)).heap.get (s.next + 1) = some (.cells [num k', num m', u', num p'.k, num p'.pt, num p'.nr, num p'.of_, num p'.fr, v', .bool p'.fin, num p'.se, num p'.li] .own) := get_new_eq (by simp only [next_new])
  have hu2 := hu.fr0 hfa
  have hw2 := hu'.fr0 hfa
  have c1 := cvV_is hu2 h8
  have c2 := cvV_is hw2 h9
  by_cases qk : k = k'
  case neg =>
    simp (disch := omega) only [vm0, vm1, vm2, vm3, vm4, vm5, vm6, vm7, vmF, vmT, evo, wr, wrC, frame, Nat.reduceAdd, Nat.reduceMul, Nat.reduceSub, beq_self_eq_true, List.cons_append, List.nil_append, beq_dec, vmI, vc16, g1, g2]
    exact ⟨by rw [decide_eq_false (by intro e; injection e; contradiction)]; rfl, hfa⟩
  subst qk
  by_cases qm : m = m'
  case neg =>
    simp (disch := omega) only [vm0, vm1, vm2, vm3, vm4, vm5, vm6, vm7, vmF, vmT, evo, wr, wrC, frame, Nat.reduceAdd, Nat.reduceMul, Nat.reduceSub, beq_self_eq_true, List.cons_append, List.nil_append, beq_dec, vmI, vc16, g1, g2]
    exact ⟨by rw [decide_eq_false (by intro e; injection e; contradiction)]; rfl, hfa⟩
  subst qm
  simp (disch := omega) only [vm0, vm1, vm2, vm3, vm4, vm5, vm6, vm7, vmF, vmT, evo, wr, wrC, frame, Nat.reduceAdd, Nat.reduceMul, Nat.reduceSub, beq_self_eq_true, List.cons_append, List.nil_append, beq_dec, vmI, vc16, g1, g2]
  refine call_ok rfl rfl (v_equal (n + 1) _ u u' d d' hu2 hw2 h8 h9) ?_
  rintro y s2 ⟨rfl, rfl⟩
  by_cases qd : d = d'
  case neg =>
    have hdd : decide (d = d') = false := decide_eq_false qd
    simp (disch := omega) only [vm0, vm1, vm2, vm3, vm4, vm5, vm6, vm7, vmF, vmT, evo, wr, wrC, frame, Nat.reduceAdd, Nat.reduceMul, Nat.reduceSub, beq_self_eq_true, List.cons_append, List.nil_append, beq_dec, vmI, g1, g2, hdd]
    exact ⟨by rw [decide_eq_false (by intro e; injection e; contradiction)]; rfl, hfa⟩
  subst qd
  have hdd : decide (d = d) = true := by simp
  simp (disch := omega) only [vm0, vm1, vm2, vm3, vm4, vm5, vm6, vm7, vmF, vmT, evo, wr, wrC, frame, Nat.reduceAdd, Nat.reduceMul, Nat.reduceSub, beq_self_eq_true, List.cons_append, List.nil_append, beq_dec, vmI, g1, g2, hdd]
  refine call_ok rfl rfl (p_same n _ p p' v v' (hv.fr0 hfa) (hv'.fr0 hfa) h8p h9p) ?_
  rintro y s3 ⟨rfl, hf3⟩
  simp (disch := omega) only [vm0, vm1, vm2, vm3, vm4, vm5, vm6, vm7, vmF, vmT, evo, wr, wrC, frame, Nat.reduceAdd, Nat.reduceMul, Nat.reduceSub, beq_self_eq_true, List.cons_append, List.nil_append, beq_dec, vmI]
  refine ⟨?_, hfa.trans hf3 (fp2 := []) (by simp) (by simp)⟩
  by_cases qp : p = p'
  · subst qp; rw [decide_eq_true rfl, decide_eq_true rfl]; rfl
  · rw [decide_eq_false qp, decide_eq_false (by intro e; injection e; contradiction)]; rfl
theorem u_sameE (n : Nat) (s : St) (a b : EvV) (u v u' v' : AV) (hu : RdE s u 1 encB a.d) (hv : RdE s v 1 encB a.p.d) (hu' : RdE s u' 1 encB b.d) (hv' : RdE s v' 1 encB b.p.d) (h8 : ∀ x ∈ a.d, In8 x) (h8p : ∀ x ∈ a.p.d, In8 x) (h9 : ∀ x ∈ b.d, In8 x) (h9p : ∀ x ∈ b.p.d, In8 x) :
    OutOk (callF bd tab.get fu (n + 3) 17 [.agg (a.cs u v), .agg (b.cs u' v')] s) (fun x s' => Is x (.bool (decide (a = b))) ∧ Fr s s' []) := by
  refine call_code t17 rfl ?_
  obtain ⟨k, m, d, p⟩ := a
  obtain ⟨k', m', d', p'⟩ := b
  dsimp only [EvV.cs] at *
  have hfa : Fr s ((s.new (.cells [num k, num m, u, num p.k, num p.pt, num p.nr, num p.of_, num p.fr, v, .bool p.fin, num p.se, num p.li] .own)).new (.cells [num k', num m', u', num p'.k, num p'.pt, num p'.nr, num p'.of_, num p'.fr, v', .bool p'.fin, num p'.se, num p'.li] .own)) [] := by exact (by (repeat' (first | exact Fr.refl | assumption | apply Fr.new' | apply Fr.mk' | apply Fr.put')) <;> (first | omega | (left; simp; done) | (right; simp only [next_put, next_new, next_mk]; omega) | (simp only [next_put, next_new, next_mk]; omega)))
  have g1 : ((s.new (.cells [num k, num m, u, num p.k, num p.pt, num p.nr, num p.of_, num p.fr, v, .bool p.fin, num p.se, num p.li] .own)).new (.cells [num k', num m', u', num p'.k, num p'.pt, num p'.nr, num p'.of_, num p'.fr, v', .bool p'.fin, num p'.se, num p'.li] .own)).heap.get s.next = some (.cells [num k, num m, u, num p.k, num p.pt, num p.nr, num p.of_, num p.fr, v, .bool p.fin, num p.se, num p.li] .own) := by
    rw [get_new_ne (by rw [next_new]; omega)]; exact get_new_eq rfl
  have g2 : ((s.new (.cells [num k, num m, u, num p.k, num p.pt, num p.nr, num p.of_, num p.fr, v, .bool p.fin, num p.se, num p.li] .own)).new (.cells [num k', num m', u', num p'.k, num p'.pt, num p'.nr, num p'.of_, num p'.fr, v', .bool p'.fin, num p'.se, num p'.li] .own)).heap.get (s.next + 1) = some (.cells [num k', num m', u', num p'.k, num p'.pt, num p'.nr, num p'.of_, num p'.fr, v', .bool p'.fin, num p'.se, num p'.li] .own) := get_new_eq (by simp only [next_new])
  have hu2 := hu.fr0 hfa
  have hw2 := hu'.fr0 hfa
  have c1 := cvV_is hu2 h8
  have c2 := cvV_is hw2 h9
  by_cases qk : k = k'
  case neg =>
    simp (disch := omega) only [vm0, vm1, vm2, vm3, vm4, vm5, vm6, vm7, vmF, vmT, evo, wr, wrC, frame, Nat.reduceAdd, Nat.reduceMul, Nat.reduceSub, beq_self_eq_true, List.cons_append, List.nil_append, beq_dec, vmI, vc17, g1, g2]
    exact ⟨by rw [decide_eq_false (by intro e; injection e; contradiction)]; rfl, hfa⟩
  subst qk
  by_cases qm : m = m'
  case neg =>
    simp (disch := omega) only [vm0, vm1, vm2, vm3, vm4, vm5, vm6, vm7, vmF, vmT, evo, wr, wrC, frame, Nat.reduceAdd, Nat.reduceMul, Nat.reduceSub, beq_self_eq_true, List.cons_append, List.nil_append, beq_dec, vmI, vc17, g1, g2]
    exact ⟨by rw [decide_eq_false (by intro e; injection e; contradiction)]; rfl, hfa⟩
  subst qm
  by_cases qd : d = d'
  case neg =>
    have hdd : decide (d = d') = false := decide_eq_false qd
    simp (disch := omega) only [vm0, vm1, vm2, vm3, vm4, vm5, vm6, vm7, vmF, vmT, evo, wr, wrC, frame, Nat.reduceAdd, Nat.reduceMul, Nat.reduceSub, beq_self_eq_true, List.cons_append, List.nil_append, beq_dec, vmI, vc17, g1, g2, f_cvs, c1, c2, eqE_s, hdd]
    exact ⟨by rw [decide_eq_false (by intro e; injection e; contradiction)]; rfl, hfa⟩
  subst qd
  have hdd : decide (d = d) = true := by simp
  simp (disch := omega) only [vm0, vm1, vm2, vm3, vm4, vm5, vm6, vm7, vmF, vmT, evo, wr, wrC, frame, Nat.reduceAdd, Nat.reduceMul, Nat.reduceSub, beq_self_eq_true, List.cons_append, List.nil_append, beq_dec, vmI, vc17, g1, g2, f_cvs, c1, c2, eqE_s, hdd]
  refine call_ok rfl rfl (u_same n _ p p' v v' (hv.fr0 hfa) (hv'.fr0 hfa) h8p h9p) ?_
  rintro y s3 ⟨rfl, hf3⟩
  simp (disch := omega) only [vm0, vm1, vm2, vm3, vm4, vm5, vm6, vm7, vmF, vmT, evo, wr, wrC, frame, Nat.reduceAdd, Nat.reduceMul, Nat.reduceSub, beq_self_eq_true, List.cons_append, List.nil_append, beq_dec, vmI]
  refine ⟨?_, hfa.trans hf3 (fp2 := []) (by simp) (by simp)⟩
  by_cases qp : p = p'
  · subst qp; rw [decide_eq_true rfl, decide_eq_true rfl]; rfl
  · rw [decide_eq_false qp, decide_eq_false (by intro e; injection e; contradiction)]; rfl
end
end Go.Proofs.Ytgckbcljlkkceaa.ctr
namespace Go.Proofs.Ytgckbcljlkkceaa.ctr
open Go Go.Vm Go.RowKit
set_option linter.unusedVariables false
set_option linter.constructorNameAsVariable false
set_option linter.unusedSimpArgs false
section
variable {bd : Bd} {fu : Nat}
theorem btw_t (n : Nat) (s : St) (x a b : Int) (h1 : a ≤ x) (h2 : x ≤ b) : OutOk (callF bd tab.get fu (n + 1) 60 [num x, num a, num b] s) (fun y s' => Is y (.bool true) ∧ Is s' s) := by
  have := between (bd := bd)  (fu := fu) n s x a b
  rwa [decide_eq_true (show a ≤ x ∧ x ≤ b from ⟨h1, h2⟩)] at this
theorem btw_f (n : Nat) (s : St) (x a b : Int) (h1 : ¬ (a ≤ x ∧ x ≤ b)) : OutOk (callF bd tab.get fu (n + 1) 60 [num x, num a, num b] s) (fun y s' => Is y (.bool false) ∧ Is s' s) := by
  have := between (bd := bd)  (fu := fu) n s x a b
  rwa [decide_eq_false h1] at this
set_option maxHeartbeats 4000000 in
theorem u_right (n : Nat) (s : St) (p : PkV) (u : AV) (hu : RdE s u 1 encB p.d) (hl : p.d.length ≤ 1000000) : OutOk (callF bd tab.get fu (n + 2) 61 [.agg (p.cs u)] s) (fun y s' => Is y (.bool p.right) ∧ Fr s s' []) := by
  refine call_code t61 rfl ?_
  obtain ⟨k, pt, nr, of_, fr, d, fin, se, li⟩ := p
  dsimp only [PkV.cs] at *
  have hf : Fr s (s.new (.cells [num k, num pt, num nr, num of_, num fr, u, .bool fin, num se, num li] .own)) [] := .new
  have g1 : (s.new (.cells [num k, num pt, num nr, num of_, num fr, u, .bool fin, num se, num li] .own)).heap.get s.next = some (.cells [num k, num pt, num nr, num of_, num fr, u, .bool fin, num se, num li] .own) := get_new_eq rfl
  have e := hu.lenV
  have hb : True := trivial
  simp (disch := omega) only [vm0, vm1, vm2, vm3, vm4, vm5, vm6, vm7, vmF, vmT, evo, wr, wrC, frame, Nat.reduceAdd, Nat.reduceMul, Nat.reduceSub, beq_self_eq_true, List.cons_append, List.nil_append, beq_dec, vmI, vc61]
  generalize s.new (.cells [num k, num pt, num nr, num of_, num fr, u, .bool fin, num se, num li] .own) = s1 at *
  by_cases hk : 1 ≤ k ∧ k ≤ 4
  case neg =>
    refine call_ok rfl rfl (btw_f n _ k 1 4 hk) ?_
    rintro y s2 ⟨rfl, rfl⟩
    simp (disch := omega) only [vm0, vm1, vm2, vm3, vm4, vm5, vm6, vm7, vmF, vmT, evo, wr, wrC, frame, Nat.reduceAdd, Nat.reduceMul, Nat.reduceSub, beq_self_eq_true, List.cons_append, List.nil_append, beq_dec, vmI, g1, vmU]
    exact ⟨by rw [show PkV.right ⟨k, pt, nr, of_, fr, d, fin, se, li⟩ = false from by unfold PkV.right; dsimp only; rw [decide_eq_false (by omega)]; rfl]; rfl, hf⟩
  by_cases hp : 0 ≤ pt ∧ pt ≤ 2
  case neg =>
    refine call_ok rfl rfl (btw_t n _ k 1 4 hk.1 hk.2) ?_
    rintro y s2 ⟨rfl, rfl⟩
    simp (disch := omega) only [vm0, vm1, vm2, vm3, vm4, vm5, vm6, vm7, vmF, vmT, evo, wr, wrC, frame, Nat.reduceAdd, Nat.reduceMul, Nat.reduceSub, beq_self_eq_true, List.cons_append, List.nil_append, beq_dec, vmI, g1]
    refine call_ok rfl rfl (btw_f n _ pt 0 2 hp) ?_
    rintro y s2 ⟨rfl, rfl⟩
    simp (disch := omega) only [vm0, vm1, vm2, vm3, vm4, vm5, vm6, vm7, vmF, vmT, evo, wr, wrC, frame, Nat.reduceAdd, Nat.reduceMul, Nat.reduceSub, beq_self_eq_true, List.cons_append, List.nil_append, beq_dec, vmI, g1, vmU]
    exact ⟨by rw [show PkV.right ⟨k, pt, nr, of_, fr, d, fin, se, li⟩ = false from by unfold PkV.right; dsimp only; rw [decide_eq_false (by omega)]; rfl]; rfl, hf⟩
  by_cases hn : 0 ≤ nr ∧ nr ≤ 65535
  case neg =>
    refine call_ok rfl rfl (btw_t n _ k 1 4 hk.1 hk.2) ?_
    rintro y s2 ⟨rfl, rfl⟩
    simp (disch := omega) only [vm0, vm1, vm2, vm3, vm4, vm5, vm6, vm7, vmF, vmT, evo, wr, wrC, frame, Nat.reduceAdd, Nat.reduceMul, Nat.reduceSub, beq_self_eq_true, List.cons_append, List.nil_append, beq_dec, vmI, g1]
    refine call_ok rfl rfl (btw_t n _ pt 0 2 hp.1 hp.2) ?_
    rintro y s2 ⟨rfl, rfl⟩
    simp (disch := omega) only [vm0, vm1, vm2, vm3, vm4, vm5, vm6, vm7, vmF, vmT, evo, wr, wrC, frame, Nat.reduceAdd, Nat.reduceMul, Nat.reduceSub, beq_self_eq_true, List.cons_append, List.nil_append, beq_dec, vmI, g1]
    refine call_ok rfl rfl (btw_f n _ nr 0 65535 hn) ?_
    rintro y s2 ⟨rfl, rfl⟩
    simp (disch := omega) only [vm0, vm1, vm2, vm3, vm4, vm5, vm6, vm7, vmF, vmT, evo, wr, wrC, frame, Nat.reduceAdd, Nat.reduceMul, Nat.reduceSub, beq_self_eq_true, List.cons_append, List.nil_append, beq_dec, vmI, g1, vmU]
    exact ⟨by rw [show PkV.right ⟨k, pt, nr, of_, fr, d, fin, se, li⟩ = false from by unfold PkV.right; dsimp only; rw [decide_eq_false (by omega)]; rfl]; rfl, hf⟩
  rcases (show k = 1 ∨ k = 2 ∨ k = 3 ∨ k = 4 by omega) with rfl | rfl | rfl | rfl
  · refine call_ok rfl rfl (btw_t n _ 1 1 4 (by omega) (by omega)) ?_
    rintro y s2 ⟨rfl, rfl⟩
    simp (disch := omega) only [vm0, vm1, vm2, vm3, vm4, vm5, vm6, vm7, vmF, vmT, evo, wr, wrC, frame, Nat.reduceAdd, Nat.reduceMul, Nat.reduceSub, beq_self_eq_true, List.cons_append, List.nil_append, beq_dec, vmI, g1]
    refine call_ok rfl rfl (btw_t n _ pt 0 2 hp.1 hp.2) ?_
    rintro y s2 ⟨rfl, rfl⟩
    simp (disch := omega) only [vm0, vm1, vm2, vm3, vm4, vm5, vm6, vm7, vmF, vmT, evo, wr, wrC, frame, Nat.reduceAdd, Nat.reduceMul, Nat.reduceSub, beq_self_eq_true, List.cons_append, List.nil_append, beq_dec, vmI, g1]
    refine call_ok rfl rfl (btw_t n _ nr 0 65535 hn.1 hn.2) ?_
    rintro y s2 ⟨rfl, rfl⟩
    by_cases hof0 : of_ = 0
    case neg =>
      simp (disch := omega) only [vm0, vm1, vm2, vm3, vm4, vm5, vm6, vm7, vmF, vmT, evo, wr, wrC, frame, Nat.reduceAdd, Nat.reduceMul, Nat.reduceSub, beq_self_eq_true, List.cons_append, List.nil_append, beq_dec, vmI, g1, e, vmU]
      exact ⟨by rw [show PkV.right ⟨1, pt, nr, of_, fr, d, fin, se, li⟩ = false from by simp [PkV.right, hof0]]; rfl, hf⟩
    by_cases hfr0 : fr = 0
    case neg =>
      simp (disch := omega) only [vm0, vm1, vm2, vm3, vm4, vm5, vm6, vm7, vmF, vmT, evo, wr, wrC, frame, Nat.reduceAdd, Nat.reduceMul, Nat.reduceSub, beq_self_eq_true, List.cons_append, List.nil_append, beq_dec, vmI, g1, e, vmU]
      exact ⟨by rw [show PkV.right ⟨1, pt, nr, of_, fr, d, fin, se, li⟩ = false from by simp [PkV.right, hfr0]]; rfl, hf⟩
    by_cases hlen0 : d.length = 0
    case neg =>
      simp (disch := omega) only [vm0, vm1, vm2, vm3, vm4, vm5, vm6, vm7, vmF, vmT, evo, wr, wrC, frame, Nat.reduceAdd, Nat.reduceMul, Nat.reduceSub, beq_self_eq_true, List.cons_append, List.nil_append, beq_dec, vmI, g1, e, vmU]
      exact ⟨by rw [show PkV.right ⟨1, pt, nr, of_, fr, d, fin, se, li⟩ = false from by simp [PkV.right, show d ≠ [] from fun h => hlen0 (by rw [h]; rfl)]]; rfl, hf⟩
    cases fin
    case true =>
      simp (disch := omega) only [vm0, vm1, vm2, vm3, vm4, vm5, vm6, vm7, vmF, vmT, evo, wr, wrC, frame, Nat.reduceAdd, Nat.reduceMul, Nat.reduceSub, beq_self_eq_true, List.cons_append, List.nil_append, beq_dec, vmI, g1, e, vmU]
      exact ⟨by rw [show PkV.right ⟨1, pt, nr, of_, fr, d, true, se, li⟩ = false from by simp [PkV.right, Bool.not_true]]; rfl, hf⟩
    by_cases hse0 : se = 0
    case neg =>
      simp (disch := omega) only [vm0, vm1, vm2, vm3, vm4, vm5, vm6, vm7, vmF, vmT, evo, wr, wrC, frame, Nat.reduceAdd, Nat.reduceMul, Nat.reduceSub, beq_self_eq_true, List.cons_append, List.nil_append, beq_dec, vmI, g1, e, vmU]
      exact ⟨by rw [show PkV.right ⟨1, pt, nr, of_, fr, d, false, se, li⟩ = false from by simp [PkV.right, show ¬ (se = 0 ∧ li = 0) from by omega]]; rfl, hf⟩
    by_cases hli0 : li = 0
    case neg =>
      simp (disch := omega) only [vm0, vm1, vm2, vm3, vm4, vm5, vm6, vm7, vmF, vmT, evo, wr, wrC, frame, Nat.reduceAdd, Nat.reduceMul, Nat.reduceSub, beq_self_eq_true, List.cons_append, List.nil_append, beq_dec, vmI, g1, e, vmU]
      exact ⟨by rw [show PkV.right ⟨1, pt, nr, of_, fr, d, false, se, li⟩ = false from by simp [PkV.right, show ¬ (se = 0 ∧ li = 0) from by omega]]; rfl, hf⟩
    simp (disch := omega) only [vm0, vm1, vm2, vm3, vm4, vm5, vm6, vm7, vmF, vmT, evo, wr, wrC, frame, Nat.reduceAdd, Nat.reduceMul, Nat.reduceSub, beq_self_eq_true, List.cons_append, List.nil_append, beq_dec, vmI, g1, e, vmU]
    have hd0 : d = [] := List.eq_nil_of_length_eq_zero hlen0
    exact ⟨by rw [show PkV.right ⟨1, pt, nr, of_, fr, d, false, se, li⟩ = true from by simp [PkV.right, hp.1, hp.2, hn.1, hn.2, hof0, hfr0, hd0, hse0, hli0]]; rfl, hf⟩
  · refine call_ok rfl rfl (btw_t n _ 2 1 4 (by omega) (by omega)) ?_
    rintro y s2 ⟨rfl, rfl⟩
    simp (disch := omega) only [vm0, vm1, vm2, vm3, vm4, vm5, vm6, vm7, vmF, vmT, evo, wr, wrC, frame, Nat.reduceAdd, Nat.reduceMul, Nat.reduceSub, beq_self_eq_true, List.cons_append, List.nil_append, beq_dec, vmI, g1]
    refine call_ok rfl rfl (btw_t n _ pt 0 2 hp.1 hp.2) ?_
    rintro y s2 ⟨rfl, rfl⟩
    simp (disch := omega) only [vm0, vm1, vm2, vm3, vm4, vm5, vm6, vm7, vmF, vmT, evo, wr, wrC, frame, Nat.reduceAdd, Nat.reduceMul, Nat.reduceSub, beq_self_eq_true, List.cons_append, List.nil_append, beq_dec, vmI, g1]
    refine call_ok rfl rfl (btw_t n _ nr 0 65535 hn.1 hn.2) ?_
    rintro y s2 ⟨rfl, rfl⟩
    simp (disch := omega) only [vm0, vm1, vm2, vm3, vm4, vm5, vm6, vm7, vmF, vmT, evo, wr, wrC, frame, Nat.reduceAdd, Nat.reduceMul, Nat.reduceSub, beq_self_eq_true, List.cons_append, List.nil_append, beq_dec, vmI, g1, e, vmU]
    by_cases hof : 0 ≤ of_ ∧ of_ ≤ 65535
    case neg =>
      refine call_ok rfl rfl (btw_f n _ of_ 0 65535 hof) ?_
      rintro y s2 ⟨rfl, rfl⟩
      simp (disch := omega) only [vm0, vm1, vm2, vm3, vm4, vm5, vm6, vm7, vmF, vmT, evo, wr, wrC, frame, Nat.reduceAdd, Nat.reduceMul, Nat.reduceSub, beq_self_eq_true, List.cons_append, List.nil_append, beq_dec, vmI, g1, e, vmU]
      exact ⟨by rw [show PkV.right ⟨2, pt, nr, of_, fr, d, fin, se, li⟩ = false from by simp [PkV.right, show ¬ (0 ≤ of_ ∧ of_ ≤ 65535) from hof]]; rfl, hf⟩
    refine call_ok rfl rfl (btw_t n _ of_ 0 65535 hof.1 hof.2) ?_
    rintro y s2 ⟨rfl, rfl⟩
    by_cases hfr0 : fr = 0
    case neg =>
      simp (disch := omega) only [vm0, vm1, vm2, vm3, vm4, vm5, vm6, vm7, vmF, vmT, evo, wr, wrC, frame, Nat.reduceAdd, Nat.reduceMul, Nat.reduceSub, beq_self_eq_true, List.cons_append, List.nil_append, beq_dec, vmI, g1, e, vmU]
      exact ⟨by rw [show PkV.right ⟨2, pt, nr, of_, fr, d, fin, se, li⟩ = false from by simp [PkV.right, hfr0]]; rfl, hf⟩
    by_cases hlen0 : d.length = 0
    case neg =>
      simp (disch := omega) only [vm0, vm1, vm2, vm3, vm4, vm5, vm6, vm7, vmF, vmT, evo, wr, wrC, frame, Nat.reduceAdd, Nat.reduceMul, Nat.reduceSub, beq_self_eq_true, List.cons_append, List.nil_append, beq_dec, vmI, g1, e, vmU]
      exact ⟨by rw [show PkV.right ⟨2, pt, nr, of_, fr, d, fin, se, li⟩ = false from by simp [PkV.right, show d ≠ [] from fun h => hlen0 (by rw [h]; rfl)]]; rfl, hf⟩
    cases fin
    case true =>
      simp (disch := omega) only [vm0, vm1, vm2, vm3, vm4, vm5, vm6, vm7, vmF, vmT, evo, wr, wrC, frame, Nat.reduceAdd, Nat.reduceMul, Nat.reduceSub, beq_self_eq_true, List.cons_append, List.nil_append, beq_dec, vmI, g1, e, vmU]
      exact ⟨by rw [show PkV.right ⟨2, pt, nr, of_, fr, d, true, se, li⟩ = false from by simp [PkV.right, Bool.not_true]]; rfl, hf⟩
    by_cases hse0 : se = 0
    case neg =>
      simp (disch := omega) only [vm0, vm1, vm2, vm3, vm4, vm5, vm6, vm7, vmF, vmT, evo, wr, wrC, frame, Nat.reduceAdd, Nat.reduceMul, Nat.reduceSub, beq_self_eq_true, List.cons_append, List.nil_append, beq_dec, vmI, g1, e, vmU]
      exact ⟨by rw [show PkV.right ⟨2, pt, nr, of_, fr, d, false, se, li⟩ = false from by simp [PkV.right, show ¬ (se = 0 ∧ li = 0) from by omega]]; rfl, hf⟩
    by_cases hli0 : li = 0
    case neg =>
      simp (disch := omega) only [vm0, vm1, vm2, vm3, vm4, vm5, vm6, vm7, vmF, vmT, evo, wr, wrC, frame, Nat.reduceAdd, Nat.reduceMul, Nat.reduceSub, beq_self_eq_true, List.cons_append, List.nil_append, beq_dec, vmI, g1, e, vmU]
      exact ⟨by rw [show PkV.right ⟨2, pt, nr, of_, fr, d, false, se, li⟩ = false from by simp [PkV.right, show ¬ (se = 0 ∧ li = 0) from by omega]]; rfl, hf⟩
    simp (disch := omega) only [vm0, vm1, vm2, vm3, vm4, vm5, vm6, vm7, vmF, vmT, evo, wr, wrC, frame, Nat.reduceAdd, Nat.reduceMul, Nat.reduceSub, beq_self_eq_true, List.cons_append, List.nil_append, beq_dec, vmI, g1, e, vmU]
    have hd0 : d = [] := List.eq_nil_of_length_eq_zero hlen0
    exact ⟨by rw [show PkV.right ⟨2, pt, nr, of_, fr, d, false, se, li⟩ = true from by simp [PkV.right, hp.1, hp.2, hn.1, hn.2, hof.1, hof.2, hfr0, hd0, hse0, hli0]]; rfl, hf⟩
  · refine call_ok rfl rfl (btw_t n _ 3 1 4 (by omega) (by omega)) ?_
    rintro y s2 ⟨rfl, rfl⟩
    simp (disch := omega) only [vm0, vm1, vm2, vm3, vm4, vm5, vm6, vm7, vmF, vmT, evo, wr, wrC, frame, Nat.reduceAdd, Nat.reduceMul, Nat.reduceSub, beq_self_eq_true, List.cons_append, List.nil_append, beq_dec, vmI, g1]
    refine call_ok rfl rfl (btw_t n _ pt 0 2 hp.1 hp.2) ?_
    rintro y s2 ⟨rfl, rfl⟩
    simp (disch := omega) only [vm0, vm1, vm2, vm3, vm4, vm5, vm6, vm7, vmF, vmT, evo, wr, wrC, frame, Nat.reduceAdd, Nat.reduceMul, Nat.reduceSub, beq_self_eq_true, List.cons_append, List.nil_append, beq_dec, vmI, g1]
    refine call_ok rfl rfl (btw_t n _ nr 0 65535 hn.1 hn.2) ?_
    rintro y s2 ⟨rfl, rfl⟩
    by_cases hof0 : of_ = 0
    case neg =>
      simp (disch := omega) only [vm0, vm1, vm2, vm3, vm4, vm5, vm6, vm7, vmF, vmT, evo, wr, wrC, frame, Nat.reduceAdd, Nat.reduceMul, Nat.reduceSub, beq_self_eq_true, List.cons_append, List.nil_append, beq_dec, vmI, g1, e, vmU]
      exact ⟨by rw [show PkV.right ⟨3, pt, nr, of_, fr, d, fin, se, li⟩ = false from by simp [PkV.right, hof0]]; rfl, hf⟩
    simp (disch := omega) only [vm0, vm1, vm2, vm3, vm4, vm5, vm6, vm7, vmF, vmT, evo, wr, wrC, frame, Nat.reduceAdd, Nat.reduceMul, Nat.reduceSub, beq_self_eq_true, List.cons_append, List.nil_append, beq_dec, vmI, g1, e, vmU]
    by_cases hfr : 0 ≤ fr ∧ fr ≤ 4096
    case neg =>
      refine call_ok rfl rfl (btw_f n _ fr 0 4096 hfr) ?_
      rintro y s2 ⟨rfl, rfl⟩
      simp (disch := omega) only [vm0, vm1, vm2, vm3, vm4, vm5, vm6, vm7, vmF, vmT, evo, wr, wrC, frame, Nat.reduceAdd, Nat.reduceMul, Nat.reduceSub, beq_self_eq_true, List.cons_append, List.nil_append, beq_dec, vmI, g1, e, vmU]
      exact ⟨by rw [show PkV.right ⟨3, pt, nr, of_, fr, d, fin, se, li⟩ = false from by simp [PkV.right, show ¬ (0 ≤ fr ∧ fr ≤ 4096 ∧ d.length ≤ 64 ∧ fr + (d.length : Int) ≤ 4096) from by omega]]; rfl, hf⟩
    refine call_ok rfl rfl (btw_t n _ fr 0 4096 hfr.1 hfr.2) ?_
    rintro y s2 ⟨rfl, rfl⟩
    by_cases hl64 : d.length ≤ 64
    case neg =>
      simp (disch := omega) only [vm0, vm1, vm2, vm3, vm4, vm5, vm6, vm7, vmF, vmT, evo, wr, wrC, frame, Nat.reduceAdd, Nat.reduceMul, Nat.reduceSub, beq_self_eq_true, List.cons_append, List.nil_append, beq_dec, vmI, g1, e, vmU]
      exact ⟨by rw [show PkV.right ⟨3, pt, nr, of_, fr, d, fin, se, li⟩ = false from by simp [PkV.right, show ¬ (0 ≤ fr ∧ fr ≤ 4096 ∧ d.length ≤ 64 ∧ fr + (d.length : Int) ≤ 4096) from by omega]]; rfl, hf⟩
    by_cases hsum : fr + (d.length : Int) ≤ 4096
    case neg =>
      simp (disch := omega) only [vm0, vm1, vm2, vm3, vm4, vm5, vm6, vm7, vmF, vmT, evo, wr, wrC, frame, Nat.reduceAdd, Nat.reduceMul, Nat.reduceSub, beq_self_eq_true, List.cons_append, List.nil_append, beq_dec, vmI, g1, e, vmU]
      exact ⟨by rw [show PkV.right ⟨3, pt, nr, of_, fr, d, fin, se, li⟩ = false from by simp [PkV.right, show ¬ (0 ≤ fr ∧ fr ≤ 4096 ∧ d.length ≤ 64 ∧ fr + (d.length : Int) ≤ 4096) from by omega]]; rfl, hf⟩
    by_cases hse0 : se = 0
    case neg =>
      simp (disch := omega) only [vm0, vm1, vm2, vm3, vm4, vm5, vm6, vm7, vmF, vmT, evo, wr, wrC, frame, Nat.reduceAdd, Nat.reduceMul, Nat.reduceSub, beq_self_eq_true, List.cons_append, List.nil_append, beq_dec, vmI, g1, e, vmU]
      exact ⟨by rw [show PkV.right ⟨3, pt, nr, of_, fr, d, fin, se, li⟩ = false from by simp [PkV.right, show ¬ (se = 0 ∧ li = 0) from by omega]]; rfl, hf⟩
    by_cases hli0 : li = 0
    case neg =>
      simp (disch := omega) only [vm0, vm1, vm2, vm3, vm4, vm5, vm6, vm7, vmF, vmT, evo, wr, wrC, frame, Nat.reduceAdd, Nat.reduceMul, Nat.reduceSub, beq_self_eq_true, List.cons_append, List.nil_append, beq_dec, vmI, g1, e, vmU]
      exact ⟨by rw [show PkV.right ⟨3, pt, nr, of_, fr, d, fin, se, li⟩ = false from by simp [PkV.right, show ¬ (se = 0 ∧ li = 0) from by omega]]; rfl, hf⟩
    simp (disch := omega) only [vm0, vm1, vm2, vm3, vm4, vm5, vm6, vm7, vmF, vmT, evo, wr, wrC, frame, Nat.reduceAdd, Nat.reduceMul, Nat.reduceSub, beq_self_eq_true, List.cons_append, List.nil_append, beq_dec, vmI, g1, e, vmU]
    exact ⟨by rw [show PkV.right ⟨3, pt, nr, of_, fr, d, fin, se, li⟩ = true from by simp [PkV.right, hp.1, hp.2, hn.1, hn.2, hof0, hfr.1, hfr.2, hl64, hsum, hse0, hli0]]; rfl, hf⟩
  · refine call_ok rfl rfl (btw_t n _ 4 1 4 (by omega) (by omega)) ?_
    rintro y s2 ⟨rfl, rfl⟩
    simp (disch := omega) only [vm0, vm1, vm2, vm3, vm4, vm5, vm6, vm7, vmF, vmT, evo, wr, wrC, frame, Nat.reduceAdd, Nat.reduceMul, Nat.reduceSub, beq_self_eq_true, List.cons_append, List.nil_append, beq_dec, vmI, g1]
    refine call_ok rfl rfl (btw_t n _ pt 0 2 hp.1 hp.2) ?_
    rintro y s2 ⟨rfl, rfl⟩
    simp (disch := omega) only [vm0, vm1, vm2, vm3, vm4, vm5, vm6, vm7, vmF, vmT, evo, wr, wrC, frame, Nat.reduceAdd, Nat.reduceMul, Nat.reduceSub, beq_self_eq_true, List.cons_append, List.nil_append, beq_dec, vmI, g1]
    refine call_ok rfl rfl (btw_t n _ nr 0 65535 hn.1 hn.2) ?_
    rintro y s2 ⟨rfl, rfl⟩
    simp (disch := omega) only [vm0, vm1, vm2, vm3, vm4, vm5, vm6, vm7, vmF, vmT, evo, wr, wrC, frame, Nat.reduceAdd, Nat.reduceMul, Nat.reduceSub, beq_self_eq_true, List.cons_append, List.nil_append, beq_dec, vmI, g1, e, vmU]
    by_cases hof : 0 ≤ of_ ∧ of_ ≤ 65535
    case neg =>
      refine call_ok rfl rfl (btw_f n _ of_ 0 65535 hof) ?_
      rintro y s2 ⟨rfl, rfl⟩
      simp (disch := omega) only [vm0, vm1, vm2, vm3, vm4, vm5, vm6, vm7, vmF, vmT, evo, wr, wrC, frame, Nat.reduceAdd, Nat.reduceMul, Nat.reduceSub, beq_self_eq_true, List.cons_append, List.nil_append, beq_dec, vmI, g1, e, vmU]
      exact ⟨by rw [show PkV.right ⟨4, pt, nr, of_, fr, d, fin, se, li⟩ = false from by simp [PkV.right, show ¬ (0 ≤ of_ ∧ of_ ≤ 65535) from hof]]; rfl, hf⟩
    refine call_ok rfl rfl (btw_t n _ of_ 0 65535 hof.1 hof.2) ?_
    rintro y s2 ⟨rfl, rfl⟩
    by_cases hfr0 : fr = 0
    case neg =>
      simp (disch := omega) only [vm0, vm1, vm2, vm3, vm4, vm5, vm6, vm7, vmF, vmT, evo, wr, wrC, frame, Nat.reduceAdd, Nat.reduceMul, Nat.reduceSub, beq_self_eq_true, List.cons_append, List.nil_append, beq_dec, vmI, g1, e, vmU]
      exact ⟨by rw [show PkV.right ⟨4, pt, nr, of_, fr, d, fin, se, li⟩ = false from by simp [PkV.right, hfr0]]; rfl, hf⟩
    by_cases hlen0 : d.length = 0
    case neg =>
      simp (disch := omega) only [vm0, vm1, vm2, vm3, vm4, vm5, vm6, vm7, vmF, vmT, evo, wr, wrC, frame, Nat.reduceAdd, Nat.reduceMul, Nat.reduceSub, beq_self_eq_true, List.cons_append, List.nil_append, beq_dec, vmI, g1, e, vmU]
      exact ⟨by rw [show PkV.right ⟨4, pt, nr, of_, fr, d, fin, se, li⟩ = false from by simp [PkV.right, show d ≠ [] from fun h => hlen0 (by rw [h]; rfl)]]; rfl, hf⟩
    cases fin
    case true =>
      simp (disch := omega) only [vm0, vm1, vm2, vm3, vm4, vm5, vm6, vm7, vmF, vmT, evo, wr, wrC, frame, Nat.reduceAdd, Nat.reduceMul, Nat.reduceSub, beq_self_eq_true, List.cons_append, List.nil_append, beq_dec, vmI, g1, e, vmU]
      exact ⟨by rw [show PkV.right ⟨4, pt, nr, of_, fr, d, true, se, li⟩ = false from by simp [PkV.right, Bool.not_true]]; rfl, hf⟩
    simp (disch := omega) only [vm0, vm1, vm2, vm3, vm4, vm5, vm6, vm7, vmF, vmT, evo, wr, wrC, frame, Nat.reduceAdd, Nat.reduceMul, Nat.reduceSub, beq_self_eq_true, List.cons_append, List.nil_append, beq_dec, vmI, g1, e, vmU]
    by_cases hse : 0 ≤ se ∧ se ≤ 4097
    case neg =>
      refine call_ok rfl rfl (btw_f n _ se 0 4097 hse) ?_
      rintro y s2 ⟨rfl, rfl⟩
      simp (disch := omega) only [vm0, vm1, vm2, vm3, vm4, vm5, vm6, vm7, vmF, vmT, evo, wr, wrC, frame, Nat.reduceAdd, Nat.reduceMul, Nat.reduceSub, beq_self_eq_true, List.cons_append, List.nil_append, beq_dec, vmI, g1, e, vmU]
      exact ⟨by rw [show PkV.right ⟨4, pt, nr, of_, fr, d, false, se, li⟩ = false from by simp [PkV.right, show ¬ (0 ≤ se ∧ se ≤ 4097 ∧ 0 ≤ li ∧ li ≤ 4496) from by omega]]; rfl, hf⟩
    refine call_ok rfl rfl (btw_t n _ se 0 4097 hse.1 hse.2) ?_
    rintro y s2 ⟨rfl, rfl⟩
    simp (disch := omega) only [vm0, vm1, vm2, vm3, vm4, vm5, vm6, vm7, vmF, vmT, evo, wr, wrC, frame, Nat.reduceAdd, Nat.reduceMul, Nat.reduceSub, beq_self_eq_true, List.cons_append, List.nil_append, beq_dec, vmI, g1, e, vmU]
    by_cases hli : 0 ≤ li ∧ li ≤ 4496
    case neg =>
      refine call_ok rfl rfl (btw_f n _ li 0 4496 hli) ?_
      rintro y s2 ⟨rfl, rfl⟩
      simp (disch := omega) only [vm0, vm1, vm2, vm3, vm4, vm5, vm6, vm7, vmF, vmT, evo, wr, wrC, frame, Nat.reduceAdd, Nat.reduceMul, Nat.reduceSub, beq_self_eq_true, List.cons_append, List.nil_append, beq_dec, vmI, g1, e, vmU]
      exact ⟨by rw [show PkV.right ⟨4, pt, nr, of_, fr, d, false, se, li⟩ = false from by simp [PkV.right, show ¬ (0 ≤ se ∧ se ≤ 4097 ∧ 0 ≤ li ∧ li ≤ 4496) from by omega]]; rfl, hf⟩
    refine call_ok rfl rfl (btw_t n _ li 0 4496 hli.1 hli.2) ?_
    rintro y s2 ⟨rfl, rfl⟩
    simp (disch := omega) only [vm0, vm1, vm2, vm3, vm4, vm5, vm6, vm7, vmF, vmT, evo, wr, wrC, frame, Nat.reduceAdd, Nat.reduceMul, Nat.reduceSub, beq_self_eq_true, List.cons_append, List.nil_append, beq_dec, vmI, g1, e, vmU]
    have hd0 : d = [] := List.eq_nil_of_length_eq_zero hlen0
    exact ⟨by rw [show PkV.right ⟨4, pt, nr, of_, fr, d, false, se, li⟩ = true from by simp [PkV.right, hp.1, hp.2, hn.1, hn.2, hof.1, hof.2, hfr0, hd0, hse.1, hse.2, hli.1, hli.2]]; rfl, hf⟩
end
end Go.Proofs.Ytgckbcljlkkceaa.ctr
namespace Go.Proofs.Ytgckbcljlkkceaa.ctr
open Go Go.Vm Go.RowKit
set_option linter.unusedVariables false
set_option linter.constructorNameAsVariable false
set_option linter.unusedSimpArgs false
section
variable {bd : Bd} {fu : Nat}
set_option maxHeartbeats 4000000 in
theorem u_rightE (n : Nat) (s : St) (a : EvV) (u w : AV) (hu : RdE s u 1 encB a.d) (hw : RdE s w 1 encB a.p.d) (hpl : a.p.d.length ≤ 1000000) (h8 : ∀ x ∈ a.p.d, In8 x) : OutOk (callF bd tab.get fu (n + 4) 11 [.agg (a.cs u w)] s) (fun y s' => Is y (.bool a.right) ∧ Fr s s' []) := by
  refine call_code t11 rfl ?_
  obtain ⟨k, m, d, p⟩ := a
  dsimp only [EvV.cs] at *
  have hf : Fr s (s.new (.cells [num k, num m, u, num p.k, num p.pt, num p.nr, num p.of_, num p.fr, w, .bool p.fin, num p.se, num p.li] .own)) [] := .new
  have g1 : (s.new (.cells [num k, num m, u, num p.k, num p.pt, num p.nr, num p.of_, num p.fr, w, .bool p.fin, num p.se, num p.li] .own)).heap.get s.next = some (.cells [num k, num m, u, num p.k, num p.pt, num p.nr, num p.of_, num p.fr, w, .bool p.fin, num p.se, num p.li] .own) := get_new_eq rfl
  have hlt : s.next < (s.new (.cells [num k, num m, u, num p.k, num p.pt, num p.nr, num p.of_, num p.fr, w, .bool p.fin, num p.se, num p.li] .own)).next := by rw [next_new]; omega
  have e := hu.lenV
  have hw2 := hw.fr0 hf
  simp (disch := omega) only [vm0, vm1, vm2, vm3, vm4, vm5, vm6, vm7, vmF, vmT, evo, wr, wrC, frame, Nat.reduceAdd, Nat.reduceMul, Nat.reduceSub, beq_self_eq_true, List.cons_append, List.nil_append, beq_dec, vmI, vc11]
  generalize s.new (.cells [num k, num m, u, num p.k, num p.pt, num p.nr, num p.of_, num p.fr, w, .bool p.fin, num p.se, num p.li] .own) = s1 at *
  rcases (show k = 1 ∨ k = 2 ∨ k = 3 ∨ k = 4 ∨ k = 5 ∨ k = 6 ∨ k = 7 ∨ k = 8 ∨ (k < 1 ∨ 8 < k) by omega) with rfl | rfl | rfl | rfl | rfl | rfl | rfl | rfl | hk
  · by_cases hl1 : 1 ≤ d.length
    case neg =>
      simp (disch := omega) only [vm0, vm1, vm2, vm3, vm4, vm5, vm6, vm7, vmF, vmT, evo, wr, wrC, frame, Nat.reduceAdd, Nat.reduceMul, Nat.reduceSub, beq_self_eq_true, List.cons_append, List.nil_append, beq_dec, vmI, vc11_0, g1, e, vmU]
      exact ⟨by rw [show EvV.right ⟨1, m, d, p⟩ = false from by simp [EvV.right, show ¬ (1 ≤ d.length ∧ d.length ≤ 4096 ∧ m = 0) from by omega]]; rfl, hf⟩
    by_cases hl2 : d.length ≤ 4096
    case neg =>
      simp (disch := omega) only [vm0, vm1, vm2, vm3, vm4, vm5, vm6, vm7, vmF, vmT, evo, wr, wrC, frame, Nat.reduceAdd, Nat.reduceMul, Nat.reduceSub, beq_self_eq_true, List.cons_append, List.nil_append, beq_dec, vmI, vc11_0, g1, e, vmU]
      exact ⟨by rw [show EvV.right ⟨1, m, d, p⟩ = false from by simp [EvV.right, show ¬ (1 ≤ d.length ∧ d.length ≤ 4096 ∧ m = 0) from by omega]]; rfl, hf⟩
    by_cases hm0 : m = 0
    case neg =>
      simp (disch := omega) only [vm0, vm1, vm2, vm3, vm4, vm5, vm6, vm7, vmF, vmT, evo, wr, wrC, frame, Nat.reduceAdd, Nat.reduceMul, Nat.reduceSub, beq_self_eq_true, List.cons_append, List.nil_append, beq_dec, vmI, vc11_0, g1, e, vmU]
      exact ⟨by rw [show EvV.right ⟨1, m, d, p⟩ = false from by simp [EvV.right, show ¬ (1 ≤ d.length ∧ d.length ≤ 4096 ∧ m = 0) from by omega]]; rfl, hf⟩
    simp (disch := omega) only [vm0, vm1, vm2, vm3, vm4, vm5, vm6, vm7, vmF, vmT, evo, wr, wrC, frame, Nat.reduceAdd, Nat.reduceMul, Nat.reduceSub, beq_self_eq_true, List.cons_append, List.nil_append, beq_dec, vmI, vc11_0, g1, e, vmU]
    refine call_ok rfl rfl (nothing n _ p w hw2 h8) ?_
    rintro y s3 ⟨rfl, hf3⟩
    simp (disch := omega) only [vm0, vm1, vm2, vm3, vm4, vm5, vm6, vm7, vmF, vmT, evo, wr, wrC, frame, Nat.reduceAdd, Nat.reduceMul, Nat.reduceSub, beq_self_eq_true, List.cons_append, List.nil_append, beq_dec, vmI]
    exact ⟨by rw [show EvV.right ⟨1, m, d, p⟩ = decide (p = pk0) from by simp [EvV.right, show 1 ≤ d.length ∧ d.length ≤ 4096 ∧ m = 0 from ⟨hl1, hl2, hm0⟩]]; rfl, hf.trans hf3 (fp2 := []) (by simp) (by simp)⟩
  · by_cases hl1 : 1 ≤ d.length
    case neg =>
      simp (disch := omega) only [vm0, vm1, vm2, vm3, vm4, vm5, vm6, vm7, vmF, vmT, evo, wr, wrC, frame, Nat.reduceAdd, Nat.reduceMul, Nat.reduceSub, beq_self_eq_true, List.cons_append, List.nil_append, beq_dec, vmI, vc11_0, g1, e, vmU]
      exact ⟨by rw [show EvV.right ⟨2, m, d, p⟩ = false from by simp [EvV.right, show ¬ (1 ≤ d.length ∧ d.length ≤ 4096 ∧ m = 0) from by omega]]; rfl, hf⟩
    by_cases hl2 : d.length ≤ 4096
    case neg =>
      simp (disch := omega) only [vm0, vm1, vm2, vm3, vm4, vm5, vm6, vm7, vmF, vmT, evo, wr, wrC, frame, Nat.reduceAdd, Nat.reduceMul, Nat.reduceSub, beq_self_eq_true, List.cons_append, List.nil_append, beq_dec, vmI, vc11_0, g1, e, vmU]
      exact ⟨by rw [show EvV.right ⟨2, m, d, p⟩ = false from by simp [EvV.right, show ¬ (1 ≤ d.length ∧ d.length ≤ 4096 ∧ m = 0) from by omega]]; rfl, hf⟩
    by_cases hm0 : m = 0
    case neg =>
      simp (disch := omega) only [vm0, vm1, vm2, vm3, vm4, vm5, vm6, vm7, vmF, vmT, evo, wr, wrC, frame, Nat.reduceAdd, Nat.reduceMul, Nat.reduceSub, beq_self_eq_true, List.cons_append, List.nil_append, beq_dec, vmI, vc11_0, g1, e, vmU]
      exact ⟨by rw [show EvV.right ⟨2, m, d, p⟩ = false from by simp [EvV.right, show ¬ (1 ≤ d.length ∧ d.length ≤ 4096 ∧ m = 0) from by omega]]; rfl, hf⟩
    simp (disch := omega) only [vm0, vm1, vm2, vm3, vm4, vm5, vm6, vm7, vmF, vmT, evo, wr, wrC, frame, Nat.reduceAdd, Nat.reduceMul, Nat.reduceSub, beq_self_eq_true, List.cons_append, List.nil_append, beq_dec, vmI, vc11_0, g1, e, vmU]
    refine call_ok rfl rfl (nothing n _ p w hw2 h8) ?_
    rintro y s3 ⟨rfl, hf3⟩
    simp (disch := omega) only [vm0, vm1, vm2, vm3, vm4, vm5, vm6, vm7, vmF, vmT, evo, wr, wrC, frame, Nat.reduceAdd, Nat.reduceMul, Nat.reduceSub, beq_self_eq_true, List.cons_append, List.nil_append, beq_dec, vmI]
    exact ⟨by rw [show EvV.right ⟨2, m, d, p⟩ = decide (p = pk0) from by simp [EvV.right, show 1 ≤ d.length ∧ d.length ≤ 4096 ∧ m = 0 from ⟨hl1, hl2, hm0⟩]]; rfl, hf.trans hf3 (fp2 := []) (by simp) (by simp)⟩
  · simp (disch := omega) only [vm0, vm1, vm2, vm3, vm4, vm5, vm6, vm7, vmF, vmT, evo, wr, wrC, frame, Nat.reduceAdd, Nat.reduceMul, Nat.reduceSub, beq_self_eq_true, List.cons_append, List.nil_append, beq_dec, vmI, vc11_0, g1, e, vmU]
    by_cases hm : 1 ≤ m ∧ m ≤ 1048576
    case neg =>
      refine call_ok rfl rfl (btw_f (n + 2) _ m 1 1048576 hm) ?_
      rintro y s2 ⟨rfl, rfl⟩
      simp (disch := omega) only [vm0, vm1, vm2, vm3, vm4, vm5, vm6, vm7, vmF, vmT, evo, wr, wrC, frame, Nat.reduceAdd, Nat.reduceMul, Nat.reduceSub, beq_self_eq_true, List.cons_append, List.nil_append, beq_dec, vmI, g1, e, vmU]
      exact ⟨by rw [show EvV.right ⟨3, m, d, p⟩ = false from by simp [EvV.right, show ¬ (1 ≤ m ∧ m ≤ 1048576) from hm]]; rfl, hf⟩
    refine call_ok rfl rfl (btw_t (n + 2) _ m 1 1048576 hm.1 hm.2) ?_
    rintro y s2 ⟨rfl, rfl⟩
    by_cases hlen0 : d.length = 0
    case neg =>
      simp (disch := omega) only [vm0, vm1, vm2, vm3, vm4, vm5, vm6, vm7, vmF, vmT, evo, wr, wrC, frame, Nat.reduceAdd, Nat.reduceMul, Nat.reduceSub, beq_self_eq_true, List.cons_append, List.nil_append, beq_dec, vmI, g1, e, vmU]
      exact ⟨by rw [show EvV.right ⟨3, m, d, p⟩ = false from by simp [EvV.right, show d ≠ [] from fun h => hlen0 (by rw [h]; rfl)]]; rfl, hf⟩
    have hd0 : d = [] := List.eq_nil_of_length_eq_zero hlen0
    simp (disch := omega) only [vm0, vm1, vm2, vm3, vm4, vm5, vm6, vm7, vmF, vmT, evo, wr, wrC, frame, Nat.reduceAdd, Nat.reduceMul, Nat.reduceSub, beq_self_eq_true, List.cons_append, List.nil_append, beq_dec, vmI, g1, e, vmU]
    refine call_ok rfl rfl (nothing n _ p w hw2 h8) ?_
    rintro y s3 ⟨rfl, hf3⟩
    simp (disch := omega) only [vm0, vm1, vm2, vm3, vm4, vm5, vm6, vm7, vmF, vmT, evo, wr, wrC, frame, Nat.reduceAdd, Nat.reduceMul, Nat.reduceSub, beq_self_eq_true, List.cons_append, List.nil_append, beq_dec, vmI]
    exact ⟨by rw [show EvV.right ⟨3, m, d, p⟩ = decide (p = pk0) from by simp [EvV.right, hd0, hm.1, hm.2]]; rfl, hf.trans hf3 (fp2 := []) (by simp) (by simp)⟩
  · simp (disch := omega) only [vm0, vm1, vm2, vm3, vm4, vm5, vm6, vm7, vmF, vmT, evo, wr, wrC, frame, Nat.reduceAdd, Nat.reduceMul, Nat.reduceSub, beq_self_eq_true, List.cons_append, List.nil_append, beq_dec, vmI, vc11_0, g1, e, vmU]
    refine call_ok rfl rfl (u_right (n + 1) _ p w hw2 hpl) ?_
    rintro y s3 ⟨rfl, hf3⟩
    have g3 := (hf3.get hlt (by simp)).trans g1
    have hff := hf.trans hf3 (fp2 := []) (by simp) (by simp)
    cases hr : p.right
    · simp (disch := omega) only [vm0, vm1, vm2, vm3, vm4, vm5, vm6, vm7, vmF, vmT, evo, wr, wrC, frame, Nat.reduceAdd, Nat.reduceMul, Nat.reduceSub, beq_self_eq_true, List.cons_append, List.nil_append, beq_dec, vmI, g3, e, vmU]
      exact ⟨by rw [show EvV.right ⟨4, m, d, p⟩ = false from by simp [EvV.right, hr]]; rfl, hff⟩
    · by_cases hm0 : m = 0
      case neg =>
        simp (disch := omega) only [vm0, vm1, vm2, vm3, vm4, vm5, vm6, vm7, vmF, vmT, evo, wr, wrC, frame, Nat.reduceAdd, Nat.reduceMul, Nat.reduceSub, beq_self_eq_true, List.cons_append, List.nil_append, beq_dec, vmI, g3, e, vmU]
        exact ⟨by rw [show EvV.right ⟨4, m, d, p⟩ = false from by simp [EvV.right, hm0]]; rfl, hff⟩
      by_cases hlen0 : d.length = 0
      case neg =>
        simp (disch := omega) only [vm0, vm1, vm2, vm3, vm4, vm5, vm6, vm7, vmF, vmT, evo, wr, wrC, frame, Nat.reduceAdd, Nat.reduceMul, Nat.reduceSub, beq_self_eq_true, List.cons_append, List.nil_append, beq_dec, vmI, g3, e, vmU]
        exact ⟨by rw [show EvV.right ⟨4, m, d, p⟩ = false from by simp [EvV.right, show d ≠ [] from fun h => hlen0 (by rw [h]; rfl)]]; rfl, hff⟩
      have hd0 : d = [] := List.eq_nil_of_length_eq_zero hlen0
      simp (disch := omega) only [vm0, vm1, vm2, vm3, vm4, vm5, vm6, vm7, vmF, vmT, evo, wr, wrC, frame, Nat.reduceAdd, Nat.reduceMul, Nat.reduceSub, beq_self_eq_true, List.cons_append, List.nil_append, beq_dec, vmI, g3, e, vmU]
      exact ⟨by rw [show EvV.right ⟨4, m, d, p⟩ = true from by simp [EvV.right, hr, hm0, hd0]]; rfl, hff⟩
  · simp (disch := omega) only [vm0, vm1, vm2, vm3, vm4, vm5, vm6, vm7, vmF, vmT, evo, wr, wrC, frame, Nat.reduceAdd, Nat.reduceMul, Nat.reduceSub, beq_self_eq_true, List.cons_append, List.nil_append, beq_dec, vmI, vc11_0, g1, e, vmU]
    refine call_ok rfl rfl (u_right (n + 1) _ p w hw2 hpl) ?_
    rintro y s3 ⟨rfl, hf3⟩
    have g3 := (hf3.get hlt (by simp)).trans g1
    have hff := hf.trans hf3 (fp2 := []) (by simp) (by simp)
    cases hr : p.right
    · simp (disch := omega) only [vm0, vm1, vm2, vm3, vm4, vm5, vm6, vm7, vmF, vmT, evo, wr, wrC, frame, Nat.reduceAdd, Nat.reduceMul, Nat.reduceSub, beq_self_eq_true, List.cons_append, List.nil_append, beq_dec, vmI, g3, e, vmU]
      exact ⟨by rw [show EvV.right ⟨5, m, d, p⟩ = false from by simp [EvV.right, hr]]; rfl, hff⟩
    · by_cases hm0 : m = 0
      case neg =>
        simp (disch := omega) only [vm0, vm1, vm2, vm3, vm4, vm5, vm6, vm7, vmF, vmT, evo, wr, wrC, frame, Nat.reduceAdd, Nat.reduceMul, Nat.reduceSub, beq_self_eq_true, List.cons_append, List.nil_append, beq_dec, vmI, g3, e, vmU]
        exact ⟨by rw [show EvV.right ⟨5, m, d, p⟩ = false from by simp [EvV.right, hm0]]; rfl, hff⟩
      by_cases hlen0 : d.length = 0
      case neg =>
        simp (disch := omega) only [vm0, vm1, vm2, vm3, vm4, vm5, vm6, vm7, vmF, vmT, evo, wr, wrC, frame, Nat.reduceAdd, Nat.reduceMul, Nat.reduceSub, beq_self_eq_true, List.cons_append, List.nil_append, beq_dec, vmI, g3, e, vmU]
        exact ⟨by rw [show EvV.right ⟨5, m, d, p⟩ = false from by simp [EvV.right, show d ≠ [] from fun h => hlen0 (by rw [h]; rfl)]]; rfl, hff⟩
      have hd0 : d = [] := List.eq_nil_of_length_eq_zero hlen0
      simp (disch := omega) only [vm0, vm1, vm2, vm3, vm4, vm5, vm6, vm7, vmF, vmT, evo, wr, wrC, frame, Nat.reduceAdd, Nat.reduceMul, Nat.reduceSub, beq_self_eq_true, List.cons_append, List.nil_append, beq_dec, vmI, g3, e, vmU]
      exact ⟨by rw [show EvV.right ⟨5, m, d, p⟩ = true from by simp [EvV.right, hr, hm0, hd0]]; rfl, hff⟩
  · by_cases hm0 : m = 0
    case neg =>
      simp (disch := omega) only [vm0, vm1, vm2, vm3, vm4, vm5, vm6, vm7, vmF, vmT, evo, wr, wrC, frame, Nat.reduceAdd, Nat.reduceMul, Nat.reduceSub, beq_self_eq_true, List.cons_append, List.nil_append, beq_dec, vmI, vc11_0, g1, e, vmU]
      exact ⟨by rw [show EvV.right ⟨6, m, d, p⟩ = false from by simp [EvV.right, hm0]]; rfl, hf⟩
    by_cases hlen0 : d.length = 0
    case neg =>
      simp (disch := omega) only [vm0, vm1, vm2, vm3, vm4, vm5, vm6, vm7, vmF, vmT, evo, wr, wrC, frame, Nat.reduceAdd, Nat.reduceMul, Nat.reduceSub, beq_self_eq_true, List.cons_append, List.nil_append, beq_dec, vmI, vc11_0, g1, e, vmU]
      exact ⟨by rw [show EvV.right ⟨6, m, d, p⟩ = false from by simp [EvV.right, show d ≠ [] from fun h => hlen0 (by rw [h]; rfl)]]; rfl, hf⟩
    have hd0 : d = [] := List.eq_nil_of_length_eq_zero hlen0
    simp (disch := omega) only [vm0, vm1, vm2, vm3, vm4, vm5, vm6, vm7, vmF, vmT, evo, wr, wrC, frame, Nat.reduceAdd, Nat.reduceMul, Nat.reduceSub, beq_self_eq_true, List.cons_append, List.nil_append, beq_dec, vmI, vc11_0, g1, e, vmU]
    refine call_ok rfl rfl (nothing n _ p w hw2 h8) ?_
    rintro y s3 ⟨rfl, hf3⟩
    simp (disch := omega) only [vm0, vm1, vm2, vm3, vm4, vm5, vm6, vm7, vmF, vmT, evo, wr, wrC, frame, Nat.reduceAdd, Nat.reduceMul, Nat.reduceSub, beq_self_eq_true, List.cons_append, List.nil_append, beq_dec, vmI]
    exact ⟨by rw [show EvV.right ⟨6, m, d, p⟩ = decide (p = pk0) from by simp [EvV.right, hd0, hm0]]; rfl, hf.trans hf3 (fp2 := []) (by simp) (by simp)⟩
  · simp (disch := omega) only [vm0, vm1, vm2, vm3, vm4, vm5, vm6, vm7, vmF, vmT, evo, wr, wrC, frame, Nat.reduceAdd, Nat.reduceMul, Nat.reduceSub, beq_self_eq_true, List.cons_append, List.nil_append, beq_dec, vmI, vc11_0, g1, e, vmU]
    by_cases hm : 0 ≤ m ∧ m ≤ 2
    case neg =>
      refine call_ok rfl rfl (btw_f (n + 2) _ m 0 2 hm) ?_
      rintro y s2 ⟨rfl, rfl⟩
      simp (disch := omega) only [vm0, vm1, vm2, vm3, vm4, vm5, vm6, vm7, vmF, vmT, evo, wr, wrC, frame, Nat.reduceAdd, Nat.reduceMul, Nat.reduceSub, beq_self_eq_true, List.cons_append, List.nil_append, beq_dec, vmI, g1, e, vmU]
      exact ⟨by rw [show EvV.right ⟨7, m, d, p⟩ = false from by simp [EvV.right, show ¬ (0 ≤ m ∧ m ≤ 2) from hm]]; rfl, hf⟩
    refine call_ok rfl rfl (btw_t (n + 2) _ m 0 2 hm.1 hm.2) ?_
    rintro y s2 ⟨rfl, rfl⟩
    by_cases hlen0 : d.length = 0
    case neg =>
      simp (disch := omega) only [vm0, vm1, vm2, vm3, vm4, vm5, vm6, vm7, vmF, vmT, evo, wr, wrC, frame, Nat.reduceAdd, Nat.reduceMul, Nat.reduceSub, beq_self_eq_true, List.cons_append, List.nil_append, beq_dec, vmI, g1, e, vmU]
      exact ⟨by rw [show EvV.right ⟨7, m, d, p⟩ = false from by simp [EvV.right, show d ≠ [] from fun h => hlen0 (by rw [h]; rfl)]]; rfl, hf⟩
    have hd0 : d = [] := List.eq_nil_of_length_eq_zero hlen0
    simp (disch := omega) only [vm0, vm1, vm2, vm3, vm4, vm5, vm6, vm7, vmF, vmT, evo, wr, wrC, frame, Nat.reduceAdd, Nat.reduceMul, Nat.reduceSub, beq_self_eq_true, List.cons_append, List.nil_append, beq_dec, vmI, g1, e, vmU]
    refine call_ok rfl rfl (nothing n _ p w hw2 h8) ?_
    rintro y s3 ⟨rfl, hf3⟩
    simp (disch := omega) only [vm0, vm1, vm2, vm3, vm4, vm5, vm6, vm7, vmF, vmT, evo, wr, wrC, frame, Nat.reduceAdd, Nat.reduceMul, Nat.reduceSub, beq_self_eq_true, List.cons_append, List.nil_append, beq_dec, vmI]
    exact ⟨by rw [show EvV.right ⟨7, m, d, p⟩ = decide (p = pk0) from by simp [EvV.right, hd0, hm.1, hm.2]]; rfl, hf.trans hf3 (fp2 := []) (by simp) (by simp)⟩
  · simp (disch := omega) only [vm0, vm1, vm2, vm3, vm4, vm5, vm6, vm7, vmF, vmT, evo, wr, wrC, frame, Nat.reduceAdd, Nat.reduceMul, Nat.reduceSub, beq_self_eq_true, List.cons_append, List.nil_append, beq_dec, vmI, vc11_0, g1, e, vmU]
    by_cases hm : 0 ≤ m ∧ m ≤ 2
    case neg =>
      refine call_ok rfl rfl (btw_f (n + 2) _ m 0 2 hm) ?_
      rintro y s2 ⟨rfl, rfl⟩
      simp (disch := omega) only [vm0, vm1, vm2, vm3, vm4, vm5, vm6, vm7, vmF, vmT, evo, wr, wrC, frame, Nat.reduceAdd, Nat.reduceMul, Nat.reduceSub, beq_self_eq_true, List.cons_append, List.nil_append, beq_dec, vmI, g1, e, vmU]
      exact ⟨by rw [show EvV.right ⟨8, m, d, p⟩ = false from by simp [EvV.right, show ¬ (0 ≤ m ∧ m ≤ 2) from hm]]; rfl, hf⟩
    refine call_ok rfl rfl (btw_t (n + 2) _ m 0 2 hm.1 hm.2) ?_
    rintro y s2 ⟨rfl, rfl⟩
    by_cases hlen0 : d.length = 0
    case neg =>
      simp (disch := omega) only [vm0, vm1, vm2, vm3, vm4, vm5, vm6, vm7, vmF, vmT, evo, wr, wrC, frame, Nat.reduceAdd, Nat.reduceMul, Nat.reduceSub, beq_self_eq_true, List.cons_append, List.nil_append, beq_dec, vmI, g1, e, vmU]
      exact ⟨by rw [show EvV.right ⟨8, m, d, p⟩ = false from by simp [EvV.right, show d ≠ [] from fun h => hlen0 (by rw [h]; rfl)]]; rfl, hf⟩
    have hd0 : d = [] := List.eq_nil_of_length_eq_zero hlen0
    simp (disch := omega) only [vm0, vm1, vm2, vm3, vm4, vm5, vm6, vm7, vmF, vmT, evo, wr, wrC, frame, Nat.reduceAdd, Nat.reduceMul, Nat.reduceSub, beq_self_eq_true, List.cons_append, List.nil_append, beq_dec, vmI, g1, e, vmU]
    refine call_ok rfl rfl (nothing n _ p w hw2 h8) ?_
    rintro y s3 ⟨rfl, hf3⟩
    simp (disch := omega) only [vm0, vm1, vm2, vm3, vm4, vm5, vm6, vm7, vmF, vmT, evo, wr, wrC, frame, Nat.reduceAdd, Nat.reduceMul, Nat.reduceSub, beq_self_eq_true, List.cons_append, List.nil_append, beq_dec, vmI]
    exact ⟨by rw [show EvV.right ⟨8, m, d, p⟩ = decide (p = pk0) from by simp [EvV.right, hd0, hm.1, hm.2]]; rfl, hf.trans hf3 (fp2 := []) (by simp) (by simp)⟩
  · simp (disch := omega) only [vm0, vm1, vm2, vm3, vm4, vm5, vm6, vm7, vmF, vmT, evo, wr, wrC, frame, Nat.reduceAdd, Nat.reduceMul, Nat.reduceSub, beq_self_eq_true, List.cons_append, List.nil_append, beq_dec, vmI, vc11_0, g1, e, vmU]
    exact ⟨by rw [show EvV.right ⟨k, m, d, p⟩ = false from by unfold EvV.right; dsimp only; rw [if_neg (by omega), if_neg (by omega), if_neg (by omega), if_neg (by omega), if_neg (by omega)]]; rfl, hf⟩
end
end Go.Proofs.Ytgckbcljlkkceaa.ctr
namespace Go.Proofs.Ytgckbcljlkkceaa.ctr
open Go Go.Vm Go.RowKit
set_option linter.unusedVariables false
set_option linter.constructorNameAsVariable false
set_option linter.unusedSimpArgs false
theorem rw_7 {α : Type} {x0 x1 x2 x3 x4 x5 x6 : α} : List.reverse [x0, x1, x2, x3, x4, x5, x6] = [x6, x5, x4, x3, x2, x1, x0] := rfl
theorem rw_8 {α : Type} {x0 x1 x2 x3 x4 x5 x6 x7 : α} : List.reverse [x0, x1, x2, x3, x4, x5, x6, x7] = [x7, x6, x5, x4, x3, x2, x1, x0] := rfl
theorem rw_9 {α : Type} {x0 x1 x2 x3 x4 x5 x6 x7 x8 : α} : List.reverse [x0, x1, x2, x3, x4, x5, x6, x7, x8] = [x8, x7, x6, x5, x4, x3, x2, x1, x0] := rfl
theorem rw_10 {α : Type} {x0 x1 x2 x3 x4 x5 x6 x7 x8 x9 : α} : List.reverse [x0, x1, x2, x3, x4, x5, x6, x7, x8, x9] = [x9, x8, x7, x6, x5, x4, x3, x2, x1, x0] := rfl
theorem rw_11 {α : Type} {x0 x1 x2 x3 x4 x5 x6 x7 x8 x9 x10 : α} : List.reverse [x0, x1, x2, x3, x4, x5, x6, x7, x8, x9, x10] = [x10, x9, x8, x7, x6, x5, x4, x3, x2, x1, x0] := rfl
theorem rw_12 {α : Type} {x0 x1 x2 x3 x4 x5 x6 x7 x8 x9 x10 x11 : α} : List.reverse [x0, x1, x2, x3, x4, x5, x6, x7, x8, x9, x10, x11] = [x11, x10, x9, x8, x7, x6, x5, x4, x3, x2, x1, x0] := rfl
set_option linter.defProp false in
def vmR2 := And.intro @rw_7 <| And.intro @rw_8 <| And.intro @rw_9 <| And.intro @rw_10 <| And.intro @rw_11 <| @rw_12
/-- with the fields of its kind alone -/
def PkV.bare (p : PkV) : PkV := if p.k = 2 then ⟨p.k, p.pt, p.nr, p.of_, 0, [], false, 0, 0⟩ else if p.k = 3 then ⟨p.k, p.pt, p.nr, 0, p.fr, p.d, p.fin, 0, 0⟩ else if p.k = 4 then ⟨p.k, p.pt, p.nr, p.of_, 0, [], false, p.se, p.li⟩ else ⟨p.k, p.pt, p.nr, 0, 0, [], false, 0, 0⟩
def PkV.fields (p : PkV) : Bool := if p.k = 2 then decide (0 ≤ p.of_ ∧ p.of_ ≤ 65535) else if p.k = 3 then decide (0 ≤ p.fr ∧ p.fr ≤ 4096 ∧ (p.d.length : Int) ≤ 64 ∧ (p.d.length : Int) ≤ 4096 - p.fr) else if p.k = 4 then decide (0 ≤ p.of_ ∧ p.of_ ≤ 65535 ∧ 0 ≤ p.se ∧ p.se ≤ 4097 ∧ 0 ≤ p.li ∧ p.li ≤ 4496) else decide (p.k = 1)
section
variable {bd : Bd} {fu : Nat}
theorem p_bare (n : Nat) (s : St) (p : PkV) (u : AV) (hu : isSl 1 u) : OutOk (callF bd tab.get fu (n + 1) 132 [.agg (p.cs u)] s) (fun x s' => ∃ u', Is x (.agg (p.bare.cs u')) ∧ Fr s s' [] ∧ (u' = .nils ∧ p.bare.d = [] ∨ u' = u ∧ p.bare.d = p.d)) := by
  refine call_code t132 rfl ?_
  obtain ⟨k, pt, nr, of_, fr, d, fin, se, li⟩ := p
  dsimp only [PkV.cs] at *
  have huc : u.cells = some [u] := by cases u <;> first | rfl | exact hu.elim
  have hsm := sm_v hu
  have hfa : Fr s ((s.new (.cells [num k, num pt, num nr, num of_, num fr, u, .bool fin, num se, num li] .own)).new (.cells [num 0, num 0, num 0, num 0, num 0, .nils, .bool false, num 0, num 0] .own)) [] := by exact (by (repeat' (first | exact Fr.refl | assumption | apply Fr.new' | apply Fr.mk' | apply Fr.put')) <;> (first | omega | (left; simp; done) | (right; simp only [next_put, next_new, next_mk]; omega) | (simp only [next_put, next_new, next_mk]; omega)))
  have g1 : ((s.new (.cells [num k, num pt, num nr, num of_, num fr, u, .bool fin, num se, num li] .own)).new (.cells [num 0, num 0, num 0, num 0, num 0, .nils, .bool false, num 0, num 0] .own)).heap.get s.next = some (.cells [num k, num pt, num nr, num of_, num fr, u, .bool fin, num se, num li] .own) := by
    rw [get_new_ne (by rw [next_new]; omega)]; exact get_new_eq rfl
  have g2 : ((s.new (.cells [num k, num pt, num nr, num of_, num fr, u, .bool fin, num se, num li] .own)).new (.cells [num 0, num 0, num 0, num 0, num 0, .nils, .bool false, num 0, num 0] .own)).heap.get (s.next + 1) = some (.cells [num 0, num 0, num 0, num 0, num 0, .nils, .bool false, num 0, num 0] .own) := get_new_eq (by simp only [next_new])
  have hfb : Fr s (((s.new (.cells [num k, num pt, num nr, num of_, num fr, u, .bool fin, num se, num li] .own)).new (.cells [num 0, num 0, num 0, num 0, num 0, .nils, .bool false, num 0, num 0] .own)).new (.cells [num 0, num 0, num 0, num 0, num 0, .nils, .bool false, num 0, num 0] .own)) [] := by exact (by (repeat' (first | exact Fr.refl | assumption | apply Fr.new' | apply Fr.mk' | apply Fr.put')) <;> (first | omega | (left; simp; done) | (right; simp only [next_put, next_new, next_mk]; omega) | (simp only [next_put, next_new, next_mk]; omega)))
  have g3 : (((s.new (.cells [num k, num pt, num nr, num of_, num fr, u, .bool fin, num se, num li] .own)).new (.cells [num 0, num 0, num 0, num 0, num 0, .nils, .bool false, num 0, num 0] .own)).new (.cells [num 0, num 0, num 0, num 0, num 0, .nils, .bool false, num 0, num 0] .own)).heap.get s.next = some (.cells [num k, num pt, num nr, num of_, num fr, u, .bool fin, num se, num li] .own) := by
    rw [get_new_ne (by rw [next_new, next_new]; omega)]; exact g1
  have g4 : (((s.new (.cells [num k, num pt, num nr, num of_, num fr, u, .bool fin, num se, num li] .own)).new (.cells [num 0, num 0, num 0, num 0, num 0, .nils, .bool false, num 0, num 0] .own)).new (.cells [num 0, num 0, num 0, num 0, num 0, .nils, .bool false, num 0, num 0] .own)).heap.get (s.next + 1) = some (.cells [num 0, num 0, num 0, num 0, num 0, .nils, .bool false, num 0, num 0] .own) := by
    rw [get_new_ne (by rw [next_new, next_new]; omega)]; exact g2
  have g5 : (((s.new (.cells [num k, num pt, num nr, num of_, num fr, u, .bool fin, num se, num li] .own)).new (.cells [num 0, num 0, num 0, num 0, num 0, .nils, .bool false, num 0, num 0] .own)).new (.cells [num 0, num 0, num 0, num 0, num 0, .nils, .bool false, num 0, num 0] .own)).heap.get (s.next + 1 + 1) = some (.cells [num 0, num 0, num 0, num 0, num 0, .nils, .bool false, num 0, num 0] .own) := get_new_eq (by simp only [next_new])
  by_cases h2 : k = 2
  · subst h2
    simp (disch := omega) only [vm0, vm1, vm2, vm3, vm4, vm5, vm6, vm7, vmF, vmT, evo, wr, wrC, frame, Nat.reduceAdd, Nat.reduceMul, Nat.reduceSub, beq_self_eq_true, List.cons_append, List.nil_append, beq_dec, vmI, vc132, g1, g2, g3, g4, g5, huc, hsm, vmR2]
    exact ⟨.nils, rfl, (by exact (show Fr s _ [] from by (repeat' (first | exact hfb | apply Fr.put')) <;> (right; omega))), .inl ⟨rfl, rfl⟩⟩
  by_cases h3 : k = 3
  · subst h3
    simp (disch := omega) only [vm0, vm1, vm2, vm3, vm4, vm5, vm6, vm7, vmF, vmT, evo, wr, wrC, frame, Nat.reduceAdd, Nat.reduceMul, Nat.reduceSub, beq_self_eq_true, List.cons_append, List.nil_append, beq_dec, vmI, vc132, g1, g2, g3, g4, g5, huc, hsm, vmR2]
    exact ⟨u, rfl, (by exact (show Fr s _ [] from by (repeat' (first | exact hfb | apply Fr.put')) <;> (right; omega))), .inr ⟨rfl, rfl⟩⟩
  by_cases h4 : k = 4
  · subst h4
    simp (disch := omega) only [vm0, vm1, vm2, vm3, vm4, vm5, vm6, vm7, vmF, vmT, evo, wr, wrC, frame, Nat.reduceAdd, Nat.reduceMul, Nat.reduceSub, beq_self_eq_true, List.cons_append, List.nil_append, beq_dec, vmI, vc132, g1, g2, g3, g4, g5, huc, hsm, vmR2]
    exact ⟨.nils, rfl, (by exact (show Fr s _ [] from by (repeat' (first | exact hfb | apply Fr.put')) <;> (right; omega))), .inl ⟨rfl, rfl⟩⟩
  simp (disch := omega) only [vm0, vm1, vm2, vm3, vm4, vm5, vm6, vm7, vmF, vmT, evo, wr, wrC, frame, Nat.reduceAdd, Nat.reduceMul, Nat.reduceSub, beq_self_eq_true, List.cons_append, List.nil_append, beq_dec, vmI, vc132, g1, g2, g3, g4, g5, huc, hsm, vmR2]
  have hb : PkV.bare ⟨k, pt, nr, of_, fr, d, fin, se, li⟩ = ⟨k, pt, nr, 0, 0, [], false, 0, 0⟩ := by unfold PkV.bare; dsimp only; rw [if_neg h2, if_neg h3, if_neg h4]
  rw [hb]
  exact ⟨.nils, rfl, (by exact (show Fr s _ [] from by (repeat' (first | exact hfb | apply Fr.put')) <;> (right; omega))), .inl ⟨rfl, rfl⟩⟩
end
end Go.Proofs.Ytgckbcljlkkceaa.ctr
namespace Go.Proofs.Ytgckbcljlkkceaa.ctr
open Go Go.Vm Go.RowKit
set_option linter.unusedVariables false
set_option linter.constructorNameAsVariable false
set_option linter.unusedSimpArgs false
section
variable {bd : Bd} {fu : Nat}
theorem upto (n : Nat) (s : St) (x b : Int) : OutOk (callF bd tab.get fu (n + 1) 131 [num x, num b] s) (fun y s' => Is y (.bool (decide (0 ≤ x ∧ x ≤ b))) ∧ Is s' s) := by
  refine call_code t131 rfl ?_
  by_cases h1 : 0 ≤ x
  · by_cases h2 : x ≤ b
    · rw [decide_eq_true (show 0 ≤ x ∧ x ≤ b from ⟨h1, h2⟩)]
      simp (disch := omega) only [vm0, vm1, vm2, vm3, vm4, vm5, vm6, vm7, vmF, vmT, evo, wr, wrC, frame, Nat.reduceAdd, Nat.reduceMul, Nat.reduceSub, beq_self_eq_true, List.cons_append, List.nil_append, beq_dec, vmI, vc131]
      exact ⟨rfl, rfl⟩
    · rw [decide_eq_false (show ¬ (0 ≤ x ∧ x ≤ b) from fun h => h2 h.2)]
      simp (disch := omega) only [vm0, vm1, vm2, vm3, vm4, vm5, vm6, vm7, vmF, vmT, evo, wr, wrC, frame, Nat.reduceAdd, Nat.reduceMul, Nat.reduceSub, beq_self_eq_true, List.cons_append, List.nil_append, beq_dec, vmI, vc131]
      exact ⟨rfl, rfl⟩
  · rw [decide_eq_false (show ¬ (0 ≤ x ∧ x ≤ b) from fun h => h1 h.1)]
    simp (disch := omega) only [vm0, vm1, vm2, vm3, vm4, vm5, vm6, vm7, vmF, vmT, evo, wr, wrC, frame, Nat.reduceAdd, Nat.reduceMul, Nat.reduceSub, beq_self_eq_true, List.cons_append, List.nil_append, beq_dec, vmI, vc131]
    exact ⟨rfl, rfl⟩
theorem p_fields (n : Nat) (s : St) (p : PkV) (u : AV) (hu : RdE s u 1 encB p.d) (hl : p.d.length ≤ 1000000) : OutOk (callF bd tab.get fu (n + 2) 130 [.agg (p.cs u)] s) (fun y s' => Is y (.bool p.fields) ∧ Fr s s' []) := by
  refine call_code t130 rfl ?_
  obtain ⟨k, pt, nr, of_, fr, d, fin, se, li⟩ := p
  dsimp only [PkV.cs] at *
  have hf : Fr s (s.new (.cells [num k, num pt, num nr, num of_, num fr, u, .bool fin, num se, num li] .own)) [] := .new
  have g1 : (s.new (.cells [num k, num pt, num nr, num of_, num fr, u, .bool fin, num se, num li] .own)).heap.get s.next = some (.cells [num k, num pt, num nr, num of_, num fr, u, .bool fin, num se, num li] .own) := get_new_eq rfl
  have e := hu.lenV
  by_cases h2 : k = 2
  · subst h2
    simp (disch := omega) only [vm0, vm1, vm2, vm3, vm4, vm5, vm6, vm7, vmF, vmT, evo, wr, wrC, frame, Nat.reduceAdd, Nat.reduceMul, Nat.reduceSub, beq_self_eq_true, List.cons_append, List.nil_append, beq_dec, vmI, vc130, g1]
    refine call_ok rfl rfl (upto n _ of_ 65535) ?_
    rintro y s2 ⟨rfl, rfl⟩
    simp (disch := omega) only [vm0, vm1, vm2, vm3, vm4, vm5, vm6, vm7, vmF, vmT, evo, wr, wrC, frame, Nat.reduceAdd, Nat.reduceMul, Nat.reduceSub, beq_self_eq_true, List.cons_append, List.nil_append, beq_dec, vmI]
    exact ⟨rfl, hf⟩
  by_cases h3 : k = 3
  · subst h3
    simp (disch := omega) only [vm0, vm1, vm2, vm3, vm4, vm5, vm6, vm7, vmF, vmT, evo, wr, wrC, frame, Nat.reduceAdd, Nat.reduceMul, Nat.reduceSub, beq_self_eq_true, List.cons_append, List.nil_append, beq_dec, vmI, vc130, g1]
    generalize s.new (.cells [num 3, num pt, num nr, num of_, num fr, u, .bool fin, num se, num li] .own) = s1 at *
    refine call_ok rfl rfl (upto n _ fr 4096) ?_
    rintro y s2 ⟨rfl, rfl⟩
    have hd : ∀ b, (0 ≤ fr ∧ fr ≤ 4096 ∧ (d.length : Int) ≤ 64 ∧ (d.length : Int) ≤ 4096 - fr ↔ b = true) → PkV.fields ⟨3, pt, nr, of_, fr, d, fin, se, li⟩ = b := by
      intro b hb
      unfold PkV.fields
      dsimp only
      rw [if_neg (by decide), if_pos rfl]
      cases b
      · exact decide_eq_false (fun h => by simpa using hb.1 h)
      · exact decide_eq_true (hb.2 rfl)
    by_cases c1 : 0 ≤ fr ∧ fr ≤ 4096
    case neg =>
      rw [decide_eq_false c1, hd false (by simp; omega)]
      simp (disch := omega) only [vm0, vm1, vm2, vm3, vm4, vm5, vm6, vm7, vmF, vmT, evo, wr, wrC, frame, Nat.reduceAdd, Nat.reduceMul, Nat.reduceSub, beq_self_eq_true, List.cons_append, List.nil_append, beq_dec, vmI, g1, e, vmU]
      exact ⟨rfl, hf⟩
    rw [decide_eq_true c1]
    by_cases c2 : (d.length : Int) ≤ 64
    case neg =>
      rw [hd false (by simp; omega)]
      simp (disch := omega) only [vm0, vm1, vm2, vm3, vm4, vm5, vm6, vm7, vmF, vmT, evo, wr, wrC, frame, Nat.reduceAdd, Nat.reduceMul, Nat.reduceSub, beq_self_eq_true, List.cons_append, List.nil_append, beq_dec, vmI, g1, e, vmU]
      exact ⟨rfl, hf⟩
    by_cases c3 : (d.length : Int) ≤ 4096 - fr
    case neg =>
      rw [hd false (by simp; omega)]
      simp (disch := omega) only [vm0, vm1, vm2, vm3, vm4, vm5, vm6, vm7, vmF, vmT, evo, wr, wrC, frame, Nat.reduceAdd, Nat.reduceMul, Nat.reduceSub, beq_self_eq_true, List.cons_append, List.nil_append, beq_dec, vmI, g1, e, vmU]
      exact ⟨rfl, hf⟩
    rw [hd true (by simp; omega)]
    simp (disch := omega) only [vm0, vm1, vm2, vm3, vm4, vm5, vm6, vm7, vmF, vmT, evo, wr, wrC, frame, Nat.reduceAdd, Nat.reduceMul, Nat.reduceSub, beq_self_eq_true, List.cons_append, List.nil_append, beq_dec, vmI, g1, e, vmU]
    exact ⟨rfl, hf⟩
  by_cases h4 : k = 4
  · subst h4
    simp (disch := omega) only [vm0, vm1, vm2, vm3, vm4, vm5, vm6, vm7, vmF, vmT, evo, wr, wrC, frame, Nat.reduceAdd, Nat.reduceMul, Nat.reduceSub, beq_self_eq_true, List.cons_append, List.nil_append, beq_dec, vmI, vc130, g1]
    generalize s.new (.cells [num 4, num pt, num nr, num of_, num fr, u, .bool fin, num se, num li] .own) = s1 at *
    refine call_ok rfl rfl (upto n _ of_ 65535) ?_
    rintro y s2 ⟨rfl, rfl⟩
    have hd : ∀ b, (0 ≤ of_ ∧ of_ ≤ 65535 ∧ 0 ≤ se ∧ se ≤ 4097 ∧ 0 ≤ li ∧ li ≤ 4496 ↔ b = true) → PkV.fields ⟨4, pt, nr, of_, fr, d, fin, se, li⟩ = b := by
      intro b hb
      unfold PkV.fields
      dsimp only
      rw [if_neg (by decide), if_neg (by decide), if_pos rfl]
      cases b
      · exact decide_eq_false (fun h => by simpa using hb.1 h)
      · exact decide_eq_true (hb.2 rfl)
    by_cases c1 : 0 ≤ of_ ∧ of_ ≤ 65535
    case neg =>
      rw [decide_eq_false c1, hd false (by simp; omega)]
      simp (disch := omega) only [vm0, vm1, vm2, vm3, vm4, vm5, vm6, vm7, vmF, vmT, evo, wr, wrC, frame, Nat.reduceAdd, Nat.reduceMul, Nat.reduceSub, beq_self_eq_true, List.cons_append, List.nil_append, beq_dec, vmI, g1, e, vmU]
      exact ⟨rfl, hf⟩
    rw [decide_eq_true c1]
    simp (disch := omega) only [vm0, vm1, vm2, vm3, vm4, vm5, vm6, vm7, vmF, vmT, evo, wr, wrC, frame, Nat.reduceAdd, Nat.reduceMul, Nat.reduceSub, beq_self_eq_true, List.cons_append, List.nil_append, beq_dec, vmI, g1]
    refine call_ok rfl rfl (upto n _ se 4097) ?_
    rintro y s2 ⟨rfl, rfl⟩
    by_cases c2 : 0 ≤ se ∧ se ≤ 4097
    case neg =>
      rw [decide_eq_false c2, hd false (by simp; omega)]
      simp (disch := omega) only [vm0, vm1, vm2, vm3, vm4, vm5, vm6, vm7, vmF, vmT, evo, wr, wrC, frame, Nat.reduceAdd, Nat.reduceMul, Nat.reduceSub, beq_self_eq_true, List.cons_append, List.nil_append, beq_dec, vmI, g1, e, vmU]
      exact ⟨rfl, hf⟩
    rw [decide_eq_true c2]
    simp (disch := omega) only [vm0, vm1, vm2, vm3, vm4, vm5, vm6, vm7, vmF, vmT, evo, wr, wrC, frame, Nat.reduceAdd, Nat.reduceMul, Nat.reduceSub, beq_self_eq_true, List.cons_append, List.nil_append, beq_dec, vmI, g1]
    refine call_ok rfl rfl (upto n _ li 4496) ?_
    rintro y s2 ⟨rfl, rfl⟩
    by_cases c3 : 0 ≤ li ∧ li ≤ 4496
    case neg =>
      rw [decide_eq_false c3, hd false (by simp; omega)]
      simp (disch := omega) only [vm0, vm1, vm2, vm3, vm4, vm5, vm6, vm7, vmF, vmT, evo, wr, wrC, frame, Nat.reduceAdd, Nat.reduceMul, Nat.reduceSub, beq_self_eq_true, List.cons_append, List.nil_append, beq_dec, vmI, g1, e, vmU]
      exact ⟨rfl, hf⟩
    rw [decide_eq_true c3, hd true (by simp; omega)]
    simp (disch := omega) only [vm0, vm1, vm2, vm3, vm4, vm5, vm6, vm7, vmF, vmT, evo, wr, wrC, frame, Nat.reduceAdd, Nat.reduceMul, Nat.reduceSub, beq_self_eq_true, List.cons_append, List.nil_append, beq_dec, vmI, g1]
    exact ⟨rfl, hf⟩
  have hx : PkV.fields ⟨k, pt, nr, of_, fr, d, fin, se, li⟩ = decide (k = 1) := by unfold PkV.fields; dsimp only; rw [if_neg h2, if_neg h3, if_neg h4]
  rw [hx]
  by_cases h1 : k = 1
  · rw [decide_eq_true h1]
    simp (disch := omega) only [vm0, vm1, vm2, vm3, vm4, vm5, vm6, vm7, vmF, vmT, evo, wr, wrC, frame, Nat.reduceAdd, Nat.reduceMul, Nat.reduceSub, beq_self_eq_true, List.cons_append, List.nil_append, beq_dec, vmI, vc130, g1]
    exact ⟨rfl, hf⟩
  · rw [decide_eq_false h1]
    simp (disch := omega) only [vm0, vm1, vm2, vm3, vm4, vm5, vm6, vm7, vmF, vmT, evo, wr, wrC, frame, Nat.reduceAdd, Nat.reduceMul, Nat.reduceSub, beq_self_eq_true, List.cons_append, List.nil_append, beq_dec, vmI, vc130, g1]
    exact ⟨rfl, hf⟩
/-- what the program asks of a packet, is what the document asks -/
theorem right_eq (p : PkV) : (p.fields && decide (0 ≤ p.pt ∧ p.pt ≤ 2) && decide (0 ≤ p.nr ∧ p.nr ≤ 65535) && decide (p = p.bare)) = p.right := by
  obtain ⟨k, pt, nr, of_, fr, d, fin, se, li⟩ := p
  rw [Bool.eq_iff_iff]
  by_cases h2 : k = 2
  · subst h2
    by_cases hd : d = []
    · subst hd
      cases fin
      · simp [PkV.fields, PkV.bare, PkV.right]
        try omega
      · simp [PkV.fields, PkV.bare, PkV.right]
        try omega
    · simp [PkV.fields, PkV.bare, PkV.right, hd]
      try omega
  by_cases h4 : k = 4
  · subst h4
    by_cases hd : d = []
    · subst hd
      cases fin
      · simp [PkV.fields, PkV.bare, PkV.right]
        try omega
      · simp [PkV.fields, PkV.bare, PkV.right]
        try omega
    · simp [PkV.fields, PkV.bare, PkV.right, hd]
      try omega
  by_cases h3 : k = 3
  · subst h3
    simp [PkV.fields, PkV.bare, PkV.right]
    omega
  by_cases hd : d = []
  · subst hd
    cases fin
    · simp [PkV.fields, PkV.bare, PkV.right, h2, h3, h4]
      try omega
    · simp [PkV.fields, PkV.bare, PkV.right, h2, h3, h4]
      try omega
  · simp [PkV.fields, PkV.bare, PkV.right, hd, h2, h3, h4]
    try omega
end
end Go.Proofs.Ytgckbcljlkkceaa.ctr
namespace Go.Proofs.Ytgckbcljlkkceaa.ctr
open Go Go.Vm Go.RowKit
set_option linter.unusedVariables false
set_option linter.constructorNameAsVariable false
set_option linter.unusedSimpArgs false
theorem sv_sl {sz : Nat} {v : AV} (h : isSl sz v) : sameV v v = true := by
  cases v with
  | nils => rfl
  | emp => rfl
  | sl b o l lo ex z => simp [sameV]
  | _ => exact h.elim
section
variable {k : Nat} {s : St} {ss : List St} {fs : List Fs} {ps : List Pend} {Q : Option AV → Nat → St → List St → List Fs → List Pend → Prop}
theorem du_lda (n : Nat) (x : Od) : DOk (drwU (.lda n x) k s ss fs ps) Q = Q (some (.tup [])) k s ss fs ps := rfl
end
theorem sv_b {a b : Bool} : sameV (.bool a) (.bool b) = (a == b) := rfl
theorem bare_in {p : PkV} (h8 : ∀ x ∈ p.d, In8 x) : ∀ x ∈ p.bare.d, In8 x := by
  unfold PkV.bare
  split
  · simp
  · split
    · exact h8
    · split <;> simp
section
variable {bd : Bd} {fu : Nat}
theorem p_check (n : Nat) (s : St) (p : PkV) (u : AV) (hu : RdE s u 1 encB p.d) (hl : p.d.length ≤ 1000000) (h8 : ∀ x ∈ p.d, In8 x) : OutOk (callF bd tab.get fu (n + 3) 111 [.agg (p.cs u)] s) (fun y s' => Is y (num (if p.right then 0 else 1)) ∧ Fr s s' []) := by
  refine call_code t111 rfl ?_
  have hf : Fr s (s.new (.cells (p.cs u) .own)) [] := .new
  have g1 : (s.new (.cells (p.cs u) .own)).heap.get s.next = some (.cells (p.cs u) .own) := get_new_eq rfl
  have hlt : s.next < (s.new (.cells (p.cs u) .own)).next := by rw [next_new]; omega
  have huc : u.cells = some [u] := by
    have := hu.rd.sl
    cases u <;> first | rfl | exact this.elim
  have hsv := sv_sl hu.rd.sl
  have hsm := sm_v hu.rd.sl
  have heq := right_eq p
  have hbi := bare_in h8
  have hpf := p_fields (bd := bd)  (fu := fu) n (s.new (.cells (p.cs u) .own)) p u (hu.fr0 hf) hl
  dsimp only [PkV.cs] at hf g1 hlt hpf ⊢
  simp (disch := omega) only [vm0, vm1, vm2, vm3, vm4, vm5, vm6, vm7, vmF, vmT, evo, wr, wrC, frame, Nat.reduceAdd, Nat.reduceMul, Nat.reduceSub, beq_self_eq_true, List.cons_append, List.nil_append, beq_dec, vmI, vc111]
  generalize s.new (.cells [num p.k, num p.pt, num p.nr, num p.of_, num p.fr, u, .bool p.fin, num p.se, num p.li] .own) = s1 at *
  refine call_ok rfl rfl hpf ?_
  rintro y s2 ⟨rfl, hf2⟩
  have g2 := (hf2.get hlt (by simp)).trans g1
  have hff := hf.trans hf2 (fp2 := []) (by simp) (by simp)
  have no : p.right = false → (num (if p.right = true then 0 else 1) : AV) = num 1 := fun h => by rw [h]; rfl
  cases c1 : p.fields
  · rw [no (by rw [← heq, c1]; rfl)]
    simp (disch := omega) only [vm0, vm1, vm2, vm3, vm4, vm5, vm6, vm7, vmF, vmT, evo, wr, wrC, frame, Nat.reduceAdd, Nat.reduceMul, Nat.reduceSub, beq_self_eq_true, List.cons_append, List.nil_append, beq_dec, vmI, g1, g2, vmU, du_lda, sv_b]
    exact ⟨rfl, hff⟩
  simp (disch := omega) only [vm0, vm1, vm2, vm3, vm4, vm5, vm6, vm7, vmF, vmT, evo, wr, wrC, frame, Nat.reduceAdd, Nat.reduceMul, Nat.reduceSub, beq_self_eq_true, List.cons_append, List.nil_append, beq_dec, vmI, g1, g2]
  refine call_ok rfl rfl (upto (n + 1) s2 p.pt 2) ?_
  rintro y s2 ⟨rfl, rfl⟩
  cases c2 : decide (0 ≤ p.pt ∧ p.pt ≤ 2)
  · rw [no (by rw [← heq, c1, c2]; rfl)]
    simp (disch := omega) only [vm0, vm1, vm2, vm3, vm4, vm5, vm6, vm7, vmF, vmT, evo, wr, wrC, frame, Nat.reduceAdd, Nat.reduceMul, Nat.reduceSub, beq_self_eq_true, List.cons_append, List.nil_append, beq_dec, vmI, g1, g2, vmU, du_lda, sv_b]
    exact ⟨rfl, hff⟩
  simp (disch := omega) only [vm0, vm1, vm2, vm3, vm4, vm5, vm6, vm7, vmF, vmT, evo, wr, wrC, frame, Nat.reduceAdd, Nat.reduceMul, Nat.reduceSub, beq_self_eq_true, List.cons_append, List.nil_append, beq_dec, vmI, g1, g2]
  refine call_ok rfl rfl (upto (n + 1) s2 p.nr 65535) ?_
  rintro y s2 ⟨rfl, rfl⟩
  cases c3 : decide (0 ≤ p.nr ∧ p.nr ≤ 65535)
  · rw [no (by rw [← heq, c1, c2, c3]; rfl)]
    simp (disch := omega) only [vm0, vm1, vm2, vm3, vm4, vm5, vm6, vm7, vmF, vmT, evo, wr, wrC, frame, Nat.reduceAdd, Nat.reduceMul, Nat.reduceSub, beq_self_eq_true, List.cons_append, List.nil_append, beq_dec, vmI, g1, g2, vmU, du_lda, sv_b]
    exact ⟨rfl, hff⟩
  simp (disch := omega) only [vm0, vm1, vm2, vm3, vm4, vm5, vm6, vm7, vmF, vmT, evo, wr, wrC, frame, Nat.reduceAdd, Nat.reduceMul, Nat.reduceSub, beq_self_eq_true, List.cons_append, List.nil_append, beq_dec, vmI, g1, g2, hsv, hsm]
  have hu2 := hu.fr0 hff
  refine call_ok rfl rfl (p_bare (n + 1) s2 p u hu.rd.sl) ?_
  rintro y s3 ⟨u', rfl, hf3, hu'⟩
  have g3 := (hf3.get (Nat.lt_of_lt_of_le hlt hf2.1) (by simp)).trans g2
  have hr' : RdE s3 u' 1 encB p.bare.d := by
    rcases hu' with ⟨rfl, hd⟩ | ⟨rfl, hd⟩
    · rw [hd]; exact (OwE.nil encB_w (by omega)).rd
    · rw [hd]; exact hu2.fr0 hf3
  simp (disch := omega) only [vm0, vm1, vm2, vm3, vm4, vm5, vm6, vm7, vmF, vmT, evo, wr, wrC, frame, Nat.reduceAdd, Nat.reduceMul, Nat.reduceSub, beq_self_eq_true, List.cons_append, List.nil_append, beq_dec, vmI, g1, g2, g3, hsv, hsm]
  refine call_ok rfl rfl (p_same n s3 p p.bare u u' (hu2.fr0 hf3) hr' h8 hbi) ?_
  rintro y s4 ⟨rfl, hf4⟩
  have g4 := (hf4.get (Nat.lt_of_lt_of_le (Nat.lt_of_lt_of_le hlt hf2.1) hf3.1) (by simp)).trans g3
  have hfe := (hff.trans hf3 (fp2 := []) (by simp) (by simp)).trans hf4 (fp2 := []) (by simp) (by simp)
  cases c4 : decide (p = p.bare)
  · rw [no (by rw [← heq, c1, c2, c3, c4]; rfl)]
    simp (disch := omega) only [vm0, vm1, vm2, vm3, vm4, vm5, vm6, vm7, vmF, vmT, evo, wr, wrC, frame, Nat.reduceAdd, Nat.reduceMul, Nat.reduceSub, beq_self_eq_true, List.cons_append, List.nil_append, beq_dec, vmI, g1, g2, g3, g4, hsv, hsm, vmU, du_lda, sv_b]
    exact ⟨rfl, hfe⟩
  · have hr : p.right = true := by rw [← heq, c1, c2, c3, c4]; rfl
    rw [hr, if_pos rfl]
    simp (disch := omega) only [vm0, vm1, vm2, vm3, vm4, vm5, vm6, vm7, vmF, vmT, evo, wr, wrC, frame, Nat.reduceAdd, Nat.reduceMul, Nat.reduceSub, beq_self_eq_true, List.cons_append, List.nil_append, beq_dec, vmI, g1, g2, g3, g4, hsv, hsm, vmU, du_lda, sv_b]
    exact ⟨rfl, hfe⟩
end
end Go.Proofs.Ytgckbcljlkkceaa.ctr
namespace Go.Proofs.Ytgckbcljlkkceaa.ctr
open Go Go.Vm Go.RowKit
set_option linter.unusedVariables false
set_option linter.constructorNameAsVariable false
set_option linter.unusedSimpArgs false
def EvV.fields (e : EvV) : Bool := if e.k = 1 ∨ e.k = 2 then decide (0 < e.d.length ∧ e.d.length ≤ 4096) else if e.k = 3 then decide (1 ≤ e.n ∧ e.n ≤ 1048576) else if e.k = 4 ∨ e.k = 5 then e.p.right else if e.k = 7 ∨ e.k = 8 then decide (0 ≤ e.n ∧ e.n < 3) else decide (e.k = 6)
def EvV.bare (e : EvV) : EvV := if e.k = 1 ∨ e.k = 2 then ⟨e.k, 0, e.d, pk0⟩ else if e.k = 3 ∨ e.k = 7 ∨ e.k = 8 then ⟨e.k, e.n, [], pk0⟩ else if e.k = 4 ∨ e.k = 5 then ⟨e.k, 0, [], e.p⟩ else ⟨e.k, 0, [], pk0⟩
section
variable {bd : Bd} {fu : Nat}
set_option maxHeartbeats 4000000 in
theorem e_fields (n : Nat) (s : St) (a : EvV) (u w : AV) (hu : RdE s u 1 encB a.d) (hw : RdE s w 1 encB a.p.d) (hpl : a.p.d.length ≤ 1000000) (h8 : ∀ x ∈ a.p.d, In8 x) : OutOk (callF bd tab.get fu (n + 4) 62 [.agg (a.cs u w)] s) (fun y s' => Is y (.bool a.fields) ∧ Fr s s' []) := by
  refine call_code t62 rfl ?_
  obtain ⟨k, m, d, p⟩ := a
  dsimp only [EvV.cs] at *
  have hf : Fr s (s.new (.cells [num k, num m, u, num p.k, num p.pt, num p.nr, num p.of_, num p.fr, w, .bool p.fin, num p.se, num p.li] .own)) [] := .new
  have g1 : (s.new (.cells [num k, num m, u, num p.k, num p.pt, num p.nr, num p.of_, num p.fr, w, .bool p.fin, num p.se, num p.li] .own)).heap.get s.next = some (.cells [num k, num m, u, num p.k, num p.pt, num p.nr, num p.of_, num p.fr, w, .bool p.fin, num p.se, num p.li] .own) := get_new_eq rfl
  have e := hu.lenV
  have hw2 := hw.fr0 hf
  rcases (show k = 1 ∨ k = 2 ∨ k = 3 ∨ k = 4 ∨ k = 5 ∨ k = 6 ∨ k = 7 ∨ k = 8 ∨ (k < 1 ∨ 8 < k) by omega) with rfl | rfl | rfl | rfl | rfl | rfl | rfl | rfl | hk
  · by_cases c1 : 0 < (d.length : Int)
    · by_cases c2 : (d.length : Int) ≤ 4096
      · simp (disch := omega) only [vm0, vm1, vm2, vm3, vm4, vm5, vm6, vm7, vmF, vmT, evo, wr, wrC, frame, Nat.reduceAdd, Nat.reduceMul, Nat.reduceSub, beq_self_eq_true, List.cons_append, List.nil_append, beq_dec, vmI, vc62, g1, e, vmU]
        exact ⟨by rw [show EvV.fields ⟨1, m, d, p⟩ = true from by simp [EvV.fields]; omega]; rfl, hf⟩
      · simp (disch := omega) only [vm0, vm1, vm2, vm3, vm4, vm5, vm6, vm7, vmF, vmT, evo, wr, wrC, frame, Nat.reduceAdd, Nat.reduceMul, Nat.reduceSub, beq_self_eq_true, List.cons_append, List.nil_append, beq_dec, vmI, vc62, g1, e, vmU]
        exact ⟨by rw [show EvV.fields ⟨1, m, d, p⟩ = false from by simp [EvV.fields]; omega]; rfl, hf⟩
    · simp (disch := omega) only [vm0, vm1, vm2, vm3, vm4, vm5, vm6, vm7, vmF, vmT, evo, wr, wrC, frame, Nat.reduceAdd, Nat.reduceMul, Nat.reduceSub, beq_self_eq_true, List.cons_append, List.nil_append, beq_dec, vmI, vc62, g1, e, vmU]
      exact ⟨by rw [show EvV.fields ⟨1, m, d, p⟩ = false from by simp [EvV.fields]; omega]; rfl, hf⟩
  · by_cases c1 : 0 < (d.length : Int)
    · by_cases c2 : (d.length : Int) ≤ 4096
      · simp (disch := omega) only [vm0, vm1, vm2, vm3, vm4, vm5, vm6, vm7, vmF, vmT, evo, wr, wrC, frame, Nat.reduceAdd, Nat.reduceMul, Nat.reduceSub, beq_self_eq_true, List.cons_append, List.nil_append, beq_dec, vmI, vc62, g1, e, vmU]
        exact ⟨by rw [show EvV.fields ⟨2, m, d, p⟩ = true from by simp [EvV.fields]; omega]; rfl, hf⟩
      · simp (disch := omega) only [vm0, vm1, vm2, vm3, vm4, vm5, vm6, vm7, vmF, vmT, evo, wr, wrC, frame, Nat.reduceAdd, Nat.reduceMul, Nat.reduceSub, beq_self_eq_true, List.cons_append, List.nil_append, beq_dec, vmI, vc62, g1, e, vmU]
        exact ⟨by rw [show EvV.fields ⟨2, m, d, p⟩ = false from by simp [EvV.fields]; omega]; rfl, hf⟩
    · simp (disch := omega) only [vm0, vm1, vm2, vm3, vm4, vm5, vm6, vm7, vmF, vmT, evo, wr, wrC, frame, Nat.reduceAdd, Nat.reduceMul, Nat.reduceSub, beq_self_eq_true, List.cons_append, List.nil_append, beq_dec, vmI, vc62, g1, e, vmU]
      exact ⟨by rw [show EvV.fields ⟨2, m, d, p⟩ = false from by simp [EvV.fields]; omega]; rfl, hf⟩
  · by_cases c1 : 1 ≤ m
    · by_cases c2 : m ≤ 1048576
      · simp (disch := omega) only [vm0, vm1, vm2, vm3, vm4, vm5, vm6, vm7, vmF, vmT, evo, wr, wrC, frame, Nat.reduceAdd, Nat.reduceMul, Nat.reduceSub, beq_self_eq_true, List.cons_append, List.nil_append, beq_dec, vmI, vc62, g1, e, vmU]
        exact ⟨by rw [show EvV.fields ⟨3, m, d, p⟩ = true from by simp [EvV.fields]; omega]; rfl, hf⟩
      · simp (disch := omega) only [vm0, vm1, vm2, vm3, vm4, vm5, vm6, vm7, vmF, vmT, evo, wr, wrC, frame, Nat.reduceAdd, Nat.reduceMul, Nat.reduceSub, beq_self_eq_true, List.cons_append, List.nil_append, beq_dec, vmI, vc62, g1, e, vmU]
        exact ⟨by rw [show EvV.fields ⟨3, m, d, p⟩ = false from by simp [EvV.fields]; omega]; rfl, hf⟩
    · simp (disch := omega) only [vm0, vm1, vm2, vm3, vm4, vm5, vm6, vm7, vmF, vmT, evo, wr, wrC, frame, Nat.reduceAdd, Nat.reduceMul, Nat.reduceSub, beq_self_eq_true, List.cons_append, List.nil_append, beq_dec, vmI, vc62, g1, e, vmU]
      exact ⟨by rw [show EvV.fields ⟨3, m, d, p⟩ = false from by simp [EvV.fields]; omega]; rfl, hf⟩
  · simp (disch := omega) only [vm0, vm1, vm2, vm3, vm4, vm5, vm6, vm7, vmF, vmT, evo, wr, wrC, frame, Nat.reduceAdd, Nat.reduceMul, Nat.reduceSub, beq_self_eq_true, List.cons_append, List.nil_append, beq_dec, vmI, vc62, g1]
    refine call_ok rfl rfl (p_check n _ p w hw2 hpl h8) ?_
    rintro y s3 ⟨rfl, hf3⟩
    have hff := hf.trans hf3 (fp2 := []) (by simp) (by simp)
    cases hr : p.right
    · rw [if_neg (by simp)]
      simp (disch := omega) only [vm0, vm1, vm2, vm3, vm4, vm5, vm6, vm7, vmF, vmT, evo, wr, wrC, frame, Nat.reduceAdd, Nat.reduceMul, Nat.reduceSub, beq_self_eq_true, List.cons_append, List.nil_append, beq_dec, vmI]
      exact ⟨by rw [show EvV.fields ⟨4, m, d, p⟩ = false from by simp [EvV.fields, hr]]; rfl, hff⟩
    · rw [if_pos rfl]
      simp (disch := omega) only [vm0, vm1, vm2, vm3, vm4, vm5, vm6, vm7, vmF, vmT, evo, wr, wrC, frame, Nat.reduceAdd, Nat.reduceMul, Nat.reduceSub, beq_self_eq_true, List.cons_append, List.nil_append, beq_dec, vmI]
      exact ⟨by rw [show EvV.fields ⟨4, m, d, p⟩ = true from by simp [EvV.fields, hr]]; rfl, hff⟩
  · simp (disch := omega) only [vm0, vm1, vm2, vm3, vm4, vm5, vm6, vm7, vmF, vmT, evo, wr, wrC, frame, Nat.reduceAdd, Nat.reduceMul, Nat.reduceSub, beq_self_eq_true, List.cons_append, List.nil_append, beq_dec, vmI, vc62, g1]
    refine call_ok rfl rfl (p_check n _ p w hw2 hpl h8) ?_
    rintro y s3 ⟨rfl, hf3⟩
    have hff := hf.trans hf3 (fp2 := []) (by simp) (by simp)
    cases hr : p.right
    · rw [if_neg (by simp)]
      simp (disch := omega) only [vm0, vm1, vm2, vm3, vm4, vm5, vm6, vm7, vmF, vmT, evo, wr, wrC, frame, Nat.reduceAdd, Nat.reduceMul, Nat.reduceSub, beq_self_eq_true, List.cons_append, List.nil_append, beq_dec, vmI]
      exact ⟨by rw [show EvV.fields ⟨5, m, d, p⟩ = false from by simp [EvV.fields, hr]]; rfl, hff⟩
    · rw [if_pos rfl]
      simp (disch := omega) only [vm0, vm1, vm2, vm3, vm4, vm5, vm6, vm7, vmF, vmT, evo, wr, wrC, frame, Nat.reduceAdd, Nat.reduceMul, Nat.reduceSub, beq_self_eq_true, List.cons_append, List.nil_append, beq_dec, vmI]
      exact ⟨by rw [show EvV.fields ⟨5, m, d, p⟩ = true from by simp [EvV.fields, hr]]; rfl, hff⟩
  · simp (disch := omega) only [vm0, vm1, vm2, vm3, vm4, vm5, vm6, vm7, vmF, vmT, evo, wr, wrC, frame, Nat.reduceAdd, Nat.reduceMul, Nat.reduceSub, beq_self_eq_true, List.cons_append, List.nil_append, beq_dec, vmI, vc62, g1]
    exact ⟨rfl, hf⟩
  · by_cases c1 : 0 ≤ m
    · by_cases c2 : m < 3
      · simp (disch := omega) only [vm0, vm1, vm2, vm3, vm4, vm5, vm6, vm7, vmF, vmT, evo, wr, wrC, frame, Nat.reduceAdd, Nat.reduceMul, Nat.reduceSub, beq_self_eq_true, List.cons_append, List.nil_append, beq_dec, vmI, vc62, g1, e, vmU]
        exact ⟨by rw [show EvV.fields ⟨7, m, d, p⟩ = true from by simp [EvV.fields]; omega]; rfl, hf⟩
      · simp (disch := omega) only [vm0, vm1, vm2, vm3, vm4, vm5, vm6, vm7, vmF, vmT, evo, wr, wrC, frame, Nat.reduceAdd, Nat.reduceMul, Nat.reduceSub, beq_self_eq_true, List.cons_append, List.nil_append, beq_dec, vmI, vc62, g1, e, vmU]
        exact ⟨by rw [show EvV.fields ⟨7, m, d, p⟩ = false from by simp [EvV.fields]; omega]; rfl, hf⟩
    · simp (disch := omega) only [vm0, vm1, vm2, vm3, vm4, vm5, vm6, vm7, vmF, vmT, evo, wr, wrC, frame, Nat.reduceAdd, Nat.reduceMul, Nat.reduceSub, beq_self_eq_true, List.cons_append, List.nil_append, beq_dec, vmI, vc62, g1, e, vmU]
      exact ⟨by rw [show EvV.fields ⟨7, m, d, p⟩ = false from by simp [EvV.fields]; omega]; rfl, hf⟩
  · by_cases c1 : 0 ≤ m
    · by_cases c2 : m < 3
      · simp (disch := omega) only [vm0, vm1, vm2, vm3, vm4, vm5, vm6, vm7, vmF, vmT, evo, wr, wrC, frame, Nat.reduceAdd, Nat.reduceMul, Nat.reduceSub, beq_self_eq_true, List.cons_append, List.nil_append, beq_dec, vmI, vc62, g1, e, vmU]
        exact ⟨by rw [show EvV.fields ⟨8, m, d, p⟩ = true from by simp [EvV.fields]; omega]; rfl, hf⟩
      · simp (disch := omega) only [vm0, vm1, vm2, vm3, vm4, vm5, vm6, vm7, vmF, vmT, evo, wr, wrC, frame, Nat.reduceAdd, Nat.reduceMul, Nat.reduceSub, beq_self_eq_true, List.cons_append, List.nil_append, beq_dec, vmI, vc62, g1, e, vmU]
        exact ⟨by rw [show EvV.fields ⟨8, m, d, p⟩ = false from by simp [EvV.fields]; omega]; rfl, hf⟩
    · simp (disch := omega) only [vm0, vm1, vm2, vm3, vm4, vm5, vm6, vm7, vmF, vmT, evo, wr, wrC, frame, Nat.reduceAdd, Nat.reduceMul, Nat.reduceSub, beq_self_eq_true, List.cons_append, List.nil_append, beq_dec, vmI, vc62, g1, e, vmU]
      exact ⟨by rw [show EvV.fields ⟨8, m, d, p⟩ = false from by simp [EvV.fields]; omega]; rfl, hf⟩
  · simp (disch := omega) only [vm0, vm1, vm2, vm3, vm4, vm5, vm6, vm7, vmF, vmT, evo, wr, wrC, frame, Nat.reduceAdd, Nat.reduceMul, Nat.reduceSub, beq_self_eq_true, List.cons_append, List.nil_append, beq_dec, vmI, vc62, g1]
    exact ⟨by rw [show EvV.fields ⟨k, m, d, p⟩ = false from by unfold EvV.fields; dsimp only; rw [if_neg (by omega), if_neg (by omega), if_neg (by omega), if_neg (by omega)]; exact decide_eq_false (by omega)]; rfl, hf⟩
set_option maxHeartbeats 4000000 in
theorem e_bare (n : Nat) (s : St) (a : EvV) (u w : AV) (hu : isSl 1 u) (hw : isSl 1 w) : OutOk (callF bd tab.get fu (n + 1) 63 [.agg (a.cs u w)] s) (fun x s' => ∃ u' w', Is x (.agg (a.bare.cs u' w')) ∧ Fr s s' [] ∧ (u' = .nils ∧ a.bare.d = [] ∨ u' = u ∧ a.bare.d = a.d) ∧ (w' = .nils ∧ a.bare.p.d = [] ∨ w' = w ∧ a.bare.p.d = a.p.d)) := by
  refine call_code t63 rfl ?_
  have huc : u.cells = some [u] := by cases u <;> first | rfl | exact hu.elim
  obtain ⟨k, m, d, p⟩ := a
  dsimp only [EvV.cs] at *
  have hfa : Fr s ((s.new (.cells [num k, num m, u, num p.k, num p.pt, num p.nr, num p.of_, num p.fr, w, .bool p.fin, num p.se, num p.li] .own)).new (.cells [num 0, num 0, .nils, num 0, num 0, num 0, num 0, num 0, .nils, .bool false, num 0, num 0] .own)) [] := by exact (by (repeat' (first | exact Fr.refl | assumption | apply Fr.new' | apply Fr.mk' | apply Fr.put')) <;> (first | omega | (left; simp; done) | (right; simp only [next_put, next_new, next_mk]; omega) | (simp only [next_put, next_new, next_mk]; omega)))
  have g1 : ((s.new (.cells [num k, num m, u, num p.k, num p.pt, num p.nr, num p.of_, num p.fr, w, .bool p.fin, num p.se, num p.li] .own)).new (.cells [num 0, num 0, .nils, num 0, num 0, num 0, num 0, num 0, .nils, .bool false, num 0, num 0] .own)).heap.get s.next = some (.cells [num k, num m, u, num p.k, num p.pt, num p.nr, num p.of_, num p.fr, w, .bool p.fin, num p.se, num p.li] .own) := by
    rw [get_new_ne (by rw [next_new]; omega)]; exact get_new_eq rfl
  have g2 : ((s.new (.cells [num k, num m, u, num p.k, num p.pt, num p.nr, num p.of_, num p.fr, w, .bool p.fin, num p.se, num p.li] .own)).new (.cells [num 0, num 0, .nils, num 0, num 0, num 0, num 0, num 0, .nils, .bool false, num 0, num 0] .own)).heap.get (s.next + 1) = some (.cells [num 0, num 0, .nils, num 0, num 0, num 0, num 0, num 0, .nils, .bool false, num 0, num 0] .own) := get_new_eq (by simp only [next_new])
  rcases (show k = 1 ∨ k = 2 ∨ k = 3 ∨ k = 4 ∨ k = 5 ∨ k = 6 ∨ k = 7 ∨ k = 8 ∨ (k < 1 ∨ 8 < k) by omega) with rfl | rfl | rfl | rfl | rfl | rfl | rfl | rfl | hk
  · simp (disch := omega) only [vm0, vm1, vm2, vm3, vm4, vm5, vm6, vm7, vmF, vmT, evo, wr, wrC, frame, Nat.reduceAdd, Nat.reduceMul, Nat.reduceSub, beq_self_eq_true, List.cons_append, List.nil_append, beq_dec, vmI, vc63, g1, g2, huc]
    exact ⟨u, .nils, rfl, by exact (show Fr s _ [] from by (repeat' (first | exact hfa | apply Fr.put')) <;> (right; omega)), by simp [EvV.bare, pk0], by simp [EvV.bare, pk0]⟩
  · simp (disch := omega) only [vm0, vm1, vm2, vm3, vm4, vm5, vm6, vm7, vmF, vmT, evo, wr, wrC, frame, Nat.reduceAdd, Nat.reduceMul, Nat.reduceSub, beq_self_eq_true, List.cons_append, List.nil_append, beq_dec, vmI, vc63, g1, g2, huc]
    exact ⟨u, .nils, rfl, by exact (show Fr s _ [] from by (repeat' (first | exact hfa | apply Fr.put')) <;> (right; omega)), by simp [EvV.bare, pk0], by simp [EvV.bare, pk0]⟩
  · simp (disch := omega) only [vm0, vm1, vm2, vm3, vm4, vm5, vm6, vm7, vmF, vmT, evo, wr, wrC, frame, Nat.reduceAdd, Nat.reduceMul, Nat.reduceSub, beq_self_eq_true, List.cons_append, List.nil_append, beq_dec, vmI, vc63, g1, g2, huc]
    exact ⟨.nils, .nils, rfl, by exact (show Fr s _ [] from by (repeat' (first | exact hfa | apply Fr.put')) <;> (right; omega)), by simp [EvV.bare, pk0], by simp [EvV.bare, pk0]⟩
  · simp (disch := omega) only [vm0, vm1, vm2, vm3, vm4, vm5, vm6, vm7, vmF, vmT, evo, wr, wrC, frame, Nat.reduceAdd, Nat.reduceMul, Nat.reduceSub, beq_self_eq_true, List.cons_append, List.nil_append, beq_dec, vmI, vc63, g1, g2, huc]
    exact ⟨.nils, w, rfl, by exact (show Fr s _ [] from by (repeat' (first | exact hfa | apply Fr.put')) <;> (right; omega)), by simp [EvV.bare, pk0], by simp [EvV.bare, pk0]⟩
  · simp (disch := omega) only [vm0, vm1, vm2, vm3, vm4, vm5, vm6, vm7, vmF, vmT, evo, wr, wrC, frame, Nat.reduceAdd, Nat.reduceMul, Nat.reduceSub, beq_self_eq_true, List.cons_append, List.nil_append, beq_dec, vmI, vc63, g1, g2, huc]
    exact ⟨.nils, w, rfl, by exact (show Fr s _ [] from by (repeat' (first | exact hfa | apply Fr.put')) <;> (right; omega)), by simp [EvV.bare, pk0], by simp [EvV.bare, pk0]⟩
  · simp (disch := omega) only [vm0, vm1, vm2, vm3, vm4, vm5, vm6, vm7, vmF, vmT, evo, wr, wrC, frame, Nat.reduceAdd, Nat.reduceMul, Nat.reduceSub, beq_self_eq_true, List.cons_append, List.nil_append, beq_dec, vmI, vc63, g1, g2, huc]
    exact ⟨.nils, .nils, rfl, by exact (show Fr s _ [] from by (repeat' (first | exact hfa | apply Fr.put')) <;> (right; omega)), by simp [EvV.bare, pk0], by simp [EvV.bare, pk0]⟩
  · simp (disch := omega) only [vm0, vm1, vm2, vm3, vm4, vm5, vm6, vm7, vmF, vmT, evo, wr, wrC, frame, Nat.reduceAdd, Nat.reduceMul, Nat.reduceSub, beq_self_eq_true, List.cons_append, List.nil_append, beq_dec, vmI, vc63, g1, g2, huc]
    exact ⟨.nils, .nils, rfl, by exact (show Fr s _ [] from by (repeat' (first | exact hfa | apply Fr.put')) <;> (right; omega)), by simp [EvV.bare, pk0], by simp [EvV.bare, pk0]⟩
  · simp (disch := omega) only [vm0, vm1, vm2, vm3, vm4, vm5, vm6, vm7, vmF, vmT, evo, wr, wrC, frame, Nat.reduceAdd, Nat.reduceMul, Nat.reduceSub, beq_self_eq_true, List.cons_append, List.nil_append, beq_dec, vmI, vc63, g1, g2, huc]
    exact ⟨.nils, .nils, rfl, by exact (show Fr s _ [] from by (repeat' (first | exact hfa | apply Fr.put')) <;> (right; omega)), by simp [EvV.bare, pk0], by simp [EvV.bare, pk0]⟩
  · simp (disch := omega) only [vm0, vm1, vm2, vm3, vm4, vm5, vm6, vm7, vmF, vmT, evo, wr, wrC, frame, Nat.reduceAdd, Nat.reduceMul, Nat.reduceSub, beq_self_eq_true, List.cons_append, List.nil_append, beq_dec, vmI, vc63, g1, g2, huc]
    have hb : EvV.bare ⟨k, m, d, p⟩ = ⟨k, 0, [], pk0⟩ := by unfold EvV.bare; dsimp only; rw [if_neg (by omega), if_neg (by omega), if_neg (by omega)]
    rw [hb]
    exact ⟨.nils, .nils, rfl, by exact (show Fr s _ [] from by (repeat' (first | exact hfa | apply Fr.put')) <;> (right; omega)), .inl ⟨rfl, rfl⟩, .inl ⟨rfl, rfl⟩⟩
theorem right_eqE (e : EvV) : (e.fields && decide (e = e.bare)) = e.right := by
  obtain ⟨k, m, d, p⟩ := e
  rw [Bool.eq_iff_iff]
  by_cases hd : d = [] <;> by_cases hp : p = pk0 <;> by_cases hm : m = 0
  all_goals
    rcases (show k = 1 ∨ k = 2 ∨ k = 3 ∨ k = 4 ∨ k = 5 ∨ k = 6 ∨ k = 7 ∨ k = 8 ∨ (k < 1 ∨ 8 < k) by omega) with rfl | rfl | rfl | rfl | rfl | rfl | rfl | rfl | hk
    all_goals first
      | (simp [EvV.fields, EvV.bare, EvV.right, hd, hp, hm]; done)
      | (simp [EvV.fields, EvV.bare, EvV.right, hd, hp, hm]; omega)
      | (have := List.length_pos_iff.2 hd; simp [EvV.fields, EvV.bare, EvV.right, hd, hp, hm]; omega)
      | (simp [EvV.fields, EvV.bare, EvV.right, hd, hp, hm, show ¬ k = 1 from by omega, show ¬ k = 2 from by omega, show ¬ k = 3 from by omega, show ¬ k = 4 from by omega, show ¬ k = 5 from by omega, show ¬ k = 6 from by omega, show ¬ k = 7 from by omega, show ¬ k = 8 from by omega]; done)
end
end Go.Proofs.Ytgckbcljlkkceaa.ctr
namespace Go.Proofs.Ytgckbcljlkkceaa.ctr
open Go Go.Vm Go.RowKit
set_option linter.unusedVariables false
set_option linter.constructorNameAsVariable false
set_option linter.unusedSimpArgs false
theorem bare_inE {e : EvV} (h8 : ∀ x ∈ e.d, In8 x) (h9 : ∀ x ∈ e.p.d, In8 x) : (∀ x ∈ e.bare.d, In8 x) ∧ (∀ x ∈ e.bare.p.d, In8 x) := by
  have h0 : ∀ x ∈ pk0.d, In8 x := by simp [pk0]
  unfold EvV.bare
  split
  · exact ⟨h8, h0⟩
  · split
    · exact ⟨by simp, h0⟩
    · split
      · exact ⟨by simp, h9⟩
      · exact ⟨by simp, h0⟩
section
variable {bd : Bd} {fu : Nat}
set_option maxHeartbeats 1000000 in
theorem e_check (n : Nat) (s : St) (a : EvV) (u w : AV) (hu : RdE s u 1 encB a.d) (hw : RdE s w 1 encB a.p.d) (hpl : a.p.d.length ≤ 1000000) (h8 : ∀ x ∈ a.d, In8 x) (h9 : ∀ x ∈ a.p.d, In8 x) : OutOk (callF bd tab.get fu (n + 5) 13 [.agg (a.cs u w)] s) (fun y s' => Is y (num (if a.right then 0 else 1)) ∧ Fr s s' []) := by
  refine call_code t13 rfl ?_
  have hf : Fr s (s.new (.cells (a.cs u w) .own)) [] := .new
  have g1 : (s.new (.cells (a.cs u w) .own)).heap.get s.next = some (.cells (a.cs u w) .own) := get_new_eq rfl
  have hlt : s.next < (s.new (.cells (a.cs u w) .own)).next := by rw [next_new]; omega
  have hsu := sv_sl hu.rd.sl
  have hsw := sv_sl hw.rd.sl
  have heq := right_eqE a
  obtain ⟨hb8, hb9⟩ := bare_inE h8 h9
  have hef := e_fields (bd := bd)  (fu := fu) n (s.new (.cells (a.cs u w) .own)) a u w (hu.fr0 hf) (hw.fr0 hf) hpl h9
  dsimp only [EvV.cs] at hf g1 hlt hef ⊢
  simp (disch := omega) only [vm0, vm1, vm2, vm3, vm4, vm5, vm6, vm7, vmF, vmT, evo, wr, wrC, frame, Nat.reduceAdd, Nat.reduceMul, Nat.reduceSub, beq_self_eq_true, List.cons_append, List.nil_append, beq_dec, vmI, vc13]
  generalize s.new (.cells [num a.k, num a.n, u, num a.p.k, num a.p.pt, num a.p.nr, num a.p.of_, num a.p.fr, w, .bool a.p.fin, num a.p.se, num a.p.li] .own) = s1 at *
  refine call_ok rfl rfl hef ?_
  rintro y s2 ⟨rfl, hf2⟩
  have g2 := (hf2.get hlt (by simp)).trans g1
  have hff := hf.trans hf2 (fp2 := []) (by simp) (by simp)
  have no : a.right = false → (num (if a.right = true then 0 else 1) : AV) = num 1 := fun h => by rw [h]; rfl
  cases c1 : a.fields
  · rw [no (by rw [← heq, c1]; rfl)]
    simp (disch := omega) only [vm0, vm1, vm2, vm3, vm4, vm5, vm6, vm7, vmF, vmT, evo, wr, wrC, frame, Nat.reduceAdd, Nat.reduceMul, Nat.reduceSub, beq_self_eq_true, List.cons_append, List.nil_append, beq_dec, vmI, g1, g2, hsu, hsw, vmU, du_lda, sv_b]
    exact ⟨rfl, hff⟩
  simp (disch := omega) only [vm0, vm1, vm2, vm3, vm4, vm5, vm6, vm7, vmF, vmT, evo, wr, wrC, frame, Nat.reduceAdd, Nat.reduceMul, Nat.reduceSub, beq_self_eq_true, List.cons_append, List.nil_append, beq_dec, vmI, g1, g2, hsu, hsw]
  have hu2 := hu.fr0 hff
  have hw2 := hw.fr0 hff
  refine call_ok rfl rfl (e_bare (n + 3) s2 a u w hu.rd.sl hw.rd.sl) ?_
  rintro y s3 ⟨u', w', rfl, hf3, hu', hw'⟩
  have g3 := (hf3.get (Nat.lt_of_lt_of_le hlt hf2.1) (by simp)).trans g2
  have hru : RdE s3 u' 1 encB a.bare.d := by
    rcases hu' with ⟨rfl, hd⟩ | ⟨rfl, hd⟩
    · rw [hd]; exact (OwE.nil encB_w (by omega)).rd
    · rw [hd]; exact hu2.fr0 hf3
  have hrw : RdE s3 w' 1 encB a.bare.p.d := by
    rcases hw' with ⟨rfl, hd⟩ | ⟨rfl, hd⟩
    · rw [hd]; exact (OwE.nil encB_w (by omega)).rd
    · rw [hd]; exact hw2.fr0 hf3
  simp (disch := omega) only [vm0, vm1, vm2, vm3, vm4, vm5, vm6, vm7, vmF, vmT, evo, wr, wrC, frame, Nat.reduceAdd, Nat.reduceMul, Nat.reduceSub, beq_self_eq_true, List.cons_append, List.nil_append, beq_dec, vmI, g1, g2, g3, hsu, hsw, sv_b]
  refine call_ok rfl rfl (e_same (n + 1) s3 a a.bare u w u' w' (hu2.fr0 hf3) (hw2.fr0 hf3) hru hrw h8 h9 hb8 hb9) ?_
  rintro y s4 ⟨rfl, hf4⟩
  have g4 := (hf4.get (Nat.lt_of_lt_of_le (Nat.lt_of_lt_of_le hlt hf2.1) hf3.1) (by simp)).trans g3
  have hfe := (hff.trans hf3 (fp2 := []) (by simp) (by simp)).trans hf4 (fp2 := []) (by simp) (by simp)
  cases c4 : decide (a = a.bare)
  · rw [no (by rw [← heq, c1, c4]; rfl)]
    simp (disch := omega) only [vm0, vm1, vm2, vm3, vm4, vm5, vm6, vm7, vmF, vmT, evo, wr, wrC, frame, Nat.reduceAdd, Nat.reduceMul, Nat.reduceSub, beq_self_eq_true, List.cons_append, List.nil_append, beq_dec, vmI, g1, g2, g3, g4, hsu, hsw, vmU, du_lda, sv_b]
    exact ⟨rfl, hfe⟩
  · have hr : a.right = true := by rw [← heq, c1, c4]; rfl
    rw [hr, if_pos rfl]
    simp (disch := omega) only [vm0, vm1, vm2, vm3, vm4, vm5, vm6, vm7, vmF, vmT, evo, wr, wrC, frame, Nat.reduceAdd, Nat.reduceMul, Nat.reduceSub, beq_self_eq_true, List.cons_append, List.nil_append, beq_dec, vmI, g1, g2, g3, g4, hsu, hsw, vmU, du_lda, sv_b]
    exact ⟨rfl, hfe⟩
end
end Go.Proofs.Ytgckbcljlkkceaa.ctr
