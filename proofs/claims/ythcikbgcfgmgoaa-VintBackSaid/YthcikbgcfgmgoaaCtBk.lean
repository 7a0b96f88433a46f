/- Size, Put, Take; a number is taken as it was put. -/
import Derived.Test.YthcikbgcfgmgoaaCtGe
namespace Go.Proofs.Ythcikbgcfgmgoaa.ctr
open Go Go.Vm Go.RowKit
set_option linter.unusedVariables false
set_option linter.constructorNameAsVariable false
set_option linter.unusedSimpArgs false
section
variable {bd : Bd} {fu : Nat}
theorem v_size (n : Nat) (s : St) (x : Int) : OutOk (callF bd tab.get fu (n + 1) 6 [num x] s) (fun y s' => Is y (num (sizeV x)) ∧ Is s' s) := by
  refine call_code t6 rfl ?_
  unfold sizeV
  by_cases h1 : x < 0
  · simp (disch := omega) only [vm0, vm1, vm2, vm3, vm4, vm5, vm6, vm7, vmF, vmT, evo, wr, wrC, frame, Nat.reduceAdd, Nat.reduceMul, Nat.reduceSub, beq_self_eq_true, List.cons_append, List.nil_append, beq_dec, vmI, vc6]
    exact ⟨by rw [if_pos (.inl h1)]; rfl, rfl⟩
  · by_cases h2 : 4611686018427387903 < x
    · simp (disch := omega) only [vm0, vm1, vm2, vm3, vm4, vm5, vm6, vm7, vmF, vmT, evo, wr, wrC, frame, Nat.reduceAdd, Nat.reduceMul, Nat.reduceSub, beq_self_eq_true, List.cons_append, List.nil_append, beq_dec, vmI, vc6]
      exact ⟨by rw [if_pos (.inr h2)]; rfl, rfl⟩
    · rw [if_neg (by omega)]
      by_cases h3 : x < 64
      · rw [if_pos h3]
        simp (disch := omega) only [vm0, vm1, vm2, vm3, vm4, vm5, vm6, vm7, vmF, vmT, evo, wr, wrC, frame, Nat.reduceAdd, Nat.reduceMul, Nat.reduceSub, beq_self_eq_true, List.cons_append, List.nil_append, beq_dec, vmI, vc6]
        exact ⟨rfl, rfl⟩
      · rw [if_neg h3]
        by_cases h4 : x < 16384
        · rw [if_pos h4]
          simp (disch := omega) only [vm0, vm1, vm2, vm3, vm4, vm5, vm6, vm7, vmF, vmT, evo, wr, wrC, frame, Nat.reduceAdd, Nat.reduceMul, Nat.reduceSub, beq_self_eq_true, List.cons_append, List.nil_append, beq_dec, vmI, vc6]
          exact ⟨rfl, rfl⟩
        · rw [if_neg h4]
          by_cases h5 : x < 1073741824
          · rw [if_pos h5]
            simp (disch := omega) only [vm0, vm1, vm2, vm3, vm4, vm5, vm6, vm7, vmF, vmT, evo, wr, wrC, frame, Nat.reduceAdd, Nat.reduceMul, Nat.reduceSub, beq_self_eq_true, List.cons_append, List.nil_append, beq_dec, vmI, vc6]
            exact ⟨rfl, rfl⟩
          · rw [if_neg h5]
            simp (disch := omega) only [vm0, vm1, vm2, vm3, vm4, vm5, vm6, vm7, vmF, vmT, evo, wr, wrC, frame, Nat.reduceAdd, Nat.reduceMul, Nat.reduceSub, beq_self_eq_true, List.cons_append, List.nil_append, beq_dec, vmI, vc6]
            exact ⟨rfl, rfl⟩
theorem v_mark (n : Nat) (s : St) (x : Int) (hx : x = 0 ∨ x = 1 ∨ x = 2 ∨ x = 4 ∨ x = 8) : OutOk (callF bd tab.get fu (n + 1) 11 [num x] s) (fun y s' => Is y (byt (markQ x * 64)) ∧ Is s' s) := by
  refine call_code t11 rfl ?_
  rcases hx with rfl | rfl | rfl | rfl | rfl
  · simp (disch := omega) only [vm0, vm1, vm2, vm3, vm4, vm5, vm6, vm7, vmF, vmT, evo, wr, wrC, frame, Nat.reduceAdd, Nat.reduceMul, Nat.reduceSub, beq_self_eq_true, List.cons_append, List.nil_append, beq_dec, vmI, vc11]
    exact ⟨rfl, rfl⟩
  · simp (disch := omega) only [vm0, vm1, vm2, vm3, vm4, vm5, vm6, vm7, vmF, vmT, evo, wr, wrC, frame, Nat.reduceAdd, Nat.reduceMul, Nat.reduceSub, beq_self_eq_true, List.cons_append, List.nil_append, beq_dec, vmI, vc11]
    exact ⟨rfl, rfl⟩
  · simp (disch := omega) only [vm0, vm1, vm2, vm3, vm4, vm5, vm6, vm7, vmF, vmT, evo, wr, wrC, frame, Nat.reduceAdd, Nat.reduceMul, Nat.reduceSub, beq_self_eq_true, List.cons_append, List.nil_append, beq_dec, vmI, vc11]
    exact ⟨rfl, rfl⟩
  · simp (disch := omega) only [vm0, vm1, vm2, vm3, vm4, vm5, vm6, vm7, vmF, vmT, evo, wr, wrC, frame, Nat.reduceAdd, Nat.reduceMul, Nat.reduceSub, beq_self_eq_true, List.cons_append, List.nil_append, beq_dec, vmI, vc11]
    exact ⟨rfl, rfl⟩
  · simp (disch := omega) only [vm0, vm1, vm2, vm3, vm4, vm5, vm6, vm7, vmF, vmT, evo, wr, wrC, frame, Nat.reduceAdd, Nat.reduceMul, Nat.reduceSub, beq_self_eq_true, List.cons_append, List.nil_append, beq_dec, vmI, vc11]
    exact ⟨rfl, rfl⟩
theorem shr_byte {bd : Bd} {k' : IntKind} {x b : Int} {j : Nat} (hx : 0 ≤ x) (hj : j < 8) (hb : b = 8 * (j : Int)) : binop bd .shr (.int .i64 (.c x)) (.int k' (.c b)) = some (.int .i64 (.c (x / 2 ^ (8 * j)))) := by
  rw [b_shr (by omega), show min b.toNat IntKind.i64.bits = 8 * j by rw [show IntKind.i64.bits = 64 from rfl]; omega, Int.fdiv_eq_ediv_of_nonneg _ (Int.le_of_lt (Int.pow_pos (by omega)))]
theorem v_put (n : Nat) (s : St) (x : Int) (hx : In64 x) (hfu : 10 < fu) : OutOk (callF bd tab.get fu (n + 2) 5 [num x] s) (fun y s' => ∃ fp, OwE s' y 1 encB (putV x) fp ∧ Fr s s' [] ∧ Nw s [] fp) := by
  refine call_code t5 rfl ?_
  simp (disch := omega) only [vm0, vm1, vm2, vm3, vm4, vm5, vm6, vm7, vmF, vmT, evo, wr, wrC, frame, Nat.reduceAdd, Nat.reduceMul, Nat.reduceSub, beq_self_eq_true, List.cons_append, List.nil_append, beq_dec, vmI, vc5]
  refine call_ok rfl rfl (v_size n s x) ?_
  rintro y s ⟨rfl, rfl⟩
  obtain ⟨K, hK⟩ : ∃ K : Nat, sizeV x = (K : Int) := ⟨(sizeV x).toNat, by rcases sizeV_in x with h | h | h | h | h <;> omega⟩
  have hK8 : K = 0 ∨ K = 1 ∨ K = 2 ∨ K = 4 ∨ K = 8 := by rcases sizeV_in x with h | h | h | h | h <;> omega
  have hx0 : 0 < K → 0 ≤ x := fun hk => by obtain ⟨r1, r2, r3, r4⟩ := sizeV_rng (n := x); omega
  rw [hK]
  simp (disch := omega) only [vm0, vm1, vm2, vm3, vm4, vm5, vm6, vm7, vmF, vmT, evo, wr, wrC, frame, Nat.reduceAdd, Nat.reduceMul, Nat.reduceSub, beq_self_eq_true, List.cons_append, List.nil_append, beq_dec, vmI]
  refine x_loop (fun m F s' => ∃ out fo x4, m ≤ K ∧ F = [some (num x), some (num (K : Int)), some (num ((m : Int) - 1)), some out, x4, none, some .nils] ∧ OwE s' out 1 encB ((tailB x K).take (K - m)) fo ∧ Fr s s' [] ∧ Nw s [] fo) K (by omega) ?_ ?_
  · exact ⟨.nils, [], _, by omega, rfl, by simpa using OwE.nil encB_w (by omega), .refl, by simp [Nw]⟩
  · rintro m F s1 ⟨out, fo, x4, hm, rfl, ho, hf, hn⟩ _
    by_cases h0 : 0 < m
    · have hb := byV_bd x (m - 1)
      have hsh := shr_byte (bd := bd) (k' := .i64) (x := x) (b := 8 * ((m : Int) - 1)) (j := m - 1) (hx0 (by omega)) (by omega) (by omega)
      have hbv : x / 2 ^ (8 * (m - 1)) % 256 = byV x (m - 1) := rfl
      simp (disch := omega) only [vm0, vm1, vm2, vm3, vm4, vm5, vm6, vm7, vmF, vmT, evo, wr, wrC, frame, Nat.reduceAdd, Nat.reduceMul, Nat.reduceSub, beq_self_eq_true, List.cons_append, List.nil_append, beq_dec, vmI, hsh, f_cvi, cvi_c, cvi8, hbv]
      refine op_app1 ho (by (repeat' (first | exact Fr.refl | assumption | apply Fr.new' | apply Fr.mk' | apply Fr.put')) <;> (first | omega | (left; simp; done) | (right; simp only [next_put, next_new, next_mk]; omega) | (simp only [next_put, next_new, next_mk]; omega))) (x := byV x (m - 1)) rfl (by rw [List.length_take, tailB_len]; omega) ?_
      intro v' s2 fo' q1 q2 q3
      simp (disch := omega) only [vm0, vm1, vm2, vm3, vm4, vm5, vm6, vm7, vmF, vmT, evo, wr, wrC, frame, Nat.reduceAdd, Nat.reduceMul, Nat.reduceSub, beq_self_eq_true, List.cons_append, List.nil_append, beq_dec, vmI]
      refine ⟨m - 1, by omega, v', fo', _, by omega, by rw [show ((m - 1 : Nat) : Int) - 1 = (m : Int) - 1 - 1 by omega], ?_, (hf.nn q2 hn), hn.nn q3 hf.1⟩
      have hg := tailB_get x (S := K) (k := K - m) (by omega)
      rw [show K - 1 - (K - m) = m - 1 by omega] at hg
      rw [show K - (m - 1) = K - m + 1 by omega, List.take_add_one, hg]
      exact q1
    · obtain rfl : m = 0 := by omega
      rw [Nat.sub_zero, List.take_of_length_le (by rw [tailB_len]; exact Nat.le_refl _)] at ho
      by_cases hK0 : K = 0
      · subst hK0
        simp (disch := omega) only [vm0, vm1, vm2, vm3, vm4, vm5, vm6, vm7, vmF, vmT, evo, wr, wrC, frame, Nat.reduceAdd, Nat.reduceMul, Nat.reduceSub, beq_self_eq_true, List.cons_append, List.nil_append, beq_dec, vmI]
        refine ⟨fo, ?_, hf, hn⟩
        rw [putV_0 (by omega)]
        exact ho
      · obtain ⟨J, rfl⟩ : ∃ J, K = J + 1 := ⟨K - 1, by omega⟩
        have hpv : putV x = (markQ (sizeV x) * 64 + byV x J) :: tailB x J := by unfold putV; rw [hK, Int.toNat_natCast]; rfl
        have hq : markQ ((J + 1 : Nat) : Int) = markQ (sizeV x) := by rw [hK]
        have hb : byV x J < 64 := by
          obtain ⟨r1, r2, r3, r4⟩ := sizeV_rng (n := x)
          have hx1 := hx0 (by omega)
          obtain h | h | h | h : J = 0 ∨ J = 1 ∨ J = 3 ∨ J = 7 := by omega
          · subst h; have := r1 (by omega); simp only [byV, Nat.reduceMul, Int.reducePow]; omega
          · subst h; have := r2 (by omega); simp only [byV, Nat.reduceMul, Int.reducePow]; omega
          · subst h; have := r3 (by omega); simp only [byV, Nat.reduceMul, Int.reducePow]; omega
          · subst h; have := r4 (by omega); simp only [byV, Nat.reduceMul, Int.reducePow]; omega
        have hb0 := (byV_bd x J).1
        have hm4 : 0 ≤ markQ (sizeV x) ∧ markQ (sizeV x) < 4 := by
          rcases sizeV_in x with h | h | h | h | h <;> rw [h] <;> decide
        have hor := or8 (bd := bd) ⟨hb0, hb⟩ hm4
        rw [hpv]
        generalize markQ (sizeV x) = M at *
        rw [tailB] at ho
        generalize byV x J = c at *
        generalize tailB x J = l at *
        have hx0' : (c :: l)[0]? = some c := rfl
        have e1 := ho.rd.ia hx0'
        have e2 := ho.rd.at1 (f := byt) hx0'
        rw [Int.natCast_zero] at e1
        obtain ⟨s2, f2, w1, w2, w3, w4, w5⟩ := ho.set hx0' (j := 0) (y := byt (M * 64 + c)) (x' := M * 64 + c) (by omega) rfl
        rw [Nat.add_zero] at w1
        simp only [Nat.zero_mul, Nat.add_zero] at e1 e2 w1
        have hKp : (0 : Int) < ((J + 1 : Nat) : Int) := by omega
        simp (disch := omega) only [vm0, vm1, vm2, vm3, vm4, vm5, vm6, vm7, vmF, vmT, evo, wr, wrC, frame, Nat.reduceAdd, Nat.reduceMul, Nat.reduceSub, beq_self_eq_true, List.cons_append, List.nil_append, beq_dec, vmI, e1, e2]
        refine call_ok rfl rfl (v_mark n s1 ((J + 1 : Nat) : Int) (by omega)) ?_
        rintro y s3 ⟨rfl, rfl⟩
        rw [hq]
        simp only [byt] at w1
        simp (disch := omega) only [vm0, vm1, vm2, vm3, vm4, vm5, vm6, vm7, vmF, vmT, evo, frame, Nat.reduceAdd, Nat.reduceMul, Nat.reduceSub, beq_self_eq_true, List.cons_append, List.nil_append, beq_dec, hor, e1, e2, w1]
        exact ⟨f2, w2, hf.nn w3 hn, fun b hb => hn b (w5 b hb)⟩
theorem cvs_b {L F : LF} {s : St} {x : Od} {v : AV} {l : List Int} (h1 : ev L F x = some v) (hv : RdE s v 1 encB l) (h8 : ∀ x ∈ l, In8 x) : fCvs L F s x = some (.str (l.map .c)) := by
  have hb : ∀ l : List Int, (∀ x ∈ l, In8 x) → bytesOf (l.flatMap encB) = some (l.map .c) := by
    intro l
    induction l with
    | nil => intro _; rfl
    | cons c l ih =>
      intro h8
      have hc := h8 c (by simp)
      show cnd (decide (IntKind.u8 = .u8) && (decide (0 ≤ c) && decide (c ≤ 255))) (ob (bytesOf (l.flatMap encB)) fun l => some (AI.c c :: l)) none = _
      rw [ih fun x hx => h8 x (by simp [hx]), dec_t hc.1, dec_t hc.2]; rfl
  unfold fCvs
  rw [h1]
  have hs := hv.rd.sl
  have ha := hv.rd.all
  have hl := hv.rd.len
  cases v with
  | sl b o len lo ex z =>
    obtain ⟨rfl, _⟩ := hs
    have ha' : rd s b o (len * 1) = some (l.flatMap encB) := ha
    show ob (rd s b o len) (fun cs => ob (bytesOf cs) fun l => some (AV.str l)) = _
    rw [Nat.mul_one] at ha'
    rw [ha']
    show ob (bytesOf (l.flatMap encB)) _ = _
    rw [hb l h8]; rfl
  | nils =>
    have : l = [] := by
      have := flat_len encB_w l
      rw [hl] at this; simp [slen] at this
      exact List.eq_nil_of_length_eq_zero (by omega)
    subst this; rfl
  | emp =>
    have : l = [] := by
      have := flat_len encB_w l
      rw [hl] at this; simp [slen] at this
      exact List.eq_nil_of_length_eq_zero (by omega)
    subst this; rfl
  | _ => exact hs.elim
theorem eqE_s {bd : Bd} : ∀ {l m : List Int}, eqE bd .s (.str (l.map .c)) (.str (m.map .c)) = some (decide (l = m))
  | [], [] => rfl
  | [], _ :: _ => rfl
  | _ :: _, [] => rfl
  | x :: l, y :: m => by
    have ih := eqE_s (bd := bd) (l := l) (m := m)
    show ob (eqI bd .u8 (.c x) (.c y)) (fun b => cnd b (eqAIs bd (l.map .c) (m.map .c)) (some false)) = _
    have e : eqI bd .u8 (.c x) (.c y) = some (decide (x = y)) := rfl
    rw [e]
    by_cases hxy : x = y
    · subst hxy
      rw [dec_t rfl]
      show eqAIs bd (l.map .c) (m.map .c) = _
      have ih' : eqAIs bd (l.map .c) (m.map .c) = some (decide (l = m)) := ih
      rw [ih']; simp
    · rw [dec_f hxy]
      show some false = _
      rw [dec_f (fun h => hxy (by cases h; rfl))]
theorem v_equal (n : Nat) (s : St) (v w : AV) (l m : List Int) (hv : RdE s v 1 encB l) (hw : RdE s w 1 encB m) (h8 : ∀ x ∈ l, In8 x) (h9 : ∀ x ∈ m, In8 x) :
    OutOk (callF bd tab.get fu (n + 1) 13 [v, w] s) (fun y s' => Is y (.bool (decide (l = m))) ∧ Is s' s) := by
  refine call_code t13 rfl ?_
  simp (disch := omega) only [vm0, vm1, vm2, vm3, vm4, vm5, vm6, vm7, vmF, vmT, evo, wr, wrC, frame, Nat.reduceAdd, Nat.reduceMul, Nat.reduceSub, beq_self_eq_true, List.cons_append, List.nil_append, beq_dec, vmI, vc13]
  rw [cvs_b (x := .w 0) rfl hv h8]
  simp (disch := omega) only [vm0, vm1, vm2, vm3, vm4, vm5, vm6, vm7, vmF, vmT, evo, wr, wrC, frame, Nat.reduceAdd, Nat.reduceMul, Nat.reduceSub, beq_self_eq_true, List.cons_append, List.nil_append, beq_dec, vmI]
  rw [cvs_b (x := .w 1) rfl hw h9]
  simp (disch := omega) only [vm0, vm1, vm2, vm3, vm4, vm5, vm6, vm7, vmF, vmT, evo, wr, wrC, frame, Nat.reduceAdd, Nat.reduceMul, Nat.reduceSub, beq_self_eq_true, List.cons_append, List.nil_append, beq_dec, vmI, eqE_s]
  exact ⟨rfl, rfl⟩
end
end Go.Proofs.Ythcikbgcfgmgoaa.ctr
namespace Go.Proofs.Ythcikbgcfgmgoaa.ctr
open Go Go.Vm Go.RowKit
set_option linter.unusedVariables false
set_option linter.constructorNameAsVariable false
set_option linter.unusedSimpArgs false
theorem cvi_u64 (x : Int) (h : 0 ≤ x ∧ x ≤ 1000000) : IntKind.u64.wrap x = x := wrap_in (k := .u64) h.1 (by show x ≤ 18446744073709551615; omega)
section
variable {bd : Bd} {fu : Nat}
end
end Go.Proofs.Ythcikbgcfgmgoaa.ctr
namespace Go.Proofs.Ythcikbgcfgmgoaa.ctr
open Go Go.Vm Go.RowKit
set_option linter.unusedVariables false
set_option linter.constructorNameAsVariable false
set_option linter.unusedSimpArgs false
theorem foldV_take {n : Int} {l : List Int} {j : Nat} {c : Int} (h : l[j]? = some c) : foldV n (l.take (j + 1)) = foldV n (l.take j) * 256 + c := by
  unfold foldV
  rw [List.take_add_one, h, List.foldl_append]; rfl
theorem fold_in {b : Int} {l : List Int} {j : Nat} (h8 : ∀ x ∈ l, In8 x) (hj : j ≤ l.length) (hl : l.length ≤ 7) : 0 ≤ foldV (b % 64) (l.take j) ∧ foldV (b % 64) (l.take j) ≤ 4611686018427387903 ∧ (j < 7 → foldV (b % 64) (l.take j) < 18014398509481984) := by
  obtain ⟨h1, h2⟩ := foldV_bd (l.take j) (b % 64) 64 (fun x hx => h8 x (List.mem_of_mem_take hx)) (by omega) (by omega)
  rw [List.length_take, Nat.min_eq_left hj] at h2
  obtain h | h | h | h | h | h | h | h : j = 0 ∨ j = 1 ∨ j = 2 ∨ j = 3 ∨ j = 4 ∨ j = 5 ∨ j = 6 ∨ j = 7 := by omega
  all_goals
    subst h
    simp only [Int.reducePow] at h2
    refine ⟨h1, by omega, by omega⟩
theorem takeV_cons {b : Int} {r : List Int} : takeV (b :: r) = if (r.length : Int) + 1 < szB b then (0, 0, false) else if sizeV (foldV (b % 64) (r.take (szB b - 1).toNat)) = szB b then (foldV (b % 64) (r.take (szB b - 1).toNat), szB b, true) else (0, 0, false) := rfl
section
variable {bd : Bd} {fu : Nat}
theorem shl_1 {bd : Bd} {k : IntKind} {b : Int} (h : 0 ≤ b ∧ b < 256) : binop bd .shl (.int .i64 (.c 1)) (.int k (.c (b / 64))) = some (.int .i64 (.c (szB b))) := by
  rw [b_shl (by omega)]
  rcases szB_in h with ⟨h1, h2⟩ | ⟨h1, h2⟩ | ⟨h1, h2⟩ | ⟨h1, h2⟩ <;> rw [h1, h2] <;> rfl
theorem shl_8 {bd : Bd} {k : IntKind} {n : Int} (h0 : 0 ≤ n) (h1 : n < 18014398509481984) : binop bd .shl (.int .i64 (.c n)) (.int k (.c 8)) = some (.int .i64 (.c (n * 256))) := by
  rw [b_shl (by omega), show (2 : Int) ^ (min (8 : Int).toNat IntKind.i64.bits) = 256 from rfl, wr64 (by omega) (by omega)]
theorem shr_6 {bd : Bd} {k : IntKind} {b : Int} (h : 0 ≤ b) : binop bd .shr (.int .u8 (.c b)) (.int k (.c 6)) = some (.int .u8 (.c (b / 64))) := by
  rw [b_shr (by omega), show (2 : Int) ^ (min (6 : Int).toNat IntKind.u8.bits) = 64 from rfl, Int.fdiv_eq_ediv_of_nonneg _ (by omega)]
theorem v_take (n : Nat) (s : St) (v : AV) (l : List Int) (hv : RdE s v 1 encB l) (h8 : ∀ x ∈ l, In8 x) (hl : l.length < 4611686018427387904) (hfu : 10 < fu) :
    OutOk (callF bd tab.get fu (n + 3) 8 [v] s) (fun y s' => Is y (.tup [num (takeV l).1, num (takeV l).2.1, .bool (takeV l).2.2]) ∧ Fr s s' []) := by
  refine call_code t8 rfl ?_
  have e0 := hv.lenV
  cases l with
  | nil =>
    rw [List.length_nil] at e0
    simp (disch := omega) only [vm0, vm1, vm2, vm3, vm4, vm5, vm6, vm7, vmF, vmT, evo, wr, wrC, frame, Nat.reduceAdd, Nat.reduceMul, Nat.reduceSub, beq_self_eq_true, List.cons_append, List.nil_append, beq_dec, vmI, vc8, e0]
    exact ⟨rfl, .refl⟩
  | cons b r =>
    have hb : 0 ≤ b ∧ b < 256 := by have := h8 b (by simp); exact ⟨this.1, by have := this.2; omega⟩
    have hx0 : (b :: r)[0]? = some b := rfl
    have e1 := hv.ia hx0
    have e2 := hv.at1 (f := byt) hx0
    have eb := hv.blk' hx0
    rw [Int.natCast_zero] at e1
    simp only [Nat.zero_mul, Nat.add_zero] at e1 e2
    have hsz := szB_in hb
    have hs1 := shr_6 (bd := bd) (k := .u64) hb.1
    have hs2 := shl_1 (bd := bd) (k := .u8) hb
    have hs3 := and8 (bd := bd) hb
    rw [List.length_cons] at e0
    rw [takeV_cons]
    obtain ⟨S, hS⟩ : ∃ S, szB b = S := ⟨_, rfl⟩
    have hS8 : S = 1 ∨ S = 2 ∨ S = 4 ∨ S = 8 := by omega
    rw [hS] at hs2 ⊢
    by_cases hlt : (r.length : Int) + 1 < S
    · rw [if_pos hlt]
      simp (disch := omega) only [vm0, vm1, vm2, vm3, vm4, vm5, vm6, vm7, vmF, vmT, evo, wr, wrC, frame, Nat.reduceAdd, Nat.reduceMul, Nat.reduceSub, beq_self_eq_true, List.cons_append, List.nil_append, beq_dec, vmI, vc8, e0, e1, e2, hs1, hs2]
      exact ⟨rfl, .refl⟩
    · rw [if_neg hlt]
      obtain ⟨w, g1, kw⟩ := hv.sli' (a := 1) (b := S) (by omega) (by omega) (by simp only [List.length_cons]; omega)
      have hmid : ((b :: r).take S.toNat).drop (1 : Int).toNat = r.take (S - 1).toNat := by
        obtain ⟨T, hT⟩ : ∃ T, S.toNat = T + 1 := ⟨S.toNat - 1, by omega⟩
        rw [hT, List.take_succ_cons, show (1 : Int).toNat = 1 from rfl, List.drop_succ_cons, List.drop_zero, show (S - 1).toNat = T by omega]
      rw [hmid] at kw
      have e5 := kw.lenV
      have hml : (r.take (S - 1).toNat).length = (S - 1).toNat := by rw [List.length_take]; omega
      have hm8 : ∀ x ∈ r.take (S - 1).toNat, In8 x := fun x hx => h8 x (by simp [List.mem_of_mem_take hx])
      have hpe := put_eq h8 (by rw [hS]; exact hlt)
      rw [hS] at hpe
      generalize r.take (S - 1).toNat = M at *
      rw [hml] at e5
      have hcast : (((S - 1).toNat : Nat) : Int) = S - 1 := by omega
      rw [hcast] at e5
      simp (disch := omega) only [vm0, vm1, vm2, vm3, vm4, vm5, vm6, vm7, vmF, vmT, evo, wr, wrC, frame, Nat.reduceAdd, Nat.reduceMul, Nat.reduceSub, beq_self_eq_true, List.cons_append, List.nil_append, beq_dec, vmI, vc8, f_cvi, cvi_c, wr64, e0, e1, e2, e5, hs1, hs2, hs3, g1]
      have hlen7 : M.length ≤ 7 := by omega
      refine x_loop (fun m F s' => ∃ j : Nat, ∃ x7 x9, m = M.length - j ∧ j ≤ M.length ∧ F = [some v, some (num S), some (num (foldV (b % 64) (M.take j))), some (num (j : Int)), some (.bool false), some (.bool false), some (num (S - 1)), x7, some w, x9, none, some (.bool false)] ∧ s' = s) M.length (by omega) ?_ ?_
      · exact ⟨0, _, _, by omega, by omega, rfl, rfl⟩
      · rintro m F s1 ⟨j, x7, x9, rfl, hj, rfl, rfl⟩ _
        obtain ⟨f1, f2, f3⟩ := fold_in (b := b) hm8 hj hlen7
        by_cases hjl : j < M.length
        · obtain ⟨c, hc⟩ : ∃ c, M[j]? = some c := ⟨_, List.getElem?_eq_getElem hjl⟩
          have hc8 := hm8 c (List.mem_of_getElem? hc)
          have e6 := kw.ia hc
          have e7 := kw.at1 (f := byt) hc
          have f4 := f3 (by omega)
          have hft := foldV_take (n := b % 64) hc
          have hc1 := hc8.1
          have hc2 := hc8.2
          generalize foldV (b % 64) (M.take j) = N at *
          have hs4 := shl_8 (bd := bd) (k := .u64) f1 f4
          have hs5 := or64 (bd := bd) (c := c) f1 f4 ⟨hc1, by omega⟩
          simp (disch := omega) only [vm0, vm1, vm2, vm3, vm4, vm5, vm6, vm7, vmF, vmT, evo, wr, wrC, frame, Nat.reduceAdd, Nat.reduceMul, Nat.reduceSub, beq_self_eq_true, List.cons_append, List.nil_append, beq_dec, vmI, f_cvi, cvi_c, e6, e7, hs4, hs5, wr64]
          exact ⟨M.length - (j + 1), by omega, j + 1, _, _, rfl, by omega, by rw [hft]; rfl, rfl⟩
        · have htk : M.take j = M := List.take_of_length_le (by omega)
          rw [htk] at f1 f2 ⊢
          generalize foldV (b % 64) M = N at *
          obtain ⟨w2, g2, kw2⟩ := hv.sliH (b := S) (by omega) (by simp only [List.length_cons]; omega)
          simp (disch := omega) only [vm0, vm1, vm2, vm3, vm4, vm5, vm6, vm7, vmF, vmT, evo, wr, wrC, frame, Nat.reduceAdd, Nat.reduceMul, Nat.reduceSub, beq_self_eq_true, List.cons_append, List.nil_append, beq_dec, vmI]
          refine call_ok rfl rfl (v_put n s1 N ⟨by omega, by omega⟩ (by omega)) ?_
          rintro y s2 ⟨fp, q1, q2, q3⟩
          simp (disch := omega) only [vm0, vm1, vm2, vm3, vm4, vm5, vm6, vm7, vmF, vmT, evo, wr, wrC, frame, Nat.reduceAdd, Nat.reduceMul, Nat.reduceSub, beq_self_eq_true, List.cons_append, List.nil_append, beq_dec, vmI, g2]
          refine call_ok rfl rfl (v_equal (n + 1) s2 y w2 _ _ q1.rd (kw2.fr0 q2) (putV_in N) (fun x hx => h8 x (List.mem_of_mem_take hx))) ?_
          rintro z s3 ⟨rfl, rfl⟩
          by_cases hN : sizeV N = S
          · rw [if_pos hN, decide_eq_true (hpe.2 hN)]
            simp (disch := omega) only [vm0, vm1, vm2, vm3, vm4, vm5, vm6, vm7, vmF, vmT, evo, wr, wrC, frame, Nat.reduceAdd, Nat.reduceMul, Nat.reduceSub, beq_self_eq_true, List.cons_append, List.nil_append, beq_dec, vmI]
            exact ⟨rfl, q2⟩
          · rw [if_neg hN, decide_eq_false (fun h => hN (hpe.1 h))]
            simp (disch := omega) only [vm0, vm1, vm2, vm3, vm4, vm5, vm6, vm7, vmF, vmT, evo, wr, wrC, frame, Nat.reduceAdd, Nat.reduceMul, Nat.reduceSub, beq_self_eq_true, List.cons_append, List.nil_append, beq_dec, vmI]
            exact ⟨rfl, q2⟩
end
end Go.Proofs.Ythcikbgcfgmgoaa.ctr
namespace Go.Proofs.Ythcikbgcfgmgoaa.ctr
open Go Go.Vm Go.RowKit
set_option linter.unusedVariables false
set_option linter.constructorNameAsVariable false
set_option linter.unusedSimpArgs false
theorem sizeV_of {n : Int} (h0 : 0 ≤ n) (h1 : n ≤ 4611686018427387903) : sizeV n = 1 ∨ sizeV n = 2 ∨ sizeV n = 4 ∨ sizeV n = 8 := by
  rcases sizeV_in n with h | h | h | h | h
  · unfold sizeV at h
    rw [if_neg (by omega)] at h
    by_cases h2 : n < 64
    · rw [if_pos h2] at h; omega
    · rw [if_neg h2] at h
      by_cases h3 : n < 16384
      · rw [if_pos h3] at h; omega
      · rw [if_neg h3] at h
        by_cases h4 : n < 1073741824
        · rw [if_pos h4] at h; omega
        · rw [if_neg h4] at h; omega
  all_goals simp [h]
/-- a number is taken as it was put, whatever is behind it -/
theorem take_put {n : Int} (h0 : 0 ≤ n) (h1 : n ≤ 4611686018427387903) (r : List Int) : takeV (putV n ++ r) = (n, sizeV n, true) := by
  obtain ⟨r1, r2, r3, r4⟩ := sizeV_rng (n := n)
  rcases sizeV_of h0 h1 with h | h | h | h
  · rw [putV_1 h, h]
    have hr := r1 h
    have hb : byV n 0 = n := by simp only [byV, Nat.reduceMul, Int.reducePow]; omega
    rw [hb, List.cons_append, List.nil_append, takeV_cons]
    have hs : szB n = 1 := by unfold szB; rw [show n / 64 = 0 by omega]; rfl
    rw [hs, if_neg (by omega), show (1 - 1 : Int).toNat = 0 from rfl, List.take_zero]
    show (if sizeV (n % 64) = 1 then _ else _) = _
    rw [show n % 64 = n by omega, if_pos h]; rfl
  · rw [putV_2 h, h]
    have hr := r2 h
    rw [List.cons_append, takeV_cons]
    have hb : 0 ≤ byV n 1 ∧ byV n 1 < 64 := by simp only [byV, Nat.reduceMul, Int.reducePow]; omega
    have hs : szB (64 + byV n 1) = 2 := by unfold szB; rw [show (64 + byV n 1) / 64 = 1 by omega]; rfl
    have hf : foldV ((64 + byV n 1) % 64) (([byV n 0] ++ r).take (2 - 1 : Int).toNat) = n := by
      show (64 + byV n 1) % 64 * 256 + byV n 0 = n
      simp only [byV, Nat.reduceMul, Int.reducePow]; omega
    rw [hs, if_neg (by simp; omega), hf, if_pos h]
  · rw [putV_4 h, h]
    have hr := r3 h
    rw [List.cons_append, takeV_cons]
    have hb : 0 ≤ byV n 3 ∧ byV n 3 < 64 := by simp only [byV, Nat.reduceMul, Int.reducePow]; omega
    have hs : szB (128 + byV n 3) = 4 := by unfold szB; rw [show (128 + byV n 3) / 64 = 2 by omega]; rfl
    have hf : foldV ((128 + byV n 3) % 64) (([byV n 2, byV n 1, byV n 0] ++ r).take (4 - 1 : Int).toNat) = n := by
      show (((128 + byV n 3) % 64 * 256 + byV n 2) * 256 + byV n 1) * 256 + byV n 0 = n
      simp only [byV, Nat.reduceMul, Int.reducePow]; omega
    rw [hs, if_neg (by simp; omega), hf, if_pos h]
  · rw [putV_8 h, h]
    have hr := r4 h
    rw [List.cons_append, takeV_cons]
    have hb : 0 ≤ byV n 7 ∧ byV n 7 < 64 := by simp only [byV, Nat.reduceMul, Int.reducePow]; omega
    have hs : szB (192 + byV n 7) = 8 := by unfold szB; rw [show (192 + byV n 7) / 64 = 3 by omega]; rfl
    have hf : foldV ((192 + byV n 7) % 64) (([byV n 6, byV n 5, byV n 4, byV n 3, byV n 2, byV n 1, byV n 0] ++ r).take (8 - 1 : Int).toNat) = n := by
      show (((((((192 + byV n 7) % 64 * 256 + byV n 6) * 256 + byV n 5) * 256 + byV n 4) * 256 + byV n 3) * 256 + byV n 2) * 256 + byV n 1) * 256 + byV n 0 = n
      simp only [byV, Nat.reduceMul, Int.reducePow]; omega
    rw [hs, if_neg (by simp; omega), hf, if_pos h]
section
variable {bd : Bd} {fu : Nat}
theorem wakes01 (n : Nat) (s : St) (hfu : 10 < fu) : OutOk (callF bd tab.get fu (n + 3) 7 [] s) (fun y s' => Is y (.bool true)) := by
  refine call_code t7 rfl ?_
  simp (disch := omega) only [vm0, vm1, vm2, vm3, vm4, vm5, vm6, vm7, vmF, vmT, evo, wr, wrC, frame, Nat.reduceAdd, Nat.reduceMul, Nat.reduceSub, beq_self_eq_true, List.cons_append, List.nil_append, beq_dec, vmI, vc7]
  refine call_ok rfl rfl (v_put n s 300 ⟨by decide, by decide⟩ hfu) ?_
  rintro y s1 ⟨fp, q1, q2, q3⟩
  have hp : putV 300 = [65, 44] := by decide
  rw [hp] at q1
  simp (disch := omega) only [vm0, vm1, vm2, vm3, vm4, vm5, vm6, vm7, vmF, vmT, evo, wr, wrC, frame, Nat.reduceAdd, Nat.reduceMul, Nat.reduceSub, beq_self_eq_true, List.cons_append, List.nil_append, beq_dec, vmI]
  have hp2 : OwE (s1.new (.cells [byt 65, byt 44] .own)) (.sl s1.next 0 2 2 true 1) 1 encB [65, 44] [s1.next] :=
    ⟨.mk (J := []) (get_new_eq rfl) rfl (Nat.le_refl _), encB_w, by omega, by intro z hz; simp at hz; subst hz; rw [next_new]; omega⟩
  refine call_ok rfl rfl (sameB (n + 1) _ y _ [65, 44] [65, 44] (q1.rd.fr0 .new) hp2.rd (by simp; omega) (by simp)) ?_
  rintro x s5 ⟨rfl, rfl⟩
  simp (disch := omega) only [vm0, vm1, vm2, vm3, vm4, vm5, vm6, vm7, vmF, vmT, evo, wr, wrC, frame, Nat.reduceAdd, Nat.reduceMul, Nat.reduceSub, beq_self_eq_true, List.cons_append, List.nil_append, beq_dec, vmI]
  rfl
theorem wthn (n : Nat) (s : St) (x m : Int) (hx : In64 x) (h1 : 1 ≤ m) (h2 : m ≤ 4611686018427387904) : OutOk (callF bd tab.get fu (n + 1) 10 [num x, num m] s) (fun y s' => ∃ z, Is y (num z) ∧ In64 z ∧ Is s' s) :=
  (withinP n s x m hx h1 (by omega)).mono fun y s' ⟨q1, q2⟩ => ⟨_, q1, ⟨by have := Int.emod_nonneg x (show m ≠ 0 by omega); omega, by have := Int.emod_lt_of_pos x (show 0 < m by omega); omega⟩, q2⟩
theorem v_n (n : Nat) (s : St) (x y : Int) (hx : In64 x) (hy : In64 y) : OutOk (callF bd tab.get fu (n + 2) 4 [num x, num y] s) (fun z s' => ∃ m, Is z (num m) ∧ In64 m ∧ Fr s s' []) := by
  refine call_code t4 rfl ?_
  simp (disch := omega) only [vm0, vm1, vm2, vm3, vm4, vm5, vm6, vm7, vmF, vmT, evo, wr, wrC, frame, Nat.reduceAdd, Nat.reduceMul, Nat.reduceSub, beq_self_eq_true, List.cons_append, List.nil_append, beq_dec, vmI, vc4]
  refine call_ok rfl rfl (withinP n s y 8 hy (by omega) (by omega)) ?_
  rintro z s ⟨rfl, rfl⟩
  obtain ⟨k, hk⟩ : ∃ k, y % 8 = k := ⟨_, rfl⟩
  have hk8 : k = 0 ∨ k = 1 ∨ k = 2 ∨ k = 3 ∨ k = 4 ∨ 5 ≤ k := by omega
  rw [hk]
  rcases hk8 with rfl | rfl | rfl | rfl | rfl | hk5
  · simp (disch := omega) only [vm0, vm1, vm2, vm3, vm4, vm5, vm6, vm7, vmF, vmT, evo, wr, wrC, frame, Nat.reduceAdd, Nat.reduceMul, Nat.reduceSub, beq_self_eq_true, List.cons_append, List.nil_append, beq_dec, vmI]
    exact ⟨x, rfl, hx, .refl⟩
  · simp (disch := omega) only [vm0, vm1, vm2, vm3, vm4, vm5, vm6, vm7, vmF, vmT, evo, wr, wrC, frame, Nat.reduceAdd, Nat.reduceMul, Nat.reduceSub, beq_self_eq_true, List.cons_append, List.nil_append, beq_dec, vmI]
    refine call_ok rfl rfl (wthn n s x 70 hx (by omega) (by omega)) ?_
    rintro z s ⟨m, rfl, hm, rfl⟩
    simp (disch := omega) only [vm0, vm1, vm2, vm3, vm4, vm5, vm6, vm7, vmF, vmT, evo, wr, wrC, frame, Nat.reduceAdd, Nat.reduceMul, Nat.reduceSub, beq_self_eq_true, List.cons_append, List.nil_append, beq_dec, vmI]
    exact ⟨m, rfl, hm, .refl⟩
  · simp (disch := omega) only [vm0, vm1, vm2, vm3, vm4, vm5, vm6, vm7, vmF, vmT, evo, wr, wrC, frame, Nat.reduceAdd, Nat.reduceMul, Nat.reduceSub, beq_self_eq_true, List.cons_append, List.nil_append, beq_dec, vmI]
    refine call_ok rfl rfl (wthn n s x 16389 hx (by omega) (by omega)) ?_
    rintro z s ⟨m, rfl, hm, rfl⟩
    simp (disch := omega) only [vm0, vm1, vm2, vm3, vm4, vm5, vm6, vm7, vmF, vmT, evo, wr, wrC, frame, Nat.reduceAdd, Nat.reduceMul, Nat.reduceSub, beq_self_eq_true, List.cons_append, List.nil_append, beq_dec, vmI]
    exact ⟨m, rfl, hm, .refl⟩
  · simp (disch := omega) only [vm0, vm1, vm2, vm3, vm4, vm5, vm6, vm7, vmF, vmT, evo, wr, wrC, frame, Nat.reduceAdd, Nat.reduceMul, Nat.reduceSub, beq_self_eq_true, List.cons_append, List.nil_append, beq_dec, vmI]
    refine call_ok rfl rfl (wthn n s x 1073741829 hx (by omega) (by omega)) ?_
    rintro z s ⟨m, rfl, hm, rfl⟩
    simp (disch := omega) only [vm0, vm1, vm2, vm3, vm4, vm5, vm6, vm7, vmF, vmT, evo, wr, wrC, frame, Nat.reduceAdd, Nat.reduceMul, Nat.reduceSub, beq_self_eq_true, List.cons_append, List.nil_append, beq_dec, vmI]
    exact ⟨m, rfl, hm, .refl⟩
  · simp (disch := omega) only [vm0, vm1, vm2, vm3, vm4, vm5, vm6, vm7, vmF, vmT, evo, wr, wrC, frame, Nat.reduceAdd, Nat.reduceMul, Nat.reduceSub, beq_self_eq_true, List.cons_append, List.nil_append, beq_dec, vmI]
    refine call_ok rfl rfl (withinP n _ x 10 hx (by omega) (by omega)) ?_
    rintro z s2 ⟨rfl, rfl⟩
    have hp : OwE (s.new (.cells [num 63, num 64, num 16383, num 16384, num 1073741823, num 1073741824, num 4611686018427387903, num 4611686018427387904, num (-1), num 0] .own)) (.sl s.next 0 10 10 true 1) 1 Vm.encI [63, 64, 16383, 16384, 1073741823, 1073741824, 4611686018427387903, 4611686018427387904, -1, 0] [s.next] :=
      ⟨.mk (J := []) (get_new_eq rfl) rfl (Nat.le_refl _), fun _ => rfl, by omega, by intro z hz; simp at hz; subst hz; rw [next_new]; omega⟩
    obtain ⟨i, hi⟩ : ∃ i : Nat, x % 10 = (i : Int) := ⟨(x % 10).toNat, by omega⟩
    obtain ⟨z, hz⟩ : ∃ z, ([63, 64, 16383, 16384, 1073741823, 1073741824, 4611686018427387903, 4611686018427387904, -1, 0] : List Int)[i]? = some z := ⟨_, List.getElem?_eq_getElem (by simp; omega)⟩
    have e1 := hp.rd.ia hz
    have e2 := hp.rd.at1 (f := num) hz
    have hin : ∀ z ∈ ([63, 64, 16383, 16384, 1073741823, 1073741824, 4611686018427387903, 4611686018427387904, -1, 0] : List Int), In64 z := by unfold In64; decide
    rw [hi]
    simp (disch := omega) only [vm0, vm1, vm2, vm3, vm4, vm5, vm6, vm7, vmF, vmT, evo, wr, wrC, frame, Nat.reduceAdd, Nat.reduceMul, Nat.reduceSub, beq_self_eq_true, List.cons_append, List.nil_append, beq_dec, vmI, e1, e2]
    exact ⟨z, rfl, hin z (List.mem_of_getElem? hz), .new⟩
  · simp (disch := omega) only [vm0, vm1, vm2, vm3, vm4, vm5, vm6, vm7, vmF, vmT, evo, wr, wrC, frame, Nat.reduceAdd, Nat.reduceMul, Nat.reduceSub, beq_self_eq_true, List.cons_append, List.nil_append, beq_dec, vmI]
    refine call_ok rfl rfl (wthn n s x 4611686018427387903 hx (by omega) (by omega)) ?_
    rintro z s ⟨m, rfl, hm, rfl⟩
    simp (disch := omega) only [vm0, vm1, vm2, vm3, vm4, vm5, vm6, vm7, vmF, vmT, evo, wr, wrC, frame, Nat.reduceAdd, Nat.reduceMul, Nat.reduceSub, beq_self_eq_true, List.cons_append, List.nil_append, beq_dec, vmI]
    exact ⟨m, rfl, hm, .refl⟩
end
end Go.Proofs.Ythcikbgcfgmgoaa.ctr
namespace Go.Proofs.Ythcikbgcfgmgoaa.ctr
open Go Go.Vm Go.RowKit
set_option linter.unusedVariables false
set_option linter.constructorNameAsVariable false
set_option linter.unusedSimpArgs false
/-! ## a map that is made and asked at once -/
section
variable {bd : Bd} {call : FuncId → List AV → St → Out} {F : LF} {n0 : Nat} {w : WI} {c : Nat} {L : LF} {k : Nat} {s : St} {ss : List St} {fs : List Fs} {ps : List Pend} {Q : Option AV → Nat → St → List St → List Fs → List Pend → Prop}
theorem d_mkm : DOk (drwO bd call F n0 .mkm w c L k s ss fs ps) Q = Q (some (.mapr (n0 + w.hi))) k s ss (⟨c, n0 + w.hi, w.lo, .map []⟩ :: fs) ps := rfl
theorem d_mup (e : EK) (m x v : Od) : DOk (drwO bd call F n0 (.mup e m x v) w c L k s ss fs ps) Q = OpOk (fMup bd L F (addM (k + 1) fs s) e m x v) (dlQ k s ss fs ps Q) := by
  show DOk (match fMup bd L F (addM (k + 1) fs s) e m x v with
    | .v y s' => .ok (some y) (k + 1) s' (s :: ss) fs ps
    | .u s' => .ok none (k + 1) s' (s :: ss) fs ps
    | .bad n t => .bad n t) Q = _
  cases fMup bd L F (addM (k + 1) fs s) e m x v <;> rfl
theorem d_lkp (e : EK) (z : AV) (ok : Bool) (m x : Od) : DOk (drwO bd call F n0 (.lkp e z ok m x) w c L k s ss fs ps) Q = drQ (fLkp bd L F (addR w.bits k fs s) e z ok m x) (.lkp e z ok m x) L w k s ss fs ps Q := by
  show DOk (match fLkp bd L F (addR w.bits k fs s) e z ok m x with
    | some y => cnd (Nat.beq w.lo w.hi) (cnd (Nat.beq w.lo k) (.ok (some y) k s ss fs ps) (.bad 77 [])) (.ok (some y) k s ss fs (.mk (.lkp e z ok m x) L y w fs :: ps))
    | none => .bad 73 []) Q = _
  cases fLkp bd L F (addR w.bits k fs s) e z ok m x with
  | none => rfl
  | some x => exact dcnd2
/-- an entry is laid -/
noncomputable def mupV (bd : Bd) (s : St) (m k v : Option AV) : Out := match m, k, v with
  | some (.mapr r), some (.int .i64 (.c n)), some v => match s.heap.get r with
    | some (.map es) => match upd bd .i es (num n) v with
      | some es' => .u (s.put r (some (.map es')))
      | none => .bad 0 []
    | _ => .bad 0 []
  | _, _, _ => .bad 0 []
theorem mup_q {m x v : Od} {R : Option AV → St → Prop} (h : OpOk (mupV bd s (ev L F m) (ev L F x) (ev L F v)) R) : OpOk (fMup bd L F s .i m x v) R := by
  unfold mupV at h
  split at h
  · rename_i r n y h1 h2 h3
    split at h
    · rename_i es h4
      split at h
      · rename_i es' h5
        unfold fMup
        rw [h1]
        simp only [oV_s, h2, h3]
        show OpOk (Option.casesOn (ob (eqE bd .i (num n) (num n)) fun _ => s.heap.get r) (.bad 35 []) fun x => x.onMap (fun es => Option.casesOn (upd bd .i es (num n) y) (.bad 36 []) fun es' => .u (s.put r (some (.map es')))) (.bad 37 [])) R
        have e : eqE bd .i (num n) (num n) = some true := by simp only [eqE_i, e_i, decide_true]
        rw [e]
        show OpOk (Option.casesOn (s.heap.get r) (.bad 35 []) fun x => x.onMap (fun es => Option.casesOn (upd bd .i es (num n) y) (.bad 36 []) fun es' => .u (s.put r (some (.map es')))) (.bad 37 [])) R
        rw [h4]
        show OpOk (Option.casesOn (upd bd .i es (num n) y) (.bad 36 []) fun es' => .u (s.put r (some (.map es')))) R
        rw [h5]
        exact h
      · exact h.elim
    · exact h.elim
  · exact h.elim
noncomputable def mupG (bd : Bd) (s : St) (r : Nat) (n : Int) (v : AV) (x : Option AB) : Out := match x with
  | some (.map es) => match upd bd .i es (num n) v with
      | some es' => .u (s.put r (some (.map es')))
      | none => .bad 0 []
  | _ => .bad 0 []
theorem mup_v {r : Nat} {n : Int} {v : AV} : mupV bd s (some (.mapr r)) (some (.int .i64 (.c n))) (some v) = mupG bd s r n v (s.heap.get r) := rfl
theorem mup_g {r : Nat} {n : Int} {v : AV} {es es' : List (AV × AV)} (h : upd bd .i es (num n) v = some es') : mupG bd s r n v (some (.map es)) = .u (s.put r (some (.map es'))) := by
  show (match upd bd .i es (num n) v with
      | some es' => Out.u (s.put r (some (.map es')))
      | none => .bad 0 []) = _
  rw [h]
theorem upd_0 {n : Int} {v : AV} : upd bd .i [] (num n) v = some [(num n, v)] := rfl
theorem upd_1 {n m : Int} {v u : AV} (h : n ≠ m) : upd bd .i [(num m, u)] (num n) v = some [(num m, u), (num n, v)] := by
  show ob (eqE bd .i (num n) (num m)) (fun b => cnd b (some [(num n, v)]) (ob (upd bd .i [] (num n) v) fun r' => some ((num m, u) :: r'))) = _
  rw [eqE_i, decide_eq_false h]; rfl
theorem mup_0 {r : Nat} {n : Int} {v : AV} : mupG bd s r n v (some (.map [])) = .u (s.put r (some (.map [(num n, v)]))) := mup_g upd_0
theorem mup_1 {r : Nat} {n m : Int} {u v : AV} (h : n ≠ m) : mupG bd s r n v (some (.map [(num m, u)])) = .u (s.put r (some (.map [(num m, u), (num n, v)]))) := mup_g (upd_1 h)
/-- an entry is asked for -/
noncomputable def lkpV (bd : Bd) (m k : Option AV) (g : Nat → Option AB) : Option AV := match m, k with
  | some (.mapr r), some (.int .i64 (.c n)) => match g r with
    | some (.map es) => match Vm.look bd .i es (num n) with
      | some (some v) => some v
      | _ => none
    | _ => none
  | _, _ => none
theorem lkp_q {z : AV} {m x : Od} {S : St} {o : VO} (h : drQ (lkpV bd (ev L F m) (ev L F x) S.heap.get) o L w k s ss fs ps Q) : drQ (fLkp bd L F S .i z false m x) o L w k s ss fs ps Q := by
  unfold lkpV at h
  split at h
  · rename_i r n h1 h2
    split at h
    · rename_i es h3
      split at h
      · rename_i v h4
        have e : fLkp bd L F S .i z false m x = some v := by
          unfold fLkp
          rw [h1, h2]
          show ob (eqE bd .i (num n) (num n)) (fun _ => ob (S.heap.get r) fun x => x.onMap (fun es => ob (Vm.look bd .i es (num n)) fun v => Option.casesOn v (some (okv false z false)) fun v => some (okv false v true)) none) = _
          have e : eqE bd .i (num n) (num n) = some true := by simp only [eqE_i, decide_true]
          rw [e, h3]
          show ob (Vm.look bd .i es (num n)) (fun v => Option.casesOn v (some (okv false z false)) fun v => some (okv false v true)) = _
          rw [h4]; rfl
        rw [e]; exact h
      · exact h.elim
    · exact h.elim
  · exact h.elim
noncomputable def lkpG (bd : Bd) (n : Int) (x : Option AB) : Option AV := match x with
  | some (.map es) => match Vm.look bd .i es (num n) with
    | some (some v) => some v
    | _ => none
  | _ => none
theorem lkp_v {r : Nat} {n : Int} {g : Nat → Option AB} : lkpV bd (some (.mapr r)) (some (.int .i64 (.c n))) g = lkpG bd n (g r) := rfl
theorem lkp_a {n m : Int} {v u : AV} : lkpG bd n (some (.map [(num n, v), (num m, u)])) = some v := by
  have e : Vm.look bd .i [(num n, v), (num m, u)] (num n) = some (some v) := by
    show ob (eqE bd .i (num n) (num n)) (fun b => cnd b (some (some v)) (ob (eqE bd .i (num n) (num m)) fun b => cnd b (some (some u)) (some none))) = _
    rw [eqE_i, decide_eq_true rfl]; rfl
  show (match Vm.look bd .i [(num n, v), (num m, u)] (num n) with
    | some (some v) => some v
    | _ => none) = _
  rw [e]
theorem lkp_b {n m : Int} {v u : AV} (h : n ≠ m) : lkpG bd n (some (.map [(num m, u), (num n, v)])) = some v := by
  have e : Vm.look bd .i [(num m, u), (num n, v)] (num n) = some (some v) := by
    show ob (eqE bd .i (num n) (num m)) (fun b => cnd b (some (some u)) (ob (eqE bd .i (num n) (num n)) fun b => cnd b (some (some v)) (some none))) = _
    rw [eqE_i, eqE_i, decide_eq_true rfl, decide_eq_false h]; rfl
  show (match Vm.look bd .i [(num m, u), (num n, v)] (num n) with
    | some (some v) => some v
    | _ => none) = _
  rw [e]
end
section
variable {bd : Bd} {fu : Nat}
noncomputable def vcLa : VC := (.drw [.i (.mv (.w 7)), .i (.mv (.w 7)), .i (.ia 1 (.t 0) (.c (.int .i64 (.c 0)))), .i (.ld (.t 0)), .i (.bin .rem (.t 0) (.c (.int .u8 (.c 64)))), .i (.mkm), .i (.mup .i (.t 0) (.c (.int .i64 (.c 4))) (.c (.int .i64 (.c 2)))), .i (.mup .i (.t 1) (.c (.int .i64 (.c 8))) (.c (.int .i64 (.c 3)))), .i (.mv (.t 2)), .i (.mv (.w 5)), .i (.lkp .i (.int .i64 (.c 0)) false (.t 1) (.t 0)), .i (.bin .shl (.t 0) (.c (.int .u64 (.c 6)))), .i (.cvi .u8 (.t 0)), .i (.bin .or (.t 8) (.t 0)), .i (.ia 1 (.t 13) (.c (.int .i64 (.c 0)))), .i (.st 1 (.t 0) (.t 1))] [] [⟨0, 0, 0⟩, ⟨0, 0, 0⟩, ⟨0, 0, 2⟩, ⟨0, 2, 6⟩, ⟨0, 0, 14⟩, ⟨1, 0, 0⟩, ⟨0, 0, 32⟩, ⟨0, 0, 96⟩, ⟨0, 0, 224⟩, ⟨0, 0, 0⟩, ⟨2, 2, 992⟩, ⟨0, 0, 2016⟩, ⟨0, 0, 4064⟩, ⟨0, 0, 8190⟩, ⟨0, 0, 16383⟩, ⟨0, 0, 32767⟩] 1)
noncomputable def vcLb : VC := (.drw [.i (.mv (.w 7)), .i (.mv (.w 7)), .i (.ia 1 (.t 0) (.c (.int .i64 (.c 0)))), .i (.ld (.t 0)), .i (.bin .rem (.t 0) (.c (.int .u8 (.c 64)))), .i (.mkm), .i (.mup .i (.t 0) (.c (.int .i64 (.c 8))) (.c (.int .i64 (.c 3)))), .i (.mup .i (.t 1) (.c (.int .i64 (.c 4))) (.c (.int .i64 (.c 2)))), .i (.mv (.t 2)), .i (.mv (.w 5)), .i (.lkp .i (.int .i64 (.c 0)) false (.t 1) (.t 0)), .i (.bin .shl (.t 0) (.c (.int .u64 (.c 6)))), .i (.cvi .u8 (.t 0)), .i (.bin .or (.t 8) (.t 0)), .i (.ia 1 (.t 13) (.c (.int .i64 (.c 0)))), .i (.st 1 (.t 0) (.t 1))] [] [⟨0, 0, 0⟩, ⟨0, 0, 0⟩, ⟨0, 0, 2⟩, ⟨0, 2, 6⟩, ⟨0, 0, 14⟩, ⟨1, 0, 0⟩, ⟨0, 0, 32⟩, ⟨0, 0, 96⟩, ⟨0, 0, 224⟩, ⟨0, 0, 0⟩, ⟨2, 2, 992⟩, ⟨0, 0, 2016⟩, ⟨0, 0, 4064⟩, ⟨0, 0, 8190⟩, ⟨0, 0, 16383⟩, ⟨0, 0, 32767⟩] 1)
theorem lit_a4 {call : FuncId → List AV → St → Out} (s : St) (f0 f1 f2 f3 f4 f6 f8 f9 f10 f11 f12 f13 f14 f15 f16 f17 f18 f19 f20 f21 f22 f23 : Option AV) (b K : Nat) (r : List AV) (hb : s.heap.get b = some (.cells (byt 0 :: r) .own)) (hlt : b < s.next) (hK : 0 < K) :
    RsOk (exec bd call fu vcLa [f0, f1, f2, f3, f4, some (num 4), f6, some (.sl b 0 K K true 1), f8, f9, f10, f11, f12, f13, f14, f15, f16, f17, f18, f19, f20, f21, f22, f23] s) (fun e G t => e = .normal ∧ G = [f0, f1, f2, f3, f4, some (num 4), f6, some (.sl b 0 K K true 1), f8, f9, f10, f11, f12, f13, f14, f15, f16, f17, f18, f19, f20, f21, f22, f23] ∧ t.next = s.next + 1 ∧
      ∀ b', b' ≠ s.next → t.heap.get b' = if b' = b then some (.cells (byt 128 :: r) .own) else s.heap.get b') := by
  have e1 : iaV 1 (.sl b 0 K K true 1) (some (num 0)) = some (.ptr b 0) := iaV_is (v := .sl b 0 K K true 1) (i := 0) (by simp [isSl]) hK
  have hrem : binop bd .rem (byt 0) (byt 64) = some (byt 0) := by rw [b_rem (by omega)]; rfl
  have hshl : binop bd .shl (num 2) (.int .u64 (.c 6)) = some (num 128) := by rw [b_shl (by omega)]; rfl
  have hor : binop bd .or (byt 0) (byt 128) = some (byt 128) := by rw [b_or]; rfl
  have hcv : IntKind.u8.wrap 128 = 128 := by decide
  unfold vcLa
  simp (disch := omega) only [vm0, vm1, vm2, vm3, vm4, vm5, vm6, vm7, vmF, vmT, evo, wr, wrC, frame, Nat.reduceAdd, Nat.reduceMul, Nat.reduceSub, beq_self_eq_true, List.cons_append, List.nil_append, beq_dec, vmI, e1, hrem, d_mkm, d_mup, hb]
  refine mup_q ?_
  simp (disch := omega) only [vm0, vm1, vm2, vm3, vm4, vm5, vm6, vm7, vmF, vmT, evo, wr, wrC, frame, Nat.reduceAdd, Nat.reduceMul, Nat.reduceSub, beq_self_eq_true, List.cons_append, List.nil_append, beq_dec, vmI, e1, hrem, d_mkm, d_mup, hb, mup_v, mup_0, mup_1]
  refine mup_q ?_
  simp (disch := omega) only [vm0, vm1, vm2, vm3, vm4, vm5, vm6, vm7, vmF, vmT, evo, wr, wrC, frame, Nat.reduceAdd, Nat.reduceMul, Nat.reduceSub, beq_self_eq_true, List.cons_append, List.nil_append, beq_dec, vmI, e1, hrem, d_mkm, d_mup, hb, mup_v, mup_0, mup_1, d_lkp]
  refine lkp_q ?_
  simp (disch := omega) only [vm0, vm1, vm2, vm3, vm4, vm5, vm6, vm7, vmF, vmT, evo, wr, wrC, frame, Nat.reduceAdd, Nat.reduceMul, Nat.reduceSub, beq_self_eq_true, List.cons_append, List.nil_append, beq_dec, vmI, e1, hrem, hb, lkp_v, lkp_a, lkp_b, hshl, hor, hcv, f_cvi, cvi_c]
  refine ⟨trivial, trivial, trivial, fun b' hb' => ?_⟩
  by_cases h : b' = b
  · rw [get_put_eq h, if_pos h]
  · rw [get_put_ne h, get_put_ne hb', get_put_ne hb', get_put_ne hb', if_neg h]
theorem lit_b4 {call : FuncId → List AV → St → Out} (s : St) (f0 f1 f2 f3 f4 f6 f8 f9 f10 f11 f12 f13 f14 f15 f16 f17 f18 f19 f20 f21 f22 f23 : Option AV) (b K : Nat) (r : List AV) (hb : s.heap.get b = some (.cells (byt 0 :: r) .own)) (hlt : b < s.next) (hK : 0 < K) :
    RsOk (exec bd call fu vcLb [f0, f1, f2, f3, f4, some (num 4), f6, some (.sl b 0 K K true 1), f8, f9, f10, f11, f12, f13, f14, f15, f16, f17, f18, f19, f20, f21, f22, f23] s) (fun e G t => e = .normal ∧ G = [f0, f1, f2, f3, f4, some (num 4), f6, some (.sl b 0 K K true 1), f8, f9, f10, f11, f12, f13, f14, f15, f16, f17, f18, f19, f20, f21, f22, f23] ∧ t.next = s.next + 1 ∧
      ∀ b', b' ≠ s.next → t.heap.get b' = if b' = b then some (.cells (byt 128 :: r) .own) else s.heap.get b') := by
  have e1 : iaV 1 (.sl b 0 K K true 1) (some (num 0)) = some (.ptr b 0) := iaV_is (v := .sl b 0 K K true 1) (i := 0) (by simp [isSl]) hK
  have hrem : binop bd .rem (byt 0) (byt 64) = some (byt 0) := by rw [b_rem (by omega)]; rfl
  have hshl : binop bd .shl (num 2) (.int .u64 (.c 6)) = some (num 128) := by rw [b_shl (by omega)]; rfl
  have hor : binop bd .or (byt 0) (byt 128) = some (byt 128) := by rw [b_or]; rfl
  have hcv : IntKind.u8.wrap 128 = 128 := by decide
  unfold vcLb
  simp (disch := omega) only [vm0, vm1, vm2, vm3, vm4, vm5, vm6, vm7, vmF, vmT, evo, wr, wrC, frame, Nat.reduceAdd, Nat.reduceMul, Nat.reduceSub, beq_self_eq_true, List.cons_append, List.nil_append, beq_dec, vmI, e1, hrem, d_mkm, d_mup, hb]
  refine mup_q ?_
  simp (disch := omega) only [vm0, vm1, vm2, vm3, vm4, vm5, vm6, vm7, vmF, vmT, evo, wr, wrC, frame, Nat.reduceAdd, Nat.reduceMul, Nat.reduceSub, beq_self_eq_true, List.cons_append, List.nil_append, beq_dec, vmI, e1, hrem, d_mkm, d_mup, hb, mup_v, mup_0, mup_1]
  refine mup_q ?_
  simp (disch := omega) only [vm0, vm1, vm2, vm3, vm4, vm5, vm6, vm7, vmF, vmT, evo, wr, wrC, frame, Nat.reduceAdd, Nat.reduceMul, Nat.reduceSub, beq_self_eq_true, List.cons_append, List.nil_append, beq_dec, vmI, e1, hrem, d_mkm, d_mup, hb, mup_v, mup_0, mup_1, d_lkp]
  refine lkp_q ?_
  simp (disch := omega) only [vm0, vm1, vm2, vm3, vm4, vm5, vm6, vm7, vmF, vmT, evo, wr, wrC, frame, Nat.reduceAdd, Nat.reduceMul, Nat.reduceSub, beq_self_eq_true, List.cons_append, List.nil_append, beq_dec, vmI, e1, hrem, hb, lkp_v, lkp_a, lkp_b, hshl, hor, hcv, f_cvi, cvi_c]
  refine ⟨trivial, trivial, trivial, fun b' hb' => ?_⟩
  by_cases h : b' = b
  · rw [get_put_eq h, if_pos h]
  · rw [get_put_ne h, get_put_ne hb', get_put_ne hb', get_put_ne hb', if_neg h]
theorem lit_a8 {call : FuncId → List AV → St → Out} (s : St) (f0 f1 f2 f3 f4 f6 f8 f9 f10 f11 f12 f13 f14 f15 f16 f17 f18 f19 f20 f21 f22 f23 : Option AV) (b K : Nat) (r : List AV) (hb : s.heap.get b = some (.cells (byt 0 :: r) .own)) (hlt : b < s.next) (hK : 0 < K) :
    RsOk (exec bd call fu vcLa [f0, f1, f2, f3, f4, some (num 8), f6, some (.sl b 0 K K true 1), f8, f9, f10, f11, f12, f13, f14, f15, f16, f17, f18, f19, f20, f21, f22, f23] s) (fun e G t => e = .normal ∧ G = [f0, f1, f2, f3, f4, some (num 8), f6, some (.sl b 0 K K true 1), f8, f9, f10, f11, f12, f13, f14, f15, f16, f17, f18, f19, f20, f21, f22, f23] ∧ t.next = s.next + 1 ∧
      ∀ b', b' ≠ s.next → t.heap.get b' = if b' = b then some (.cells (byt 192 :: r) .own) else s.heap.get b') := by
  have e1 : iaV 1 (.sl b 0 K K true 1) (some (num 0)) = some (.ptr b 0) := iaV_is (v := .sl b 0 K K true 1) (i := 0) (by simp [isSl]) hK
  have hrem : binop bd .rem (byt 0) (byt 64) = some (byt 0) := by rw [b_rem (by omega)]; rfl
  have hshl : binop bd .shl (num 3) (.int .u64 (.c 6)) = some (num 192) := by rw [b_shl (by omega)]; rfl
  have hor : binop bd .or (byt 0) (byt 192) = some (byt 192) := by rw [b_or]; rfl
  have hcv : IntKind.u8.wrap 192 = 192 := by decide
  unfold vcLa
  simp (disch := omega) only [vm0, vm1, vm2, vm3, vm4, vm5, vm6, vm7, vmF, vmT, evo, wr, wrC, frame, Nat.reduceAdd, Nat.reduceMul, Nat.reduceSub, beq_self_eq_true, List.cons_append, List.nil_append, beq_dec, vmI, e1, hrem, d_mkm, d_mup, hb]
  refine mup_q ?_
  simp (disch := omega) only [vm0, vm1, vm2, vm3, vm4, vm5, vm6, vm7, vmF, vmT, evo, wr, wrC, frame, Nat.reduceAdd, Nat.reduceMul, Nat.reduceSub, beq_self_eq_true, List.cons_append, List.nil_append, beq_dec, vmI, e1, hrem, d_mkm, d_mup, hb, mup_v, mup_0, mup_1]
  refine mup_q ?_
  simp (disch := omega) only [vm0, vm1, vm2, vm3, vm4, vm5, vm6, vm7, vmF, vmT, evo, wr, wrC, frame, Nat.reduceAdd, Nat.reduceMul, Nat.reduceSub, beq_self_eq_true, List.cons_append, List.nil_append, beq_dec, vmI, e1, hrem, d_mkm, d_mup, hb, mup_v, mup_0, mup_1, d_lkp]
  refine lkp_q ?_
  simp (disch := omega) only [vm0, vm1, vm2, vm3, vm4, vm5, vm6, vm7, vmF, vmT, evo, wr, wrC, frame, Nat.reduceAdd, Nat.reduceMul, Nat.reduceSub, beq_self_eq_true, List.cons_append, List.nil_append, beq_dec, vmI, e1, hrem, hb, lkp_v, lkp_a, lkp_b, hshl, hor, hcv, f_cvi, cvi_c]
  refine ⟨trivial, trivial, trivial, fun b' hb' => ?_⟩
  by_cases h : b' = b
  · rw [get_put_eq h, if_pos h]
  · rw [get_put_ne h, get_put_ne hb', get_put_ne hb', get_put_ne hb', if_neg h]
theorem lit_b8 {call : FuncId → List AV → St → Out} (s : St) (f0 f1 f2 f3 f4 f6 f8 f9 f10 f11 f12 f13 f14 f15 f16 f17 f18 f19 f20 f21 f22 f23 : Option AV) (b K : Nat) (r : List AV) (hb : s.heap.get b = some (.cells (byt 0 :: r) .own)) (hlt : b < s.next) (hK : 0 < K) :
    RsOk (exec bd call fu vcLb [f0, f1, f2, f3, f4, some (num 8), f6, some (.sl b 0 K K true 1), f8, f9, f10, f11, f12, f13, f14, f15, f16, f17, f18, f19, f20, f21, f22, f23] s) (fun e G t => e = .normal ∧ G = [f0, f1, f2, f3, f4, some (num 8), f6, some (.sl b 0 K K true 1), f8, f9, f10, f11, f12, f13, f14, f15, f16, f17, f18, f19, f20, f21, f22, f23] ∧ t.next = s.next + 1 ∧
      ∀ b', b' ≠ s.next → t.heap.get b' = if b' = b then some (.cells (byt 192 :: r) .own) else s.heap.get b') := by
  have e1 : iaV 1 (.sl b 0 K K true 1) (some (num 0)) = some (.ptr b 0) := iaV_is (v := .sl b 0 K K true 1) (i := 0) (by simp [isSl]) hK
  have hrem : binop bd .rem (byt 0) (byt 64) = some (byt 0) := by rw [b_rem (by omega)]; rfl
  have hshl : binop bd .shl (num 3) (.int .u64 (.c 6)) = some (num 192) := by rw [b_shl (by omega)]; rfl
  have hor : binop bd .or (byt 0) (byt 192) = some (byt 192) := by rw [b_or]; rfl
  have hcv : IntKind.u8.wrap 192 = 192 := by decide
  unfold vcLb
  simp (disch := omega) only [vm0, vm1, vm2, vm3, vm4, vm5, vm6, vm7, vmF, vmT, evo, wr, wrC, frame, Nat.reduceAdd, Nat.reduceMul, Nat.reduceSub, beq_self_eq_true, List.cons_append, List.nil_append, beq_dec, vmI, e1, hrem, d_mkm, d_mup, hb]
  refine mup_q ?_
  simp (disch := omega) only [vm0, vm1, vm2, vm3, vm4, vm5, vm6, vm7, vmF, vmT, evo, wr, wrC, frame, Nat.reduceAdd, Nat.reduceMul, Nat.reduceSub, beq_self_eq_true, List.cons_append, List.nil_append, beq_dec, vmI, e1, hrem, d_mkm, d_mup, hb, mup_v, mup_0, mup_1]
  refine mup_q ?_
  simp (disch := omega) only [vm0, vm1, vm2, vm3, vm4, vm5, vm6, vm7, vmF, vmT, evo, wr, wrC, frame, Nat.reduceAdd, Nat.reduceMul, Nat.reduceSub, beq_self_eq_true, List.cons_append, List.nil_append, beq_dec, vmI, e1, hrem, d_mkm, d_mup, hb, mup_v, mup_0, mup_1, d_lkp]
  refine lkp_q ?_
  simp (disch := omega) only [vm0, vm1, vm2, vm3, vm4, vm5, vm6, vm7, vmF, vmT, evo, wr, wrC, frame, Nat.reduceAdd, Nat.reduceMul, Nat.reduceSub, beq_self_eq_true, List.cons_append, List.nil_append, beq_dec, vmI, e1, hrem, hb, lkp_v, lkp_a, lkp_b, hshl, hor, hcv, f_cvi, cvi_c]
  refine ⟨trivial, trivial, trivial, fun b' hb' => ?_⟩
  by_cases h : b' = b
  · rw [get_put_eq h, if_pos h]
  · rw [get_put_ne h, get_put_ne hb', get_put_ne hb', get_put_ne hb', if_neg h]
end
end Go.Proofs.Ythcikbgcfgmgoaa.ctr
namespace Go.Proofs.Ythcikbgcfgmgoaa.ctr
open Go Go.Vm Go.RowKit
set_option linter.unusedVariables false
set_option linter.constructorNameAsVariable false
set_option linter.unusedSimpArgs false
/-- a number in more bytes than it needs -/
def longL (m : Int) (K i : Nat) : List Int := List.replicate (K - i) 0 ++ tailB m i
theorem longL_len {m : Int} {K i : Nat} (h : i ≤ K) : (longL m K i).length = K := by
  rw [longL, List.length_append, List.length_replicate, tailB_len]; omega
theorem longL_set {m : Int} {K i : Nat} (h : i < K) : (longL m K i).set (K - 1 - i) (byV m i) = longL m K (i + 1) := by
  unfold longL
  obtain ⟨J, rfl⟩ : ∃ J, K = J + i + 1 := ⟨K - i - 1, by omega⟩
  rw [show J + i + 1 - 1 - i = J by omega, show J + i + 1 - i = J + 1 by omega, show J + i + 1 - (i + 1) = J by omega]
  rw [List.replicate_succ', List.append_assoc, List.set_append_right _ _ (by simp)]
  simp [tailB]
theorem longL_in {m : Int} {K i : Nat} : ∀ x ∈ longL m K i, In8 x := by
  intro x hx
  rcases List.mem_append.1 hx with h | h
  · obtain ⟨_, rfl⟩ := List.mem_replicate.1 h
    exact ⟨by omega, by omega⟩
  · exact tailB_in m i x h
theorem longL_hd {m : Int} {K i : Nat} (h : i < K) : longL m K i = 0 :: (longL m K i).tail := by
  unfold longL
  obtain ⟨J, hJ⟩ : ∃ J, K - i = J + 1 := ⟨K - i - 1, by omega⟩
  rw [hJ, List.replicate_succ]; rfl
theorem setL_map {x : Int} : ∀ {l : List Int} {j : Nat}, j < l.length → setL (l.map byt) j [byt x] = some ((l.set j x).map byt)
  | [], _, h => by simp at h
  | y :: l, 0, _ => by rw [List.map_cons, sl_0, sl_n]; rfl
  | y :: l, j + 1, h => by
    rw [List.map_cons, sl_s, setL_map (by simpa using h)]; rfl
theorem wr_l {s : St} {b j : Nat} {l : List Int} {x : Int} (hb : s.heap.get b = some (.cells (l.map byt) .own)) (hj : j < l.length) : wr s b j [byt x] = some (s.put b (some (.cells ((l.set j x).map byt) .own))) := by
  unfold wr
  rw [hb]
  show wrC s b .own (setL (l.map byt) j [byt x]) = _
  rw [setL_map hj]; rfl
theorem rep_map (n : Nat) : rep n [byt 0] = (List.replicate n (0 : Int)).map byt := by
  induction n with
  | zero => rfl
  | succ n ih => show byt 0 :: rep n [byt 0] = _; rw [ih]; rfl
noncomputable def mksV (bd : Bd) (id : Nat) (l c : Option AV) : Option (AV × AB) := ob l fun l => ob c fun c =>
  l.onInt (fun k x => AI.casesOn x (fun _ => fMksC id [byt 0] 1 1 l c) fun _ _ => c.onInt (fun k' y => cnd (Nat.beq (ik k) 3 && Nat.beq (ik k') 3) (fMksS id bd 1 1 x y) none) none) none
theorem f_mks {L F : LF} {id : Nat} {bd : Bd} {x y : Od} : fMks L F id bd [byt 0] 1 1 x y = mksV bd id (ev L F x) (ev L F y) := rfl
theorem mksV_c {bd : Bd} {id K : Nat} (h : K ≤ 1000) : mksV bd id (some (num (K : Int))) (some (num (K : Int))) = some (.sl id 0 K K true 1, .cells ((List.replicate K (0 : Int)).map byt) .own) := by
  show fMksC id [byt 0] 1 1 (num K) (num K) = _
  unfold fMksC
  rw [onN (by omega), onN (by omega), Int.toNat_natCast, ble_dec, dec_t (by omega), ble_dec, dec_t (by omega), ble_dec, dec_t (by omega), rep_map]
  rfl
theorem fold_long {m : Int} (h0 : 0 ≤ m) {L K : Nat} (hL : sizeV m = (L : Int)) (hK : K = 4 ∧ L < 4 ∨ K = 8 ∧ L < 8) (h1 : 0 < L) : foldV 0 (longL m K L).tail = m := by
  obtain ⟨r1, r2, r3, r4⟩ := sizeV_rng (n := m)
  have h8 : L = 1 ∨ L = 2 ∨ L = 4 ∨ L = 8 := by rcases sizeV_in m with h | h | h | h | h <;> omega
  rcases hK with ⟨rfl, hl⟩ | ⟨rfl, hl⟩
  · rcases h8 with rfl | rfl | rfl | rfl
    · have := r1 (by omega)
      simp only [longL, tailB, byV, foldV, List.replicate, List.cons_append, List.nil_append, List.tail_cons, List.foldl_cons, List.foldl_nil, Nat.reduceSub, Nat.reduceMul, Int.reducePow]; omega
    · have := r2 (by omega)
      simp only [longL, tailB, byV, foldV, List.replicate, List.cons_append, List.nil_append, List.tail_cons, List.foldl_cons, List.foldl_nil, Nat.reduceSub, Nat.reduceMul, Int.reducePow]; omega
    · omega
    · omega
  · rcases h8 with rfl | rfl | rfl | rfl
    · have := r1 (by omega)
      simp only [longL, tailB, byV, foldV, List.replicate, List.cons_append, List.nil_append, List.tail_cons, List.foldl_cons, List.foldl_nil, Nat.reduceSub, Nat.reduceMul, Int.reducePow]; omega
    · have := r2 (by omega)
      simp only [longL, tailB, byV, foldV, List.replicate, List.cons_append, List.nil_append, List.tail_cons, List.foldl_cons, List.foldl_nil, Nat.reduceSub, Nat.reduceMul, Int.reducePow]; omega
    · have := r3 (by omega)
      simp only [longL, tailB, byV, foldV, List.replicate, List.cons_append, List.nil_append, List.tail_cons, List.foldl_cons, List.foldl_nil, Nat.reduceSub, Nat.reduceMul, Int.reducePow]; omega
    · omega
theorem long_no {m q : Int} (h0 : 0 ≤ m) {L K : Nat} (hL : sizeV m = (L : Int)) (hK : K = 4 ∧ q = 128 ∧ L < 4 ∨ K = 8 ∧ q = 192 ∧ L < 8) (h1 : 0 < L) : (takeV (q :: (longL m K L).tail)).2.2 = false := by
  have hf := fold_long h0 hL (K := K) (by omega) h1
  have hl : (longL m K L).tail.length = K - 1 := by rw [List.length_tail, longL_len (by omega)]
  rw [takeV_cons]
  rcases hK with ⟨rfl, rfl, hl4⟩ | ⟨rfl, rfl, hl4⟩
  · have hs : szB 128 = 4 := by decide
    rw [hs, if_neg (by omega), List.take_of_length_le (by rw [hl]; decide), show (128 : Int) % 64 = 0 by decide, hf, if_neg (by omega)]
  · have hs : szB 192 = 8 := by decide
    rw [hs, if_neg (by omega), List.take_of_length_le (by rw [hl]; decide), show (192 : Int) % 64 = 0 by decide, hf, if_neg (by omega)]
section
variable {bd : Bd} {fu : Nat}
theorem inner {call : FuncId → List AV → St → Out} (s : St) (m : Int) (bv : AV) (K L b : Nat) (f1 f2 f3 f8 f9 f10 f11 f12 f13 f14 f15 f16 f17 f18 f19 f20 f21 f22 f23 : Option AV) (hm : 0 ≤ m) (hK : K = 4 ∨ K = 8) (hl : lenV bv = some (num (L : Int))) (hb : s.heap.get b = some (.cells ((longL m K 0).map byt) .own)) (hfu : 20 < fu)
    {Q : Ex → LF → St → Prop} (hQ : ∀ (t : St) (J : Nat) x19, (J ≤ L ∧ J ≤ K ∧ (L ≤ J ∨ K ≤ J)) → t.next = s.next → t.heap.get b = some (.cells ((longL m K J).map byt) .own) → (∀ b', b' ≠ b → t.heap.get b' = s.heap.get b') →
      Q .normal [some (num m), f1, f2, f3, some bv, some (num (K : Int)), some (num (J : Int)), some (.sl b 0 K K true 1), f8, f9, f10, f11, f12, f13, f14, f15, f16, f17, f18, x19, f20, f21, f22, f23] t) :
    RsOk (exec bd call fu (.loop vc3_1) [some (num m), f1, f2, f3, some bv, some (num (K : Int)), some (num 0), some (.sl b 0 K K true 1), f8, f9, f10, f11, f12, f13, f14, f15, f16, f17, f18, f19, f20, f21, f22, f23] s) (blkQ 2 Q) := by
  refine x_loop (fun d F t => ∃ i : Nat, ∃ x19, d = K - i ∧ i ≤ L ∧ i ≤ K ∧ F = [some (num m), f1, f2, f3, some bv, some (num (K : Int)), some (num (i : Int)), some (.sl b 0 K K true 1), f8, f9, f10, f11, f12, f13, f14, f15, f16, f17, f18, x19, f20, f21, f22, f23] ∧ t.next = s.next ∧ t.heap.get b = some (.cells ((longL m K i).map byt) .own) ∧ (∀ b', b' ≠ b → t.heap.get b' = s.heap.get b')) K (by omega) ?_ ?_
  · exact ⟨0, _, by omega, by omega, by omega, rfl, rfl, hb, fun _ _ => rfl⟩
  · rintro d F t ⟨i, x19, rfl, h1, h2, rfl, h3, h4, h5⟩ _
    by_cases hiL : i < L
    · by_cases hiK : i < K
      · have hsh := shr_byte (bd := bd) (k' := .u64) (x := m) (b := 8 * (i : Int)) (j := i) hm (by omega) rfl
        have hbv : m / 2 ^ (8 * i) % 256 = byV m i := rfl
        have hu : IntKind.u64.wrap (8 * (i : Int)) = 8 * (i : Int) := cvi_u64 _ ⟨by omega, by omega⟩
        have e1 : iaV 1 (.sl b 0 K K true 1) (some (num ((K : Int) - 1 - (i : Int)))) = some (.ptr b (K - 1 - i)) := by
          have := iaV_is (sz := 1) (v := .sl b 0 K K true 1) (i := K - 1 - i) (by simp [isSl]) (by show _ < K; omega)
          rw [show ((K - 1 - i : Nat) : Int) = (K : Int) - 1 - (i : Int) by omega] at this
          rw [this]; show some (AV.ptr b (0 + (K - 1 - i) * 1)) = _; rw [Nat.zero_add, Nat.mul_one]
        have e2 := wr_l (x := byV m i) h4 (j := K - 1 - i) (by rw [longL_len h2]; omega)
        rw [longL_set hiK] at e2
        simp only [byt] at e2
        simp (disch := omega) only [vm0, vm1, vm2, vm3, vm4, vm5, vm6, vm7, vmF, vmT, evo, frame, Nat.reduceAdd, Nat.reduceMul, Nat.reduceSub, beq_self_eq_true, List.cons_append, List.nil_append, beq_dec, vc3_1, vc3_0, wr64, hl, hsh, f_cvi, cvi_c, cvi8, hbv, hu, e1, e2]
        refine ⟨K - (i + 1), by omega, i + 1, _, rfl, by omega, by omega, rfl, ?_, ?_, ?_⟩
        · rw [next_put]; exact h3
        · exact get_put_eq rfl
        · intro b' hb'; rw [get_put_ne hb']; exact h5 b' hb'
      · simp (disch := omega) only [vm0, vm1, vm2, vm3, vm4, vm5, vm6, vm7, vmF, vmT, evo, wr, wrC, frame, Nat.reduceAdd, Nat.reduceMul, Nat.reduceSub, beq_self_eq_true, List.cons_append, List.nil_append, beq_dec, vmI, vc3_1, hl]
        exact hQ t i _ ⟨h1, h2, by omega⟩ h3 h4 h5
    · simp (disch := omega) only [vm0, vm1, vm2, vm3, vm4, vm5, vm6, vm7, vmF, vmT, evo, wr, wrC, frame, Nat.reduceAdd, Nat.reduceMul, Nat.reduceSub, beq_self_eq_true, List.cons_append, List.nil_append, beq_dec, vmI, vc3_1, hl]
      exact hQ t i _ ⟨h1, h2, by omega⟩ h3 h4 h5
noncomputable def vc3r : VC := (.seq (.reg [.i (.mks [.int .u8 (.c 0)] 1 1 (.w 5) (.w 5))] [(7, (.t 0))]) (.seq (.seq (.reg [] [(6, (.c (.int .i64 (.c 0))))]) (.block 2 (.loop vc3_1))) vc3_2))
theorem round (n : Nat) (s : St) (m : Int) (bv : AV) (K : Nat) (f1 f2 f3 x6 x7 f8 f9 f10 f11 f12 f13 f14 f15 f16 f17 f18 x19 x20 x21 x22 f23 : Option AV) (hm : 0 ≤ m) (hm2 : m ≤ 4611686018427387903) (hK : K = 4 ∨ K = 8) (hv : lenV bv = some (num (sizeV m))) (hfu : 20 < fu) :
    RsOk (exec bd (callF bd tab.get fu (n + 4)) fu vc3r [some (num m), f1, f2, f3, some bv, some (num (K : Int)), x6, x7, f8, f9, f10, f11, f12, f13, f14, f15, f16, f17, f18, x19, x20, x21, x22, f23] s) (fun e F' t => ∃ x6 x7 x19 x20 x21 x22, (Is e .normal ∨ Is e (.exit 1)) ∧ F' = [some (num m), f1, f2, f3, some bv, some (num (K : Int)), x6, x7, f8, f9, f10, f11, f12, f13, f14, f15, f16, f17, f18, x19, x20, x21, x22, f23] ∧ Fr s t []) := by
  obtain ⟨L, hL⟩ : ∃ L : Nat, sizeV m = (L : Int) := ⟨(sizeV m).toNat, by rcases sizeV_in m with h | h | h | h | h <;> omega⟩
  have hL1 : 0 < L := by rcases sizeV_of hm hm2 with h | h | h | h <;> omega
  rw [hL] at hv
  have hb0 : (s.new (.cells ((List.replicate K (0 : Int)).map byt) .own)).heap.get s.next = some (.cells ((longL m K 0).map byt) .own) := by
    rw [get_new_eq rfl]; simp [longL, tailB]
  simp (disch := omega) only [vm0, vm1, vm2, vm3, vm4, vm5, vm6, vm7, vmF, vmT, evo, wr, wrC, frame, Nat.reduceAdd, Nat.reduceMul, Nat.reduceSub, beq_self_eq_true, List.cons_append, List.nil_append, beq_dec, vmI, vc3r, f_mks, mksV_c]
  refine inner _ m bv K L s.next _ _ _ _ _ _ _ _ _ _ _ _ _ _ _ _ _ _ _ hm hK hv hb0 hfu ?_
  intro t J y19 hJ h1 h2 h3
  have hf1 : Fr s t [] := ⟨by rw [h1, next_new]; omega, fun b' h1' h2' => by rw [h3 b' (by omega), get_new_ne (by omega)]⟩
  by_cases hKL : K ≤ L
  · simp (disch := omega) only [vm0, vm1, vm2, vm3, vm4, vm5, vm6, vm7, vmF, vmT, evo, wr, wrC, frame, Nat.reduceAdd, Nat.reduceMul, Nat.reduceSub, beq_self_eq_true, List.cons_append, List.nil_append, beq_dec, vmI, vc3_2, hv]
    exact ⟨_, _, _, _, _, _, .inr rfl, rfl, hf1⟩
  · obtain rfl : J = L := by omega
    simp (disch := omega) only [vm0, vm1, vm2, vm3, vm4, vm5, vm6, vm7, vmF, vmT, evo, wr, wrC, frame, Nat.reduceAdd, Nat.reduceMul, Nat.reduceSub, beq_self_eq_true, List.cons_append, List.nil_append, beq_dec, vmI, vc3_2, hv]
    rw [longL_hd (by omega), List.map_cons] at h2
    have hlt : s.next < t.next := by rw [h1, next_new]; omega
    rcases hK with rfl | rfl
    · show RsOk (exec bd (callF bd tab.get fu (n + 4)) fu (.two vcLa vcLb) _ t) _
      refine x_two (lit_a4 t _ _ _ _ _ _ _ _ _ _ _ _ _ _ _ _ _ _ _ _ _ _ s.next 4 _ h2 hlt (by omega)) (lit_b4 t _ _ _ _ _ _ _ _ _ _ _ _ _ _ _ _ _ _ _ _ _ _ s.next 4 _ h2 hlt (by omega)) ?_
      intro t2 k1 k2
      have k3 := k2 s.next (by omega)
      rw [if_pos rfl] at k3
      have hl2 : (longL m 4 J).tail.length = 3 := by rw [List.length_tail, longL_len (by omega)]
      have hp : OwE t2 (.sl s.next 0 4 4 true 1) 1 encB (128 :: (longL m 4 J).tail) [s.next] :=
        ⟨.mk (J := []) (by rw [List.append_nil, k3]; simp [List.flatMap_cons, encB, List.map_eq_flatMap]; rfl) (by rw [flat_len encB_w, List.length_cons, hl2]) (Nat.le_refl _), encB_w, by omega, by intro z hz; simp at hz; subst hz; omega⟩
      have hf2 : Fr s t2 [] := ⟨by omega, fun b' h1' h2' => by rw [k2 b' (by omega), if_neg (by omega)]; exact hf1.2 b' h1' h2'⟩
      simp (disch := omega) only [vm0, vm1, vm2, vm3, vm4, vm5, vm6, vm7, vmF, vmT, evo, wr, wrC, frame, Nat.reduceAdd, Nat.reduceMul, Nat.reduceSub, beq_self_eq_true, List.cons_append, List.nil_append, beq_dec, vmI]
      refine call_ok rfl rfl (v_take (n + 1) t2 _ _ hp.rd (fun x hx => ?_) (by rw [List.length_cons, hl2]; omega) (by omega)) ?_
      · rcases List.mem_cons.1 hx with rfl | hx
        · exact ⟨by omega, by omega⟩
        · exact longL_in x (List.mem_of_mem_tail hx)
      rintro y t3 ⟨rfl, hf3⟩
      rw [long_no hm hL (K := 4) (q := 128) (by omega) hL1]
      simp (disch := omega) only [vm0, vm1, vm2, vm3, vm4, vm5, vm6, vm7, vmF, vmT, evo, wr, wrC, frame, Nat.reduceAdd, Nat.reduceMul, Nat.reduceSub, beq_self_eq_true, List.cons_append, List.nil_append, beq_dec, vmI]
      exact ⟨_, _, _, _, _, _, .inl rfl, rfl, hf2.nn hf3 (by simp [Nw])⟩
    · show RsOk (exec bd (callF bd tab.get fu (n + 4)) fu (.two vcLa vcLb) _ t) _
      refine x_two (lit_a8 t _ _ _ _ _ _ _ _ _ _ _ _ _ _ _ _ _ _ _ _ _ _ s.next 8 _ h2 hlt (by omega)) (lit_b8 t _ _ _ _ _ _ _ _ _ _ _ _ _ _ _ _ _ _ _ _ _ _ s.next 8 _ h2 hlt (by omega)) ?_
      intro t2 k1 k2
      have k3 := k2 s.next (by omega)
      rw [if_pos rfl] at k3
      have hl2 : (longL m 8 J).tail.length = 7 := by rw [List.length_tail, longL_len (by omega)]
      have hp : OwE t2 (.sl s.next 0 8 8 true 1) 1 encB (192 :: (longL m 8 J).tail) [s.next] :=
        ⟨.mk (J := []) (by rw [List.append_nil, k3]; simp [List.flatMap_cons, encB, List.map_eq_flatMap]; rfl) (by rw [flat_len encB_w, List.length_cons, hl2]) (Nat.le_refl _), encB_w, by omega, by intro z hz; simp at hz; subst hz; omega⟩
      have hf2 : Fr s t2 [] := ⟨by omega, fun b' h1' h2' => by rw [k2 b' (by omega), if_neg (by omega)]; exact hf1.2 b' h1' h2'⟩
      simp (disch := omega) only [vm0, vm1, vm2, vm3, vm4, vm5, vm6, vm7, vmF, vmT, evo, wr, wrC, frame, Nat.reduceAdd, Nat.reduceMul, Nat.reduceSub, beq_self_eq_true, List.cons_append, List.nil_append, beq_dec, vmI]
      refine call_ok rfl rfl (v_take (n + 1) t2 _ _ hp.rd (fun x hx => ?_) (by rw [List.length_cons, hl2]; omega) (by omega)) ?_
      · rcases List.mem_cons.1 hx with rfl | hx
        · exact ⟨by omega, by omega⟩
        · exact longL_in x (List.mem_of_mem_tail hx)
      rintro y t3 ⟨rfl, hf3⟩
      rw [long_no hm hL (K := 8) (q := 192) (by omega) hL1]
      simp (disch := omega) only [vm0, vm1, vm2, vm3, vm4, vm5, vm6, vm7, vmF, vmT, evo, wr, wrC, frame, Nat.reduceAdd, Nat.reduceMul, Nat.reduceSub, beq_self_eq_true, List.cons_append, List.nil_append, beq_dec, vmI]
      exact ⟨_, _, _, _, _, _, .inl rfl, rfl, hf2.nn hf3 (by simp [Nw])⟩
theorem vc33_eq : vc3_3 = (.seq (.reg [.i (.ia 1 (.w 18) (.w 8)), .i (.ld (.t 0))] [(5, (.t 0))]) vc3r) := rfl
noncomputable def vc3t : VC := (.seq (.seq (.reg [.i (.bsl [.int .i64 (.c 0), .int .i64 (.c 0)] 2 1 [(0, 1, (.c (.int .i64 (.c 4)))), (1, 1, (.c (.int .i64 (.c 8))))]), .i (.len (.t 0))] [(8, (.c (.int .i64 (.c 0)))), (16, (.t 0)), (18, (.t 1))]) (.block 0 (.loop vc3_4))) (.seq (.reg [.i (.call (.c (.fn 7 [] [])) [])] [(23, (.t 0))]) .ret))
theorem back_t (n : Nat) (s : St) (m : Int) (bv : AV) (f1 f2 f3 f5 f6 f7 f8 f9 f10 f11 f12 f13 f14 f15 f16 f17 f18 f19 f20 f21 f22 f23 : Option AV) (hm : 0 ≤ m) (hm2 : m ≤ 4611686018427387903) (hv : lenV bv = some (num (sizeV m))) (hfu : 20 < fu) :
    RsOk (exec bd (callF bd tab.get fu (n + 4)) fu vc3t [some (num m), f1, f2, f3, some bv, f5, f6, f7, f8, f9, f10, f11, f12, f13, f14, f15, f16, f17, f18, f19, f20, f21, f22, f23] s) (retQ [.tmp 23] fun x s' => Is x (.bool true)) := by
  simp (disch := omega) only [vm0, vm1, vm2, vm3, vm4, vm5, vm6, vm7, vmF, vmT, evo, wr, wrC, frame, Nat.reduceAdd, Nat.reduceMul, Nat.reduceSub, beq_self_eq_true, List.cons_append, List.nil_append, beq_dec, vmI, vc3t]
  refine x_loop (fun d F t => ∃ j : Nat, ∃ x5 x6 x7 x17 x19 x20 x21 x22, d = 2 - j ∧ j ≤ 2 ∧ F = [some (num m), f1, f2, f3, some bv, x5, x6, x7, some (num (j : Int)), f9, f10, f11, f12, f13, f14, f15, some (num 2), x17, some (.sl s.next 0 2 2 true 1), x19, x20, x21, x22, f23] ∧ t.heap.get s.next = some (.cells [num 4, num 8] .own) ∧ s.next < t.next) 2 (by omega) ?_ ?_
  · exact ⟨0, _, _, _, _, _, _, _, _, by omega, by omega, rfl, get_new_eq rfl, by rw [next_new]; omega⟩
  · rintro d F t ⟨j, x5, x6, x7, x17, x19, x20, x21, x22, rfl, hj, rfl, h1, h2⟩ _
    have hp : OwE t (.sl s.next 0 2 2 true 1) 1 Vm.encI [4, 8] [s.next] := ⟨.mk (J := []) h1 rfl (Nat.le_refl _), fun _ => rfl, by omega, by intro z hz; simp at hz; subst hz; exact h2⟩
    obtain rfl | rfl | rfl : j = 0 ∨ j = 1 ∨ j = 2 := by omega
    · have e1 : iaV 1 (.sl s.next 0 2 2 true 1) (some (num ((0 : Nat) : Int))) = some (.ptr s.next 0) := hp.rd.ia (i := 0) (x := 4) rfl
      simp (disch := omega) only [vm0, vm1, vm2, vm3, vm4, vm5, vm6, vm7, vmF, vmT, evo, wr, wrC, frame, Nat.reduceAdd, Nat.reduceMul, Nat.reduceSub, beq_self_eq_true, List.cons_append, List.nil_append, beq_dec, vmI, vc3_4, vc33_eq, e1, h1]
      refine (round n t m bv 4 _ _ _ _ _ _ _ _ _ _ _ _ _ _ _ _ _ _ _ _ _ hm hm2 (by omega) hv hfu).mono ?_
      rintro e G t2 ⟨y6, y7, y19, y20, y21, y22, he, rfl, hf⟩
      rcases he with rfl | rfl
      · simp (disch := omega) only [vm0, vm1, vm2, vm3, vm4, vm5, vm6, vm7, vmF, vmT, evo, wr, wrC, frame, Nat.reduceAdd, Nat.reduceMul, Nat.reduceSub, beq_self_eq_true, List.cons_append, List.nil_append, beq_dec, vmI]
        exact ⟨2 - 1, by omega, 1, _, _, _, _, _, _, _, _, by omega, by omega, rfl, (hf.2 _ h2 (by simp)).trans h1, Nat.lt_of_lt_of_le h2 hf.1⟩
      · simp (disch := omega) only [vm0, vm1, vm2, vm3, vm4, vm5, vm6, vm7, vmF, vmT, evo, wr, wrC, frame, Nat.reduceAdd, Nat.reduceMul, Nat.reduceSub, beq_self_eq_true, List.cons_append, List.nil_append, beq_dec, vmI]
        exact ⟨2 - 1, by omega, 1, _, _, _, _, _, _, _, _, by omega, by omega, rfl, (hf.2 _ h2 (by simp)).trans h1, Nat.lt_of_lt_of_le h2 hf.1⟩
    · have e1 : iaV 1 (.sl s.next 0 2 2 true 1) (some (num ((1 : Nat) : Int))) = some (.ptr s.next 1) := hp.rd.ia (i := 1) (x := 8) rfl
      simp (disch := omega) only [vm0, vm1, vm2, vm3, vm4, vm5, vm6, vm7, vmF, vmT, evo, wr, wrC, frame, Nat.reduceAdd, Nat.reduceMul, Nat.reduceSub, beq_self_eq_true, List.cons_append, List.nil_append, beq_dec, vmI, vc3_4, vc33_eq, e1, h1]
      refine (round n t m bv 8 _ _ _ _ _ _ _ _ _ _ _ _ _ _ _ _ _ _ _ _ _ hm hm2 (by omega) hv hfu).mono ?_
      rintro e G t2 ⟨y6, y7, y19, y20, y21, y22, he, rfl, hf⟩
      rcases he with rfl | rfl
      · simp (disch := omega) only [vm0, vm1, vm2, vm3, vm4, vm5, vm6, vm7, vmF, vmT, evo, wr, wrC, frame, Nat.reduceAdd, Nat.reduceMul, Nat.reduceSub, beq_self_eq_true, List.cons_append, List.nil_append, beq_dec, vmI]
        exact ⟨2 - 2, by omega, 2, _, _, _, _, _, _, _, _, by omega, by omega, rfl, (hf.2 _ h2 (by simp)).trans h1, Nat.lt_of_lt_of_le h2 hf.1⟩
      · simp (disch := omega) only [vm0, vm1, vm2, vm3, vm4, vm5, vm6, vm7, vmF, vmT, evo, wr, wrC, frame, Nat.reduceAdd, Nat.reduceMul, Nat.reduceSub, beq_self_eq_true, List.cons_append, List.nil_append, beq_dec, vmI]
        exact ⟨2 - 2, by omega, 2, _, _, _, _, _, _, _, _, by omega, by omega, rfl, (hf.2 _ h2 (by simp)).trans h1, Nat.lt_of_lt_of_le h2 hf.1⟩
    · simp (disch := omega) only [vm0, vm1, vm2, vm3, vm4, vm5, vm6, vm7, vmF, vmT, evo, wr, wrC, frame, Nat.reduceAdd, Nat.reduceMul, Nat.reduceSub, beq_self_eq_true, List.cons_append, List.nil_append, beq_dec, vmI, vc3_4]
      refine call_ok rfl rfl (wakes01 (n + 1) t (by omega)) ?_
      rintro z s5 rfl
      simp (disch := omega) only [vm0, vm1, vm2, vm3, vm4, vm5, vm6, vm7, vmF, vmT, evo, wr, wrC, frame, Nat.reduceAdd, Nat.reduceMul, Nat.reduceSub, beq_self_eq_true, List.cons_append, List.nil_append, beq_dec, vmI]
      rfl
noncomputable def vc3m : VC := (.seq (.reg [.i (.call (.c (.fn 9 [] [])) [(.w 4)]), .i (.bsl [.int .u8 (.c 0)] 1 1 [(0, 1, (.w 2))]), .i (.app 1 1 (.t 1) (.t 0)), .i (.call (.c (.fn 8 [] [])) [(.t 0)]), .i (.ext 0 (.t 0)), .i (.ext 1 (.t 1)), .i (.ext 2 (.t 2))] [(11, (.t 0)), (12, (.t 2)), (13, (.t 1))]) (.seq (.reg [.i (.len (.w 4)), .i (.call (.c (.fn 10 [] [])) [(.w 3), (.t 0)]), .i (.sli 1 (.w 4) none (some (.t 0)) none), .i (.call (.c (.fn 8 [] [])) [(.t 0)]), .i (.ext 0 (.t 0)), .i (.ext 1 (.t 1)), .i (.ext 2 (.t 2))] [(14, (.t 0))]) (.seq (.seq (.reg [.i (.un .not (.w 11)), .g (.t 0) false (.mv (.w 12)), .g (.t 1) false (.mv (.w 0)), .g (.t 2) false (.bin .neq (.t 1) (.t 0)), .i (.pick (.t 3) (.c (.bool true)) (.t 0)), .g (.t 0) false (.mv (.w 13)), .g (.t 1) false (.mv (.w 4)), .g (.t 2) false (.len (.t 0)), .g (.t 3) false (.bin .neq (.t 2) (.t 0)), .i (.pick (.t 4) (.c (.bool true)) (.t 0)), .g (.t 0) false (.mv (.w 14)), .i (.pick (.t 1) (.c (.bool true)) (.t 0))] [(15, (.t 0))]) (.cond (.w 15) (.seq (.reg [] [(23, (.c (.bool false)))]) .ret) .skip)) vc3t)))
theorem vc3_eq : vc3 = (.seq (.reg [] [(23, (.c (.bool false)))]) (.seq (.reg [.i (.call (.c (.fn 4 [] [])) [(.w 0), (.w 1)])] [(0, (.t 0))]) (.seq (.seq (.reg [.i (.bin .lss (.w 0) (.c (.int .i64 (.c 0)))), .g (.t 0) false (.mv (.w 0)), .g (.t 1) false (.bin .gtr (.t 0) (.c (.int .i64 (.c 4611686018427387903)))), .i (.pick (.t 2) (.c (.bool true)) (.t 0))] [(9, (.t 0))]) (.cond (.w 9) (.seq (.reg [.i (.call (.c (.fn 5 [] [])) [(.w 0)]), .i (.len (.t 0)), .i (.bin .eql (.t 0) (.c (.int .i64 (.c 0)))), .g (.t 0) true (.mv (.w 0)), .g (.t 1) true (.call (.c (.fn 6 [] [])) [(.t 0)]), .g (.t 2) true (.bin .eql (.t 0) (.c (.int .i64 (.c 0)))), .i (.pick (.t 3) (.t 0) (.c (.bool false))), .g (.t 0) true (.call (.c (.fn 7 [] [])) []), .i (.pick (.t 1) (.t 0) (.c (.bool false)))] [(23, (.t 0))]) .ret) .skip)) (.seq (.reg [.i (.call (.c (.fn 5 [] [])) [(.w 0)])] [(4, (.t 0))]) (.seq (.seq (.reg [.i (.len (.w 4)), .i (.call (.c (.fn 6 [] [])) [(.w 0)]), .i (.bin .neq (.t 1) (.t 0)), .g (.t 0) false (.mv (.w 4)), .g (.t 1) false (.len (.t 0)), .g (.t 2) false (.bin .neq (.t 0) (.c (.int .i64 (.c 1)))), .g (.t 3) false (.mv (.t 0)), .g (.t 0) true (.mv (.w 4)), .g (.t 1) true (.len (.t 0)), .g (.t 2) true (.bin .neq (.t 0) (.c (.int .i64 (.c 2)))), .g (.t 7) false (.pick (.t 3) (.t 0) (.c (.bool false))), .g (.t 8) false (.mv (.t 0)), .g (.t 0) true (.mv (.w 4)), .g (.t 1) true (.len (.t 0)), .g (.t 2) true (.bin .neq (.t 0) (.c (.int .i64 (.c 4)))), .g (.t 12) false (.pick (.t 3) (.t 0) (.c (.bool false))), .g (.t 13) false (.mv (.t 0)), .g (.t 0) true (.mv (.w 4)), .g (.t 1) true (.len (.t 0)), .g (.t 2) true (.bin .neq (.t 0) (.c (.int .i64 (.c 8)))), .g (.t 17) false (.pick (.t 3) (.t 0) (.c (.bool false))), .i (.pick (.t 18) (.c (.bool true)) (.t 0))] [(10, (.t 0))]) (.cond (.w 10) (.seq (.reg [] [(23, (.c (.bool false)))]) .ret) .skip)) vc3m))))) := rfl
theorem cut_no {m : Int} (h0 : 0 ≤ m) (h1 : m ≤ 4611686018427387903) {z : Nat} (hz : z < (putV m).length) : (takeV ((putV m).take z)).2.2 = false := by
  obtain ⟨r1, r2, r3, r4⟩ := sizeV_rng (n := m)
  cases z with
  | zero => rfl
  | succ z =>
    have key : ∀ (c L : Int) (r : List Int), putV m = c :: r → szB c = L → (r.length : Int) + 1 = L → (takeV ((putV m).take (z + 1))).2.2 = false := by
      intro c L r e1 e2 e3
      rw [e1] at hz ⊢
      rw [List.length_cons] at hz
      rw [List.take_succ_cons, takeV_cons, e2, if_pos (by rw [List.length_take]; omega)]
    have sz : ∀ c : Int, 0 ≤ c ∧ c < 64 → szB (64 + c) = 2 ∧ szB (128 + c) = 4 ∧ szB (192 + c) = 8 := by
      intro c hc
      refine ⟨?_, ?_, ?_⟩
      · unfold szB; rw [show (64 + c) / 64 = 1 by omega]; rfl
      · unfold szB; rw [show (128 + c) / 64 = 2 by omega]; rfl
      · unfold szB; rw [show (192 + c) / 64 = 3 by omega]; rfl
    rcases sizeV_of h0 h1 with h | h | h | h
    · rw [putV_1 h] at hz; simp at hz
    · have := r2 h
      exact key _ 2 _ (putV_2 h) (sz _ (by unfold byV; simp only [Nat.reduceMul, Int.reducePow]; omega)).1 rfl
    · have := r3 h
      exact key _ 4 _ (putV_4 h) (sz _ (by unfold byV; simp only [Nat.reduceMul, Int.reducePow]; omega)).2.1 rfl
    · have := r4 h
      exact key _ 8 _ (putV_8 h) (sz _ (by unfold byV; simp only [Nat.reduceMul, Int.reducePow]; omega)).2.2 rfl
theorem back_m (n : Nat) (s : St) (m c cut : Int) (bv : AV) (fp : List Nat) (f1 f5 f6 f7 f8 f9 f10 f11 f12 f13 f14 f15 f16 f17 f18 f19 f20 f21 f22 f23 : Option AV) (hm : 0 ≤ m) (hm2 : m ≤ 4611686018427387903) (hv : OwE s bv 1 encB (putV m) fp) (hc : In8 c) (hcut : In64 cut) (hfu : 20 < fu) :
    RsOk (exec bd (callF bd tab.get fu (n + 4)) fu vc3m [some (num m), f1, some (byt c), some (num cut), some bv, f5, f6, f7, f8, f9, f10, f11, f12, f13, f14, f15, f16, f17, f18, f19, f20, f21, f22, f23] s) (retQ [.tmp 23] fun x s' => Is x (.bool true)) := by
  have hpl := putV_len m
  have hl := hv.rd.lenV
  rw [hpl] at hl
  have hL8 := sizeV_of hm hm2
  simp (disch := omega) only [vm0, vm1, vm2, vm3, vm4, vm5, vm6, vm7, vmF, vmT, evo, wr, wrC, frame, Nat.reduceAdd, Nat.reduceMul, Nat.reduceSub, beq_self_eq_true, List.cons_append, List.nil_append, beq_dec, vmI, vc3m]
  refine call_ok rfl rfl (copyB (n + 3) s bv _ hv.rd (by omega)) ?_
  rintro x s1 ⟨f1', k1, k2, k3⟩
  simp (disch := omega) only [vm0, vm1, vm2, vm3, vm4, vm5, vm6, vm7, vmF, vmT, evo, wr, wrC, frame, Nat.reduceAdd, Nat.reduceMul, Nat.reduceSub, beq_self_eq_true, List.cons_append, List.nil_append, beq_dec, vmI]
  refine op_app1 k1 (by (repeat' (first | exact Fr.refl | assumption | apply Fr.new' | apply Fr.mk' | apply Fr.put')) <;> (first | omega | (left; simp; done) | (right; simp only [next_put, next_new, next_mk]; omega) | (simp only [next_put, next_new, next_mk]; omega))) (x := c) rfl (by omega) ?_
  intro v2 s2 f2' k4 k5 k6
  simp (disch := omega) only [vm0, vm1, vm2, vm3, vm4, vm5, vm6, vm7, vmF, vmT, evo, wr, wrC, frame, Nat.reduceAdd, Nat.reduceMul, Nat.reduceSub, beq_self_eq_true, List.cons_append, List.nil_append, beq_dec, vmI]
  refine call_ok rfl rfl (v_take (n + 1) s2 v2 _ k4.rd (fun x hx => ?_) (by rw [List.length_append, List.length_singleton]; omega) (by omega)) ?_
  · rcases List.mem_append.1 hx with hx | hx
    · exact putV_in m x hx
    · simp at hx; subst hx; exact hc
  rintro y s3 ⟨rfl, hf3⟩
  rw [take_put hm hm2]
  have hv2 : RdE s3 bv 1 encB (putV m) := by
    refine (((hv.fr0 k2).fr k5 fun b hb hn => ?_).fr0 hf3).rd
    have h1 := hv.lt b hb
    rcases k3 b hn with h | h
    · simp at h
    · omega
  obtain ⟨L, hL⟩ : ∃ L, sizeV m = L := ⟨_, rfl⟩
  rw [hL] at hL8 hl hpl ⊢
  have hz1 := Int.emod_nonneg cut (show L ≠ 0 by omega)
  have hz2 := Int.emod_lt_of_pos cut (show 0 < L by omega)
  simp (disch := omega) only [vm0, vm1, vm2, vm3, vm4, vm5, vm6, vm7, vmF, vmT, evo, wr, wrC, frame, Nat.reduceAdd, Nat.reduceMul, Nat.reduceSub, beq_self_eq_true, List.cons_append, List.nil_append, beq_dec, vmI, hl]
  refine call_ok rfl rfl (withinP (n + 3) s3 cut L hcut (by omega) (by omega)) ?_
  rintro z s4 ⟨rfl, rfl⟩
  obtain ⟨w, g1, g2⟩ := hv2.sliH hz1 (by omega)
  have hno := cut_no hm hm2 (z := (cut % L).toNat) (by omega)
  simp (disch := omega) only [vm0, vm1, vm2, vm3, vm4, vm5, vm6, vm7, vmF, vmT, evo, wr, wrC, frame, Nat.reduceAdd, Nat.reduceMul, Nat.reduceSub, beq_self_eq_true, List.cons_append, List.nil_append, beq_dec, vmI, g1]
  refine call_ok rfl rfl (v_take (n + 1) s4 w _ g2 (fun x hx => putV_in m x (List.mem_of_mem_take hx)) (by rw [List.length_take]; omega) (by omega)) ?_
  rintro z s5 ⟨rfl, hf5⟩
  rw [hno]
  simp (disch := omega) only [vm0, vm1, vm2, vm3, vm4, vm5, vm6, vm7, vmF, vmT, evo, wr, wrC, frame, Nat.reduceAdd, Nat.reduceMul, Nat.reduceSub, beq_self_eq_true, List.cons_append, List.nil_append, beq_dec, vmI, hl]
  exact back_t n s5 m bv _ _ _ _ _ _ _ _ _ _ _ _ _ _ _ _ _ _ _ _ _ _ hm hm2 (by rw [hL]; exact hl) hfu
theorem back (n : Nat) (s : St) (n0 h0 c cut : Int) (hn : In64 n0) (hh : In64 h0) (hc : In8 c) (hcut : In64 cut) (hfu : 20 < fu) :
    OutOk (callF bd tab.get fu (n + 5) 3 [num n0, num h0, byt c, num cut] s) (fun x s' => Is x (.bool true)) := by
  refine call_code t3 rfl ?_
  simp (disch := omega) only [vm0, vm1, vm2, vm3, vm4, vm5, vm6, vm7, vmF, vmT, evo, wr, wrC, frame, Nat.reduceAdd, Nat.reduceMul, Nat.reduceSub, beq_self_eq_true, List.cons_append, List.nil_append, beq_dec, vmI, vc3_eq]
  refine call_ok rfl rfl (v_n (n + 2) s n0 h0 hn hh) ?_
  rintro z s1 ⟨m, rfl, hm, hf1⟩
  by_cases hb : m < 0 ∨ 4611686018427387903 < m
  · have hs0 : sizeV m = 0 := by unfold sizeV; rw [if_pos hb]
    have hp0 := putV_0 hs0
    have two : m < 0 ∨ 0 ≤ m ∧ 4611686018427387903 < m := by omega
    rcases two with h1 | ⟨h1, h2⟩
    · simp (disch := omega) only [vm0, vm1, vm2, vm3, vm4, vm5, vm6, vm7, vmF, vmT, evo, wr, wrC, frame, Nat.reduceAdd, Nat.reduceMul, Nat.reduceSub, beq_self_eq_true, List.cons_append, List.nil_append, beq_dec, vmI]
      refine call_ok rfl rfl (v_put (n + 2) s1 m hm (by omega)) ?_
      rintro bv s2 ⟨fp, q1, q2, q3⟩
      rw [hp0] at q1
      have hl := q1.rd.lenV
      rw [List.length_nil, Int.natCast_zero] at hl
      simp (disch := omega) only [vm0, vm1, vm2, vm3, vm4, vm5, vm6, vm7, vmF, vmT, evo, wr, wrC, frame, Nat.reduceAdd, Nat.reduceMul, Nat.reduceSub, beq_self_eq_true, List.cons_append, List.nil_append, beq_dec, vmI, hl]
      refine call_ok rfl rfl (v_size (n + 3) s2 m) ?_
      rintro z s3 ⟨rfl, rfl⟩
      rw [hs0]
      simp (disch := omega) only [vm0, vm1, vm2, vm3, vm4, vm5, vm6, vm7, vmF, vmT, evo, wr, wrC, frame, Nat.reduceAdd, Nat.reduceMul, Nat.reduceSub, beq_self_eq_true, List.cons_append, List.nil_append, beq_dec, vmI]
      refine call_ok rfl rfl (wakes01 (n + 1) _ (by omega)) ?_
      rintro z s5 rfl
      simp (disch := omega) only [vm0, vm1, vm2, vm3, vm4, vm5, vm6, vm7, vmF, vmT, evo, wr, wrC, frame, Nat.reduceAdd, Nat.reduceMul, Nat.reduceSub, beq_self_eq_true, List.cons_append, List.nil_append, beq_dec, vmI]
      rfl
    · simp (disch := omega) only [vm0, vm1, vm2, vm3, vm4, vm5, vm6, vm7, vmF, vmT, evo, wr, wrC, frame, Nat.reduceAdd, Nat.reduceMul, Nat.reduceSub, beq_self_eq_true, List.cons_append, List.nil_append, beq_dec, vmI]
      refine call_ok rfl rfl (v_put (n + 2) s1 m hm (by omega)) ?_
      rintro bv s2 ⟨fp, q1, q2, q3⟩
      rw [hp0] at q1
      have hl := q1.rd.lenV
      rw [List.length_nil, Int.natCast_zero] at hl
      simp (disch := omega) only [vm0, vm1, vm2, vm3, vm4, vm5, vm6, vm7, vmF, vmT, evo, wr, wrC, frame, Nat.reduceAdd, Nat.reduceMul, Nat.reduceSub, beq_self_eq_true, List.cons_append, List.nil_append, beq_dec, vmI, hl]
      refine call_ok rfl rfl (v_size (n + 3) s2 m) ?_
      rintro z s3 ⟨rfl, rfl⟩
      rw [hs0]
      simp (disch := omega) only [vm0, vm1, vm2, vm3, vm4, vm5, vm6, vm7, vmF, vmT, evo, wr, wrC, frame, Nat.reduceAdd, Nat.reduceMul, Nat.reduceSub, beq_self_eq_true, List.cons_append, List.nil_append, beq_dec, vmI]
      refine call_ok rfl rfl (wakes01 (n + 1) _ (by omega)) ?_
      rintro z s5 rfl
      simp (disch := omega) only [vm0, vm1, vm2, vm3, vm4, vm5, vm6, vm7, vmF, vmT, evo, wr, wrC, frame, Nat.reduceAdd, Nat.reduceMul, Nat.reduceSub, beq_self_eq_true, List.cons_append, List.nil_append, beq_dec, vmI]
      rfl
  · have hm0 : 0 ≤ m := by omega
    have hm1 : m ≤ 4611686018427387903 := by omega
    simp (disch := omega) only [vm0, vm1, vm2, vm3, vm4, vm5, vm6, vm7, vmF, vmT, evo, wr, wrC, frame, Nat.reduceAdd, Nat.reduceMul, Nat.reduceSub, beq_self_eq_true, List.cons_append, List.nil_append, beq_dec, vmI]
    refine call_ok rfl rfl (v_put (n + 2) s1 m hm (by omega)) ?_
    rintro bv s2 ⟨fp, q1, q2, q3⟩
    have hl := q1.rd.lenV
    rw [putV_len] at hl
    obtain ⟨L, hL⟩ : ∃ L, sizeV m = L := ⟨_, rfl⟩
    have hL8 : L = 1 ∨ L = 2 ∨ L = 4 ∨ L = 8 := by rw [← hL]; exact sizeV_of hm0 hm1
    rw [hL] at hl
    simp (disch := omega) only [vm0, vm1, vm2, vm3, vm4, vm5, vm6, vm7, vmF, vmT, evo, wr, wrC, frame, Nat.reduceAdd, Nat.reduceMul, Nat.reduceSub, beq_self_eq_true, List.cons_append, List.nil_append, beq_dec, vmI, hl]
    refine call_ok rfl rfl (v_size (n + 3) s2 m) ?_
    rintro z s3 ⟨rfl, rfl⟩
    rw [hL]
    rcases hL8 with rfl | rfl | rfl | rfl
    · simp (disch := omega) only [vm0, vm1, vm2, vm3, vm4, vm5, vm6, vm7, vmF, vmT, evo, wr, wrC, frame, Nat.reduceAdd, Nat.reduceMul, Nat.reduceSub, beq_self_eq_true, List.cons_append, List.nil_append, beq_dec, vmI, hl]
      exact back_m n s3 m c cut bv fp _ _ _ _ _ _ _ _ _ _ _ _ _ _ _ _ _ _ _ _ hm0 hm1 q1 hc hcut hfu
    · simp (disch := omega) only [vm0, vm1, vm2, vm3, vm4, vm5, vm6, vm7, vmF, vmT, evo, wr, wrC, frame, Nat.reduceAdd, Nat.reduceMul, Nat.reduceSub, beq_self_eq_true, List.cons_append, List.nil_append, beq_dec, vmI, hl]
      exact back_m n s3 m c cut bv fp _ _ _ _ _ _ _ _ _ _ _ _ _ _ _ _ _ _ _ _ hm0 hm1 q1 hc hcut hfu
    · simp (disch := omega) only [vm0, vm1, vm2, vm3, vm4, vm5, vm6, vm7, vmF, vmT, evo, wr, wrC, frame, Nat.reduceAdd, Nat.reduceMul, Nat.reduceSub, beq_self_eq_true, List.cons_append, List.nil_append, beq_dec, vmI, hl]
      exact back_m n s3 m c cut bv fp _ _ _ _ _ _ _ _ _ _ _ _ _ _ _ _ _ _ _ _ hm0 hm1 q1 hc hcut hfu
    · simp (disch := omega) only [vm0, vm1, vm2, vm3, vm4, vm5, vm6, vm7, vmF, vmT, evo, wr, wrC, frame, Nat.reduceAdd, Nat.reduceMul, Nat.reduceSub, beq_self_eq_true, List.cons_append, List.nil_append, beq_dec, vmI, hl]
      exact back_m n s3 m c cut bv fp _ _ _ _ _ _ _ _ _ _ _ _ _ _ _ _ _ _ _ _ hm0 hm1 q1 hc hcut hfu
end
end Go.Proofs.Ythcikbgcfgmgoaa.ctr
