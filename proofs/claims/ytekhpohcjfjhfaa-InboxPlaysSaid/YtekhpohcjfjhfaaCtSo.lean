/- Ranges in plain Lean; the library's sort as an entry. -/
import Derived.Test.YtekhpohcjfjhfaaCt1
import Derived.Shelf.SlSortCmp.WholeK
set_option linter.unusedVariables false
set_option linter.unusedSimpArgs false
namespace Go.Ranges
/-! ## sets of places, as rising ranges of which none touches the next -/
abbrev R := Int × Int
def far : Int := 1099511627776
def WFr : Int → List R → Prop
  | _, [] => True
  | b, r :: l => b ≤ r.1 ∧ r.1 < r.2 ∧ r.2 ≤ far ∧ WFr (r.2 + 1) l
def addR (f t : Int) : List R → List R
  | [] => [(f, t)]
  | r :: l => if r.2 < f then r :: addR f t l else if t < r.1 then (f, t) :: r :: l else addR (min f r.1) (max t r.2) l
def cut1 (f t : Int) (r : R) : List R := (if r.1 < f then [(r.1, min r.2 f)] else []) ++ (if t < r.2 then [(max r.1 t, r.2)] else [])
def cutR (f t : Int) (l : List R) : List R := l.flatMap (cut1 f t)
theorem WFr.mono {b b' : Int} (h : b' ≤ b) : ∀ {l : List R}, WFr b l → WFr b' l
  | [], _ => trivial
  | r :: l, ⟨h1, h2⟩ => ⟨Int.le_trans h h1, h2⟩
theorem WFr.lb {b : Int} : ∀ {l : List R}, WFr b l → ∀ r ∈ l, b ≤ r.1 ∧ r.1 < r.2 ∧ r.2 ≤ far
  | [], _, r, hr => by cases hr
  | q :: l, ⟨h1, h2, h3, h4⟩, r, hr => by
    rcases List.mem_cons.1 hr with rfl | hr
    · exact ⟨h1, h2, h3⟩
    · have := WFr.lb h4 r hr; omega
theorem WFr.pair {b : Int} : ∀ {l : List R}, WFr b l → l.Pairwise (fun x y => x.2 < y.1)
  | [], _ => .nil
  | q :: l, ⟨h1, h2, h3, h4⟩ => .cons (fun r hr => by have := WFr.lb h4 r hr; omega) (WFr.pair h4)
theorem WFr.lt {b : Int} {l : List R} (h : WFr b l) : l.Pairwise (fun x y => x.1 < y.1) :=
  (h.pair).imp_of_mem fun {x y} hx hy hxy => by have := h.lb x hx; omega
theorem WFr.nodup {b : Int} {l : List R} (h : WFr b l) : (l.map Prod.fst).Nodup := by
  rw [List.Nodup, List.pairwise_map]
  exact h.lt.imp fun h => by omega
theorem addR_wf : ∀ {l : List R} {b f t : Int}, WFr b l → b ≤ f → f < t → t ≤ far → WFr b (addR f t l) := by
  intro l
  induction l with
  | nil => intro b f t _ h1 h2 h3; exact ⟨h1, h2, h3, trivial⟩
  | cons r l ih =>
    intro b f t hw h1 h2 h3
    obtain ⟨w1, w2, w3, w4⟩ := hw
    unfold addR
    split
    · exact ⟨w1, w2, w3, ih w4 (by omega) h2 h3⟩
    · split
      · exact ⟨h1, h2, h3, by omega, w2, w3, w4⟩
      · have := ih (f := min f r.1) (t := max t r.2) (WFr.mono (show b ≤ r.2 + 1 by omega) w4) (by omega) (by omega) (by omega)
        exact this
theorem cut1_wf {f t b : Int} {r : R} (h1 : b ≤ r.1) (h2 : r.1 < r.2) (h3 : r.2 ≤ far) (hf : f < t) : ∀ {l : List R}, WFr (r.2 + 1) l → WFr b (cut1 f t r ++ l) := by
  intro l hl
  unfold cut1
  have hl' : ∀ c, c ≤ r.2 + 1 → WFr c l := fun c hc => hl.mono hc
  split <;> split
  · exact ⟨h1, by show r.1 < min r.2 f; omega, by show min r.2 f ≤ far; omega, by show min r.2 f + 1 ≤ max r.1 t; omega, by show max r.1 t < r.2; omega, h3, hl⟩
  · exact ⟨h1, by show r.1 < min r.2 f; omega, by show min r.2 f ≤ far; omega, hl' _ (by show min r.2 f + 1 ≤ _; omega)⟩
  · exact ⟨by show b ≤ max r.1 t; omega, by show max r.1 t < r.2; omega, h3, hl⟩
  · exact hl' _ (by omega)
theorem cutR_wf : ∀ {l : List R} {b f t : Int}, WFr b l → f < t → WFr b (cutR f t l) := by
  intro l
  induction l with
  | nil => intro b f t _ _; trivial
  | cons r l ih =>
    intro b f t hw hf
    obtain ⟨w1, w2, w3, w4⟩ := hw
    show WFr b (cut1 f t r ++ cutR f t l)
    exact cut1_wf w1 w2 w3 hf (ih w4 hf)
/-! one by one, as they are met -/
def pstep (o : List R × Int × Int) (r : R) : List R × Int × Int := if r.2 < o.2.1 ∨ o.2.2 < r.1 then (o.1 ++ [r], o.2) else (o.1, min o.2.1 r.1, max o.2.2 r.2)
def pAdd (f t : Int) (l : List R) : List R × Int × Int := l.foldl pstep ([], f, t)
theorem pstep_far {t : Int} : ∀ {l : List R} {b : Int} (o : List R) (f : Int), WFr b l → t < b → l.foldl pstep (o, f, t) = (o ++ l, f, t) := by
  intro l
  induction l with
  | nil => intro b o f _ _; simp
  | cons r l ih =>
    intro b o f hw ht
    obtain ⟨w1, w2, w3, w4⟩ := hw
    have : pstep (o, f, t) r = (o ++ [r], f, t) := if_pos (.inr (show t < r.1 by omega))
    rw [List.foldl_cons, this, ih _ _ w4 (by omega)]
    simp
theorem pstep_perm : ∀ {l : List R} {b f t : Int} (o : List R), WFr b l → f < t → ∃ p f' t', l.foldl pstep (o, f, t) = (o ++ p, f', t') ∧ (p ++ [(f', t')]).Perm (addR f t l) := by
  intro l
  induction l with
  | nil => intro b f t o _ _; exact ⟨[], f, t, by simp, .refl _⟩
  | cons r l ih =>
    intro b f t o hw hf
    obtain ⟨w1, w2, w3, w4⟩ := hw
    rw [List.foldl_cons]
    unfold addR
    by_cases h1 : r.2 < f
    · have : pstep (o, f, t) r = (o ++ [r], f, t) := if_pos (.inl h1)
      rw [this, if_pos h1]
      obtain ⟨p, f', t', e, hp⟩ := ih (o ++ [r]) w4 hf
      exact ⟨r :: p, f', t', by rw [e]; simp, hp.cons r⟩
    · rw [if_neg h1]
      by_cases h2 : t < r.1
      · have : pstep (o, f, t) r = (o ++ [r], f, t) := if_pos (.inr h2)
        rw [this, if_pos h2, pstep_far _ _ w4 (by omega)]
        refine ⟨r :: l, f, t, by simp, ?_⟩
        exact List.perm_append_comm (l₁ := r :: l) (l₂ := [(f, t)])
      · have : pstep (o, f, t) r = (o, min f r.1, max t r.2) := if_neg (by show ¬ (r.2 < f ∨ t < r.1); omega)
        rw [this, if_neg h2]
        exact ih o w4 (by omega)
/-- sorted by where they begin -/
def sortR (l : List R) : List R := l.mergeSort (fun x y => decide (x.1 ≤ y.1))
theorem eq_of_perm {l : List R} : ∀ {m : List R}, l.Perm m → l.Pairwise (fun x y => x.1 ≤ y.1) → m.Pairwise (fun x y => x.1 < y.1) → l = m := by
  induction l with
  | nil => intro m h _ _; exact (List.nil_perm.1 h).symm
  | cons x l ih =>
    intro m h h1 h2
    cases m with
    | nil => exact absurd h (by simp)
    | cons y m =>
      have hx : x ∈ y :: m := h.subset (by simp)
      have hy : y ∈ x :: l := h.symm.subset (by simp)
      have hxy : x = y := by
        rcases List.mem_cons.1 hx with hx | hx
        · exact hx
        · have q1 := (List.pairwise_cons.1 h2).1 x hx
          rcases List.mem_cons.1 hy with hy | hy
          · exact hy.symm
          · have q2 := (List.pairwise_cons.1 h1).1 y hy
            omega
      subst hxy
      rw [ih (List.perm_cons x |>.1 h) (List.pairwise_cons.1 h1).2 (List.pairwise_cons.1 h2).2]
theorem sortR_perm (l : List R) : (sortR l).Perm l := List.mergeSort_perm l _
theorem sortR_le (l : List R) : (sortR l).Pairwise (fun x y => x.1 ≤ y.1) := by
  have := List.pairwise_mergeSort (le := fun x y : R => decide (x.1 ≤ y.1)) (by intro a b c; simp; omega) (by intro a b; simp; omega) l
  exact this.imp fun h => by simpa using h
theorem sortR_of {l m : List R} (h : l.Perm m) (hm : m.Pairwise (fun x y => x.1 < y.1)) : sortR l = m := eq_of_perm ((sortR_perm l).trans h) (sortR_le l) hm
theorem pAdd_spec {l : List R} {b f t : Int} (hw : WFr b l) (hb : b ≤ f) (hf : f < t) (ht : t ≤ far) : sortR ((pAdd f t l).1 ++ [(pAdd f t l).2]) = addR f t l ∧ (((pAdd f t l).1 ++ [(pAdd f t l).2]).map Prod.fst).Nodup := by
  obtain ⟨p, f', t', e, hp⟩ := pstep_perm (l := l) [] hw hf
  have e' : pAdd f t l = (p, f', t') := by unfold pAdd; rw [e]; simp
  rw [e']
  have hwf := addR_wf hw hb hf ht
  refine ⟨sortR_of hp hwf.lt, ?_⟩
  exact ((hp.map Prod.fst).nodup_iff).2 hwf.nodup
theorem addR_len : ∀ {l : List R} {f t : Int}, (addR f t l).length ≤ l.length + 1 := by
  intro l
  induction l with
  | nil => intro f t; simp [addR]
  | cons r l ih =>
    intro f t
    unfold addR
    split
    · simp only [List.length_cons]; have := ih (f := f) (t := t); omega
    · split
      · simp
      · have := ih (f := min f r.1) (t := max t r.2); simp only [List.length_cons]; omega
theorem cut1_len {f t : Int} {r : R} : (cut1 f t r).length ≤ 2 := by unfold cut1; split <;> split <;> simp
end Go.Ranges
namespace Go.Vm
open Go.RowKit Go.Ranges Go.Proofs Go.Sort
set_option linter.unusedVariables false
set_option linter.unusedSimpArgs false
/-! ## the library's sort, of ranges by where they begin -/
theorem Step.ahead {ρ : Nat → Int} {E E' : Env} {s s' : M} {w w' : World} (h : Step ρ E s w E' s' w') (n : Nat) : Step ρ E s w E' s' (Go.Sort.ahead w' n) :=
  ⟨h.le, ⟨h.hr.cells, h.hr.maps, h.hr.apart, h.hr.mapart, h.hr.dom⟩, h.frame, h.own, h.os, h.tape, h.output, h.size, h.next, h.old, h.dead, h.ro⟩
theorem grow_get {w : World} {os : Array Obj} {B : Nat} {o : Obj} (h : w.heap[B]? = some o) : (Go.Sort.grow w os).heap[B]? = some o := by
  show (w.heap ++ os)[B]? = _
  rw [Array.getElem?_append_left (lt_of_get h)]; exact h
theorem Step.grown {ρ : Nat → Int} {E E' : Env} {s s' : M} {w w' : World} (h : Step ρ E s w E' s' w') (os : Array Obj) : Step ρ E s w E' s' (Go.Sort.grow w' os) := by
  refine ⟨h.le, ⟨fun b c k hb => ?_, fun b es hb => ?_, h.hr.apart, h.hr.mapart, h.hr.dom⟩, fun B hB hO => ?_, h.own, h.os, h.tape, h.output, ?_, h.next, h.old, h.dead, h.ro⟩
  · obtain ⟨B, δ, z, cs, t, fz, q1, q2, q3⟩ := h.hr.cells b c k hb
    exact ⟨B, δ, z, cs, t, fz, q1, grow_get q2, q3⟩
  · obtain ⟨R, en, cl, q1, q2, q3⟩ := h.hr.maps b es hb
    exact ⟨R, en, cl, q1, grow_get q2, q3⟩
  · rw [← h.frame B hB hO]
    show (w'.heap ++ os)[B]? = _
    rw [Array.getElem?_append_left (Nat.lt_of_lt_of_le hB h.size)]
  · show w.heap.size ≤ (w'.heap ++ os).size
    rw [Array.size_append]; exact Nat.le_trans h.size (Nat.le_add_right _ _)
def encV (x : R) : List Value := [.int .i64 x.1, .int .i64 x.2]
def encP (x : R) : List AV := [num x.1, num x.2]
noncomputable def pairs : List AV → Option (List R)
  | [] => some []
  | .int .i64 (.c a) :: .int .i64 (.c b) :: r => (pairs r).map fun l => (a, b) :: l
  | _ => none
theorem pairs_of : ∀ (l : List R), pairs (l.flatMap encP) = some l := by
  intro l
  induction l with
  | nil => rfl
  | cons x l ih =>
    show (pairs (l.flatMap encP)).map _ = _
    rw [ih]; rfl
theorem pairs_inv : ∀ {c : List AV} {l : List R}, pairs c = some l → c = l.flatMap encP := by
  intro c
  induction c using pairs.induct with
  | case1 => intro l h; cases h; rfl
  | case2 a b r ih =>
    intro l h
    simp only [pairs, Option.map_eq_some_iff] at h
    obtain ⟨m, h1, rfl⟩ := h
    rw [ih h1]; rfl
  | case3 c h1 h2 =>
    intro l h
    unfold pairs at h
    split at h
    · exact absurd rfl h1
    · rename_i a b r; exact absurd rfl (h2 a b r)
    · cases h
theorem vr_num {ρ : Nat → Int} {E : Env} {n : Int} {x : Value} (h : VR ρ E (num n) x) : x = .int .i64 n := by
  cases h with | int hx => exact congrArg _ hx
open Classical in
/-- what the sort does, where it is called with the comparing function g -/
noncomputable def sortAct (g : Nat) (args : List AV) (s : St) : Out := match args with
  | [.sl b 0 len lo ex 2, .fn g' [] []] => if g' = g then (match s.heap.get b with
      | some (.cells c k) => (match pairs (c.take (len * 2)) with
        | some l => if l.length = len ∧ len < 4611686018427387904 ∧ (l.map Prod.fst).Nodup then (match wr s b 0 ((sortR l).flatMap encP) with
            | some s' => .v (.tup []) s'
            | none => .bad 120 []) else .bad 121 []
        | none => .bad 122 [])
      | _ => .bad 123 []) else .bad 124 []
  | _ => .bad 125 []
theorem sortAct_eq {g b len lo : Nat} {ex : Bool} {s s' : St} {c : List AV} {k : BK} {l : List R} (h1 : s.heap.get b = some (.cells c k)) (h2 : pairs (c.take (len * 2)) = some l) (h3 : l.length = len ∧ len < 4611686018427387904 ∧ (l.map Prod.fst).Nodup) (h4 : wr s b 0 ((sortR l).flatMap encP) = some s') :
    sortAct g [.sl b 0 len lo ex 2, .fn g [] []] s = .v (.tup []) s' := by
  simp only [sortAct, h1, h2, if_pos h3, h4, if_true]
theorem sortR_unique {l m : List R} (h : m.Perm l) (hn : (l.map Prod.fst).Nodup) (hs : m.Pairwise (fun x y => x.1 ≤ y.1)) : m = sortR l := by
  have hp : m.Perm (sortR l) := h.trans (sortR_perm l).symm
  have hn' : ((sortR l).map Prod.fst).Nodup := (((sortR_perm l).map Prod.fst).nodup_iff).2 hn
  refine eq_of_perm hp hs ?_
  have h1 := sortR_le l
  rw [List.Nodup, List.pairwise_map] at hn'
  exact (h1.and hn').imp fun ⟨a, b⟩ => by omega
theorem ltOf_first (x y : R) : ltOf (fun x y : R => Lib.compareInt x.1 y.1) x y = decide (x.1 < y.1) := by
  unfold ltOf Lib.compareInt
  by_cases h1 : x.1 < y.1
  · simp [h1]
  · by_cases h2 : y.1 < x.1 <;> simp [h1, h2]
theorem swo_first : SWO (ltOf fun x y : R => Lib.compareInt x.1 y.1) where
  irrefl x := by rw [ltOf_first]; simp
  trans x y z h1 h2 := by rw [ltOf_first] at *; simp at *; omega
  ntrans x y z h1 h2 := by rw [ltOf_first] at *; simp at *; omega
/-- THE SORT, as it is entered in a table -/
theorem sort_entry {P : Program} {r : Go.Shelf.Ren} (L : SlLaysF0.n6 P r) (aE : ∀ w, (isAgg (r.t 24)).run P w = .ok true w) (zE : ∀ w, (Go.sizeOf (r.t 24)).run P w = .ok 2 w) {g : Nat} (eg : ∀ args w, (callFunc g args).run P w = .ok (.enter g args) w) (es : ∀ args w, (callFunc (r.f 6) args).run P w = .ok (.enter (r.f 6) args) w)
    (hcmp : ∀ (x y : R) (W : World), Calls P g #[.agg #[.int .i64 x.1, .int .i64 x.2], .agg #[.int .i64 y.1, .int .i64 y.2]] W fun e w' => e = .returned (.int .i64 (Lib.compareInt x.1 y.1)) ∧ ∃ q os', w' = grow (W.drewN q) os') (ρ : Nat → Int) : EntryOk ρ P (r.f 6) (.act (sortAct g)) := by
  intro E vs vals s w hH hv
  unfold sortAct
  split
  case h_2 => trivial
  rename_i b len lo ex g'
  split
  case isFalse => trivial
  rename_i hg'
  subst hg'
  split
  case h_2 => trivial
  rename_i c k hget
  split
  case h_2 => trivial
  rename_i l hl
  split
  case isFalse => trivial
  rename_i hcond
  obtain ⟨hlen, hsz, hnd⟩ := hcond
  split
  case h_2 => trivial
  rename_i s' hwr
  cases hv with | cons hv1 hv2 =>
  cases hv2 with | cons hv2 hv3 =>
  cases hv3
  cases hv2 with | fn hf1 hf2 =>
  cases hf1; cases hf2
  generalize hsl : (AV.sl b 0 len lo ex 2) = sv at hv1
  cases hv1 <;> cases hsl
  rename_i B δ z cap hB q1 q2 q3 q4
  have hgm : s.m.g b = some (.cells c k) := hget
  obtain ⟨B', δ', z', cs, t, fz, e1, e2, e3, e4, e5, e6⟩ := hH.cells b c k hgm
  rw [hB] at e1
  obtain ⟨rfl, rfl, rfl⟩ : B = B' ∧ δ = δ' ∧ z = z' := by simpa using e1
  have hwr' : wrC s b k (setL c 0 ((sortR l).flatMap encP)) = some s' := by
    unfold wr at hwr
    rw [hget] at hwr
    exact hwr
  obtain ⟨c', hc', hk, _⟩ := wrC_inv hwr'
  rw [hc'] at hwr'
  have hci := pairs_inv hl
  have hfl : ∀ m : List R, (m.flatMap encP).length = m.length * 2 := fun m => flat_len (sz := 2) (fun _ => rfl) m
  have hcl : len * 2 ≤ c.length := by
    have := congrArg List.length hci
    rw [List.length_take, hfl, hlen] at this
    omega
  have hslen : (sortR l).length = len := by rw [← hlen]; exact (sortR_perm l).length_eq
  rw [setL_of (by rw [hfl, hslen]; omega)] at hc'
  have hc' := Option.some.inj hc'
  simp only [List.take_zero, List.nil_append, Nat.zero_add] at hc'
  have hat : ∀ (m : List R) (i : Nat), i < m.length * 2 → (m.flatMap encP)[i]? = some (if i % 2 = 0 then num (m.getD (i / 2) (0, 0)).1 else num (m.getD (i / 2) (0, 0)).2) := by
    intro m
    induction m with
    | nil => intro i hi; simp at hi
    | cons x m ih =>
      intro i hi
      match i with
      | 0 => rfl
      | 1 => rfl
      | i + 2 =>
        have := ih i (by simp at hi; omega)
        show (m.flatMap encP)[i]? = _
        rw [this, show (i + 2) % 2 = i % 2 by omega, show (i + 2) / 2 = i / 2 + 1 by omega]
        simp
  have hvat : ∀ (d : Array R) (i : Nat), i < d.size * 2 → (Go.Sort.flatK encV 2 d)[i]! = (if i % 2 = 0 then Value.int .i64 (d.toList.getD (i / 2) (0, 0)).1 else Value.int .i64 (d.toList.getD (i / 2) (0, 0)).2) := by
    intro d i hi
    rw [Go.Sort.get_flatK _ _ _ _ hi]
    have hd : d[i / 2]! = d.toList.getD (i / 2) (0, 0) := by
      rw [getElem!_pos d (i / 2) (by omega), List.getD, List.getElem?_eq_getElem (by simp; omega)]
      simp
    rw [hd]
    rcases (show i % 2 = 0 ∨ i % 2 = 1 by omega) with h | h <;> rw [h] <;> rfl
  have hHolds : HoldsK encV 2 w B (0 + δ) l.toArray := by
    intro j hj
    rw [Go.Sort.size_flatK] at hj
    have hj' : j < l.length * 2 := by simpa using hj
    have hcj : c[j]? = some (if j % 2 = 0 then num (l.getD (j / 2) (0, 0)).1 else num (l.getD (j / 2) (0, 0)).2) := by
      have h1 := hat l j hj'
      rw [← hci, List.getElem?_take] at h1
      split at h1
      · exact h1
      · cases h1
    obtain ⟨x, x1, x2, _⟩ := e6 j _ hcj
    constructor
    · rw [cell_of e2, show 0 + δ + j = j + δ by omega, x1, hvat _ _ hj]
      congr 1
      by_cases hp : j % 2 = 0
      · rw [if_pos hp] at x2 ⊢; exact vr_num x2
      · rw [if_neg hp] at x2 ⊢; exact vr_num x2
    · unfold World.frozen?
      rw [e2]
      obtain ⟨f1, f2⟩ := fz
      have := e4.resolve_left hk
      simp only [Bool.and_eq_false_iff, decide_eq_false_iff_not]
      simp only at this
      have hjc : j < c.length := by omega
      omega
  have hblk : B < w.heap.size := lt_of_get e2
  have hcon := AnyQ.slices_SortFunc (P := P) (ρ := r) L 2 aE zE encV (fun _ => rfl) (fun x v hv => by simp [encV] at hv; rcases hv with rfl | rfl <;> rfl) (fun x y => Lib.compareInt x.1 y.1) swo_first g' #[] B (0 + δ) cap l.toArray w eg (fun m os dk _ x y => hcmp x y _) hHolds hblk (by simpa [hlen] using hsz)
  have hss : l.toArray.size = len := by simpa using hlen
  rw [hss] at hcon
  refine .inl ⟨es _ _, hcon.mono ?_⟩
  rintro e w' ⟨rfl, d', n, os, hperm, hsort, rfl⟩
  refine ⟨_, E, rfl, .tup .nil, ?_⟩
  have hpl : d'.toList.Perm l := by
    have h1 := hperm.2.2
    have h2 : d'.size = len := by rw [hperm.1]; simpa using hlen
    rw [Array.extract_eq_self_of_le (by omega), Array.extract_eq_self_of_le (by simp; omega)] at h1
    simpa using h1
  have hds : d'.size = len := by rw [hperm.1]; simpa using hlen
  have hdl : d'.toList = sortR l := by
    refine sortR_unique hpl hnd ?_
    rw [List.pairwise_iff_getElem]
    intro i j hi hj hij
    have := hsort i j (Nat.zero_le _) hij (by simp at hj; omega)
    rw [ltOf_first] at this
    simp only [decide_eq_false_iff_not] at this
    rw [getElem!_pos d' j (by simpa using hj), getElem!_pos d' i (by simpa using hi)] at this
    simp only [Array.getElem_toList]
    omega
  have hstep : Step ρ E s.m w E s'.m (wB w B (.cells (putCells id (0 + δ) (Go.Sort.flatK encV 2 d') cs) t fz)) := by
    refine upd_ok hH hgm hB e2 (by simp [putCells]) ?_ (fun i v hi => ?_) hwr'
    · rw [← hc', List.length_append, hfl, hslen, List.length_drop]; omega
    · rw [← hc'] at hi
      by_cases hil : i < len * 2
      · rw [List.getElem?_append_left (by rw [hfl, hslen]; exact hil), hat _ _ (by rw [hslen]; exact hil)] at hi
        cases hi
        refine ⟨(if i % 2 = 0 then Value.int .i64 ((sortR l).getD (i / 2) (0, 0)).1 else Value.int .i64 ((sortR l).getD (i / 2) (0, 0)).2), ?_, ?_, ?_⟩
        · unfold putCells
          have hb : i + δ < cs.size := by omega
          rw [Array.getElem?_mapIdx, Array.getElem?_eq_getElem hb]
          simp only [Option.map_some]
          rw [if_pos (by rw [Go.Sort.size_flatK, hds]; omega), show i + δ - (0 + δ) = i by omega, hvat _ _ (by rw [hds]; exact hil), hdl]
          rfl
        · split
          · exact .int rfl
          · exact .int rfl
        · split <;> rfl
      · rw [List.getElem?_append_right (by rw [hfl, hslen]; omega), List.getElem?_drop, hfl, hslen, show len * 2 + (i - len * 2) = i by omega] at hi
        obtain ⟨x, x1, x2, x3⟩ := e6 i v hi
        refine ⟨x, ?_, x2, x3⟩
        unfold putCells
        rw [Array.getElem?_mapIdx, x1]
        simp only [Option.map_some]
        rw [if_neg (by rw [Go.Sort.size_flatK, hds]; omega)]
  have hw : sortWorldK encV 2 w B (0 + δ) n d' os = Go.Sort.grow (Go.Sort.ahead (wB w B (.cells (putCells id (0 + δ) (Go.Sort.flatK encV 2 d') cs) t fz)) n) os := by
    unfold sortWorldK putRowK putRow mapBlock
    congr 1
    unfold Go.Sort.ahead wB
    congr 1
    apply Array.ext_getElem?
    intro j
    rw [Array.getElem?_modify, Array.getElem?_setIfInBounds]
    by_cases hj : B = j
    · subst hj
      rw [if_pos rfl, if_pos rfl, if_pos hblk, e2]; rfl
    · rw [if_neg hj, if_neg hj]
  rw [hw]
  exact (hstep.ahead n).grown os
end Go.Vm
