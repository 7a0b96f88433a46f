/- Copies, what stands in memory, numbers as bytes. -/
import Derived.Test.YthcikbgcfgmgoaaCtTab
import Derived.Deep.Slices
namespace Go.Proofs.Ythcikbgcfgmgoaa.ctr
open Go.Vm Go.RowKit
set_option linter.unusedVariables false
set_option linter.unusedSimpArgs false
theorem encB_w : ∀ x : Int, (encB x).length = 1 := fun _ => rfl
def encU (u : AV) : List AV := [u]
theorem sv_nils {sz : Nat} {lo hi mx : Option AV} : sliceV sz .nils lo hi mx = cnd (zr lo && zr hi && zr mx) (some .nils) none := rfl
theorem rep_flat (n : Nat) : rep n [byt 0] = (List.replicate n (0 : Int)).flatMap encB := by
  induction n with
  | zero => rfl
  | succ n ih => show byt 0 :: rep n [byt 0] = _; rw [ih]; rfl
/-- the kinds' first part, of a slice just grown -/
theorem cut0_ow {s : St} {v : AV} {l : List Int} {fp : List Nat} (h : OwE s v 1 encB l fp) (hl : l ≠ []) : ∃ v', sliceV 1 v none (some (num 0)) none = some v' ∧ OwE s v' 1 encB [] fp := by
  rcases h.ow with ⟨_, h0, _⟩ | ⟨b, len, lo, ex, k, J, rfl, h2, h3, h4, h5⟩
  · have := flat_len h.wid l
    rw [h0] at this
    exact absurd (List.eq_nil_of_length_eq_zero (by simp at this; omega)) hl
  · have hlen : len = l.length := h.len
    have hpos : 0 < l.length := by cases l with | nil => exact absurd rfl hl | cons => simp
    refine ⟨.sl b 0 0 lo ex 1, ?_, ⟨.inr ⟨b, 0, lo, ex, k, l.flatMap encB ++ J, rfl, Nat.zero_le _, by simp, by simpa using h4, h5⟩, h.wid, h.pos, h.lt⟩⟩
    rw [sv_s, bnd_n, bnd_s (by omega), ob_some, ob_some, sli_k (by simp) (by simp) (by omega)]
    simp
section
variable {bd : Bd} {fu : Nat}
theorem copyB (n : Nat) (s : St) (v : AV) (l : List Int) (hv : RdE s v 1 encB l) (hf : l.length < 140737488355232) :
    OutOk (callF bd tab.get fu (n + 1) 9 [v] s) (fun x s' => ∃ fp, OwE s' x 1 encB l fp ∧ Fr s s' [] ∧ Nw s [] fp) := by
  refine call_code t9 rfl ?_
  simp (disch := omega) only [vm0, vm1, vm2, vm3, vm4, vm5, vm6, vm7, vmF, vmT, evo, wr, wrC, frame, Nat.reduceAdd, Nat.reduceMul, Nat.reduceSub, beq_self_eq_true, List.cons_append, List.nil_append, beq_dec, vmI, vc9, hv.lenOf, hv.cellsOf]
  refine op_app (.nil encB_w (by omega)) (by (repeat' (first | exact Fr.refl | assumption | apply Fr.new' | apply Fr.mk' | apply Fr.put')) <;> (first | omega | (left; simp; done) | (right; simp only [next_put, next_new, next_mk]; omega) | (simp only [next_put, next_new, next_mk]; omega))) (new := l) rfl rfl (by simp; omega) ?_
  intro v' s' fp' q1 q2 q3
  simp (disch := omega) only [vm0, vm1, vm2, vm3, vm4, vm5, vm6, vm7, vmF, vmT, evo, wr, wrC, frame, Nat.reduceAdd, Nat.reduceMul, Nat.reduceSub, beq_self_eq_true, List.cons_append, List.nil_append, beq_dec, vmI]
  exact ⟨fp', by simpa using q1, q2, q3⟩
end
end Go.Proofs.Ythcikbgcfgmgoaa.ctr
namespace Go.Proofs.Ythcikbgcfgmgoaa.ctr
open Go.Vm Go.RowKit
set_option linter.unusedVariables false
set_option linter.unusedSimpArgs false
/-- what stands in memory, at a footprint -/
structure Obj where
  P : St → List Nat → Prop
  fr : ∀ {s s' : St} {fp fp' : List Nat}, P s fp → Fr s s' fp' → (∀ b ∈ fp, b ∉ fp') → P s' fp
  lt : ∀ {s : St} {fp : List Nat}, P s fp → Lt s fp
/-- things that stand in memory, apart -/
def SepF (s : St) : List Obj → List Nat → Prop
  | [], fp => fp = []
  | P :: Ps, fp => ∃ f g, P.P s f ∧ SepF s Ps g ∧ (∀ b ∈ f, b ∉ g) ∧ fp = f ++ g
theorem SepF.fr {s s' : St} {fp' : List Nat} : ∀ {Ps : List Obj} {fp : List Nat}, SepF s Ps fp → Fr s s' fp' → (∀ b ∈ fp, b ∉ fp') → SepF s' Ps fp
  | [], _, h, _, _ => h
  | P :: Ps, _, ⟨f, g, h1, h2, h3, h4⟩, hf, hd => ⟨f, g, P.fr h1 hf fun b hb => hd b (by rw [h4]; simp [hb]), SepF.fr h2 hf fun b hb => hd b (by rw [h4]; simp [hb]), h3, h4⟩
theorem SepF.lt {s : St} : ∀ {Ps : List Obj} {fp : List Nat}, SepF s Ps fp → Lt s fp
  | [], _, h => by intro b hb; rw [show _ = [] from h] at hb; simp at hb
  | P :: Ps, _, ⟨f, g, h1, h2, h3, h4⟩ => by
    intro b hb
    rw [h4] at hb
    rcases List.mem_append.1 hb with hb | hb
    · exact P.lt h1 b hb
    · exact SepF.lt h2 b hb
def Sep (s0 s : St) (Ps : List Obj) : Prop := ∃ fp, SepF s Ps fp ∧ Nw s0 [] fp ∧ Fr s0 s []
theorem Sep.nil {s : St} : Sep s s [] := ⟨[], rfl, by simp [Nw], .refl⟩
theorem Sep.frm {s0 s : St} {Ps : List Obj} (h : Sep s0 s Ps) : Fr s0 s [] := by obtain ⟨_, _, _, h⟩ := h; exact h
theorem Sep.fr {s0 s s' : St} {Ps : List Obj} (h : Sep s0 s Ps) (hf : Fr s s' []) : Sep s0 s' Ps := by
  obtain ⟨fp, h1, h2, h3⟩ := h
  exact ⟨fp, h1.fr hf (by simp), h2, h3.trans hf (fp2 := []) (by simp) (by simp)⟩
theorem Sep.push {s0 s s' : St} {P : Obj} {Ps : List Obj} {f : List Nat} (h : Sep s0 s Ps) (hp : P.P s' f) (hf : Fr s s' []) (hn : Nw s [] f) : Sep s0 s' (P :: Ps) := by
  obtain ⟨fp, h1, h2, h3⟩ := h
  refine ⟨f ++ fp, ⟨f, fp, hp, h1.fr hf (by simp), ?_, rfl⟩, ?_, h3.trans hf (fp2 := []) (by simp) (by simp)⟩
  · intro b hb hm
    have := h1.lt b hm
    have := hn b hb
    simp at this
    omega
  · intro b hb
    rcases List.mem_append.1 hb with hb | hb
    · rcases hn b hb with h | h
      · simp at h
      · exact .inr (Nat.le_trans h3.1 h)
    · exact h2 b hb
theorem Sep.drop {s0 s : St} {P : Obj} {Ps : List Obj} (h : Sep s0 s (P :: Ps)) : Sep s0 s Ps := by
  obtain ⟨fp, ⟨f, g, h1, h2, h3, rfl⟩, h4, h5⟩ := h
  exact ⟨g, h2, fun b hb => h4 b (by simp [hb]), h5⟩
theorem Sep.swap {s0 s : St} {P Q : Obj} {Ps : List Obj} (h : Sep s0 s (P :: Q :: Ps)) : Sep s0 s (Q :: P :: Ps) := by
  obtain ⟨fp, ⟨f, g, h1, ⟨f2, g2, h2, h3, h4, rfl⟩, h5, rfl⟩, h6, h7⟩ := h
  refine ⟨f2 ++ (f ++ g2), ⟨f2, f ++ g2, h2, ⟨f, g2, h1, h3, fun b hb hm => h5 b hb (by simp [hm]), rfl⟩, ?_, rfl⟩, fun b hb => h6 b (by simp only [List.mem_append] at *; rcases hb with h | h | h <;> simp [h]), h7⟩
  intro b hb hm
  rcases List.mem_append.1 hm with hm | hm
  · exact h5 b hm (by simp [hb])
  · exact h4 b hb hm
/-- the first of them, and how it is changed -/
theorem Sep.hd {s0 s : St} {P : Obj} {Ps : List Obj} (h : Sep s0 s (P :: Ps)) : ∃ f, P.P s f ∧ ∀ (P' : Obj) {s' : St} {f' : List Nat}, P'.P s' f' → Fr s s' f → Nw s f f' → Sep s0 s' (P' :: Ps) := by
  obtain ⟨fp, ⟨f, g, h1, h2, h3, rfl⟩, h4, h5⟩ := h
  refine ⟨f, h1, fun P' s' f' k1 k2 k3 => ?_⟩
  have hd : ∀ b ∈ g, b ∉ f := fun b hb hm => h3 b hm hb
  refine ⟨f' ++ g, ⟨f', g, k1, h2.fr k2 hd, ?_, rfl⟩, ?_, h5.nn k2 fun b hb => h4 b (by simp [hb])⟩
  · intro b hb hm
    rcases k3 b hb with h | h
    · exact h3 b h hm
    · have := h2.lt b hm; omega
  · intro b hb
    rcases List.mem_append.1 hb with hb | hb
    · rcases k3 b hb with h | h
      · exact h4 b (by simp [h])
      · exact .inr (Nat.le_trans h5.1 h)
    · exact h4 b (by simp [hb])
/-- the first two, the first one changed -/
theorem Sep.hd2 {s0 s : St} {P Q : Obj} {Ps : List Obj} (h : Sep s0 s (P :: Q :: Ps)) : ∃ f g, P.P s f ∧ Q.P s g ∧ (∀ b ∈ g, b ∉ f) ∧ ∀ (P' : Obj) {s' : St} {f' : List Nat}, P'.P s' f' → Fr s s' f → Nw s f f' → Sep s0 s' (P' :: Q :: Ps) := by
  obtain ⟨f, h1, up⟩ := h.hd
  obtain ⟨fp, ⟨f2, g, h2, ⟨f3, g3, h3, h4, h5, rfl⟩, h6, rfl⟩, h7, h8⟩ := h
  have h : Sep s0 s (P :: Q :: Ps) := ⟨_, ⟨f2, _, h2, ⟨f3, g3, h3, h4, h5, rfl⟩, h6, rfl⟩, h7, h8⟩
  refine ⟨f2, f3, h2, h3, fun b hb hm => h6 b hm (by simp [hb]), fun P' s' f' k1 k2 k3 => ?_⟩
  have hd : ∀ b ∈ f3 ++ g3, b ∉ f2 := fun b hb hm => h6 b hm hb
  refine ⟨f' ++ (f3 ++ g3), ⟨f', _, k1, SepF.fr (Ps := Q :: Ps) ⟨f3, g3, h3, h4, h5, rfl⟩ k2 hd, ?_, rfl⟩, ?_, h8.nn k2 fun b hb => h7 b (by simp [hb])⟩
  · intro b hb hm
    rcases k3 b hb with h | h
    · exact h6 b h hm
    · have := SepF.lt (Ps := Q :: Ps) ⟨f3, g3, h3, h4, h5, rfl⟩ b hm; omega
  · intro b hb
    rcases List.mem_append.1 hb with hb | hb
    · rcases k3 b hb with h | h
      · exact h7 b (by simp [h])
      · exact .inr (Nat.le_trans h8.1 h)
    · exact h7 b (by simp only [List.mem_append] at *; exact .inr hb)
theorem SepF.perm {s : St} {Ps Qs : List Obj} (hp : Ps.Perm Qs) : ∀ {fp : List Nat}, SepF s Ps fp → ∃ fp', SepF s Qs fp' ∧ ∀ b, b ∈ fp' ↔ b ∈ fp := by
  induction hp with
  | nil => exact fun h => ⟨_, h, fun _ => .rfl⟩
  | cons P _ ih =>
    rintro _ ⟨f, g, h1, h2, h3, rfl⟩
    obtain ⟨g', k1, k2⟩ := ih h2
    exact ⟨f ++ g', ⟨f, g', h1, k1, fun b hb hm => h3 b hb ((k2 b).1 hm), rfl⟩, fun b => by simp [k2 b]⟩
  | swap P Q l =>
    rintro _ ⟨f, g, h1, ⟨f2, g2, h2, h3, h4, rfl⟩, h5, rfl⟩
    refine ⟨f2 ++ (f ++ g2), ⟨f2, f ++ g2, h2, ⟨f, g2, h1, h3, fun b hb hm => h5 b hb (by simp [hm]), rfl⟩, ?_, rfl⟩, fun b => by simp only [List.mem_append]; constructor <;> (rintro (h | h | h) <;> simp [h])⟩
    intro b hb hm
    rcases List.mem_append.1 hm with hm | hm
    · exact h5 b hm (by simp [hb])
    · exact h4 b hb hm
  | trans _ _ ih1 ih2 =>
    intro fp h
    obtain ⟨f1, k1, k2⟩ := ih1 h
    obtain ⟨f2, k3, k4⟩ := ih2 k1
    exact ⟨f2, k3, fun b => (k4 b).trans (k2 b)⟩
theorem Sep.perm {s0 s : St} {Ps Qs : List Obj} (hp : Ps.Perm Qs) (h : Sep s0 s Ps) : Sep s0 s Qs := by
  obtain ⟨fp, h1, h2, h3⟩ := h
  obtain ⟨fp', k1, k2⟩ := h1.perm hp
  exact ⟨fp', k1, fun b hb => h2 b ((k2 b).1 hb), h3⟩
/-- the third, the fourth goes first; and back -/
theorem Sep.up2 {s0 s : St} {A B C : Obj} {Ps : List Obj} (h : Sep s0 s (A :: B :: C :: Ps)) : Sep s0 s (C :: A :: B :: Ps) := h.perm (List.perm_middle (l₁ := [A, B]) (a := C) (l₂ := Ps))
theorem Sep.dn2 {s0 s : St} {A B C : Obj} {Ps : List Obj} (h : Sep s0 s (C :: A :: B :: Ps)) : Sep s0 s (A :: B :: C :: Ps) := h.perm (List.perm_middle (l₁ := [A, B]) (a := C) (l₂ := Ps)).symm
theorem Sep.up3 {s0 s : St} {A B C D : Obj} {Ps : List Obj} (h : Sep s0 s (A :: B :: C :: D :: Ps)) : Sep s0 s (D :: A :: B :: C :: Ps) := h.perm (List.perm_middle (l₁ := [A, B, C]) (a := D) (l₂ := Ps))
theorem Sep.dn3 {s0 s : St} {A B C D : Obj} {Ps : List Obj} (h : Sep s0 s (D :: A :: B :: C :: Ps)) : Sep s0 s (A :: B :: C :: D :: Ps) := h.perm (List.perm_middle (l₁ := [A, B, C]) (a := D) (l₂ := Ps)).symm
theorem Sep.up4 {s0 s : St} {A B C D E : Obj} {Ps : List Obj} (h : Sep s0 s (A :: B :: C :: D :: E :: Ps)) : Sep s0 s (E :: A :: B :: C :: D :: Ps) := h.perm (List.perm_middle (l₁ := [A, B, C, D]) (a := E) (l₂ := Ps))
theorem Sep.dn4 {s0 s : St} {A B C D E : Obj} {Ps : List Obj} (h : Sep s0 s (E :: A :: B :: C :: D :: Ps)) : Sep s0 s (A :: B :: C :: D :: E :: Ps) := h.perm (List.perm_middle (l₁ := [A, B, C, D]) (a := E) (l₂ := Ps)).symm
/-- a block -/
def oC (b : Nat) (cs : List AV) : Obj := ⟨fun s fp => s.heap.get b = some (.cells cs .own) ∧ b < s.next ∧ fp = [b],
  fun {s s' fp fp'} ⟨h1, h2, h3⟩ hf hd => ⟨(hf.2 b h2 (hd b (by rw [h3]; simp))).trans h1, Nat.lt_of_lt_of_le h2 hf.1, h3⟩,
  fun {s fp} ⟨h1, h2, h3⟩ => by intro b' hb; rw [h3] at hb; simp at hb; subst hb; exact h2⟩
/-- a slice that is one's own -/
def oW {α : Type} (v : AV) (sz : Nat) (enc : α → List AV) (l : List α) : Obj := ⟨fun s fp => OwE s v sz enc l fp, fun h hf hd => h.fr hf hd, fun h => h.lt⟩
theorem withinP {bd : Bd} {fu : Nat} (n : Nat) (s : St) (v m : Int) (hv : -9223372036854775808 ≤ v ∧ v ≤ 9223372036854775807) (hm : 1 ≤ m) (hm2 : m ≤ 9223372036854775807) :
    OutOk (callF bd tab.get fu (n + 1) 10 [num v, num m] s) (fun x s' => Is x (num (v % m)) ∧ Is s' s) :=
  within_ok t10 n s v m hv hm hm2
end Go.Proofs.Ythcikbgcfgmgoaa.ctr
namespace Go.Proofs.Ythcikbgcfgmgoaa.ctr
open Go Go.Vm Go.RowKit Go.ChangeShapes Go.WideShapes
set_option linter.unusedVariables false
set_option linter.constructorNameAsVariable false
set_option linter.unusedSimpArgs false
/-! ## a slice among the arguments whose elements are several cells -/
theorem row_blockV {w : World} {a : Addr} {n : Nat} {V : Nat → Value} (h0 : 0 < n) (hc : ∀ i, i < n → w.cell? (a.add i) = some (V i)) :
    ∃ B δ cs t fz, a = ⟨B, δ, none⟩ ∧ w.heap[B]? = some (.cells cs t fz) ∧ δ + n ≤ cs.size ∧ ∀ i, i < n → cs[i + δ]? = some (V i) := by
  obtain ⟨B, δ, sp⟩ := a
  have hb := hc 0 h0
  unfold World.cell? at hb hc
  have e0 : (Addr.add ⟨B, δ, sp⟩ 0) = ⟨B, δ, sp⟩ := rfl
  rw [e0] at hb
  dsimp only at hb
  split at hb
  · rename_i cs t fz hw
    have hsp : sp = none := by
      cases sp with
      | none => rfl
      | some x => simp at hb
    subst hsp
    have ad : ∀ i, (Addr.add ⟨B, δ, none⟩ i).block = B ∧ (Addr.add ⟨B, δ, none⟩ i).off = δ + i ∧ (Addr.add ⟨B, δ, none⟩ i).spot = none := fun i => by rw [addr_add]; exact ⟨rfl, rfl, rfl⟩
    have hall : ∀ i, i < n → cs[i + δ]? = some (V i) := by
      intro i hi
      have h1 := hc i hi
      rw [(ad i).1, hw] at h1
      simp only [(ad i).2.1, (ad i).2.2, Option.isSome_none, Bool.false_eq_true, if_false] at h1
      rw [Nat.add_comm]; exact h1
    refine ⟨B, δ, cs, t, fz, rfl, hw, ?_, hall⟩
    have := lt_of_get (hall (n - 1) (by omega))
    omega
  · cases hb
/-- a slice of len elements of sz cells, V: its cells, up to its capacity -/
def IsRowV (w : World) (a : Option Addr) (len cap sz : Nat) (V : Nat → Value) : Prop :=
  (a = none ∧ len = 0 ∧ cap = 0) ∨ ∃ x, a = some x ∧ len ≤ cap ∧ cap ≤ maxLen ∧ ∀ i, i < cap * sz → w.cell? (x.add i) = some (V i)
theorem _root_.Go.Vm.Arg0.rows {α : Type} {E : Env} {s : St} {w : World} (h : Arg0 E s w) {a : Option Addr} {len cap sz : Nat} {V : Nat → Value} (hq : IsRowV w a len cap sz V) (hp : 0 < sz) (enc : α → List AV) (hw : ∀ x, (enc x).length = sz) (l : List α) (hl : l.length = len)
    (hc : ∀ i v, (l.flatMap enc)[i]? = some v → VR rho0 E v (V i) ∧ v.scalar = true) :
    ∃ v E' s', Arg0 E' s' w ∧ E.le E' ∧ Fr s s' [] ∧ VR rho0 E' v (.slice a len cap) ∧ RdE s' v sz enc l := by
  rcases hq with ⟨rfl, rfl, rfl⟩ | ⟨x, rfl, h2, h3, h4⟩
  · obtain rfl := List.eq_nil_of_length_eq_zero hl
    exact ⟨.nils, E, s, h, .refl E, .refl, .nils, .nil hw hp⟩
  · by_cases h0 : len = 0
    · subst h0
      obtain rfl := List.eq_nil_of_length_eq_zero hl
      exact ⟨.emp, E, s, h, .refl E, .refl, .emp, .emp hw hp⟩
    · have hpos : 0 < cap * sz := Nat.mul_pos (by omega) hp
      obtain ⟨B, δ, cs, t, fz, rfl, g1, g2, g3⟩ := row_blockV hpos h4
      have hlt : (l.flatMap enc).length = len * sz := by rw [flat_len hw, hl]
      have hle : len * sz ≤ cap * sz := Nat.mul_le_mul_right sz h2
      obtain ⟨k1, k2⟩ := h.add (δ := δ) (c := l.flatMap enc) g1 rfl (by rw [hlt]; omega) (fun i v hi => by
        obtain ⟨q1, q2⟩ := hc i v hi
        have := (List.getElem?_eq_some_iff.1 hi).1
        exact ⟨_, g3 i (by omega), q1, q2⟩)
      have hv := VR.sl (ρ := rho0) (E := envN E s.next (B, δ, cs.size)) (b := s.next) (off := 0) (len := len) (lo := len) (ex := false) (sz := sz) (cap := cap) (if_pos rfl) (Nat.le_refl _) h2 (by simp) (by omega)
      rw [Nat.zero_add] at hv
      refine ⟨.sl s.next 0 len len false sz, _, _, k1, k2, .new, hv, ⟨⟨⟨rfl, Nat.le_refl _⟩, ?_, ?_⟩, hw, hp, by show s.next < _; rw [next_new]; omega⟩⟩
      · rw [hlt]; rfl
      · show ob ((s.new _).heap.get s.next) (rdC 0 (len * sz)) = _
        rw [get_new_eq rfl]
        show sub _ 0 (len * sz) = _
        rw [sub_of (by rw [hlt]; omega)]
        congr 1
        rw [List.drop_zero, List.take_of_length_le (by rw [hlt]; omega)]
/-! ## slices of records: kinds of cells -/
inductive Fk | i | b | S
def FkOk (w : World) : Fk → Value → Prop
  | .i, v => ∃ z, v = .int .i64 z ∧ (Lit.int .i64 z).wf = true
  | .b, v => ∃ x, v = .bool x
  | .S, v => ∃ a len cap zs, v = .slice a len cap ∧ IsRow8 w a len cap zs
def fkTy (P : Program) : Fk → TypeId → Bool
  | .i, t => match P.underlying t with | some (.int .i64) => true | _ => false
  | .b, t => match P.underlying t with | some .bool => true | _ => false
  | .S, t => match P.underlying t with | some (.slice e) => (match P.underlying e with | some (.int .u8) => P.cellsOf e == 1 | _ => false) | _ => false
def fkB (P : Program) (e : TypeId) (ks : List Fk) : Bool := match P.underlying e with
  | some (.struct fs) => P.cellsOf e == ks.length && fs.size == ks.length && (List.range ks.length).all fun j => match fs[j]?, ks[j]? with
    | some f, some k => f.offset == j && P.cellsOf f.type == 1 && fkTy P k f.type
    | _, _ => false
  | _ => ks.length == 1 && P.cellsOf e == 1 && fkTy P (ks.getD 0 .i) e
section
variable {H : Type} {enc : TypeId × Value → H} {P : Program} {w : World} {base : Nat} {held : Bool}
theorem fk_open {k : Fk} {t : TypeId} {fuel : Nat} {v : Value} {x : DataW H × List MemPlace} (ht : fkTy P k t = true) (h : DataW.trod enc P w base (fun _ => true) held fuel t [v] = some x) : FkOk w k v := by
  cases k with
  | i =>
    unfold fkTy at ht; dsimp only at ht; split at ht
    · rename_i hu
      obtain ⟨n, h1, _, h2⟩ := DataW.trod_int hu h
      cases h1; exact ⟨n, rfl, h2⟩
    · cases ht
  | b =>
    unfold fkTy at ht; dsimp only at ht; split at ht
    · rename_i hu
      obtain ⟨n, h1, _⟩ := DataW.trod_bool hu h
      cases h1; exact ⟨n, rfl⟩
    · cases ht
  | S =>
    unfold fkTy at ht; dsimp only at ht; split at ht
    · rename_i e hu
      split at ht
      · rename_i hu2
        rcases open_ints hu hu2 (by simpa using ht) h with ⟨hcs, _⟩ | ⟨x, l, c, zs, hcs, _, hl, hm, hz, _, hcell, hwz⟩
        · cases hcs
          exact ⟨_, _, _, [], rfl, .inl ⟨rfl, rfl, rfl, rfl⟩⟩
        · cases hcs
          exact ⟨_, _, _, zs, rfl, .inr ⟨_, rfl, hl, hm, by simpa using hz, hcell, hwz⟩⟩
      · cases ht
    · cases ht
theorem open_rowV {t e : TypeId} {ks : List Fk} {fuel : Nat} {a : Option Addr} {len cap : Nat} {x : DataW H × List MemPlace} (ht : P.underlying t = some (.slice e)) (hk : fkB P e ks = true) (hp : 0 < ks.length)
    (h : DataW.trod enc P w base (fun _ => true) held fuel t [.slice a len cap] = some x) :
    ∃ V, IsRowV w a len cap ks.length V ∧ ∀ i, i < cap * ks.length → FkOk w (ks.getD (i % ks.length) .i) (V i) := by
  have ce : P.cellsOf e = ks.length := by
    unfold fkB at hk
    split at hk
    · simp only [Bool.and_eq_true, beq_iff_eq] at hk; exact hk.1.1
    · simp only [Bool.and_eq_true, beq_iff_eq] at hk; rw [hk.1.1]; exact hk.1.2
  rcases Go.Deep.open_slice ht h with ⟨h0, _⟩ | ⟨b, l, c, m, n, D, Pl, h0, hb, hl, hm, hmm, rfl, hx⟩
  · cases h0
    exact ⟨fun _ => .int .i64 0, .inl ⟨rfl, rfl, rfl⟩, fun i hi => by simp at hi⟩
  · cases h0
    obtain rfl : m = cap := by simpa using hmm
    rw [ce] at hx
    have key : ∀ q, q < m * ks.length → ∃ v, w.cell? (b.add q) = some v ∧ FkOk w (ks.getD (q % ks.length) .i) v := by
      intro q hq
      have hj : q % ks.length < ks.length := Nat.mod_lt _ hp
      have hi : q / ks.length < m := by rw [Nat.div_lt_iff_lt_mul hp]; exact hq
      have hqe : q / ks.length * ks.length + q % ks.length = q := by rw [Nat.mul_comm]; exact Nat.div_add_mod q ks.length
      obtain ⟨cs', h1, h2⟩ := hx _ hi
      obtain ⟨_, hlen, hcell⟩ := World.cells?_some h1
      have e1 := hcell (q % ks.length) (by omega)
      rw [Go.Deep.add_add, hqe] at e1
      obtain ⟨v, hv⟩ : ∃ v, cs'[q % ks.length]? = some v := ⟨cs'[q % ks.length]'(by omega), List.getElem?_eq_getElem (by omega)⟩
      refine ⟨v, by rw [e1, hv], ?_⟩
      unfold fkB at hk
      split at hk
      · rename_i fs hu
        simp only [Bool.and_eq_true, beq_iff_eq, List.all_eq_true, List.mem_range] at hk
        obtain ⟨⟨_, hsz⟩, hall⟩ := hk
        obtain ⟨xs, k, _, _, _, hxl, hf⟩ := DataW.trod_struct hu h2
        have hj2 := hall _ hj
        split at hj2
        · rename_i f k' hfj hkj
          simp only [Bool.and_eq_true, beq_iff_eq] at hj2
          obtain ⟨⟨o1, c1⟩, ty⟩ := hj2
          have g := hf _ f hfj
          rw [o1, c1] at g
          have hd : (cs'.drop (q % ks.length)).take 1 = [v] := by
            rw [List.take_one, List.head?_drop, hv]; rfl
          rw [hd] at g
          have hlt : q % ks.length < xs.length := by rw [hxl, hsz]; exact hj
          rw [List.getElem?_eq_getElem hlt] at g
          have := fk_open ty g
          rw [List.getD, hkj]; exact this
        · cases hj2
      · rename_i hu
        simp only [Bool.and_eq_true, beq_iff_eq] at hk
        have hl1 : cs'.length = 1 := by rw [hlen]; exact hk.1.1
        have h0 : q % ks.length = 0 := by rw [hk.1.1]; exact Nat.mod_one q
        rw [h0] at hv ⊢
        match cs', hl1, hv, h2 with
        | [y], _, hv, h2 => cases hv; exact fk_open hk.2 h2
    obtain ⟨V, hV⟩ : ∃ V : Nat → Value, ∀ q, q < m * ks.length → w.cell? (b.add q) = some (V q) ∧ FkOk w (ks.getD (q % ks.length) .i) (V q) := by
      haveI : Inhabited Value := ⟨.bool false⟩
      exact Go.Deep.choose_lt key
    exact ⟨V, .inr ⟨_, rfl, hl, hm, fun i hi => (hV i hi).1⟩, fun i hi => (hV i hi).2⟩
end
/-! ## .. in the walk -/
inductive Cl | i (z : Int) | b (x : Bool) | S (u : AV) (l : List Int)
noncomputable def Cl.av : Cl → AV | .i z => num z | .b x => .bool x | .S u _ => u
def Cl.z : Cl → Int | .i z => z | _ => 0
def Cl.x : Cl → Bool | .b x => x | _ => false
def Cl.u : Cl → AV | .S u _ => u | _ => .nils
def Cl.l : Cl → List Int | .S _ l => l | _ => []
/-- a cell of a kind -/
def ClOk (s : St) : Cl → Fk → Prop
  | .i z, .i => In64 z
  | .b _, .b => True
  | .S u l, .S => RdE s u 1 encB l ∧ ∀ x ∈ l, In8 x
  | _, _ => False
theorem ClOk.fr0 {s s' : St} {c : Cl} {k : Fk} (h : ClOk s c k) (f : Fr s s' []) : ClOk s' c k := by
  cases c <;> cases k <;> first | exact h | exact ⟨h.1.fr0 f, h.2⟩ | cases h
theorem _root_.Go.Vm.Arg0.cells {w : World} {V : Nat → Value} {K : Nat → Fk} : ∀ (n : Nat) {E : Env} {s : St}, Arg0 E s w → (∀ i, i < n → FkOk w (K i) (V i)) →
    ∃ (cl : Nat → Cl) (E' : Env) (s' : St), Arg0 E' s' w ∧ E.le E' ∧ Fr s s' [] ∧ ∀ i, i < n → ClOk s' (cl i) (K i) ∧ VR rho0 E' (cl i).av (V i) ∧ (cl i).av.scalar = true
  | 0, E, s, h, _ => ⟨fun _ => .i 0, E, s, h, .refl E, .refl, fun i hi => by omega⟩
  | n + 1, E, s, h, hV => by
    obtain ⟨cl, E1, s1, h1, e1, f1, c1⟩ := Go.Vm.Arg0.cells n h (fun i hi => hV i (by omega))
    have hn := hV n (by omega)
    have put : ∀ (c : Cl) (E' : Env) (s' : St), Arg0 E' s' w → E1.le E' → Fr s1 s' [] → ClOk s' c (K n) → VR rho0 E' c.av (V n) → c.av.scalar = true →
        ∃ (cl : Nat → Cl) (E' : Env) (s' : St), Arg0 E' s' w ∧ E.le E' ∧ Fr s s' [] ∧ ∀ i, i < n + 1 → ClOk s' (cl i) (K i) ∧ VR rho0 E' (cl i).av (V i) ∧ (cl i).av.scalar = true := by
      intro c E' s' a e f k v sc
      refine ⟨fun i => if i = n then c else cl i, E', s', a, e1.trans e, f1.trans f (fp2 := []) (by simp) (by simp), fun i hi => ?_⟩
      dsimp only
      by_cases h : i = n
      · subst h; rw [if_pos rfl]; exact ⟨k, v, sc⟩
      · rw [if_neg h]
        obtain ⟨q1, q2, q3⟩ := c1 i (by omega)
        exact ⟨q1.fr0 f, q2.mono e, q3⟩
    cases hk : K n with
    | i =>
      rw [hk] at hn put
      obtain ⟨z, hz, wz⟩ := hn
      exact put (.i z) E1 s1 h1 (.refl _) .refl (wf64 wz) (by rw [hz]; exact vr_int) rfl
    | b =>
      rw [hk] at hn put
      obtain ⟨z, hz⟩ := hn
      exact put (.b z) E1 s1 h1 (.refl _) .refl trivial (by rw [hz]; exact .bool _) rfl
    | S =>
      rw [hk] at hn put
      obtain ⟨a, len, cap, zs, hv, hq⟩ := hn
      obtain ⟨u, E2, s2, g, l, f, r, d, i8⟩ := h1.bytes hq
      refine put (.S u (zs.take len)) E2 s2 g l f ⟨d, i8⟩ (by rw [hv]; exact r) ?_
      have := d.rd.sl
      show u.scalar = true
      cases u <;> first | rfl | exact this.elim
/-- a slice of records among the arguments -/
theorem _root_.Go.Vm.Arg0.recs {α : Type} {E : Env} {s : St} {w : World} (h : Arg0 E s w) {a : Option Addr} {len cap : Nat} {ks : List Fk} {V : Nat → Value} (hq : IsRowV w a len cap ks.length V)
    (hV : ∀ i, i < cap * ks.length → FkOk w (ks.getD (i % ks.length) .i) (V i)) (hp : 0 < ks.length) (enc : α → List AV) (dec : (Nat → Cl) → α) (hw : ∀ x, (enc x).length = ks.length)
    (hd : ∀ (s : St) (f : Nat → Cl), (∀ j, j < ks.length → ClOk s (f j) (ks.getD j .i)) → ∀ j, j < ks.length → (enc (dec f))[j]? = some (f j).av) :
    ∃ v E' s' l, Arg0 E' s' w ∧ E.le E' ∧ Fr s s' [] ∧ VR rho0 E' v (.slice a len cap) ∧ RdE s' v ks.length enc l ∧ l.length = len ∧ ∀ x ∈ l, ∃ f, x = dec f ∧ ∀ j, j < ks.length → ClOk s' (f j) (ks.getD j .i) := by
  have hlc : len ≤ cap := by rcases hq with ⟨_, rfl, rfl⟩ | ⟨_, _, h, _⟩; exact Nat.le_refl _; exact h
  have hle : len * ks.length ≤ cap * ks.length := Nat.mul_le_mul_right _ hlc
  obtain ⟨cl, E1, s1, h1, e1, f1, c1⟩ := Go.Vm.Arg0.cells (V := V) (K := fun i => ks.getD (i % ks.length) .i) (len * ks.length) h (fun i hi => hV i (by omega))
  have hF : ∀ k, k < len → ∀ j, j < ks.length → k * ks.length + j < len * ks.length := by
    intro k hk j hj
    have : (k + 1) * ks.length ≤ len * ks.length := Nat.mul_le_mul_right _ hk
    rw [Nat.add_mul, Nat.one_mul] at this; omega
  have hmod : ∀ k j, j < ks.length → (k * ks.length + j) % ks.length = j := by
    intro k j hj; rw [Nat.mul_comm, Nat.mul_add_mod, Nat.mod_eq_of_lt hj]
  have hK : ∀ k, k < len → ∀ j, j < ks.length → ClOk s1 (cl (k * ks.length + j)) (ks.getD j .i) := by
    intro k hk j hj
    have := (c1 _ (hF k hk j hj)).1
    rwa [hmod k j hj] at this
  have hlen : ((List.range len).map fun k => dec fun j => cl (k * ks.length + j)).length = len := by simp
  obtain ⟨v, E2, s2, h2, e2, f2, r2, d2⟩ := h1.rows hq hp enc hw ((List.range len).map fun k => dec fun j => cl (k * ks.length + j)) hlen (by
    intro i v hi
    have hil := (List.getElem?_eq_some_iff.1 hi).1
    rw [flat_len hw, hlen] at hil
    have hj : i % ks.length < ks.length := Nat.mod_lt _ hp
    have hk : i / ks.length < len := by rw [Nat.div_lt_iff_lt_mul hp]; exact hil
    have hie : i / ks.length * ks.length + i % ks.length = i := by rw [Nat.mul_comm]; exact Nat.div_add_mod i ks.length
    have hg : ((List.range len).map fun k => dec fun j => cl (k * ks.length + j))[i / ks.length]? = some (dec fun j => cl (i / ks.length * ks.length + j)) := by
      rw [List.getElem?_map, List.getElem?_range hk]; rfl
    have ha := flat_at hw hg
    have hv : (enc (dec fun j => cl (i / ks.length * ks.length + j)))[i % ks.length]? = some v := by
      rw [← ha, List.getElem?_take, if_pos hj, List.getElem?_drop, hie]; exact hi
    rw [hd s1 _ (fun j hj => hK _ hk j hj) _ hj, hie] at hv
    cases hv
    obtain ⟨_, q2, q3⟩ := c1 i (by omega)
    exact ⟨q2, q3⟩)
  refine ⟨v, E2, s2, _, h2, e1.trans e2, f1.trans f2 (fp2 := []) (by simp) (by simp), r2, d2, hlen, fun x hx => ?_⟩
  obtain ⟨k, hk, rfl⟩ := List.mem_map.1 hx
  exact ⟨_, rfl, fun j hj => (hK k (List.mem_range.1 hk) j hj).fr0 f2⟩
end Go.Proofs.Ythcikbgcfgmgoaa.ctr
namespace Go.Proofs.Ythcikbgcfgmgoaa.ctr
open Go.Vm Go.RowKit
set_option linter.unusedVariables false
set_option linter.unusedSimpArgs false
set_option linter.constructorNameAsVariable false
theorem ClOk.i {s : St} {c : Cl} (h : ClOk s c .i) : c.av = num c.z ∧ In64 c.z := by
  cases c <;> first | exact ⟨rfl, h⟩ | cases h
theorem ClOk.b {s : St} {c : Cl} (h : ClOk s c .b) : c.av = .bool c.x := by
  cases c <;> first | rfl | cases h
theorem ClOk.S {s : St} {c : Cl} (h : ClOk s c .S) : c.av = c.u ∧ RdE s c.u 1 encB c.l ∧ ∀ x ∈ c.l, In8 x := by
  cases c <;> first | exact ⟨rfl, h⟩ | cases h
theorem _root_.Go.Vm.RdE.fld {α : Type} {s : St} {v : AV} {sz : Nat} {enc : α → List AV} {l : List α} (h : RdE s v sz enc l) {i : Nat} {x : α} (hx : l[i]? = some x) {k : Nat} {c : AV} (hk : (enc x)[k]? = some c) :
    ob (s.heap.get (sblk v)) (rd1C (soff v + i * sz + k)) = some c := by
  obtain ⟨c', k', q1, q2⟩ := rd_sub (s := s) (b := sblk v) (o := soff v + i * sz) (n := sz) (h.at hx)
  obtain ⟨q3, q4⟩ := sub_some q2
  have hlt := (List.getElem?_eq_some_iff.1 hk).1
  rw [h.wid] at hlt
  rw [q1]
  show nth c' (soff v + i * sz + k) = _
  rw [nth_eq]
  have : ((c'.drop (soff v + i * sz)).take sz)[k]? = some c := by rw [← q4]; exact hk
  rw [List.getElem?_take, if_pos hlt, List.getElem?_drop] at this
  exact this
theorem _root_.Go.Vm.RdE.fld0 {α : Type} {s : St} {v : AV} {sz : Nat} {enc : α → List AV} {l : List α} (h : RdE s v sz enc l) {i : Nat} {x : α} (hx : l[i]? = some x) {c : AV} (hk : (enc x)[0]? = some c) :
    ob (s.heap.get (sblk v)) (rd1C (soff v + i * sz)) = some c := h.fld hx (k := 0) hk
theorem drop_of {α : Type} {l : List α} {i : Nat} {x : α} (h : l[i]? = some x) : l.drop i = x :: l.drop (i + 1) := by
  obtain ⟨h1, h2⟩ := List.getElem?_eq_some_iff.1 h
  rw [List.drop_eq_getElem_cons h1, h2]
theorem Sep.cell {s0 s : St} {Ps : List Obj} (h : Sep s0 s Ps) (c0 c : List AV) : Sep s0 ((s.new (.cells c0 .own)).put s.next (some (.cells c .own))) (oC s.next c :: Ps) :=
  h.push (P := oC s.next c) ⟨get_put_eq rfl, by rw [next_put, next_new]; omega, rfl⟩ (by (repeat' (first | exact Fr.refl | assumption | apply Fr.new' | apply Fr.mk' | apply Fr.put')) <;> (first | omega | (left; simp; done) | (right; simp only [next_put, next_new, next_mk]; omega) | (simp only [next_put, next_new, next_mk]; omega))) (Nw.one (Nat.le_refl _))
theorem Sep.getC {s0 s : St} {b : Nat} {c : List AV} {Ps : List Obj} (h : Sep s0 s (oC b c :: Ps)) : s.heap.get b = some (.cells c .own) := by
  obtain ⟨f, k, up⟩ := h.hd; exact k.1
theorem Sep.re {s0 s : St} {Ps Qs : List Obj} (h : Sep s0 s Ps) (hp : Ps.Perm Qs) : Sep s0 s Qs := h.perm hp
theorem Sep.rdW {α : Type} {s0 s : St} {v : AV} {sz : Nat} {enc : α → List AV} {l : List α} {Ps : List Obj} (h : Sep s0 s (oW v sz enc l :: Ps)) : RdE s v sz enc l := by
  obtain ⟨f, k, up⟩ := h.hd; exact k.rd
theorem sep_test {s0 s : St} {A B C D E F G : Obj} {Ps : List Obj} (h : Sep s0 s (A :: B :: C :: D :: E :: F :: G :: Ps)) : Sep s0 s (E :: B :: F :: A :: G :: Ps) := ((h.re ((List.perm_middle (l₁ := [_, _])).trans (.cons _ ((List.perm_middle (l₁ := [_, _])).trans (.cons _ ((List.perm_middle (l₁ := [_, _])).trans (.cons _ ((List.perm_middle (l₁ := [_])).trans (.cons _ ((List.perm_middle (l₁ := [_])).trans (.cons _ (.refl _)))))))))))).drop.drop)
theorem sv_bool (b : Bool) : sameV (.bool b) (.bool b) = true := by cases b <;> rfl
end Go.Proofs.Ythcikbgcfgmgoaa.ctr
namespace Go.Proofs.Ythcikbgcfgmgoaa.ctr
open Go.Vm Go.RowKit
set_option linter.unusedVariables false
set_option linter.constructorNameAsVariable false
set_option linter.unusedSimpArgs false
/-! steps of a region that are not wanted -/
section
variable {k : Nat} {s : St} {ss : List St} {fs : List Fs} {ps : List Pend} {Q : Option AV → Nat → St → List St → List Fs → List Pend → Prop}
theorem du_mv (x : Od) : DOk (drwU (.mv x) k s ss fs ps) Q = Q (some (.tup [])) k s ss fs ps := rfl
theorem du_nilc (x : Od) : DOk (drwU (.nilc x) k s ss fs ps) Q = Q (some (.tup [])) k s ss fs ps := rfl
theorem du_fa (n : Nat) (x : Od) : DOk (drwU (.fa n x) k s ss fs ps) Q = Q (some (.tup [])) k s ss fs ps := rfl
theorem du_ld (x : Od) : DOk (drwU (.ld x) k s ss fs ps) Q = Q (some (.tup [])) k s ss fs ps := rfl
theorem du_bin (op : BinOp) (x y : Od) : DOk (drwU (.bin op x y) k s ss fs ps) Q = Q (some (.tup [])) k s ss fs ps := rfl
theorem du_un (op : UnOp) (x : Od) : DOk (drwU (.un op x) k s ss fs ps) Q = Q (some (.tup [])) k s ss fs ps := rfl
theorem du_eq (g : Bool) (e : EK) (x y : Od) : DOk (drwU (.eq g e x y) k s ss fs ps) Q = Q (some (.tup [])) k s ss fs ps := rfl
theorem du_len (x : Od) : DOk (drwU (.len x) k s ss fs ps) Q = Q (some (.tup [])) k s ss fs ps := rfl
theorem du_pick (a b e : Od) : DOk (drwU (.pick a b e) k s ss fs ps) Q = Q (some (.tup [])) k s ss fs ps := rfl
theorem du_ia (n : Nat) (x i : Od) : DOk (drwU (.ia n x i) k s ss fs ps) Q = Q (some (.tup [])) k s ss fs ps := rfl
theorem du_call (f : Od) (args : List Od) : DOk (drwU (.call f args) k s ss fs ps) Q = Q (some (.tup [])) (k + 1) (addM (k + 1) fs s) (s :: ss) fs ps := rfl
end
set_option linter.defProp false in
def vmU := And.intro @du_mv <| And.intro @du_nilc <| And.intro @du_fa <| And.intro @du_ld <| And.intro @du_bin <| And.intro @du_un <| And.intro @du_eq <| And.intro @du_len <| And.intro @du_pick <| And.intro @du_ia <| @du_call
/-! ## bytes that are lent -/
theorem mks_l {L F : LF} {id : Nat} {bd : Bd} {x y : Od} {l c : Int} (h1 : ev L F x = some (num l)) (h2 : ev L F y = some (num c)) (h0 : 0 ≤ l) (h3 : l ≤ c) (h4 : c ≤ 281474976710656) :
    fMks L F id bd [byt 0] 1 1 x y = some (.sl id 0 l.toNat c.toNat true 1, .cells (rep c.toNat [byt 0]) .own) := by
  unfold fMks
  rw [h1, h2]
  show fMksC id [byt 0] 1 1 (num l) (num c) = _
  unfold fMksC
  rw [onN h0, onN (show 0 ≤ c by omega)]
  rw [ble_dec, dec_t (by omega), ble_dec, dec_t (by omega), ble_dec, dec_t (by omega)]
  rfl
theorem cpy_l {L F : LF} {s : St} {x y : Od} {b len lo : Nat} {v : AV} {l : List Int} {C : List AV} (h1 : ev L F x = some (.sl b 0 len lo true 1)) (h2 : ev L F y = some v) (hv : RdE s v 1 encB l) (hl : l.length = len) (hc : s.heap.get b = some (.cells C .own)) (hC : len ≤ C.length) :
    ∃ s', fCpy L F s 1 x y = .v (num (len : Int)) s' ∧ s'.next = s.next ∧ s'.heap.get b = some (.cells (l.flatMap encB ++ C.drop len) .own) ∧ Fr s s' [b] := by
  subst hl
  have hfl : (l.flatMap encB).length = l.length := by rw [flat_len encB_w]; omega
  obtain ⟨s', w1, w2, w3, w4⟩ := wr_in (i := 0) hc (.inl ⟨rfl, rfl⟩) (ys := l.flatMap encB) (by omega)
  refine ⟨s', ?_, w2, by rw [w3, List.take_zero, List.nil_append, hfl, Nat.zero_add], w4⟩
  unfold fCpy
  rw [h1, h2]
  show oN (lenOf v) (fun m => oL (cellsOf s 1 (Nat.min m l.length) v) (fun vs => Vm.oS (wr s b 0 vs) (fun s' => .v (.int .i64 (.c (Int.ofNat (Nat.min m l.length)))) s') 27) 29) 30 = _
  rw [hv.lenOf]
  show oL (cellsOf s 1 (Nat.min l.length l.length) v) (fun vs => Vm.oS (wr s b 0 vs) (fun s' => .v (.int .i64 (.c (Int.ofNat (Nat.min l.length l.length)))) s') 27) 29 = _
  rw [show Nat.min l.length l.length = l.length from Nat.min_self _, hv.cellsOf]
  show Vm.oS (wr s b 0 (l.flatMap encB)) (fun s' => .v (.int .i64 (.c (Int.ofNat l.length))) s') 27 = _
  rw [w1]; rfl
theorem sv_x {b n : Nat} : sliceV 1 (.sl b 0 n (n + 3) true 1) none (some (num ((n : Int) + 3))) none = some (.sl b 0 (n + 3) (n + 3) true 1) := by
  have h1 : bnd n (some (num ((n : Int) + 3))) = some (n + 3) := by rw [bnd_s (by omega)]; congr 1
  rw [sv_s, h1]
  show sliL b 0 true (n + 3) 0 (n + 3) 1 = _
  rw [sli_k (by omega) (by omega) (by omega)]; rfl
theorem flat_byt (l : List Int) : l.flatMap encB = l.map byt := by
  induction l with
  | nil => rfl
  | cons x l ih => rw [List.flatMap_cons, ih]; rfl
/-- lent bytes -/
def lentC (l : List Int) : List AV := (l ++ [85, 85, 85]).flatMap encB
section
variable {bd : Bd} {fu : Nat}
theorem OwE.vout {α : Type} {s : St} {v : AV} {sz : Nat} {enc : α → List AV} {l : List α} {fp f : List Nat} (h : OwE s v sz enc l fp) (hd : ∀ b ∈ fp, b ∉ f) : vout f v := by
  rcases h.ow with ⟨rfl, _, _⟩ | ⟨b, len, lo, ex, k, J, rfl, _, _, _, h5⟩
  · trivial
  · exact hd b (by rcases h5 with ⟨_, rfl⟩ | ⟨m, _, _, rfl⟩ <;> simp)
theorem lent_rd {s : St} {b : Nat} {l : List Int} (hg : s.heap.get b = some (.cells (lentC l) .own)) (hb : b < s.next) : RdE s (.sl b 0 l.length (l.length + 3) true 1) 1 encB l := by
  refine ⟨⟨⟨rfl, by omega⟩, by rw [flat_len encB_w]; simp [slen], ?_⟩, encB_w, by omega, hb⟩
  show ob (s.heap.get b) (rdC 0 (l.length * 1)) = _
  rw [hg]
  show sub (lentC l) 0 (l.length * 1) = _
  have : (lentC l).length = l.length + 3 := by unfold lentC; rw [flat_len encB_w]; simp
  rw [sub_of (by rw [this]; omega), List.drop_zero, lentC, List.flatMap_append, List.take_left' (by rw [flat_len encB_w])]
theorem sameB (n : Nat) (s : St) (v w : AV) (l m : List Int) (hv : RdE s v 1 encB l) (hw : RdE s w 1 encB m) (hlen : l.length < fu) (hf : l.length < 4611686018427387904) :
    OutOk (callF bd tab.get fu (n + 1) 12 [v, w] s) (fun x s' => Is x (.bool (decide (l = m))) ∧ Is s' s) := by
  refine call_code t12 rfl ?_
  by_cases hl : l.length = m.length
  · simp (disch := omega) only [vm0, vm1, vm2, vm3, vm4, vm5, vm6, vm7, vmF, vmT, evo, wr, wrC, frame, Nat.reduceAdd, Nat.reduceMul, Nat.reduceSub, beq_self_eq_true, List.cons_append, List.nil_append, beq_dec, vc12, hv.lenV, hw.lenV]
    refine x_loop (fun k F s' => ∃ i : Nat, ∃ z x4 x5, k = l.length - i ∧ i ≤ l.length ∧ z = (i : Int) ∧ F = [some v, some w, some (num z), some (.bool false), x4, x5, some (.bool false)] ∧ s' = s ∧ l.take i = m.take i) l.length (by omega) ?_ ?_
    · exact ⟨0, _, _, _, by omega, by omega, rfl, rfl, rfl, by simp⟩
    · rintro k F s1 ⟨i, _, x4, x5, rfl, hi, rfl, rfl, rfl, ht⟩ hm
      by_cases hlt : i < l.length
      · obtain ⟨x, hx⟩ : ∃ x, l[i]? = some x := ⟨_, List.getElem?_eq_getElem hlt⟩
        obtain ⟨y, hy⟩ : ∃ y, m[i]? = some y := ⟨_, List.getElem?_eq_getElem (by omega)⟩
        have e1 := hv.ia hx
        have e2 := hv.at1 (f := byt) hx
        have e3 := hw.ia hy
        have e4 := hw.at1 (f := byt) hy
        have ht' : l.take (i + 1) = l.take i ++ [x] := by rw [List.take_add_one, hx]; rfl
        have ht2 : m.take (i + 1) = m.take i ++ [y] := by rw [List.take_add_one, hy]; rfl
        by_cases hxy : x = y
        · subst hxy
          simp (disch := omega) only [vm0, vm1, vm2, vm3, vm4, vm5, vm6, vm7, vmF, vmT, evo, wr, wrC, frame, Nat.reduceAdd, Nat.reduceMul, Nat.reduceSub, beq_self_eq_true, List.cons_append, List.nil_append, beq_dec, hv.lenV, e1, e2, e3, e4, decide_true, decide_true, wr64]
          exact ⟨l.length - (i + 1), by omega, i + 1, _, _, _, rfl, by omega, by omega, rfl, rfl, by rw [ht', ht2, ht]⟩
        · simp (disch := omega) only [vm0, vm1, vm2, vm3, vm4, vm5, vm6, vm7, vmF, vmT, evo, wr, wrC, frame, Nat.reduceAdd, Nat.reduceMul, Nat.reduceSub, beq_self_eq_true, List.cons_append, List.nil_append, beq_dec, hv.lenV, e1, e2, e3, e4, decide_true, decide_true, decide_eq_false hxy, Bool.not_false, wr64]
          refine ⟨?_, rfl⟩
          rw [decide_eq_false]; rfl
          rintro rfl
          rw [hx] at hy; cases hy; exact hxy rfl
      · simp (disch := omega) only [vm0, vm1, vm2, vm3, vm4, vm5, vm6, vm7, vmF, vmT, evo, wr, wrC, frame, Nat.reduceAdd, Nat.reduceMul, Nat.reduceSub, beq_self_eq_true, List.cons_append, List.nil_append, beq_dec, hv.lenV]
        refine ⟨?_, rfl⟩
        rw [decide_eq_true]; rfl
        rw [List.take_of_length_le (by omega), List.take_of_length_le (by omega)] at ht
        exact ht
  · simp (disch := omega) only [vm0, vm1, vm2, vm3, vm4, vm5, vm6, vm7, vmF, vmT, evo, wr, wrC, frame, Nat.reduceAdd, Nat.reduceMul, Nat.reduceSub, beq_self_eq_true, List.cons_append, List.nil_append, beq_dec, vc12, hv.lenV, hw.lenV]
    refine ⟨?_, rfl⟩
    rw [decide_eq_false]; rfl
    rintro rfl; exact hl rfl
end
end Go.Proofs.Ythcikbgcfgmgoaa.ctr
namespace Go.Proofs.Ythcikbgcfgmgoaa.ctr
open Go Go.Vm Go.RowKit
set_option linter.unusedVariables false
set_option linter.constructorNameAsVariable false
set_option linter.unusedSimpArgs false
/-! ## steps with digits -/
theorem b_shr {bd : Bd} {k k' : IntKind} {a b : Int} (h : 0 ≤ b) : binop bd .shr (.int k (.c a)) (.int k' (.c b)) = some (.int k (.c (a.fdiv (2 ^ (min b.toNat k.bits))))) := by
  have e : arith .shr k (.c a) (.c b) = some (.c (a.fdiv (2 ^ (min b.toNat k.bits)))) := by
    show ob (cnd (decide (b < 0)) none (some (a.fdiv (2 ^ (min b.toNat k.bits))))) (fun n => some (AI.c n)) = _
    rw [dec_f (by omega)]; rfl
  show cnd (Nat.beq (ik k) (ik k')) (ob (orA (arith .shr k (.c a) (.c b)) _) fun n => some (AV.int k n)) (ob (orA (arith .shr k (.c a) (.c b)) _) fun n => some (AV.int k n)) = _
  rw [e]; cases Nat.beq (ik k) (ik k') <;> rfl
theorem b_shl {bd : Bd} {k k' : IntKind} {a b : Int} (h : 0 ≤ b) : binop bd .shl (.int k (.c a)) (.int k' (.c b)) = some (.int k (.c (k.wrap (a * 2 ^ (min b.toNat k.bits))))) := by
  have e : arith .shl k (.c a) (.c b) = some (.c (k.wrap (a * 2 ^ (min b.toNat k.bits)))) := by
    show ob (cnd (decide (b < 0)) none (some (k.wrap (a * 2 ^ (min b.toNat k.bits))))) (fun n => some (AI.c n)) = _
    rw [dec_f (by omega)]; rfl
  show cnd (Nat.beq (ik k) (ik k')) (ob (orA (arith .shl k (.c a) (.c b)) _) fun n => some (AV.int k n)) (ob (orA (arith .shl k (.c a) (.c b)) _) fun n => some (AV.int k n)) = _
  rw [e]; cases Nat.beq (ik k) (ik k') <;> rfl
theorem b_or {bd : Bd} {k : IntKind} {a b : Int} : binop bd .or (.int k (.c a)) (.int k (.c b)) = some (.int k (.c (k.wrap (BitVec.ofInt k.bits a ||| BitVec.ofInt k.bits b).toNat))) := by
  show cnd (Nat.beq (ik k) (ik k)) (some (AV.int k (.c (k.wrap (BitVec.ofInt k.bits a ||| BitVec.ofInt k.bits b).toNat)))) none = _
  rw [ikk]; rfl
theorem b_and {bd : Bd} {k : IntKind} {a b : Int} : binop bd .and (.int k (.c a)) (.int k (.c b)) = some (.int k (.c (k.wrap (BitVec.ofInt k.bits a &&& BitVec.ofInt k.bits b).toNat))) := by
  show cnd (Nat.beq (ik k) (ik k)) (some (AV.int k (.c (k.wrap (BitVec.ofInt k.bits a &&& BitVec.ofInt k.bits b).toNat)))) none = _
  rw [ikk]; rfl
theorem or_nat {a b i : Nat} (h : b < 2 ^ i) : a * 2 ^ i ||| b = a * 2 ^ i + b := by
  rw [← Nat.shiftLeft_eq, ← Nat.shiftLeft_add_eq_or_of_lt h]
theorem or_bv {w : Nat} {a b : Nat} (ha : a < 2 ^ w) (hb : b < 2 ^ w) : (BitVec.ofInt w (a : Int) ||| BitVec.ofInt w (b : Int)).toNat = a ||| b := by
  rw [BitVec.ofInt_natCast, BitVec.ofInt_natCast, BitVec.toNat_or, BitVec.toNat_ofNat, BitVec.toNat_ofNat, Nat.mod_eq_of_lt ha, Nat.mod_eq_of_lt hb]
/-- a byte behind a number -/
theorem or64 {bd : Bd} {n c : Int} (h0 : 0 ≤ n) (h1 : n < 18014398509481984) (h2 : 0 ≤ c ∧ c < 256) : binop bd .or (.int .i64 (.c (n * 256))) (.int .i64 (.c c)) = some (.int .i64 (.c (n * 256 + c))) := by
  obtain ⟨a, rfl⟩ : ∃ a : Nat, n = (a : Int) := ⟨n.toNat, by omega⟩
  obtain ⟨b, rfl⟩ : ∃ b : Nat, c = (b : Int) := ⟨c.toNat, by omega⟩
  rw [b_or]
  have e : ((BitVec.ofInt IntKind.i64.bits ((a : Int) * 256) ||| BitVec.ofInt IntKind.i64.bits (b : Int)).toNat : Int) = (a : Int) * 256 + b := by
    rw [show ((a : Int) * 256) = ((a * 2 ^ 8 : Nat) : Int) by omega, or_bv (w := IntKind.i64.bits) (by show a * 2 ^ 8 < 2 ^ 64; omega) (by show b < 2 ^ 64; omega), or_nat (by omega)]
    omega
  rw [e, wr64 (by omega) (by omega)]
theorem or8 {bd : Bd} {a m : Int} (h0 : 0 ≤ a ∧ a < 64) (hm : 0 ≤ m ∧ m < 4) : binop bd .or (.int .u8 (.c a)) (.int .u8 (.c (m * 64))) = some (.int .u8 (.c (m * 64 + a))) := by
  obtain ⟨a, rfl⟩ : ∃ b : Nat, a = (b : Int) := ⟨a.toNat, by omega⟩
  obtain ⟨b, rfl⟩ : ∃ b : Nat, m = (b : Int) := ⟨m.toNat, by omega⟩
  rw [b_or]
  have e : ((BitVec.ofInt IntKind.u8.bits (a : Int) ||| BitVec.ofInt IntKind.u8.bits ((b : Int) * 64)).toNat : Int) = (b : Int) * 64 + a := by
    rw [show ((b : Int) * 64) = ((b * 2 ^ 6 : Nat) : Int) by omega, or_bv (w := IntKind.u8.bits) (by show a < 2 ^ 8; omega) (by show b * 2 ^ 6 < 2 ^ 8; omega), Nat.or_comm, or_nat (by omega)]
    omega
  rw [e, wr8 (by omega) (by omega)]
theorem and8 {bd : Bd} {a : Int} (h0 : 0 ≤ a ∧ a < 256) : binop bd .and (.int .u8 (.c a)) (.int .u8 (.c 63)) = some (.int .u8 (.c (a % 64))) := by
  obtain ⟨a, rfl⟩ : ∃ b : Nat, a = (b : Int) := ⟨a.toNat, by omega⟩
  rw [b_and]
  have e : ((BitVec.ofInt IntKind.u8.bits (a : Int) &&& BitVec.ofInt IntKind.u8.bits 63).toNat : Int) = (a : Int) % 64 := by
    rw [show (63 : Int) = ((63 : Nat) : Int) by rfl, BitVec.ofInt_natCast, BitVec.ofInt_natCast, BitVec.toNat_and, BitVec.toNat_ofNat, BitVec.toNat_ofNat]
    show (((a % 256) &&& (63 % 256) : Nat) : Int) = _
    rw [Nat.mod_eq_of_lt (by omega), show 63 % 256 = 2 ^ 6 - 1 by rfl, Nat.and_two_pow_sub_one_eq_mod]
    omega
  rw [e, wr8 (by omega) (by omega)]
theorem cvi8 (x : Int) : IntKind.u8.wrap x = x % 256 := by rw [IntKind.wrap_u8]
noncomputable def cviV (bd : Bd) (k : IntKind) (v : AV) : Option AV := v.onInt (fun k' n => AI.casesOn n (fun n => some (.int k (.c (k.wrap n))))
  fun i d => ob (range bd k' (.s i d)) fun r => cnd (inK k r.1 r.2) (some (.int k (.s i d))) (cnd (decide (k = .u8)) (some (.int k (mkS .u8 (modT i) (d % 256)))) none)) none
theorem f_cvi {bd : Bd} {L F : LF} {k : IntKind} {x : Od} : fCvi bd L F k x = ob (ev L F x) fun v => cviV bd k v := rfl
theorem cvi_c {bd : Bd} {k k' : IntKind} {n : Int} : cviV bd k (.int k' (.c n)) = some (.int k (.c (k.wrap n))) := rfl
/-! ## numbers as bytes -/
def sizeV (n : Int) : Int := if n < 0 ∨ 4611686018427387903 < n then 0 else if n < 64 then 1 else if n < 16384 then 2 else if n < 1073741824 then 4 else 8
/-- a number's byte, from the last one -/
def byV (n : Int) (j : Nat) : Int := n / 2 ^ (8 * j) % 256
def tailB (n : Int) : Nat → List Int
  | 0 => []
  | k + 1 => byV n k :: tailB n k
def markQ (s : Int) : Int := if s = 2 then 1 else if s = 4 then 2 else if s = 8 then 3 else 0
def putV (n : Int) : List Int := match tailB n (sizeV n).toNat with
  | [] => []
  | c :: l => (markQ (sizeV n) * 64 + c) :: l
theorem tailB_len (n : Int) : ∀ k, (tailB n k).length = k
  | 0 => rfl
  | k + 1 => by rw [tailB, List.length_cons, tailB_len n k]
theorem tailB_get (n : Int) : ∀ {S k : Nat}, k < S → (tailB n S)[k]? = some (byV n (S - 1 - k))
  | 0, k, h => by omega
  | S + 1, 0, h => by rw [tailB]; simp
  | S + 1, k + 1, h => by
    rw [tailB, List.getElem?_cons_succ, tailB_get n (show k < S by omega)]
    congr 2; omega
theorem byV_bd (n : Int) (j : Nat) : 0 ≤ byV n j ∧ byV n j < 256 := by unfold byV; omega
theorem tailB_in (n : Int) : ∀ k, ∀ x ∈ tailB n k, In8 x
  | 0, x, h => by simp [tailB] at h
  | k + 1, x, h => by
    rw [tailB] at h
    rcases List.mem_cons.1 h with rfl | h
    · have := byV_bd n k; exact ⟨by omega, by omega⟩
    · exact tailB_in n k x h
theorem sizeV_in (n : Int) : sizeV n = 0 ∨ sizeV n = 1 ∨ sizeV n = 2 ∨ sizeV n = 4 ∨ sizeV n = 8 := by
  unfold sizeV
  by_cases h1 : n < 0 ∨ 4611686018427387903 < n
  · rw [if_pos h1]; exact .inl rfl
  · rw [if_neg h1]
    by_cases h2 : n < 64
    · rw [if_pos h2]; exact .inr (.inl rfl)
    · rw [if_neg h2]
      by_cases h3 : n < 16384
      · rw [if_pos h3]; exact .inr (.inr (.inl rfl))
      · rw [if_neg h3]
        by_cases h4 : n < 1073741824
        · rw [if_pos h4]; exact .inr (.inr (.inr (.inl rfl)))
        · rw [if_neg h4]; exact .inr (.inr (.inr (.inr rfl)))
def foldV (n : Int) (l : List Int) : Int := l.foldl (fun n c => n * 256 + c) n
def szB (b : Int) : Int := 2 ^ (b / 64).toNat
def takeV : List Int → Int × Int × Bool
  | [] => (0, 0, false)
  | b :: r => if (r.length : Int) + 1 < szB b then (0, 0, false) else
    if sizeV (foldV (b % 64) (r.take (szB b - 1).toNat)) = szB b then (foldV (b % 64) (r.take (szB b - 1).toNat), szB b, true) else (0, 0, false)
theorem szB_in {b : Int} (h : 0 ≤ b ∧ b < 256) : (b / 64 = 0 ∧ szB b = 1) ∨ (b / 64 = 1 ∧ szB b = 2) ∨ (b / 64 = 2 ∧ szB b = 4) ∨ (b / 64 = 3 ∧ szB b = 8) := by
  obtain h | h | h | h : b / 64 = 0 ∨ b / 64 = 1 ∨ b / 64 = 2 ∨ b / 64 = 3 := by omega
  · exact .inl ⟨h, by unfold szB; rw [h]; rfl⟩
  · exact .inr (.inl ⟨h, by unfold szB; rw [h]; rfl⟩)
  · exact .inr (.inr (.inl ⟨h, by unfold szB; rw [h]; rfl⟩))
  · exact .inr (.inr (.inr ⟨h, by unfold szB; rw [h]; rfl⟩))
theorem foldV_bd : ∀ (l : List Int) (n B : Int), (∀ x ∈ l, In8 x) → 0 ≤ n → n < B → 0 ≤ foldV n l ∧ foldV n l < B * 256 ^ l.length
  | [], n, B, _, h0, h1 => by simp [foldV]; omega
  | c :: l, n, B, h8, h0, h1 => by
    have hc := h8 c (by simp)
    have := foldV_bd l (n * 256 + c) (B * 256) (fun x hx => h8 x (by simp [hx])) (by have := hc.1; omega) (by have := hc.2; omega)
    have e : B * 256 ^ (c :: l).length = B * 256 * 256 ^ l.length := by rw [List.length_cons, Int.pow_succ, Int.mul_assoc, Int.mul_comm (256 ^ l.length) 256]
    rw [e]; exact this
/-- how a number stands, one size after the other -/
theorem putV_0 {n : Int} (h : sizeV n = 0) : putV n = [] := by unfold putV; rw [h]; rfl
theorem putV_1 {n : Int} (h : sizeV n = 1) : putV n = [byV n 0] := by unfold putV; rw [h]; simp [tailB, markQ]
theorem putV_2 {n : Int} (h : sizeV n = 2) : putV n = [64 + byV n 1, byV n 0] := by unfold putV; rw [h]; simp [tailB, markQ]
theorem putV_4 {n : Int} (h : sizeV n = 4) : putV n = [128 + byV n 3, byV n 2, byV n 1, byV n 0] := by unfold putV; rw [h]; simp [tailB, markQ]
theorem putV_8 {n : Int} (h : sizeV n = 8) : putV n = [192 + byV n 7, byV n 6, byV n 5, byV n 4, byV n 3, byV n 2, byV n 1, byV n 0] := by unfold putV; rw [h]; simp [tailB, markQ]
theorem putV_len (n : Int) : ((putV n).length : Int) = sizeV n := by
  rcases sizeV_in n with h | h | h | h | h
  · rw [putV_0 h, h]; rfl
  · rw [putV_1 h, h]; rfl
  · rw [putV_2 h, h]; rfl
  · rw [putV_4 h, h]; rfl
  · rw [putV_8 h, h]; rfl
theorem sizeV_rng {n : Int} : (sizeV n = 1 → 0 ≤ n ∧ n < 64) ∧ (sizeV n = 2 → 64 ≤ n ∧ n < 16384) ∧ (sizeV n = 4 → 16384 ≤ n ∧ n < 1073741824) ∧ (sizeV n = 8 → 1073741824 ≤ n ∧ n ≤ 4611686018427387903) := by
  unfold sizeV
  by_cases h1 : n < 0 ∨ 4611686018427387903 < n
  · rw [if_pos h1]; exact ⟨by omega, by omega, by omega, by omega⟩
  · rw [if_neg h1]
    by_cases h2 : n < 64
    · rw [if_pos h2]; exact ⟨by omega, by omega, by omega, by omega⟩
    · rw [if_neg h2]
      by_cases h3 : n < 16384
      · rw [if_pos h3]; exact ⟨by omega, by omega, by omega, by omega⟩
      · rw [if_neg h3]
        by_cases h4 : n < 1073741824
        · rw [if_pos h4]; exact ⟨by omega, by omega, by omega, by omega⟩
        · rw [if_neg h4]; exact ⟨by omega, by omega, by omega, by omega⟩
theorem putV_in (n : Int) : ∀ x ∈ putV n, In8 x := by
  obtain ⟨r1, r2, r3, r4⟩ := sizeV_rng (n := n)
  have hb := byV_bd n
  have f7 : sizeV n = 8 → byV n 7 < 64 := fun h => by have := r4 h; simp only [byV, Nat.reduceMul, Int.reducePow]; omega
  have f3 : sizeV n = 4 → byV n 3 < 64 := fun h => by have := r3 h; simp only [byV, Nat.reduceMul, Int.reducePow]; omega
  have f1 : sizeV n = 2 → byV n 1 < 64 := fun h => by have := r2 h; simp only [byV, Nat.reduceMul, Int.reducePow]; omega
  have b0 := hb 0; have b1 := hb 1; have b2 := hb 2; have b3 := hb 3; have b4 := hb 4; have b5 := hb 5; have b6 := hb 6; have b7 := hb 7
  intro x hx
  rcases sizeV_in n with h | h | h | h | h
  · rw [putV_0 h] at hx; simp at hx
  · rw [putV_1 h] at hx; simp at hx; subst hx; exact ⟨by omega, by omega⟩
  · rw [putV_2 h] at hx; have := f1 h; simp at hx; rcases hx with rfl | rfl <;> exact ⟨by omega, by omega⟩
  · rw [putV_4 h] at hx; have := f3 h; simp at hx; rcases hx with rfl | rfl | rfl | rfl <;> exact ⟨by omega, by omega⟩
  · rw [putV_8 h] at hx; have := f7 h; simp at hx; rcases hx with rfl | rfl | rfl | rfl | rfl | rfl | rfl | rfl <;> exact ⟨by omega, by omega⟩
/-- what stands so is what is put, where it has that size -/
theorem put_eq {b : Int} {r : List Int} (h8 : ∀ x ∈ b :: r, In8 x) (hl : ¬ (r.length : Int) + 1 < szB b) :
    (putV (foldV (b % 64) (r.take (szB b - 1).toNat)) = (b :: r).take (szB b).toNat) ↔ sizeV (foldV (b % 64) (r.take (szB b - 1).toNat)) = szB b := by
  have hb : 0 ≤ b ∧ b < 256 := by have := h8 b (by simp); exact ⟨this.1, by have := this.2; omega⟩
  have hlen : ((((b :: r).take (szB b).toNat).length : Nat) : Int) = szB b := by
    have : 0 ≤ szB b := by rcases szB_in hb with ⟨_, h⟩ | ⟨_, h⟩ | ⟨_, h⟩ | ⟨_, h⟩ <;> omega
    rw [List.length_take, List.length_cons]; omega
  constructor
  · intro h
    rw [← putV_len, h, hlen]
  · intro h
    rcases szB_in hb with ⟨hq, hs⟩ | ⟨hq, hs⟩ | ⟨hq, hs⟩ | ⟨hq, hs⟩
    · rw [hs] at h ⊢
      rw [putV_1 h]
      simp [foldV, byV] <;> omega
    · rw [hs] at h hl ⊢
      rw [putV_2 h]
      match r, h8, hl with
      | c1 :: r, h8, _ =>
        obtain ⟨k1, k1'⟩ := h8 c1 (by simp)
        simp [foldV, byV] <;> omega
      | [], _, hl => simp at hl
    · rw [hs] at h hl ⊢
      rw [putV_4 h]
      match r, h8, hl with
      | c1 :: c2 :: c3 :: r, h8, _ =>
        obtain ⟨k1, k1'⟩ := h8 c1 (by simp)
        obtain ⟨k2, k2'⟩ := h8 c2 (by simp)
        obtain ⟨k3, k3'⟩ := h8 c3 (by simp)
        simp [foldV, byV] <;> omega
      | [], _, hl => simp at hl
      | [_], _, hl => simp at hl
      | [_, _], _, hl => simp at hl
    · rw [hs] at h hl ⊢
      rw [putV_8 h]
      match r, h8, hl with
      | c1 :: c2 :: c3 :: c4 :: c5 :: c6 :: c7 :: r, h8, _ =>
        obtain ⟨k1, k1'⟩ := h8 c1 (by simp)
        obtain ⟨k2, k2'⟩ := h8 c2 (by simp)
        obtain ⟨k3, k3'⟩ := h8 c3 (by simp)
        obtain ⟨k4, k4'⟩ := h8 c4 (by simp)
        obtain ⟨k5, k5'⟩ := h8 c5 (by simp)
        obtain ⟨k6, k6'⟩ := h8 c6 (by simp)
        obtain ⟨k7, k7'⟩ := h8 c7 (by simp)
        simp [foldV, byV] <;> omega
      | [], _, hl => simp at hl
      | [_], _, hl => simp at hl
      | [_, _], _, hl => simp at hl
      | [_, _, _], _, hl => simp at hl
      | [_, _, _, _], _, hl => simp at hl
      | [_, _, _, _, _], _, hl => simp at hl
      | [_, _, _, _, _, _], _, hl => simp at hl
end Go.Proofs.Ythcikbgcfgmgoaa.ctr
