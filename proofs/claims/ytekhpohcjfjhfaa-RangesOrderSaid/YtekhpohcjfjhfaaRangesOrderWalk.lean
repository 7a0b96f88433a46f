/- RangesOrder, walked. -/
import Derived.Test.YtekhpohcjfjhfaaCtIn
import Derived.Deep.Slices
import Derived.WalkKit
import Derived.ProofKit
namespace Go.Proofs.Ytekhpohcjfjhfaa.ctr
open Go Go.Vm Go.RowKit Go.ChangeShapes Go.WideShapes
set_option linter.unusedVariables false
set_option linter.constructorNameAsVariable false
set_option linter.unusedSimpArgs false
/-! ## a slice among the arguments whose elements are several cells -/
theorem row_blockV {w : World} {a : Addr} {n : Nat} {V : Nat → Value} (h0 : 0 < n) (hc : ∀ i, i < n → w.cell? (a.add i) = some (V i)) :
    ∃ B δ cs t fz, a = ⟨B, δ, none⟩ ∧ w.heap[B]? = some (.cells cs t fz) ∧ δ + n ≤ cs.size ∧ ∀ i, i < n → cs[i + δ]? = some (V i) := by
  obtain ⟨B, δ, sp⟩ := a
  have hb := hc 0 h0
  unfold World.cell? at hb hc
  have e0 : (Addr.add ⟨B, δ, sp⟩ 0) = ⟨B, δ, sp⟩ := rfl
  rw [e0] at hb
  dsimp only at hb
  split at hb
  · rename_i cs t fz hw
    have hsp : sp = none := by
      cases sp with
      | none => rfl
      | some x => simp at hb
    subst hsp
    have ad : ∀ i, (Addr.add ⟨B, δ, none⟩ i).block = B ∧ (Addr.add ⟨B, δ, none⟩ i).off = δ + i ∧ (Addr.add ⟨B, δ, none⟩ i).spot = none := fun i => by rw [addr_add]; exact ⟨rfl, rfl, rfl⟩
    have hall : ∀ i, i < n → cs[i + δ]? = some (V i) := by
      intro i hi
      have h1 := hc i hi
      rw [(ad i).1, hw] at h1
      simp only [(ad i).2.1, (ad i).2.2, Option.isSome_none, Bool.false_eq_true, if_false] at h1
      rw [Nat.add_comm]; exact h1
    refine ⟨B, δ, cs, t, fz, rfl, hw, ?_, hall⟩
    have := lt_of_get (hall (n - 1) (by omega))
    omega
  · cases hb
/-- a slice of len elements of sz cells, V: its cells, up to its capacity -/
def IsRowV (w : World) (a : Option Addr) (len cap sz : Nat) (V : Nat → Value) : Prop :=
  (a = none ∧ len = 0 ∧ cap = 0) ∨ ∃ x, a = some x ∧ len ≤ cap ∧ cap ≤ maxLen ∧ ∀ i, i < cap * sz → w.cell? (x.add i) = some (V i)
theorem _root_.Go.Vm.Arg0.rows {α : Type} {E : Env} {s : St} {w : World} (h : Arg0 E s w) {a : Option Addr} {len cap sz : Nat} {V : Nat → Value} (hq : IsRowV w a len cap sz V) (hp : 0 < sz) (enc : α → List AV) (hw : ∀ x, (enc x).length = sz) (l : List α) (hl : l.length = len)
    (hc : ∀ i v, (l.flatMap enc)[i]? = some v → VR rho0 E v (V i) ∧ v.scalar = true) :
    ∃ v E' s', Arg0 E' s' w ∧ E.le E' ∧ Fr s s' [] ∧ VR rho0 E' v (.slice a len cap) ∧ RdE s' v sz enc l := by
  rcases hq with ⟨rfl, rfl, rfl⟩ | ⟨x, rfl, h2, h3, h4⟩
  · obtain rfl := List.eq_nil_of_length_eq_zero hl
    exact ⟨.nils, E, s, h, .refl E, .refl, .nils, .nil hw hp⟩
  · by_cases h0 : len = 0
    · subst h0
      obtain rfl := List.eq_nil_of_length_eq_zero hl
      exact ⟨.emp, E, s, h, .refl E, .refl, .emp, .emp hw hp⟩
    · have hpos : 0 < cap * sz := Nat.mul_pos (by omega) hp
      obtain ⟨B, δ, cs, t, fz, rfl, g1, g2, g3⟩ := row_blockV hpos h4
      have hlt : (l.flatMap enc).length = len * sz := by rw [flat_len hw, hl]
      have hle : len * sz ≤ cap * sz := Nat.mul_le_mul_right sz h2
      obtain ⟨k1, k2⟩ := h.add (δ := δ) (c := l.flatMap enc) g1 rfl (by rw [hlt]; omega) (fun i v hi => by
        obtain ⟨q1, q2⟩ := hc i v hi
        have := (List.getElem?_eq_some_iff.1 hi).1
        exact ⟨_, g3 i (by omega), q1, q2⟩)
      have hv := VR.sl (ρ := rho0) (E := envN E s.next (B, δ, cs.size)) (b := s.next) (off := 0) (len := len) (lo := len) (ex := false) (sz := sz) (cap := cap) (if_pos rfl) (Nat.le_refl _) h2 (by simp) (by omega)
      rw [Nat.zero_add] at hv
      refine ⟨.sl s.next 0 len len false sz, _, _, k1, k2, .new, hv, ⟨⟨⟨rfl, Nat.le_refl _⟩, ?_, ?_⟩, hw, hp, by show s.next < _; rw [next_new]; omega⟩⟩
      · rw [hlt]; rfl
      · show ob ((s.new _).heap.get s.next) (rdC 0 (len * sz)) = _
        rw [get_new_eq rfl]
        show sub _ 0 (len * sz) = _
        rw [sub_of (by rw [hlt]; omega)]
        congr 1
        rw [List.drop_zero, List.take_of_length_le (by rw [hlt]; omega)]
/-! ## slices of records: kinds of cells -/
inductive Fk | i | b | S
def FkOk (w : World) : Fk → Value → Prop
  | .i, v => ∃ z, v = .int .i64 z ∧ (Lit.int .i64 z).wf = true
  | .b, v => ∃ x, v = .bool x
  | .S, v => ∃ a len cap zs, v = .slice a len cap ∧ IsRow8 w a len cap zs
def fkTy (P : Program) : Fk → TypeId → Bool
  | .i, t => match P.underlying t with | some (.int .i64) => true | _ => false
  | .b, t => match P.underlying t with | some .bool => true | _ => false
  | .S, t => match P.underlying t with | some (.slice e) => (match P.underlying e with | some (.int .u8) => P.cellsOf e == 1 | _ => false) | _ => false
def fkB (P : Program) (e : TypeId) (ks : List Fk) : Bool := match P.underlying e with
  | some (.struct fs) => P.cellsOf e == ks.length && fs.size == ks.length && (List.range ks.length).all fun j => match fs[j]?, ks[j]? with
    | some f, some k => f.offset == j && P.cellsOf f.type == 1 && fkTy P k f.type
    | _, _ => false
  | _ => ks.length == 1 && P.cellsOf e == 1 && fkTy P (ks.getD 0 .i) e
section
variable {H : Type} {enc : TypeId × Value → H} {P : Program} {w : World} {base : Nat} {held : Bool}
theorem fk_open {k : Fk} {t : TypeId} {fuel : Nat} {v : Value} {x : DataW H × List MemPlace} (ht : fkTy P k t = true) (h : DataW.trod enc P w base (fun _ => true) held fuel t [v] = some x) : FkOk w k v := by
  cases k with
  | i =>
    unfold fkTy at ht; dsimp only at ht; split at ht
    · rename_i hu
      obtain ⟨n, h1, _, h2⟩ := DataW.trod_int hu h
      cases h1; exact ⟨n, rfl, h2⟩
    · cases ht
  | b =>
    unfold fkTy at ht; dsimp only at ht; split at ht
    · rename_i hu
      obtain ⟨n, h1, _⟩ := DataW.trod_bool hu h
      cases h1; exact ⟨n, rfl⟩
    · cases ht
  | S =>
    unfold fkTy at ht; dsimp only at ht; split at ht
    · rename_i e hu
      split at ht
      · rename_i hu2
        rcases open_ints hu hu2 (by simpa using ht) h with ⟨hcs, _⟩ | ⟨x, l, c, zs, hcs, _, hl, hm, hz, _, hcell, hwz⟩
        · cases hcs
          exact ⟨_, _, _, [], rfl, .inl ⟨rfl, rfl, rfl, rfl⟩⟩
        · cases hcs
          exact ⟨_, _, _, zs, rfl, .inr ⟨_, rfl, hl, hm, by simpa using hz, hcell, hwz⟩⟩
      · cases ht
    · cases ht
theorem open_rowV {t e : TypeId} {ks : List Fk} {fuel : Nat} {a : Option Addr} {len cap : Nat} {x : DataW H × List MemPlace} (ht : P.underlying t = some (.slice e)) (hk : fkB P e ks = true) (hp : 0 < ks.length)
    (h : DataW.trod enc P w base (fun _ => true) held fuel t [.slice a len cap] = some x) :
    ∃ V, IsRowV w a len cap ks.length V ∧ ∀ i, i < cap * ks.length → FkOk w (ks.getD (i % ks.length) .i) (V i) := by
  have ce : P.cellsOf e = ks.length := by
    unfold fkB at hk
    split at hk
    · simp only [Bool.and_eq_true, beq_iff_eq] at hk; exact hk.1.1
    · simp only [Bool.and_eq_true, beq_iff_eq] at hk; rw [hk.1.1]; exact hk.1.2
  rcases Go.Deep.open_slice ht h with ⟨h0, _⟩ | ⟨b, l, c, m, n, D, Pl, h0, hb, hl, hm, hmm, rfl, hx⟩
  · cases h0
    exact ⟨fun _ => .int .i64 0, .inl ⟨rfl, rfl, rfl⟩, fun i hi => by simp at hi⟩
  · cases h0
    obtain rfl : m = cap := by simpa using hmm
    rw [ce] at hx
    have key : ∀ q, q < m * ks.length → ∃ v, w.cell? (b.add q) = some v ∧ FkOk w (ks.getD (q % ks.length) .i) v := by
      intro q hq
      have hj : q % ks.length < ks.length := Nat.mod_lt _ hp
      have hi : q / ks.length < m := by rw [Nat.div_lt_iff_lt_mul hp]; exact hq
      have hqe : q / ks.length * ks.length + q % ks.length = q := by rw [Nat.mul_comm]; exact Nat.div_add_mod q ks.length
      obtain ⟨cs', h1, h2⟩ := hx _ hi
      obtain ⟨_, hlen, hcell⟩ := World.cells?_some h1
      have e1 := hcell (q % ks.length) (by omega)
      rw [Go.Deep.add_add, hqe] at e1
      obtain ⟨v, hv⟩ : ∃ v, cs'[q % ks.length]? = some v := ⟨cs'[q % ks.length]'(by omega), List.getElem?_eq_getElem (by omega)⟩
      refine ⟨v, by rw [e1, hv], ?_⟩
      unfold fkB at hk
      split at hk
      · rename_i fs hu
        simp only [Bool.and_eq_true, beq_iff_eq, List.all_eq_true, List.mem_range] at hk
        obtain ⟨⟨_, hsz⟩, hall⟩ := hk
        obtain ⟨xs, k, _, _, _, hxl, hf⟩ := DataW.trod_struct hu h2
        have hj2 := hall _ hj
        split at hj2
        · rename_i f k' hfj hkj
          simp only [Bool.and_eq_true, beq_iff_eq] at hj2
          obtain ⟨⟨o1, c1⟩, ty⟩ := hj2
          have g := hf _ f hfj
          rw [o1, c1] at g
          have hd : (cs'.drop (q % ks.length)).take 1 = [v] := by
            rw [List.take_one, List.head?_drop, hv]; rfl
          rw [hd] at g
          have hlt : q % ks.length < xs.length := by rw [hxl, hsz]; exact hj
          rw [List.getElem?_eq_getElem hlt] at g
          have := fk_open ty g
          rw [List.getD, hkj]; exact this
        · cases hj2
      · rename_i hu
        simp only [Bool.and_eq_true, beq_iff_eq] at hk
        have hl1 : cs'.length = 1 := by rw [hlen]; exact hk.1.1
        have h0 : q % ks.length = 0 := by rw [hk.1.1]; exact Nat.mod_one q
        rw [h0] at hv ⊢
        match cs', hl1, hv, h2 with
        | [y], _, hv, h2 => cases hv; exact fk_open hk.2 h2
    obtain ⟨V, hV⟩ : ∃ V : Nat → Value, ∀ q, q < m * ks.length → w.cell? (b.add q) = some (V q) ∧ FkOk w (ks.getD (q % ks.length) .i) (V q) := by
      haveI : Inhabited Value := ⟨.bool false⟩
      exact Go.Deep.choose_lt key
    exact ⟨V, .inr ⟨_, rfl, hl, hm, fun i hi => (hV i hi).1⟩, fun i hi => (hV i hi).2⟩
end
/-! ## .. in the walk -/
inductive Cl | i (z : Int) | b (x : Bool) | S (u : AV) (l : List Int)
noncomputable def Cl.av : Cl → AV | .i z => num z | .b x => .bool x | .S u _ => u
def Cl.z : Cl → Int | .i z => z | _ => 0
def Cl.x : Cl → Bool | .b x => x | _ => false
def Cl.u : Cl → AV | .S u _ => u | _ => .nils
def Cl.l : Cl → List Int | .S _ l => l | _ => []
/-- a cell of a kind -/
def ClOk (s : St) : Cl → Fk → Prop
  | .i z, .i => In64 z
  | .b _, .b => True
  | .S u l, .S => RdE s u 1 encB l ∧ ∀ x ∈ l, In8 x
  | _, _ => False
theorem ClOk.fr0 {s s' : St} {c : Cl} {k : Fk} (h : ClOk s c k) (f : Fr s s' []) : ClOk s' c k := by
  cases c <;> cases k <;> first | exact h | exact ⟨h.1.fr0 f, h.2⟩ | cases h
theorem _root_.Go.Vm.Arg0.cells {w : World} {V : Nat → Value} {K : Nat → Fk} : ∀ (n : Nat) {E : Env} {s : St}, Arg0 E s w → (∀ i, i < n → FkOk w (K i) (V i)) →
    ∃ (cl : Nat → Cl) (E' : Env) (s' : St), Arg0 E' s' w ∧ E.le E' ∧ Fr s s' [] ∧ ∀ i, i < n → ClOk s' (cl i) (K i) ∧ VR rho0 E' (cl i).av (V i) ∧ (cl i).av.scalar = true
  | 0, E, s, h, _ => ⟨fun _ => .i 0, E, s, h, .refl E, .refl, fun i hi => by omega⟩
  | n + 1, E, s, h, hV => by
    obtain ⟨cl, E1, s1, h1, e1, f1, c1⟩ := Go.Vm.Arg0.cells n h (fun i hi => hV i (by omega))
    have hn := hV n (by omega)
    have put : ∀ (c : Cl) (E' : Env) (s' : St), Arg0 E' s' w → E1.le E' → Fr s1 s' [] → ClOk s' c (K n) → VR rho0 E' c.av (V n) → c.av.scalar = true →
        ∃ (cl : Nat → Cl) (E' : Env) (s' : St), Arg0 E' s' w ∧ E.le E' ∧ Fr s s' [] ∧ ∀ i, i < n + 1 → ClOk s' (cl i) (K i) ∧ VR rho0 E' (cl i).av (V i) ∧ (cl i).av.scalar = true := by
      intro c E' s' a e f k v sc
      refine ⟨fun i => if i = n then c else cl i, E', s', a, e1.trans e, f1.trans f (fp2 := []) (by simp) (by simp), fun i hi => ?_⟩
      dsimp only
      by_cases h : i = n
      · subst h; rw [if_pos rfl]; exact ⟨k, v, sc⟩
      · rw [if_neg h]
        obtain ⟨q1, q2, q3⟩ := c1 i (by omega)
        exact ⟨q1.fr0 f, q2.mono e, q3⟩
    cases hk : K n with
    | i =>
      rw [hk] at hn put
      obtain ⟨z, hz, wz⟩ := hn
      exact put (.i z) E1 s1 h1 (.refl _) .refl (wf64 wz) (by rw [hz]; exact vr_int) rfl
    | b =>
      rw [hk] at hn put
      obtain ⟨z, hz⟩ := hn
      exact put (.b z) E1 s1 h1 (.refl _) .refl trivial (by rw [hz]; exact .bool _) rfl
    | S =>
      rw [hk] at hn put
      obtain ⟨a, len, cap, zs, hv, hq⟩ := hn
      obtain ⟨u, E2, s2, g, l, f, r, d, i8⟩ := h1.bytes hq
      refine put (.S u (zs.take len)) E2 s2 g l f ⟨d, i8⟩ (by rw [hv]; exact r) ?_
      have := d.rd.sl
      show u.scalar = true
      cases u <;> first | rfl | exact this.elim
/-- a slice of records among the arguments -/
theorem _root_.Go.Vm.Arg0.recs {α : Type} {E : Env} {s : St} {w : World} (h : Arg0 E s w) {a : Option Addr} {len cap : Nat} {ks : List Fk} {V : Nat → Value} (hq : IsRowV w a len cap ks.length V)
    (hV : ∀ i, i < cap * ks.length → FkOk w (ks.getD (i % ks.length) .i) (V i)) (hp : 0 < ks.length) (enc : α → List AV) (dec : (Nat → Cl) → α) (hw : ∀ x, (enc x).length = ks.length)
    (hd : ∀ (s : St) (f : Nat → Cl), (∀ j, j < ks.length → ClOk s (f j) (ks.getD j .i)) → ∀ j, j < ks.length → (enc (dec f))[j]? = some (f j).av) :
    ∃ v E' s' l, Arg0 E' s' w ∧ E.le E' ∧ Fr s s' [] ∧ VR rho0 E' v (.slice a len cap) ∧ RdE s' v ks.length enc l ∧ l.length = len ∧ ∀ x ∈ l, ∃ f, x = dec f ∧ ∀ j, j < ks.length → ClOk s' (f j) (ks.getD j .i) := by
  have hlc : len ≤ cap := by rcases hq with ⟨_, rfl, rfl⟩ | ⟨_, _, h, _⟩; exact Nat.le_refl _; exact h
  have hle : len * ks.length ≤ cap * ks.length := Nat.mul_le_mul_right _ hlc
  obtain ⟨cl, E1, s1, h1, e1, f1, c1⟩ := Go.Vm.Arg0.cells (V := V) (K := fun i => ks.getD (i % ks.length) .i) (len * ks.length) h (fun i hi => hV i (by omega))
  have hF : ∀ k, k < len → ∀ j, j < ks.length → k * ks.length + j < len * ks.length := by
    intro k hk j hj
    have : (k + 1) * ks.length ≤ len * ks.length := Nat.mul_le_mul_right _ hk
    rw [Nat.add_mul, Nat.one_mul] at this; omega
  have hmod : ∀ k j, j < ks.length → (k * ks.length + j) % ks.length = j := by
    intro k j hj; rw [Nat.mul_comm, Nat.mul_add_mod, Nat.mod_eq_of_lt hj]
  have hK : ∀ k, k < len → ∀ j, j < ks.length → ClOk s1 (cl (k * ks.length + j)) (ks.getD j .i) := by
    intro k hk j hj
    have := (c1 _ (hF k hk j hj)).1
    rwa [hmod k j hj] at this
  have hlen : ((List.range len).map fun k => dec fun j => cl (k * ks.length + j)).length = len := by simp
  obtain ⟨v, E2, s2, h2, e2, f2, r2, d2⟩ := h1.rows hq hp enc hw ((List.range len).map fun k => dec fun j => cl (k * ks.length + j)) hlen (by
    intro i v hi
    have hil := (List.getElem?_eq_some_iff.1 hi).1
    rw [flat_len hw, hlen] at hil
    have hj : i % ks.length < ks.length := Nat.mod_lt _ hp
    have hk : i / ks.length < len := by rw [Nat.div_lt_iff_lt_mul hp]; exact hil
    have hie : i / ks.length * ks.length + i % ks.length = i := by rw [Nat.mul_comm]; exact Nat.div_add_mod i ks.length
    have hg : ((List.range len).map fun k => dec fun j => cl (k * ks.length + j))[i / ks.length]? = some (dec fun j => cl (i / ks.length * ks.length + j)) := by
      rw [List.getElem?_map, List.getElem?_range hk]; rfl
    have ha := flat_at hw hg
    have hv : (enc (dec fun j => cl (i / ks.length * ks.length + j)))[i % ks.length]? = some v := by
      rw [← ha, List.getElem?_take, if_pos hj, List.getElem?_drop, hie]; exact hi
    rw [hd s1 _ (fun j hj => hK _ hk j hj) _ hj, hie] at hv
    cases hv
    obtain ⟨_, q2, q3⟩ := c1 i (by omega)
    exact ⟨q2, q3⟩)
  refine ⟨v, E2, s2, _, h2, e1.trans e2, f1.trans f2 (fp2 := []) (by simp) (by simp), r2, d2, hlen, fun x hx => ?_⟩
  obtain ⟨k, hk, rfl⟩ := List.mem_map.1 hx
  exact ⟨_, rfl, fun j hj => (hK k (List.mem_range.1 hk) j hj).fr0 f2⟩
end Go.Proofs.Ytekhpohcjfjhfaa.ctr
namespace Go.Proofs.Ytekhpohcjfjhfaa.ctr
open Go.Vm Go.RowKit Go.Ranges
set_option linter.unusedVariables false
set_option linter.unusedSimpArgs false
/-! ## what a set counts, cut and added: plain laws -/
theorem cnt_shift : ∀ (l : List R) (n : Int), l.foldl (fun n r => n + r.2 - r.1) n = n + countR l := by
  intro l
  induction l with
  | nil => intro n; simp [countR]
  | cons r l ih =>
    intro n
    unfold countR
    rw [List.foldl_cons, List.foldl_cons, ih, ih]
    omega
theorem countR_nil : countR [] = 0 := rfl
theorem countR_cons (r : R) (l : List R) : countR (r :: l) = r.2 - r.1 + countR l := by
  show (r :: l).foldl _ 0 = _
  rw [List.foldl_cons, cnt_shift]; omega
theorem countR_app (l m : List R) : countR (l ++ m) = countR l + countR m := by
  induction l with
  | nil => simp [countR]
  | cons r l ih => rw [List.cons_append, countR_cons, countR_cons, ih]; omega
theorem countR_in {l : List R} {b : Int} (hw : WFr b l) (hb : 0 ≤ b) : 0 ≤ countR l ∧ countR l ≤ far + 1 :=
  countR_bd (hw.mono hb) (Int.le_refl 0) (Int.le_refl 0) (by unfold far; omega)
theorem cut1_out {f t : Int} {r : R} (h : t ≤ r.1) (h2 : r.1 < r.2) (hf : f < t) : cut1 f t r = [r] := by
  unfold cut1
  rw [if_neg (by omega), if_pos (by omega), Int.max_eq_left h]; rfl
theorem cutR_out {f t : Int} (hf : f < t) : ∀ {l : List R} {b : Int}, WFr b l → t ≤ b → cutR f t l = l := by
  intro l
  induction l with
  | nil => intro b _ _; rfl
  | cons r l ih =>
    intro b ⟨h1, h2, h3, h4⟩ hb
    show cut1 f t r ++ cutR f t l = _
    rw [cut1_out (by omega) h2 hf, ih h4 (by omega)]; rfl
theorem cutR_head1 {a b m : Int} {l : List R} (hw : WFr 0 ((a, b) :: l)) (h1 : a < m) (h2 : m < b) : cutR a m ((a, b) :: l) = (m, b) :: l := by
  obtain ⟨w1, w2, w3, w4⟩ := hw
  show cut1 a m (a, b) ++ cutR a m l = _
  rw [cutR_out h1 w4 (by simp only; omega)]
  unfold cut1
  rw [if_neg (by simp), if_pos (by simpa using h2), Int.max_eq_right (by simp; omega)]; rfl
theorem cutR_head2 {m b : Int} {l : List R} (hw : WFr 0 ((m, b) :: l)) : cutR m b ((m, b) :: l) = l := by
  obtain ⟨w1, w2, w3, w4⟩ := hw
  show cut1 m b (m, b) ++ cutR m b l = _
  rw [cutR_out w2 w4 (by simp only; omega)]
  unfold cut1
  rw [if_neg (by simp), if_neg (by simp)]; rfl
/-! two sets of the same places are the same -/
theorem mem_of {r : R} {l : List R} {p : Int} (h : r ∈ l) (h1 : r.1 ≤ p) (h2 : p < r.2) : mem l p := ⟨r, h, h1, h2⟩
theorem WFr_ext : ∀ {l m : List R} {b : Int}, WFr b l → WFr b m → (∀ p, mem l p ↔ mem m p) → l = m := by
  intro l
  induction l with
  | nil =>
    intro m b _ hm h
    cases m with
    | nil => rfl
    | cons r m => exact absurd ((h r.1).2 (mem_of (by simp) (Int.le_refl _) hm.2.1)) mem_nil
  | cons r l ih =>
    intro m b hl hm h
    cases m with
    | nil => exact absurd ((h r.1).1 (mem_of (by simp) (Int.le_refl _) hl.2.1)) mem_nil
    | cons q m =>
      obtain ⟨l1, l2, l3, l4⟩ := hl
      obtain ⟨m1, m2, m3, m4⟩ := hm
      have lo : ∀ {p}, mem l p → r.2 + 1 ≤ p := fun h => mem_lb l4 h
      have mo : ∀ {p}, mem m p → q.2 + 1 ≤ p := fun h => mem_lb m4 h
      have e1 : r.1 = q.1 := by
        have a := (h r.1).1 (mem_of (by simp) (Int.le_refl _) l2)
        have b := (h q.1).2 (mem_of (by simp) (Int.le_refl _) m2)
        rw [mem_cons] at a b
        have a' : q.1 ≤ r.1 := by rcases a with a | a; exact a.1; have := mo a; omega
        have b' : r.1 ≤ q.1 := by rcases b with b | b; exact b.1; have := lo b; omega
        omega
      have e2 : r.2 = q.2 := by
        by_cases hlt : r.2 < q.2
        · have a := (h r.2).2 (mem_of (by simp) (by omega) hlt)
          rw [mem_cons] at a
          rcases a with a | a
          · omega
          · have := lo a; omega
        · by_cases hgt : q.2 < r.2
          · have a := (h q.2).1 (mem_of (by simp) (by omega) hgt)
            rw [mem_cons] at a
            rcases a with a | a
            · omega
            · have := mo a; omega
          · omega
      have er : r = q := Prod.ext e1 e2
      subst er
      congr 1
      refine ih l4 m4 fun p => ?_
      have hh := h p
      rw [mem_cons, mem_cons] at hh
      constructor
      · intro hp
        have := lo hp
        rcases hh.1 (.inr hp) with a | a
        · omega
        · exact a
      · intro hp
        have := mo hp
        rcases hh.2 (.inr hp) with a | a
        · omega
        · exact a
theorem mem_cutR {f t p : Int} {l : List R} (hf : f < t) : mem (cutR f t l) p ↔ mem l p ∧ ¬ (f ≤ p ∧ p < t) := by
  constructor
  · rintro ⟨r, hr, h1, h2⟩
    obtain ⟨q, hq, hc⟩ := List.mem_flatMap.1 hr
    unfold cut1 at hc
    rw [List.mem_append] at hc
    rcases hc with hc | hc
    · split at hc
      · simp at hc; subst hc
        simp only at h1 h2
        exact ⟨⟨q, hq, h1, by omega⟩, by omega⟩
      · simp at hc
    · split at hc
      · simp at hc; subst hc
        simp only at h1 h2
        exact ⟨⟨q, hq, by omega, h2⟩, by omega⟩
      · simp at hc
  · rintro ⟨⟨r, hr, h1, h2⟩, h3⟩
    by_cases hp : p < f
    · refine ⟨(r.1, min r.2 f), List.mem_flatMap.2 ⟨r, hr, ?_⟩, h1, by simp only; omega⟩
      unfold cut1
      rw [if_pos (by omega)]; simp
    · refine ⟨(max r.1 t, r.2), List.mem_flatMap.2 ⟨r, hr, ?_⟩, by simp only; omega, h2⟩
      unfold cut1
      rw [if_pos (show t < r.2 by omega)]; simp
theorem has_addR {f t : Int} (hft : f < t) : ∀ {l : List R} {f' t' : Int}, f' ≤ f → t ≤ t' → (Ranges.addR f' t' l).any (has1 f t) = true := by
  intro l
  induction l with
  | nil => intro f' t' h1 h2; simp [Ranges.addR, has1, h1, h2]
  | cons r l ih =>
    intro f' t' h1 h2
    unfold Ranges.addR
    split
    · rw [List.any_cons, ih h1 h2, Bool.or_true]
    · split
      · simp [has1, h1, h2]
      · exact ih (by omega) (by omega)
/-- how many of the places from f on, n of them, are there -/
def hasN (l : List R) (f : Int) : Nat → Int
  | 0 => 0
  | n + 1 => hasN l f n + if hasR (f + n) (f + n + 1) l then 1 else 0
def cutN (f t : Int) (l : List R) : Int := countR l - countR (cutR f t l)
theorem cutN_cons (f t : Int) (r : R) (l : List R) : cutN f t (r :: l) = (r.2 - r.1 - countR (cut1 f t r)) + cutN f t l := by
  unfold cutN
  show countR (r :: l) - countR (cut1 f t r ++ cutR f t l) = _
  rw [countR_cons, countR_app]; omega
theorem cut1_cnt {f t : Int} {r : R} (h : r.1 < r.2) (hf : f ≤ t) : r.2 - r.1 - countR (cut1 f t r) = max 0 (min r.2 t - max r.1 f) := by
  unfold cut1
  by_cases h1 : r.1 < f <;> by_cases h2 : t < r.2
  · rw [if_pos h1, if_pos h2]; simp [countR]; omega
  · rw [if_pos h1, if_neg h2]; simp [countR]; omega
  · rw [if_neg h1, if_pos h2]; simp [countR]; omega
  · rw [if_neg h1, if_neg h2]; simp [countR]; omega
theorem cutN_step {f k : Int} (hf : f ≤ k) : ∀ {l : List R} {b : Int}, WFr b l → cutN f (k + 1) l = cutN f k l + if hasR k (k + 1) l then 1 else 0 := by
  intro l
  induction l with
  | nil => intro b _; rw [if_neg (fun h => mem_nil (mem_has.1 h))]; rfl
  | cons r l ih =>
    intro b ⟨h1, h2, h3, h4⟩
    rw [cutN_cons, cutN_cons, ih h4, cut1_cnt h2 (by omega), cut1_cnt h2 hf]
    by_cases hm : mem l k
    · have := mem_lb h4 hm
      rw [if_pos (mem_has.2 hm), if_pos (mem_has.2 (mem_cons.2 (.inr hm)))]; omega
    · rw [if_neg (fun h => hm (mem_has.1 h))]
      by_cases hr : r.1 ≤ k ∧ k < r.2
      · rw [if_pos (mem_has.2 (mem_cons.2 (.inl hr)))]; omega
      · rw [if_neg (fun h => by rcases mem_cons.1 (mem_has.1 h) with h | h; exact hr h; exact hm h)]; omega
theorem hasN_cut {f b : Int} {l : List R} (hw : WFr b l) : ∀ n : Nat, hasN l f n = cutN f (f + n) l := by
  intro n
  induction n with
  | zero =>
    unfold hasN cutN
    rw [Int.natCast_zero, Int.add_zero]
    have : ∀ {l : List R} {b : Int}, WFr b l → countR (cutR f f l) = countR l := by
      intro l
      induction l with
      | nil => intro b _; rfl
      | cons r l ih =>
        intro b ⟨h1, h2, h3, h4⟩
        show countR (cut1 f f r ++ cutR f f l) = _
        rw [countR_app, countR_cons, ih h4]
        have := cut1_cnt (f := f) (t := f) h2 (Int.le_refl _)
        omega
    rw [this hw]; omega
  | succ n ih =>
    unfold hasN
    rw [ih, show f + ((n + 1 : Nat) : Int) = f + n + 1 by omega, cutN_step (by omega) hw]
end Go.Proofs.Ytekhpohcjfjhfaa.ctr
namespace Go.Proofs.Ytekhpohcjfjhfaa.ctr
open Go.Vm Go.RowKit Go.Ranges
set_option linter.unusedVariables false
set_option linter.unusedSimpArgs false
set_option linter.constructorNameAsVariable false
theorem ClOk.i {s : St} {c : Cl} (h : ClOk s c .i) : c.av = num c.z ∧ In64 c.z := by
  cases c <;> first | exact ⟨rfl, h⟩ | cases h
theorem ClOk.b {s : St} {c : Cl} (h : ClOk s c .b) : c.av = .bool c.x := by
  cases c <;> first | rfl | cases h
theorem ClOk.S {s : St} {c : Cl} (h : ClOk s c .S) : c.av = c.u ∧ RdE s c.u 1 encB c.l ∧ ∀ x ∈ c.l, In8 x := by
  cases c <;> first | exact ⟨rfl, h⟩ | cases h
theorem _root_.Go.Vm.RdE.fld {α : Type} {s : St} {v : AV} {sz : Nat} {enc : α → List AV} {l : List α} (h : RdE s v sz enc l) {i : Nat} {x : α} (hx : l[i]? = some x) {k : Nat} {c : AV} (hk : (enc x)[k]? = some c) :
    ob (s.heap.get (sblk v)) (rd1C (soff v + i * sz + k)) = some c := by
  obtain ⟨c', k', q1, q2⟩ := rd_sub (s := s) (b := sblk v) (o := soff v + i * sz) (n := sz) (h.at hx)
  obtain ⟨q3, q4⟩ := sub_some q2
  have hlt := (List.getElem?_eq_some_iff.1 hk).1
  rw [h.wid] at hlt
  rw [q1]
  show nth c' (soff v + i * sz + k) = _
  rw [nth_eq]
  have : ((c'.drop (soff v + i * sz)).take sz)[k]? = some c := by rw [← q4]; exact hk
  rw [List.getElem?_take, if_pos hlt, List.getElem?_drop] at this
  exact this
theorem _root_.Go.Vm.RdE.fld0 {α : Type} {s : St} {v : AV} {sz : Nat} {enc : α → List AV} {l : List α} (h : RdE s v sz enc l) {i : Nat} {x : α} (hx : l[i]? = some x) {c : AV} (hk : (enc x)[0]? = some c) :
    ob (s.heap.get (sblk v)) (rd1C (soff v + i * sz)) = some c := h.fld hx (k := 0) hk
/-! ## sets, as things that stand apart -/
def cutP (f t : Int) (l : List R) : List R := if max 0 f < min t far then cutR (max 0 f) (min t far) l else l
theorem addP_wf0 {f t : Int} {l : List R} (hw : WFr 0 l) : WFr 0 (addP f t l) := by
  unfold addP
  split
  · exact addR_wf hw (by omega) (by assumption) (by omega)
  · exact hw
theorem cutP_wf0 {f t : Int} {l : List R} (hw : WFr 0 l) : WFr 0 (cutP f t l) := by
  unfold cutP
  split
  · exact cutR_wf hw (by assumption)
  · exact hw
theorem addP_len {f t : Int} {l : List R} : (addP f t l).length ≤ l.length + 1 := by
  unfold addP
  split
  · exact addR_len
  · omega
theorem mem_addP0 {f t p : Int} {l : List R} (hw : WFr 0 l) (h0 : 0 ≤ f) (h1 : t ≤ 1000000) : mem (addP f t l) p ↔ mem l p ∨ (f ≤ p ∧ p < t) := by
  have hf : far = 1099511627776 := rfl
  unfold addP
  by_cases h : f < t
  · rw [show max 0 f = f by omega, show min t far = t by omega, if_pos h, mem_addR hw h]
  · rw [if_neg (by omega)]
    constructor
    · exact .inl
    · rintro (h | h)
      · exact h
      · omega
section
variable {bd : Bd} {h : VF} {fu : Nat}
theorem t_new (n : Nat) {s0 : St} (s : St) (Ps : List Obj) (hS : Sep s0 s Ps) : OutOk (callF bd (tab h).get fu (n + 1) 54 [] s) (fun x s' => ∃ p, Is x (.ptr p 0) ∧ Sep s0 s' (oS p [] :: Ps)) :=
  (s_new n s).mono fun x s' ⟨p, h1, h2, h3, h4⟩ => ⟨p, h1, hS.push (P := oS p []) h4 h3 (Nw.one h2)⟩
theorem t_add (hs : SortOk h) (n : Nat) {s0 : St} (s : St) (p : Nat) (l : List R) (Ps : List Obj) (f t : Int) (hS : Sep s0 s (oS p l :: Ps)) (hw : WFr 0 l) (hlen : l.length < fu) (hf : l.length < 100000) : OutOk (callF bd (tab h).get fu (n + 2) 55 [.ptr p 0, num f, num t] s) (fun x s' => Sep s0 s' (oS p (addP f t l) :: Ps)) := by
  obtain ⟨fp, k1, up⟩ := hS.hd
  exact (s_add hs n s p l fp f t k1 hw hlen hf).mono fun x s' ⟨f', r1, r2, r3⟩ => up (oS p (addP f t l)) r1 r2 r3
theorem t_cut (n : Nat) {s0 : St} (s : St) (p : Nat) (l : List R) (Ps : List Obj) (f t : Int) (hS : Sep s0 s (oS p l :: Ps)) (hw : WFr 0 l) (hlen : l.length < fu) (hfu : 10 < fu) (hf : l.length < 100000) : OutOk (callF bd (tab h).get fu (n + 2) 59 [.ptr p 0, num f, num t] s) (fun x s' => Sep s0 s' (oS p (cutP f t l) :: Ps)) := by
  obtain ⟨fp, k1, up⟩ := hS.hd
  exact (s_cut n s p l fp f t k1 hw hlen hfu hf).mono fun x s' ⟨f', r1, r2, r3⟩ => up (oS p (cutP f t l)) r1 r2 r3
theorem t_all (n : Nat) {s0 : St} (s : St) (p : Nat) (l : List R) (Ps : List Obj) (hS : Sep s0 s (oS p l :: Ps)) (hf : l.length < 1000000) : OutOk (callF bd (tab h).get fu (n + 2) 56 [.ptr p 0] s) (fun x s' => RdE s' x 2 encR l ∧ Sep s0 s' (oW x 2 encR l :: oS p l :: Ps)) := by
  obtain ⟨fp, k1, up⟩ := hS.hd
  exact (s_all n s p l fp k1 hf).mono fun x s' ⟨f', r1, r2, r3⟩ => ⟨r1.rd, hS.push (P := oW x 2 encR l) r1 r2 r3⟩
theorem t_first (n : Nat) {s0 : St} (s : St) (p : Nat) (l : List R) (Ps : List Obj) (hS : Sep s0 s (oS p l :: Ps)) : OutOk (callF bd (tab h).get fu (n + 1) 58 [.ptr p 0] s) (fun x s' => Is x (.tup [.agg (encR (l.headD (0, 0))), .bool (!l.isEmpty)]) ∧ Sep s0 s' (oS p l :: Ps)) := by
  obtain ⟨fp, k1, up⟩ := hS.hd
  exact (s_first n s p l fp k1).mono fun x s' ⟨r1, r2⟩ => ⟨r1, hS.fr r2⟩
theorem t_front (n : Nat) {s0 : St} (s : St) (p : Nat) (l : List R) (Ps : List Obj) (hS : Sep s0 s (oS p l :: Ps)) : OutOk (callF bd (tab h).get fu (n + 2) 60 [.ptr p 0] s) (fun x s' => Is x (num (frontR l)) ∧ Sep s0 s' (oS p l :: Ps)) := by
  obtain ⟨fp, k1, up⟩ := hS.hd
  exact (s_front n s p l fp k1).mono fun x s' ⟨r1, r2⟩ => ⟨r1, hS.fr r2⟩
theorem t_count (n : Nat) {s0 : St} (s : St) (p : Nat) (l : List R) (Ps : List Obj) (hS : Sep s0 s (oS p l :: Ps)) (hw : WFr 0 l) (hlen : l.length < fu) (hf : l.length < 100000) : OutOk (callF bd (tab h).get fu (n + 1) 57 [.ptr p 0] s) (fun x s' => Is x (num (countR l)) ∧ Sep s0 s' (oS p l :: Ps)) := by
  obtain ⟨fp, k1, up⟩ := hS.hd
  exact (s_count n s p l fp k1 hw hlen hf).mono fun x s' ⟨r1, r2⟩ => ⟨r1, hS.fr r2⟩
theorem t_has (n : Nat) {s0 : St} (s : St) (p : Nat) (l : List R) (Ps : List Obj) (f t : Int) (hS : Sep s0 s (oS p l :: Ps)) (hlen : l.length < fu) (hf : l.length < 100000) : OutOk (callF bd (tab h).get fu (n + 4) 63 [.ptr p 0, num f, num t] s) (fun x s' => Is x (.bool (hasR f t l)) ∧ Sep s0 s' (oS p l :: Ps)) := by
  obtain ⟨fp, k1, up⟩ := hS.hd
  exact (s_has n s p l fp f t k1 hlen hf).mono fun x s' ⟨r1, r2⟩ => ⟨r1, hS.fr r2⟩
theorem sameR (n : Nat) (s : St) (v w : AV) (l m : List R) (hv : RdE s v 2 encR l) (hw : RdE s w 2 encR m) (hlen : l.length < fu) (hf : l.length < 4611686018427387904) :
    OutOk (callF bd (tab h).get fu (n + 1) 62 [v, w] s) (fun x s' => Is x (.bool (decide (l = m))) ∧ Is s' s) := by
  refine call_code (t62 h) rfl ?_
  by_cases hl : l.length = m.length
  · simp (disch := omega) only [vm0, vm1, vm2, vm3, vm4, vm5, vm6, vm7, fPick, fBox, fBuild, fBsl, fLd, fLda, fSt, fNilc, fBin, fEq, fUn, fMkf, fFa, fFld, fFlda, fExt, evo, wr, wrC, frame, Bool.not_true, Bool.not_false, beq_self_eq_true, List.cons_append, List.nil_append, Nat.add_zero, Nat.zero_add, Nat.reduceAdd, Nat.reduceMul, Nat.reduceSub, Bool.and_true, Bool.true_and, Bool.and_self, beq_dec, fApp, Int.toNat_natCast, Nat.sub_zero, vc62, hv.lenV, hw.lenV]
    refine x_loop (fun k F s' => ∃ i : Nat, ∃ z x4 x5, k = l.length - i ∧ i ≤ l.length ∧ z = (i : Int) ∧ F = [some v, some w, some (num z), some (.bool false), x4, x5, some (.bool false)] ∧ s' = s ∧ l.take i = m.take i) l.length (by omega) ?_ ?_
    · exact ⟨0, _, _, _, by omega, by omega, rfl, rfl, rfl, by simp⟩
    · rintro k F s1 ⟨i, _, x4, x5, rfl, hi, rfl, rfl, rfl, ht⟩ hm
      by_cases hlt : i < l.length
      · obtain ⟨x, hx⟩ : ∃ x, l[i]? = some x := ⟨_, List.getElem?_eq_getElem hlt⟩
        obtain ⟨y, hy⟩ : ∃ y, m[i]? = some y := ⟨_, List.getElem?_eq_getElem (by omega)⟩
        have e1 := hv.ia hx
        have e2 := hv.at hx
        have e3 := hw.ia hy
        have e4 := hw.at hy
        have ht' : l.take (i + 1) = l.take i ++ [x] := by rw [List.take_add_one, hx]; rfl
        have ht2 : m.take (i + 1) = m.take i ++ [y] := by rw [List.take_add_one, hy]; rfl
        by_cases hxy : x = y
        · subst hxy
          simp (disch := omega) only [vm0, vm1, vm2, vm3, vm4, vm5, vm6, vm7, fPick, fBox, fBuild, fBsl, fLd, fLda, fSt, fNilc, fBin, fEq, fUn, fMkf, fFa, fFld, fFlda, fExt, evo, wr, wrC, frame, Bool.not_true, Bool.not_false, beq_self_eq_true, List.cons_append, List.nil_append, Nat.add_zero, Nat.zero_add, Nat.reduceAdd, Nat.reduceMul, Nat.reduceSub, Bool.and_true, Bool.true_and, Bool.and_self, beq_dec, fApp, Int.toNat_natCast, Nat.sub_zero, hv.lenV, e1, e2, e3, e4, eqR, decide_true, wr64]
          exact ⟨l.length - (i + 1), by omega, i + 1, _, _, _, rfl, by omega, by omega, rfl, rfl, by rw [ht', ht2, ht]⟩
        · simp (disch := omega) only [vm0, vm1, vm2, vm3, vm4, vm5, vm6, vm7, fPick, fBox, fBuild, fBsl, fLd, fLda, fSt, fNilc, fBin, fEq, fUn, fMkf, fFa, fFld, fFlda, fExt, evo, wr, wrC, frame, Bool.not_true, Bool.not_false, beq_self_eq_true, List.cons_append, List.nil_append, Nat.add_zero, Nat.zero_add, Nat.reduceAdd, Nat.reduceMul, Nat.reduceSub, Bool.and_true, Bool.true_and, Bool.and_self, beq_dec, fApp, Int.toNat_natCast, Nat.sub_zero, hv.lenV, e1, e2, e3, e4, eqR, eqR, decide_eq_false hxy, Bool.not_false, wr64]
          refine ⟨?_, rfl⟩
          rw [decide_eq_false]; rfl
          rintro rfl
          rw [hx] at hy; cases hy; exact hxy rfl
      · simp (disch := omega) only [vm0, vm1, vm2, vm3, vm4, vm5, vm6, vm7, fPick, fBox, fBuild, fBsl, fLd, fLda, fSt, fNilc, fBin, fEq, fUn, fMkf, fFa, fFld, fFlda, fExt, evo, wr, wrC, frame, Bool.not_true, Bool.not_false, beq_self_eq_true, List.cons_append, List.nil_append, Nat.add_zero, Nat.zero_add, Nat.reduceAdd, Nat.reduceMul, Nat.reduceSub, Bool.and_true, Bool.true_and, Bool.and_self, beq_dec, fApp, Int.toNat_natCast, Nat.sub_zero, hv.lenV]
        refine ⟨?_, rfl⟩
        rw [decide_eq_true]; rfl
        rw [List.take_of_length_le (by omega), List.take_of_length_le (by omega)] at ht
        exact ht
  · simp (disch := omega) only [vm0, vm1, vm2, vm3, vm4, vm5, vm6, vm7, fPick, fBox, fBuild, fBsl, fLd, fLda, fSt, fNilc, fBin, fEq, fUn, fMkf, fFa, fFld, fFlda, fExt, evo, wr, wrC, frame, Bool.not_true, Bool.not_false, beq_self_eq_true, List.cons_append, List.nil_append, Nat.add_zero, Nat.zero_add, Nat.reduceAdd, Nat.reduceMul, Nat.reduceSub, Bool.and_true, Bool.true_and, Bool.and_self, beq_dec, fApp, Int.toNat_natCast, Nat.sub_zero, vc62, hv.lenV, hw.lenV]
    refine ⟨?_, rfl⟩
    rw [decide_eq_false]; rfl
    rintro rfl; exact hl rfl
/-! ## acts of the laws of chapter 5 -/
structure A5 where
  f : Int
  t : Int
  c : Bool
  r : Bool
def encA (x : A5) : List AV := [num x.f, num x.t, .bool x.c, .bool x.r]
theorem encA_w : ∀ x, (encA x).length = 4 := fun _ => rfl
theorem _root_.Go.Vm.Arg0.acts5 {E : Env} {s : St} {w : World} (h : Arg0 E s w) {a : Option Addr} {len cap : Nat} {V : Nat → Value} (hq : IsRowV w a len cap 4 V) (hk : ∀ i, i < cap * 4 → FkOk w (([.i, .i, .b, .b] : List Fk).getD (i % 4) .i) (V i)) :
    ∃ v E' s' l, Arg0 E' s' w ∧ E.le E' ∧ Fr s s' [] ∧ VR rho0 E' v (.slice a len cap) ∧ RdE s' v 4 encA l ∧ ∀ x ∈ l, In64 x.f ∧ In64 x.t := by
  obtain ⟨v, E', s', l, h1, h2, h3, h4, h5, _, h6⟩ := h.recs (ks := [.i, .i, .b, .b]) hq hk (by decide) encA (fun f => ⟨(f 0).z, (f 1).z, (f 2).x, (f 3).x⟩) encA_w (by
    intro s f hf j hj
    have hj : j < 4 := hj
    have k0 : ClOk s (f 0) .i := hf 0 (by decide)
    have k1 : ClOk s (f 1) .i := hf 1 (by decide)
    have k2 : ClOk s (f 2) .b := hf 2 (by decide)
    have k3 : ClOk s (f 3) .b := hf 3 (by decide)
    rcases j with _ | _ | _ | _ | j
    · rw [k0.i.1]; rfl
    · rw [k1.i.1]; rfl
    · rw [k2.b]; rfl
    · rw [k3.b]; rfl
    · omega)
  refine ⟨v, E', s', l, h1, h2, h3, h4, h5, fun x hx => ?_⟩
  obtain ⟨f, rfl, hf⟩ := h6 x hx
  have k0 : ClOk s' (f 0) .i := hf 0 (by decide)
  have k1 : ClOk s' (f 1) .i := hf 1 (by decide)
  exact ⟨k0.i.2, k1.i.2⟩
theorem wakes05 (hs : SortOk h) (n : Nat) (s : St) (hfu : 10 < fu) : OutOk (callF bd (tab h).get fu (n + 3) 61 [] s) (fun x s' => Is x (.bool true)) := by
  refine call_code (t61 h) rfl ?_
  have hS0 : Sep s s [] := .nil
  simp (disch := omega) only [vm0, vm1, vm2, vm3, vm4, vm5, vm6, vm7, fPick, fBox, fBuild, fBsl, fLd, fLda, fSt, fNilc, fBin, fEq, fUn, fMkf, fFa, fFld, fFlda, fExt, evo, wr, wrC, frame, Bool.not_true, Bool.not_false, beq_self_eq_true, List.cons_append, List.nil_append, Nat.add_zero, Nat.zero_add, Nat.reduceAdd, Nat.reduceMul, Nat.reduceSub, Bool.and_true, Bool.true_and, Bool.and_self, beq_dec, fApp, Int.toNat_natCast, Nat.sub_zero, vmI, vc61]
  refine call_ok rfl rfl (t_new (n + 1) s [] hS0) ?_
  rintro x s1 ⟨p, rfl, hS1⟩
  simp (disch := omega) only [vm0, vm1, vm2, vm3, vm4, vm5, vm6, vm7, fPick, fBox, fBuild, fBsl, fLd, fLda, fSt, fNilc, fBin, fEq, fUn, fMkf, fFa, fFld, fFlda, fExt, evo, wr, wrC, frame, Bool.not_true, Bool.not_false, beq_self_eq_true, List.cons_append, List.nil_append, Nat.add_zero, Nat.zero_add, Nat.reduceAdd, Nat.reduceMul, Nat.reduceSub, Bool.and_true, Bool.true_and, Bool.and_self, beq_dec, fApp, Int.toNat_natCast, Nat.sub_zero, vmI]
  refine call_ok rfl rfl (t_add hs n s1 p _ [] 2 5 hS1 trivial (by simp; omega) (by simp)) ?_
  rintro x s2 hS2
  have e1 : addP 2 5 [] = [(2, 5)] := by decide
  rw [e1] at hS2
  simp (disch := omega) only [vm0, vm1, vm2, vm3, vm4, vm5, vm6, vm7, fPick, fBox, fBuild, fBsl, fLd, fLda, fSt, fNilc, fBin, fEq, fUn, fMkf, fFa, fFld, fFlda, fExt, evo, wr, wrC, frame, Bool.not_true, Bool.not_false, beq_self_eq_true, List.cons_append, List.nil_append, Nat.add_zero, Nat.zero_add, Nat.reduceAdd, Nat.reduceMul, Nat.reduceSub, Bool.and_true, Bool.true_and, Bool.and_self, beq_dec, fApp, Int.toNat_natCast, Nat.sub_zero, vmI]
  refine call_ok rfl rfl (t_add hs n s2 p _ [] 5 7 hS2 ⟨by decide, by decide, by decide, trivial⟩ (by simp; omega) (by simp)) ?_
  rintro x s3 hS3
  have e2 : addP 5 7 [(2, 5)] = [(2, 7)] := by decide
  rw [e2] at hS3
  simp (disch := omega) only [vm0, vm1, vm2, vm3, vm4, vm5, vm6, vm7, fPick, fBox, fBuild, fBsl, fLd, fLda, fSt, fNilc, fBin, fEq, fUn, fMkf, fFa, fFld, fFlda, fExt, evo, wr, wrC, frame, Bool.not_true, Bool.not_false, beq_self_eq_true, List.cons_append, List.nil_append, Nat.add_zero, Nat.zero_add, Nat.reduceAdd, Nat.reduceMul, Nat.reduceSub, Bool.and_true, Bool.true_and, Bool.and_self, beq_dec, fApp, Int.toNat_natCast, Nat.sub_zero, vmI]
  refine call_ok rfl rfl (t_all n s3 p _ [] hS3 (by simp)) ?_
  rintro x s4 ⟨r1, hS4⟩
  simp (disch := omega) only [vm0, vm1, vm2, vm3, vm4, vm5, vm6, vm7, fPick, fBox, fBuild, fBsl, fLd, fLda, fSt, fNilc, fBin, fEq, fUn, fMkf, fFa, fFld, fFlda, fExt, evo, wr, wrC, frame, Bool.not_true, Bool.not_false, beq_self_eq_true, List.cons_append, List.nil_append, Nat.add_zero, Nat.zero_add, Nat.reduceAdd, Nat.reduceMul, Nat.reduceSub, Bool.and_true, Bool.true_and, Bool.and_self, beq_dec, fApp, Int.toNat_natCast, Nat.sub_zero, vmI]
  have hp2 : OwE (s4.new (.cells [num 2, num 7] .own)) (.sl s4.next 0 1 1 true 2) 2 encR [(2, 7)] [s4.next] :=
    ⟨.mk (J := []) (get_new_eq rfl) rfl (Nat.le_refl _), encR_w, by omega, by intro z hz; simp at hz; subst hz; rw [next_new]; omega⟩
  refine call_ok rfl rfl (sameR (n + 1) _ x _ [(2, 7)] [(2, 7)] (r1.fr0 .new) hp2.rd (by simp; omega) (by simp)) ?_
  rintro x s5 ⟨rfl, rfl⟩
  simp (disch := omega) only [vm0, vm1, vm2, vm3, vm4, vm5, vm6, vm7, fPick, fBox, fBuild, fBsl, fLd, fLda, fSt, fNilc, fBin, fEq, fUn, fMkf, fFa, fFld, fFlda, fExt, evo, wr, wrC, frame, Bool.not_true, Bool.not_false, beq_self_eq_true, List.cons_append, List.nil_append, Nat.add_zero, Nat.zero_add, Nat.reduceAdd, Nat.reduceMul, Nat.reduceSub, Bool.and_true, Bool.true_and, Bool.and_self, beq_dec, fApp, Int.toNat_natCast, Nat.sub_zero, vmI]
  rfl
end
end Go.Proofs.Ytekhpohcjfjhfaa.ctr
namespace Go.Proofs.Ytekhpohcjfjhfaa.ctr
open Go.Vm Go.RowKit Go.Ranges
set_option linter.unusedVariables false
set_option linter.unusedSimpArgs false
set_option linter.constructorNameAsVariable false
theorem drop_of {α : Type} {l : List α} {i : Nat} {x : α} (h : l[i]? = some x) : l.drop i = x :: l.drop (i + 1) := by
  obtain ⟨h1, h2⟩ := List.getElem?_eq_some_iff.1 h
  rw [List.drop_eq_getElem_cons h1, h2]
theorem WFr.drop0 : ∀ {l : List R} {b : Int} (i : Nat), WFr b l → 0 ≤ b → WFr 0 (l.drop i)
  | [], _, i, _, _ => by simp; trivial
  | r :: l, b, 0, h, hb => WFr.mono hb h
  | r :: l, b, i + 1, ⟨h1, h2, h3, h4⟩, hb => by rw [List.drop_succ_cons]; exact WFr.drop0 i h4 (by omega)
theorem Sep.cell {s0 s : St} {Ps : List Obj} (h : Sep s0 s Ps) (c0 c : List AV) : Sep s0 ((s.new (.cells c0 .own)).put s.next (some (.cells c .own))) (oC s.next c :: Ps) :=
  h.push (P := oC s.next c) ⟨get_put_eq rfl, by rw [next_put, next_new]; omega, rfl⟩ (by (repeat' (first | exact Fr.refl | assumption | apply Fr.new' | apply Fr.mk' | apply Fr.put')) <;> (first | omega | (left; simp; done) | (right; simp only [next_put, next_new, next_mk]; omega) | (simp only [next_put, next_new, next_mk]; omega))) (Nw.one (Nat.le_refl _))
theorem Sep.getC {s0 s : St} {b : Nat} {c : List AV} {Ps : List Obj} (h : Sep s0 s (oC b c :: Ps)) : s.heap.get b = some (.cells c .own) := by
  obtain ⟨f, k, up⟩ := h.hd; exact k.1
section
variable {bd : Bd} {h : VF} {fu : Nat}
theorem first_e (hs : SortOk h) (n : Nat) (s s5 : St) (p : Nat) (a : AV) (L : List R) (f0 f2 f3 f5 f6 f7 f8 f9 f10 f11 f12 f13 f14 f15 f16 f17 f18 f19 f20 f21 f22 : Option AV) (hfu : 4000 < fu) (hS5 : Sep s s5 [oS p [], oW a 2 encR L]) :
    RsOk (exec bd (callF bd (tab h).get fu (n + 5)) fu vc10_4 [f0, some (.ptr p 0), f2, f3, some (num 0), f5, f6, f7, f8, f9, f10, f11, f12, f13, f14, f15, f16, f17, f18, f19, f20, f21, f22] s5) (retQ [.tmp 22] fun x s' => Is x (.bool true)) := by
  simp (disch := omega) only [vm0, vm1, vm2, vm3, vm4, vm5, vm6, vm7, fPick, fBox, fBuild, fBsl, fLd, fLda, fSt, fNilc, fBin, fEq, fUn, fMkf, fFa, fFld, fFlda, fExt, evo, wr, wrC, frame, Bool.not_true, Bool.not_false, beq_self_eq_true, List.cons_append, List.nil_append, Nat.add_zero, Nat.zero_add, Nat.reduceAdd, Nat.reduceMul, Nat.reduceSub, Bool.and_true, Bool.true_and, Bool.and_self, beq_dec, fApp, Int.toNat_natCast, Nat.sub_zero, vmI, vc10_4]
  refine call_ok rfl rfl (t_first (n + 4) s5 p [] _ hS5) ?_
  rintro x s6 ⟨rfl, hS6⟩
  rw [List.headD_nil, List.isEmpty_nil]
  have hS7 := hS6.cell [num 0, num 0] [num 0, num 0]
  simp (disch := omega) only [vm0, vm1, vm2, vm3, vm4, vm5, vm6, vm7, fPick, fBox, fBuild, fBsl, fLd, fLda, fSt, fNilc, fBin, fEq, fUn, fMkf, fFa, fFld, fFlda, fExt, evo, wr, wrC, frame, Bool.not_true, Bool.not_false, beq_self_eq_true, List.cons_append, List.nil_append, Nat.add_zero, Nat.zero_add, Nat.reduceAdd, Nat.reduceMul, Nat.reduceSub, Bool.and_true, Bool.true_and, Bool.and_self, beq_dec, fApp, Int.toNat_natCast, Nat.sub_zero, vmI, encR]
  generalize (s6.new (.cells [.int .i64 (.c 0), .int .i64 (.c 0)] .own)).put s6.next (some (.cells [num 0, num 0] .own)) = s7 at *
  generalize s6.next = b at *
  refine call_ok rfl rfl (t_all (n + 3) s7 p [] _ hS7.swap (by simp)) ?_
  rintro x s8 ⟨k8, hS8⟩
  have e8 := k8.lenV
  rw [List.length_nil] at e8
  simp (disch := omega) only [vm0, vm1, vm2, vm3, vm4, vm5, vm6, vm7, fPick, fBox, fBuild, fBsl, fLd, fLda, fSt, fNilc, fBin, fEq, fUn, fMkf, fFa, fFld, fFlda, fExt, evo, wr, wrC, frame, Bool.not_true, Bool.not_false, beq_self_eq_true, List.cons_append, List.nil_append, Nat.add_zero, Nat.zero_add, Nat.reduceAdd, Nat.reduceMul, Nat.reduceSub, Bool.and_true, Bool.true_and, Bool.and_self, beq_dec, fApp, Int.toNat_natCast, Nat.sub_zero, vmI, e8]
  refine call_ok rfl rfl (t_front (n + 3) s8 p [] _ hS8.swap) ?_
  rintro x s9 ⟨rfl, hS9⟩
  rw [show frontR [] = 0 from rfl]
  simp (disch := omega) only [vm0, vm1, vm2, vm3, vm4, vm5, vm6, vm7, fPick, fBox, fBuild, fBsl, fLd, fLda, fSt, fNilc, fBin, fEq, fUn, fMkf, fFa, fFld, fFlda, fExt, evo, wr, wrC, frame, Bool.not_true, Bool.not_false, beq_self_eq_true, List.cons_append, List.nil_append, Nat.add_zero, Nat.zero_add, Nat.reduceAdd, Nat.reduceMul, Nat.reduceSub, Bool.and_true, Bool.true_and, Bool.and_self, beq_dec, fApp, Int.toNat_natCast, Nat.sub_zero, vmI]
  refine call_ok rfl rfl (wakes05 hs (n + 2) s9 (by omega)) ?_
  rintro x s10 rfl
  simp (disch := omega) only [vm0, vm1, vm2, vm3, vm4, vm5, vm6, vm7, fPick, fBox, fBuild, fBsl, fLd, fLda, fSt, fNilc, fBin, fEq, fUn, fMkf, fFa, fFld, fFlda, fExt, evo, wr, wrC, frame, Bool.not_true, Bool.not_false, beq_self_eq_true, List.cons_append, List.nil_append, Nat.add_zero, Nat.zero_add, Nat.reduceAdd, Nat.reduceMul, Nat.reduceSub, Bool.and_true, Bool.true_and, Bool.and_self, beq_dec, fApp, Int.toNat_natCast, Nat.sub_zero, vmI]
  rfl
theorem first_t (hs : SortOk h) (n : Nat) (s s2 : St) (v : AV) (i : Nat) (x7 x9 : Option AV) (p : Nat) (L : List R) (hS2 : Sep s s2 [oS p L]) (hw : WFr 0 L) (hL : L.length ≤ 14) (hfu : 4000 < fu) :
    RsOk (exec bd (callF bd (tab h).get fu (n + 5)) fu vc10_5 [some v, some (.ptr p 0), none, some (num (i : Int)), none, none, none, x7, some (.bool false), x9, none, none, none, none, none, none, none, none, none, none, none, none, some (.bool false)] s2) (retQ [.tmp 22] fun x s' => Is x (.bool true)) := by
  have hfar : far = 1099511627776 := rfl
  simp (disch := omega) only [vm0, vm1, vm2, vm3, vm4, vm5, vm6, vm7, fPick, fBox, fBuild, fBsl, fLd, fLda, fSt, fNilc, fBin, fEq, fUn, fMkf, fFa, fFld, fFlda, fExt, evo, wr, wrC, frame, Bool.not_true, Bool.not_false, beq_self_eq_true, List.cons_append, List.nil_append, Nat.add_zero, Nat.zero_add, Nat.reduceAdd, Nat.reduceMul, Nat.reduceSub, Bool.and_true, Bool.true_and, Bool.and_self, beq_dec, fApp, Int.toNat_natCast, Nat.sub_zero, vmI, vc10_5]
  refine call_ok rfl rfl (t_all (n + 3) s2 p L [] hS2 (by omega)) ?_
  rintro a s3 ⟨k3, hS3⟩
  simp (disch := omega) only [vm0, vm1, vm2, vm3, vm4, vm5, vm6, vm7, fPick, fBox, fBuild, fBsl, fLd, fLda, fSt, fNilc, fBin, fEq, fUn, fMkf, fFa, fFld, fFlda, fExt, evo, wr, wrC, frame, Bool.not_true, Bool.not_false, beq_self_eq_true, List.cons_append, List.nil_append, Nat.add_zero, Nat.zero_add, Nat.reduceAdd, Nat.reduceMul, Nat.reduceSub, Bool.and_true, Bool.true_and, Bool.and_self, beq_dec, fApp, Int.toNat_natCast, Nat.sub_zero, vmI]
  refine call_ok rfl rfl (t_count (n + 4) s3 p L _ hS3.swap hw (by omega) (by omega)) ?_
  rintro x s4 ⟨rfl, hS4⟩
  have k4 : RdE s4 a 2 encR L := by obtain ⟨f, k, up⟩ := hS4.swap.hd; exact k.rd
  have e4 := k4.lenV
  simp (disch := omega) only [vm0, vm1, vm2, vm3, vm4, vm5, vm6, vm7, fPick, fBox, fBuild, fBsl, fLd, fLda, fSt, fNilc, fBin, fEq, fUn, fMkf, fFa, fFld, fFlda, fExt, evo, wr, wrC, frame, Bool.not_true, Bool.not_false, beq_self_eq_true, List.cons_append, List.nil_append, Nat.add_zero, Nat.zero_add, Nat.reduceAdd, Nat.reduceMul, Nat.reduceSub, Bool.and_true, Bool.true_and, Bool.and_self, beq_dec, fApp, Int.toNat_natCast, Nat.sub_zero, vmI, e4]
  refine x_loop (fun m F s' => ∃ j : Nat, ∃ y2 y6 y12 y14 y15 y16 y17 y18 y19 y20, m = L.length - j ∧ j ≤ L.length ∧ F = [some v, some (.ptr p 0), y2, some (num (i : Int)), some (num (countR (L.drop j))), some (num (j : Int)), y6, x7, some (.bool false), x9, some a, some (num (L.length : Int)), y12, some a, y14, y15, y16, y17, y18, y19, y20, none, some (.bool false)] ∧ Sep s s' [oS p (L.drop j), oW a 2 encR L]) L.length (by omega) ?_ ?_
  · exact ⟨0, _, _, _, _, _, _, _, _, _, _, by omega, by omega, rfl, hS4⟩
  · rintro m F s5 ⟨j, y2, y6, y12, y14, y15, y16, y17, y18, y19, y20, rfl, hj, rfl, hS5⟩ hm
    have k5 : RdE s5 a 2 encR L := by obtain ⟨f, k, up⟩ := hS5.swap.hd; exact k.rd
    have hwj := WFr.drop0 j hw (Int.le_refl 0)
    by_cases hlt : j < L.length
    · obtain ⟨x, hx⟩ : ∃ x, L[j]? = some x := ⟨_, List.getElem?_eq_getElem hlt⟩
      have hdr : L.drop j = x :: L.drop (j + 1) := drop_of hx
      obtain ⟨f, t⟩ := x
      have e5 := k5.ia hx
      have e6 := k5.at hx
      rw [hdr] at hS5 hwj
      have hc := countR_cons (f, t) (L.drop (j + 1))
      rw [← hdr] at hc
      have hw2 := WFr.drop0 (j + 1) hw (Int.le_refl 0)
      obtain ⟨c1, c2⟩ := countR_in hw2 (Int.le_refl 0)
      obtain ⟨w1, w2, w3, w4⟩ := hwj
      generalize hT : L.drop (j + 1) = T at *
      simp (disch := omega) only [vm0, vm1, vm2, vm3, vm4, vm5, vm6, vm7, fPick, fBox, fBuild, fBsl, fLd, fLda, fSt, fNilc, fBin, fEq, fUn, fMkf, fFa, fFld, fFlda, fExt, evo, wr, wrC, frame, Bool.not_true, Bool.not_false, beq_self_eq_true, List.cons_append, List.nil_append, Nat.add_zero, Nat.zero_add, Nat.reduceAdd, Nat.reduceMul, Nat.reduceSub, Bool.and_true, Bool.true_and, Bool.and_self, beq_dec, fApp, Int.toNat_natCast, Nat.sub_zero, vmI, vc10_3, vc10_2, e5, e6, encR]
      have hS6 := hS5.cell [num 0, num 0] [num f, num t]
      generalize (s5.new (.cells [.int .i64 (.c 0), .int .i64 (.c 0)] .own)).put s5.next (some (.cells [num f, num t] .own)) = s6 at *
      generalize s5.next = b1 at *
      refine call_ok rfl rfl (t_first (n + 4) s6 p _ _ hS6.swap) ?_
      rintro x s7 ⟨rfl, hS7⟩
      rw [List.headD_cons, List.isEmpty_cons]
      simp (disch := omega) only [vm0, vm1, vm2, vm3, vm4, vm5, vm6, vm7, fPick, fBox, fBuild, fBsl, fLd, fLda, fSt, fNilc, fBin, fEq, fUn, fMkf, fFa, fFld, fFlda, fExt, evo, wr, wrC, frame, Bool.not_true, Bool.not_false, beq_self_eq_true, List.cons_append, List.nil_append, Nat.add_zero, Nat.zero_add, Nat.reduceAdd, Nat.reduceMul, Nat.reduceSub, Bool.and_true, Bool.true_and, Bool.and_self, beq_dec, fApp, Int.toNat_natCast, Nat.sub_zero, vmI, encR]
      have hS8 := hS7.cell [num 0, num 0] [num f, num t]
      generalize (s7.new (.cells [.int .i64 (.c 0), .int .i64 (.c 0)] .own)).put s7.next (some (.cells [num f, num t] .own)) = s8 at *
      generalize s7.next = b2 at *
      have g1 : s8.heap.get b2 = some (.cells [num f, num t] .own) := hS8.getC
      have g2 : s8.heap.get b1 = some (.cells [num f, num t] .own) := hS8.up2.getC
      have h20 : (2 : Int) ≠ 0 := by decide
      obtain ⟨M, hM⟩ : ∃ M, (f + t).tdiv 2 = M := ⟨_, rfl⟩
      have hM2 : f ≤ M ∧ M < t ∧ 2 * M ≤ f + t ∧ f + t ≤ 2 * M + 1 := by
        simp only at w1 w2
        rw [Int.tdiv_eq_ediv_of_nonneg (by omega)] at hM; omega
      simp only at w1 w2 w3 hc
      simp (disch := omega) only [vm0, vm1, vm2, vm3, vm4, vm5, vm6, vm7, fPick, fBox, fBuild, fBsl, fLd, fLda, fSt, fNilc, fBin, fEq, fUn, fMkf, fFa, fFld, fFlda, fExt, evo, wr, wrC, frame, Bool.not_true, Bool.not_false, beq_self_eq_true, List.cons_append, List.nil_append, Nat.add_zero, Nat.zero_add, Nat.reduceAdd, Nat.reduceMul, Nat.reduceSub, Bool.and_true, Bool.true_and, Bool.and_self, beq_dec, fApp, Int.toNat_natCast, Nat.sub_zero, vmI, g1, g2, b_quo h20, hM]
      refine call_ok rfl rfl (t_cut (n + 3) s8 p _ _ f M hS8.swap (by exact ⟨w1, w2, w3, w4⟩) (by rw [← hdr, List.length_drop]; omega) (by omega) (by rw [← hdr, List.length_drop]; omega)) ?_
      rintro x s9 hS9
      have hcut : cutP f M ((f, t) :: T) = (M, t) :: T := by
        unfold cutP
        rw [show max 0 f = f by omega, show min M far = M by omega]
        by_cases hfm : f < M
        · rw [if_pos hfm, cutR_head1 ⟨w1, w2, w3, w4⟩ hfm (by omega)]
        · rw [if_neg hfm, show f = M by omega]
      rw [hcut] at hS9
      simp (disch := omega) only [vm0, vm1, vm2, vm3, vm4, vm5, vm6, vm7, fPick, fBox, fBuild, fBsl, fLd, fLda, fSt, fNilc, fBin, fEq, fUn, fMkf, fFa, fFld, fFlda, fExt, evo, wr, wrC, frame, Bool.not_true, Bool.not_false, beq_self_eq_true, List.cons_append, List.nil_append, Nat.add_zero, Nat.zero_add, Nat.reduceAdd, Nat.reduceMul, Nat.reduceSub, Bool.and_true, Bool.true_and, Bool.and_self, beq_dec, fApp, Int.toNat_natCast, Nat.sub_zero, vmI]
      refine call_ok rfl rfl (t_first (n + 4) s9 p _ _ hS9) ?_
      rintro x s10 ⟨rfl, hS10⟩
      rw [List.headD_cons, List.isEmpty_cons]
      have hS11 := hS10.cell [num 0, num 0] [num M, num t]
      simp (disch := omega) only [vm0, vm1, vm2, vm3, vm4, vm5, vm6, vm7, fPick, fBox, fBuild, fBsl, fLd, fLda, fSt, fNilc, fBin, fEq, fUn, fMkf, fFa, fFld, fFlda, fExt, evo, wr, wrC, frame, Bool.not_true, Bool.not_false, beq_self_eq_true, List.cons_append, List.nil_append, Nat.add_zero, Nat.zero_add, Nat.reduceAdd, Nat.reduceMul, Nat.reduceSub, Bool.and_true, Bool.true_and, Bool.and_self, beq_dec, fApp, Int.toNat_natCast, Nat.sub_zero, vmI, encR]
      generalize (s10.new (.cells [.int .i64 (.c 0), .int .i64 (.c 0)] .own)).put s10.next (some (.cells [num M, num t] .own)) = s11 at *
      generalize s10.next = b3 at *
      have g3 : s11.heap.get b3 = some (.cells [num M, num t] .own) := hS11.getC
      have g4 : s11.heap.get b2 = some (.cells [num f, num t] .own) := hS11.up2.getC
      simp (disch := omega) only [vm0, vm1, vm2, vm3, vm4, vm5, vm6, vm7, fPick, fBox, fBuild, fBsl, fLd, fLda, fSt, fNilc, fBin, fEq, fUn, fMkf, fFa, fFld, fFlda, fExt, evo, wr, wrC, frame, Bool.not_true, Bool.not_false, beq_self_eq_true, List.cons_append, List.nil_append, Nat.add_zero, Nat.zero_add, Nat.reduceAdd, Nat.reduceMul, Nat.reduceSub, Bool.and_true, Bool.true_and, Bool.and_self, beq_dec, fApp, Int.toNat_natCast, Nat.sub_zero, vmI, g3, g4]
      have hTl : T.length = L.length - (j + 1) := by rw [← hT, List.length_drop]
      have hwM : WFr 0 ((M, t) :: T) := ⟨by simp only; omega, by simp only; omega, w3, w4⟩
      refine call_ok rfl rfl (t_cut (n + 3) s11 p _ _ M t hS11.swap hwM (by rw [List.length_cons]; omega) (by omega) (by rw [List.length_cons]; omega)) ?_
      rintro x s12 hS12
      have hcut2 : cutP M t ((M, t) :: T) = T := by
        unfold cutP
        rw [show max 0 M = M by omega, show min t far = t by omega, if_pos (by omega), cutR_head2 hwM]
      rw [hcut2] at hS12
      simp (disch := omega) only [vm0, vm1, vm2, vm3, vm4, vm5, vm6, vm7, fPick, fBox, fBuild, fBsl, fLd, fLda, fSt, fNilc, fBin, fEq, fUn, fMkf, fFa, fFld, fFlda, fExt, evo, wr, wrC, frame, Bool.not_true, Bool.not_false, beq_self_eq_true, List.cons_append, List.nil_append, Nat.add_zero, Nat.zero_add, Nat.reduceAdd, Nat.reduceMul, Nat.reduceSub, Bool.and_true, Bool.true_and, Bool.and_self, beq_dec, fApp, Int.toNat_natCast, Nat.sub_zero, vmI]
      refine call_ok rfl rfl (t_count (n + 4) s12 p T _ hS12 hw2 (by omega) (by omega)) ?_
      rintro x s13 ⟨rfl, hS13⟩
      have hcz : countR (L.drop j) - (t - f) = countR T := by omega
      simp (disch := omega) only [vm0, vm1, vm2, vm3, vm4, vm5, vm6, vm7, fPick, fBox, fBuild, fBsl, fLd, fLda, fSt, fNilc, fBin, fEq, fUn, fMkf, fFa, fFld, fFlda, fExt, evo, wr, wrC, frame, Bool.not_true, Bool.not_false, beq_self_eq_true, List.cons_append, List.nil_append, Nat.add_zero, Nat.zero_add, Nat.reduceAdd, Nat.reduceMul, Nat.reduceSub, Bool.and_true, Bool.true_and, Bool.and_self, beq_dec, fApp, Int.toNat_natCast, Nat.sub_zero, vmI, hcz]
      have hS14 : Sep s s13 [oS p T, oW a 2 encR L] := (hS13.swap.drop.swap.drop.swap).drop
      rw [← hT] at hS14 ⊢
      exact ⟨L.length - (j + 1), by omega, j + 1, _, _, _, _, _, _, _, _, _, _, rfl, by omega, rfl, hS14⟩
    · have hz : L.drop j = [] := List.drop_eq_nil_of_le (by omega)
      rw [hz] at hS5 ⊢
      simp (disch := omega) only [vm0, vm1, vm2, vm3, vm4, vm5, vm6, vm7, fPick, fBox, fBuild, fBsl, fLd, fLda, fSt, fNilc, fBin, fEq, fUn, fMkf, fFa, fFld, fFlda, fExt, evo, wr, wrC, frame, Bool.not_true, Bool.not_false, beq_self_eq_true, List.cons_append, List.nil_append, Nat.add_zero, Nat.zero_add, Nat.reduceAdd, Nat.reduceMul, Nat.reduceSub, Bool.and_true, Bool.true_and, Bool.and_self, beq_dec, fApp, Int.toNat_natCast, Nat.sub_zero, vmI, vc10_3, vc10_2, countR_nil]
      exact first_e hs n s s5 p a L _ _ _ _ _ _ _ _ _ _ _ _ _ _ _ _ _ _ _ _ _ hfu hS5
theorem first (hs : SortOk h) (n : Nat) (s : St) (v : AV) (l : List A5) (hv : RdE s v 4 encA l) (ha : ∀ x ∈ l, In64 x.f ∧ In64 x.t) (hfu : 4000 < fu) :
    OutOk (callF bd (tab h).get fu (n + 6) 10 [v] s) (fun x s' => Is x (.bool true)) := by
  refine call_code (t10 h) rfl ?_
  have hfar : far = 1099511627776 := rfl
  have hS0 : Sep s s [] := .nil
  simp (disch := omega) only [vm0, vm1, vm2, vm3, vm4, vm5, vm6, vm7, fPick, fBox, fBuild, fBsl, fLd, fLda, fSt, fNilc, fBin, fEq, fUn, fMkf, fFa, fFld, fFlda, fExt, evo, wr, wrC, frame, Bool.not_true, Bool.not_false, beq_self_eq_true, List.cons_append, List.nil_append, Nat.add_zero, Nat.zero_add, Nat.reduceAdd, Nat.reduceMul, Nat.reduceSub, Bool.and_true, Bool.true_and, Bool.and_self, beq_dec, fApp, Int.toNat_natCast, Nat.sub_zero, vmI, vc10]
  refine call_ok rfl rfl (t_new (n + 4) s [] hS0) ?_
  rintro x s1 ⟨p, rfl, hS1⟩
  simp (disch := omega) only [vm0, vm1, vm2, vm3, vm4, vm5, vm6, vm7, fPick, fBox, fBuild, fBsl, fLd, fLda, fSt, fNilc, fBin, fEq, fUn, fMkf, fFa, fFld, fFlda, fExt, evo, wr, wrC, frame, Bool.not_true, Bool.not_false, beq_self_eq_true, List.cons_append, List.nil_append, Nat.add_zero, Nat.zero_add, Nat.reduceAdd, Nat.reduceMul, Nat.reduceSub, Bool.and_true, Bool.true_and, Bool.and_self, beq_dec, fApp, Int.toNat_natCast, Nat.sub_zero, vmI]
  refine x_loop (fun m F s' => ∃ i : Nat, ∃ x7 x9 L, m = 14 - i ∧ i ≤ l.length ∧ i ≤ 14 ∧ F = [some v, some (.ptr p 0), none, some (num (i : Int)), none, none, none, x7, some (.bool false), x9, none, none, none, none, none, none, none, none, none, none, none, none, some (.bool false)] ∧ Sep s s' [oS p L] ∧ WFr 0 L ∧ L.length ≤ i) 14 (by omega) ?_ ?_
  · exact ⟨0, _, _, [], by omega, by omega, by omega, rfl, hS1, trivial, by simp⟩
  · rintro m F s2 ⟨i, x7, x9, L, rfl, hi, hi14, rfl, hS2, hw, hL⟩ hm
    have hv2 := hv.fr0 hS2.frm
    have e0 := hv2.lenV
    by_cases hlt : i < l.length ∧ i < 14
    · obtain ⟨x, hx⟩ : ∃ x, l[i]? = some x := ⟨_, List.getElem?_eq_getElem hlt.1⟩
      obtain ⟨hx1, hx2⟩ := ha x (List.mem_of_getElem? hx)
      have e1 := hv2.ia hx
      have e2 := hv2.fld0 hx (c := num x.f) rfl
      have e3 := hv2.fld hx (k := 1) (c := num x.t) rfl
      have hi1 := hlt.1
      have hi2 := hlt.2
      simp (disch := omega) only [vm0, vm1, vm2, vm3, vm4, vm5, vm6, vm7, fPick, fBox, fBuild, fBsl, fLd, fLda, fSt, fNilc, fBin, fEq, fUn, fMkf, fFa, fFld, fFlda, fExt, evo, wr, wrC, frame, Bool.not_true, Bool.not_false, beq_self_eq_true, List.cons_append, List.nil_append, Nat.add_zero, Nat.zero_add, Nat.reduceAdd, Nat.reduceMul, Nat.reduceSub, Bool.and_true, Bool.true_and, Bool.and_self, beq_dec, fApp, Int.toNat_natCast, Nat.sub_zero, vmI, vc10_1, vc10_0, e0, e1, e2]
      refine call_ok rfl rfl (withinP (n + 4) s2 x.f 200 hx1 (by omega) (by omega)) ?_
      rintro y s2 ⟨rfl, rfl⟩
      simp (disch := omega) only [vm0, vm1, vm2, vm3, vm4, vm5, vm6, vm7, fPick, fBox, fBuild, fBsl, fLd, fLda, fSt, fNilc, fBin, fEq, fUn, fMkf, fFa, fFld, fFlda, fExt, evo, wr, wrC, frame, Bool.not_true, Bool.not_false, beq_self_eq_true, List.cons_append, List.nil_append, Nat.add_zero, Nat.zero_add, Nat.reduceAdd, Nat.reduceMul, Nat.reduceSub, Bool.and_true, Bool.true_and, Bool.and_self, beq_dec, fApp, Int.toNat_natCast, Nat.sub_zero, vmI, e1, e3]
      refine call_ok rfl rfl (withinP (n + 4) _ x.t 9 hx2 (by omega) (by omega)) ?_
      rintro y s2 ⟨rfl, rfl⟩
      simp (disch := omega) only [vm0, vm1, vm2, vm3, vm4, vm5, vm6, vm7, fPick, fBox, fBuild, fBsl, fLd, fLda, fSt, fNilc, fBin, fEq, fUn, fMkf, fFa, fFld, fFlda, fExt, evo, wr, wrC, frame, Bool.not_true, Bool.not_false, beq_self_eq_true, List.cons_append, List.nil_append, Nat.add_zero, Nat.zero_add, Nat.reduceAdd, Nat.reduceMul, Nat.reduceSub, Bool.and_true, Bool.true_and, Bool.and_self, beq_dec, fApp, Int.toNat_natCast, Nat.sub_zero, vmI]
      refine call_ok rfl rfl (t_add hs (n + 3) _ p L [] _ _ hS2 hw (by omega) (by omega)) ?_
      rintro y s3 hS3
      have hln := addP_len (f := x.f % 200) (t := x.f % 200 + x.t % 9) (l := L)
      have hw3 := addP_wf0 (f := x.f % 200) (t := x.f % 200 + x.t % 9) hw
      generalize addP (x.f % 200) (x.f % 200 + x.t % 9) L = L3 at *
      simp (disch := omega) only [vm0, vm1, vm2, vm3, vm4, vm5, vm6, vm7, fPick, fBox, fBuild, fBsl, fLd, fLda, fSt, fNilc, fBin, fEq, fUn, fMkf, fFa, fFld, fFlda, fExt, evo, wr, wrC, frame, Bool.not_true, Bool.not_false, beq_self_eq_true, List.cons_append, List.nil_append, Nat.add_zero, Nat.zero_add, Nat.reduceAdd, Nat.reduceMul, Nat.reduceSub, Bool.and_true, Bool.true_and, Bool.and_self, beq_dec, fApp, Int.toNat_natCast, Nat.sub_zero, vmI]
      exact ⟨14 - (i + 1), by omega, i + 1, _, _, L3, rfl, by omega, by omega, rfl, hS3, hw3, by omega⟩
    · by_cases h1 : i < l.length
      · have h2 : ¬ i < 14 := fun h2 => hlt ⟨h1, h2⟩
        simp (disch := omega) only [vm0, vm1, vm2, vm3, vm4, vm5, vm6, vm7, fPick, fBox, fBuild, fBsl, fLd, fLda, fSt, fNilc, fBin, fEq, fUn, fMkf, fFa, fFld, fFlda, fExt, evo, wr, wrC, frame, Bool.not_true, Bool.not_false, beq_self_eq_true, List.cons_append, List.nil_append, Nat.add_zero, Nat.zero_add, Nat.reduceAdd, Nat.reduceMul, Nat.reduceSub, Bool.and_true, Bool.true_and, Bool.and_self, beq_dec, fApp, Int.toNat_natCast, Nat.sub_zero, vmI, vc10_1, vc10_0, e0]
        exact first_t hs n s s2 v i x7 _ p L hS2 hw (by omega) hfu
      · simp (disch := omega) only [vm0, vm1, vm2, vm3, vm4, vm5, vm6, vm7, fPick, fBox, fBuild, fBsl, fLd, fLda, fSt, fNilc, fBin, fEq, fUn, fMkf, fFa, fFld, fFlda, fExt, evo, wr, wrC, frame, Bool.not_true, Bool.not_false, beq_self_eq_true, List.cons_append, List.nil_append, Nat.add_zero, Nat.zero_add, Nat.reduceAdd, Nat.reduceMul, Nat.reduceSub, Bool.and_true, Bool.true_and, Bool.and_self, beq_dec, fApp, Int.toNat_natCast, Nat.sub_zero, vmI, vc10_1, vc10_0, e0]
        exact first_t hs n s s2 v i x7 _ p L hS2 hw (by omega) hfu
end
end Go.Proofs.Ytekhpohcjfjhfaa.ctr
namespace Go.Proofs.Ytekhpohcjfjhfaa.ctr
open Go.Vm Go.RowKit Go.Ranges
set_option linter.unusedVariables false
set_option linter.unusedSimpArgs false
set_option linter.constructorNameAsVariable false
/-- the places that some of the acts add -/
def cov (l : List A5) (P : Nat → Prop) (k : Int) : Prop := ∃ i x, P i ∧ l[i]? = some x ∧ x.f % 90 ≤ k ∧ k < x.f % 90 + x.t % 12
theorem sv_bool (b : Bool) : sameV (.bool b) (.bool b) = true := by cases b <;> rfl
/-- two blocks, one behind the other -/
def o2 (b : Nat) (c d : List AV) : Obj := ⟨fun s fp => s.heap.get b = some (.cells c .own) ∧ s.heap.get (b + 1) = some (.cells d .own) ∧ b + 1 < s.next ∧ fp = [b, b + 1],
  fun {s s' fp fp'} ⟨h1, h2, h3, h4⟩ hf hd => ⟨(hf.2 b (by omega) (hd b (by rw [h4]; simp))).trans h1, (hf.2 (b + 1) h3 (hd (b + 1) (by rw [h4]; simp))).trans h2, Nat.lt_of_lt_of_le h3 hf.1, h4⟩,
  fun {s fp} ⟨h1, h2, h3, h4⟩ => by intro b' hb; rw [h4] at hb; simp at hb; rcases hb with rfl | rfl <;> omega⟩
theorem Sep.two {s0 s : St} {Ps : List Obj} (h : Sep s0 s Ps) (c0 d0 c d : List AV) :
    Sep s0 (((((⟨s.heap, s.next + 2⟩ : St).put (s.next + 1) (some (.cells d0 .own))).put s.next (some (.cells c0 .own))).put s.next (some (.cells c .own))).put (s.next + 1) (some (.cells d .own))) (o2 s.next c d :: Ps) :=
  h.push (P := o2 s.next c d) (f := [s.next, s.next + 1]) ⟨by rw [get_put_ne (by omega), get_put_eq rfl], get_put_eq rfl, by simp only [next_put]; omega, rfl⟩ (by (repeat' (first | exact Fr.refl | assumption | apply Fr.new' | apply Fr.mk' | apply Fr.put')) <;> (first | omega | (left; simp; done) | (right; simp only [next_put, next_new, next_mk]; omega) | (simp only [next_put, next_new, next_mk]; omega))) (by intro z hz; simp at hz; right; omega)
theorem Sep.get2 {s0 s : St} {b : Nat} {c d : List AV} {Ps : List Obj} (h : Sep s0 s (o2 b c d :: Ps)) : s.heap.get b = some (.cells c .own) ∧ s.heap.get (b + 1) = some (.cells d .own) := by
  obtain ⟨f, k, up⟩ := h.hd; exact ⟨k.1, k.2.1⟩
theorem cutP_cnt {f : Int} {d : Nat} {A : List R} (wA : WFr 0 A) (h0 : 0 ≤ f) (h1 : f + d ≤ far) : countR (cutP f (f + d) A) = countR A - hasN A f d := by
  rw [hasN_cut wA]
  unfold cutP cutN
  rw [show max 0 f = f by omega, show min (f + (d : Int)) far = f + d by omega]
  split
  · omega
  · have hd : d = 0 := by omega
    subst hd
    have := hasN_cut (f := f) wA 0
    unfold cutN at this
    have h2 : hasN A f 0 = 0 := rfl
    omega
theorem mem_cutP0 {f t k : Int} {A : List R} (h0 : 0 ≤ f) (h1 : t ≤ 1000000) : mem (cutP f t A) k ↔ mem A k ∧ ¬ (f ≤ k ∧ k < t) := by
  have hf : far = 1099511627776 := rfl
  unfold cutP
  by_cases h : f < t
  · rw [show max 0 f = f by omega, show min t far = t by omega, if_pos h, mem_cutR h]
  · rw [if_neg (by omega)]
    exact ⟨fun h => ⟨h, by omega⟩, fun h => h.1⟩
section
variable {bd : Bd} {h : VF} {fu : Nat}
noncomputable def vc11e : VC := (.seq (.reg [.i (.call (.c (.fn 55 [] [])) [(.w 4), (.w 1), (.w 2)])] []) (.seq (.reg [.i (.call (.c (.fn 55 [] [])) [(.w 3), (.w 1), (.w 2)])] []) (.seq (.reg [.i (.call (.c (.fn 56 [] [])) [(.w 3)]), .i (.call (.c (.fn 56 [] [])) [(.w 4)]), .i (.call (.c (.fn 62 [] [])) [(.t 1), (.t 0)]), .g (.t 0) true (.mv (.w 3)), .g (.t 1) true (.mv (.w 1)), .g (.t 2) true (.mv (.w 2)), .g (.t 3) true (.call (.c (.fn 63 [] [])) [(.t 2), (.t 1), (.t 0)]), .i (.pick (.t 4) (.t 0) (.c (.bool false))), .g (.t 0) true (.call (.c (.fn 61 [] [])) []), .i (.pick (.t 1) (.t 0) (.c (.bool false)))] [(20, (.t 0))]) .ret)))
theorem vc11_4_eq : vc11_4 = (.seq (.reg [.i (.call (.c (.fn 59 [] [])) [(.w 3), (.w 1), (.w 2)])] []) (.seq (.seq (.reg [.i (.call (.c (.fn 57 [] [])) [(.w 3)]), .i (.bin .sub (.w 18) (.w 12)), .i (.bin .neq (.t 1) (.t 0)), .g (.t 0) false (.mv (.w 2)), .g (.t 1) false (.mv (.w 1)), .g (.t 2) false (.bin .gtr (.t 1) (.t 0)), .g (.t 3) false (.mv (.t 0)), .g (.t 0) true (.mv (.w 3)), .g (.t 1) true (.mv (.w 1)), .g (.t 2) true (.mv (.w 1)), .g (.t 3) true (.bin .add (.t 0) (.c (.int .i64 (.c 1)))), .g (.t 4) true (.call (.c (.fn 63 [] [])) [(.t 3), (.t 2), (.t 0)]), .g (.t 9) false (.pick (.t 5) (.t 0) (.c (.bool false))), .i (.pick (.t 10) (.c (.bool true)) (.t 0))] [(19, (.t 0))]) (.cond (.w 19) (.seq (.reg [] [(20, (.c (.bool false)))]) .ret) .skip)) vc11e)) := rfl
theorem order_f (hs : SortOk h) (n : Nat) (s s1 : St) (p q : Nat) (A C : List R) (v : AV) (f N j t : Int) (z6 z8 z10 z11 y7 y12 y16 y17 y18 y19 : Option AV) (hS1 : Sep s s1 [oS p C, oS q A]) (wA : WFr 0 A) (wC : WFr 0 C) (lA : A.length ≤ 60) (lC : C.length ≤ 60) (hext : addP f t C = addP f t A) (hf2 : 0 ≤ f ∧ f < 90) (ht : t ≤ 1000) (hfu : 4000 < fu) :
    RsOk (exec bd (callF bd (tab h).get fu (n + 5)) fu vc11e [some v, some (num f), some (num t), some (.ptr p 0), some (.ptr q 0), some (num j), z6, y7, z8, some (num N), z10, z11, y12, some (.bool false), some (.bool false), some (.bool false), y16, y17, y18, y19, some (.bool false)] s1) (retQ [.tmp 20] fun x s' => Is x (.bool true)) := by
  have hfar : far = 1099511627776 := rfl
  simp (disch := omega) only [vm0, vm1, vm2, vm3, vm4, vm5, vm6, vm7, fPick, fBox, fBuild, fBsl, fLd, fLda, fSt, fNilc, fBin, fEq, fUn, fMkf, fFa, fFld, fFlda, fExt, evo, wr, wrC, frame, Bool.not_true, Bool.not_false, beq_self_eq_true, List.cons_append, List.nil_append, Nat.add_zero, Nat.zero_add, Nat.reduceAdd, Nat.reduceMul, Nat.reduceSub, Bool.and_true, Bool.true_and, Bool.and_self, beq_dec, fApp, Int.toNat_natCast, Nat.sub_zero, vmI, vc11e]
  refine call_ok rfl rfl (t_add hs (n + 3) s1 q A _ f t hS1.swap wA (by omega) (by omega)) ?_
  rintro x s2 hS2
  simp (disch := omega) only [vm0, vm1, vm2, vm3, vm4, vm5, vm6, vm7, fPick, fBox, fBuild, fBsl, fLd, fLda, fSt, fNilc, fBin, fEq, fUn, fMkf, fFa, fFld, fFlda, fExt, evo, wr, wrC, frame, Bool.not_true, Bool.not_false, beq_self_eq_true, List.cons_append, List.nil_append, Nat.add_zero, Nat.zero_add, Nat.reduceAdd, Nat.reduceMul, Nat.reduceSub, Bool.and_true, Bool.true_and, Bool.and_self, beq_dec, fApp, Int.toNat_natCast, Nat.sub_zero, vmI]
  refine call_ok rfl rfl (t_add hs (n + 3) s2 p C _ f t hS2.swap wC (by omega) (by omega)) ?_
  rintro x s3 hS3
  rw [hext] at hS3
  have lD := addP_len (f := f) (t := t) (l := A)
  have hhas : hasR f t (addP f t A) = true := by
    unfold hasR
    by_cases h : f < t
    · unfold addP
      rw [show max 0 f = f by omega, show min t far = t by omega, if_pos h, has_addR h (Int.le_refl _) (Int.le_refl _), Bool.or_true]
    · rw [decide_eq_true (by omega), Bool.true_or]
  generalize addP f t A = D at *
  simp (disch := omega) only [vm0, vm1, vm2, vm3, vm4, vm5, vm6, vm7, fPick, fBox, fBuild, fBsl, fLd, fLda, fSt, fNilc, fBin, fEq, fUn, fMkf, fFa, fFld, fFlda, fExt, evo, wr, wrC, frame, Bool.not_true, Bool.not_false, beq_self_eq_true, List.cons_append, List.nil_append, Nat.add_zero, Nat.zero_add, Nat.reduceAdd, Nat.reduceMul, Nat.reduceSub, Bool.and_true, Bool.true_and, Bool.and_self, beq_dec, fApp, Int.toNat_natCast, Nat.sub_zero, vmI]
  refine call_ok rfl rfl (t_all (n + 3) s3 p D _ hS3 (by omega)) ?_
  rintro a s4 ⟨k4, hS4⟩
  simp (disch := omega) only [vm0, vm1, vm2, vm3, vm4, vm5, vm6, vm7, fPick, fBox, fBuild, fBsl, fLd, fLda, fSt, fNilc, fBin, fEq, fUn, fMkf, fFa, fFld, fFlda, fExt, evo, wr, wrC, frame, Bool.not_true, Bool.not_false, beq_self_eq_true, List.cons_append, List.nil_append, Nat.add_zero, Nat.zero_add, Nat.reduceAdd, Nat.reduceMul, Nat.reduceSub, Bool.and_true, Bool.true_and, Bool.and_self, beq_dec, fApp, Int.toNat_natCast, Nat.sub_zero, vmI]
  refine call_ok rfl rfl (t_all (n + 3) s4 q D _ hS4.up2 (by omega)) ?_
  rintro b s5 ⟨k5, hS5⟩
  have k5a : RdE s5 a 2 encR D := by obtain ⟨f, k, up⟩ := hS5.up2.hd; exact k.rd
  simp (disch := omega) only [vm0, vm1, vm2, vm3, vm4, vm5, vm6, vm7, fPick, fBox, fBuild, fBsl, fLd, fLda, fSt, fNilc, fBin, fEq, fUn, fMkf, fFa, fFld, fFlda, fExt, evo, wr, wrC, frame, Bool.not_true, Bool.not_false, beq_self_eq_true, List.cons_append, List.nil_append, Nat.add_zero, Nat.zero_add, Nat.reduceAdd, Nat.reduceMul, Nat.reduceSub, Bool.and_true, Bool.true_and, Bool.and_self, beq_dec, fApp, Int.toNat_natCast, Nat.sub_zero, vmI]
  refine call_ok rfl rfl (sameR (n + 4) s5 a b D D k5a k5 (by omega) (by omega)) ?_
  rintro x s6 ⟨rfl, rfl⟩
  have hS6 : Sep s s6 [oS p D, oS q D] := hS5.drop.swap.drop.swap
  simp (disch := omega) only [vm0, vm1, vm2, vm3, vm4, vm5, vm6, vm7, fPick, fBox, fBuild, fBsl, fLd, fLda, fSt, fNilc, fBin, fEq, fUn, fMkf, fFa, fFld, fFlda, fExt, evo, wr, wrC, frame, Bool.not_true, Bool.not_false, beq_self_eq_true, List.cons_append, List.nil_append, Nat.add_zero, Nat.zero_add, Nat.reduceAdd, Nat.reduceMul, Nat.reduceSub, Bool.and_true, Bool.true_and, Bool.and_self, beq_dec, fApp, Int.toNat_natCast, Nat.sub_zero, vmI]
  refine call_ok rfl rfl (t_has (n + 1) s6 p D _ f t hS6 (by omega) (by omega)) ?_
  rintro x s7 ⟨rfl, hS7⟩
  rw [hhas]
  simp (disch := omega) only [vm0, vm1, vm2, vm3, vm4, vm5, vm6, vm7, fPick, fBox, fBuild, fBsl, fLd, fLda, fSt, fNilc, fBin, fEq, fUn, fMkf, fFa, fFld, fFlda, fExt, evo, wr, wrC, frame, Bool.not_true, Bool.not_false, beq_self_eq_true, List.cons_append, List.nil_append, Nat.add_zero, Nat.zero_add, Nat.reduceAdd, Nat.reduceMul, Nat.reduceSub, Bool.and_true, Bool.true_and, Bool.and_self, beq_dec, fApp, Int.toNat_natCast, Nat.sub_zero, vmI]
  refine call_ok rfl rfl (wakes05 hs (n + 2) s7 (by omega)) ?_
  rintro x s10 rfl
  simp (disch := omega) only [vm0, vm1, vm2, vm3, vm4, vm5, vm6, vm7, fPick, fBox, fBuild, fBsl, fLd, fLda, fSt, fNilc, fBin, fEq, fUn, fMkf, fFa, fFld, fFlda, fExt, evo, wr, wrC, frame, Bool.not_true, Bool.not_false, beq_self_eq_true, List.cons_append, List.nil_append, Nat.add_zero, Nat.zero_add, Nat.reduceAdd, Nat.reduceMul, Nat.reduceSub, Bool.and_true, Bool.true_and, Bool.and_self, beq_dec, fApp, Int.toNat_natCast, Nat.sub_zero, vmI]
  rfl
theorem order_e (hs : SortOk h) (n : Nat) (s s8 : St) (p q : Nat) (A : List R) (v : AV) (f N j : Int) (d : Nat) (z6 z8 z10 z11 y16 y17 : Option AV) (H : Int) (hH : hasN A f d = H) (hS8 : Sep s s8 [oS p A, oS q A]) (wA : WFr 0 A) (lA : A.length ≤ 30) (hf2 : 0 ≤ f ∧ f < 90) (hd2 : d < 20) (hfu : 4000 < fu) :
    RsOk (exec bd (callF bd (tab h).get fu (n + 5)) fu vc11_4 [some v, some (num f), some (num (f + (d : Int))), some (.ptr p 0), some (.ptr q 0), some (num j), z6, some (num (f + (d : Int))), z8, some (num N), z10, z11, some (num H), some (.bool false), some (.bool false), some (.bool false), y16, y17, some (num (countR A)), none, some (.bool false)] s8) (retQ [.tmp 20] fun x s' => Is x (.bool true)) := by
  have hfar : far = 1099511627776 := rfl
  obtain ⟨t, ht⟩ : ∃ t, f + (d : Int) = t := ⟨_, rfl⟩
  have hcn := cutP_cnt (f := f) (d := d) wA hf2.1 (by omega)
  rw [hH, ht] at hcn
  have hmc : ∀ k, mem (cutP f t A) k ↔ mem A k ∧ ¬ (f ≤ k ∧ k < t) := fun k => mem_cutP0 hf2.1 (by omega)
  have wC : WFr 0 (cutP f t A) := cutP_wf0 wA
  have lC := cutR_len (f := f) (t := t) A
  have lC2 : (cutP f t A).length ≤ 60 := by
    unfold cutP
    rw [show max 0 f = f by omega, show min t far = t by omega]
    by_cases h : f < t
    · rw [if_pos h]; omega
    · rw [if_neg h]; omega
  obtain ⟨c1, c2⟩ := countR_in wC (Int.le_refl 0)
  obtain ⟨c3, c4⟩ := countR_in wA (Int.le_refl 0)
  generalize hC : cutP f t A = C at *
  rw [ht]
  simp (disch := omega) only [vm0, vm1, vm2, vm3, vm4, vm5, vm6, vm7, fPick, fBox, fBuild, fBsl, fLd, fLda, fSt, fNilc, fBin, fEq, fUn, fMkf, fFa, fFld, fFlda, fExt, evo, wr, wrC, frame, Bool.not_true, Bool.not_false, beq_self_eq_true, List.cons_append, List.nil_append, Nat.add_zero, Nat.zero_add, Nat.reduceAdd, Nat.reduceMul, Nat.reduceSub, Bool.and_true, Bool.true_and, Bool.and_self, beq_dec, fApp, Int.toNat_natCast, Nat.sub_zero, vmI, vc11_4_eq]
  refine call_ok rfl rfl (t_cut (n + 3) s8 p A _ f t hS8 wA (by omega) (by omega) (by omega)) ?_
  rintro x s9 hS9
  rw [hC] at hS9
  simp (disch := omega) only [vm0, vm1, vm2, vm3, vm4, vm5, vm6, vm7, fPick, fBox, fBuild, fBsl, fLd, fLda, fSt, fNilc, fBin, fEq, fUn, fMkf, fFa, fFld, fFlda, fExt, evo, wr, wrC, frame, Bool.not_true, Bool.not_false, beq_self_eq_true, List.cons_append, List.nil_append, Nat.add_zero, Nat.zero_add, Nat.reduceAdd, Nat.reduceMul, Nat.reduceSub, Bool.and_true, Bool.true_and, Bool.and_self, beq_dec, fApp, Int.toNat_natCast, Nat.sub_zero, vmI]
  refine call_ok rfl rfl (t_count (n + 4) s9 p C _ hS9 wC (by omega) (by omega)) ?_
  rintro x s10 ⟨rfl, hS10⟩
  have hcn2 : countR A - H = countR C := by omega
  have hext : addP f t C = addP f t A := WFr_ext (addP_wf0 wC) (addP_wf0 wA) fun k => by
    rw [mem_addP0 wC hf2.1 (by omega), mem_addP0 wA hf2.1 (by omega), hmc]
    by_cases hk : f ≤ k ∧ k < t <;> simp [hk]
  by_cases hft : f < t
  · obtain ⟨f1, hf1⟩ : ∃ f1, f + 1 = f1 := ⟨_, rfl⟩
    simp (disch := omega) only [vm0, vm1, vm2, vm3, vm4, vm5, vm6, vm7, fPick, fBox, fBuild, fBsl, fLd, fLda, fSt, fNilc, fBin, fEq, fUn, fMkf, fFa, fFld, fFlda, fExt, evo, wr, wrC, frame, Bool.not_true, Bool.not_false, beq_self_eq_true, List.cons_append, List.nil_append, Nat.add_zero, Nat.zero_add, Nat.reduceAdd, Nat.reduceMul, Nat.reduceSub, Bool.and_true, Bool.true_and, Bool.and_self, beq_dec, fApp, Int.toNat_natCast, Nat.sub_zero, vmI, hcn2, hf1]
    refine call_ok rfl rfl (t_has (n + 1) s10 p C _ f f1 hS10 (by omega) (by omega)) ?_
    rintro x s11 ⟨rfl, hS11⟩
    have hno : hasR f f1 C = false := by
      rw [← hf1]
      rcases Bool.eq_false_or_eq_true (hasR f (f + 1) C) with h | h
      · have := (hmc f).1 (mem_has.1 h); omega
      · exact h
    rw [hno]
    simp (disch := omega) only [vm0, vm1, vm2, vm3, vm4, vm5, vm6, vm7, fPick, fBox, fBuild, fBsl, fLd, fLda, fSt, fNilc, fBin, fEq, fUn, fMkf, fFa, fFld, fFlda, fExt, evo, wr, wrC, frame, Bool.not_true, Bool.not_false, beq_self_eq_true, List.cons_append, List.nil_append, Nat.add_zero, Nat.zero_add, Nat.reduceAdd, Nat.reduceMul, Nat.reduceSub, Bool.and_true, Bool.true_and, Bool.and_self, beq_dec, fApp, Int.toNat_natCast, Nat.sub_zero, vmI]
    exact order_f hs n s s11 p q A C v f N j t z6 z8 z10 z11 _ _ _ _ _ _ hS11 wA wC (by omega) lC2 hext hf2 (by omega) hfu
  · simp (disch := omega) only [vm0, vm1, vm2, vm3, vm4, vm5, vm6, vm7, fPick, fBox, fBuild, fBsl, fLd, fLda, fSt, fNilc, fBin, fEq, fUn, fMkf, fFa, fFld, fFlda, fExt, evo, wr, wrC, frame, Bool.not_true, Bool.not_false, beq_self_eq_true, List.cons_append, List.nil_append, Nat.add_zero, Nat.zero_add, Nat.reduceAdd, Nat.reduceMul, Nat.reduceSub, Bool.and_true, Bool.true_and, Bool.and_self, beq_dec, fApp, Int.toNat_natCast, Nat.sub_zero, vmI, hcn2]
    exact order_f hs n s s10 p q A C v f N j t z6 z8 z10 z11 _ _ _ _ _ _ hS10 wA wC (by omega) lC2 hext hf2 (by omega) hfu
theorem order_t (hs : SortOk h) (n : Nat) (s s3 : St) (p q : Nat) (A : List R) (v : AV) (a0 b0 N j : Int) (z6 z8 z10 z11 : Option AV) (hS3 : Sep s s3 [oS q A, oS p A]) (wA : WFr 0 A) (lA : A.length ≤ 30) (hA : In64 a0) (hB : In64 b0) (hfu : 4000 < fu) :
    RsOk (exec bd (callF bd (tab h).get fu (n + 5)) fu vc11_5 [some v, some (num a0), some (num b0), some (.ptr p 0), some (.ptr q 0), some (num j), z6, none, z8, some (num N), z10, z11, none, some (.bool false), some (.bool false), none, none, none, none, none, some (.bool false)] s3) (retQ [.tmp 20] fun x s' => Is x (.bool true)) := by
  have hfar : far = 1099511627776 := rfl
  simp (disch := omega) only [vm0, vm1, vm2, vm3, vm4, vm5, vm6, vm7, fPick, fBox, fBuild, fBsl, fLd, fLda, fSt, fNilc, fBin, fEq, fUn, fMkf, fFa, fFld, fFlda, fExt, evo, wr, wrC, frame, Bool.not_true, Bool.not_false, beq_self_eq_true, List.cons_append, List.nil_append, Nat.add_zero, Nat.zero_add, Nat.reduceAdd, Nat.reduceMul, Nat.reduceSub, Bool.and_true, Bool.true_and, Bool.and_self, beq_dec, fApp, Int.toNat_natCast, Nat.sub_zero, vmI, vc11_5]
  refine call_ok rfl rfl (t_all (n + 3) s3 p A _ hS3.swap (by omega)) ?_
  rintro a s4 ⟨k4, hS4⟩
  simp (disch := omega) only [vm0, vm1, vm2, vm3, vm4, vm5, vm6, vm7, fPick, fBox, fBuild, fBsl, fLd, fLda, fSt, fNilc, fBin, fEq, fUn, fMkf, fFa, fFld, fFlda, fExt, evo, wr, wrC, frame, Bool.not_true, Bool.not_false, beq_self_eq_true, List.cons_append, List.nil_append, Nat.add_zero, Nat.zero_add, Nat.reduceAdd, Nat.reduceMul, Nat.reduceSub, Bool.and_true, Bool.true_and, Bool.and_self, beq_dec, fApp, Int.toNat_natCast, Nat.sub_zero, vmI]
  refine call_ok rfl rfl (t_all (n + 3) s4 q A _ hS4.up2 (by omega)) ?_
  rintro b s5 ⟨k5, hS5⟩
  have k5a : RdE s5 a 2 encR A := by obtain ⟨f, k, up⟩ := hS5.up2.hd; exact k.rd
  simp (disch := omega) only [vm0, vm1, vm2, vm3, vm4, vm5, vm6, vm7, fPick, fBox, fBuild, fBsl, fLd, fLda, fSt, fNilc, fBin, fEq, fUn, fMkf, fFa, fFld, fFlda, fExt, evo, wr, wrC, frame, Bool.not_true, Bool.not_false, beq_self_eq_true, List.cons_append, List.nil_append, Nat.add_zero, Nat.zero_add, Nat.reduceAdd, Nat.reduceMul, Nat.reduceSub, Bool.and_true, Bool.true_and, Bool.and_self, beq_dec, fApp, Int.toNat_natCast, Nat.sub_zero, vmI]
  refine call_ok rfl rfl (sameR (n + 4) s5 a b A A k5a k5 (by omega) (by omega)) ?_
  rintro x s6 ⟨rfl, rfl⟩
  have hS6 : Sep s s6 [oS p A, oS q A] := hS5.drop.swap.drop.swap
  simp (disch := omega) only [vm0, vm1, vm2, vm3, vm4, vm5, vm6, vm7, fPick, fBox, fBuild, fBsl, fLd, fLda, fSt, fNilc, fBin, fEq, fUn, fMkf, fFa, fFld, fFlda, fExt, evo, wr, wrC, frame, Bool.not_true, Bool.not_false, beq_self_eq_true, List.cons_append, List.nil_append, Nat.add_zero, Nat.zero_add, Nat.reduceAdd, Nat.reduceMul, Nat.reduceSub, Bool.and_true, Bool.true_and, Bool.and_self, beq_dec, fApp, Int.toNat_natCast, Nat.sub_zero, vmI]
  refine call_ok rfl rfl (withinP (n + 4) _ a0 90 hA (by omega) (by omega)) ?_
  rintro x s6 ⟨rfl, rfl⟩
  simp (disch := omega) only [vm0, vm1, vm2, vm3, vm4, vm5, vm6, vm7, fPick, fBox, fBuild, fBsl, fLd, fLda, fSt, fNilc, fBin, fEq, fUn, fMkf, fFa, fFld, fFlda, fExt, evo, wr, wrC, frame, Bool.not_true, Bool.not_false, beq_self_eq_true, List.cons_append, List.nil_append, Nat.add_zero, Nat.zero_add, Nat.reduceAdd, Nat.reduceMul, Nat.reduceSub, Bool.and_true, Bool.true_and, Bool.and_self, beq_dec, fApp, Int.toNat_natCast, Nat.sub_zero, vmI]
  refine call_ok rfl rfl (withinP (n + 4) _ b0 20 hB (by omega) (by omega)) ?_
  rintro x s6 ⟨rfl, rfl⟩
  obtain ⟨f, hf⟩ : ∃ f, a0 % 90 = f := ⟨_, rfl⟩
  obtain ⟨d, hd⟩ : ∃ d : Nat, b0 % 20 = (d : Int) := ⟨(b0 % 20).toNat, by omega⟩
  have hf2 : 0 ≤ f ∧ f < 90 := by omega
  have hd2 : d < 20 := by omega
  simp (disch := omega) only [vm0, vm1, vm2, vm3, vm4, vm5, vm6, vm7, fPick, fBox, fBuild, fBsl, fLd, fLda, fSt, fNilc, fBin, fEq, fUn, fMkf, fFa, fFld, fFlda, fExt, evo, wr, wrC, frame, Bool.not_true, Bool.not_false, beq_self_eq_true, List.cons_append, List.nil_append, Nat.add_zero, Nat.zero_add, Nat.reduceAdd, Nat.reduceMul, Nat.reduceSub, Bool.and_true, Bool.true_and, Bool.and_self, beq_dec, fApp, Int.toNat_natCast, Nat.sub_zero, vmI, hf, hd]
  refine call_ok rfl rfl (t_count (n + 4) s6 p A _ hS6 wA (by omega) (by omega)) ?_
  rintro x s7 ⟨rfl, hS7⟩
  simp (disch := omega) only [vm0, vm1, vm2, vm3, vm4, vm5, vm6, vm7, fPick, fBox, fBuild, fBsl, fLd, fLda, fSt, fNilc, fBin, fEq, fUn, fMkf, fFa, fFld, fFlda, fExt, evo, wr, wrC, frame, Bool.not_true, Bool.not_false, beq_self_eq_true, List.cons_append, List.nil_append, Nat.add_zero, Nat.zero_add, Nat.reduceAdd, Nat.reduceMul, Nat.reduceSub, Bool.and_true, Bool.true_and, Bool.and_self, beq_dec, fApp, Int.toNat_natCast, Nat.sub_zero, vmI]
  refine x_loop (fun m F s' => ∃ k : Nat, ∃ y16 y17, m = d - k ∧ k ≤ d ∧ F = [some v, some (num f), some (num (f + (d : Int))), some (.ptr p 0), some (.ptr q 0), some (num j), z6, some (num (f + (k : Int))), z8, some (num N), z10, z11, some (num (hasN A f k)), some (.bool false), some (.bool false), some (.bool false), y16, y17, some (num (countR A)), none, some (.bool false)] ∧ Sep s s' [oS p A, oS q A] ∧ 0 ≤ hasN A f k ∧ hasN A f k ≤ (k : Int)) d (by omega) ?_ ?_
  · exact ⟨0, _, _, by omega, by omega, by rw [Int.natCast_zero, Int.add_zero]; rfl, hS7, Int.le_refl _, Int.le_refl _⟩
  · rintro m F s8 ⟨k, y16, y17, rfl, hk, rfl, hS8, hh0, hh1⟩ hm
    by_cases hlt : k < d
    · obtain ⟨g, hg⟩ : ∃ g, f + (k : Int) = g := ⟨_, rfl⟩
      obtain ⟨g1, hg1⟩ : ∃ g1, g + 1 = g1 := ⟨_, rfl⟩
      simp (disch := omega) only [vm0, vm1, vm2, vm3, vm4, vm5, vm6, vm7, fPick, fBox, fBuild, fBsl, fLd, fLda, fSt, fNilc, fBin, fEq, fUn, fMkf, fFa, fFld, fFlda, fExt, evo, wr, wrC, frame, Bool.not_true, Bool.not_false, beq_self_eq_true, List.cons_append, List.nil_append, Nat.add_zero, Nat.zero_add, Nat.reduceAdd, Nat.reduceMul, Nat.reduceSub, Bool.and_true, Bool.true_and, Bool.and_self, beq_dec, fApp, Int.toNat_natCast, Nat.sub_zero, vmI, vc11_3, vc11_2, hg, hg1]
      refine call_ok rfl rfl (t_has (n + 1) s8 p A _ g g1 hS8 (by omega) (by omega)) ?_
      rintro x s9 ⟨rfl, hS9⟩
      have hst : hasN A f (k + 1) = hasN A f k + if hasR g g1 A then 1 else 0 := by
        rw [← hg1, ← hg]; rfl
      cases hb : hasR g g1 A
      · rw [hb, if_neg (by simp), Int.add_zero] at hst
        simp (disch := omega) only [vm0, vm1, vm2, vm3, vm4, vm5, vm6, vm7, fPick, fBox, fBuild, fBsl, fLd, fLda, fSt, fNilc, fBin, fEq, fUn, fMkf, fFa, fFld, fFlda, fExt, evo, wr, wrC, frame, Bool.not_true, Bool.not_false, beq_self_eq_true, List.cons_append, List.nil_append, Nat.add_zero, Nat.zero_add, Nat.reduceAdd, Nat.reduceMul, Nat.reduceSub, Bool.and_true, Bool.true_and, Bool.and_self, beq_dec, fApp, Int.toNat_natCast, Nat.sub_zero, vmI]
        exact ⟨d - (k + 1), by omega, k + 1, _, _, rfl, by omega, by rw [hst, show f + ((k + 1 : Nat) : Int) = g + 1 by omega], hS9, by omega, by omega⟩
      · rw [hb, if_pos rfl] at hst
        simp (disch := omega) only [vm0, vm1, vm2, vm3, vm4, vm5, vm6, vm7, fPick, fBox, fBuild, fBsl, fLd, fLda, fSt, fNilc, fBin, fEq, fUn, fMkf, fFa, fFld, fFlda, fExt, evo, wr, wrC, frame, Bool.not_true, Bool.not_false, beq_self_eq_true, List.cons_append, List.nil_append, Nat.add_zero, Nat.zero_add, Nat.reduceAdd, Nat.reduceMul, Nat.reduceSub, Bool.and_true, Bool.true_and, Bool.and_self, beq_dec, fApp, Int.toNat_natCast, Nat.sub_zero, vmI]
        exact ⟨d - (k + 1), by omega, k + 1, _, _, rfl, by omega, by rw [hst, show f + ((k + 1 : Nat) : Int) = g + 1 by omega], hS9, by omega, by omega⟩
    · have hkd : k = d := by omega
      subst hkd
      simp (disch := omega) only [vm0, vm1, vm2, vm3, vm4, vm5, vm6, vm7, fPick, fBox, fBuild, fBsl, fLd, fLda, fSt, fNilc, fBin, fEq, fUn, fMkf, fFa, fFld, fFlda, fExt, evo, wr, wrC, frame, Bool.not_true, Bool.not_false, beq_self_eq_true, List.cons_append, List.nil_append, Nat.add_zero, Nat.zero_add, Nat.reduceAdd, Nat.reduceMul, Nat.reduceSub, Bool.and_true, Bool.true_and, Bool.and_self, beq_dec, fApp, Int.toNat_natCast, Nat.sub_zero, vmI, vc11_3, vc11_2]
      exact order_e hs n s s8 p q A v f N j k z6 z8 z10 z11 _ y17 (hasN A f k) rfl hS8 wA lA hf2 (by omega) hfu
theorem order (hs : SortOk h) (n : Nat) (s : St) (v : AV) (a0 b0 : Int) (l : List A5) (hv : RdE s v 4 encA l) (ha : ∀ x ∈ l, In64 x.f ∧ In64 x.t) (hA : In64 a0) (hB : In64 b0) (hfu : 4000 < fu) :
    OutOk (callF bd (tab h).get fu (n + 6) 11 [v, num a0, num b0] s) (fun x s' => Is x (.bool true)) := by
  refine call_code (t11 h) rfl ?_
  have hfar : far = 1099511627776 := rfl
  have hS0 : Sep s s [] := .nil
  simp (disch := omega) only [vm0, vm1, vm2, vm3, vm4, vm5, vm6, vm7, fPick, fBox, fBuild, fBsl, fLd, fLda, fSt, fNilc, fBin, fEq, fUn, fMkf, fFa, fFld, fFlda, fExt, evo, wr, wrC, frame, Bool.not_true, Bool.not_false, beq_self_eq_true, List.cons_append, List.nil_append, Nat.add_zero, Nat.zero_add, Nat.reduceAdd, Nat.reduceMul, Nat.reduceSub, Bool.and_true, Bool.true_and, Bool.and_self, beq_dec, fApp, Int.toNat_natCast, Nat.sub_zero, vmI, vc11]
  refine call_ok rfl rfl (t_new (n + 4) s [] hS0) ?_
  rintro x s1 ⟨p, rfl, hS1⟩
  simp (disch := omega) only [vm0, vm1, vm2, vm3, vm4, vm5, vm6, vm7, fPick, fBox, fBuild, fBsl, fLd, fLda, fSt, fNilc, fBin, fEq, fUn, fMkf, fFa, fFld, fFlda, fExt, evo, wr, wrC, frame, Bool.not_true, Bool.not_false, beq_self_eq_true, List.cons_append, List.nil_append, Nat.add_zero, Nat.zero_add, Nat.reduceAdd, Nat.reduceMul, Nat.reduceSub, Bool.and_true, Bool.true_and, Bool.and_self, beq_dec, fApp, Int.toNat_natCast, Nat.sub_zero, vmI]
  refine call_ok rfl rfl (t_new (n + 4) s1 _ hS1) ?_
  rintro x s2 ⟨q, rfl, hS2⟩
  have hv2 := hv.fr0 hS2.frm
  have e2 := hv2.lenV
  obtain ⟨N, hN⟩ : ∃ N : Nat, min l.length 12 = N := ⟨_, rfl⟩
  have hN2 : min (l.length : Int) 12 = (N : Int) := by omega
  simp (disch := omega) only [vm0, vm1, vm2, vm3, vm4, vm5, vm6, vm7, fPick, fBox, fBuild, fBsl, fLd, fLda, fSt, fNilc, fBin, fEq, fUn, fMkf, fFa, fFld, fFlda, fExt, evo, wr, wrC, frame, Bool.not_true, Bool.not_false, beq_self_eq_true, List.cons_append, List.nil_append, Nat.add_zero, Nat.zero_add, Nat.reduceAdd, Nat.reduceMul, Nat.reduceSub, Bool.and_true, Bool.true_and, Bool.and_self, beq_dec, fApp, Int.toNat_natCast, Nat.sub_zero, vmI, e2, hN2]
  refine x_loop (fun m F s' => ∃ j : Nat, ∃ z6 z8 z10 z11 z14 A B, m = N - j ∧ j ≤ N ∧ F = [some v, some (num a0), some (num b0), some (.ptr p 0), some (.ptr q 0), some (num (j : Int)), z6, none, z8, some (num (N : Int)), z10, z11, none, some (.bool false), z14, none, none, none, none, none, some (.bool false)] ∧ Sep s s' [oS q B, oS p A] ∧ WFr 0 A ∧ WFr 0 B ∧ A.length ≤ j ∧ B.length ≤ 2 * j ∧ (∀ k, mem A k ↔ cov l (fun i => i < j) k) ∧ (∀ k, mem B k ↔ cov l (fun i => i < N ∧ N ≤ i + j) k)) N (by omega) ?_ ?_
  · exact ⟨0, _, _, _, _, _, [], [], by omega, by omega, rfl, hS2, trivial, trivial, by simp, by simp, fun k => ⟨fun h => (mem_nil h).elim, fun ⟨i, x, h, _⟩ => by omega⟩, fun k => ⟨fun h => (mem_nil h).elim, fun ⟨i, x, h, _⟩ => by omega⟩⟩
  · rintro m F s3 ⟨j, z6, z8, z10, z11, z14, A, B, rfl, hj, rfl, hS3, wA, wB, lA, lB, mA, mB⟩ hm
    have hv3 := hv.fr0 hS3.frm
    by_cases hlt : j < N
    · obtain ⟨x, hx⟩ : ∃ x, l[j]? = some x := ⟨_, List.getElem?_eq_getElem (by omega)⟩
      obtain ⟨j', hj'⟩ : ∃ j', N - 1 - j = j' := ⟨_, rfl⟩
      obtain ⟨y, hy⟩ : ∃ y, l[j']? = some y := ⟨_, List.getElem?_eq_getElem (by omega)⟩
      have e3 := hv3.ia hx
      have e4 := hv3.at hx
      have e5 := hv3.ia hy
      have e6 := hv3.at hy
      have e7 : (N : Int) - 1 - (j : Int) = (j' : Int) := by omega
      have hb := hv3.blk' hx
      simp (disch := omega) only [vm0, vm1, vm2, vm3, vm4, vm5, vm6, vm7, fPick, fBox, fBuild, fBsl, fLd, fLda, fSt, fNilc, fBin, fEq, fUn, fMkf, fFa, fFld, fFlda, fExt, evo, wr, wrC, frame, Bool.not_true, Bool.not_false, beq_self_eq_true, List.cons_append, List.nil_append, Nat.add_zero, Nat.zero_add, Nat.reduceAdd, Nat.reduceMul, Nat.reduceSub, Bool.and_true, Bool.true_and, Bool.and_self, beq_dec, fApp, Int.toNat_natCast, Nat.sub_zero, vmI, vc11_1, vc11_0, sv_bool, e3, e4, e5, e6, e7, encA, fNew, d_st]
      have hS5 := hS3.two [.int .i64 (.c 0), .int .i64 (.c 0), .bool false, .bool false] [.int .i64 (.c 0), .int .i64 (.c 0), .bool false, .bool false] [num x.f, num x.t, .bool x.c, .bool x.r] [num y.f, num y.t, .bool y.c, .bool y.r]
      generalize ((((⟨s3.heap, s3.next + 2⟩ : St).put (s3.next + 1) (some (.cells [.int .i64 (.c 0), .int .i64 (.c 0), .bool false, .bool false] .own))).put s3.next (some (.cells [.int .i64 (.c 0), .int .i64 (.c 0), .bool false, .bool false] .own))).put s3.next (some (.cells [num x.f, num x.t, .bool x.c, .bool x.r] .own))).put (s3.next + 1) (some (.cells [num y.f, num y.t, .bool y.c, .bool y.r] .own)) = s5 at *
      obtain ⟨g1, g2⟩ := hS5.get2
      obtain ⟨x1, x2⟩ := ha x (List.mem_of_getElem? hx)
      obtain ⟨y1, y2⟩ := ha y (List.mem_of_getElem? hy)
      generalize s3.next = b at *
      refine call_ok rfl rfl (withinP (n + 4) s5 x.f 90 x1 (by omega) (by omega)) ?_
      rintro z s6 ⟨rfl, rfl⟩
      simp (disch := omega) only [vm0, vm1, vm2, vm3, vm4, vm5, vm6, vm7, fPick, fBox, fBuild, fBsl, fLd, fLda, fSt, fNilc, fBin, fEq, fUn, fMkf, fFa, fFld, fFlda, fExt, evo, wr, wrC, frame, Bool.not_true, Bool.not_false, beq_self_eq_true, List.cons_append, List.nil_append, Nat.add_zero, Nat.zero_add, Nat.reduceAdd, Nat.reduceMul, Nat.reduceSub, Bool.and_true, Bool.true_and, Bool.and_self, beq_dec, fApp, Int.toNat_natCast, Nat.sub_zero, vmI, g1, g2]
      refine call_ok rfl rfl (withinP (n + 4) s6 y.f 90 y1 (by omega) (by omega)) ?_
      rintro z s7 ⟨rfl, rfl⟩
      simp (disch := omega) only [vm0, vm1, vm2, vm3, vm4, vm5, vm6, vm7, fPick, fBox, fBuild, fBsl, fLd, fLda, fSt, fNilc, fBin, fEq, fUn, fMkf, fFa, fFld, fFlda, fExt, evo, wr, wrC, frame, Bool.not_true, Bool.not_false, beq_self_eq_true, List.cons_append, List.nil_append, Nat.add_zero, Nat.zero_add, Nat.reduceAdd, Nat.reduceMul, Nat.reduceSub, Bool.and_true, Bool.true_and, Bool.and_self, beq_dec, fApp, Int.toNat_natCast, Nat.sub_zero, vmI, g1, g2]
      refine call_ok rfl rfl (withinP (n + 4) s7 x.t 12 x2 (by omega) (by omega)) ?_
      rintro z s6 ⟨rfl, rfl⟩
      simp (disch := omega) only [vm0, vm1, vm2, vm3, vm4, vm5, vm6, vm7, fPick, fBox, fBuild, fBsl, fLd, fLda, fSt, fNilc, fBin, fEq, fUn, fMkf, fFa, fFld, fFlda, fExt, evo, wr, wrC, frame, Bool.not_true, Bool.not_false, beq_self_eq_true, List.cons_append, List.nil_append, Nat.add_zero, Nat.zero_add, Nat.reduceAdd, Nat.reduceMul, Nat.reduceSub, Bool.and_true, Bool.true_and, Bool.and_self, beq_dec, fApp, Int.toNat_natCast, Nat.sub_zero, vmI]
      refine call_ok rfl rfl (t_add hs (n + 3) _ p A _ _ _ hS5.up2 wA (by omega) (by omega)) ?_
      rintro z s8 hS8
      obtain ⟨g1, g2⟩ := hS8.swap.get2
      simp (disch := omega) only [vm0, vm1, vm2, vm3, vm4, vm5, vm6, vm7, fPick, fBox, fBuild, fBsl, fLd, fLda, fSt, fNilc, fBin, fEq, fUn, fMkf, fFa, fFld, fFlda, fExt, evo, wr, wrC, frame, Bool.not_true, Bool.not_false, beq_self_eq_true, List.cons_append, List.nil_append, Nat.add_zero, Nat.zero_add, Nat.reduceAdd, Nat.reduceMul, Nat.reduceSub, Bool.and_true, Bool.true_and, Bool.and_self, beq_dec, fApp, Int.toNat_natCast, Nat.sub_zero, vmI, g1, g2]
      refine call_ok rfl rfl (withinP (n + 4) s8 y.t 12 y2 (by omega) (by omega)) ?_
      rintro z s9 ⟨rfl, rfl⟩
      simp (disch := omega) only [vm0, vm1, vm2, vm3, vm4, vm5, vm6, vm7, fPick, fBox, fBuild, fBsl, fLd, fLda, fSt, fNilc, fBin, fEq, fUn, fMkf, fFa, fFld, fFlda, fExt, evo, wr, wrC, frame, Bool.not_true, Bool.not_false, beq_self_eq_true, List.cons_append, List.nil_append, Nat.add_zero, Nat.zero_add, Nat.reduceAdd, Nat.reduceMul, Nat.reduceSub, Bool.and_true, Bool.true_and, Bool.and_self, beq_dec, fApp, Int.toNat_natCast, Nat.sub_zero, vmI]
      refine call_ok rfl rfl (t_add hs (n + 3) _ q B _ _ _ hS8.up2 wB (by omega) (by omega)) ?_
      rintro z s10 hS10
      obtain ⟨g1, g2⟩ := hS10.up2.get2
      simp (disch := omega) only [vm0, vm1, vm2, vm3, vm4, vm5, vm6, vm7, fPick, fBox, fBuild, fBsl, fLd, fLda, fSt, fNilc, fBin, fEq, fUn, fMkf, fFa, fFld, fFlda, fExt, evo, wr, wrC, frame, Bool.not_true, Bool.not_false, beq_self_eq_true, List.cons_append, List.nil_append, Nat.add_zero, Nat.zero_add, Nat.reduceAdd, Nat.reduceMul, Nat.reduceSub, Bool.and_true, Bool.true_and, Bool.and_self, beq_dec, fApp, Int.toNat_natCast, Nat.sub_zero, vmI, g1, g2]
      refine call_ok rfl rfl (withinP (n + 4) s10 y.t 12 y2 (by omega) (by omega)) ?_
      rintro z s9 ⟨rfl, rfl⟩
      simp (disch := omega) only [vm0, vm1, vm2, vm3, vm4, vm5, vm6, vm7, fPick, fBox, fBuild, fBsl, fLd, fLda, fSt, fNilc, fBin, fEq, fUn, fMkf, fFa, fFld, fFlda, fExt, evo, wr, wrC, frame, Bool.not_true, Bool.not_false, beq_self_eq_true, List.cons_append, List.nil_append, Nat.add_zero, Nat.zero_add, Nat.reduceAdd, Nat.reduceMul, Nat.reduceSub, Bool.and_true, Bool.true_and, Bool.and_self, beq_dec, fApp, Int.toNat_natCast, Nat.sub_zero, vmI]
      have lB1 := addP_len (f := y.f % 90) (t := y.f % 90 + y.t % 12) (l := B)
      have wB1 := addP_wf0 (f := y.f % 90) (t := y.f % 90 + y.t % 12) wB
      refine call_ok rfl rfl (t_add hs (n + 3) _ q _ _ _ _ hS10 wB1 (by omega) (by omega)) ?_
      rintro z s11 hS11
      simp (disch := omega) only [vm0, vm1, vm2, vm3, vm4, vm5, vm6, vm7, fPick, fBox, fBuild, fBsl, fLd, fLda, fSt, fNilc, fBin, fEq, fUn, fMkf, fFa, fFld, fFlda, fExt, evo, wr, wrC, frame, Bool.not_true, Bool.not_false, beq_self_eq_true, List.cons_append, List.nil_append, Nat.add_zero, Nat.zero_add, Nat.reduceAdd, Nat.reduceMul, Nat.reduceSub, Bool.and_true, Bool.true_and, Bool.and_self, beq_dec, fApp, Int.toNat_natCast, Nat.sub_zero, vmI]
      have lB2 := addP_len (f := y.f % 90) (t := y.f % 90 + y.t % 12) (l := addP (y.f % 90) (y.f % 90 + y.t % 12) B)
      have lA1 := addP_len (f := x.f % 90) (t := x.f % 90 + x.t % 12) (l := A)
      refine ⟨N - (j + 1), by omega, j + 1, _, _, _, _, _, _, _, rfl, by omega, rfl, hS11.up2.drop, addP_wf0 wA, addP_wf0 wB1, by omega, by omega, fun k => ?_, fun k => ?_⟩
      · rw [mem_addP0 wA (by omega) (by omega), mA]
        constructor
        · rintro (⟨i, z, h1, h2⟩ | h)
          · exact ⟨i, z, by omega, h2⟩
          · exact ⟨j, x, by omega, hx, h⟩
        · rintro ⟨i, z, h1, h2, h3⟩
          by_cases hij : i = j
          · subst hij; rw [hx] at h2; cases h2; exact .inr h3
          · exact .inl ⟨i, z, by omega, h2, h3⟩
      · rw [mem_addP0 wB1 (by omega) (by omega), mem_addP0 wB (by omega) (by omega), mB]
        constructor
        · rintro ((⟨i, z, h1, h2⟩ | h) | h)
          · exact ⟨i, z, by omega, h2⟩
          · exact ⟨j', y, by omega, hy, h⟩
          · exact ⟨j', y, by omega, hy, h⟩
        · rintro ⟨i, z, h1, h2, h3⟩
          by_cases hij : i = j'
          · subst hij; rw [hy] at h2; cases h2; exact .inr h3
          · exact .inl (.inl ⟨i, z, by omega, h2, h3⟩)
    · have hjN : j = N := by omega
      have hAB : A = B := WFr_ext wA wB fun k => by
        rw [mA, mB]
        constructor
        · rintro ⟨i, x, h1, h2⟩; exact ⟨i, x, by omega, h2⟩
        · rintro ⟨i, x, h1, h2⟩; exact ⟨i, x, by omega, h2⟩
      subst hAB
      simp (disch := omega) only [vm0, vm1, vm2, vm3, vm4, vm5, vm6, vm7, fPick, fBox, fBuild, fBsl, fLd, fLda, fSt, fNilc, fBin, fEq, fUn, fMkf, fFa, fFld, fFlda, fExt, evo, wr, wrC, frame, Bool.not_true, Bool.not_false, beq_self_eq_true, List.cons_append, List.nil_append, Nat.add_zero, Nat.zero_add, Nat.reduceAdd, Nat.reduceMul, Nat.reduceSub, Bool.and_true, Bool.true_and, Bool.and_self, beq_dec, fApp, Int.toNat_natCast, Nat.sub_zero, vmI, vc11_1, vc11_0]
      exact order_t hs n s s3 p q A v a0 b0 (N : Int) (j : Int) z6 z8 z10 z11 hS3 wA (by omega) hA hB hfu
end
end Go.Proofs.Ytekhpohcjfjhfaa.ctr
namespace Go.Proofs.Ytekhpohcjfjhfaa.rangesOrderRun
open Go.Vm Go.RowKit Go.Proofs.Ytekhpohcjfjhfaa.ctr
set_option linter.unusedVariables false
set_option linter.unusedSimpArgs false
theorem mixed : Try.prog.follows .mixedOrders = true := by kernel_rfl
theorem walk (a0 : Option Addr) (len0 cap0 : Nat) (z0 : Nat → Value) (a1 : Int) (a2 : Int) (w : World) (w1 : (Lit.int .i64 a1).wf = true) (w2 : (Lit.int .i64 a2).wf = true) (hq0 : IsRowV w a0 len0 cap0 4 z0) (hk0 : ∀ i, i < cap0 * 4 → FkOk w (([.i, .i, .b, .b] : List Fk).getD (i % 4) .i) (z0 i)) :
    Calls Try.prog 11 #[.slice a0 len0 cap0, .int .i64 a1, .int .i64 a2] w fun e w' => e = .returned (.bool true) ∧ Below w.heap.size w w' := by
  obtain ⟨v0, E0, s0, L0, g0, l0, f0, r0, d0, i0⟩ := (Arg0.start w).acts5 hq0 hk0
  have h := order srt_ok (bd := bd0) (h := srt) (fu := 5000) 40 s0 v0 a1 a2 _ d0 i0 (wf64 w1) (wf64 w2) (by omega)
  exact law_okE bd0_ok mixed (tabS_all rho0) (t11 srt) g0.hr g0.own (.cons r0 (.cons vr_int (.cons vr_int .nil))) (yes_of' h fun _ _ h => h)
end Go.Proofs.Ytekhpohcjfjhfaa.rangesOrderRun
