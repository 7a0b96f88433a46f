/- OutboxWhole, walked. -/
import Derived.Test.YtekhpohcjfjhfaaCtOu
import Derived.Deep.Slices
import Derived.WalkKit
import Derived.ProofKit
namespace Go.Proofs.Ytekhpohcjfjhfaa.ctr
open Go Go.Vm Go.RowKit Go.ChangeShapes Go.WideShapes
set_option linter.unusedVariables false
set_option linter.constructorNameAsVariable false
set_option linter.unusedSimpArgs false
/-! ## a slice among the arguments whose elements are several cells -/
theorem row_blockV {w : World} {a : Addr} {n : Nat} {V : Nat → Value} (h0 : 0 < n) (hc : ∀ i, i < n → w.cell? (a.add i) = some (V i)) :
    ∃ B δ cs t fz, a = ⟨B, δ, none⟩ ∧ w.heap[B]? = some (.cells cs t fz) ∧ δ + n ≤ cs.size ∧ ∀ i, i < n → cs[i + δ]? = some (V i) := by
  obtain ⟨B, δ, sp⟩ := a
  have hb := hc 0 h0
  unfold World.cell? at hb hc
  have e0 : (Addr.add ⟨B, δ, sp⟩ 0) = ⟨B, δ, sp⟩ := rfl
  rw [e0] at hb
  dsimp only at hb
  split at hb
  · rename_i cs t fz hw
    have hsp : sp = none := by
      cases sp with
      | none => rfl
      | some x => simp at hb
    subst hsp
    have ad : ∀ i, (Addr.add ⟨B, δ, none⟩ i).block = B ∧ (Addr.add ⟨B, δ, none⟩ i).off = δ + i ∧ (Addr.add ⟨B, δ, none⟩ i).spot = none := fun i => by rw [addr_add]; exact ⟨rfl, rfl, rfl⟩
    have hall : ∀ i, i < n → cs[i + δ]? = some (V i) := by
      intro i hi
      have h1 := hc i hi
      rw [(ad i).1, hw] at h1
      simp only [(ad i).2.1, (ad i).2.2, Option.isSome_none, Bool.false_eq_true, if_false] at h1
      rw [Nat.add_comm]; exact h1
    refine ⟨B, δ, cs, t, fz, rfl, hw, ?_, hall⟩
    have := lt_of_get (hall (n - 1) (by omega))
    omega
  · cases hb
/-- a slice of len elements of sz cells, V: its cells, up to its capacity -/
def IsRowV (w : World) (a : Option Addr) (len cap sz : Nat) (V : Nat → Value) : Prop :=
  (a = none ∧ len = 0 ∧ cap = 0) ∨ ∃ x, a = some x ∧ len ≤ cap ∧ cap ≤ maxLen ∧ ∀ i, i < cap * sz → w.cell? (x.add i) = some (V i)
theorem _root_.Go.Vm.Arg0.rows {α : Type} {E : Env} {s : St} {w : World} (h : Arg0 E s w) {a : Option Addr} {len cap sz : Nat} {V : Nat → Value} (hq : IsRowV w a len cap sz V) (hp : 0 < sz) (enc : α → List AV) (hw : ∀ x, (enc x).length = sz) (l : List α) (hl : l.length = len)
    (hc : ∀ i v, (l.flatMap enc)[i]? = some v → VR rho0 E v (V i) ∧ v.scalar = true) :
    ∃ v E' s', Arg0 E' s' w ∧ E.le E' ∧ Fr s s' [] ∧ VR rho0 E' v (.slice a len cap) ∧ RdE s' v sz enc l := by
  rcases hq with ⟨rfl, rfl, rfl⟩ | ⟨x, rfl, h2, h3, h4⟩
  · obtain rfl := List.eq_nil_of_length_eq_zero hl
    exact ⟨.nils, E, s, h, .refl E, .refl, .nils, .nil hw hp⟩
  · by_cases h0 : len = 0
    · subst h0
      obtain rfl := List.eq_nil_of_length_eq_zero hl
      exact ⟨.emp, E, s, h, .refl E, .refl, .emp, .emp hw hp⟩
    · have hpos : 0 < cap * sz := Nat.mul_pos (by omega) hp
      obtain ⟨B, δ, cs, t, fz, rfl, g1, g2, g3⟩ := row_blockV hpos h4
      have hlt : (l.flatMap enc).length = len * sz := by rw [flat_len hw, hl]
      have hle : len * sz ≤ cap * sz := Nat.mul_le_mul_right sz h2
      obtain ⟨k1, k2⟩ := h.add (δ := δ) (c := l.flatMap enc) g1 rfl (by rw [hlt]; omega) (fun i v hi => by
        obtain ⟨q1, q2⟩ := hc i v hi
        have := (List.getElem?_eq_some_iff.1 hi).1
        exact ⟨_, g3 i (by omega), q1, q2⟩)
      have hv := VR.sl (ρ := rho0) (E := envN E s.next (B, δ, cs.size)) (b := s.next) (off := 0) (len := len) (lo := len) (ex := false) (sz := sz) (cap := cap) (if_pos rfl) (Nat.le_refl _) h2 (by simp) (by omega)
      rw [Nat.zero_add] at hv
      refine ⟨.sl s.next 0 len len false sz, _, _, k1, k2, .new, hv, ⟨⟨⟨rfl, Nat.le_refl _⟩, ?_, ?_⟩, hw, hp, by show s.next < _; rw [next_new]; omega⟩⟩
      · rw [hlt]; rfl
      · show ob ((s.new _).heap.get s.next) (rdC 0 (len * sz)) = _
        rw [get_new_eq rfl]
        show sub _ 0 (len * sz) = _
        rw [sub_of (by rw [hlt]; omega)]
        congr 1
        rw [List.drop_zero, List.take_of_length_le (by rw [hlt]; omega)]
/-! ## slices of records: kinds of cells -/
inductive Fk | i | b | S
def FkOk (w : World) : Fk → Value → Prop
  | .i, v => ∃ z, v = .int .i64 z ∧ (Lit.int .i64 z).wf = true
  | .b, v => ∃ x, v = .bool x
  | .S, v => ∃ a len cap zs, v = .slice a len cap ∧ IsRow8 w a len cap zs
def fkTy (P : Program) : Fk → TypeId → Bool
  | .i, t => match P.underlying t with | some (.int .i64) => true | _ => false
  | .b, t => match P.underlying t with | some .bool => true | _ => false
  | .S, t => match P.underlying t with | some (.slice e) => (match P.underlying e with | some (.int .u8) => P.cellsOf e == 1 | _ => false) | _ => false
def fkB (P : Program) (e : TypeId) (ks : List Fk) : Bool := match P.underlying e with
  | some (.struct fs) => P.cellsOf e == ks.length && fs.size == ks.length && (List.range ks.length).all fun j => match fs[j]?, ks[j]? with
    | some f, some k => f.offset == j && P.cellsOf f.type == 1 && fkTy P k f.type
    | _, _ => false
  | _ => ks.length == 1 && P.cellsOf e == 1 && fkTy P (ks.getD 0 .i) e
section
variable {H : Type} {enc : TypeId × Value → H} {P : Program} {w : World} {base : Nat} {held : Bool}
theorem fk_open {k : Fk} {t : TypeId} {fuel : Nat} {v : Value} {x : DataW H × List MemPlace} (ht : fkTy P k t = true) (h : DataW.trod enc P w base (fun _ => true) held fuel t [v] = some x) : FkOk w k v := by
  cases k with
  | i =>
    unfold fkTy at ht; dsimp only at ht; split at ht
    · rename_i hu
      obtain ⟨n, h1, _, h2⟩ := DataW.trod_int hu h
      cases h1; exact ⟨n, rfl, h2⟩
    · cases ht
  | b =>
    unfold fkTy at ht; dsimp only at ht; split at ht
    · rename_i hu
      obtain ⟨n, h1, _⟩ := DataW.trod_bool hu h
      cases h1; exact ⟨n, rfl⟩
    · cases ht
  | S =>
    unfold fkTy at ht; dsimp only at ht; split at ht
    · rename_i e hu
      split at ht
      · rename_i hu2
        rcases open_ints hu hu2 (by simpa using ht) h with ⟨hcs, _⟩ | ⟨x, l, c, zs, hcs, _, hl, hm, hz, _, hcell, hwz⟩
        · cases hcs
          exact ⟨_, _, _, [], rfl, .inl ⟨rfl, rfl, rfl, rfl⟩⟩
        · cases hcs
          exact ⟨_, _, _, zs, rfl, .inr ⟨_, rfl, hl, hm, by simpa using hz, hcell, hwz⟩⟩
      · cases ht
    · cases ht
theorem open_rowV {t e : TypeId} {ks : List Fk} {fuel : Nat} {a : Option Addr} {len cap : Nat} {x : DataW H × List MemPlace} (ht : P.underlying t = some (.slice e)) (hk : fkB P e ks = true) (hp : 0 < ks.length)
    (h : DataW.trod enc P w base (fun _ => true) held fuel t [.slice a len cap] = some x) :
    ∃ V, IsRowV w a len cap ks.length V ∧ ∀ i, i < cap * ks.length → FkOk w (ks.getD (i % ks.length) .i) (V i) := by
  have ce : P.cellsOf e = ks.length := by
    unfold fkB at hk
    split at hk
    · simp only [Bool.and_eq_true, beq_iff_eq] at hk; exact hk.1.1
    · simp only [Bool.and_eq_true, beq_iff_eq] at hk; rw [hk.1.1]; exact hk.1.2
  rcases Go.Deep.open_slice ht h with ⟨h0, _⟩ | ⟨b, l, c, m, n, D, Pl, h0, hb, hl, hm, hmm, rfl, hx⟩
  · cases h0
    exact ⟨fun _ => .int .i64 0, .inl ⟨rfl, rfl, rfl⟩, fun i hi => by simp at hi⟩
  · cases h0
    obtain rfl : m = cap := by simpa using hmm
    rw [ce] at hx
    have key : ∀ q, q < m * ks.length → ∃ v, w.cell? (b.add q) = some v ∧ FkOk w (ks.getD (q % ks.length) .i) v := by
      intro q hq
      have hj : q % ks.length < ks.length := Nat.mod_lt _ hp
      have hi : q / ks.length < m := by rw [Nat.div_lt_iff_lt_mul hp]; exact hq
      have hqe : q / ks.length * ks.length + q % ks.length = q := by rw [Nat.mul_comm]; exact Nat.div_add_mod q ks.length
      obtain ⟨cs', h1, h2⟩ := hx _ hi
      obtain ⟨_, hlen, hcell⟩ := World.cells?_some h1
      have e1 := hcell (q % ks.length) (by omega)
      rw [Go.Deep.add_add, hqe] at e1
      obtain ⟨v, hv⟩ : ∃ v, cs'[q % ks.length]? = some v := ⟨cs'[q % ks.length]'(by omega), List.getElem?_eq_getElem (by omega)⟩
      refine ⟨v, by rw [e1, hv], ?_⟩
      unfold fkB at hk
      split at hk
      · rename_i fs hu
        simp only [Bool.and_eq_true, beq_iff_eq, List.all_eq_true, List.mem_range] at hk
        obtain ⟨⟨_, hsz⟩, hall⟩ := hk
        obtain ⟨xs, k, _, _, _, hxl, hf⟩ := DataW.trod_struct hu h2
        have hj2 := hall _ hj
        split at hj2
        · rename_i f k' hfj hkj
          simp only [Bool.and_eq_true, beq_iff_eq] at hj2
          obtain ⟨⟨o1, c1⟩, ty⟩ := hj2
          have g := hf _ f hfj
          rw [o1, c1] at g
          have hd : (cs'.drop (q % ks.length)).take 1 = [v] := by
            rw [List.take_one, List.head?_drop, hv]; rfl
          rw [hd] at g
          have hlt : q % ks.length < xs.length := by rw [hxl, hsz]; exact hj
          rw [List.getElem?_eq_getElem hlt] at g
          have := fk_open ty g
          rw [List.getD, hkj]; exact this
        · cases hj2
      · rename_i hu
        simp only [Bool.and_eq_true, beq_iff_eq] at hk
        have hl1 : cs'.length = 1 := by rw [hlen]; exact hk.1.1
        have h0 : q % ks.length = 0 := by rw [hk.1.1]; exact Nat.mod_one q
        rw [h0] at hv ⊢
        match cs', hl1, hv, h2 with
        | [y], _, hv, h2 => cases hv; exact fk_open hk.2 h2
    obtain ⟨V, hV⟩ : ∃ V : Nat → Value, ∀ q, q < m * ks.length → w.cell? (b.add q) = some (V q) ∧ FkOk w (ks.getD (q % ks.length) .i) (V q) := by
      haveI : Inhabited Value := ⟨.bool false⟩
      exact Go.Deep.choose_lt key
    exact ⟨V, .inr ⟨_, rfl, hl, hm, fun i hi => (hV i hi).1⟩, fun i hi => (hV i hi).2⟩
end
/-! ## .. in the walk -/
inductive Cl | i (z : Int) | b (x : Bool) | S (u : AV) (l : List Int)
noncomputable def Cl.av : Cl → AV | .i z => num z | .b x => .bool x | .S u _ => u
def Cl.z : Cl → Int | .i z => z | _ => 0
def Cl.x : Cl → Bool | .b x => x | _ => false
def Cl.u : Cl → AV | .S u _ => u | _ => .nils
def Cl.l : Cl → List Int | .S _ l => l | _ => []
/-- a cell of a kind -/
def ClOk (s : St) : Cl → Fk → Prop
  | .i z, .i => In64 z
  | .b _, .b => True
  | .S u l, .S => RdE s u 1 encB l ∧ ∀ x ∈ l, In8 x
  | _, _ => False
theorem ClOk.fr0 {s s' : St} {c : Cl} {k : Fk} (h : ClOk s c k) (f : Fr s s' []) : ClOk s' c k := by
  cases c <;> cases k <;> first | exact h | exact ⟨h.1.fr0 f, h.2⟩ | cases h
theorem _root_.Go.Vm.Arg0.cells {w : World} {V : Nat → Value} {K : Nat → Fk} : ∀ (n : Nat) {E : Env} {s : St}, Arg0 E s w → (∀ i, i < n → FkOk w (K i) (V i)) →
    ∃ (cl : Nat → Cl) (E' : Env) (s' : St), Arg0 E' s' w ∧ E.le E' ∧ Fr s s' [] ∧ ∀ i, i < n → ClOk s' (cl i) (K i) ∧ VR rho0 E' (cl i).av (V i) ∧ (cl i).av.scalar = true
  | 0, E, s, h, _ => ⟨fun _ => .i 0, E, s, h, .refl E, .refl, fun i hi => by omega⟩
  | n + 1, E, s, h, hV => by
    obtain ⟨cl, E1, s1, h1, e1, f1, c1⟩ := Go.Vm.Arg0.cells n h (fun i hi => hV i (by omega))
    have hn := hV n (by omega)
    have put : ∀ (c : Cl) (E' : Env) (s' : St), Arg0 E' s' w → E1.le E' → Fr s1 s' [] → ClOk s' c (K n) → VR rho0 E' c.av (V n) → c.av.scalar = true →
        ∃ (cl : Nat → Cl) (E' : Env) (s' : St), Arg0 E' s' w ∧ E.le E' ∧ Fr s s' [] ∧ ∀ i, i < n + 1 → ClOk s' (cl i) (K i) ∧ VR rho0 E' (cl i).av (V i) ∧ (cl i).av.scalar = true := by
      intro c E' s' a e f k v sc
      refine ⟨fun i => if i = n then c else cl i, E', s', a, e1.trans e, f1.trans f (fp2 := []) (by simp) (by simp), fun i hi => ?_⟩
      dsimp only
      by_cases h : i = n
      · subst h; rw [if_pos rfl]; exact ⟨k, v, sc⟩
      · rw [if_neg h]
        obtain ⟨q1, q2, q3⟩ := c1 i (by omega)
        exact ⟨q1.fr0 f, q2.mono e, q3⟩
    cases hk : K n with
    | i =>
      rw [hk] at hn put
      obtain ⟨z, hz, wz⟩ := hn
      exact put (.i z) E1 s1 h1 (.refl _) .refl (wf64 wz) (by rw [hz]; exact vr_int) rfl
    | b =>
      rw [hk] at hn put
      obtain ⟨z, hz⟩ := hn
      exact put (.b z) E1 s1 h1 (.refl _) .refl trivial (by rw [hz]; exact .bool _) rfl
    | S =>
      rw [hk] at hn put
      obtain ⟨a, len, cap, zs, hv, hq⟩ := hn
      obtain ⟨u, E2, s2, g, l, f, r, d, i8⟩ := h1.bytes hq
      refine put (.S u (zs.take len)) E2 s2 g l f ⟨d, i8⟩ (by rw [hv]; exact r) ?_
      have := d.rd.sl
      show u.scalar = true
      cases u <;> first | rfl | exact this.elim
/-- a slice of records among the arguments -/
theorem _root_.Go.Vm.Arg0.recs {α : Type} {E : Env} {s : St} {w : World} (h : Arg0 E s w) {a : Option Addr} {len cap : Nat} {ks : List Fk} {V : Nat → Value} (hq : IsRowV w a len cap ks.length V)
    (hV : ∀ i, i < cap * ks.length → FkOk w (ks.getD (i % ks.length) .i) (V i)) (hp : 0 < ks.length) (enc : α → List AV) (dec : (Nat → Cl) → α) (hw : ∀ x, (enc x).length = ks.length)
    (hd : ∀ (s : St) (f : Nat → Cl), (∀ j, j < ks.length → ClOk s (f j) (ks.getD j .i)) → ∀ j, j < ks.length → (enc (dec f))[j]? = some (f j).av) :
    ∃ v E' s' l, Arg0 E' s' w ∧ E.le E' ∧ Fr s s' [] ∧ VR rho0 E' v (.slice a len cap) ∧ RdE s' v ks.length enc l ∧ l.length = len ∧ ∀ x ∈ l, ∃ f, x = dec f ∧ ∀ j, j < ks.length → ClOk s' (f j) (ks.getD j .i) := by
  have hlc : len ≤ cap := by rcases hq with ⟨_, rfl, rfl⟩ | ⟨_, _, h, _⟩; exact Nat.le_refl _; exact h
  have hle : len * ks.length ≤ cap * ks.length := Nat.mul_le_mul_right _ hlc
  obtain ⟨cl, E1, s1, h1, e1, f1, c1⟩ := Go.Vm.Arg0.cells (V := V) (K := fun i => ks.getD (i % ks.length) .i) (len * ks.length) h (fun i hi => hV i (by omega))
  have hF : ∀ k, k < len → ∀ j, j < ks.length → k * ks.length + j < len * ks.length := by
    intro k hk j hj
    have : (k + 1) * ks.length ≤ len * ks.length := Nat.mul_le_mul_right _ hk
    rw [Nat.add_mul, Nat.one_mul] at this; omega
  have hmod : ∀ k j, j < ks.length → (k * ks.length + j) % ks.length = j := by
    intro k j hj; rw [Nat.mul_comm, Nat.mul_add_mod, Nat.mod_eq_of_lt hj]
  have hK : ∀ k, k < len → ∀ j, j < ks.length → ClOk s1 (cl (k * ks.length + j)) (ks.getD j .i) := by
    intro k hk j hj
    have := (c1 _ (hF k hk j hj)).1
    rwa [hmod k j hj] at this
  have hlen : ((List.range len).map fun k => dec fun j => cl (k * ks.length + j)).length = len := by simp
  obtain ⟨v, E2, s2, h2, e2, f2, r2, d2⟩ := h1.rows hq hp enc hw ((List.range len).map fun k => dec fun j => cl (k * ks.length + j)) hlen (by
    intro i v hi
    have hil := (List.getElem?_eq_some_iff.1 hi).1
    rw [flat_len hw, hlen] at hil
    have hj : i % ks.length < ks.length := Nat.mod_lt _ hp
    have hk : i / ks.length < len := by rw [Nat.div_lt_iff_lt_mul hp]; exact hil
    have hie : i / ks.length * ks.length + i % ks.length = i := by rw [Nat.mul_comm]; exact Nat.div_add_mod i ks.length
    have hg : ((List.range len).map fun k => dec fun j => cl (k * ks.length + j))[i / ks.length]? = some (dec fun j => cl (i / ks.length * ks.length + j)) := by
      rw [List.getElem?_map, List.getElem?_range hk]; rfl
    have ha := flat_at hw hg
    have hv : (enc (dec fun j => cl (i / ks.length * ks.length + j)))[i % ks.length]? = some v := by
      rw [← ha, List.getElem?_take, if_pos hj, List.getElem?_drop, hie]; exact hi
    rw [hd s1 _ (fun j hj => hK _ hk j hj) _ hj, hie] at hv
    cases hv
    obtain ⟨_, q2, q3⟩ := c1 i (by omega)
    exact ⟨q2, q3⟩)
  refine ⟨v, E2, s2, _, h2, e1.trans e2, f1.trans f2 (fp2 := []) (by simp) (by simp), r2, d2, hlen, fun x hx => ?_⟩
  obtain ⟨k, hk, rfl⟩ := List.mem_map.1 hx
  exact ⟨_, rfl, fun j hj => (hK k (List.mem_range.1 hk) j hj).fr0 f2⟩
end Go.Proofs.Ytekhpohcjfjhfaa.ctr
namespace Go.Proofs.Ytekhpohcjfjhfaa.ctr
open Go.Vm Go.RowKit Go.Ranges
set_option linter.unusedVariables false
set_option linter.unusedSimpArgs false
set_option linter.constructorNameAsVariable false
theorem ClOk.i {s : St} {c : Cl} (h : ClOk s c .i) : c.av = num c.z ∧ In64 c.z := by
  cases c <;> first | exact ⟨rfl, h⟩ | cases h
theorem ClOk.b {s : St} {c : Cl} (h : ClOk s c .b) : c.av = .bool c.x := by
  cases c <;> first | rfl | cases h
theorem ClOk.S {s : St} {c : Cl} (h : ClOk s c .S) : c.av = c.u ∧ RdE s c.u 1 encB c.l ∧ ∀ x ∈ c.l, In8 x := by
  cases c <;> first | exact ⟨rfl, h⟩ | cases h
theorem _root_.Go.Vm.RdE.fld {α : Type} {s : St} {v : AV} {sz : Nat} {enc : α → List AV} {l : List α} (h : RdE s v sz enc l) {i : Nat} {x : α} (hx : l[i]? = some x) {k : Nat} {c : AV} (hk : (enc x)[k]? = some c) :
    ob (s.heap.get (sblk v)) (rd1C (soff v + i * sz + k)) = some c := by
  obtain ⟨c', k', q1, q2⟩ := rd_sub (s := s) (b := sblk v) (o := soff v + i * sz) (n := sz) (h.at hx)
  obtain ⟨q3, q4⟩ := sub_some q2
  have hlt := (List.getElem?_eq_some_iff.1 hk).1
  rw [h.wid] at hlt
  rw [q1]
  show nth c' (soff v + i * sz + k) = _
  rw [nth_eq]
  have : ((c'.drop (soff v + i * sz)).take sz)[k]? = some c := by rw [← q4]; exact hk
  rw [List.getElem?_take, if_pos hlt, List.getElem?_drop] at this
  exact this
theorem _root_.Go.Vm.RdE.fld0 {α : Type} {s : St} {v : AV} {sz : Nat} {enc : α → List AV} {l : List α} (h : RdE s v sz enc l) {i : Nat} {x : α} (hx : l[i]? = some x) {c : AV} (hk : (enc x)[0]? = some c) :
    ob (s.heap.get (sblk v)) (rd1C (soff v + i * sz)) = some c := h.fld hx (k := 0) hk
theorem drop_of {α : Type} {l : List α} {i : Nat} {x : α} (h : l[i]? = some x) : l.drop i = x :: l.drop (i + 1) := by
  obtain ⟨h1, h2⟩ := List.getElem?_eq_some_iff.1 h
  rw [List.drop_eq_getElem_cons h1, h2]
theorem Sep.cell {s0 s : St} {Ps : List Obj} (h : Sep s0 s Ps) (c0 c : List AV) : Sep s0 ((s.new (.cells c0 .own)).put s.next (some (.cells c .own))) (oC s.next c :: Ps) :=
  h.push (P := oC s.next c) ⟨get_put_eq rfl, by rw [next_put, next_new]; omega, rfl⟩ (by (repeat' (first | exact Fr.refl | assumption | apply Fr.new' | apply Fr.mk' | apply Fr.put')) <;> (first | omega | (left; simp; done) | (right; simp only [next_put, next_new, next_mk]; omega) | (simp only [next_put, next_new, next_mk]; omega))) (Nw.one (Nat.le_refl _))
theorem Sep.getC {s0 s : St} {b : Nat} {c : List AV} {Ps : List Obj} (h : Sep s0 s (oC b c :: Ps)) : s.heap.get b = some (.cells c .own) := by
  obtain ⟨f, k, up⟩ := h.hd; exact k.1
theorem Sep.re {s0 s : St} {Ps Qs : List Obj} (h : Sep s0 s Ps) (hp : Ps.Perm Qs) : Sep s0 s Qs := h.perm hp
theorem Sep.rdW {α : Type} {s0 s : St} {v : AV} {sz : Nat} {enc : α → List AV} {l : List α} {Ps : List Obj} (h : Sep s0 s (oW v sz enc l :: Ps)) : RdE s v sz enc l := by
  obtain ⟨f, k, up⟩ := h.hd; exact k.rd
theorem sep_test {s0 s : St} {A B C D E F G : Obj} {Ps : List Obj} (h : Sep s0 s (A :: B :: C :: D :: E :: F :: G :: Ps)) : Sep s0 s (E :: B :: F :: A :: G :: Ps) := ((h.re ((List.perm_middle (l₁ := [_, _])).trans (.cons _ ((List.perm_middle (l₁ := [_, _])).trans (.cons _ ((List.perm_middle (l₁ := [_, _])).trans (.cons _ ((List.perm_middle (l₁ := [_])).trans (.cons _ ((List.perm_middle (l₁ := [_])).trans (.cons _ (.refl _)))))))))))).drop.drop)
theorem sv_bool (b : Bool) : sameV (.bool b) (.bool b) = true := by cases b <;> rfl
end Go.Proofs.Ytekhpohcjfjhfaa.ctr
namespace Go.Proofs.Ytekhpohcjfjhfaa.ctr
open Go.Vm Go.RowKit Go.Ranges
set_option linter.unusedVariables false
set_option linter.unusedSimpArgs false
set_option linter.constructorNameAsVariable false
section
variable {bd : Bd} {h : VF} {fu : Nat}
theorem d_write (n : Nat) {s0 : St} (s : St) (p : Nat) (o : OB) (v : AV) (l : List Int) (Ps : List Obj) (hS : Sep s0 s (oO p o :: Ps)) (hv : RdE s v 1 encB l) (hl : o.b.length < 100000) (hl2 : (l.length : Int) < 4611686018427387904) (hb : -1000000000 ≤ o.buffer ∧ o.buffer ≤ 1000000000) (ha : -1000000000 ≤ o.acked ∧ o.acked ≤ 1000000000) (hfu : 10 < fu) :
    OutOk (callF bd (tab h).get fu (n + 3) 34 [.ptr p 0, v] s) (fun x s' => Is x (num (o.room l.length)) ∧ Sep s0 s' (oO p (o.write l) :: Ps)) := by
  obtain ⟨f, k1, up⟩ := hS.hd
  exact (o_write n s p o f v l k1 hv hl hl2 hb ha hfu).mono fun x s' ⟨f', r1, r2, r3, r4⟩ => ⟨r1, up (oO p _) r2 r3 r4⟩
theorem d_close (n : Nat) {s0 : St} (s : St) (p : Nat) (o : OB) (Ps : List Obj) (hS : Sep s0 s (oO p o :: Ps)) : OutOk (callF bd (tab h).get fu (n + 1) 35 [.ptr p 0] s) (fun x s' => Is x (.bool (!o.closed)) ∧ Sep s0 s' (oO p { o with closed := true } :: Ps)) := by
  obtain ⟨f, k1, up⟩ := hS.hd
  exact (o_close n s p o f k1).mono fun x s' ⟨r1, r2, r3, r4⟩ => ⟨r1, up (oO p _) r2 r3 (fun b hb => .inl hb)⟩
theorem d_ack (n : Nat) {s0 : St} (s : St) (p : Nat) (o : OB) (k : Int) (Ps : List Obj) (hS : Sep s0 s (oO p o :: Ps)) (hl : o.b.length < 1000000) : OutOk (callF bd (tab h).get fu (n + 2) 41 [.ptr p 0, num k] s) (fun x s' => Is x (.bool (o.ackOk k)) ∧ Sep s0 s' (oO p (o.ack k) :: Ps)) := by
  obtain ⟨f, k1, up⟩ := hS.hd
  exact (o_ack n s p o f k k1 hl).mono fun x s' ⟨r1, r2, r3, r4⟩ => ⟨r1, up (oO p _) r2 r3 (fun b hb => .inl hb)⟩
theorem d_acked (n : Nat) {s0 : St} (s : St) (p : Nat) (o : OB) (Ps : List Obj) (hS : Sep s0 s (oO p o :: Ps)) : OutOk (callF bd (tab h).get fu (n + 1) 48 [.ptr p 0] s) (fun x s' => Is x (num o.acked) ∧ Is s' s) := by
  obtain ⟨f, k1, up⟩ := hS.hd
  exact o_acked n s p o f k1
theorem d_len (n : Nat) {s0 : St} (s : St) (p : Nat) (o : OB) (Ps : List Obj) (hS : Sep s0 s (oO p o :: Ps)) : OutOk (callF bd (tab h).get fu (n + 1) 95 [.ptr p 0] s) (fun x s' => Is x (num (o.b.length : Int)) ∧ Is s' s) := by
  obtain ⟨f, k1, up⟩ := hS.hd
  exact o_len n s p o f k1
theorem d_places (n : Nat) {s0 : St} (s : St) (p : Nat) (o : OB) (Ps : List Obj) (hS : Sep s0 s (oO p o :: Ps)) (hl : o.b.length < 1000000) : OutOk (callF bd (tab h).get fu (n + 1) 49 [.ptr p 0] s) (fun x s' => Is x (num o.places) ∧ Is s' s) := by
  obtain ⟨f, k1, up⟩ := hS.hd
  exact o_places n s p o f k1 hl
theorem cloneB (n : Nat) (s : St) (v : AV) (l : List Int) (hv : RdE s v 1 encB l) (hf : l.length < 1000000) :
    OutOk (callF bd (tab h).get fu (n + 1) 94 [v] s) (fun x s' => ∃ fp, OwE s' x 1 encB l fp ∧ Fr s s' [] ∧ Nw s [] fp) :=
  (clone_ok (t94 h) (by omega) n s v l hv hf).mono fun x s' ⟨fp, h1, h2, h3, _⟩ => ⟨fp, h1, h2, h3⟩
theorem d_all (n : Nat) {s0 : St} (s : St) (p : Nat) (o : OB) (Ps : List Obj) (hS : Sep s0 s (oO p o :: Ps)) (hl : o.b.length < 1000000) : OutOk (callF bd (tab h).get fu (n + 2) 52 [.ptr p 0] s) (fun x s' => Sep s0 s' (oW x 1 encB o.b :: oO p o :: Ps)) := by
  obtain ⟨f, ⟨v, fv, h1, h2, h3, rfl, h5⟩, up⟩ := hS.hd
  refine call_code (t52 h) rfl ?_
  simp (disch := omega) only [vm0, vm1, vm2, vm3, vm4, vm5, vm6, vm7, fPick, fBox, fBuild, fBsl, fLd, fLda, fSt, fNilc, fBin, fEq, fUn, fMkf, fFa, fFld, fFlda, fExt, evo, wr, wrC, frame, Bool.not_true, Bool.not_false, beq_self_eq_true, List.cons_append, List.nil_append, Nat.add_zero, Nat.zero_add, Nat.reduceAdd, Nat.reduceMul, Nat.reduceSub, Bool.and_true, Bool.true_and, Bool.and_self, beq_dec, fApp, Int.toNat_natCast, Nat.sub_zero, vmI, vc52, h1]
  refine call_ok rfl rfl (cloneB n s v o.b h2.rd hl) ?_
  rintro x s' ⟨fp', g1, g2, g3⟩
  simp (disch := omega) only [vm0, vm1, vm2, vm3, vm4, vm5, vm6, vm7, fPick, fBox, fBuild, fBsl, fLd, fLda, fSt, fNilc, fBin, fEq, fUn, fMkf, fFa, fFld, fFlda, fExt, evo, wr, wrC, frame, Bool.not_true, Bool.not_false, beq_self_eq_true, List.cons_append, List.nil_append, Nat.add_zero, Nat.zero_add, Nat.reduceAdd, Nat.reduceMul, Nat.reduceSub, Bool.and_true, Bool.true_and, Bool.and_self, beq_dec, fApp, Int.toNat_natCast, Nat.sub_zero, vmI]
  exact hS.push (P := oW x 1 encB o.b) g1 g2 g3
theorem d_piece (n : Nat) {s0 : St} (s : St) (p : Nat) (o : OB) (Ps : List Obj) (a b : Int) (hS : Sep s0 s (oO p o :: Ps)) (hl : o.b.length < 100000) (h0 : 0 ≤ a) (h1 : a ≤ b) (h2 : b ≤ o.places) :
    OutOk (callF bd (tab h).get fu (n + 2) 50 [.ptr p 0, num a, num b] s) (fun x s' => ∃ u, Is x (.tup [u, .bool (decide (a ≤ (o.b.length : Int)) && decide ((o.b.length : Int) < b))]) ∧ Sep s0 s' (oW u 1 encB ((o.b.take (min b (o.b.length : Int)).toNat).drop (min a (o.b.length : Int)).toNat) :: oO p o :: Ps)) := by
  have hpl := o.places_bd
  refine call_code (t50 h) rfl ?_
  simp (disch := omega) only [vm0, vm1, vm2, vm3, vm4, vm5, vm6, vm7, fPick, fBox, fBuild, fBsl, fLd, fLda, fSt, fNilc, fBin, fEq, fUn, fMkf, fFa, fFld, fFlda, fExt, evo, wr, wrC, frame, Bool.not_true, Bool.not_false, beq_self_eq_true, List.cons_append, List.nil_append, Nat.add_zero, Nat.zero_add, Nat.reduceAdd, Nat.reduceMul, Nat.reduceSub, Bool.and_true, Bool.true_and, Bool.and_self, beq_dec, fApp, Int.toNat_natCast, Nat.sub_zero, vmI, vc50]
  refine call_ok rfl rfl (d_places n s p o Ps hS (by omega)) ?_
  rintro x s ⟨rfl, rfl⟩
  obtain ⟨f, ⟨v, fv, q1, q2, q3, rfl, q5⟩, up⟩ := hS.hd
  have e1 := q2.rd.lenV
  obtain ⟨A, hA⟩ : ∃ A, min a (o.b.length : Int) = A := ⟨_, rfl⟩
  obtain ⟨B, hB⟩ : ∃ B, min b (o.b.length : Int) = B := ⟨_, rfl⟩
  obtain ⟨w, g1, g2⟩ := q2.rd.sli' (a := A) (b := B) (by omega) (by omega) (by omega)
  rw [hA, hB]
  simp (disch := omega) only [vm0, vm1, vm2, vm3, vm4, vm5, vm6, vm7, fPick, fBox, fBuild, fBsl, fLd, fLda, fSt, fNilc, fBin, fEq, fUn, fMkf, fFa, fFld, fFlda, fExt, evo, wr, wrC, frame, Bool.not_true, Bool.not_false, beq_self_eq_true, List.cons_append, List.nil_append, Nat.add_zero, Nat.zero_add, Nat.reduceAdd, Nat.reduceMul, Nat.reduceSub, Bool.and_true, Bool.true_and, Bool.and_self, beq_dec, fApp, Int.toNat_natCast, Nat.sub_zero, vmI, q1, e1, hA, hB, g1]
  refine call_ok rfl rfl (cloneB n s w _ g2 (by simp; omega)) ?_
  rintro x s' ⟨fp', k1, k2, k3⟩
  by_cases c1 : a ≤ (o.b.length : Int)
  · by_cases c2 : (o.b.length : Int) < b
    · simp (disch := omega) only [vm0, vm1, vm2, vm3, vm4, vm5, vm6, vm7, fPick, fBox, fBuild, fBsl, fLd, fLda, fSt, fNilc, fBin, fEq, fUn, fMkf, fFa, fFld, fFlda, fExt, evo, wr, wrC, frame, Bool.not_true, Bool.not_false, beq_self_eq_true, List.cons_append, List.nil_append, Nat.add_zero, Nat.zero_add, Nat.reduceAdd, Nat.reduceMul, Nat.reduceSub, Bool.and_true, Bool.true_and, Bool.and_self, beq_dec, fApp, Int.toNat_natCast, Nat.sub_zero, vmI]
      exact ⟨x, rfl, hS.push (P := oW x 1 encB _) k1 k2 k3⟩
    · simp (disch := omega) only [vm0, vm1, vm2, vm3, vm4, vm5, vm6, vm7, fPick, fBox, fBuild, fBsl, fLd, fLda, fSt, fNilc, fBin, fEq, fUn, fMkf, fFa, fFld, fFlda, fExt, evo, wr, wrC, frame, Bool.not_true, Bool.not_false, beq_self_eq_true, List.cons_append, List.nil_append, Nat.add_zero, Nat.zero_add, Nat.reduceAdd, Nat.reduceMul, Nat.reduceSub, Bool.and_true, Bool.true_and, Bool.and_self, beq_dec, fApp, Int.toNat_natCast, Nat.sub_zero, vmI]
      exact ⟨x, rfl, hS.push (P := oW x 1 encB _) k1 k2 k3⟩
  · simp (disch := omega) only [vm0, vm1, vm2, vm3, vm4, vm5, vm6, vm7, fPick, fBox, fBuild, fBsl, fLd, fLda, fSt, fNilc, fBin, fEq, fUn, fMkf, fFa, fFld, fFlda, fExt, evo, wr, wrC, frame, Bool.not_true, Bool.not_false, beq_self_eq_true, List.cons_append, List.nil_append, Nat.add_zero, Nat.zero_add, Nat.reduceAdd, Nat.reduceMul, Nat.reduceSub, Bool.and_true, Bool.true_and, Bool.and_self, beq_dec, fApp, Int.toNat_natCast, Nat.sub_zero, vmI]
    exact ⟨x, rfl, hS.push (P := oW x 1 encB _) k1 k2 k3⟩
theorem sameC (n : Nat) (s : St) (v w : AV) (l m : List Int) (hv : RdE s v 1 encB l) (hw : RdE s w 1 encB m) (hlen : l.length < fu) (hf : l.length < 4611686018427387904) :
    OutOk (callF bd (tab h).get fu (n + 1) 51 [v, w] s) (fun x s' => Is x (.bool (decide (l = m))) ∧ Is s' s) := by
  refine call_code (t51 h) rfl ?_
  by_cases hl : l.length = m.length
  · simp (disch := omega) only [vm0, vm1, vm2, vm3, vm4, vm5, vm6, vm7, fPick, fBox, fBuild, fBsl, fLd, fLda, fSt, fNilc, fBin, fEq, fUn, fMkf, fFa, fFld, fFlda, fExt, evo, wr, wrC, frame, Bool.not_true, Bool.not_false, beq_self_eq_true, List.cons_append, List.nil_append, Nat.add_zero, Nat.zero_add, Nat.reduceAdd, Nat.reduceMul, Nat.reduceSub, Bool.and_true, Bool.true_and, Bool.and_self, beq_dec, fApp, Int.toNat_natCast, Nat.sub_zero, vc51, hv.lenV, hw.lenV]
    refine x_loop (fun k F s' => ∃ i : Nat, ∃ z x4 x5, k = l.length - i ∧ i ≤ l.length ∧ z = (i : Int) ∧ F = [some v, some w, some (num z), some (.bool false), x4, x5, some (.bool false)] ∧ s' = s ∧ l.take i = m.take i) l.length (by omega) ?_ ?_
    · exact ⟨0, _, _, _, by omega, by omega, rfl, rfl, rfl, by simp⟩
    · rintro k F s1 ⟨i, _, x4, x5, rfl, hi, rfl, rfl, rfl, ht⟩ hm
      by_cases hlt : i < l.length
      · obtain ⟨x, hx⟩ : ∃ x, l[i]? = some x := ⟨_, List.getElem?_eq_getElem hlt⟩
        obtain ⟨y, hy⟩ : ∃ y, m[i]? = some y := ⟨_, List.getElem?_eq_getElem (by omega)⟩
        have e1 := hv.ia hx
        have e2 := hv.at1 (f := byt) hx
        have e3 := hw.ia hy
        have e4 := hw.at1 (f := byt) hy
        have ht' : l.take (i + 1) = l.take i ++ [x] := by rw [List.take_add_one, hx]; rfl
        have ht2 : m.take (i + 1) = m.take i ++ [y] := by rw [List.take_add_one, hy]; rfl
        by_cases hxy : x = y
        · subst hxy
          simp (disch := omega) only [vm0, vm1, vm2, vm3, vm4, vm5, vm6, vm7, fPick, fBox, fBuild, fBsl, fLd, fLda, fSt, fNilc, fBin, fEq, fUn, fMkf, fFa, fFld, fFlda, fExt, evo, wr, wrC, frame, Bool.not_true, Bool.not_false, beq_self_eq_true, List.cons_append, List.nil_append, Nat.add_zero, Nat.zero_add, Nat.reduceAdd, Nat.reduceMul, Nat.reduceSub, Bool.and_true, Bool.true_and, Bool.and_self, beq_dec, fApp, Int.toNat_natCast, Nat.sub_zero, hv.lenV, e1, e2, e3, e4, decide_true, decide_true, wr64]
          exact ⟨l.length - (i + 1), by omega, i + 1, _, _, _, rfl, by omega, by omega, rfl, rfl, by rw [ht', ht2, ht]⟩
        · simp (disch := omega) only [vm0, vm1, vm2, vm3, vm4, vm5, vm6, vm7, fPick, fBox, fBuild, fBsl, fLd, fLda, fSt, fNilc, fBin, fEq, fUn, fMkf, fFa, fFld, fFlda, fExt, evo, wr, wrC, frame, Bool.not_true, Bool.not_false, beq_self_eq_true, List.cons_append, List.nil_append, Nat.add_zero, Nat.zero_add, Nat.reduceAdd, Nat.reduceMul, Nat.reduceSub, Bool.and_true, Bool.true_and, Bool.and_self, beq_dec, fApp, Int.toNat_natCast, Nat.sub_zero, hv.lenV, e1, e2, e3, e4, decide_true, decide_true, decide_eq_false hxy, Bool.not_false, wr64]
          refine ⟨?_, rfl⟩
          rw [decide_eq_false]; rfl
          rintro rfl
          rw [hx] at hy; cases hy; exact hxy rfl
      · simp (disch := omega) only [vm0, vm1, vm2, vm3, vm4, vm5, vm6, vm7, fPick, fBox, fBuild, fBsl, fLd, fLda, fSt, fNilc, fBin, fEq, fUn, fMkf, fFa, fFld, fFlda, fExt, evo, wr, wrC, frame, Bool.not_true, Bool.not_false, beq_self_eq_true, List.cons_append, List.nil_append, Nat.add_zero, Nat.zero_add, Nat.reduceAdd, Nat.reduceMul, Nat.reduceSub, Bool.and_true, Bool.true_and, Bool.and_self, beq_dec, fApp, Int.toNat_natCast, Nat.sub_zero, hv.lenV]
        refine ⟨?_, rfl⟩
        rw [decide_eq_true]; rfl
        rw [List.take_of_length_le (by omega), List.take_of_length_le (by omega)] at ht
        exact ht
  · simp (disch := omega) only [vm0, vm1, vm2, vm3, vm4, vm5, vm6, vm7, fPick, fBox, fBuild, fBsl, fLd, fLda, fSt, fNilc, fBin, fEq, fUn, fMkf, fFa, fFld, fFlda, fExt, evo, wr, wrC, frame, Bool.not_true, Bool.not_false, beq_self_eq_true, List.cons_append, List.nil_append, Nat.add_zero, Nat.zero_add, Nat.reduceAdd, Nat.reduceMul, Nat.reduceSub, Bool.and_true, Bool.true_and, Bool.and_self, beq_dec, fApp, Int.toNat_natCast, Nat.sub_zero, vc51, hv.lenV, hw.lenV]
    refine ⟨?_, rfl⟩
    rw [decide_eq_false]; rfl
    rintro rfl; exact hl rfl
theorem wakes13 (n : Nat) (s : St) (hfu : 10 < fu) : OutOk (callF bd (tab h).get fu (n + 4) 53 [] s) (fun x s' => Is x (.bool true)) := by
  refine call_code (t53 h) rfl ?_
  have hS0 : Sep s s [] := .nil
  simp (disch := omega) only [vm0, vm1, vm2, vm3, vm4, vm5, vm6, vm7, fPick, fBox, fBuild, fBsl, fLd, fLda, fSt, fNilc, fBin, fEq, fUn, fMkf, fFa, fFld, fFlda, fExt, evo, wr, wrC, frame, Bool.not_true, Bool.not_false, beq_self_eq_true, List.cons_append, List.nil_append, Nat.add_zero, Nat.zero_add, Nat.reduceAdd, Nat.reduceMul, Nat.reduceSub, Bool.and_true, Bool.true_and, Bool.and_self, beq_dec, fApp, Int.toNat_natCast, Nat.sub_zero, vmI, vc53]
  refine call_ok rfl rfl (o_new (n + 2) s 5) ?_
  rintro x s2 ⟨q, rfl, hq, q5, q6⟩
  have hS2 := hS0.push (P := oO q _) q6 q5 (Nw.one hq)
  simp (disch := omega) only [vm0, vm1, vm2, vm3, vm4, vm5, vm6, vm7, fPick, fBox, fBuild, fBsl, fLd, fLda, fSt, fNilc, fBin, fEq, fUn, fMkf, fFa, fFld, fFlda, fExt, evo, wr, wrC, frame, Bool.not_true, Bool.not_false, beq_self_eq_true, List.cons_append, List.nil_append, Nat.add_zero, Nat.zero_add, Nat.reduceAdd, Nat.reduceMul, Nat.reduceSub, Bool.and_true, Bool.true_and, Bool.and_self, beq_dec, fApp, Int.toNat_natCast, Nat.sub_zero, vmI]
  refine call_ok rfl rfl (d_places (n + 2) s2 q _ _ hS2 (by simp)) ?_
  rintro x s3 ⟨rfl, rfl⟩
  rw [show OB.places ⟨[], min (max 5 1) 400, 0, false⟩ = 0 from rfl]
  simp (disch := omega) only [vm0, vm1, vm2, vm3, vm4, vm5, vm6, vm7, fPick, fBox, fBuild, fBsl, fLd, fLda, fSt, fNilc, fBin, fEq, fUn, fMkf, fFa, fFld, fFlda, fExt, evo, wr, wrC, frame, Bool.not_true, Bool.not_false, beq_self_eq_true, List.cons_append, List.nil_append, Nat.add_zero, Nat.zero_add, Nat.reduceAdd, Nat.reduceMul, Nat.reduceSub, Bool.and_true, Bool.true_and, Bool.and_self, beq_dec, fApp, Int.toNat_natCast, Nat.sub_zero, vmI]
  obtain ⟨s4, e4⟩ : ∃ s4, s3.new (.cells [.int .u8 (.c 97), .int .u8 (.c 98), .int .u8 (.c 99), .int .u8 (.c 100), .int .u8 (.c 101), .int .u8 (.c 102), .int .u8 (.c 103)] .own) = s4 := ⟨_, rfl⟩
  have g4 : s4.heap.get s3.next = some (.cells [.int .u8 (.c 97), .int .u8 (.c 98), .int .u8 (.c 99), .int .u8 (.c 100), .int .u8 (.c 101), .int .u8 (.c 102), .int .u8 (.c 103)] .own) := by rw [← e4]; exact get_new_eq rfl
  have f4 : Fr s3 s4 [] := by rw [← e4]; exact .new
  have n4 : s4.next = s3.next + 1 := by rw [← e4]; rfl
  have hU : RdE s4 (.sl s3.next 0 7 7 true 1) 1 encB [97, 98, 99, 100, 101, 102, 103] := by
    refine ⟨⟨⟨rfl, Nat.le_refl _⟩, rfl, ?_⟩, fun _ => rfl, by omega, by show s3.next < _; omega⟩
    show ob (s4.heap.get s3.next) (rdC 0 (7 * 1)) = _
    rw [g4]; rfl
  rw [e4]
  rw [fcve (x := .t 0) rfl g4]
  simp (disch := omega) only [vm0, vm1, vm2, vm3, vm4, vm5, vm6, vm7, fPick, fBox, fBuild, fBsl, fLd, fLda, fSt, fNilc, fBin, fEq, fUn, fMkf, fFa, fFld, fFlda, fExt, evo, wr, wrC, frame, Bool.not_true, Bool.not_false, beq_self_eq_true, List.cons_append, List.nil_append, Nat.add_zero, Nat.zero_add, Nat.reduceAdd, Nat.reduceMul, Nat.reduceSub, Bool.and_true, Bool.true_and, Bool.and_self, beq_dec, fApp, Int.toNat_natCast, Nat.sub_zero, vmI]
  refine call_ok rfl rfl (d_write n s4 q _ _ _ _ (hS2.fr f4) hU (by simp) (by simp) (by decide) (by decide) hfu) ?_
  rintro x s5 ⟨rfl, hS5⟩
  have hw : (⟨[], min (max 5 1) 400, 0, false⟩ : OB).write [97, 98, 99, 100, 101, 102, 103] = ⟨[97, 98, 99, 100, 101], 5, 0, false⟩ := by rfl
  have hr : (⟨[], min (max 5 1) 400, 0, false⟩ : OB).room (([97, 98, 99, 100, 101, 102, 103] : List Int).length : Int) = 5 := by rfl
  rw [hw] at hS5
  rw [hr]
  simp (disch := omega) only [vm0, vm1, vm2, vm3, vm4, vm5, vm6, vm7, fPick, fBox, fBuild, fBsl, fLd, fLda, fSt, fNilc, fBin, fEq, fUn, fMkf, fFa, fFld, fFlda, fExt, evo, wr, wrC, frame, Bool.not_true, Bool.not_false, beq_self_eq_true, List.cons_append, List.nil_append, Nat.add_zero, Nat.zero_add, Nat.reduceAdd, Nat.reduceMul, Nat.reduceSub, Bool.and_true, Bool.true_and, Bool.and_self, beq_dec, fApp, Int.toNat_natCast, Nat.sub_zero, vmI]
  refine call_ok rfl rfl (d_len (n + 2) s5 q _ _ hS5) ?_
  rintro x s6 ⟨rfl, rfl⟩
  rw [show ((OB.b ⟨[97, 98, 99, 100, 101], 5, 0, false⟩).length : Int) = 5 from rfl]
  simp (disch := omega) only [vm0, vm1, vm2, vm3, vm4, vm5, vm6, vm7, fPick, fBox, fBuild, fBsl, fLd, fLda, fSt, fNilc, fBin, fEq, fUn, fMkf, fFa, fFld, fFlda, fExt, evo, wr, wrC, frame, Bool.not_true, Bool.not_false, beq_self_eq_true, List.cons_append, List.nil_append, Nat.add_zero, Nat.zero_add, Nat.reduceAdd, Nat.reduceMul, Nat.reduceSub, Bool.and_true, Bool.true_and, Bool.and_self, beq_dec, fApp, Int.toNat_natCast, Nat.sub_zero, vmI]
  refine call_ok rfl rfl (d_close (n + 2) s6 q _ _ hS5) ?_
  rintro x s7 ⟨rfl, hS7⟩
  simp (disch := omega) only [vm0, vm1, vm2, vm3, vm4, vm5, vm6, vm7, fPick, fBox, fBuild, fBsl, fLd, fLda, fSt, fNilc, fBin, fEq, fUn, fMkf, fFa, fFld, fFlda, fExt, evo, wr, wrC, frame, Bool.not_true, Bool.not_false, beq_self_eq_true, List.cons_append, List.nil_append, Nat.add_zero, Nat.zero_add, Nat.reduceAdd, Nat.reduceMul, Nat.reduceSub, Bool.and_true, Bool.true_and, Bool.and_self, beq_dec, fApp, Int.toNat_natCast, Nat.sub_zero, vmI]
  refine call_ok rfl rfl (d_places (n + 2) s7 q _ _ hS7 (by simp)) ?_
  rintro x s8 ⟨rfl, rfl⟩
  rw [show OB.places { (⟨[97, 98, 99, 100, 101], 5, 0, false⟩ : OB) with closed := true } = 6 from rfl]
  simp (disch := omega) only [vm0, vm1, vm2, vm3, vm4, vm5, vm6, vm7, fPick, fBox, fBuild, fBsl, fLd, fLda, fSt, fNilc, fBin, fEq, fUn, fMkf, fFa, fFld, fFlda, fExt, evo, wr, wrC, frame, Bool.not_true, Bool.not_false, beq_self_eq_true, List.cons_append, List.nil_append, Nat.add_zero, Nat.zero_add, Nat.reduceAdd, Nat.reduceMul, Nat.reduceSub, Bool.and_true, Bool.true_and, Bool.and_self, beq_dec, fApp, Int.toNat_natCast, Nat.sub_zero, vmI]
  rfl
end
end Go.Proofs.Ytekhpohcjfjhfaa.ctr
namespace Go.Proofs.Ytekhpohcjfjhfaa.ctr
open Go.Vm Go.RowKit Go.Ranges
set_option linter.unusedVariables false
set_option linter.unusedSimpArgs false
set_option linter.constructorNameAsVariable false
/-! ## rows of the law of chapter 13 -/
structure A13 where
  u : AV
  b : List Int
def encL (x : A13) : List AV := [x.u]
theorem encL_w : ∀ x, (encL x).length = 1 := fun _ => rfl
theorem _root_.Go.Vm.Arg0.acts13 {E : Env} {s : St} {w : World} (h : Arg0 E s w) {a : Option Addr} {len cap : Nat} {V : Nat → Value} (hq : IsRowV w a len cap 1 V) (hk : ∀ i, i < cap * 1 → FkOk w (([.S] : List Fk).getD (i % 1) .i) (V i)) :
    ∃ v E' s' l, Arg0 E' s' w ∧ E.le E' ∧ Fr s s' [] ∧ VR rho0 E' v (.slice a len cap) ∧ RdE s' v 1 encL l ∧ ∀ x ∈ l, RdE s' x.u 1 encB x.b := by
  obtain ⟨v, E', s', l, h1, h2, h3, h4, h5, _, h6⟩ := h.recs (ks := [.S]) hq hk (by decide) encL (fun f => ⟨(f 0).u, (f 0).l⟩) encL_w (by
    intro s f hf j hj
    have hj : j < 1 := hj
    have k2 : ClOk s (f 0) .S := hf 0 (by decide)
    rcases j with _ | j
    · rw [k2.S.1]; rfl
    · omega)
  refine ⟨v, E', s', l, h1, h2, h3, h4, h5, fun x hx => ?_⟩
  obtain ⟨f, rfl, hf⟩ := h6 x hx
  have k2 : ClOk s' (f 0) .S := hf 0 (by decide)
  exact k2.S.2.1
theorem take_two' {B : List Int} {t T : Nat} (h : t ≤ T) : B.take t ++ (B.take T).drop t = B.take T := by
  have := List.take_append_drop t (B.take T)
  rwa [List.take_take, Nat.min_eq_left h] at this
theorem ack_no {o : OB} {k : Int} (h : o.ackOk k = false) : o.ack k = o := by unfold OB.ack; rw [if_neg (by rw [h]; simp)]
section
variable {bd : Bd} {h : VF} {fu : Nat}
theorem whole_e (n : Nat) (s s6 : St) (q : Nat) (g g2 : AV) (b acked : Int) (B : List Int) (f1 f2 f5 f6 f7 f8 f9 f10 f13 f14 f15 f16 f17 f18 f19 f20 : Option AV) (hS : Sep s s6 [oW g2 1 encB B, oO q ⟨B, b, acked, true⟩, oW g 1 encB B]) (hB : B.length ≤ 560) (hb : 1 ≤ b ∧ b ≤ 60) (ha : 0 ≤ acked ∧ acked ≤ B.length) (hfu : 4000 < fu) :
    RsOk (exec bd (callF bd (tab h).get fu (n + 5)) fu vc9_4 [some (num b), f1, f2, some (.ptr q 0), some g, f5, f6, f7, f8, f9, f10, some g2, some (.bool false), f13, f14, f15, f16, f17, f18, f19, f20, some (.bool false)] s6) (retQ [.tmp 21] fun x s' => Is x (.bool true)) := by
  have k1 := hS.rdW
  have k2 := (((hS.re ((List.perm_middle (l₁ := [_, _])).trans (.cons _ (.refl _)))))).rdW
  have e2 := k2.lenV
  have hpl : ∀ a, OB.places ⟨B, b, a, true⟩ = (B.length : Int) + 1 := fun _ => rfl
  simp (disch := omega) only [vm0, vm1, vm2, vm3, vm4, vm5, vm6, vm7, fPick, fBox, fBuild, fBsl, fLd, fLda, fSt, fNilc, fBin, fEq, fUn, fMkf, fFa, fFld, fFlda, fExt, evo, wr, wrC, frame, Bool.not_true, Bool.not_false, beq_self_eq_true, List.cons_append, List.nil_append, Nat.add_zero, Nat.zero_add, Nat.reduceAdd, Nat.reduceMul, Nat.reduceSub, Bool.and_true, Bool.true_and, Bool.and_self, beq_dec, fApp, Int.toNat_natCast, Nat.sub_zero, vmI, vc9_4]
  refine call_ok rfl rfl (sameC (n + 4) s6 g2 g B B k1 k2 (by omega) (by omega)) ?_
  rintro x s7 ⟨rfl, rfl⟩
  simp (disch := omega) only [vm0, vm1, vm2, vm3, vm4, vm5, vm6, vm7, fPick, fBox, fBuild, fBsl, fLd, fLda, fSt, fNilc, fBin, fEq, fUn, fMkf, fFa, fFld, fFlda, fExt, evo, wr, wrC, frame, Bool.not_true, Bool.not_false, beq_self_eq_true, List.cons_append, List.nil_append, Nat.add_zero, Nat.zero_add, Nat.reduceAdd, Nat.reduceMul, Nat.reduceSub, Bool.and_true, Bool.true_and, Bool.and_self, beq_dec, fApp, Int.toNat_natCast, Nat.sub_zero, vmI]
  refine call_ok rfl rfl (d_all (n + 3) s7 q _ _ ((hS.re ((List.perm_middle (l₁ := [_])).trans (.cons _ (.refl _))))) (by dsimp only; omega)) ?_
  rintro u s8 hS8
  dsimp only at hS8
  have k8 := (((hS8.re ((List.perm_middle (l₁ := [_, _, _])).trans (.cons _ (.refl _)))))).rdW
  have e8 := k8.lenV
  simp (disch := omega) only [vm0, vm1, vm2, vm3, vm4, vm5, vm6, vm7, fPick, fBox, fBuild, fBsl, fLd, fLda, fSt, fNilc, fBin, fEq, fUn, fMkf, fFa, fFld, fFlda, fExt, evo, wr, wrC, frame, Bool.not_true, Bool.not_false, beq_self_eq_true, List.cons_append, List.nil_append, Nat.add_zero, Nat.zero_add, Nat.reduceAdd, Nat.reduceMul, Nat.reduceSub, Bool.and_true, Bool.true_and, Bool.and_self, beq_dec, fApp, Int.toNat_natCast, Nat.sub_zero, vmI]
  refine call_ok rfl rfl (sameC (n + 4) s8 u g B B hS8.rdW k8 (by omega) (by omega)) ?_
  rintro x s9 ⟨rfl, rfl⟩
  simp (disch := omega) only [vm0, vm1, vm2, vm3, vm4, vm5, vm6, vm7, fPick, fBox, fBuild, fBsl, fLd, fLda, fSt, fNilc, fBin, fEq, fUn, fMkf, fFa, fFld, fFlda, fExt, evo, wr, wrC, frame, Bool.not_true, Bool.not_false, beq_self_eq_true, List.cons_append, List.nil_append, Nat.add_zero, Nat.zero_add, Nat.reduceAdd, Nat.reduceMul, Nat.reduceSub, Bool.and_true, Bool.true_and, Bool.and_self, beq_dec, fApp, Int.toNat_natCast, Nat.sub_zero, vmI, e8]
  have hS9 : Sep s s9 [oO q ⟨B, b, acked, true⟩, oW g 1 encB B] := ((hS8.re (.cons _ ((List.perm_middle (l₁ := [_])).trans (.cons _ (.refl _))))).drop.drop)
  refine call_ok rfl rfl (d_ack (n + 3) s9 q _ _ _ hS9 (by dsimp only; omega)) ?_
  rintro x s10 ⟨rfl, hS10⟩
  have h1 : OB.ackOk ⟨B, b, acked, true⟩ ((B.length : Int) + 1) = true := by simp only [OB.ackOk, hpl]; simp; omega
  have h2 : OB.ack ⟨B, b, acked, true⟩ ((B.length : Int) + 1) = ⟨B, b, B.length + 1, true⟩ := by simp only [OB.ack]; rw [if_pos h1]; rw [show max acked ((B.length : Int) + 1) = B.length + 1 by omega]
  rw [h2] at hS10
  rw [h1]
  simp (disch := omega) only [vm0, vm1, vm2, vm3, vm4, vm5, vm6, vm7, fPick, fBox, fBuild, fBsl, fLd, fLda, fSt, fNilc, fBin, fEq, fUn, fMkf, fFa, fFld, fFlda, fExt, evo, wr, wrC, frame, Bool.not_true, Bool.not_false, beq_self_eq_true, List.cons_append, List.nil_append, Nat.add_zero, Nat.zero_add, Nat.reduceAdd, Nat.reduceMul, Nat.reduceSub, Bool.and_true, Bool.true_and, Bool.and_self, beq_dec, fApp, Int.toNat_natCast, Nat.sub_zero, vmI]
  refine call_ok rfl rfl (d_acked (n + 4) s10 q _ _ hS10) ?_
  rintro x s11 ⟨rfl, rfl⟩
  dsimp only
  simp (disch := omega) only [vm0, vm1, vm2, vm3, vm4, vm5, vm6, vm7, fPick, fBox, fBuild, fBsl, fLd, fLda, fSt, fNilc, fBin, fEq, fUn, fMkf, fFa, fFld, fFlda, fExt, evo, wr, wrC, frame, Bool.not_true, Bool.not_false, beq_self_eq_true, List.cons_append, List.nil_append, Nat.add_zero, Nat.zero_add, Nat.reduceAdd, Nat.reduceMul, Nat.reduceSub, Bool.and_true, Bool.true_and, Bool.and_self, beq_dec, fApp, Int.toNat_natCast, Nat.sub_zero, vmI, e8]
  have h3 : OB.ackOk ⟨B, b, B.length + 1, true⟩ (-1) = false := by simp only [OB.ackOk, hpl]; simp
  have h4 : OB.ackOk ⟨B, b, B.length + 1, true⟩ ((B.length : Int) + 2) = false := by simp only [OB.ackOk, hpl]; simp
  have h5 : OB.ackOk ⟨B, b, B.length + 1, true⟩ 0 = true := by simp only [OB.ackOk, hpl]; simp; omega
  refine call_ok rfl rfl (d_ack (n + 3) s11 q _ (-1) _ hS10 (by dsimp only; omega)) ?_
  rintro x s12 ⟨rfl, hS12⟩
  rw [ack_no h3] at hS12
  rw [h3]
  simp (disch := omega) only [vm0, vm1, vm2, vm3, vm4, vm5, vm6, vm7, fPick, fBox, fBuild, fBsl, fLd, fLda, fSt, fNilc, fBin, fEq, fUn, fMkf, fFa, fFld, fFlda, fExt, evo, wr, wrC, frame, Bool.not_true, Bool.not_false, beq_self_eq_true, List.cons_append, List.nil_append, Nat.add_zero, Nat.zero_add, Nat.reduceAdd, Nat.reduceMul, Nat.reduceSub, Bool.and_true, Bool.true_and, Bool.and_self, beq_dec, fApp, Int.toNat_natCast, Nat.sub_zero, vmI, e8]
  refine call_ok rfl rfl (d_ack (n + 3) s12 q _ _ _ hS12 (by dsimp only; omega)) ?_
  rintro x s13 ⟨rfl, hS13⟩
  rw [ack_no h4] at hS13
  rw [h4]
  simp (disch := omega) only [vm0, vm1, vm2, vm3, vm4, vm5, vm6, vm7, fPick, fBox, fBuild, fBsl, fLd, fLda, fSt, fNilc, fBin, fEq, fUn, fMkf, fFa, fFld, fFlda, fExt, evo, wr, wrC, frame, Bool.not_true, Bool.not_false, beq_self_eq_true, List.cons_append, List.nil_append, Nat.add_zero, Nat.zero_add, Nat.reduceAdd, Nat.reduceMul, Nat.reduceSub, Bool.and_true, Bool.true_and, Bool.and_self, beq_dec, fApp, Int.toNat_natCast, Nat.sub_zero, vmI]
  refine call_ok rfl rfl (d_ack (n + 3) s13 q _ _ _ hS13 (by dsimp only; omega)) ?_
  rintro x s14 ⟨rfl, hS14⟩
  have h6 : OB.ack ⟨B, b, B.length + 1, true⟩ 0 = ⟨B, b, B.length + 1, true⟩ := by simp only [OB.ack]; rw [if_pos h5]; rw [show max ((B.length : Int) + 1) 0 = B.length + 1 by omega]
  rw [h6] at hS14
  rw [h5]
  simp (disch := omega) only [vm0, vm1, vm2, vm3, vm4, vm5, vm6, vm7, fPick, fBox, fBuild, fBsl, fLd, fLda, fSt, fNilc, fBin, fEq, fUn, fMkf, fFa, fFld, fFlda, fExt, evo, wr, wrC, frame, Bool.not_true, Bool.not_false, beq_self_eq_true, List.cons_append, List.nil_append, Nat.add_zero, Nat.zero_add, Nat.reduceAdd, Nat.reduceMul, Nat.reduceSub, Bool.and_true, Bool.true_and, Bool.and_self, beq_dec, fApp, Int.toNat_natCast, Nat.sub_zero, vmI]
  refine call_ok rfl rfl (d_acked (n + 4) s14 q _ _ hS14) ?_
  rintro x s15 ⟨rfl, rfl⟩
  dsimp only
  simp (disch := omega) only [vm0, vm1, vm2, vm3, vm4, vm5, vm6, vm7, fPick, fBox, fBuild, fBsl, fLd, fLda, fSt, fNilc, fBin, fEq, fUn, fMkf, fFa, fFld, fFlda, fExt, evo, wr, wrC, frame, Bool.not_true, Bool.not_false, beq_self_eq_true, List.cons_append, List.nil_append, Nat.add_zero, Nat.zero_add, Nat.reduceAdd, Nat.reduceMul, Nat.reduceSub, Bool.and_true, Bool.true_and, Bool.and_self, beq_dec, fApp, Int.toNat_natCast, Nat.sub_zero, vmI, e8]
  refine call_ok rfl rfl (wakes13 (n + 1) s15 (by omega)) ?_
  rintro x s16 rfl
  simp (disch := omega) only [vm0, vm1, vm2, vm3, vm4, vm5, vm6, vm7, fPick, fBox, fBuild, fBsl, fLd, fLda, fSt, fNilc, fBin, fEq, fUn, fMkf, fFa, fFld, fFlda, fExt, evo, wr, wrC, frame, Bool.not_true, Bool.not_false, beq_self_eq_true, List.cons_append, List.nil_append, Nat.add_zero, Nat.zero_add, Nat.reduceAdd, Nat.reduceMul, Nat.reduceSub, Bool.and_true, Bool.true_and, Bool.and_self, beq_dec, fApp, Int.toNat_natCast, Nat.sub_zero, vmI]
  rfl
theorem whole_t (n : Nat) (s s1 : St) (q : Nat) (v g : AV) (b c k : Int) (B : List Int) (acked : Int) (z5 z7 z9 z13 z14 z15 z16 : Option AV) (hS : Sep s s1 [oO q ⟨B, b, acked, false⟩, oW g 1 encB B]) (hB : B.length ≤ 560) (hb : 1 ≤ b ∧ b ≤ 60) (hc : 1 ≤ c ∧ c ≤ 9) (ha : 0 ≤ acked ∧ acked ≤ B.length) (hfu : 4000 < fu) :
    RsOk (exec bd (callF bd (tab h).get fu (n + 5)) fu vc9_5 [some (num b), some v, some (num c), some (.ptr q 0), some g, z5, none, z7, none, z9, none, none, some (.bool false), z13, z14, z15, z16, none, none, none, none, some (.bool false)] s1) (retQ [.tmp 21] fun x s' => Is x (.bool true)) := by
  simp (disch := omega) only [vm0, vm1, vm2, vm3, vm4, vm5, vm6, vm7, fPick, fBox, fBuild, fBsl, fLd, fLda, fSt, fNilc, fBin, fEq, fUn, fMkf, fFa, fFld, fFlda, fExt, evo, wr, wrC, frame, Bool.not_true, Bool.not_false, beq_self_eq_true, List.cons_append, List.nil_append, Nat.add_zero, Nat.zero_add, Nat.reduceAdd, Nat.reduceMul, Nat.reduceSub, Bool.and_true, Bool.true_and, Bool.and_self, beq_dec, fApp, Int.toNat_natCast, Nat.sub_zero, vmI, vc9_5]
  refine call_ok rfl rfl (d_close (n + 4) s1 q _ _ hS) ?_
  rintro x s2 ⟨rfl, hS2⟩
  simp (disch := omega) only [vm0, vm1, vm2, vm3, vm4, vm5, vm6, vm7, fPick, fBox, fBuild, fBsl, fLd, fLda, fSt, fNilc, fBin, fEq, fUn, fMkf, fFa, fFld, fFlda, fExt, evo, wr, wrC, frame, Bool.not_true, Bool.not_false, beq_self_eq_true, List.cons_append, List.nil_append, Nat.add_zero, Nat.zero_add, Nat.reduceAdd, Nat.reduceMul, Nat.reduceSub, Bool.and_true, Bool.true_and, Bool.and_self, beq_dec, fApp, Int.toNat_natCast, Nat.sub_zero, vmI]
  refine call_ok rfl rfl (d_close (n + 4) s2 q _ _ hS2) ?_
  rintro x s3 ⟨rfl, hS3⟩
  replace hS3 : Sep s s3 [oO q ⟨B, b, acked, true⟩, oW g 1 encB B] := hS3
  simp (disch := omega) only [vm0, vm1, vm2, vm3, vm4, vm5, vm6, vm7, fPick, fBox, fBuild, fBsl, fLd, fLda, fSt, fNilc, fBin, fEq, fUn, fMkf, fFa, fFld, fFlda, fExt, evo, wr, wrC, frame, Bool.not_true, Bool.not_false, beq_self_eq_true, List.cons_append, List.nil_append, Nat.add_zero, Nat.zero_add, Nat.reduceAdd, Nat.reduceMul, Nat.reduceSub, Bool.and_true, Bool.true_and, Bool.and_self, beq_dec, fApp, Int.toNat_natCast, Nat.sub_zero, vmI]
  have hW : OwE (s3.new (.cells [byt 1] .own)) (.sl s3.next 0 1 1 true 1) 1 encB [1] [s3.next] := ⟨.mk (J := []) (get_new_eq rfl) rfl (Nat.le_refl _), encB_w, by omega, by intro z hz; simp at hz; subst hz; rw [next_new]; omega⟩
  refine call_ok rfl rfl (d_write (n + 2) _ q _ _ [1] _ (hS3.fr .new) hW.rd (by dsimp only; omega) (by simp) (by dsimp only; omega) (by dsimp only; omega) (by omega)) ?_
  rintro x s4 ⟨rfl, hS4⟩
  rw [show OB.room ⟨B, b, acked, true⟩ (([1] : List Int).length : Int) = 0 from rfl]
  have hw : OB.write ⟨B, b, acked, true⟩ [1] = ⟨B, b, acked, true⟩ := by unfold OB.write; rw [show OB.room ⟨B, b, acked, true⟩ (([1] : List Int).length : Int) = 0 from rfl]; simp
  rw [hw] at hS4
  have hpl : OB.places ⟨B, b, acked, true⟩ = (B.length : Int) + 1 := rfl
  simp (disch := omega) only [vm0, vm1, vm2, vm3, vm4, vm5, vm6, vm7, fPick, fBox, fBuild, fBsl, fLd, fLda, fSt, fNilc, fBin, fEq, fUn, fMkf, fFa, fFld, fFlda, fExt, evo, wr, wrC, frame, Bool.not_true, Bool.not_false, beq_self_eq_true, List.cons_append, List.nil_append, Nat.add_zero, Nat.zero_add, Nat.reduceAdd, Nat.reduceMul, Nat.reduceSub, Bool.and_true, Bool.true_and, Bool.and_self, beq_dec, fApp, Int.toNat_natCast, Nat.sub_zero, vmI]
  refine call_ok rfl rfl (d_places (n + 4) s4 q _ _ hS4 (by dsimp only; omega)) ?_
  rintro x s5 ⟨rfl, rfl⟩
  have e5 := hS4.swap.rdW.lenV
  rw [hpl]
  have hS5 := hS4.push (P := oW .nils 1 encB ([] : List Int)) (f := []) (.nil encB_w (by omega)) .refl (by simp [Nw])
  simp (disch := omega) only [vm0, vm1, vm2, vm3, vm4, vm5, vm6, vm7, fPick, fBox, fBuild, fBsl, fLd, fLda, fSt, fNilc, fBin, fEq, fUn, fMkf, fFa, fFld, fFlda, fExt, evo, wr, wrC, frame, Bool.not_true, Bool.not_false, beq_self_eq_true, List.cons_append, List.nil_append, Nat.add_zero, Nat.zero_add, Nat.reduceAdd, Nat.reduceMul, Nat.reduceSub, Bool.and_true, Bool.true_and, Bool.and_self, beq_dec, fApp, Int.toNat_natCast, Nat.sub_zero, vmI, e5]
  refine x_loop (fun m F s' => ∃ (t : Int) (g2 : AV) (y8 y10 y18 y19 y20 : Option AV), m = ((B.length : Int) + 1 - t).toNat ∧ 0 ≤ t ∧ t ≤ B.length + 1 + c ∧ Sep s s' [oW g2 1 encB (B.take t.toNat), oO q ⟨B, b, acked, true⟩, oW g 1 encB B] ∧ F = [some (num b), some v, some (num c), some (.ptr q 0), some g, z5, some (num t), z7, y8, z9, y10, some g2, some (.bool false), z13, z14, z15, z16, some (.bool false), y18, y19, y20, some (.bool false)]) (B.length + 1) (by omega) ?_ ?_
  · exact ⟨0, .nils, _, _, _, _, _, by omega, by omega, by omega, hS5, rfl⟩
  · rintro m F s6 ⟨t, g2, y8, y10, y18, y19, y20, rfl, ht, ht2, hS6, rfl⟩ hm
    have e6 := (((hS6.re ((List.perm_middle (l₁ := [_, _])).trans (.cons _ (.refl _)))))).rdW.lenV
    by_cases hlt : t < B.length + 1
    · obtain ⟨T, hT⟩ : ∃ T, min (t + c) ((B.length : Int) + 1) = T := ⟨_, rfl⟩
      obtain ⟨T2, hT2⟩ : ∃ T2, min T (B.length : Int) = T2 := ⟨_, rfl⟩
      simp (disch := omega) only [vm0, vm1, vm2, vm3, vm4, vm5, vm6, vm7, fPick, fBox, fBuild, fBsl, fLd, fLda, fSt, fNilc, fBin, fEq, fUn, fMkf, fFa, fFld, fFlda, fExt, evo, wr, wrC, frame, Bool.not_true, Bool.not_false, beq_self_eq_true, List.cons_append, List.nil_append, Nat.add_zero, Nat.zero_add, Nat.reduceAdd, Nat.reduceMul, Nat.reduceSub, Bool.and_true, Bool.true_and, Bool.and_self, beq_dec, fApp, Int.toNat_natCast, Nat.sub_zero, vmI, vc9_3, vc9_2, e6, hT]
      refine call_ok rfl rfl (d_piece (n + 3) s6 q _ _ t T ((hS6.re ((List.perm_middle (l₁ := [_])).trans (.cons _ (.refl _))))) (by dsimp only; omega) (by omega) (by omega) (by rw [hpl]; omega)) ?_
      rintro x s7 ⟨u, rfl, hS7⟩
      dsimp only at hS7 ⊢
      rw [hT2, show min t (B.length : Int) = t by omega] at hS7
      have k7 := hS7.rdW
      have e7 := (((hS7.re ((List.perm_middle (l₁ := [_, _, _])).trans (.cons _ (.refl _)))))).rdW.lenV
      have e8 := k7.lenV
      have hlen : (((B.take T2.toNat).drop t.toNat).length : Int) = T2 - t := by simp; omega
      rw [hlen] at e8
      have k2 := k7.lenOf
      have k3 := k7.cellsOf
      have hL : ((B.take T2.toNat).drop t.toNat).length ≤ 1048576 := by omega
      rw [decide_eq_true (show t ≤ (B.length : Int) by omega), Bool.true_and]
      obtain ⟨fo, ho3, up⟩ := (((hS7.re ((List.perm_middle (l₁ := [_, _])).trans (.cons _ (.refl _)))))).hd
      by_cases hend : T = B.length + 1
      · rw [decide_eq_true (show (B.length : Int) < T by omega)]
        simp (disch := omega) only [vm0, vm1, vm2, vm3, vm4, vm5, vm6, vm7, fPick, fBox, fBuild, fBsl, fLd, fLda, fSt, fNilc, fBin, fEq, fUn, fMkf, fFa, fFld, fFlda, fExt, evo, wr, wrC, frame, Bool.not_true, Bool.not_false, beq_self_eq_true, List.cons_append, List.nil_append, Nat.add_zero, Nat.zero_add, Nat.reduceAdd, Nat.reduceMul, Nat.reduceSub, Bool.and_true, Bool.true_and, Bool.and_self, beq_dec, fApp, Int.toNat_natCast, Nat.sub_zero, vmI, e7, e8, hT2, k2, k3]
        refine op_app (show OwE s7 g2 1 encB (B.take t.toNat) fo from ho3) (by (repeat' (first | exact Fr.refl | assumption | apply Fr.new' | apply Fr.mk' | apply Fr.put')) <;> (first | omega | (left; simp; done) | (right; simp only [next_put, next_new, next_mk]; omega) | (simp only [next_put, next_new, next_mk]; omega))) (new := (B.take T2.toNat).drop t.toNat) rfl rfl (by simp; omega) ?_
        intro g' s9 fp' q1 q2 q3
        rw [take_two' (by omega)] at q1
        have hS9 := up (oW g' 1 encB (B.take T2.toNat)) q1 q2 q3
        simp (disch := omega) only [vm0, vm1, vm2, vm3, vm4, vm5, vm6, vm7, fPick, fBox, fBuild, fBsl, fLd, fLda, fSt, fNilc, fBin, fEq, fUn, fMkf, fFa, fFld, fFlda, fExt, evo, wr, wrC, frame, Bool.not_true, Bool.not_false, beq_self_eq_true, List.cons_append, List.nil_append, Nat.add_zero, Nat.zero_add, Nat.reduceAdd, Nat.reduceMul, Nat.reduceSub, Bool.and_true, Bool.true_and, Bool.and_self, beq_dec, fApp, Int.toNat_natCast, Nat.sub_zero, vmI]
        refine ⟨((B.length : Int) + 1 - (t + c)).toNat, by omega, t + c, g', _, _, _, _, _, rfl, by omega, by omega, ?_, rfl⟩
        rw [List.take_of_length_le (show B.length ≤ T2.toNat by omega)] at hS9
        rw [List.take_of_length_le (show B.length ≤ (t + c).toNat by omega)]
        exact ((hS9.re ((List.perm_middle (l₁ := [_])).trans (.cons _ (.refl _)))).drop)
      · rw [decide_eq_false (show ¬ (B.length : Int) < T by omega)]
        simp (disch := omega) only [vm0, vm1, vm2, vm3, vm4, vm5, vm6, vm7, fPick, fBox, fBuild, fBsl, fLd, fLda, fSt, fNilc, fBin, fEq, fUn, fMkf, fFa, fFld, fFlda, fExt, evo, wr, wrC, frame, Bool.not_true, Bool.not_false, beq_self_eq_true, List.cons_append, List.nil_append, Nat.add_zero, Nat.zero_add, Nat.reduceAdd, Nat.reduceMul, Nat.reduceSub, Bool.and_true, Bool.true_and, Bool.and_self, beq_dec, fApp, Int.toNat_natCast, Nat.sub_zero, vmI, e7, e8, hT2, k2, k3]
        refine op_app (show OwE s7 g2 1 encB (B.take t.toNat) fo from ho3) (by (repeat' (first | exact Fr.refl | assumption | apply Fr.new' | apply Fr.mk' | apply Fr.put')) <;> (first | omega | (left; simp; done) | (right; simp only [next_put, next_new, next_mk]; omega) | (simp only [next_put, next_new, next_mk]; omega))) (new := (B.take T2.toNat).drop t.toNat) rfl rfl (by simp; omega) ?_
        intro g' s9 fp' q1 q2 q3
        rw [take_two' (by omega)] at q1
        have hS9 := up (oW g' 1 encB (B.take T2.toNat)) q1 q2 q3
        simp (disch := omega) only [vm0, vm1, vm2, vm3, vm4, vm5, vm6, vm7, fPick, fBox, fBuild, fBsl, fLd, fLda, fSt, fNilc, fBin, fEq, fUn, fMkf, fFa, fFld, fFlda, fExt, evo, wr, wrC, frame, Bool.not_true, Bool.not_false, beq_self_eq_true, List.cons_append, List.nil_append, Nat.add_zero, Nat.zero_add, Nat.reduceAdd, Nat.reduceMul, Nat.reduceSub, Bool.and_true, Bool.true_and, Bool.and_self, beq_dec, fApp, Int.toNat_natCast, Nat.sub_zero, vmI]
        refine ⟨((B.length : Int) + 1 - (t + c)).toNat, by omega, t + c, g', _, _, _, _, _, rfl, by omega, by omega, ?_, rfl⟩
        rw [show T2 = t + c by omega] at hS9
        exact ((hS9.re ((List.perm_middle (l₁ := [_])).trans (.cons _ (.refl _)))).drop)
    · simp (disch := omega) only [vm0, vm1, vm2, vm3, vm4, vm5, vm6, vm7, fPick, fBox, fBuild, fBsl, fLd, fLda, fSt, fNilc, fBin, fEq, fUn, fMkf, fFa, fFld, fFlda, fExt, evo, wr, wrC, frame, Bool.not_true, Bool.not_false, beq_self_eq_true, List.cons_append, List.nil_append, Nat.add_zero, Nat.zero_add, Nat.reduceAdd, Nat.reduceMul, Nat.reduceSub, Bool.and_true, Bool.true_and, Bool.and_self, beq_dec, fApp, Int.toNat_natCast, Nat.sub_zero, vmI, vc9_3, vc9_2, e6]
      rw [List.take_of_length_le (by omega)] at hS6
      exact whole_e n s s6 q g g2 b acked B (some v) (some (num c)) _ _ _ _ _ _ _ _ _ _ _ _ _ _ hS6 hB hb ha hfu
theorem whole13 (n : Nat) (s : St) (a0 : Int) (v : AV) (c0 : Int) (l : List A13) (hv : RdE s v 1 encL l) (ha : ∀ x ∈ l, RdE s x.u 1 encB x.b) (hA : In64 a0) (hC : In64 c0) (hfu : 4000 < fu) :
    OutOk (callF bd (tab h).get fu (n + 6) 9 [num a0, v, num c0] s) (fun x s' => Is x (.bool true)) := by
  refine call_code (t9 h) rfl ?_
  have hS0 : Sep s s [] := .nil
  simp (disch := omega) only [vm0, vm1, vm2, vm3, vm4, vm5, vm6, vm7, fPick, fBox, fBuild, fBsl, fLd, fLda, fSt, fNilc, fBin, fEq, fUn, fMkf, fFa, fFld, fFlda, fExt, evo, wr, wrC, frame, Bool.not_true, Bool.not_false, beq_self_eq_true, List.cons_append, List.nil_append, Nat.add_zero, Nat.zero_add, Nat.reduceAdd, Nat.reduceMul, Nat.reduceSub, Bool.and_true, Bool.true_and, Bool.and_self, beq_dec, fApp, Int.toNat_natCast, Nat.sub_zero, vmI, vc9]
  refine call_ok rfl rfl (withinP (n + 4) s a0 60 hA (by omega) (by omega)) ?_
  rintro y s2 ⟨rfl, rfl⟩
  obtain ⟨b, hb⟩ : ∃ b, 1 + a0 % 60 = b := ⟨_, rfl⟩
  obtain ⟨c, hc⟩ : ∃ c, 1 + c0 % 9 = c := ⟨_, rfl⟩
  have hb2 : 1 ≤ b ∧ b ≤ 60 := by omega
  have hc2 : 1 ≤ c ∧ c ≤ 9 := by omega
  simp (disch := omega) only [vm0, vm1, vm2, vm3, vm4, vm5, vm6, vm7, fPick, fBox, fBuild, fBsl, fLd, fLda, fSt, fNilc, fBin, fEq, fUn, fMkf, fFa, fFld, fFlda, fExt, evo, wr, wrC, frame, Bool.not_true, Bool.not_false, beq_self_eq_true, List.cons_append, List.nil_append, Nat.add_zero, Nat.zero_add, Nat.reduceAdd, Nat.reduceMul, Nat.reduceSub, Bool.and_true, Bool.true_and, Bool.and_self, beq_dec, fApp, Int.toNat_natCast, Nat.sub_zero, vmI, hb]
  refine call_ok rfl rfl (withinP (n + 4) s2 c0 9 hC (by omega) (by omega)) ?_
  rintro y s3 ⟨rfl, rfl⟩
  simp (disch := omega) only [vm0, vm1, vm2, vm3, vm4, vm5, vm6, vm7, fPick, fBox, fBuild, fBsl, fLd, fLda, fSt, fNilc, fBin, fEq, fUn, fMkf, fFa, fFld, fFlda, fExt, evo, wr, wrC, frame, Bool.not_true, Bool.not_false, beq_self_eq_true, List.cons_append, List.nil_append, Nat.add_zero, Nat.zero_add, Nat.reduceAdd, Nat.reduceMul, Nat.reduceSub, Bool.and_true, Bool.true_and, Bool.and_self, beq_dec, fApp, Int.toNat_natCast, Nat.sub_zero, vmI, hc]
  refine call_ok rfl rfl (o_new (n + 4) s3 b) ?_
  rintro x s4 ⟨q, rfl, r4, r5, r6⟩
  rw [show min (max b 1) 400 = b by omega] at r6
  have hS4 := hS0.push (P := oO q _) r6 r5 (Nw.one r4)
  have hS5 := hS4.push (P := oW .nils 1 encB ([] : List Int)) (f := []) (.nil encB_w (by omega)) .refl (by simp [Nw])
  simp (disch := omega) only [vm0, vm1, vm2, vm3, vm4, vm5, vm6, vm7, fPick, fBox, fBuild, fBsl, fLd, fLda, fSt, fNilc, fBin, fEq, fUn, fMkf, fFa, fFld, fFlda, fExt, evo, wr, wrC, frame, Bool.not_true, Bool.not_false, beq_self_eq_true, List.cons_append, List.nil_append, Nat.add_zero, Nat.zero_add, Nat.reduceAdd, Nat.reduceMul, Nat.reduceSub, Bool.and_true, Bool.true_and, Bool.and_self, beq_dec, fApp, Int.toNat_natCast, Nat.sub_zero, vmI]
  refine x_loop (fun m F s' => ∃ (i : Nat) (B : List Int) (acked : Int) (g : AV) (z7 z9 z13 z14 z15 z16 : Option AV), m = 8 - i ∧ i ≤ 8 ∧ B.length ≤ 70 * i ∧ 0 ≤ acked ∧ acked ≤ B.length ∧ (B.length : Int) - acked ≤ b ∧ Sep s3 s' [oO q ⟨B, b, acked, false⟩, oW g 1 encB B] ∧ F = [some (num b), some v, some (num c), some (.ptr q 0), some g, some (num (i : Int)), none, z7, none, z9, none, none, some (.bool false), z13, z14, z15, z16, none, none, none, none, some (.bool false)]) 8 (by omega) ?_ ?_
  · exact ⟨0, [], 0, .nils, _, _, _, _, _, _, by omega, by omega, by simp, by simp, by simp, by simp; omega, hS5.swap, rfl⟩
  · rintro m F s5 ⟨i, B, acked, g, z7, z9, z13, z14, z15, z16, rfl, hi, hB, ha0, ha1, ha2, hS6, rfl⟩ hm
    have hv5 := hv.fr0 hS6.frm
    have e0 := hv5.lenV
    by_cases hlt : i < l.length
    · by_cases hi8 : i < 8
      · obtain ⟨A, hA⟩ : ∃ A, l[i]? = some A := ⟨_, List.getElem?_eq_getElem hlt⟩
        have a3 := (ha A (List.mem_of_getElem? hA)).fr0 hS6.frm
        have e1 := hv5.ia hA
        have e2 := hv5.fld0 hA (c := A.u) rfl
        simp (disch := omega) only [vm0, vm1, vm2, vm3, vm4, vm5, vm6, vm7, fPick, fBox, fBuild, fBsl, fLd, fLda, fSt, fNilc, fBin, fEq, fUn, fMkf, fFa, fFld, fFlda, fExt, evo, wr, wrC, frame, Bool.not_true, Bool.not_false, beq_self_eq_true, List.cons_append, List.nil_append, Nat.add_zero, Nat.zero_add, Nat.reduceAdd, Nat.reduceMul, Nat.reduceSub, Bool.and_true, Bool.true_and, Bool.and_self, beq_dec, fApp, Int.toNat_natCast, Nat.sub_zero, vmI, vc9_1, vc9_0, e0, e1, e2]
        refine call_ok rfl rfl (cutB (n + 3) s5 A.u A.b 70 (by omega) (by omega) a3) ?_
        rintro u s6 ⟨f2, w4, w2, w3⟩
        have hS7 := hS6.push (P := oW u 1 encB (A.b.take (Int.toNat 70))) w4 w2 w3
        have hlC : (A.b.take (Int.toNat 70)).length ≤ 70 := List.length_take_le _ _
        generalize A.b.take (Int.toNat 70) = C at *
        simp (disch := omega) only [vm0, vm1, vm2, vm3, vm4, vm5, vm6, vm7, fPick, fBox, fBuild, fBsl, fLd, fLda, fSt, fNilc, fBin, fEq, fUn, fMkf, fFa, fFld, fFlda, fExt, evo, wr, wrC, frame, Bool.not_true, Bool.not_false, beq_self_eq_true, List.cons_append, List.nil_append, Nat.add_zero, Nat.zero_add, Nat.reduceAdd, Nat.reduceMul, Nat.reduceSub, Bool.and_true, Bool.true_and, Bool.and_self, beq_dec, fApp, Int.toNat_natCast, Nat.sub_zero, vmI]
        refine call_ok rfl rfl (d_write (n + 2) s6 q _ u C _ hS7.swap hS7.rdW (by dsimp only; omega) (by omega) (by dsimp only; omega) (by dsimp only; omega) (by omega)) ?_
        rintro y s7 ⟨rfl, hS8⟩
        obtain ⟨r, hr⟩ : ∃ r, min (C.length : Int) (b - ((B.length : Int) - acked)) = r := ⟨_, rfl⟩
        have hroom : OB.room ⟨B, b, acked, false⟩ (C.length : Int) = r := by simp only [OB.room]; rw [if_neg (by simp)]; omega
        have hwr : OB.write ⟨B, b, acked, false⟩ C = ⟨B ++ C.take r.toNat, b, acked, false⟩ := by simp only [OB.write]; rw [hroom]
        rw [hwr] at hS8
        rw [hroom]
        have kC := hS8.swap.rdW
        have eC := kC.lenV
        have eB := (((hS8.re ((List.perm_middle (l₁ := [_, _])).trans (.cons _ (.refl _)))))).rdW.lenV
        obtain ⟨w, g1, kw⟩ := kC.sliH (b := r) (by omega) (by omega)
        simp (disch := omega) only [vm0, vm1, vm2, vm3, vm4, vm5, vm6, vm7, fPick, fBox, fBuild, fBsl, fLd, fLda, fSt, fNilc, fBin, fEq, fUn, fMkf, fFa, fFld, fFlda, fExt, evo, wr, wrC, frame, Bool.not_true, Bool.not_false, beq_self_eq_true, List.cons_append, List.nil_append, Nat.add_zero, Nat.zero_add, Nat.reduceAdd, Nat.reduceMul, Nat.reduceSub, Bool.and_true, Bool.true_and, Bool.and_self, beq_dec, fApp, Int.toNat_natCast, Nat.sub_zero, vmI, eC, eB]
        refine call_ok rfl rfl (d_acked (n + 4) s7 q _ _ hS8) ?_
        rintro y s8 ⟨rfl, rfl⟩
        dsimp only
        have k2 := kw.lenOf
        have k3 := kw.cellsOf
        have hL : (C.take r.toNat).length ≤ 1048576 := by simp; omega
        obtain ⟨fo, ho3, up⟩ := (((hS8.re ((List.perm_middle (l₁ := [_, _])).trans (.cons _ (.refl _)))))).hd
        simp (disch := omega) only [vm0, vm1, vm2, vm3, vm4, vm5, vm6, vm7, fPick, fBox, fBuild, fBsl, fLd, fLda, fSt, fNilc, fBin, fEq, fUn, fMkf, fFa, fFld, fFlda, fExt, evo, wr, wrC, frame, Bool.not_true, Bool.not_false, beq_self_eq_true, List.cons_append, List.nil_append, Nat.add_zero, Nat.zero_add, Nat.reduceAdd, Nat.reduceMul, Nat.reduceSub, Bool.and_true, Bool.true_and, Bool.and_self, beq_dec, fApp, Int.toNat_natCast, Nat.sub_zero, vmI, hr, g1, k2, k3]
        refine op_app (show OwE s8 g 1 encB B fo from ho3) (by (repeat' (first | exact Fr.refl | assumption | apply Fr.new' | apply Fr.mk' | apply Fr.put')) <;> (first | omega | (left; simp; done) | (right; simp only [next_put, next_new, next_mk]; omega) | (simp only [next_put, next_new, next_mk]; omega))) (new := C.take r.toNat) rfl rfl (by simp; omega) ?_
        intro g' s9 fp' q1 q2 q3
        have hS9 := up (oW g' 1 encB (B ++ C.take r.toNat)) q1 q2 q3
        have hBl : ((B ++ C.take r.toNat).length : Int) = B.length + r := by simp; omega
        generalize B ++ C.take r.toNat = B2 at *
        have eB2 := hS9.rdW.lenV
        rw [hBl] at eB2
        obtain ⟨m, hm2⟩ : ∃ m, (i : Int).tmod 2 = m := ⟨_, rfl⟩
        have h20 : (2 : Int) ≠ 0 := by decide
        by_cases hm0 : m = 0
        · subst hm0
          simp (disch := omega) only [vm0, vm1, vm2, vm3, vm4, vm5, vm6, vm7, fPick, fBox, fBuild, fBsl, fLd, fLda, fSt, fNilc, fBin, fEq, fUn, fMkf, fFa, fFld, fFlda, fExt, evo, wr, wrC, frame, Bool.not_true, Bool.not_false, beq_self_eq_true, List.cons_append, List.nil_append, Nat.add_zero, Nat.zero_add, Nat.reduceAdd, Nat.reduceMul, Nat.reduceSub, Bool.and_true, Bool.true_and, Bool.and_self, beq_dec, fApp, Int.toNat_natCast, Nat.sub_zero, vmI, b_rem h20, hm2, eB2]
          refine call_ok rfl rfl (d_ack (n + 3) s9 q _ _ _ (((hS9.re ((List.perm_middle (l₁ := [_])).trans (.cons _ (.refl _)))))) (by dsimp only; omega)) ?_
          rintro y s10 ⟨rfl, hS10⟩
          have h7 : OB.ackOk ⟨B2, b, acked, false⟩ ((B.length : Int) + r) = true := by simp only [OB.ackOk, OB.places, hBl]; simp; omega
          have h8 : OB.ack ⟨B2, b, acked, false⟩ ((B.length : Int) + r) = ⟨B2, b, B.length + r, false⟩ := by simp only [OB.ack]; rw [if_pos h7]; rw [show max acked ((B.length : Int) + r) = B.length + r by omega]
          rw [h8] at hS10
          rw [h7]
          simp (disch := omega) only [vm0, vm1, vm2, vm3, vm4, vm5, vm6, vm7, fPick, fBox, fBuild, fBsl, fLd, fLda, fSt, fNilc, fBin, fEq, fUn, fMkf, fFa, fFld, fFlda, fExt, evo, wr, wrC, frame, Bool.not_true, Bool.not_false, beq_self_eq_true, List.cons_append, List.nil_append, Nat.add_zero, Nat.zero_add, Nat.reduceAdd, Nat.reduceMul, Nat.reduceSub, Bool.and_true, Bool.true_and, Bool.and_self, beq_dec, fApp, Int.toNat_natCast, Nat.sub_zero, vmI, eB2]
          refine call_ok rfl rfl (d_ack (n + 3) s10 q _ _ _ hS10 (by dsimp only; omega)) ?_
          rintro y sA ⟨rfl, hSA⟩
          have h9 : OB.ackOk ⟨B2, b, (B.length + r), false⟩ ((B.length : Int) + r + 1) = false := by simp only [OB.ackOk, OB.places, hBl]; simp <;> omega
          rw [ack_no h9] at hSA
          rw [h9]
          simp (disch := omega) only [vm0, vm1, vm2, vm3, vm4, vm5, vm6, vm7, fPick, fBox, fBuild, fBsl, fLd, fLda, fSt, fNilc, fBin, fEq, fUn, fMkf, fFa, fFld, fFlda, fExt, evo, wr, wrC, frame, Bool.not_true, Bool.not_false, beq_self_eq_true, List.cons_append, List.nil_append, Nat.add_zero, Nat.zero_add, Nat.reduceAdd, Nat.reduceMul, Nat.reduceSub, Bool.and_true, Bool.true_and, Bool.and_self, beq_dec, fApp, Int.toNat_natCast, Nat.sub_zero, vmI, eB2]
          refine call_ok rfl rfl (d_acked (n + 4) sA q _ _ hSA) ?_
          rintro y sB ⟨rfl, rfl⟩
          dsimp only
          simp (disch := omega) only [vm0, vm1, vm2, vm3, vm4, vm5, vm6, vm7, fPick, fBox, fBuild, fBsl, fLd, fLda, fSt, fNilc, fBin, fEq, fUn, fMkf, fFa, fFld, fFlda, fExt, evo, wr, wrC, frame, Bool.not_true, Bool.not_false, beq_self_eq_true, List.cons_append, List.nil_append, Nat.add_zero, Nat.zero_add, Nat.reduceAdd, Nat.reduceMul, Nat.reduceSub, Bool.and_true, Bool.true_and, Bool.and_self, beq_dec, fApp, Int.toNat_natCast, Nat.sub_zero, vmI]
          refine ⟨8 - (i + 1), by omega, i + 1, B2, (B.length + r), g', _, _, _, _, _, _, rfl, by omega, by omega, by omega, by omega, by omega, ((hSA.re ((List.perm_middle (l₁ := [_, _])).trans (.cons _ (.refl _)))).drop), rfl⟩
        · simp (disch := omega) only [vm0, vm1, vm2, vm3, vm4, vm5, vm6, vm7, fPick, fBox, fBuild, fBsl, fLd, fLda, fSt, fNilc, fBin, fEq, fUn, fMkf, fFa, fFld, fFlda, fExt, evo, wr, wrC, frame, Bool.not_true, Bool.not_false, beq_self_eq_true, List.cons_append, List.nil_append, Nat.add_zero, Nat.zero_add, Nat.reduceAdd, Nat.reduceMul, Nat.reduceSub, Bool.and_true, Bool.true_and, Bool.and_self, beq_dec, fApp, Int.toNat_natCast, Nat.sub_zero, vmI, b_rem h20, hm2, eB2]
          refine call_ok rfl rfl (d_ack (n + 3) s9 q _ _ _ (((hS9.re ((List.perm_middle (l₁ := [_])).trans (.cons _ (.refl _)))))) (by dsimp only; omega)) ?_
          rintro y sA ⟨rfl, hSA⟩
          have h9 : OB.ackOk ⟨B2, b, acked, false⟩ ((B.length : Int) + r + 1) = false := by simp only [OB.ackOk, OB.places, hBl]; simp <;> omega
          rw [ack_no h9] at hSA
          rw [h9]
          simp (disch := omega) only [vm0, vm1, vm2, vm3, vm4, vm5, vm6, vm7, fPick, fBox, fBuild, fBsl, fLd, fLda, fSt, fNilc, fBin, fEq, fUn, fMkf, fFa, fFld, fFlda, fExt, evo, wr, wrC, frame, Bool.not_true, Bool.not_false, beq_self_eq_true, List.cons_append, List.nil_append, Nat.add_zero, Nat.zero_add, Nat.reduceAdd, Nat.reduceMul, Nat.reduceSub, Bool.and_true, Bool.true_and, Bool.and_self, beq_dec, fApp, Int.toNat_natCast, Nat.sub_zero, vmI, eB2]
          refine call_ok rfl rfl (d_acked (n + 4) sA q _ _ hSA) ?_
          rintro y sB ⟨rfl, rfl⟩
          dsimp only
          simp (disch := omega) only [vm0, vm1, vm2, vm3, vm4, vm5, vm6, vm7, fPick, fBox, fBuild, fBsl, fLd, fLda, fSt, fNilc, fBin, fEq, fUn, fMkf, fFa, fFld, fFlda, fExt, evo, wr, wrC, frame, Bool.not_true, Bool.not_false, beq_self_eq_true, List.cons_append, List.nil_append, Nat.add_zero, Nat.zero_add, Nat.reduceAdd, Nat.reduceMul, Nat.reduceSub, Bool.and_true, Bool.true_and, Bool.and_self, beq_dec, fApp, Int.toNat_natCast, Nat.sub_zero, vmI]
          refine ⟨8 - (i + 1), by omega, i + 1, B2, acked, g', _, _, _, _, _, _, rfl, by omega, by omega, by omega, by omega, by omega, ((hSA.re ((List.perm_middle (l₁ := [_, _])).trans (.cons _ (.refl _)))).drop), rfl⟩
      · simp (disch := omega) only [vm0, vm1, vm2, vm3, vm4, vm5, vm6, vm7, fPick, fBox, fBuild, fBsl, fLd, fLda, fSt, fNilc, fBin, fEq, fUn, fMkf, fFa, fFld, fFlda, fExt, evo, wr, wrC, frame, Bool.not_true, Bool.not_false, beq_self_eq_true, List.cons_append, List.nil_append, Nat.add_zero, Nat.zero_add, Nat.reduceAdd, Nat.reduceMul, Nat.reduceSub, Bool.and_true, Bool.true_and, Bool.and_self, beq_dec, fApp, Int.toNat_natCast, Nat.sub_zero, vmI, vc9_1, vc9_0, e0]
        exact whole_t n s3 s5 q v g b c 0 B acked _ _ _ _ _ _ _ hS6 (by omega) hb2 hc2 ⟨ha0, ha1⟩ hfu
    · simp (disch := omega) only [vm0, vm1, vm2, vm3, vm4, vm5, vm6, vm7, fPick, fBox, fBuild, fBsl, fLd, fLda, fSt, fNilc, fBin, fEq, fUn, fMkf, fFa, fFld, fFlda, fExt, evo, wr, wrC, frame, Bool.not_true, Bool.not_false, beq_self_eq_true, List.cons_append, List.nil_append, Nat.add_zero, Nat.zero_add, Nat.reduceAdd, Nat.reduceMul, Nat.reduceSub, Bool.and_true, Bool.true_and, Bool.and_self, beq_dec, fApp, Int.toNat_natCast, Nat.sub_zero, vmI, vc9_1, vc9_0, e0]
      exact whole_t n s3 s5 q v g b c 0 B acked _ _ _ _ _ _ _ hS6 (by omega) hb2 hc2 ⟨ha0, ha1⟩ hfu
end
end Go.Proofs.Ytekhpohcjfjhfaa.ctr
namespace Go.Proofs.Ytekhpohcjfjhfaa.outboxWholeRun
open Go.Vm Go.RowKit Go.Proofs.Ytekhpohcjfjhfaa.ctr
set_option linter.unusedVariables false
set_option linter.unusedSimpArgs false
theorem mixed : Try.prog.follows .mixedOrders = true := by kernel_rfl
theorem walk (a0 : Int) (a1 : Option Addr) (len1 cap1 : Nat) (z1 : Nat → Value) (a2 : Int) (w : World) (w0 : (Lit.int .i64 a0).wf = true) (w2 : (Lit.int .i64 a2).wf = true) (hq1 : IsRowV w a1 len1 cap1 1 z1) (hk1 : ∀ i, i < cap1 * 1 → FkOk w (([.S] : List Fk).getD (i % 1) .i) (z1 i)) :
    Calls Try.prog 9 #[.int .i64 a0, .slice a1 len1 cap1, .int .i64 a2] w fun e w' => e = .returned (.bool true) ∧ Below w.heap.size w w' := by
  obtain ⟨v1, E1, s1, L1, g1, l1, f1, r1, d1, i1⟩ := (Arg0.start w).acts13 hq1 hk1
  have h := whole13 (bd := bd0) (h := vf97) (fu := 5000) 40 s1 a0 v1 a2 _ d1 i1 (wf64 w0) (wf64 w2) (by omega)
  exact law_okE bd0_ok mixed (tab_all rho0 vf97 (ok97 rho0)) (t9 vf97) g1.hr g1.own (.cons vr_int (.cons r1 (.cons vr_int .nil))) (yes_of' h fun _ _ h => h)
end Go.Proofs.Ytekhpohcjfjhfaa.outboxWholeRun
