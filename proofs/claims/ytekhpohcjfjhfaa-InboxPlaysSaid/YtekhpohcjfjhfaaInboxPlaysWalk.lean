/- InboxPlays, walked. -/
import Derived.Test.YtekhpohcjfjhfaaCtIn
import Derived.Deep.Slices
import Derived.WalkKit
import Derived.ProofKit
namespace Go.Proofs.Ytekhpohcjfjhfaa.ctr
open Go Go.Vm Go.RowKit Go.ChangeShapes Go.WideShapes
set_option linter.unusedVariables false
set_option linter.constructorNameAsVariable false
set_option linter.unusedSimpArgs false
/-! ## a slice among the arguments whose elements are several cells -/
theorem row_blockV {w : World} {a : Addr} {n : Nat} {V : Nat → Value} (h0 : 0 < n) (hc : ∀ i, i < n → w.cell? (a.add i) = some (V i)) :
    ∃ B δ cs t fz, a = ⟨B, δ, none⟩ ∧ w.heap[B]? = some (.cells cs t fz) ∧ δ + n ≤ cs.size ∧ ∀ i, i < n → cs[i + δ]? = some (V i) := by
  obtain ⟨B, δ, sp⟩ := a
  have hb := hc 0 h0
  unfold World.cell? at hb hc
  have e0 : (Addr.add ⟨B, δ, sp⟩ 0) = ⟨B, δ, sp⟩ := rfl
  rw [e0] at hb
  dsimp only at hb
  split at hb
  · rename_i cs t fz hw
    have hsp : sp = none := by
      cases sp with
      | none => rfl
      | some x => simp at hb
    subst hsp
    have ad : ∀ i, (Addr.add ⟨B, δ, none⟩ i).block = B ∧ (Addr.add ⟨B, δ, none⟩ i).off = δ + i ∧ (Addr.add ⟨B, δ, none⟩ i).spot = none := fun i => by rw [addr_add]; exact ⟨rfl, rfl, rfl⟩
    have hall : ∀ i, i < n → cs[i + δ]? = some (V i) := by
      intro i hi
      have h1 := hc i hi
      rw [(ad i).1, hw] at h1
      simp only [(ad i).2.1, (ad i).2.2, Option.isSome_none, Bool.false_eq_true, if_false] at h1
      rw [Nat.add_comm]; exact h1
    refine ⟨B, δ, cs, t, fz, rfl, hw, ?_, hall⟩
    have := lt_of_get (hall (n - 1) (by omega))
    omega
  · cases hb
/-- a slice of len elements of sz cells, V: its cells, up to its capacity -/
def IsRowV (w : World) (a : Option Addr) (len cap sz : Nat) (V : Nat → Value) : Prop :=
  (a = none ∧ len = 0 ∧ cap = 0) ∨ ∃ x, a = some x ∧ len ≤ cap ∧ cap ≤ maxLen ∧ ∀ i, i < cap * sz → w.cell? (x.add i) = some (V i)
theorem _root_.Go.Vm.Arg0.rows {α : Type} {E : Env} {s : St} {w : World} (h : Arg0 E s w) {a : Option Addr} {len cap sz : Nat} {V : Nat → Value} (hq : IsRowV w a len cap sz V) (hp : 0 < sz) (enc : α → List AV) (hw : ∀ x, (enc x).length = sz) (l : List α) (hl : l.length = len)
    (hc : ∀ i v, (l.flatMap enc)[i]? = some v → VR rho0 E v (V i) ∧ v.scalar = true) :
    ∃ v E' s', Arg0 E' s' w ∧ E.le E' ∧ Fr s s' [] ∧ VR rho0 E' v (.slice a len cap) ∧ RdE s' v sz enc l := by
  rcases hq with ⟨rfl, rfl, rfl⟩ | ⟨x, rfl, h2, h3, h4⟩
  · obtain rfl := List.eq_nil_of_length_eq_zero hl
    exact ⟨.nils, E, s, h, .refl E, .refl, .nils, .nil hw hp⟩
  · by_cases h0 : len = 0
    · subst h0
      obtain rfl := List.eq_nil_of_length_eq_zero hl
      exact ⟨.emp, E, s, h, .refl E, .refl, .emp, .emp hw hp⟩
    · have hpos : 0 < cap * sz := Nat.mul_pos (by omega) hp
      obtain ⟨B, δ, cs, t, fz, rfl, g1, g2, g3⟩ := row_blockV hpos h4
      have hlt : (l.flatMap enc).length = len * sz := by rw [flat_len hw, hl]
      have hle : len * sz ≤ cap * sz := Nat.mul_le_mul_right sz h2
      obtain ⟨k1, k2⟩ := h.add (δ := δ) (c := l.flatMap enc) g1 rfl (by rw [hlt]; omega) (fun i v hi => by
        obtain ⟨q1, q2⟩ := hc i v hi
        have := (List.getElem?_eq_some_iff.1 hi).1
        exact ⟨_, g3 i (by omega), q1, q2⟩)
      have hv := VR.sl (ρ := rho0) (E := envN E s.next (B, δ, cs.size)) (b := s.next) (off := 0) (len := len) (lo := len) (ex := false) (sz := sz) (cap := cap) (if_pos rfl) (Nat.le_refl _) h2 (by simp) (by omega)
      rw [Nat.zero_add] at hv
      refine ⟨.sl s.next 0 len len false sz, _, _, k1, k2, .new, hv, ⟨⟨⟨rfl, Nat.le_refl _⟩, ?_, ?_⟩, hw, hp, by show s.next < _; rw [next_new]; omega⟩⟩
      · rw [hlt]; rfl
      · show ob ((s.new _).heap.get s.next) (rdC 0 (len * sz)) = _
        rw [get_new_eq rfl]
        show sub _ 0 (len * sz) = _
        rw [sub_of (by rw [hlt]; omega)]
        congr 1
        rw [List.drop_zero, List.take_of_length_le (by rw [hlt]; omega)]
/-! ## slices of records: kinds of cells -/
inductive Fk | i | b | S
def FkOk (w : World) : Fk → Value → Prop
  | .i, v => ∃ z, v = .int .i64 z ∧ (Lit.int .i64 z).wf = true
  | .b, v => ∃ x, v = .bool x
  | .S, v => ∃ a len cap zs, v = .slice a len cap ∧ IsRow8 w a len cap zs
def fkTy (P : Program) : Fk → TypeId → Bool
  | .i, t => match P.underlying t with | some (.int .i64) => true | _ => false
  | .b, t => match P.underlying t with | some .bool => true | _ => false
  | .S, t => match P.underlying t with | some (.slice e) => (match P.underlying e with | some (.int .u8) => P.cellsOf e == 1 | _ => false) | _ => false
def fkB (P : Program) (e : TypeId) (ks : List Fk) : Bool := match P.underlying e with
  | some (.struct fs) => P.cellsOf e == ks.length && fs.size == ks.length && (List.range ks.length).all fun j => match fs[j]?, ks[j]? with
    | some f, some k => f.offset == j && P.cellsOf f.type == 1 && fkTy P k f.type
    | _, _ => false
  | _ => ks.length == 1 && P.cellsOf e == 1 && fkTy P (ks.getD 0 .i) e
section
variable {H : Type} {enc : TypeId × Value → H} {P : Program} {w : World} {base : Nat} {held : Bool}
theorem fk_open {k : Fk} {t : TypeId} {fuel : Nat} {v : Value} {x : DataW H × List MemPlace} (ht : fkTy P k t = true) (h : DataW.trod enc P w base (fun _ => true) held fuel t [v] = some x) : FkOk w k v := by
  cases k with
  | i =>
    unfold fkTy at ht; dsimp only at ht; split at ht
    · rename_i hu
      obtain ⟨n, h1, _, h2⟩ := DataW.trod_int hu h
      cases h1; exact ⟨n, rfl, h2⟩
    · cases ht
  | b =>
    unfold fkTy at ht; dsimp only at ht; split at ht
    · rename_i hu
      obtain ⟨n, h1, _⟩ := DataW.trod_bool hu h
      cases h1; exact ⟨n, rfl⟩
    · cases ht
  | S =>
    unfold fkTy at ht; dsimp only at ht; split at ht
    · rename_i e hu
      split at ht
      · rename_i hu2
        rcases open_ints hu hu2 (by simpa using ht) h with ⟨hcs, _⟩ | ⟨x, l, c, zs, hcs, _, hl, hm, hz, _, hcell, hwz⟩
        · cases hcs
          exact ⟨_, _, _, [], rfl, .inl ⟨rfl, rfl, rfl, rfl⟩⟩
        · cases hcs
          exact ⟨_, _, _, zs, rfl, .inr ⟨_, rfl, hl, hm, by simpa using hz, hcell, hwz⟩⟩
      · cases ht
    · cases ht
theorem open_rowV {t e : TypeId} {ks : List Fk} {fuel : Nat} {a : Option Addr} {len cap : Nat} {x : DataW H × List MemPlace} (ht : P.underlying t = some (.slice e)) (hk : fkB P e ks = true) (hp : 0 < ks.length)
    (h : DataW.trod enc P w base (fun _ => true) held fuel t [.slice a len cap] = some x) :
    ∃ V, IsRowV w a len cap ks.length V ∧ ∀ i, i < cap * ks.length → FkOk w (ks.getD (i % ks.length) .i) (V i) := by
  have ce : P.cellsOf e = ks.length := by
    unfold fkB at hk
    split at hk
    · simp only [Bool.and_eq_true, beq_iff_eq] at hk; exact hk.1.1
    · simp only [Bool.and_eq_true, beq_iff_eq] at hk; rw [hk.1.1]; exact hk.1.2
  rcases Go.Deep.open_slice ht h with ⟨h0, _⟩ | ⟨b, l, c, m, n, D, Pl, h0, hb, hl, hm, hmm, rfl, hx⟩
  · cases h0
    exact ⟨fun _ => .int .i64 0, .inl ⟨rfl, rfl, rfl⟩, fun i hi => by simp at hi⟩
  · cases h0
    obtain rfl : m = cap := by simpa using hmm
    rw [ce] at hx
    have key : ∀ q, q < m * ks.length → ∃ v, w.cell? (b.add q) = some v ∧ FkOk w (ks.getD (q % ks.length) .i) v := by
      intro q hq
      have hj : q % ks.length < ks.length := Nat.mod_lt _ hp
      have hi : q / ks.length < m := by rw [Nat.div_lt_iff_lt_mul hp]; exact hq
      have hqe : q / ks.length * ks.length + q % ks.length = q := by rw [Nat.mul_comm]; exact Nat.div_add_mod q ks.length
      obtain ⟨cs', h1, h2⟩ := hx _ hi
      obtain ⟨_, hlen, hcell⟩ := World.cells?_some h1
      have e1 := hcell (q % ks.length) (by omega)
      rw [Go.Deep.add_add, hqe] at e1
      obtain ⟨v, hv⟩ : ∃ v, cs'[q % ks.length]? = some v := ⟨cs'[q % ks.length]'(by omega), List.getElem?_eq_getElem (by omega)⟩
      refine ⟨v, by rw [e1, hv], ?_⟩
      unfold fkB at hk
      split at hk
      · rename_i fs hu
        simp only [Bool.and_eq_true, beq_iff_eq, List.all_eq_true, List.mem_range] at hk
        obtain ⟨⟨_, hsz⟩, hall⟩ := hk
        obtain ⟨xs, k, _, _, _, hxl, hf⟩ := DataW.trod_struct hu h2
        have hj2 := hall _ hj
        split at hj2
        · rename_i f k' hfj hkj
          simp only [Bool.and_eq_true, beq_iff_eq] at hj2
          obtain ⟨⟨o1, c1⟩, ty⟩ := hj2
          have g := hf _ f hfj
          rw [o1, c1] at g
          have hd : (cs'.drop (q % ks.length)).take 1 = [v] := by
            rw [List.take_one, List.head?_drop, hv]; rfl
          rw [hd] at g
          have hlt : q % ks.length < xs.length := by rw [hxl, hsz]; exact hj
          rw [List.getElem?_eq_getElem hlt] at g
          have := fk_open ty g
          rw [List.getD, hkj]; exact this
        · cases hj2
      · rename_i hu
        simp only [Bool.and_eq_true, beq_iff_eq] at hk
        have hl1 : cs'.length = 1 := by rw [hlen]; exact hk.1.1
        have h0 : q % ks.length = 0 := by rw [hk.1.1]; exact Nat.mod_one q
        rw [h0] at hv ⊢
        match cs', hl1, hv, h2 with
        | [y], _, hv, h2 => cases hv; exact fk_open hk.2 h2
    obtain ⟨V, hV⟩ : ∃ V : Nat → Value, ∀ q, q < m * ks.length → w.cell? (b.add q) = some (V q) ∧ FkOk w (ks.getD (q % ks.length) .i) (V q) := by
      haveI : Inhabited Value := ⟨.bool false⟩
      exact Go.Deep.choose_lt key
    exact ⟨V, .inr ⟨_, rfl, hl, hm, fun i hi => (hV i hi).1⟩, fun i hi => (hV i hi).2⟩
end
/-! ## .. in the walk -/
inductive Cl | i (z : Int) | b (x : Bool) | S (u : AV) (l : List Int)
noncomputable def Cl.av : Cl → AV | .i z => num z | .b x => .bool x | .S u _ => u
def Cl.z : Cl → Int | .i z => z | _ => 0
def Cl.x : Cl → Bool | .b x => x | _ => false
def Cl.u : Cl → AV | .S u _ => u | _ => .nils
def Cl.l : Cl → List Int | .S _ l => l | _ => []
/-- a cell of a kind -/
def ClOk (s : St) : Cl → Fk → Prop
  | .i z, .i => In64 z
  | .b _, .b => True
  | .S u l, .S => RdE s u 1 encB l ∧ ∀ x ∈ l, In8 x
  | _, _ => False
theorem ClOk.fr0 {s s' : St} {c : Cl} {k : Fk} (h : ClOk s c k) (f : Fr s s' []) : ClOk s' c k := by
  cases c <;> cases k <;> first | exact h | exact ⟨h.1.fr0 f, h.2⟩ | cases h
theorem _root_.Go.Vm.Arg0.cells {w : World} {V : Nat → Value} {K : Nat → Fk} : ∀ (n : Nat) {E : Env} {s : St}, Arg0 E s w → (∀ i, i < n → FkOk w (K i) (V i)) →
    ∃ (cl : Nat → Cl) (E' : Env) (s' : St), Arg0 E' s' w ∧ E.le E' ∧ Fr s s' [] ∧ ∀ i, i < n → ClOk s' (cl i) (K i) ∧ VR rho0 E' (cl i).av (V i) ∧ (cl i).av.scalar = true
  | 0, E, s, h, _ => ⟨fun _ => .i 0, E, s, h, .refl E, .refl, fun i hi => by omega⟩
  | n + 1, E, s, h, hV => by
    obtain ⟨cl, E1, s1, h1, e1, f1, c1⟩ := Go.Vm.Arg0.cells n h (fun i hi => hV i (by omega))
    have hn := hV n (by omega)
    have put : ∀ (c : Cl) (E' : Env) (s' : St), Arg0 E' s' w → E1.le E' → Fr s1 s' [] → ClOk s' c (K n) → VR rho0 E' c.av (V n) → c.av.scalar = true →
        ∃ (cl : Nat → Cl) (E' : Env) (s' : St), Arg0 E' s' w ∧ E.le E' ∧ Fr s s' [] ∧ ∀ i, i < n + 1 → ClOk s' (cl i) (K i) ∧ VR rho0 E' (cl i).av (V i) ∧ (cl i).av.scalar = true := by
      intro c E' s' a e f k v sc
      refine ⟨fun i => if i = n then c else cl i, E', s', a, e1.trans e, f1.trans f (fp2 := []) (by simp) (by simp), fun i hi => ?_⟩
      dsimp only
      by_cases h : i = n
      · subst h; rw [if_pos rfl]; exact ⟨k, v, sc⟩
      · rw [if_neg h]
        obtain ⟨q1, q2, q3⟩ := c1 i (by omega)
        exact ⟨q1.fr0 f, q2.mono e, q3⟩
    cases hk : K n with
    | i =>
      rw [hk] at hn put
      obtain ⟨z, hz, wz⟩ := hn
      exact put (.i z) E1 s1 h1 (.refl _) .refl (wf64 wz) (by rw [hz]; exact vr_int) rfl
    | b =>
      rw [hk] at hn put
      obtain ⟨z, hz⟩ := hn
      exact put (.b z) E1 s1 h1 (.refl _) .refl trivial (by rw [hz]; exact .bool _) rfl
    | S =>
      rw [hk] at hn put
      obtain ⟨a, len, cap, zs, hv, hq⟩ := hn
      obtain ⟨u, E2, s2, g, l, f, r, d, i8⟩ := h1.bytes hq
      refine put (.S u (zs.take len)) E2 s2 g l f ⟨d, i8⟩ (by rw [hv]; exact r) ?_
      have := d.rd.sl
      show u.scalar = true
      cases u <;> first | rfl | exact this.elim
/-- a slice of records among the arguments -/
theorem _root_.Go.Vm.Arg0.recs {α : Type} {E : Env} {s : St} {w : World} (h : Arg0 E s w) {a : Option Addr} {len cap : Nat} {ks : List Fk} {V : Nat → Value} (hq : IsRowV w a len cap ks.length V)
    (hV : ∀ i, i < cap * ks.length → FkOk w (ks.getD (i % ks.length) .i) (V i)) (hp : 0 < ks.length) (enc : α → List AV) (dec : (Nat → Cl) → α) (hw : ∀ x, (enc x).length = ks.length)
    (hd : ∀ (s : St) (f : Nat → Cl), (∀ j, j < ks.length → ClOk s (f j) (ks.getD j .i)) → ∀ j, j < ks.length → (enc (dec f))[j]? = some (f j).av) :
    ∃ v E' s' l, Arg0 E' s' w ∧ E.le E' ∧ Fr s s' [] ∧ VR rho0 E' v (.slice a len cap) ∧ RdE s' v ks.length enc l ∧ l.length = len ∧ ∀ x ∈ l, ∃ f, x = dec f ∧ ∀ j, j < ks.length → ClOk s' (f j) (ks.getD j .i) := by
  have hlc : len ≤ cap := by rcases hq with ⟨_, rfl, rfl⟩ | ⟨_, _, h, _⟩; exact Nat.le_refl _; exact h
  have hle : len * ks.length ≤ cap * ks.length := Nat.mul_le_mul_right _ hlc
  obtain ⟨cl, E1, s1, h1, e1, f1, c1⟩ := Go.Vm.Arg0.cells (V := V) (K := fun i => ks.getD (i % ks.length) .i) (len * ks.length) h (fun i hi => hV i (by omega))
  have hF : ∀ k, k < len → ∀ j, j < ks.length → k * ks.length + j < len * ks.length := by
    intro k hk j hj
    have : (k + 1) * ks.length ≤ len * ks.length := Nat.mul_le_mul_right _ hk
    rw [Nat.add_mul, Nat.one_mul] at this; omega
  have hmod : ∀ k j, j < ks.length → (k * ks.length + j) % ks.length = j := by
    intro k j hj; rw [Nat.mul_comm, Nat.mul_add_mod, Nat.mod_eq_of_lt hj]
  have hK : ∀ k, k < len → ∀ j, j < ks.length → ClOk s1 (cl (k * ks.length + j)) (ks.getD j .i) := by
    intro k hk j hj
    have := (c1 _ (hF k hk j hj)).1
    rwa [hmod k j hj] at this
  have hlen : ((List.range len).map fun k => dec fun j => cl (k * ks.length + j)).length = len := by simp
  obtain ⟨v, E2, s2, h2, e2, f2, r2, d2⟩ := h1.rows hq hp enc hw ((List.range len).map fun k => dec fun j => cl (k * ks.length + j)) hlen (by
    intro i v hi
    have hil := (List.getElem?_eq_some_iff.1 hi).1
    rw [flat_len hw, hlen] at hil
    have hj : i % ks.length < ks.length := Nat.mod_lt _ hp
    have hk : i / ks.length < len := by rw [Nat.div_lt_iff_lt_mul hp]; exact hil
    have hie : i / ks.length * ks.length + i % ks.length = i := by rw [Nat.mul_comm]; exact Nat.div_add_mod i ks.length
    have hg : ((List.range len).map fun k => dec fun j => cl (k * ks.length + j))[i / ks.length]? = some (dec fun j => cl (i / ks.length * ks.length + j)) := by
      rw [List.getElem?_map, List.getElem?_range hk]; rfl
    have ha := flat_at hw hg
    have hv : (enc (dec fun j => cl (i / ks.length * ks.length + j)))[i % ks.length]? = some v := by
      rw [← ha, List.getElem?_take, if_pos hj, List.getElem?_drop, hie]; exact hi
    rw [hd s1 _ (fun j hj => hK _ hk j hj) _ hj, hie] at hv
    cases hv
    obtain ⟨_, q2, q3⟩ := c1 i (by omega)
    exact ⟨q2, q3⟩)
  refine ⟨v, E2, s2, _, h2, e1.trans e2, f1.trans f2 (fp2 := []) (by simp) (by simp), r2, d2, hlen, fun x hx => ?_⟩
  obtain ⟨k, hk, rfl⟩ := List.mem_map.1 hx
  exact ⟨_, rfl, fun j hj => (hK k (List.mem_range.1 hk) j hj).fr0 f2⟩
end Go.Proofs.Ytekhpohcjfjhfaa.ctr
namespace Go.Proofs.Ytekhpohcjfjhfaa.ctr
open Go.Vm Go.RowKit Go.Ranges
set_option linter.unusedVariables false
set_option linter.unusedSimpArgs false
set_option linter.constructorNameAsVariable false
theorem ClOk.i {s : St} {c : Cl} (h : ClOk s c .i) : c.av = num c.z ∧ In64 c.z := by
  cases c <;> first | exact ⟨rfl, h⟩ | cases h
theorem ClOk.b {s : St} {c : Cl} (h : ClOk s c .b) : c.av = .bool c.x := by
  cases c <;> first | rfl | cases h
theorem ClOk.S {s : St} {c : Cl} (h : ClOk s c .S) : c.av = c.u ∧ RdE s c.u 1 encB c.l ∧ ∀ x ∈ c.l, In8 x := by
  cases c <;> first | exact ⟨rfl, h⟩ | cases h
theorem _root_.Go.Vm.RdE.fld {α : Type} {s : St} {v : AV} {sz : Nat} {enc : α → List AV} {l : List α} (h : RdE s v sz enc l) {i : Nat} {x : α} (hx : l[i]? = some x) {k : Nat} {c : AV} (hk : (enc x)[k]? = some c) :
    ob (s.heap.get (sblk v)) (rd1C (soff v + i * sz + k)) = some c := by
  obtain ⟨c', k', q1, q2⟩ := rd_sub (s := s) (b := sblk v) (o := soff v + i * sz) (n := sz) (h.at hx)
  obtain ⟨q3, q4⟩ := sub_some q2
  have hlt := (List.getElem?_eq_some_iff.1 hk).1
  rw [h.wid] at hlt
  rw [q1]
  show nth c' (soff v + i * sz + k) = _
  rw [nth_eq]
  have : ((c'.drop (soff v + i * sz)).take sz)[k]? = some c := by rw [← q4]; exact hk
  rw [List.getElem?_take, if_pos hlt, List.getElem?_drop] at this
  exact this
theorem _root_.Go.Vm.RdE.fld0 {α : Type} {s : St} {v : AV} {sz : Nat} {enc : α → List AV} {l : List α} (h : RdE s v sz enc l) {i : Nat} {x : α} (hx : l[i]? = some x) {c : AV} (hk : (enc x)[0]? = some c) :
    ob (s.heap.get (sblk v)) (rd1C (soff v + i * sz)) = some c := h.fld hx (k := 0) hk
theorem drop_of {α : Type} {l : List α} {i : Nat} {x : α} (h : l[i]? = some x) : l.drop i = x :: l.drop (i + 1) := by
  obtain ⟨h1, h2⟩ := List.getElem?_eq_some_iff.1 h
  rw [List.drop_eq_getElem_cons h1, h2]
theorem Sep.cell {s0 s : St} {Ps : List Obj} (h : Sep s0 s Ps) (c0 c : List AV) : Sep s0 ((s.new (.cells c0 .own)).put s.next (some (.cells c .own))) (oC s.next c :: Ps) :=
  h.push (P := oC s.next c) ⟨get_put_eq rfl, by rw [next_put, next_new]; omega, rfl⟩ (by (repeat' (first | exact Fr.refl | assumption | apply Fr.new' | apply Fr.mk' | apply Fr.put')) <;> (first | omega | (left; simp; done) | (right; simp only [next_put, next_new, next_mk]; omega) | (simp only [next_put, next_new, next_mk]; omega))) (Nw.one (Nat.le_refl _))
theorem Sep.getC {s0 s : St} {b : Nat} {c : List AV} {Ps : List Obj} (h : Sep s0 s (oC b c :: Ps)) : s.heap.get b = some (.cells c .own) := by
  obtain ⟨f, k, up⟩ := h.hd; exact k.1
theorem Sep.re {s0 s : St} {Ps Qs : List Obj} (h : Sep s0 s Ps) (hp : Ps.Perm Qs) : Sep s0 s Qs := h.perm hp
theorem Sep.rdW {α : Type} {s0 s : St} {v : AV} {sz : Nat} {enc : α → List AV} {l : List α} {Ps : List Obj} (h : Sep s0 s (oW v sz enc l :: Ps)) : RdE s v sz enc l := by
  obtain ⟨f, k, up⟩ := h.hd; exact k.rd
theorem sep_test {s0 s : St} {A B C D E F G : Obj} {Ps : List Obj} (h : Sep s0 s (A :: B :: C :: D :: E :: F :: G :: Ps)) : Sep s0 s (E :: B :: F :: A :: G :: Ps) := ((h.re ((List.perm_middle (l₁ := [_, _])).trans (.cons _ ((List.perm_middle (l₁ := [_, _])).trans (.cons _ ((List.perm_middle (l₁ := [_, _])).trans (.cons _ ((List.perm_middle (l₁ := [_])).trans (.cons _ ((List.perm_middle (l₁ := [_])).trans (.cons _ (.refl _)))))))))))).drop.drop)
theorem sv_bool (b : Bool) : sameV (.bool b) (.bool b) = true := by cases b <;> rfl
end Go.Proofs.Ytekhpohcjfjhfaa.ctr
namespace Go.Proofs.Ytekhpohcjfjhfaa.ctr
open Go.Vm Go.RowKit Go.Ranges
set_option linter.unusedVariables false
set_option linter.unusedSimpArgs false
/-- a set within a greater object -/
def IsK (s : St) (p : Nat) (w tk e : Int) (vb : AV) (l : List R) (fp : List Nat) : Prop := ∃ v fv, s.heap.get p = some (.cells [num w, num tk, num e, vb, v] .own) ∧ OwE s v 2 encR l fv ∧ p ∉ fv ∧ fp = p :: fv ∧ p < s.next
theorem IsK.fr {s s' : St} {p : Nat} {w tk e : Int} {vb : AV} {l : List R} {fp fp' : List Nat} (hF : IsK s p w tk e vb l fp) (hf : Fr s s' fp') (hd : ∀ b ∈ fp, b ∉ fp') : IsK s' p w tk e vb l fp := by
  obtain ⟨v, fv, h1, h2, h3, rfl, h5⟩ := hF
  exact ⟨v, fv, (hf.2 p h5 (hd p (by simp))).trans h1, h2.fr hf fun b hb => hd b (by simp [hb]), h3, rfl, Nat.lt_of_lt_of_le h5 hf.1⟩
theorem IsK.lt {s : St} {p : Nat} {w tk e : Int} {vb : AV} {l : List R} {fp : List Nat} (hF : IsK s p w tk e vb l fp) : Lt s fp := by
  obtain ⟨v, fv, h1, h2, h3, rfl, h5⟩ := hF
  intro b hb
  rcases List.mem_cons.1 hb with rfl | hb
  · exact h5
  · exact h2.lt b hb
section
variable {bd : Bd} {h : VF} {fu : Nat}
set_option maxHeartbeats 400000 in
theorem q_add4 (n : Nat) (s : St) (p : Nat) (w tk e : Int) (vb : AV) (l : List R) (fp : List Nat) (f t : Int) (hF : IsK s p w tk e vb l fp) (hw : WFr 0 l) (hlen : l.length < fu) (hf : l.length < 100000) :
    OutOk (callF bd (tab h).get fu (n + 2) 90 [.ptr p 4, num f, num t] s) (fun x s' => ∃ fp', IsK s' p w tk e vb (if max 0 f < min t far then addR (max 0 f) (min t far) l else l) fp' ∧ Fr s s' fp ∧ Nw s fp fp') := by
  refine call_code (t90 h) rfl ?_
  simp (disch := omega) only [vm0, vm1, vm2, vm3, vm4, vm5, vm6, vm7, fPick, fBox, fBuild, fBsl, fLd, fLda, fSt, fNilc, fBin, fEq, fUn, fMkf, fFa, fFld, fFlda, fExt, evo, wr, wrC, frame, Bool.not_true, Bool.not_false, beq_self_eq_true, List.cons_append, List.nil_append, Nat.add_zero, Nat.zero_add, Nat.reduceAdd, Nat.reduceMul, Nat.reduceSub, Bool.and_true, Bool.true_and, Bool.and_self, beq_dec, fApp, Int.toNat_natCast, Nat.sub_zero, vc90]
  refine call_ok rfl rfl (s_clip n s f t) ?_
  rintro x s ⟨rfl, rfl⟩
  have hF0 := hF
  obtain ⟨v, fv, h1, h2, h3, rfl, h5⟩ := hF
  rw [show max f 0 = max 0 f by omega]
  obtain ⟨f', hf'⟩ : ∃ f', max 0 f = f' := ⟨_, rfl⟩
  obtain ⟨t', ht'⟩ : ∃ t', min t far = t' := ⟨_, rfl⟩
  rw [hf', ht']
  by_cases hgo : f' < t'
  · rw [if_pos hgo]
    simp (disch := omega) only [vm0, vm1, vm2, vm3, vm4, vm5, vm6, vm7, fPick, fBox, fBuild, fBsl, fLd, fLda, fSt, fNilc, fBin, fEq, fUn, fMkf, fFa, fFld, fFlda, fExt, evo, wr, wrC, frame, Bool.not_true, Bool.not_false, beq_self_eq_true, List.cons_append, List.nil_append, Nat.add_zero, Nat.zero_add, Nat.reduceAdd, Nat.reduceMul, Nat.reduceSub, Bool.and_true, Bool.true_and, Bool.and_self, beq_dec, fApp, Int.toNat_natCast, Nat.sub_zero, h1, h2.rd.lenV]
    refine x_loop (fun m F s' => ∃ i : Nat, ∃ z x3 x10 x12 x13 x14 x15 vo fo, m = l.length - i ∧ i ≤ l.length ∧ z = (i : Int) ∧ F = [some (.ptr p 4), some (num (rAdd f' t' (l.take i)).f), some (num (rAdd f' t' (l.take i)).t), x3, some vo, some (num z), some (.bool (rAdd f' t' (l.take i)).d), some (.bool true), some (.bool false), some (num (l.length : Int)), x10, some v, x12, x13, x14, x15] ∧
      Fr s s' [] ∧ OwE s' vo 2 encR (rAdd f' t' (l.take i)).o fo ∧ Nw s [] fo) l.length (by omega) ?_ ?_
    · exact ⟨0, _, _, _, _, _, _, _, _, [], by omega, by omega, rfl, rfl, .refl, .nil encR_w (by omega), by simp [Nw]⟩
    · rintro m F s1 ⟨i, _, x3, x10, x12, x13, x14, x15, vo, fo, rfl, hi, rfl, rfl, hfr, ho, hn⟩ hm
      have hv1 := h2.fr0 hfr
      have hpl := rAdd_len (f := f') (t := t') (l.take i)
      rw [List.length_take, Nat.min_eq_left hi] at hpl
      by_cases hlt : i < l.length
      · obtain ⟨x, hx⟩ : ∃ x, l[i]? = some x := ⟨_, List.getElem?_eq_getElem hlt⟩
        have hps := rAdd_take (f := f') (t := t') hx
        obtain ⟨a, b⟩ := x
        have e1 := hv1.rd.ia hx
        have e2 := hv1.rd.at hx
        have hbl := hv1.rd.blk' hx
        obtain ⟨⟨o, d1, f1, t1⟩, ho1⟩ : ∃ q : RS, rAdd f' t' (l.take i) = q := ⟨_, rfl⟩
        rw [ho1] at ho hps hpl
        rw [ho1]
        dsimp only at ho hpl
        simp (disch := omega) only [vm0, vm1, vm2, vm3, vm4, vm5, vm6, vm7, fPick, fBox, fBuild, fBsl, fLd, fLda, fSt, fNilc, fBin, fEq, fUn, fMkf, fFa, fFld, fFlda, fExt, evo, wr, wrC, frame, Bool.not_true, Bool.not_false, beq_self_eq_true, List.cons_append, List.nil_append, Nat.add_zero, Nat.zero_add, Nat.reduceAdd, Nat.reduceMul, Nat.reduceSub, Bool.and_true, Bool.true_and, Bool.and_self, beq_dec, fApp, Int.toNat_natCast, Nat.sub_zero, vmI, e1, e2, encR]
        have hfa : Fr s1 ((s1.new (.cells [num 0, num 0] .own)).put s1.next (some (.cells [num a, num b] .own))) [] := (by (repeat' (first | exact Fr.refl | assumption | apply Fr.new' | apply Fr.mk' | apply Fr.put')) <;> (first | omega | (left; simp; done) | (right; simp only [next_put, next_new, next_mk]; omega) | (simp only [next_put, next_new, next_mk]; omega)))
        have hg : ((s1.new (.cells [num 0, num 0] .own)).put s1.next (some (.cells [num a, num b] .own))).heap.get s1.next = some (.cells [num a, num b] .own) := get_put_eq rfl
        have hgn : s1.next < ((s1.new (.cells [num 0, num 0] .own)).put s1.next (some (.cells [num a, num b] .own))).next := by rw [next_put, next_new]; omega
        generalize (s1.new (.cells [num 0, num 0] .own)).put s1.next (some (.cells [num a, num b] .own)) = s2 at *
        have ho2 := ho.fr0 hfa
        have hfr2 := hfr.trans hfa (fp2 := []) (by simp) (by simp)
        by_cases hb : b < f1
        · have hps' : rAdd f' t' (l.take (i + 1)) = ⟨o ++ [(a, b)], d1, f1, t1⟩ := by rw [hps]; exact if_pos hb
          simp (disch := omega) only [vm0, vm1, vm2, vm3, vm4, vm5, vm6, vm7, fPick, fBox, fBuild, fBsl, fLd, fLda, fSt, fNilc, fBin, fEq, fUn, fMkf, fFa, fFld, fFlda, fExt, evo, wr, wrC, frame, Bool.not_true, Bool.not_false, beq_self_eq_true, List.cons_append, List.nil_append, Nat.add_zero, Nat.zero_add, Nat.reduceAdd, Nat.reduceMul, Nat.reduceSub, Bool.and_true, Bool.true_and, Bool.and_self, beq_dec, fApp, Int.toNat_natCast, Nat.sub_zero, vmI, hg]
          refine op_app1 ho2 (by (repeat' (first | exact Fr.refl | assumption | apply Fr.new' | apply Fr.mk' | apply Fr.put')) <;> (first | omega | (left; simp; done) | (right; simp only [next_put, next_new, next_mk]; omega) | (simp only [next_put, next_new, next_mk]; omega))) (x := (a, b)) rfl (by omega) ?_
          intro v' s4 fo' q1 q2 q3
          simp (disch := omega) only [vm0, vm1, vm2, vm3, vm4, vm5, vm6, vm7, fPick, fBox, fBuild, fBsl, fLd, fLda, fSt, fNilc, fBin, fEq, fUn, fMkf, fFa, fFld, fFlda, fExt, evo, wr, wrC, frame, Bool.not_true, Bool.not_false, beq_self_eq_true, List.cons_append, List.nil_append, Nat.add_zero, Nat.zero_add, Nat.reduceAdd, Nat.reduceMul, Nat.reduceSub, Bool.and_true, Bool.true_and, Bool.and_self, beq_dec, fApp, Int.toNat_natCast, Nat.sub_zero, vmI]
          exact ⟨l.length - (i + 1), by omega, i + 1, (i : Int) + 1, _, _, _, _, _, _, _, fo', rfl, by omega, by omega, by rw [hps'], hfr2.nn q2 hn, by rw [hps']; exact q1, hn.nn q3 hfr2.1⟩
        · by_cases ha : t1 < a
          · cases d1
            · have hps' : rAdd f' t' (l.take (i + 1)) = ⟨o ++ [(f1, t1)] ++ [(a, b)], true, f1, t1⟩ := by
                rw [hps]; unfold rstep
                rw [if_neg (show ¬ (a, b).2 < f1 from hb), if_pos (show t1 < (a, b).1 from ha)]; rfl
              simp (disch := omega) only [vm0, vm1, vm2, vm3, vm4, vm5, vm6, vm7, fPick, fBox, fBuild, fBsl, fLd, fLda, fSt, fNilc, fBin, fEq, fUn, fMkf, fFa, fFld, fFlda, fExt, evo, wr, wrC, frame, Bool.not_true, Bool.not_false, beq_self_eq_true, List.cons_append, List.nil_append, Nat.add_zero, Nat.zero_add, Nat.reduceAdd, Nat.reduceMul, Nat.reduceSub, Bool.and_true, Bool.true_and, Bool.and_self, beq_dec, fApp, Int.toNat_natCast, Nat.sub_zero, vmI, hg]
              refine op_app1 ho2 (by (repeat' (first | exact Fr.refl | assumption | apply Fr.new' | apply Fr.mk' | apply Fr.put')) <;> (first | omega | (left; simp; done) | (right; simp only [next_put, next_new, next_mk]; omega) | (simp only [next_put, next_new, next_mk]; omega))) (x := (f1, t1)) rfl (by omega) ?_
              intro v' s4 fo' q1 q2 q3
              have hg4 := (q2.get hgn (fun hm => by have := ho.lt _ hm; omega)).trans hg
              have hgn4 := Nat.lt_of_lt_of_le hgn q2.1
              simp (disch := omega) only [vm0, vm1, vm2, vm3, vm4, vm5, vm6, vm7, fPick, fBox, fBuild, fBsl, fLd, fLda, fSt, fNilc, fBin, fEq, fUn, fMkf, fFa, fFld, fFlda, fExt, evo, wr, wrC, frame, Bool.not_true, Bool.not_false, beq_self_eq_true, List.cons_append, List.nil_append, Nat.add_zero, Nat.zero_add, Nat.reduceAdd, Nat.reduceMul, Nat.reduceSub, Bool.and_true, Bool.true_and, Bool.and_self, beq_dec, fApp, Int.toNat_natCast, Nat.sub_zero, vmI, hg4]
              refine op_app1 q1 (by (repeat' (first | exact Fr.refl | assumption | apply Fr.new' | apply Fr.mk' | apply Fr.put')) <;> (first | omega | (left; simp; done) | (right; simp only [next_put, next_new, next_mk]; omega) | (simp only [next_put, next_new, next_mk]; omega))) (x := (a, b)) rfl (by simp; omega) ?_
              intro v'' s5 fo'' q4 q5 q6
              have hnn := hn.nn q3 hfr2.1
              have hfr4 := hfr2.nn q2 hn
              simp (disch := omega) only [vm0, vm1, vm2, vm3, vm4, vm5, vm6, vm7, fPick, fBox, fBuild, fBsl, fLd, fLda, fSt, fNilc, fBin, fEq, fUn, fMkf, fFa, fFld, fFlda, fExt, evo, wr, wrC, frame, Bool.not_true, Bool.not_false, beq_self_eq_true, List.cons_append, List.nil_append, Nat.add_zero, Nat.zero_add, Nat.reduceAdd, Nat.reduceMul, Nat.reduceSub, Bool.and_true, Bool.true_and, Bool.and_self, beq_dec, fApp, Int.toNat_natCast, Nat.sub_zero, vmI]
              exact ⟨l.length - (i + 1), by omega, i + 1, (i : Int) + 1, _, _, _, _, _, _, _, fo'', rfl, by omega, by omega, by rw [hps'], hfr4.nn q5 hnn, by rw [hps']; exact q4, hnn.nn q6 hfr4.1⟩
            · have hps' : rAdd f' t' (l.take (i + 1)) = ⟨o ++ [(a, b)], true, f1, t1⟩ := by
                rw [hps]; unfold rstep
                rw [if_neg (show ¬ (a, b).2 < f1 from hb), if_pos (show t1 < (a, b).1 from ha)]; rfl
              simp (disch := omega) only [vm0, vm1, vm2, vm3, vm4, vm5, vm6, vm7, fPick, fBox, fBuild, fBsl, fLd, fLda, fSt, fNilc, fBin, fEq, fUn, fMkf, fFa, fFld, fFlda, fExt, evo, wr, wrC, frame, Bool.not_true, Bool.not_false, beq_self_eq_true, List.cons_append, List.nil_append, Nat.add_zero, Nat.zero_add, Nat.reduceAdd, Nat.reduceMul, Nat.reduceSub, Bool.and_true, Bool.true_and, Bool.and_self, beq_dec, fApp, Int.toNat_natCast, Nat.sub_zero, vmI, hg]
              refine op_app1 ho2 (by (repeat' (first | exact Fr.refl | assumption | apply Fr.new' | apply Fr.mk' | apply Fr.put')) <;> (first | omega | (left; simp; done) | (right; simp only [next_put, next_new, next_mk]; omega) | (simp only [next_put, next_new, next_mk]; omega))) (x := (a, b)) rfl (by omega) ?_
              intro v' s4 fo' q1 q2 q3
              simp (disch := omega) only [vm0, vm1, vm2, vm3, vm4, vm5, vm6, vm7, fPick, fBox, fBuild, fBsl, fLd, fLda, fSt, fNilc, fBin, fEq, fUn, fMkf, fFa, fFld, fFlda, fExt, evo, wr, wrC, frame, Bool.not_true, Bool.not_false, beq_self_eq_true, List.cons_append, List.nil_append, Nat.add_zero, Nat.zero_add, Nat.reduceAdd, Nat.reduceMul, Nat.reduceSub, Bool.and_true, Bool.true_and, Bool.and_self, beq_dec, fApp, Int.toNat_natCast, Nat.sub_zero, vmI]
              exact ⟨l.length - (i + 1), by omega, i + 1, (i : Int) + 1, _, _, _, _, _, _, _, fo', rfl, by omega, by omega, by rw [hps'], hfr2.nn q2 hn, by rw [hps']; exact q1, hn.nn q3 hfr2.1⟩
          · have hps' : rAdd f' t' (l.take (i + 1)) = ⟨o, d1, min f1 a, max t1 b⟩ := by
              rw [hps]; unfold rstep
              rw [if_neg (show ¬ (a, b).2 < f1 from hb), if_neg (show ¬ t1 < (a, b).1 from ha)]
            simp (disch := omega) only [vm0, vm1, vm2, vm3, vm4, vm5, vm6, vm7, fPick, fBox, fBuild, fBsl, fLd, fLda, fSt, fNilc, fBin, fEq, fUn, fMkf, fFa, fFld, fFlda, fExt, evo, wr, wrC, frame, Bool.not_true, Bool.not_false, beq_self_eq_true, List.cons_append, List.nil_append, Nat.add_zero, Nat.zero_add, Nat.reduceAdd, Nat.reduceMul, Nat.reduceSub, Bool.and_true, Bool.true_and, Bool.and_self, beq_dec, fApp, Int.toNat_natCast, Nat.sub_zero, vmI, hg]
            exact ⟨l.length - (i + 1), by omega, i + 1, (i : Int) + 1, _, _, _, _, _, _, _, fo, rfl, by omega, by omega, by rw [hps'], hfr2, by rw [hps']; exact ho2, hn⟩
      · have hpa := rAdd_spec (f := f') (t := t') hw hgo
        have htk : l.take i = l := List.take_of_length_le (by omega)
        rw [htk] at ho hpl ⊢
        obtain ⟨⟨o, d1, f1, t1⟩, ho1⟩ : ∃ q : RS, rAdd f' t' l = q := ⟨_, rfl⟩
        rw [ho1] at ho hpa hpl
        rw [ho1]
        dsimp only at ho hpl
        have hp1 := (hfr.get h5 (by simp)).trans h1
        have fin : ∀ (v' : AV) (s5 : St) (f5 : List Nat), OwE s5 v' 2 encR (addR f' t' l) f5 → Fr s s5 [] → Nw s [] f5 → ∃ fp', IsK (s5.put p (some (.cells [num w, num tk, num e, vb, v'] .own))) p w tk e vb (addR f' t' l) fp' ∧ Fr s (s5.put p (some (.cells [num w, num tk, num e, vb, v'] .own))) (p :: fv) ∧ Nw s (p :: fv) fp' := by
          intro v' s5 f5 q4 hfr5 hnn
          have hpf : p ∉ f5 := fun hm => by have := hnn p hm; simp at this; omega
          refine ⟨p :: f5, ⟨v', f5, get_put_eq rfl, q4.fr (fp' := [p]) (.put (.inl (by simp))) (by rintro b hb hm; simp at hm; subst hm; exact hpf hb), hpf, rfl, by rw [next_put]; exact Nat.lt_of_lt_of_le h5 hfr5.1⟩, .put' (.inl (by simp)) (hfr5.mono (by simp)), ?_⟩
          intro b hb
          rcases List.mem_cons.1 hb with rfl | hb
          · exact .inl (by simp)
          · right; have := hnn b hb; simpa using this
        cases d1
        · simp (disch := omega) only [vm0, vm1, vm2, vm3, vm4, vm5, vm6, vm7, fPick, fBox, fBuild, fBsl, fLd, fLda, fSt, fNilc, fBin, fEq, fUn, fMkf, fFa, fFld, fFlda, fExt, evo, wr, wrC, frame, Bool.not_true, Bool.not_false, beq_self_eq_true, List.cons_append, List.nil_append, Nat.add_zero, Nat.zero_add, Nat.reduceAdd, Nat.reduceMul, Nat.reduceSub, Bool.and_true, Bool.true_and, Bool.and_self, beq_dec, fApp, Int.toNat_natCast, Nat.sub_zero, vmI]
          refine op_app1 ho (by (repeat' (first | exact Fr.refl | assumption | apply Fr.new' | apply Fr.mk' | apply Fr.put')) <;> (first | omega | (left; simp; done) | (right; simp only [next_put, next_new, next_mk]; omega) | (simp only [next_put, next_new, next_mk]; omega))) (x := (f1, t1)) rfl (by omega) ?_
          intro v' s4 fo' q1 q2 q3
          have hfr4 := hfr.nn q2 hn
          have hp5 := (hfr4.get h5 (by simp)).trans h1
          simp (disch := omega) only [vm0, vm1, vm2, vm3, vm4, vm5, vm6, vm7, fPick, fBox, fBuild, fBsl, fLd, fLda, fSt, fNilc, fBin, fEq, fUn, fMkf, fFa, fFld, fFlda, fExt, evo, wr, wrC, frame, Bool.not_true, Bool.not_false, beq_self_eq_true, List.cons_append, List.nil_append, Nat.add_zero, Nat.zero_add, Nat.reduceAdd, Nat.reduceMul, Nat.reduceSub, Bool.and_true, Bool.true_and, Bool.and_self, beq_dec, fApp, Int.toNat_natCast, Nat.sub_zero, vmI, hp5, q1.cells]
          exact fin v' s4 fo' (by rw [← hpa]; exact q1) hfr4 (hn.nn q3 hfr.1)
        · simp (disch := omega) only [vm0, vm1, vm2, vm3, vm4, vm5, vm6, vm7, fPick, fBox, fBuild, fBsl, fLd, fLda, fSt, fNilc, fBin, fEq, fUn, fMkf, fFa, fFld, fFlda, fExt, evo, wr, wrC, frame, Bool.not_true, Bool.not_false, beq_self_eq_true, List.cons_append, List.nil_append, Nat.add_zero, Nat.zero_add, Nat.reduceAdd, Nat.reduceMul, Nat.reduceSub, Bool.and_true, Bool.true_and, Bool.and_self, beq_dec, fApp, Int.toNat_natCast, Nat.sub_zero, vmI, hp1, ho.cells]
          exact fin vo s1 fo (by rw [← hpa]; exact ho) hfr hn
  · rw [if_neg hgo]
    simp (disch := omega) only [vm0, vm1, vm2, vm3, vm4, vm5, vm6, vm7, fPick, fBox, fBuild, fBsl, fLd, fLda, fSt, fNilc, fBin, fEq, fUn, fMkf, fFa, fFld, fFlda, fExt, evo, wr, wrC, frame, Bool.not_true, Bool.not_false, beq_self_eq_true, List.cons_append, List.nil_append, Nat.add_zero, Nat.zero_add, Nat.reduceAdd, Nat.reduceMul, Nat.reduceSub, Bool.and_true, Bool.true_and, Bool.and_self, beq_dec, fApp, Int.toNat_natCast, Nat.sub_zero]
    exact ⟨_, hF0, .refl, .refl⟩
theorem q_has4 (n : Nat) (s : St) (p : Nat) (w tk e : Int) (vb : AV) (l : List R) (fp : List Nat) (f t : Int) (hF : IsK s p w tk e vb l fp) (hlen : l.length < fu) (hf : l.length < 100000) :
    OutOk (callF bd (tab h).get fu (n + 1) 109 [.ptr p 4, num f, num t] s) (fun x s' => Is x (.bool (hasR f t l)) ∧ Fr s s' []) := by
  refine call_code (t109 h) rfl ?_
  obtain ⟨v, fv, h1, h2, h3, rfl, h5⟩ := hF
  by_cases hft : t ≤ f
  · simp (disch := omega) only [vm0, vm1, vm2, vm3, vm4, vm5, vm6, vm7, fPick, fBox, fBuild, fBsl, fLd, fLda, fSt, fNilc, fBin, fEq, fUn, fMkf, fFa, fFld, fFlda, fExt, evo, wr, wrC, frame, Bool.not_true, Bool.not_false, beq_self_eq_true, List.cons_append, List.nil_append, Nat.add_zero, Nat.zero_add, Nat.reduceAdd, Nat.reduceMul, Nat.reduceSub, Bool.and_true, Bool.true_and, Bool.and_self, beq_dec, fApp, Int.toNat_natCast, Nat.sub_zero, vmI, vc109]
    exact ⟨by show AV.bool _ = AV.bool _; simp [hasR, hft], .refl⟩
  · simp (disch := omega) only [vm0, vm1, vm2, vm3, vm4, vm5, vm6, vm7, fPick, fBox, fBuild, fBsl, fLd, fLda, fSt, fNilc, fBin, fEq, fUn, fMkf, fFa, fFld, fFlda, fExt, evo, wr, wrC, frame, Bool.not_true, Bool.not_false, beq_self_eq_true, List.cons_append, List.nil_append, Nat.add_zero, Nat.zero_add, Nat.reduceAdd, Nat.reduceMul, Nat.reduceSub, Bool.and_true, Bool.true_and, Bool.and_self, beq_dec, fApp, Int.toNat_natCast, Nat.sub_zero, vmI, vc109, h1, h2.rd.lenV]
    refine x_loop (fun m F s' => ∃ i : Nat, ∃ z x4 x7 x9, m = l.length - i ∧ i ≤ l.length ∧ z = (i : Int) ∧ F = [some (.ptr p 4), some (num f), some (num t), some (num z), x4, some (.bool false), some (num (l.length : Int)), x7, some v, x9, some (.bool false)] ∧ Fr s s' [] ∧ (l.take i).any (has1 f t) = false) l.length (by omega) ?_ ?_
    · exact ⟨0, _, _, _, _, by omega, by omega, rfl, rfl, .refl, by simp⟩
    · rintro m F s1 ⟨i, _, x4, x7, x9, rfl, hi, rfl, rfl, hfr, hno⟩ hm
      have hv1 := h2.fr0 hfr
      by_cases hlt : i < l.length
      · obtain ⟨⟨a, b⟩, hx⟩ : ∃ x, l[i]? = some x := ⟨_, List.getElem?_eq_getElem hlt⟩
        have e1 := hv1.rd.ia hx
        have e2 := hv1.rd.at hx
        have hbl := hv1.rd.blk' hx
        have ht : l.take (i + 1) = l.take i ++ [(a, b)] := by rw [List.take_add_one, hx]; rfl
        by_cases c : a ≤ f ∧ t ≤ b
        · obtain ⟨c1, c2⟩ := c
          simp (disch := omega) only [vm0, vm1, vm2, vm3, vm4, vm5, vm6, vm7, fPick, fBox, fBuild, fBsl, fLd, fLda, fSt, fNilc, fBin, fEq, fUn, fMkf, fFa, fFld, fFlda, fExt, evo, wr, wrC, frame, Bool.not_true, Bool.not_false, beq_self_eq_true, List.cons_append, List.nil_append, Nat.add_zero, Nat.zero_add, Nat.reduceAdd, Nat.reduceMul, Nat.reduceSub, Bool.and_true, Bool.true_and, Bool.and_self, beq_dec, fApp, Int.toNat_natCast, Nat.sub_zero, vmI, e1, e2, encR]
          refine ⟨?_, hfr.trans (fp1 := []) (by (repeat' (first | exact Fr.refl | assumption | apply Fr.new' | apply Fr.mk' | apply Fr.put')) <;> (first | omega | (left; simp; done) | (right; simp only [next_put, next_new, next_mk]; omega) | (simp only [next_put, next_new, next_mk]; omega))) (by simp) (by simp)⟩
          show AV.bool _ = AV.bool _
          have : l.any (has1 f t) = true := List.any_eq_true.2 ⟨(a, b), List.mem_of_getElem? hx, by simp [has1, c1, c2]⟩
          simp [hasR, this]
        · have hh : has1 f t (a, b) = false := by simp only [has1, Bool.and_eq_false_imp, decide_eq_true_eq, decide_eq_false_iff_not]; omega
          have fin : ∀ s2, Fr s1 s2 [] → ∀ x4' x7' x9', ∃ j, j < l.length - i ∧ ∃ i' : Nat, ∃ z x4 x7 x9, j = l.length - i' ∧ i' ≤ l.length ∧ z = (i' : Int) ∧ [some (.ptr p 4), some (num f), some (num t), some (num ((i : Int) + 1)), x4', some (.bool false), some (num (l.length : Int)), x7', some v, x9', some (.bool false)] = [some (.ptr p 4), some (num f), some (num t), some (num z), x4, some (.bool false), some (num (l.length : Int)), x7, some v, x9, some (.bool false)] ∧ Fr s s2 [] ∧ (l.take i').any (has1 f t) = false := fun s2 q x4' x7' x9' =>
            ⟨l.length - (i + 1), by omega, i + 1, (i : Int) + 1, _, _, _, rfl, by omega, by omega, rfl, hfr.trans q (by simp) (by simp), by rw [ht, List.any_append, hno]; simp [hh]⟩
          by_cases c1 : a ≤ f
          · simp (disch := omega) only [vm0, vm1, vm2, vm3, vm4, vm5, vm6, vm7, fPick, fBox, fBuild, fBsl, fLd, fLda, fSt, fNilc, fBin, fEq, fUn, fMkf, fFa, fFld, fFlda, fExt, evo, wr, wrC, frame, Bool.not_true, Bool.not_false, beq_self_eq_true, List.cons_append, List.nil_append, Nat.add_zero, Nat.zero_add, Nat.reduceAdd, Nat.reduceMul, Nat.reduceSub, Bool.and_true, Bool.true_and, Bool.and_self, beq_dec, fApp, Int.toNat_natCast, Nat.sub_zero, vmI, e1, e2, encR]
            exact fin _ (by (repeat' (first | exact Fr.refl | assumption | apply Fr.new' | apply Fr.mk' | apply Fr.put')) <;> (first | omega | (left; simp; done) | (right; simp only [next_put, next_new, next_mk]; omega) | (simp only [next_put, next_new, next_mk]; omega))) _ _ _
          · simp (disch := omega) only [vm0, vm1, vm2, vm3, vm4, vm5, vm6, vm7, fPick, fBox, fBuild, fBsl, fLd, fLda, fSt, fNilc, fBin, fEq, fUn, fMkf, fFa, fFld, fFlda, fExt, evo, wr, wrC, frame, Bool.not_true, Bool.not_false, beq_self_eq_true, List.cons_append, List.nil_append, Nat.add_zero, Nat.zero_add, Nat.reduceAdd, Nat.reduceMul, Nat.reduceSub, Bool.and_true, Bool.true_and, Bool.and_self, beq_dec, fApp, Int.toNat_natCast, Nat.sub_zero, vmI, e1, e2, encR]
            exact fin _ (by (repeat' (first | exact Fr.refl | assumption | apply Fr.new' | apply Fr.mk' | apply Fr.put')) <;> (first | omega | (left; simp; done) | (right; simp only [next_put, next_new, next_mk]; omega) | (simp only [next_put, next_new, next_mk]; omega))) _ _ _
      · simp (disch := omega) only [vm0, vm1, vm2, vm3, vm4, vm5, vm6, vm7, fPick, fBox, fBuild, fBsl, fLd, fLda, fSt, fNilc, fBin, fEq, fUn, fMkf, fFa, fFld, fFlda, fExt, evo, wr, wrC, frame, Bool.not_true, Bool.not_false, beq_self_eq_true, List.cons_append, List.nil_append, Nat.add_zero, Nat.zero_add, Nat.reduceAdd, Nat.reduceMul, Nat.reduceSub, Bool.and_true, Bool.true_and, Bool.and_self, beq_dec, fApp, Int.toNat_natCast, Nat.sub_zero, vmI]
        refine ⟨?_, hfr⟩
        show AV.bool _ = AV.bool _
        rw [List.take_of_length_le (by omega)] at hno
        simp [hasR, hft, hno]
theorem q_front4 (n : Nat) (s : St) (p : Nat) (w tk e : Int) (vb : AV) (l : List R) (fp : List Nat) (hF : IsK s p w tk e vb l fp) :
    OutOk (callF bd (tab h).get fu (n + 1) 132 [.ptr p 4] s) (fun x s' => Is x (num (frontR l)) ∧ Is s' s) := by
  refine call_code (t132 h) rfl ?_
  obtain ⟨v, fv, h1, h2, h3, rfl, h5⟩ := hF
  cases l with
  | nil =>
    simp (disch := omega) only [vm0, vm1, vm2, vm3, vm4, vm5, vm6, vm7, fPick, fBox, fBuild, fBsl, fLd, fLda, fSt, fNilc, fBin, fEq, fUn, fMkf, fFa, fFld, fFlda, fExt, evo, wr, wrC, frame, Bool.not_true, Bool.not_false, beq_self_eq_true, List.cons_append, List.nil_append, Nat.add_zero, Nat.zero_add, Nat.reduceAdd, Nat.reduceMul, Nat.reduceSub, Bool.and_true, Bool.true_and, Bool.and_self, beq_dec, fApp, Int.toNat_natCast, Nat.sub_zero, vc132, h1, h2.rd.lenV, List.length_nil]
    exact ⟨rfl, rfl⟩
  | cons r l =>
    have hx : (r :: l)[0]? = some r := rfl
    have e1 := h2.rd.ia hx
    have e2 := h2.rd.at hx
    have hb := h2.rd.blk' hx
    obtain ⟨a, b⟩ := r
    have hl : 0 < ((a, b) :: l).length := by simp
    simp only [Int.natCast_zero, Nat.zero_mul, Nat.add_zero] at e1 e2
    have e3 : ob (s.heap.get (sblk v)) (rd1C (soff v)) = some (num a) := by
      obtain ⟨c, k, q1, q2⟩ := rd_sub (s := s) (b := sblk v) (o := soff v) (n := 2) e2
      obtain ⟨q3, q4⟩ := sub_some q2
      rw [q1]
      show nth c (soff v) = _
      rw [nth_eq]
      have : ((c.drop (soff v)).take 2)[0]? = some (num a) := by rw [← q4]; rfl
      rw [List.getElem?_take, if_pos (by omega), List.getElem?_drop] at this
      simpa using this
    have e4 : ob (s.heap.get (sblk v)) (rd1C (soff v + 1)) = some (num b) := by
      obtain ⟨c, k, q1, q2⟩ := rd_sub (s := s) (b := sblk v) (o := soff v) (n := 2) e2
      obtain ⟨q3, q4⟩ := sub_some q2
      rw [q1]
      show nth c (soff v + 1) = _
      rw [nth_eq]
      have : ((c.drop (soff v)).take 2)[1]? = some (num b) := by rw [← q4]; rfl
      rw [List.getElem?_take, if_pos (by omega), List.getElem?_drop] at this
      simpa using this
    by_cases h0 : a = 0
    · simp (disch := omega) only [vm0, vm1, vm2, vm3, vm4, vm5, vm6, vm7, fPick, fBox, fBuild, fBsl, fLd, fLda, fSt, fNilc, fBin, fEq, fUn, fMkf, fFa, fFld, fFlda, fExt, evo, wr, wrC, frame, Bool.not_true, Bool.not_false, beq_self_eq_true, List.cons_append, List.nil_append, Nat.add_zero, Nat.zero_add, Nat.reduceAdd, Nat.reduceMul, Nat.reduceSub, Bool.and_true, Bool.true_and, Bool.and_self, beq_dec, fApp, Int.toNat_natCast, Nat.sub_zero, vc132, h1, h2.rd.lenV, e1, e3, e4]
      exact ⟨by show num _ = num _; simp [frontR, h0], rfl⟩
    · simp (disch := omega) only [vm0, vm1, vm2, vm3, vm4, vm5, vm6, vm7, fPick, fBox, fBuild, fBsl, fLd, fLda, fSt, fNilc, fBin, fEq, fUn, fMkf, fFa, fFld, fFlda, fExt, evo, wr, wrC, frame, Bool.not_true, Bool.not_false, beq_self_eq_true, List.cons_append, List.nil_append, Nat.add_zero, Nat.zero_add, Nat.reduceAdd, Nat.reduceMul, Nat.reduceSub, Bool.and_true, Bool.true_and, Bool.and_self, beq_dec, fApp, Int.toNat_natCast, Nat.sub_zero, vc132, h1, h2.rd.lenV, e1, e3, e4]
      exact ⟨by show num _ = num _; simp [frontR, h0], rfl⟩
end
end Go.Proofs.Ytekhpohcjfjhfaa.ctr
namespace Go.Proofs.Ytekhpohcjfjhfaa.ctr
open Go.Vm Go.RowKit Go.Ranges
set_option linter.unusedVariables false
set_option linter.constructorNameAsVariable false
set_option linter.unusedSimpArgs false
/-! ## the reference's inbox -/
/-- its end as it is kept -/
def eN (i : IB) : Int := if i.kn then i.e else -1
def IsJ (s : St) (p : Nat) (i : IB) (fp : List Nat) : Prop := ∃ v fv u fu, s.heap.get p = some (.cells [num i.w, num i.tk, num (eN i), v, u] .own) ∧ OwE s v 1 encB i.b fv ∧ OwE s u 2 encR i.l fu ∧ p ∉ fv ∧ p ∉ fu ∧ (∀ b ∈ fv, b ∉ fu) ∧ fp = p :: (fv ++ fu) ∧ p < s.next
theorem IsJ.fr {s s' : St} {p : Nat} {i : IB} {fp fp' : List Nat} (hF : IsJ s p i fp) (hf : Fr s s' fp') (hd : ∀ b ∈ fp, b ∉ fp') : IsJ s' p i fp := by
  obtain ⟨v, fv, u, fu, h1, h2, h3, h4, h5, h6, rfl, h7⟩ := hF
  exact ⟨v, fv, u, fu, (hf.2 p h7 (hd p (by simp))).trans h1, h2.fr hf fun b hb => hd b (by simp [hb]), h3.fr hf fun b hb => hd b (by simp [hb]), h4, h5, h6, rfl, Nat.lt_of_lt_of_le h7 hf.1⟩
theorem IsJ.lt {s : St} {p : Nat} {i : IB} {fp : List Nat} (hF : IsJ s p i fp) : Lt s fp := by
  obtain ⟨v, fv, u, fu, h1, h2, h3, h4, h5, h6, rfl, h7⟩ := hF
  intro b hb
  rcases List.mem_cons.1 hb with rfl | hb
  · exact h7
  · rcases List.mem_append.1 hb with hb | hb
    · exact h2.lt b hb
    · exact h3.lt b hb
def oJ (p : Nat) (i : IB) : Obj := ⟨fun s fp => IsJ s p i fp, IsJ.fr, IsJ.lt⟩
theorem IsJ.setB {s s' : St} {p : Nat} {i : IB} {v v' u : AV} {fv fv' fu : List Nat} {b' : List Int} (h1 : s.heap.get p = some (.cells [num i.w, num i.tk, num (eN i), v, u] .own)) (h3 : OwE s u 2 encR i.l fu) (h4 : p ∉ fv) (h5 : p ∉ fu) (h6 : ∀ b ∈ fv, b ∉ fu) (h7 : p < s.next)
    (k1 : OwE s' v' 1 encB b' fv') (k2 : Fr s s' fv) (k3 : Nw s fv fv') :
    IsJ (s'.put p (some (.cells [num i.w, num i.tk, num (eN i), v', u] .own))) p { i with b := b' } (p :: (fv' ++ fu)) ∧ Fr s (s'.put p (some (.cells [num i.w, num i.tk, num (eN i), v', u] .own))) (p :: (fv ++ fu)) ∧ Nw s (p :: (fv ++ fu)) (p :: (fv' ++ fu)) := by
  have hpf : p ∉ fv' := k3.not h4 h7
  have hd : ∀ b ∈ fv', b ∉ fu := fun b hb hm => by
    rcases k3 b hb with h | h
    · exact h6 b h hm
    · have := h3.lt b hm; omega
  refine ⟨⟨v', fv', u, fu, get_put_eq rfl, k1.fr (fp' := [p]) (.put (.inl (by simp))) (by rintro b hb hm; simp at hm; subst hm; exact hpf hb), (h3.fr k2 (fun b hb hm => h6 b hm hb)).fr (fp' := [p]) (.put (.inl (by simp))) (by rintro b hb hm; simp at hm; subst hm; exact h5 hb), hpf, h5, hd, rfl, by rw [next_put]; exact Nat.lt_of_lt_of_le h7 k2.1⟩, ?_, ?_⟩
  · exact .put' (.inl (by simp)) (k2.mono fun b hb _ => by simp [hb])
  · refine Nw.cons (s' := s) ?_ (Nat.le_refl _)
    intro b hb
    rcases List.mem_append.1 hb with hb | hb
    · rcases k3 b hb with h | h
      · exact .inl (by simp [h])
      · exact .inr h
    · exact .inl (by simp [hb])
section
variable {bd : Bd} {h : VF} {fu : Nat}
theorem j_limit (n : Nat) (s : St) (p : Nat) (i : IB) (fp : List Nat) (hF : IsJ s p i fp) (hi : i.Ok) : OutOk (callF bd (tab h).get fu (n + 1) 108 [.ptr p 0] s) (fun x s' => Is x (num i.limit) ∧ Is s' s) := by
  refine call_code (t108 h) rfl ?_
  obtain ⟨v, fv, u, fu', h1, h2, h3, h4, h5, h6, rfl, h7⟩ := hF
  obtain ⟨i1, i2, i3, i4, i5, i6⟩ := hi
  simp (disch := omega) only [vm0, vm1, vm2, vm3, vm4, vm5, vm6, vm7, fPick, fBox, fBuild, fBsl, fLd, fLda, fSt, fNilc, fBin, fEq, fUn, fMkf, fFa, fFld, fFlda, fExt, evo, wr, wrC, frame, Bool.not_true, Bool.not_false, beq_self_eq_true, List.cons_append, List.nil_append, Nat.add_zero, Nat.zero_add, Nat.reduceAdd, Nat.reduceMul, Nat.reduceSub, Bool.and_true, Bool.true_and, Bool.and_self, beq_dec, fApp, Int.toNat_natCast, Nat.sub_zero, vmI, vc108, h1]
  exact ⟨rfl, rfl⟩
theorem j_front (n : Nat) (s : St) (p : Nat) (i : IB) (fp : List Nat) (hF : IsJ s p i fp) : OutOk (callF bd (tab h).get fu (n + 2) 121 [.ptr p 0] s) (fun x s' => Is x (num (frontR i.l)) ∧ Is s' s) := by
  refine call_code (t121 h) rfl ?_
  obtain ⟨v, fv, u, fu', h1, h2, h3, h4, h5, h6, rfl, h7⟩ := hF
  simp (disch := omega) only [vm0, vm1, vm2, vm3, vm4, vm5, vm6, vm7, fPick, fBox, fBuild, fBsl, fLd, fLda, fSt, fNilc, fBin, fEq, fUn, fMkf, fFa, fFld, fFlda, fExt, evo, wr, wrC, frame, Bool.not_true, Bool.not_false, beq_self_eq_true, List.cons_append, List.nil_append, Nat.add_zero, Nat.zero_add, Nat.reduceAdd, Nat.reduceMul, Nat.reduceSub, Bool.and_true, Bool.true_and, Bool.and_self, beq_dec, fApp, Int.toNat_natCast, Nat.sub_zero, vmI, vc121]
  refine call_ok rfl rfl (q_front4 n s p i.w i.tk (eN i) v i.l (p :: fu') ⟨u, fu', h1, h3, h5, rfl, h7⟩) ?_
  rintro x s1 ⟨rfl, rfl⟩
  simp (disch := omega) only [vm0, vm1, vm2, vm3, vm4, vm5, vm6, vm7, fPick, fBox, fBuild, fBsl, fLd, fLda, fSt, fNilc, fBin, fEq, fUn, fMkf, fFa, fFld, fFlda, fExt, evo, wr, wrC, frame, Bool.not_true, Bool.not_false, beq_self_eq_true, List.cons_append, List.nil_append, Nat.add_zero, Nat.zero_add, Nat.reduceAdd, Nat.reduceMul, Nat.reduceSub, Bool.and_true, Bool.true_and, Bool.and_self, beq_dec, fApp, Int.toNat_natCast, Nat.sub_zero, vmI]
  exact ⟨rfl, rfl⟩
theorem j_ready (n : Nat) (s : St) (p : Nat) (i : IB) (fp : List Nat) (hF : IsJ s p i fp) (hi : i.Ok) (hfr : 0 ≤ frontR i.l ∧ frontR i.l ≤ far) : OutOk (callF bd (tab h).get fu (n + 3) 107 [.ptr p 0] s) (fun x s' => Is x (num i.ready) ∧ Is s' s) := by
  refine call_code (t107 h) rfl ?_
  have hF0 := hF
  obtain ⟨v, fv, u, fu', h1, h2, h3, h4, h5, h6, rfl, h7⟩ := hF
  obtain ⟨i1, i2, i3, i4, i5, i6⟩ := hi
  simp only [far] at hfr
  simp (disch := omega) only [vm0, vm1, vm2, vm3, vm4, vm5, vm6, vm7, fPick, fBox, fBuild, fBsl, fLd, fLda, fSt, fNilc, fBin, fEq, fUn, fMkf, fFa, fFld, fFlda, fExt, evo, wr, wrC, frame, Bool.not_true, Bool.not_false, beq_self_eq_true, List.cons_append, List.nil_append, Nat.add_zero, Nat.zero_add, Nat.reduceAdd, Nat.reduceMul, Nat.reduceSub, Bool.and_true, Bool.true_and, Bool.and_self, beq_dec, fApp, Int.toNat_natCast, Nat.sub_zero, vmI, vc107]
  refine call_ok rfl rfl (j_front n s p i _ hF0) ?_
  rintro x s1 ⟨rfl, rfl⟩
  simp (disch := omega) only [vm0, vm1, vm2, vm3, vm4, vm5, vm6, vm7, fPick, fBox, fBuild, fBsl, fLd, fLda, fSt, fNilc, fBin, fEq, fUn, fMkf, fFa, fFld, fFlda, fExt, evo, wr, wrC, frame, Bool.not_true, Bool.not_false, beq_self_eq_true, List.cons_append, List.nil_append, Nat.add_zero, Nat.zero_add, Nat.reduceAdd, Nat.reduceMul, Nat.reduceSub, Bool.and_true, Bool.true_and, Bool.and_self, beq_dec, fApp, Int.toNat_natCast, Nat.sub_zero, vmI, h1]
  exact ⟨rfl, rfl⟩
theorem j_done (n : Nat) (s : St) (p : Nat) (i : IB) (fp : List Nat) (hF : IsJ s p i fp) (he : 0 ≤ i.e) : OutOk (callF bd (tab h).get fu (n + 1) 111 [.ptr p 0] s) (fun x s' => Is x (.bool i.done) ∧ Is s' s) := by
  refine call_code (t111 h) rfl ?_
  obtain ⟨v, fv, u, fu', h1, h2, h3, h4, h5, h6, rfl, h7⟩ := hF
  cases hk : i.kn
  · have hN : eN i = -1 := by simp [eN, hk]
    rw [hN] at h1
    simp (disch := omega) only [vm0, vm1, vm2, vm3, vm4, vm5, vm6, vm7, fPick, fBox, fBuild, fBsl, fLd, fLda, fSt, fNilc, fBin, fEq, fUn, fMkf, fFa, fFld, fFlda, fExt, evo, wr, wrC, frame, Bool.not_true, Bool.not_false, beq_self_eq_true, List.cons_append, List.nil_append, Nat.add_zero, Nat.zero_add, Nat.reduceAdd, Nat.reduceMul, Nat.reduceSub, Bool.and_true, Bool.true_and, Bool.and_self, beq_dec, fApp, Int.toNat_natCast, Nat.sub_zero, vmI, vc111, vmU, h1]
    exact ⟨by show AV.bool _ = AV.bool _; simp [IB.done, hk], rfl⟩
  · have hN : eN i = i.e := by simp [eN, hk]
    rw [hN] at h1
    simp (disch := omega) only [vm0, vm1, vm2, vm3, vm4, vm5, vm6, vm7, fPick, fBox, fBuild, fBsl, fLd, fLda, fSt, fNilc, fBin, fEq, fUn, fMkf, fFa, fFld, fFlda, fExt, evo, wr, wrC, frame, Bool.not_true, Bool.not_false, beq_self_eq_true, List.cons_append, List.nil_append, Nat.add_zero, Nat.zero_add, Nat.reduceAdd, Nat.reduceMul, Nat.reduceSub, Bool.and_true, Bool.true_and, Bool.and_self, beq_dec, fApp, Int.toNat_natCast, Nat.sub_zero, vmI, vc111, vmU, h1]
    exact ⟨by show AV.bool _ = AV.bool _; simp [IB.done, hk], rfl⟩
theorem j_seen (n : Nat) (s : St) (p : Nat) (i : IB) (fp : List Nat) (hF : IsJ s p i fp) (hi : i.Ok) (hle : i.kn = true → frontR i.l ≤ i.e) : OutOk (callF bd (tab h).get fu (n + 3) 110 [.ptr p 0] s) (fun x s' => Is x (num i.seen) ∧ Is s' s) := by
  refine call_code (t110 h) rfl ?_
  have hF0 := hF
  obtain ⟨v, fv, u, fu', h1, h2, h3, h4, h5, h6, rfl, h7⟩ := hF
  obtain ⟨i1, i2, i3, i4, i5, i6⟩ := hi
  cases hk : i.kn
  · have hN : eN i = -1 := by simp [eN, hk]
    rw [hN] at h1
    simp (disch := omega) only [vm0, vm1, vm2, vm3, vm4, vm5, vm6, vm7, fPick, fBox, fBuild, fBsl, fLd, fLda, fSt, fNilc, fBin, fEq, fUn, fMkf, fFa, fFld, fFlda, fExt, evo, wr, wrC, frame, Bool.not_true, Bool.not_false, beq_self_eq_true, List.cons_append, List.nil_append, Nat.add_zero, Nat.zero_add, Nat.reduceAdd, Nat.reduceMul, Nat.reduceSub, Bool.and_true, Bool.true_and, Bool.and_self, beq_dec, fApp, Int.toNat_natCast, Nat.sub_zero, vmI, vc110, vmU, h1]
    refine call_ok rfl rfl (j_front n s p i _ hF0) ?_
    rintro x s1 ⟨rfl, rfl⟩
    simp (disch := omega) only [vm0, vm1, vm2, vm3, vm4, vm5, vm6, vm7, fPick, fBox, fBuild, fBsl, fLd, fLda, fSt, fNilc, fBin, fEq, fUn, fMkf, fFa, fFld, fFlda, fExt, evo, wr, wrC, frame, Bool.not_true, Bool.not_false, beq_self_eq_true, List.cons_append, List.nil_append, Nat.add_zero, Nat.zero_add, Nat.reduceAdd, Nat.reduceMul, Nat.reduceSub, Bool.and_true, Bool.true_and, Bool.and_self, beq_dec, fApp, Int.toNat_natCast, Nat.sub_zero, vmI]
    exact ⟨by show num _ = num _; simp [IB.seen, hk], rfl⟩
  · have hN : eN i = i.e := by simp [eN, hk]
    rw [hN] at h1
    have hle := hle hk
    by_cases hq : frontR i.l = i.e
    · simp (disch := omega) only [vm0, vm1, vm2, vm3, vm4, vm5, vm6, vm7, fPick, fBox, fBuild, fBsl, fLd, fLda, fSt, fNilc, fBin, fEq, fUn, fMkf, fFa, fFld, fFlda, fExt, evo, wr, wrC, frame, Bool.not_true, Bool.not_false, beq_self_eq_true, List.cons_append, List.nil_append, Nat.add_zero, Nat.zero_add, Nat.reduceAdd, Nat.reduceMul, Nat.reduceSub, Bool.and_true, Bool.true_and, Bool.and_self, beq_dec, fApp, Int.toNat_natCast, Nat.sub_zero, vmI, vc110, h1]
      refine call_ok rfl rfl (j_front n s p i _ hF0) ?_
      rintro x s1 ⟨rfl, rfl⟩
      simp (disch := omega) only [vm0, vm1, vm2, vm3, vm4, vm5, vm6, vm7, fPick, fBox, fBuild, fBsl, fLd, fLda, fSt, fNilc, fBin, fEq, fUn, fMkf, fFa, fFld, fFlda, fExt, evo, wr, wrC, frame, Bool.not_true, Bool.not_false, beq_self_eq_true, List.cons_append, List.nil_append, Nat.add_zero, Nat.zero_add, Nat.reduceAdd, Nat.reduceMul, Nat.reduceSub, Bool.and_true, Bool.true_and, Bool.and_self, beq_dec, fApp, Int.toNat_natCast, Nat.sub_zero, vmI, h1]
      exact ⟨by show num _ = num _; simp [IB.seen, hk, hq], rfl⟩
    · simp (disch := omega) only [vm0, vm1, vm2, vm3, vm4, vm5, vm6, vm7, fPick, fBox, fBuild, fBsl, fLd, fLda, fSt, fNilc, fBin, fEq, fUn, fMkf, fFa, fFld, fFlda, fExt, evo, wr, wrC, frame, Bool.not_true, Bool.not_false, beq_self_eq_true, List.cons_append, List.nil_append, Nat.add_zero, Nat.zero_add, Nat.reduceAdd, Nat.reduceMul, Nat.reduceSub, Bool.and_true, Bool.true_and, Bool.and_self, beq_dec, fApp, Int.toNat_natCast, Nat.sub_zero, vmI, vc110, h1]
      refine call_ok rfl rfl (j_front n s p i _ hF0) ?_
      rintro x s1 ⟨rfl, rfl⟩
      simp (disch := omega) only [vm0, vm1, vm2, vm3, vm4, vm5, vm6, vm7, fPick, fBox, fBuild, fBsl, fLd, fLda, fSt, fNilc, fBin, fEq, fUn, fMkf, fFa, fFld, fFlda, fExt, evo, wr, wrC, frame, Bool.not_true, Bool.not_false, beq_self_eq_true, List.cons_append, List.nil_append, Nat.add_zero, Nat.zero_add, Nat.reduceAdd, Nat.reduceMul, Nat.reduceSub, Bool.and_true, Bool.true_and, Bool.and_self, beq_dec, fApp, Int.toNat_natCast, Nat.sub_zero, vmI, h1]
      refine call_ok rfl rfl (j_front n s1 p i _ hF0) ?_
      rintro x s2 ⟨rfl, rfl⟩
      simp (disch := omega) only [vm0, vm1, vm2, vm3, vm4, vm5, vm6, vm7, fPick, fBox, fBuild, fBsl, fLd, fLda, fSt, fNilc, fBin, fEq, fUn, fMkf, fFa, fFld, fFlda, fExt, evo, wr, wrC, frame, Bool.not_true, Bool.not_false, beq_self_eq_true, List.cons_append, List.nil_append, Nat.add_zero, Nat.zero_add, Nat.reduceAdd, Nat.reduceMul, Nat.reduceSub, Bool.and_true, Bool.true_and, Bool.and_self, beq_dec, fApp, Int.toNat_natCast, Nat.sub_zero, vmI]
      exact ⟨by show num _ = num _; simp [IB.seen, hk, hq], rfl⟩
noncomputable def vc77w : VC := (.seq (.block 2 (.loop vc77_1)) vc77_2)
theorem vc77_3_eq : vc77_3 = (.seq (.reg [.i (.ia 1 (.w 11) (.w 5)), .i (.ld (.t 0))] [(12, (.w 5)), (15, (.t 0))]) (.seq (.reg [.i (.bin .add (.w 1) (.w 12))] [(4, (.t 0))]) (.seq (.seq (.reg [.i (.bin .gtr (.w 1) (.c (.int .i64 (.c 8192)))), .g (.t 0) false (.mv (.w 4)), .g (.t 1) false (.bin .lss (.t 0) (.c (.int .i64 (.c 0)))), .i (.pick (.t 2) (.c (.bool true)) (.t 0)), .g (.t 0) false (.mv (.w 4)), .g (.t 1) false (.mv (.w 0)), .g (.t 2) false (.call (.c (.fn 108 [] [])) [(.t 0)]), .g (.t 3) false (.bin .geq (.t 2) (.t 0)), .i (.pick (.t 4) (.c (.bool true)) (.t 0)), .g (.t 0) false (.mv (.w 0)), .g (.t 1) false (.nilc (.t 0)), .g (.t 2) false (.fa 2 (.t 0)), .g (.t 3) false (.ld (.t 0)), .g (.t 4) false (.bin .geq (.t 0) (.c (.int .i64 (.c 0)))), .g (.t 5) false (.mv (.t 0)), .g (.t 0) true (.mv (.w 4)), .g (.t 1) true (.mv (.w 0)), .g (.t 2) true (.nilc (.t 0)), .g (.t 3) true (.fa 2 (.t 0)), .g (.t 4) true (.ld (.t 0)), .g (.t 5) true (.bin .geq (.t 4) (.t 0)), .g (.t 12) false (.pick (.t 6) (.t 0) (.c (.bool false))), .i (.pick (.t 13) (.c (.bool true)) (.t 0)), .g (.t 0) false (.mv (.w 0)), .g (.t 1) false (.nilc (.t 0)), .g (.t 2) false (.fa 4 (.t 0)), .g (.t 3) false (.mv (.w 4)), .g (.t 4) false (.mv (.w 4)), .g (.t 5) false (.bin .add (.t 0) (.c (.int .i64 (.c 1)))), .g (.t 6) false (.call (.c (.fn 109 [] [])) [(.t 3), (.t 2), (.t 0)]), .i (.pick (.t 7) (.c (.bool true)) (.t 0))] [(13, (.t 0))]) (.cond (.w 13) (.exit 1) .skip)) vc77w))) := rfl
theorem j_put1 (n : Nat) (s : St) (p : Nat) (i : IB) (fp : List Nat) (k : Nat) (c n1 : Int) (f1 f2 f3 f5 f6 f8 f9 f10 f11 f12 f13 f16 f17 f18 f19 f14 : Option AV) (hF : IsJ s p i fp) (hi : i.Ok) (hk : k < 3000) (hn1 : 0 ≤ n1 ∧ n1 ≤ 1000000) (hfu : 4000 < fu) :
    RsOk (exec bd (callF bd (tab h).get fu (n + 3)) fu vc77w [some (.ptr p 0), f1, f2, f3, some (num (k : Int)), f5, f6, some (num n1), f8, f9, f10, f11, f12, f13, f14, some (byt c), f16, f17, f18, f19] s) (fun e F s' => e = .normal ∧ ∃ x14 fp', F = [some (.ptr p 0), f1, f2, f3, some (num (k : Int)), f5, f6, some (num (n1 + 1)), f8, f9, f10, f11, f12, f13, x14, some (byt c), f16, f17, f18, f19] ∧ IsJ s' p (i.put1 k c) fp' ∧ Fr s s' fp ∧ Nw s fp fp') := by
  obtain ⟨i1, i2, i3, i4, i5, i6⟩ := hi
  simp (disch := omega) only [vm0, vm1, vm2, vm3, vm4, vm5, vm6, vm7, fPick, fBox, fBuild, fBsl, fLd, fLda, fSt, fNilc, fBin, fEq, fUn, fMkf, fFa, fFld, fFlda, fExt, evo, wr, wrC, frame, Bool.not_true, Bool.not_false, beq_self_eq_true, List.cons_append, List.nil_append, Nat.add_zero, Nat.zero_add, Nat.reduceAdd, Nat.reduceMul, Nat.reduceSub, Bool.and_true, Bool.true_and, Bool.and_self, beq_dec, fApp, Int.toNat_natCast, Nat.sub_zero, vmI, vc77w]
  refine x_loop (fun m F s' => ∃ j : Nat, ∃ x14 fp', m = (k + 1 - i.b.length) - j ∧ j ≤ k + 1 - i.b.length ∧ F = [some (.ptr p 0), f1, f2, f3, some (num (k : Int)), f5, f6, some (num n1), f8, f9, f10, f11, f12, f13, x14, some (byt c), f16, f17, f18, f19] ∧ IsJ s' p { i with b := i.b ++ List.replicate j 0 } fp' ∧ Fr s s' fp ∧ Nw s fp fp') (k + 1 - i.b.length) (by omega) ?_ ?_
  · exact ⟨0, _, fp, by omega, by omega, rfl, by simpa using hF, .refl, .refl⟩
  · rintro m F s1 ⟨j, x14, fp1, rfl, hj, rfl, hF1, hf1, hn1⟩ hm
    obtain ⟨v, fv, u, fq, h1, h2, h3, h4, h5, h6, rfl, h7⟩ := hF1
    have e1 := h2.rd.lenV
    simp only [List.length_append, List.length_replicate] at e1
    have heN : eN { i with b := i.b ++ List.replicate j 0 } = eN i := rfl
    rw [heN] at h1
    by_cases hlt : i.b.length + j ≤ k
    · simp (disch := omega) only [vm0, vm1, vm2, vm3, vm4, vm5, vm6, vm7, fPick, fBox, fBuild, fBsl, fLd, fLda, fSt, fNilc, fBin, fEq, fUn, fMkf, fFa, fFld, fFlda, fExt, evo, wr, wrC, frame, Bool.not_true, Bool.not_false, beq_self_eq_true, List.cons_append, List.nil_append, Nat.add_zero, Nat.zero_add, Nat.reduceAdd, Nat.reduceMul, Nat.reduceSub, Bool.and_true, Bool.true_and, Bool.and_self, beq_dec, fApp, Int.toNat_natCast, Nat.sub_zero, vmI, vc77_1, vc77_0, h1, e1]
      have hfa : Fr s1 (s1.new (.cells [.int .u8 (.c 0)] .own)) [] := .new
      refine op_app1 h2 (by (repeat' (first | exact Fr.refl | assumption | apply Fr.new' | apply Fr.mk' | apply Fr.put')) <;> (first | omega | (left; simp; done) | (right; simp only [next_put, next_new, next_mk]; omega) | (simp only [next_put, next_new, next_mk]; omega))) (x := 0) rfl (by simp; omega) ?_
      intro v' s2 fv' q1 q2 q3
      have h1' := (q2.get h7 h4).trans h1
      simp (disch := omega) only [vm0, vm1, vm2, vm3, vm4, vm5, vm6, vm7, fPick, fBox, fBuild, fBsl, fLd, fLda, fSt, fNilc, fBin, fEq, fUn, fMkf, fFa, fFld, fFlda, fExt, evo, wr, wrC, frame, Bool.not_true, Bool.not_false, beq_self_eq_true, List.cons_append, List.nil_append, Nat.add_zero, Nat.zero_add, Nat.reduceAdd, Nat.reduceMul, Nat.reduceSub, Bool.and_true, Bool.true_and, Bool.and_self, beq_dec, fApp, Int.toNat_natCast, Nat.sub_zero, vmI, h1', q1.cells]
      obtain ⟨r1, r2, r3⟩ := IsJ.setB (i := { i with b := i.b ++ List.replicate j 0 }) h1 h3 h4 h5 h6 h7 q1 q2 q3
      rw [heN] at r1 r2
      refine ⟨k + 1 - i.b.length - (j + 1), by omega, j + 1, _, _, rfl, by omega, rfl, ?_, Fr.seq hf1 hn1 r2, Nw.seq hf1 hn1 r3⟩
      have ha : i.b ++ List.replicate (j + 1) 0 = i.b ++ List.replicate j 0 ++ [0] := by rw [List.replicate_succ', List.append_assoc]
      rw [ha]
      exact r1
    · have hjk : j = k + 1 - i.b.length := by omega
      obtain ⟨b1, hb1⟩ : ∃ b1, i.b ++ List.replicate j 0 = b1 := ⟨_, rfl⟩
      rw [hb1] at h2
      have hbl : k < b1.length := by rw [← hb1]; simp; omega
      obtain ⟨x, hx⟩ : ∃ x, b1[k]? = some x := ⟨_, List.getElem?_eq_getElem hbl⟩
      have e2 := h2.rd.ia hx
      obtain ⟨s2, f2, w1, w2, w3, w4, w5⟩ := h2.set hx (j := 0) (y := byt c) (x' := c) (by omega) rfl
      rw [Nat.add_zero] at w1
      have h1' := (w3.get h7 h4).trans h1
      have h3' : OwE s2 u 2 encR i.l fq := h3.fr w3 (fun b hb hm => h6 b hm hb)
      simp only [byt] at w1
      simp (disch := omega) only [vm0, vm1, vm2, vm3, vm4, vm5, vm6, vm7, fPick, fBox, fBuild, fBsl, fLd, fLda, fSt, fNilc, fBin, fEq, fUn, fMkf, fFa, fFld, fFlda, fExt, evo, frame, Bool.not_true, Bool.not_false, beq_self_eq_true, List.cons_append, List.nil_append, Nat.add_zero, Nat.zero_add, Nat.reduceAdd, Nat.reduceMul, Nat.reduceSub, Bool.and_true, Bool.true_and, Bool.and_self, beq_dec, fApp, Int.toNat_natCast, Nat.sub_zero, vc77_1, vc77_2, h1, e1, e2, w1]
      simp (disch := omega) only [vm0, vm1, vm2, vm3, vm4, vm5, vm6, vm7, fPick, fBox, fBuild, fBsl, fLd, fLda, fSt, fNilc, fBin, fEq, fUn, fMkf, fFa, fFld, fFlda, fExt, evo, frame, Bool.not_true, Bool.not_false, beq_self_eq_true, List.cons_append, List.nil_append, Nat.add_zero, Nat.zero_add, Nat.reduceAdd, Nat.reduceMul, Nat.reduceSub, Bool.and_true, Bool.true_and, Bool.and_self, beq_dec, fApp, Int.toNat_natCast, Nat.sub_zero, h1', wr64]
      have hX := q_add4 (bd := bd) (fu := fu) (h := h) (n + 1) s2 p i.w i.tk (eN i) v i.l (p :: fq) (k : Int) ((k : Int) + 1) ⟨u, fq, h1', h3', h5, rfl, Nat.lt_of_lt_of_le h7 w3.1⟩ i1 (by omega) (by omega)
      generalize hz : (k : Int) + 1 = z at hX ⊢
      generalize hy : (k : Int) = y at hX ⊢
      refine call_ok rfl rfl hX ?_
      subst hz hy
      rintro x s3 ⟨fq', r1, r2, r3⟩
      simp (disch := omega) only [vm0, vm1, vm2, vm3, vm4, vm5, vm6, vm7, fPick, fBox, fBuild, fBsl, fLd, fLda, fSt, fNilc, fBin, fEq, fUn, fMkf, fFa, fFld, fFlda, fExt, evo, wr, wrC, frame, Bool.not_true, Bool.not_false, beq_self_eq_true, List.cons_append, List.nil_append, Nat.add_zero, Nat.zero_add, Nat.reduceAdd, Nat.reduceMul, Nat.reduceSub, Bool.and_true, Bool.true_and, Bool.and_self, beq_dec, fApp, Int.toNat_natCast, Nat.sub_zero, vmI]
      have hput : setB i.b k c = b1.set k c := by unfold setB; rw [← hb1, hjk]
      have hpe : i.put1 k c = ⟨b1.set k c, addP k (k + 1) i.l, i.w, i.tk, i.e, i.kn⟩ := by unfold IB.put1; rw [Int.toNat_natCast, hput]
      rw [hpe]
      obtain ⟨u', fu2, t1, t2, t3, rfl, t5⟩ := r1
      have t2' : OwE s3 u' 2 encR (addP k (k + 1) i.l) fu2 := t2
      generalize addP (k : Int) ((k : Int) + 1) i.l = L at *
      have w2' : OwE s3 v 1 encB (b1.set k c) f2 := w2.fr r2 (fun b hb hm => by
        rcases List.mem_cons.1 hm with rfl | hm
        · exact h4 (w5 b hb)
        · exact h6 b (w5 b hb) hm)
      have hd2 : ∀ b ∈ f2, b ∉ fu2 := fun b hb hm => by
        rcases r3 b (by simp [hm]) with h | h
        · rcases List.mem_cons.1 h with rfl | h
          · exact h4 (w5 b hb)
          · exact h6 b (w5 b hb) h
        · have := w2.lt b hb; omega
      generalize b1.set k c = B at *
      have hF3 : IsJ s3 p ⟨B, L, i.w, i.tk, i.e, i.kn⟩ (p :: (f2 ++ fu2)) := ⟨v, f2, u', fu2, t1, w2', t2', fun hm => h4 (w5 p hm), t3, hd2, rfl, t5⟩
      have g1 : Fr s1 s3 (p :: (fv ++ fq)) := (w3.mono (fp' := p :: (fv ++ fq)) (fun b hb _ => by simp [hb])).trans r2 (fun b hb _ => hb) (fun b hb _ => by
        rcases List.mem_cons.1 hb with rfl | hb
        · simp
        · simp [hb])
      have g2 : Nw s1 (p :: (fv ++ fq)) (p :: (f2 ++ fu2)) := by
        refine Nw.cons (s' := s1) ?_ (Nat.le_refl _)
        intro b hb
        rcases List.mem_append.1 hb with hb | hb
        · exact .inl (by simp [w5 b hb])
        · rcases r3 b (by simp [hb]) with h | h
          · rcases List.mem_cons.1 h with rfl | h
            · exact absurd hb t3
            · exact .inl (by simp [h])
          · exact .inr (Nat.le_trans w3.1 h)
      exact ⟨trivial, _, _, rfl, hF3, Fr.seq hf1 hn1 g1, Nw.seq hf1 hn1 g2⟩
theorem IsJ.k {s : St} {p : Nat} {i : IB} {fp : List Nat} (hF : IsJ s p i fp) : ∃ v u fu, s.heap.get p = some (.cells [num i.w, num i.tk, num (eN i), v, u] .own) ∧ IsK s p i.w i.tk (eN i) v i.l (p :: fu) := by
  obtain ⟨v, fv, u, fu', h1, h2, h3, h4, h5, h6, rfl, h7⟩ := hF
  exact ⟨v, u, fu', h1, u, fu', h1, h3, h5, rfl, h7⟩
noncomputable def vc77z : VC := (.seq (.seq (.reg [.i (.len (.w 2)), .i (.bin .add (.w 1) (.t 0))] [(6, (.t 0))]) (.seq (.reg [.g (.w 3) true (.mv (.w 1)), .g (.w 3) true (.mv (.w 2)), .g (.w 3) true (.len (.t 0)), .g (.w 3) true (.un .neg (.t 0)), .g (.w 3) true (.bin .geq (.t 3) (.t 0)), .i (.pick (.w 3) (.t 0) (.c (.bool false))), .g (.t 0) true (.mv (.w 1)), .g (.t 1) true (.bin .leq (.t 0) (.c (.int .i64 (.c 4096)))), .i (.pick (.t 2) (.t 0) (.c (.bool false))), .g (.t 0) true (.mv (.w 0)), .g (.t 1) true (.nilc (.t 0)), .g (.t 2) true (.fa 2 (.t 0)), .g (.t 3) true (.ld (.t 0)), .g (.t 4) true (.bin .lss (.t 0) (.c (.int .i64 (.c 0)))), .i (.pick (.t 5) (.t 0) (.c (.bool false))), .g (.t 0) true (.mv (.w 6)), .g (.t 1) true (.bin .geq (.t 0) (.c (.int .i64 (.c 0)))), .i (.pick (.t 2) (.t 0) (.c (.bool false))), .g (.t 0) true (.mv (.w 6)), .g (.t 1) true (.bin .leq (.t 0) (.c (.int .i64 (.c 4096)))), .i (.pick (.t 2) (.t 0) (.c (.bool false))), .g (.t 0) true (.mv (.w 6)), .g (.t 1) true (.mv (.w 17)), .g (.t 2) true (.bin .geq (.t 1) (.t 0)), .i (.pick (.t 3) (.t 0) (.c (.bool false)))] [(18, (.t 0))]) (.cond (.w 18) (.reg [.i (.nilc (.w 0)), .i (.fa 2 (.t 0)), .i (.st 1 (.t 0) (.w 6))] []) .skip))) (.seq (.reg [] [(19, (.w 7))]) .ret))
theorem vc77_5_eq : vc77_5 = (.seq (.reg [] [(17, (.c (.int .i64 (.c 0))))]) (.seq (.seq (.reg [.i (.nilc (.w 0)), .i (.fa 4 (.t 0)), .i (.fa 0 (.t 0)), .i (.ld (.t 0)), .i (.len (.t 0))] [(8, (.t 0))]) (.seq (.reg [.i (.bin .gtr (.w 8) (.c (.int .i64 (.c 0))))] [(16, (.t 0))]) (.cond (.w 16) (.reg [.i (.nilc (.w 0)), .i (.fa 4 (.t 0)), .i (.fa 0 (.t 0)), .i (.ld (.t 0)), .i (.bin .sub (.w 8) (.c (.int .i64 (.c 1)))), .i (.ia 2 (.t 1) (.t 0)), .i (.fa 1 (.t 0)), .i (.ld (.t 0))] [(17, (.t 0))]) .skip))) vc77z)) := rfl
theorem j_putE (n : Nat) (s s1 : St) (p : Nat) (i1 : IB) (fp fp1 : List Nat) (from_ : Int) (v : AV) (l : List Int) (fin : Bool) (n1 : Int) (x4 x5 x6 x8 x9 x10 x12 x13 x14 x15 x16 : Option AV) (hF1 : IsJ s1 p i1 fp1) (hi : i1.Good) (e2 : lenV v = some (num (l.length : Int))) (hl : l.length < 3000) (hf : -10000000000000 ≤ from_ ∧ from_ ≤ 10000000000000) (hf1 : Fr s s1 fp) (hn1 : Nw s fp fp1) :
    RsOk (exec bd (callF bd (tab h).get fu (n + 3)) fu vc77z [some (.ptr p 0), some (num from_), some v, some (.bool fin), x4, x5, x6, some (num n1), x8, x9, x10, some v, x12, x13, x14, x15, x16, some (num (lastR i1.l)), none, some (num 0)] s1)
      (retQ [.tmp 19] fun x s' => ∃ fp', Is x (num n1) ∧ IsJ s' p (putE i1 from_ (from_ + l.length) fin) fp' ∧ Fr s s' fp ∧ Nw s fp fp') := by
  obtain ⟨z, hz⟩ : ∃ z, from_ + (l.length : Int) = z := ⟨_, rfl⟩
  have hno : ¬ (fin = true ∧ i1.kn = false ∧ from_ ≤ 4096 ∧ 0 ≤ z ∧ z ≤ 4096 ∧ lastR i1.l ≤ z) → putE i1 from_ z fin = i1 := fun hc => if_neg hc
  rw [hz]
  have hF0 := hF1
  obtain ⟨vb, fv, u, fq, h1, h2, h3, h4, h5, h6, rfl, h7⟩ := hF1
  generalize hT : lastR i1.l = T at *
  obtain ⟨o1, o2, o3, o4, o5, o6⟩ := hi.ok
  cases fin
  · rw [hno (by simp)]
    simp (disch := omega) only [vm0, vm1, vm2, vm3, vm4, vm5, vm6, vm7, fPick, fBox, fBuild, fBsl, fLd, fLda, fSt, fNilc, fBin, fEq, fUn, fMkf, fFa, fFld, fFlda, fExt, evo, wr, wrC, frame, Bool.not_true, Bool.not_false, beq_self_eq_true, List.cons_append, List.nil_append, Nat.add_zero, Nat.zero_add, Nat.reduceAdd, Nat.reduceMul, Nat.reduceSub, Bool.and_true, Bool.true_and, Bool.and_self, beq_dec, fApp, Int.toNat_natCast, Nat.sub_zero, vmI, vc77z, e2, hz]
    exact ⟨_, rfl, hF0, hf1, hn1⟩
  · by_cases c0 : 0 ≤ z
    · have c0' : -(l.length : Int) ≤ from_ := by omega
      by_cases c1 : from_ ≤ 4096
      · cases hk : i1.kn
        · have hN : eN i1 = -1 := by simp [eN, hk]
          rw [hN] at h1
          by_cases c3 : z ≤ 4096
          · by_cases c4 : T ≤ z
            · have hyes : putE i1 from_ z true = { i1 with e := z, kn := true } := if_pos ⟨rfl, hk, c1, c0, c3, by rw [hT]; exact c4⟩
              rw [hyes]
              simp (disch := omega) only [vm0, vm1, vm2, vm3, vm4, vm5, vm6, vm7, fPick, fBox, fBuild, fBsl, fLd, fLda, fSt, fNilc, fBin, fEq, fUn, fMkf, fFa, fFld, fFlda, fExt, evo, wr, wrC, frame, Bool.not_true, Bool.not_false, beq_self_eq_true, List.cons_append, List.nil_append, Nat.add_zero, Nat.zero_add, Nat.reduceAdd, Nat.reduceMul, Nat.reduceSub, Bool.and_true, Bool.true_and, Bool.and_self, beq_dec, fApp, Int.toNat_natCast, Nat.sub_zero, vmI, vc77z, e2, hz, h1]
              exact ⟨p :: (fv ++ fq), rfl, ⟨vb, fv, u, fq, get_put_eq rfl, h2.fr (fp' := [p]) (.put (.inl (by simp))) (by rintro b hb hm; simp at hm; subst hm; exact h4 hb), h3.fr (fp' := [p]) (.put (.inl (by simp))) (by rintro b hb hm; simp at hm; subst hm; exact h5 hb), h4, h5, h6, rfl, by rw [next_put]; exact h7⟩, Fr.seq hf1 hn1 (.put (.inl (by simp))), hn1⟩
            · rw [hno (by simp [c4])]
              simp (disch := omega) only [vm0, vm1, vm2, vm3, vm4, vm5, vm6, vm7, fPick, fBox, fBuild, fBsl, fLd, fLda, fSt, fNilc, fBin, fEq, fUn, fMkf, fFa, fFld, fFlda, fExt, evo, wr, wrC, frame, Bool.not_true, Bool.not_false, beq_self_eq_true, List.cons_append, List.nil_append, Nat.add_zero, Nat.zero_add, Nat.reduceAdd, Nat.reduceMul, Nat.reduceSub, Bool.and_true, Bool.true_and, Bool.and_self, beq_dec, fApp, Int.toNat_natCast, Nat.sub_zero, vmI, vc77z, e2, hz, h1]
              exact ⟨_, rfl, hF0, hf1, hn1⟩
          · rw [hno (by simp [c3])]
            simp (disch := omega) only [vm0, vm1, vm2, vm3, vm4, vm5, vm6, vm7, fPick, fBox, fBuild, fBsl, fLd, fLda, fSt, fNilc, fBin, fEq, fUn, fMkf, fFa, fFld, fFlda, fExt, evo, wr, wrC, frame, Bool.not_true, Bool.not_false, beq_self_eq_true, List.cons_append, List.nil_append, Nat.add_zero, Nat.zero_add, Nat.reduceAdd, Nat.reduceMul, Nat.reduceSub, Bool.and_true, Bool.true_and, Bool.and_self, beq_dec, fApp, Int.toNat_natCast, Nat.sub_zero, vmI, vc77z, e2, hz, h1]
            exact ⟨_, rfl, hF0, hf1, hn1⟩
        · have hN : eN i1 = i1.e := by simp [eN, hk]
          rw [hN] at h1
          rw [hno (by simp [hk])]
          simp (disch := omega) only [vm0, vm1, vm2, vm3, vm4, vm5, vm6, vm7, fPick, fBox, fBuild, fBsl, fLd, fLda, fSt, fNilc, fBin, fEq, fUn, fMkf, fFa, fFld, fFlda, fExt, evo, wr, wrC, frame, Bool.not_true, Bool.not_false, beq_self_eq_true, List.cons_append, List.nil_append, Nat.add_zero, Nat.zero_add, Nat.reduceAdd, Nat.reduceMul, Nat.reduceSub, Bool.and_true, Bool.true_and, Bool.and_self, beq_dec, fApp, Int.toNat_natCast, Nat.sub_zero, vmI, vc77z, e2, hz, h1]
          exact ⟨_, rfl, hF0, hf1, hn1⟩
      · rw [hno (by simp [c1])]
        simp (disch := omega) only [vm0, vm1, vm2, vm3, vm4, vm5, vm6, vm7, fPick, fBox, fBuild, fBsl, fLd, fLda, fSt, fNilc, fBin, fEq, fUn, fMkf, fFa, fFld, fFlda, fExt, evo, wr, wrC, frame, Bool.not_true, Bool.not_false, beq_self_eq_true, List.cons_append, List.nil_append, Nat.add_zero, Nat.zero_add, Nat.reduceAdd, Nat.reduceMul, Nat.reduceSub, Bool.and_true, Bool.true_and, Bool.and_self, beq_dec, fApp, Int.toNat_natCast, Nat.sub_zero, vmI, vc77z, e2, hz]
        exact ⟨_, rfl, hF0, hf1, hn1⟩
    · rw [hno (by simp [c0])]
      simp (disch := omega) only [vm0, vm1, vm2, vm3, vm4, vm5, vm6, vm7, fPick, fBox, fBuild, fBsl, fLd, fLda, fSt, fNilc, fBin, fEq, fUn, fMkf, fFa, fFld, fFlda, fExt, evo, wr, wrC, frame, Bool.not_true, Bool.not_false, beq_self_eq_true, List.cons_append, List.nil_append, Nat.add_zero, Nat.zero_add, Nat.reduceAdd, Nat.reduceMul, Nat.reduceSub, Bool.and_true, Bool.true_and, Bool.and_self, beq_dec, fApp, Int.toNat_natCast, Nat.sub_zero, vmI, vc77z, e2, hz]
      exact ⟨_, rfl, hF0, hf1, hn1⟩
set_option maxHeartbeats 800000 in
theorem j_put (n : Nat) (s : St) (p : Nat) (i : IB) (fp : List Nat) (from_ : Int) (v : AV) (l : List Int) (fin : Bool) (hF : IsJ s p i fp) (hi : i.Good) (hf : -10000000000000 ≤ from_ ∧ from_ ≤ 10000000000000) (hv : RdE s v 1 encB l) (ho : vout fp v) (hl : l.length < 3000) (hfu : 4000 < fu) :
    OutOk (callF bd (tab h).get fu (n + 4) 77 [.ptr p 0, num from_, v, .bool fin] s) (fun x s' => ∃ fp', Is x (num (i.new_ from_ l)) ∧ IsJ s' p (i.put from_ l fin) fp' ∧ Fr s s' fp ∧ Nw s fp fp') := by
  refine call_code (t77 h) rfl ?_
  simp (disch := omega) only [vm0, vm1, vm2, vm3, vm4, vm5, vm6, vm7, fPick, fBox, fBuild, fBsl, fLd, fLda, fSt, fNilc, fBin, fEq, fUn, fMkf, fFa, fFld, fFlda, fExt, evo, wr, wrC, frame, Bool.not_true, Bool.not_false, beq_self_eq_true, List.cons_append, List.nil_append, Nat.add_zero, Nat.zero_add, Nat.reduceAdd, Nat.reduceMul, Nat.reduceSub, Bool.and_true, Bool.true_and, Bool.and_self, beq_dec, fApp, Int.toNat_natCast, Nat.sub_zero, vmI, vc77, hv.lenV]
  refine x_loop (fun m F s' => ∃ j : Nat, ∃ z x4 x10 x12 x13 x14 x15 fp', m = l.length - j ∧ j ≤ l.length ∧ z = (j : Int) ∧ F = [some (.ptr p 0), some (num from_), some v, some (.bool fin), x4, some (num z), none, some (num (feed i from_ (l.take j)).2.1), none, some (num (l.length : Int)), x10, some v, x12, x13, x14, x15, none, none, none, some (num 0)] ∧ IsJ s' p (feed i from_ (l.take j)).1 fp' ∧ Fr s s' fp ∧ Nw s fp fp') l.length (by omega) ?_ ?_
  · exact ⟨0, _, _, _, _, _, _, _, fp, by omega, by omega, rfl, rfl, hF, .refl, .refl⟩
  · rintro m F s1 ⟨j, _, x4, x10, x12, x13, x14, x15, fp1, rfl, hj, rfl, rfl, hF1, hf1, hn1⟩ hm
    obtain ⟨g1, g2, g3, g4, g5, g6, g7, g8⟩ := feed_good hi from_ (l.take j)
    rw [List.length_take, Nat.min_eq_left hj] at g2 g4
    have hv1 := hv.fr hf1 ho
    by_cases hlt : j < l.length
    · obtain ⟨c, hx⟩ : ∃ c, l[j]? = some c := ⟨_, List.getElem?_eq_getElem hlt⟩
      have hft := feed_take (i := i) (from_ := from_) hx
      obtain ⟨⟨i1, n1, a1⟩, hq⟩ : ∃ q, feed i from_ (l.take j) = q := ⟨_, rfl⟩
      rw [hq] at hF1 g1 g2 g3 g4 g5 g6 g7 g8 hft
      rw [hq]
      dsimp only at hF1 g1 g2 g3 g4 g5 g6 g7 g8
      have e1 := hv1.ia hx
      have e2 : ob (s1.heap.get (sblk v)) (rd1C (soff v + j * 1)) = some (byt c) := rd_1 (hv1.at hx)
      have e3 := hv1.blk' hx
      have hok := g1.ok
      have hsum : from_ + (j : Int) = a1 := by omega
      obtain ⟨vb, u, fq, h1, hK⟩ := hF1.k
      have hlm := g1.lim
      obtain ⟨o1, o2, o3, o4, o5, o6⟩ := hok
      have skip : i1.may a1 = false → fd (i1, n1, a1) c = (i1, n1, a1 + 1) := fun hmay => if_neg (by simp [hmay])
      have hmd : i1.may a1 = (decide (0 ≤ a1) && decide (a1 < i1.limit) && (!i1.kn || decide (a1 < i1.e)) && !hasR a1 (a1 + 1) i1.l) := rfl
      by_cases c1 : 8192 < from_
      · rw [skip (by rw [hmd, decide_eq_false (show ¬ a1 < i1.limit by unfold IB.limit; omega)]; simp)] at hft
        simp (disch := omega) only [vm0, vm1, vm2, vm3, vm4, vm5, vm6, vm7, fPick, fBox, fBuild, fBsl, fLd, fLda, fSt, fNilc, fBin, fEq, fUn, fMkf, fFa, fFld, fFlda, fExt, evo, wr, wrC, frame, Bool.not_true, Bool.not_false, beq_self_eq_true, List.cons_append, List.nil_append, Nat.add_zero, Nat.zero_add, Nat.reduceAdd, Nat.reduceMul, Nat.reduceSub, Bool.and_true, Bool.true_and, Bool.and_self, beq_dec, fApp, Int.toNat_natCast, Nat.sub_zero, vmI, vc77_4, vc77_3_eq, e1, e2, hsum]
        exact ⟨l.length - (j + 1), by omega, j + 1, (j : Int) + 1, _, _, _, _, _, _, fp1, rfl, by omega, by omega, by rw [hft], by rw [hft]; exact hF1, hf1, hn1⟩
      · by_cases c2 : a1 < 0
        · rw [skip (by rw [hmd, decide_eq_false (show ¬ 0 ≤ a1 by omega)]; simp)] at hft
          simp (disch := omega) only [vm0, vm1, vm2, vm3, vm4, vm5, vm6, vm7, fPick, fBox, fBuild, fBsl, fLd, fLda, fSt, fNilc, fBin, fEq, fUn, fMkf, fFa, fFld, fFlda, fExt, evo, wr, wrC, frame, Bool.not_true, Bool.not_false, beq_self_eq_true, List.cons_append, List.nil_append, Nat.add_zero, Nat.zero_add, Nat.reduceAdd, Nat.reduceMul, Nat.reduceSub, Bool.and_true, Bool.true_and, Bool.and_self, beq_dec, fApp, Int.toNat_natCast, Nat.sub_zero, vmI, vc77_4, vc77_3_eq, e1, e2, hsum]
          exact ⟨l.length - (j + 1), by omega, j + 1, (j : Int) + 1, _, _, _, _, _, _, fp1, rfl, by omega, by omega, by rw [hft], by rw [hft]; exact hF1, hf1, hn1⟩
        · simp (disch := omega) only [vm0, vm1, vm2, vm3, vm4, vm5, vm6, vm7, fPick, fBox, fBuild, fBsl, fLd, fLda, fSt, fNilc, fBin, fEq, fUn, fMkf, fFa, fFld, fFlda, fExt, evo, wr, wrC, frame, Bool.not_true, Bool.not_false, beq_self_eq_true, List.cons_append, List.nil_append, Nat.add_zero, Nat.zero_add, Nat.reduceAdd, Nat.reduceMul, Nat.reduceSub, Bool.and_true, Bool.true_and, Bool.and_self, beq_dec, fApp, Int.toNat_natCast, Nat.sub_zero, vmI, vc77_4, vc77_3_eq, e1, e2, hsum]
          refine call_ok rfl rfl (j_limit (n + 2) s1 p i1 fp1 hF1 g1.ok) ?_
          rintro x s1 ⟨rfl, rfl⟩
          by_cases c3 : i1.limit ≤ a1
          · rw [skip (by rw [hmd, decide_eq_false (show ¬ a1 < i1.limit by omega)]; simp)] at hft
            simp (disch := omega) only [vm0, vm1, vm2, vm3, vm4, vm5, vm6, vm7, fPick, fBox, fBuild, fBsl, fLd, fLda, fSt, fNilc, fBin, fEq, fUn, fMkf, fFa, fFld, fFlda, fExt, evo, wr, wrC, frame, Bool.not_true, Bool.not_false, beq_self_eq_true, List.cons_append, List.nil_append, Nat.add_zero, Nat.zero_add, Nat.reduceAdd, Nat.reduceMul, Nat.reduceSub, Bool.and_true, Bool.true_and, Bool.and_self, beq_dec, fApp, Int.toNat_natCast, Nat.sub_zero, vmI]
            exact ⟨l.length - (j + 1), by omega, j + 1, (j : Int) + 1, _, _, _, _, _, _, fp1, rfl, by omega, by omega, by rw [hft], by rw [hft]; exact hF1, hf1, hn1⟩
          · cases hk : i1.kn
            · have hN : eN i1 = -1 := by simp [eN, hk]
              rw [hN] at h1
              simp (disch := omega) only [vm0, vm1, vm2, vm3, vm4, vm5, vm6, vm7, fPick, fBox, fBuild, fBsl, fLd, fLda, fSt, fNilc, fBin, fEq, fUn, fMkf, fFa, fFld, fFlda, fExt, evo, wr, wrC, frame, Bool.not_true, Bool.not_false, beq_self_eq_true, List.cons_append, List.nil_append, Nat.add_zero, Nat.zero_add, Nat.reduceAdd, Nat.reduceMul, Nat.reduceSub, Bool.and_true, Bool.true_and, Bool.and_self, beq_dec, fApp, Int.toNat_natCast, Nat.sub_zero, vmI, h1]
              have hX := q_has4 (bd := bd) (fu := fu) (h := h) (n + 2) s1 p i1.w i1.tk (eN i1) vb i1.l (p :: fq) a1 (a1 + 1) hK (by omega) (by omega)
              generalize hz : a1 + 1 = z at hX ⊢
              refine call_ok rfl rfl hX ?_
              rintro x s2 ⟨rfl, hf2⟩
              subst hz
              rcases Bool.eq_false_or_eq_true (hasR a1 (a1 + 1) i1.l) with hh | hh
              · rw [skip (by rw [hmd, hh]; simp)] at hft
                rw [hh]
                simp (disch := omega) only [vm0, vm1, vm2, vm3, vm4, vm5, vm6, vm7, fPick, fBox, fBuild, fBsl, fLd, fLda, fSt, fNilc, fBin, fEq, fUn, fMkf, fFa, fFld, fFlda, fExt, evo, wr, wrC, frame, Bool.not_true, Bool.not_false, beq_self_eq_true, List.cons_append, List.nil_append, Nat.add_zero, Nat.zero_add, Nat.reduceAdd, Nat.reduceMul, Nat.reduceSub, Bool.and_true, Bool.true_and, Bool.and_self, beq_dec, fApp, Int.toNat_natCast, Nat.sub_zero, vmI]
                exact ⟨l.length - (j + 1), by omega, j + 1, (j : Int) + 1, _, _, _, _, _, _, fp1, rfl, by omega, by omega, by rw [hft], by rw [hft]; exact hF1.fr hf2 (by simp), Fr.seq hf1 hn1 (hf2.mono (fp' := fp1) (by simp)), hn1⟩
              · have hmay : i1.may a1 = true := by rw [hmd, hh]; simp [hk]; omega
                have hfd : fd (i1, n1, a1) c = (i1.put1 a1 c, n1 + 1, a1 + 1) := if_pos hmay
                rw [hfd] at hft
                rw [hh]
                have hlm2 : i1.limit ≤ 2000 := by unfold IB.limit; omega
                obtain ⟨k, rfl⟩ : ∃ k : Nat, a1 = (k : Int) := ⟨a1.toNat, by omega⟩
                simp (disch := omega) only [vm0, vm1, vm2, vm3, vm4, vm5, vm6, vm7, fPick, fBox, fBuild, fBsl, fLd, fLda, fSt, fNilc, fBin, fEq, fUn, fMkf, fFa, fFld, fFlda, fExt, evo, wr, wrC, frame, Bool.not_true, Bool.not_false, beq_self_eq_true, List.cons_append, List.nil_append, Nat.add_zero, Nat.zero_add, Nat.reduceAdd, Nat.reduceMul, Nat.reduceSub, Bool.and_true, Bool.true_and, Bool.and_self, beq_dec, fApp, Int.toNat_natCast, Nat.sub_zero, vmI]
                refine (j_put1 n s2 p i1 fp1 k c n1 _ _ _ _ _ _ _ _ _ _ _ _ _ _ _ _ (hF1.fr hf2 (by simp)) g1.ok (by omega) (by omega) hfu).mono ?_
                rintro e F s3 ⟨rfl, x14', fp3, rfl, q1, q2, q3⟩
                simp (disch := omega) only [vm0, vm1, vm2, vm3, vm4, vm5, vm6, vm7, fPick, fBox, fBuild, fBsl, fLd, fLda, fSt, fNilc, fBin, fEq, fUn, fMkf, fFa, fFld, fFlda, fExt, evo, wr, wrC, frame, Bool.not_true, Bool.not_false, beq_self_eq_true, List.cons_append, List.nil_append, Nat.add_zero, Nat.zero_add, Nat.reduceAdd, Nat.reduceMul, Nat.reduceSub, Bool.and_true, Bool.true_and, Bool.and_self, beq_dec, fApp, Int.toNat_natCast, Nat.sub_zero, vmI]
                exact ⟨l.length - (j + 1), by omega, j + 1, (j : Int) + 1, _, _, _, _, _, _, fp3, rfl, by omega, by omega, by rw [hft], by rw [hft]; exact q1, Fr.seq (Fr.seq hf1 hn1 (hf2.mono (fp' := fp1) (by simp))) hn1 q2, Nw.seq (Fr.seq hf1 hn1 (hf2.mono (fp' := fp1) (by simp))) hn1 q3⟩
            · have hN : eN i1 = i1.e := by simp [eN, hk]
              rw [hN] at h1
              by_cases c4 : i1.e ≤ a1
              · rw [skip (by rw [hmd, hk, decide_eq_false (show ¬ a1 < i1.e by omega)]; simp)] at hft
                simp (disch := omega) only [vm0, vm1, vm2, vm3, vm4, vm5, vm6, vm7, fPick, fBox, fBuild, fBsl, fLd, fLda, fSt, fNilc, fBin, fEq, fUn, fMkf, fFa, fFld, fFlda, fExt, evo, wr, wrC, frame, Bool.not_true, Bool.not_false, beq_self_eq_true, List.cons_append, List.nil_append, Nat.add_zero, Nat.zero_add, Nat.reduceAdd, Nat.reduceMul, Nat.reduceSub, Bool.and_true, Bool.true_and, Bool.and_self, beq_dec, fApp, Int.toNat_natCast, Nat.sub_zero, vmI, h1]
                exact ⟨l.length - (j + 1), by omega, j + 1, (j : Int) + 1, _, _, _, _, _, _, fp1, rfl, by omega, by omega, by rw [hft], by rw [hft]; exact hF1, hf1, hn1⟩
              · simp (disch := omega) only [vm0, vm1, vm2, vm3, vm4, vm5, vm6, vm7, fPick, fBox, fBuild, fBsl, fLd, fLda, fSt, fNilc, fBin, fEq, fUn, fMkf, fFa, fFld, fFlda, fExt, evo, wr, wrC, frame, Bool.not_true, Bool.not_false, beq_self_eq_true, List.cons_append, List.nil_append, Nat.add_zero, Nat.zero_add, Nat.reduceAdd, Nat.reduceMul, Nat.reduceSub, Bool.and_true, Bool.true_and, Bool.and_self, beq_dec, fApp, Int.toNat_natCast, Nat.sub_zero, vmI, h1]
                have hX := q_has4 (bd := bd) (fu := fu) (h := h) (n + 2) s1 p i1.w i1.tk (eN i1) vb i1.l (p :: fq) a1 (a1 + 1) hK (by omega) (by omega)
                generalize hz : a1 + 1 = z at hX ⊢
                refine call_ok rfl rfl hX ?_
                rintro x s2 ⟨rfl, hf2⟩
                subst hz
                rcases Bool.eq_false_or_eq_true (hasR a1 (a1 + 1) i1.l) with hh | hh
                · rw [skip (by rw [hmd, hh]; simp)] at hft
                  rw [hh]
                  simp (disch := omega) only [vm0, vm1, vm2, vm3, vm4, vm5, vm6, vm7, fPick, fBox, fBuild, fBsl, fLd, fLda, fSt, fNilc, fBin, fEq, fUn, fMkf, fFa, fFld, fFlda, fExt, evo, wr, wrC, frame, Bool.not_true, Bool.not_false, beq_self_eq_true, List.cons_append, List.nil_append, Nat.add_zero, Nat.zero_add, Nat.reduceAdd, Nat.reduceMul, Nat.reduceSub, Bool.and_true, Bool.true_and, Bool.and_self, beq_dec, fApp, Int.toNat_natCast, Nat.sub_zero, vmI]
                  exact ⟨l.length - (j + 1), by omega, j + 1, (j : Int) + 1, _, _, _, _, _, _, fp1, rfl, by omega, by omega, by rw [hft], by rw [hft]; exact hF1.fr hf2 (by simp), Fr.seq hf1 hn1 (hf2.mono (fp' := fp1) (by simp)), hn1⟩
                · have hmay : i1.may a1 = true := by rw [hmd, hh]; simp [hk]; omega
                  have hfd : fd (i1, n1, a1) c = (i1.put1 a1 c, n1 + 1, a1 + 1) := if_pos hmay
                  rw [hfd] at hft
                  rw [hh]
                  have hlm2 : i1.limit ≤ 2000 := by unfold IB.limit; omega
                  obtain ⟨k, rfl⟩ : ∃ k : Nat, a1 = (k : Int) := ⟨a1.toNat, by omega⟩
                  simp (disch := omega) only [vm0, vm1, vm2, vm3, vm4, vm5, vm6, vm7, fPick, fBox, fBuild, fBsl, fLd, fLda, fSt, fNilc, fBin, fEq, fUn, fMkf, fFa, fFld, fFlda, fExt, evo, wr, wrC, frame, Bool.not_true, Bool.not_false, beq_self_eq_true, List.cons_append, List.nil_append, Nat.add_zero, Nat.zero_add, Nat.reduceAdd, Nat.reduceMul, Nat.reduceSub, Bool.and_true, Bool.true_and, Bool.and_self, beq_dec, fApp, Int.toNat_natCast, Nat.sub_zero, vmI]
                  refine (j_put1 n s2 p i1 fp1 k c n1 _ _ _ _ _ _ _ _ _ _ _ _ _ _ _ _ (hF1.fr hf2 (by simp)) g1.ok (by omega) (by omega) hfu).mono ?_
                  rintro e F s3 ⟨rfl, x14', fp3, rfl, q1, q2, q3⟩
                  simp (disch := omega) only [vm0, vm1, vm2, vm3, vm4, vm5, vm6, vm7, fPick, fBox, fBuild, fBsl, fLd, fLda, fSt, fNilc, fBin, fEq, fUn, fMkf, fFa, fFld, fFlda, fExt, evo, wr, wrC, frame, Bool.not_true, Bool.not_false, beq_self_eq_true, List.cons_append, List.nil_append, Nat.add_zero, Nat.zero_add, Nat.reduceAdd, Nat.reduceMul, Nat.reduceSub, Bool.and_true, Bool.true_and, Bool.and_self, beq_dec, fApp, Int.toNat_natCast, Nat.sub_zero, vmI]
                  exact ⟨l.length - (j + 1), by omega, j + 1, (j : Int) + 1, _, _, _, _, _, _, fp3, rfl, by omega, by omega, by rw [hft], by rw [hft]; exact q1, Fr.seq (Fr.seq hf1 hn1 (hf2.mono (fp' := fp1) (by simp))) hn1 q2, Nw.seq (Fr.seq hf1 hn1 (hf2.mono (fp' := fp1) (by simp))) hn1 q3⟩
    · have htk : l.take j = l := List.take_of_length_le (by omega)
      rw [htk] at hF1 g1 g2 g3 g4 g5 g6 g7 g8 ⊢
      obtain ⟨⟨i1, n1, a1⟩, hq⟩ : ∃ q, feed i from_ l = q := ⟨_, rfl⟩
      have hN : i.new_ from_ l = n1 := by unfold IB.new_; rw [hq]
      have hP : i.put from_ l fin = putE i1 from_ (from_ + l.length) fin := by unfold IB.put; rw [hq]
      rw [hN, hP]
      rw [hq] at hF1 g1 g2 g3 g4 g5 g6 g7 g8 ⊢
      dsimp only at hF1 g1 g2 g3 g4 g5 g6 g7 g8 ⊢
      have hF0 := hF1
      obtain ⟨vb, fv, u, fq, h1, h2, h3, h4, h5, h6, rfl, h7⟩ := hF1
      have e1 := h3.rd.lenV
      by_cases h0 : i1.l.length = 0
      · have hz : (i1.l.length : Int) = 0 := by omega
        rw [hz] at e1
        have hlast : lastR i1.l = 0 := by rw [List.eq_nil_of_length_eq_zero h0]; rfl
        simp (disch := omega) only [vm0, vm1, vm2, vm3, vm4, vm5, vm6, vm7, fPick, fBox, fBuild, fBsl, fLd, fLda, fSt, fNilc, fBin, fEq, fUn, fMkf, fFa, fFld, fFlda, fExt, evo, wr, wrC, frame, Bool.not_true, Bool.not_false, beq_self_eq_true, List.cons_append, List.nil_append, Nat.add_zero, Nat.zero_add, Nat.reduceAdd, Nat.reduceMul, Nat.reduceSub, Bool.and_true, Bool.true_and, Bool.and_self, beq_dec, fApp, Int.toNat_natCast, Nat.sub_zero, vmI, vc77_4, vc77_5_eq, h1, e1]
        have := j_putE (bd := bd) (h := h) (fu := fu) n s s1 p i1 fp _ from_ v l fin n1 x4 (some (num (j : Int))) none (some (num 0)) (some (num (l.length : Int))) (some (.bool false)) x12 x13 x14 x15 (some (.bool false)) hF0 g1 hv1.lenV hl hf hf1 hn1
        rw [hlast] at this
        exact this
      · obtain ⟨⟨a, b⟩, hx⟩ : ∃ r, i1.l[i1.l.length - 1]? = some r := ⟨_, List.getElem?_eq_getElem (by omega)⟩
        have y1 := h3.rd.ia hx
        have y2 := RdE.f1 h3.rd hx
        have y3 := h3.rd.blk' hx
        have hcast : ((i1.l.length - 1 : Nat) : Int) = (i1.l.length : Int) - 1 := by omega
        rw [hcast] at y1
        have hlast : lastR i1.l = b := by rw [lastR, List.getLastD_eq_getLast?, List.getLast?_eq_getElem?, hx]; rfl
        have hok := g1.ok.l
        simp (disch := omega) only [vm0, vm1, vm2, vm3, vm4, vm5, vm6, vm7, fPick, fBox, fBuild, fBsl, fLd, fLda, fSt, fNilc, fBin, fEq, fUn, fMkf, fFa, fFld, fFlda, fExt, evo, wr, wrC, frame, Bool.not_true, Bool.not_false, beq_self_eq_true, List.cons_append, List.nil_append, Nat.add_zero, Nat.zero_add, Nat.reduceAdd, Nat.reduceMul, Nat.reduceSub, Bool.and_true, Bool.true_and, Bool.and_self, beq_dec, fApp, Int.toNat_natCast, Nat.sub_zero, vmI, vc77_4, vc77_5_eq, h1, e1, y1, y2]
        have := j_putE (bd := bd) (h := h) (fu := fu) n s s1 p i1 fp _ from_ v l fin n1 x4 (some (num (j : Int))) none (some (num (i1.l.length : Int))) (some (num (l.length : Int))) (some (.bool false)) x12 x13 x14 x15 (some (.bool true)) hF0 g1 hv1.lenV hl hf hf1 hn1
        rw [hlast] at this
        exact this
theorem clampJ (n : Nat) (s : St) (a b c : Int) : OutOk (callF bd (tab h).get fu (n + 1) 88 [num a, num b, num c] s) (fun x s' => Is x (num (min (max a b) c)) ∧ Is s' s) := by
  refine call_code (t88 h) rfl ?_
  simp (disch := omega) only [vm0, vm1, vm2, vm3, vm4, vm5, vm6, vm7, fPick, fBox, fBuild, fBsl, fLd, fLda, fSt, fNilc, fBin, fEq, fUn, fMkf, fFa, fFld, fFlda, fExt, evo, wr, wrC, frame, Bool.not_true, Bool.not_false, beq_self_eq_true, List.cons_append, List.nil_append, Nat.add_zero, Nat.zero_add, Nat.reduceAdd, Nat.reduceMul, Nat.reduceSub, Bool.and_true, Bool.true_and, Bool.and_self, beq_dec, fApp, Int.toNat_natCast, Nat.sub_zero, vmI, vc88]
  exact ⟨rfl, rfl⟩
theorem j_new (n : Nat) (s : St) (w : Int) : OutOk (callF bd (tab h).get fu (n + 2) 74 [num w] s) (fun x s' => ∃ p, Is x (.ptr p 0) ∧ s.next ≤ p ∧ Fr s s' [] ∧ IsJ s' p ⟨[], [], min (max w 1) 400, 0, 0, false⟩ [p]) := by
  refine call_code (t74 h) rfl ?_
  simp (disch := omega) only [vm0, vm1, vm2, vm3, vm4, vm5, vm6, vm7, fPick, fBox, fBuild, fBsl, fLd, fLda, fSt, fNilc, fBin, fEq, fUn, fMkf, fFa, fFld, fFlda, fExt, evo, wr, wrC, frame, Bool.not_true, Bool.not_false, beq_self_eq_true, List.cons_append, List.nil_append, Nat.add_zero, Nat.zero_add, Nat.reduceAdd, Nat.reduceMul, Nat.reduceSub, Bool.and_true, Bool.true_and, Bool.and_self, beq_dec, fApp, Int.toNat_natCast, Nat.sub_zero, vmI, vc74]
  refine call_ok rfl rfl (clampJ n s w 1 400) ?_
  rintro x s1 ⟨rfl, rfl⟩
  simp (disch := omega) only [vm0, vm1, vm2, vm3, vm4, vm5, vm6, vm7, fPick, fBox, fBuild, fBsl, fLd, fLda, fSt, fNilc, fBin, fEq, fUn, fMkf, fFa, fFld, fFlda, fExt, evo, wr, wrC, frame, Bool.not_true, Bool.not_false, beq_self_eq_true, List.cons_append, List.nil_append, Nat.add_zero, Nat.zero_add, Nat.reduceAdd, Nat.reduceMul, Nat.reduceSub, Bool.and_true, Bool.true_and, Bool.and_self, beq_dec, fApp, Int.toNat_natCast, Nat.sub_zero, vmI]
  exact ⟨s1.next, rfl, Nat.le_refl _, .new, .nils, [], .nils, [], get_new_eq rfl, .nil encB_w (by omega), .nil encR_w (by omega), by simp, by simp, by simp, rfl, by rw [next_new]; omega⟩
theorem j_read (n : Nat) (s : St) (p : Nat) (i : IB) (fp : List Nat) (k : Int) (hF : IsJ s p i fp) (hi : i.Good) : OutOk (callF bd (tab h).get fu (n + 4) 75 [.ptr p 0, num k] s) (fun x s' => ∃ fo, OwE s' x 1 encB (i.out k) fo ∧ IsJ s' p (i.read k) fp ∧ Fr s s' fp ∧ Nw s [] fo) := by
  refine call_code (t75 h) rfl ?_
  have hfr := front_bd hi.wf
  have hbd := hi.n_bd k
  have hfr2 := hi.front
  obtain ⟨m, hm⟩ : ∃ m, i.n_ k = m := ⟨_, rfl⟩
  have hm0 : min (max k 0) i.ready = m := by rw [← hm]; unfold IB.n_; rw [Int.max_comm]
  unfold IB.out IB.read
  rw [hm] at hbd ⊢
  simp (disch := omega) only [vm0, vm1, vm2, vm3, vm4, vm5, vm6, vm7, fPick, fBox, fBuild, fBsl, fLd, fLda, fSt, fNilc, fBin, fEq, fUn, fMkf, fFa, fFld, fFlda, fExt, evo, wr, wrC, frame, Bool.not_true, Bool.not_false, beq_self_eq_true, List.cons_append, List.nil_append, Nat.add_zero, Nat.zero_add, Nat.reduceAdd, Nat.reduceMul, Nat.reduceSub, Bool.and_true, Bool.true_and, Bool.and_self, beq_dec, fApp, Int.toNat_natCast, Nat.sub_zero, vmI, vc75]
  refine call_ok rfl rfl (j_ready n s p i fp hF hi.ok hfr) ?_
  rintro x s1 ⟨rfl, rfl⟩
  simp (disch := omega) only [vm0, vm1, vm2, vm3, vm4, vm5, vm6, vm7, fPick, fBox, fBuild, fBsl, fLd, fLda, fSt, fNilc, fBin, fEq, fUn, fMkf, fFa, fFld, fFlda, fExt, evo, wr, wrC, frame, Bool.not_true, Bool.not_false, beq_self_eq_true, List.cons_append, List.nil_append, Nat.add_zero, Nat.zero_add, Nat.reduceAdd, Nat.reduceMul, Nat.reduceSub, Bool.and_true, Bool.true_and, Bool.and_self, beq_dec, fApp, Int.toNat_natCast, Nat.sub_zero, vmI]
  refine call_ok rfl rfl (clampJ (n + 2) s1 k 0 _) ?_
  rintro x s2 ⟨rfl, rfl⟩
  rw [hm0]
  obtain ⟨v, fv, u, fq, h1, h2, h3, h4, h5, h6, rfl, h7⟩ := hF
  obtain ⟨i1, i2, i3, i4, i5, i6, i7⟩ := hi
  obtain ⟨w, g1, r1⟩ := h2.rd.sli' (a := i.tk) (b := i.tk + m) (by omega) (by omega) (by omega)
  have hol : ((i.b.take (i.tk + m).toNat).drop i.tk.toNat).length ≤ 2000 := by simp; omega
  simp (disch := omega) only [vm0, vm1, vm2, vm3, vm4, vm5, vm6, vm7, fPick, fBox, fBuild, fBsl, fLd, fLda, fSt, fNilc, fBin, fEq, fUn, fMkf, fFa, fFld, fFlda, fExt, evo, wr, wrC, frame, Bool.not_true, Bool.not_false, beq_self_eq_true, List.cons_append, List.nil_append, Nat.add_zero, Nat.zero_add, Nat.reduceAdd, Nat.reduceMul, Nat.reduceSub, Bool.and_true, Bool.true_and, Bool.and_self, beq_dec, fApp, Int.toNat_natCast, Nat.sub_zero, vmI, h1, g1, r1.lenOf, r1.cellsOf]
  refine op_app (.nil encB_w (by omega)) (by (repeat' (first | exact Fr.refl | assumption | apply Fr.new' | apply Fr.mk' | apply Fr.put')) <;> (first | omega | (left; simp; done) | (right; simp only [next_put, next_new, next_mk]; omega) | (simp only [next_put, next_new, next_mk]; omega))) (new := (i.b.take (i.tk + m).toNat).drop i.tk.toNat) rfl rfl (by simp only [List.length_nil]; omega) ?_
  intro v' s3 fo k1 k2 k3
  have h1' := (k2.get h7 (by simp)).trans h1
  have hpf : p ∉ fo := fun hm => by have := k3 p hm; simp at this; omega
  simp (disch := omega) only [vm0, vm1, vm2, vm3, vm4, vm5, vm6, vm7, fPick, fBox, fBuild, fBsl, fLd, fLda, fSt, fNilc, fBin, fEq, fUn, fMkf, fFa, fFld, fFlda, fExt, evo, wr, wrC, frame, Bool.not_true, Bool.not_false, beq_self_eq_true, List.cons_append, List.nil_append, Nat.add_zero, Nat.zero_add, Nat.reduceAdd, Nat.reduceMul, Nat.reduceSub, Bool.and_true, Bool.true_and, Bool.and_self, beq_dec, fApp, Int.toNat_natCast, Nat.sub_zero, vmI, h1']
  refine ⟨fo, by simpa using k1.fr (fp' := [p]) (.put (.inl (by simp))) (by rintro b hb hm; simp at hm; subst hm; exact hpf hb), ⟨v, fv, u, fq, get_put_eq rfl, (h2.fr0 k2).fr (fp' := [p]) (.put (.inl (by simp))) (by rintro b hb hm; simp at hm; subst hm; exact h4 hb), (h3.fr0 k2).fr (fp' := [p]) (.put (.inl (by simp))) (by rintro b hb hm; simp at hm; subst hm; exact h5 hb), h4, h5, h6, rfl, by rw [next_put]; exact Nat.lt_of_lt_of_le h7 k2.1⟩, .put' (.inl (by simp)) (k2.mono (by simp)), k3⟩
end
end Go.Proofs.Ytekhpohcjfjhfaa.ctr
namespace Go.Proofs.Ytekhpohcjfjhfaa.ctr
open Go.Vm Go.RowKit Go.Ranges
set_option linter.unusedVariables false
set_option linter.constructorNameAsVariable false
set_option linter.unusedSimpArgs false
/-! ## bytes that are lent -/
theorem mks_l {L F : LF} {id : Nat} {bd : Bd} {x y : Od} {l c : Int} (h1 : ev L F x = some (num l)) (h2 : ev L F y = some (num c)) (h0 : 0 ≤ l) (h3 : l ≤ c) (h4 : c ≤ 1000000) :
    fMks L F id bd [byt 0] 1 1 x y = some (.sl id 0 l.toNat c.toNat true 1, .cells (rep c.toNat [byt 0]) .own) := by
  unfold fMks
  rw [h1, h2]
  show fMksC id [byt 0] 1 1 (num l) (num c) = _
  unfold fMksC
  rw [onN h0, onN (show 0 ≤ c by omega)]
  rw [ble_dec, dec_t (by omega), ble_dec, dec_t (by omega), ble_dec, dec_t (by omega)]
  rfl
theorem cpy_l {L F : LF} {s : St} {x y : Od} {b len lo : Nat} {v : AV} {l : List Int} {C : List AV} (h1 : ev L F x = some (.sl b 0 len lo true 1)) (h2 : ev L F y = some v) (hv : RdE s v 1 encB l) (hl : l.length = len) (hc : s.heap.get b = some (.cells C .own)) (hC : len ≤ C.length) :
    ∃ s', fCpy L F s 1 x y = .v (num (len : Int)) s' ∧ s'.next = s.next ∧ s'.heap.get b = some (.cells (l.flatMap encB ++ C.drop len) .own) ∧ Fr s s' [b] := by
  subst hl
  have hfl : (l.flatMap encB).length = l.length := by rw [flat_len encB_w]; omega
  obtain ⟨s', w1, w2, w3, w4⟩ := wr_in (i := 0) hc (.inl ⟨rfl, rfl⟩) (ys := l.flatMap encB) (by omega)
  refine ⟨s', ?_, w2, by rw [w3, List.take_zero, List.nil_append, hfl, Nat.zero_add], w4⟩
  unfold fCpy
  rw [h1, h2]
  show oN (lenOf v) (fun m => oL (cellsOf s 1 (Nat.min m l.length) v) (fun vs => Vm.oS (wr s b 0 vs) (fun s' => .v (.int .i64 (.c (Int.ofNat (Nat.min m l.length)))) s') 27) 29) 30 = _
  rw [hv.lenOf]
  show oL (cellsOf s 1 (Nat.min l.length l.length) v) (fun vs => Vm.oS (wr s b 0 vs) (fun s' => .v (.int .i64 (.c (Int.ofNat (Nat.min l.length l.length)))) s') 27) 29 = _
  rw [show Nat.min l.length l.length = l.length from Nat.min_self _, hv.cellsOf]
  show Vm.oS (wr s b 0 (l.flatMap encB)) (fun s' => .v (.int .i64 (.c (Int.ofNat l.length))) s') 27 = _
  rw [w1]; rfl
theorem sv_x {b n : Nat} : sliceV 1 (.sl b 0 n (n + 3) true 1) none (some (num ((n : Int) + 3))) none = some (.sl b 0 (n + 3) (n + 3) true 1) := by
  have h1 : bnd n (some (num ((n : Int) + 3))) = some (n + 3) := by rw [bnd_s (by omega)]; congr 1
  rw [sv_s, h1]
  show sliL b 0 true (n + 3) 0 (n + 3) 1 = _
  rw [sli_k (by omega) (by omega) (by omega)]; rfl
theorem flat_byt (l : List Int) : l.flatMap encB = l.map byt := by
  induction l with
  | nil => rfl
  | cons x l ih => rw [List.flatMap_cons, ih]; rfl
/-- lent bytes -/
def lentC (l : List Int) : List AV := (l ++ [85, 85, 85]).flatMap encB
section
variable {bd : Bd} {h : VF} {fu : Nat}
theorem lend (n : Nat) (s : St) (v : AV) (l : List Int) (hv : RdE s v 1 encB l) (hl : l.length ≤ 1000) (hfu : 4000 < fu) :
    OutOk (callF bd (tab h).get fu (n + 1) 76 [v] s) (fun x s' => ∃ b, Is x (.sl b 0 l.length (l.length + 3) true 1) ∧ s'.heap.get b = some (.cells (lentC l) .own) ∧ s.next ≤ b ∧ b < s'.next ∧ Fr s s' []) := by
  refine call_code (t76 h) rfl ?_
  have e1 := hv.lenV
  simp (disch := omega) only [vm0, vm1, vm2, vm3, vm4, vm5, vm6, vm7, fPick, fBox, fBuild, fBsl, fLd, fLda, fSt, fNilc, fBin, fEq, fUn, fMkf, fFa, fFld, fFlda, fExt, evo, wr, wrC, frame, Bool.not_true, Bool.not_false, beq_self_eq_true, List.cons_append, List.nil_append, Nat.add_zero, Nat.zero_add, Nat.reduceAdd, Nat.reduceMul, Nat.reduceSub, Bool.and_true, Bool.true_and, Bool.and_self, beq_dec, fApp, Int.toNat_natCast, Nat.sub_zero, vmI, vc76, e1]
  rw [mks_l (x := .t 2) (y := .t 0) rfl rfl (by omega) (by omega) (by omega)]
  simp (disch := omega) only [vm0, vm1, vm2, vm3, vm4, vm5, vm6, vm7, fPick, fBox, fBuild, fBsl, fLd, fLda, fSt, fNilc, fBin, fEq, fUn, fMkf, fFa, fFld, fFlda, fExt, evo, wr, wrC, frame, Bool.not_true, Bool.not_false, beq_self_eq_true, List.cons_append, List.nil_append, Nat.add_zero, Nat.zero_add, Nat.reduceAdd, Nat.reduceMul, Nat.reduceSub, Bool.and_true, Bool.true_and, Bool.and_self, beq_dec, fApp, Int.toNat_natCast, Nat.sub_zero, vmI]
  have hfa : Fr s (s.new (.cells (rep ((l.length : Int) + 3).toNat [byt 0]) .own)) [] := .new
  have hg : (s.new (.cells (rep ((l.length : Int) + 3).toNat [byt 0]) .own)).heap.get s.next = some (.cells (rep ((l.length : Int) + 3).toNat [byt 0]) .own) := get_new_eq rfl
  have hnx : (s.new (.cells (rep ((l.length : Int) + 3).toNat [byt 0]) .own)).next = s.next + 1 := rfl
  rw [show ((l.length : Int) + 3).toNat = l.length + 3 by omega] at *
  generalize s.new (.cells (rep (l.length + 3) [byt 0]) .own) = s1 at *
  have hv1 := hv.fr0 hfa
  obtain ⟨s2, w1, w2, w3, w4⟩ := cpy_l (L := []) (F := [some v, some (.sl s.next 0 l.length (l.length + 3) true 1), none, none, none, some .nils]) (x := .w 1) (y := .w 0) rfl rfl hv1 rfl hg (by rw [rep_flat, flat_len encB_w]; simp)
  rw [w1]
  simp (disch := omega) only [vm0, vm1, vm2, vm3, vm4, vm5, vm6, vm7, fPick, fBox, fBuild, fBsl, fLd, fLda, fSt, fNilc, fBin, fEq, fUn, fMkf, fFa, fFld, fFlda, fExt, evo, wr, wrC, frame, Bool.not_true, Bool.not_false, beq_self_eq_true, List.cons_append, List.nil_append, Nat.add_zero, Nat.zero_add, Nat.reduceAdd, Nat.reduceMul, Nat.reduceSub, Bool.and_true, Bool.true_and, Bool.and_self, beq_dec, fApp, Int.toNat_natCast, Nat.sub_zero, vmI, e1, sv_x]
  have hc0 : l.flatMap encB ++ (rep (l.length + 3) [byt 0]).drop l.length = (l ++ List.replicate 0 85 ++ List.replicate 3 0).flatMap encB := by
    rw [rep_flat, flat_byt, flat_byt, flat_byt]; simp
  rw [hc0] at w3
  have hnb : s.next < s2.next := by omega
  have hfr2 : Fr s s2 [] := hfa.trans w4 (fp2 := []) (by simp) (fun z hz hlt => by simp at hz; omega)
  obtain ⟨b, hb⟩ : ∃ b, s.next = b := ⟨_, rfl⟩
  rw [hb] at w3 hnb ⊢
  refine x_loop (fun m F s' => ∃ j : Nat, ∃ z y4, m = 3 - j ∧ j ≤ 3 ∧ z = ((l.length + j : Nat) : Int) ∧ F = [some v, some (.sl b 0 l.length (l.length + 3) true 1), some (num z), some (.sl b 0 (l.length + 3) (l.length + 3) true 1), y4, some .nils] ∧ s'.heap.get b = some (.cells ((l ++ List.replicate j 85 ++ List.replicate (3 - j) 0).flatMap encB) .own) ∧ Fr s2 s' [b]) 3 (by omega) ?_ ?_
  · exact ⟨0, _, _, by omega, by omega, rfl, rfl, w3, .refl⟩
  · rintro m F s3 ⟨j, z, y4, rfl, hj, hz, rfl, k1, k2⟩ hm
    by_cases hlt : j < 3
    · have g1 := iaV_is (sz := 1) (v := .sl b 0 (l.length + 3) (l.length + 3) true 1) (i := l.length + j) ⟨rfl, Nat.le_refl _⟩ (by show l.length + j < l.length + 3; omega)
      rw [← hz] at g1
      have hlC : ((l ++ List.replicate j 85 ++ List.replicate (3 - j) 0).flatMap encB).length = l.length + 3 := by rw [flat_len encB_w]; simp; omega
      obtain ⟨s4, q1, q2, q3, q4⟩ := wr_in (i := soff (.sl b 0 (l.length + 3) (l.length + 3) true 1) + (l.length + j) * 1) k1 (.inl ⟨rfl, rfl⟩) (ys := [byt 85]) (by rw [hlC]; show 0 + (l.length + j) * 1 + 1 ≤ _; omega)
      rw [show sblk (.sl b 0 (l.length + 3) (l.length + 3) true 1) = b from rfl] at g1
      simp only [byt] at q1
      simp (disch := omega) only [vm0, vm1, vm2, vm3, vm4, vm5, vm6, vm7, fPick, fBox, fBuild, fBsl, fLd, fLda, fSt, fNilc, fBin, fEq, fUn, fMkf, fFa, fFld, fFlda, fExt, evo, frame, Bool.not_true, Bool.not_false, beq_self_eq_true, List.cons_append, List.nil_append, Nat.add_zero, Nat.zero_add, Nat.reduceAdd, Nat.reduceMul, Nat.reduceSub, Bool.and_true, Bool.true_and, Bool.and_self, beq_dec, fApp, Int.toNat_natCast, Nat.sub_zero, g1, q1, wr64]
      refine ⟨3 - (j + 1), by omega, j + 1, z + 1, _, rfl, by omega, by omega, rfl, ?_, k2.trans q4 (by simp) (by simp)⟩
      rw [q3]
      congr 3
      rw [show soff (.sl b 0 (l.length + 3) (l.length + 3) true 1) + (l.length + j) * 1 = l.length + j by show 0 + (l.length + j) * 1 = _; omega, flat_byt, flat_byt]
      have t1 : ∀ k, (l.map byt).take (l.length + k) = l.map byt := fun k => List.take_of_length_le (by simp)
      have t2 : ∀ k, (l.map byt).drop (l.length + k) = [] := fun k => List.drop_of_length_le (by simp)
      obtain rfl | rfl | rfl : j = 0 ∨ j = 1 ∨ j = 2 := by omega
      · simp [List.take_append, List.drop_append]
      · simp [List.take_append, List.drop_append, Nat.add_assoc, t1, t2]
      · simp [List.take_append, List.drop_append, Nat.add_assoc, t1, t2]
    · have hj3 : j = 3 := by omega
      subst hj3
      simp (disch := omega) only [vm0, vm1, vm2, vm3, vm4, vm5, vm6, vm7, fPick, fBox, fBuild, fBsl, fLd, fLda, fSt, fNilc, fBin, fEq, fUn, fMkf, fFa, fFld, fFlda, fExt, evo, wr, wrC, frame, Bool.not_true, Bool.not_false, beq_self_eq_true, List.cons_append, List.nil_append, Nat.add_zero, Nat.zero_add, Nat.reduceAdd, Nat.reduceMul, Nat.reduceSub, Bool.and_true, Bool.true_and, Bool.and_self, beq_dec, fApp, Int.toNat_natCast, Nat.sub_zero, vmI]
      refine ⟨b, rfl, ?_, by omega, Nat.lt_of_lt_of_le hnb k2.1, hfr2.trans k2 (fp2 := []) (by simp) (fun z hz hlt => by simp at hz; omega)⟩
      rw [k1, lentC]; simp
theorem intact (n : Nat) (s : St) (v : AV) (l : List Int) (b : Nat) (hv : RdE s v 1 encB l) (hl : l.length ≤ 1000) (hg : s.heap.get b = some (.cells (lentC l) .own)) (hb : b < s.next) (hfu : 4000 < fu) :
    OutOk (callF bd (tab h).get fu (n + 1) 78 [.sl b 0 l.length (l.length + 3) true 1, v] s) (fun x s' => Is x (.bool true) ∧ Is s' s) := by
  refine call_code (t78 h) rfl ?_
  have e1 := hv.lenV
  have hU : RdE s (.sl b 0 (l.length + 3) (l.length + 3) true 1) 1 encB (l ++ [85, 85, 85]) := by
    refine ⟨⟨⟨rfl, Nat.le_refl _⟩, by rw [flat_len encB_w]; simp [slen], ?_⟩, encB_w, by omega, hb⟩
    show ob (s.heap.get b) (rdC 0 ((l.length + 3) * 1)) = _
    rw [hg]
    show sub (lentC l) 0 ((l.length + 3) * 1) = _
    have : (lentC l).length = l.length + 3 := by unfold lentC; rw [flat_len encB_w]; simp
    rw [sub_of (by rw [this]; omega), List.drop_zero, List.take_of_length_le (by rw [this]; omega)]
    rfl
  have e2 : lenV (.sl b 0 (l.length + 3) (l.length + 3) true 1) = some (num ((l.length : Int) + 3)) := rfl
  have hcap : Int.ofNat (l.length + 3) = (l.length : Int) + 3 := rfl
  simp (disch := omega) only [vm0, vm1, vm2, vm3, vm4, vm5, vm6, vm7, fPick, fBox, fBuild, fBsl, fLd, fLda, fSt, fNilc, fBin, fEq, fUn, fMkf, fFa, fFld, fFlda, fExt, evo, wr, wrC, frame, Bool.not_true, Bool.not_false, beq_self_eq_true, List.cons_append, List.nil_append, Nat.add_zero, Nat.zero_add, Nat.reduceAdd, Nat.reduceMul, Nat.reduceSub, Bool.and_true, Bool.true_and, Bool.and_self, beq_dec, fApp, Int.toNat_natCast, Nat.sub_zero, vmI, vc78, e1, sv_x, fCap, hcap]
  refine x_loop (fun m F s' => ∃ j : Nat, ∃ z y2 y7 y8, m = l.length + 3 - j ∧ j ≤ l.length + 3 ∧ z = (j : Int) ∧ F = [some (.sl b 0 l.length (l.length + 3) true 1), some v, y2, some (.sl b 0 (l.length + 3) (l.length + 3) true 1), some (num z), some (.bool false), some (num ((l.length : Int) + 3)), y7, y8, some (.bool false)] ∧ s' = s) (l.length + 3) (by omega) ?_ ?_
  · exact ⟨0, _, _, _, _, by omega, by omega, rfl, rfl, rfl⟩
  · rintro m F s1 ⟨j, _, y2, y7, y8, rfl, hj, rfl, rfl, rfl⟩ hm
    by_cases hlt : j < l.length
    · obtain ⟨x, hx⟩ : ∃ x, l[j]? = some x := ⟨_, List.getElem?_eq_getElem hlt⟩
      have hx2 : (l ++ [85, 85, 85])[j]? = some x := by rw [List.getElem?_append_left hlt, hx]
      have g1 := hU.ia hx2
      have g2 := hU.at1 (f := byt) hx2
      have g3 := hv.ia hx
      have g4 := hv.at1 (f := byt) hx
      simp (disch := omega) only [vm0, vm1, vm2, vm3, vm4, vm5, vm6, vm7, fPick, fBox, fBuild, fBsl, fLd, fLda, fSt, fNilc, fBin, fEq, fUn, fMkf, fFa, fFld, fFlda, fExt, evo, wr, wrC, frame, Bool.not_true, Bool.not_false, beq_self_eq_true, List.cons_append, List.nil_append, Nat.add_zero, Nat.zero_add, Nat.reduceAdd, Nat.reduceMul, Nat.reduceSub, Bool.and_true, Bool.true_and, Bool.and_self, beq_dec, fApp, Int.toNat_natCast, Nat.sub_zero, vmI, vmU, e1, g1, g2, g3, g4]
      exact ⟨l.length + 3 - (j + 1), by omega, j + 1, (j : Int) + 1, _, _, _, rfl, by omega, by omega, rfl, rfl⟩
    · by_cases hlt2 : j < l.length + 3
      · have hx2 : (l ++ [85, 85, 85])[j]? = some 85 := by
          rw [List.getElem?_append_right (by omega)]
          obtain h | h | h : j - l.length = 0 ∨ j - l.length = 1 ∨ j - l.length = 2 := by omega
          all_goals rw [h]; rfl
        have g1 := hU.ia hx2
        have g2 := hU.at1 (f := byt) hx2
        simp (disch := omega) only [vm0, vm1, vm2, vm3, vm4, vm5, vm6, vm7, fPick, fBox, fBuild, fBsl, fLd, fLda, fSt, fNilc, fBin, fEq, fUn, fMkf, fFa, fFld, fFlda, fExt, evo, wr, wrC, frame, Bool.not_true, Bool.not_false, beq_self_eq_true, List.cons_append, List.nil_append, Nat.add_zero, Nat.zero_add, Nat.reduceAdd, Nat.reduceMul, Nat.reduceSub, Bool.and_true, Bool.true_and, Bool.and_self, beq_dec, fApp, Int.toNat_natCast, Nat.sub_zero, vmI, vmU, e1, g1, g2]
        exact ⟨l.length + 3 - (j + 1), by omega, j + 1, (j : Int) + 1, _, _, _, rfl, by omega, by omega, rfl, rfl⟩
      · simp (disch := omega) only [vm0, vm1, vm2, vm3, vm4, vm5, vm6, vm7, fPick, fBox, fBuild, fBsl, fLd, fLda, fSt, fNilc, fBin, fEq, fUn, fMkf, fFa, fFld, fFlda, fExt, evo, wr, wrC, frame, Bool.not_true, Bool.not_false, beq_self_eq_true, List.cons_append, List.nil_append, Nat.add_zero, Nat.zero_add, Nat.reduceAdd, Nat.reduceMul, Nat.reduceSub, Bool.and_true, Bool.true_and, Bool.and_self, beq_dec, fApp, Int.toNat_natCast, Nat.sub_zero, vmI]
        exact ⟨rfl, rfl⟩
end
end Go.Proofs.Ytekhpohcjfjhfaa.ctr
namespace Go.Proofs.Ytekhpohcjfjhfaa.ctr
open Go.Vm Go.RowKit Go.Ranges
set_option linter.unusedVariables false
set_option linter.unusedSimpArgs false
/-! ## what a set counts, cut and added: plain laws -/
theorem cnt_shift : ∀ (l : List R) (n : Int), l.foldl (fun n r => n + r.2 - r.1) n = n + countR l := by
  intro l
  induction l with
  | nil => intro n; simp [countR]
  | cons r l ih =>
    intro n
    unfold countR
    rw [List.foldl_cons, List.foldl_cons, ih, ih]
    omega
theorem countR_nil : countR [] = 0 := rfl
theorem countR_cons (r : R) (l : List R) : countR (r :: l) = r.2 - r.1 + countR l := by
  show (r :: l).foldl _ 0 = _
  rw [List.foldl_cons, cnt_shift]; omega
theorem countR_app (l m : List R) : countR (l ++ m) = countR l + countR m := by
  induction l with
  | nil => simp [countR]
  | cons r l ih => rw [List.cons_append, countR_cons, countR_cons, ih]; omega
theorem countR_in {l : List R} {b : Int} (hw : WFr b l) (hb : 0 ≤ b) : 0 ≤ countR l ∧ countR l ≤ far + 1 :=
  countR_bd (hw.mono hb) (Int.le_refl 0) (Int.le_refl 0) (by unfold far; omega)
theorem cut1_out {f t : Int} {r : R} (h : t ≤ r.1) (h2 : r.1 < r.2) (hf : f < t) : cut1 f t r = [r] := by
  unfold cut1
  rw [if_neg (by omega), if_pos (by omega), Int.max_eq_left h]; rfl
theorem cutR_out {f t : Int} (hf : f < t) : ∀ {l : List R} {b : Int}, WFr b l → t ≤ b → cutR f t l = l := by
  intro l
  induction l with
  | nil => intro b _ _; rfl
  | cons r l ih =>
    intro b ⟨h1, h2, h3, h4⟩ hb
    show cut1 f t r ++ cutR f t l = _
    rw [cut1_out (by omega) h2 hf, ih h4 (by omega)]; rfl
theorem cutR_head1 {a b m : Int} {l : List R} (hw : WFr 0 ((a, b) :: l)) (h1 : a < m) (h2 : m < b) : cutR a m ((a, b) :: l) = (m, b) :: l := by
  obtain ⟨w1, w2, w3, w4⟩ := hw
  show cut1 a m (a, b) ++ cutR a m l = _
  rw [cutR_out h1 w4 (by simp only; omega)]
  unfold cut1
  rw [if_neg (by simp), if_pos (by simpa using h2), Int.max_eq_right (by simp; omega)]; rfl
theorem cutR_head2 {m b : Int} {l : List R} (hw : WFr 0 ((m, b) :: l)) : cutR m b ((m, b) :: l) = l := by
  obtain ⟨w1, w2, w3, w4⟩ := hw
  show cut1 m b (m, b) ++ cutR m b l = _
  rw [cutR_out w2 w4 (by simp only; omega)]
  unfold cut1
  rw [if_neg (by simp), if_neg (by simp)]; rfl
/-! two sets of the same places are the same -/
theorem mem_of {r : R} {l : List R} {p : Int} (h : r ∈ l) (h1 : r.1 ≤ p) (h2 : p < r.2) : mem l p := ⟨r, h, h1, h2⟩
theorem WFr_ext : ∀ {l m : List R} {b : Int}, WFr b l → WFr b m → (∀ p, mem l p ↔ mem m p) → l = m := by
  intro l
  induction l with
  | nil =>
    intro m b _ hm h
    cases m with
    | nil => rfl
    | cons r m => exact absurd ((h r.1).2 (mem_of (by simp) (Int.le_refl _) hm.2.1)) mem_nil
  | cons r l ih =>
    intro m b hl hm h
    cases m with
    | nil => exact absurd ((h r.1).1 (mem_of (by simp) (Int.le_refl _) hl.2.1)) mem_nil
    | cons q m =>
      obtain ⟨l1, l2, l3, l4⟩ := hl
      obtain ⟨m1, m2, m3, m4⟩ := hm
      have lo : ∀ {p}, mem l p → r.2 + 1 ≤ p := fun h => mem_lb l4 h
      have mo : ∀ {p}, mem m p → q.2 + 1 ≤ p := fun h => mem_lb m4 h
      have e1 : r.1 = q.1 := by
        have a := (h r.1).1 (mem_of (by simp) (Int.le_refl _) l2)
        have b := (h q.1).2 (mem_of (by simp) (Int.le_refl _) m2)
        rw [mem_cons] at a b
        have a' : q.1 ≤ r.1 := by rcases a with a | a; exact a.1; have := mo a; omega
        have b' : r.1 ≤ q.1 := by rcases b with b | b; exact b.1; have := lo b; omega
        omega
      have e2 : r.2 = q.2 := by
        by_cases hlt : r.2 < q.2
        · have a := (h r.2).2 (mem_of (by simp) (by omega) hlt)
          rw [mem_cons] at a
          rcases a with a | a
          · omega
          · have := lo a; omega
        · by_cases hgt : q.2 < r.2
          · have a := (h q.2).1 (mem_of (by simp) (by omega) hgt)
            rw [mem_cons] at a
            rcases a with a | a
            · omega
            · have := mo a; omega
          · omega
      have er : r = q := Prod.ext e1 e2
      subst er
      congr 1
      refine ih l4 m4 fun p => ?_
      have hh := h p
      rw [mem_cons, mem_cons] at hh
      constructor
      · intro hp
        have := lo hp
        rcases hh.1 (.inr hp) with a | a
        · omega
        · exact a
      · intro hp
        have := mo hp
        rcases hh.2 (.inr hp) with a | a
        · omega
        · exact a
theorem mem_cutR {f t p : Int} {l : List R} (hf : f < t) : mem (cutR f t l) p ↔ mem l p ∧ ¬ (f ≤ p ∧ p < t) := by
  constructor
  · rintro ⟨r, hr, h1, h2⟩
    obtain ⟨q, hq, hc⟩ := List.mem_flatMap.1 hr
    unfold cut1 at hc
    rw [List.mem_append] at hc
    rcases hc with hc | hc
    · split at hc
      · simp at hc; subst hc
        simp only at h1 h2
        exact ⟨⟨q, hq, h1, by omega⟩, by omega⟩
      · simp at hc
    · split at hc
      · simp at hc; subst hc
        simp only at h1 h2
        exact ⟨⟨q, hq, by omega, h2⟩, by omega⟩
      · simp at hc
  · rintro ⟨⟨r, hr, h1, h2⟩, h3⟩
    by_cases hp : p < f
    · refine ⟨(r.1, min r.2 f), List.mem_flatMap.2 ⟨r, hr, ?_⟩, h1, by simp only; omega⟩
      unfold cut1
      rw [if_pos (by omega)]; simp
    · refine ⟨(max r.1 t, r.2), List.mem_flatMap.2 ⟨r, hr, ?_⟩, by simp only; omega, h2⟩
      unfold cut1
      rw [if_pos (show t < r.2 by omega)]; simp
theorem has_addR {f t : Int} (hft : f < t) : ∀ {l : List R} {f' t' : Int}, f' ≤ f → t ≤ t' → (Ranges.addR f' t' l).any (has1 f t) = true := by
  intro l
  induction l with
  | nil => intro f' t' h1 h2; simp [Ranges.addR, has1, h1, h2]
  | cons r l ih =>
    intro f' t' h1 h2
    unfold Ranges.addR
    split
    · rw [List.any_cons, ih h1 h2, Bool.or_true]
    · split
      · simp [has1, h1, h2]
      · exact ih (by omega) (by omega)
/-- how many of the places from f on, n of them, are there -/
def hasN (l : List R) (f : Int) : Nat → Int
  | 0 => 0
  | n + 1 => hasN l f n + if hasR (f + n) (f + n + 1) l then 1 else 0
def cutN (f t : Int) (l : List R) : Int := countR l - countR (cutR f t l)
theorem cutN_cons (f t : Int) (r : R) (l : List R) : cutN f t (r :: l) = (r.2 - r.1 - countR (cut1 f t r)) + cutN f t l := by
  unfold cutN
  show countR (r :: l) - countR (cut1 f t r ++ cutR f t l) = _
  rw [countR_cons, countR_app]; omega
theorem cut1_cnt {f t : Int} {r : R} (h : r.1 < r.2) (hf : f ≤ t) : r.2 - r.1 - countR (cut1 f t r) = max 0 (min r.2 t - max r.1 f) := by
  unfold cut1
  by_cases h1 : r.1 < f <;> by_cases h2 : t < r.2
  · rw [if_pos h1, if_pos h2]; simp [countR]; omega
  · rw [if_pos h1, if_neg h2]; simp [countR]; omega
  · rw [if_neg h1, if_pos h2]; simp [countR]; omega
  · rw [if_neg h1, if_neg h2]; simp [countR]; omega
theorem cutN_step {f k : Int} (hf : f ≤ k) : ∀ {l : List R} {b : Int}, WFr b l → cutN f (k + 1) l = cutN f k l + if hasR k (k + 1) l then 1 else 0 := by
  intro l
  induction l with
  | nil => intro b _; rw [if_neg (fun h => mem_nil (mem_has.1 h))]; rfl
  | cons r l ih =>
    intro b ⟨h1, h2, h3, h4⟩
    rw [cutN_cons, cutN_cons, ih h4, cut1_cnt h2 (by omega), cut1_cnt h2 hf]
    by_cases hm : mem l k
    · have := mem_lb h4 hm
      rw [if_pos (mem_has.2 hm), if_pos (mem_has.2 (mem_cons.2 (.inr hm)))]; omega
    · rw [if_neg (fun h => hm (mem_has.1 h))]
      by_cases hr : r.1 ≤ k ∧ k < r.2
      · rw [if_pos (mem_has.2 (mem_cons.2 (.inl hr)))]; omega
      · rw [if_neg (fun h => by rcases mem_cons.1 (mem_has.1 h) with h | h; exact hr h; exact hm h)]; omega
theorem hasN_cut {f b : Int} {l : List R} (hw : WFr b l) : ∀ n : Nat, hasN l f n = cutN f (f + n) l := by
  intro n
  induction n with
  | zero =>
    unfold hasN cutN
    rw [Int.natCast_zero, Int.add_zero]
    have : ∀ {l : List R} {b : Int}, WFr b l → countR (cutR f f l) = countR l := by
      intro l
      induction l with
      | nil => intro b _; rfl
      | cons r l ih =>
        intro b ⟨h1, h2, h3, h4⟩
        show countR (cut1 f f r ++ cutR f f l) = _
        rw [countR_app, countR_cons, ih h4]
        have := cut1_cnt (f := f) (t := f) h2 (Int.le_refl _)
        omega
    rw [this hw]; omega
  | succ n ih =>
    unfold hasN
    rw [ih, show f + ((n + 1 : Nat) : Int) = f + n + 1 by omega, cutN_step (by omega) hw]
end Go.Proofs.Ytekhpohcjfjhfaa.ctr
namespace Go.Proofs.Ytekhpohcjfjhfaa.ctr
open Go.Vm Go.RowKit Go.Ranges
set_option linter.unusedVariables false
set_option linter.constructorNameAsVariable false
set_option linter.unusedSimpArgs false
/-! ## what stays so of an inbox, whatever comes -/
def EndsI (M : Int) (l : List R) : Prop := ∀ r ∈ l, r.2 ≤ M
theorem endsI_addR {M : Int} : ∀ {l : List R} {f t : Int}, EndsI M l → t ≤ M → EndsI M (Ranges.addR f t l)
  | [], f, t, _, h2 => by intro r hr; simp [Ranges.addR] at hr; subst hr; exact h2
  | q :: l, f, t, h1, h2 => by
    have hq := h1 q (by simp)
    have hl : EndsI M l := fun r hr => h1 r (by simp [hr])
    unfold Ranges.addR
    split
    · intro r hr
      rcases List.mem_cons.1 hr with rfl | hr
      · exact hq
      · exact endsI_addR hl h2 r hr
    · split
      · intro r hr
        rcases List.mem_cons.1 hr with rfl | hr
        · exact h2
        · exact h1 r hr
      · exact endsI_addR hl (by omega)
theorem countR_addR : ∀ {l : List R} {f t b : Int}, WFr b l → f < t → countR (Ranges.addR f t l) ≤ countR l + (t - f)
  | [], f, t, b, _, h => by simp [Ranges.addR, countR]
  | q :: l, f, t, b, ⟨h1, h2, h3, h4⟩, h => by
    unfold Ranges.addR
    split
    · have := countR_addR (f := f) (t := t) h4 h
      rw [countR_cons, countR_cons]; omega
    · split
      · rw [countR_cons, countR_cons]; simp only; omega
      · have := countR_addR (f := min f q.1) (t := max t q.2) h4 (by omega)
        rw [countR_cons]; omega
theorem front_count {l : List R} (hw : WFr 0 l) : frontR l ≤ countR l := by
  cases l with
  | nil => simp [frontR, countR]
  | cons r l =>
    obtain ⟨h1, h2, h3, h4⟩ := hw
    have := (countR_in h4 (by omega)).1
    rw [front_cons, countR_cons]
    split <;> omega
theorem last_ge2 : ∀ {l : List R} {b : Int}, WFr b l → ∀ r ∈ l, r.2 ≤ lastR l
  | [], _, _, r, hr => by simp at hr
  | [q], _, _, r, hr => by simp at hr; subst hr; exact Int.le_refl _
  | q :: x :: l, b, ⟨h1, h2, h3, h4⟩, r, hr => by
    have hx := last_ge2 h4
    have e : lastR (q :: x :: l) = lastR (x :: l) := by simp [lastR]
    rw [e]
    rcases List.mem_cons.1 hr with rfl | hr
    · have h5 := hx x (by simp)
      have h6 := h4.1
      have h7 := h4.2.1
      omega
    · exact hx r hr
structure IB.Pl (i : IB) (m : Int) : Prop where
  g : i.Good
  e : i.kn = true → EndsI i.e i.l
  c : countR i.l ≤ m
theorem IB.Pl.front {i : IB} {m : Int} (h : i.Pl m) (hk : i.kn = true) : frontR i.l ≤ i.e := by
  have h1 := h.e hk
  have h2 := h.g.e
  cases hl : i.l with
  | nil => simp [frontR]; omega
  | cons r l =>
    rw [hl] at h1
    have := h1 r (by simp)
    rw [front_cons]; split <;> omega
theorem IB.Pl.put1 {i : IB} {m at_ c : Int} (h : i.Pl m) (hm : i.may at_ = true) : (i.put1 at_ c).Pl (m + 1) := by
  obtain ⟨h1, h2, h3⟩ := h
  have hb := IB.may_lt hm
  have hlim := h1.lim
  have hf : far = 1099511627776 := rfl
  have ha : addP at_ (at_ + 1) i.l = Ranges.addR at_ (at_ + 1) i.l := addP_eq hb.1 (by unfold IB.limit at hb; omega)
  refine ⟨h1.put1 hm, fun hk => ?_, ?_⟩
  · show EndsI i.e (addP at_ (at_ + 1) i.l)
    rw [ha]
    refine endsI_addR (h2 hk) ?_
    have hk' : i.kn = true := hk
    simp [IB.may, hk'] at hm
    omega
  · show countR (addP at_ (at_ + 1) i.l) ≤ _
    rw [ha]
    have := countR_addR (f := at_) (t := at_ + 1) h1.wf (by omega)
    omega
theorem IB.Pl.feed {i : IB} {m : Int} (h : i.Pl m) (from_ : Int) (l : List Int) : (feed i from_ l).1.Pl (m + l.length) := by
  suffices key : ∀ (l : List Int) (q : IB × Int × Int) (m : Int), q.1.Pl m → (l.foldl fd q).1.Pl (m + l.length) from key l (i, 0, from_) m h
  intro l
  induction l with
  | nil => intro q m h; simpa using h
  | cons c l ih =>
    intro q m h
    rw [List.foldl_cons]
    have e2 : m + ((c :: l).length : Int) = m + 1 + l.length := by simp; omega
    rw [e2]
    by_cases hm : q.1.may q.2.2 = true
    · have e : fd q c = (q.1.put1 q.2.2 c, q.2.1 + 1, q.2.2 + 1) := if_pos hm
      exact ih _ _ (by rw [e]; exact h.put1 hm)
    · have e : fd q c = (q.1, q.2.1, q.2.2 + 1) := if_neg hm
      exact ih _ _ (by rw [e]; exact ⟨h.g, h.e, by have := h.c; dsimp only; omega⟩)
theorem IB.Pl.mono {i : IB} {m n : Int} (h : i.Pl m) (hmn : m ≤ n) : i.Pl n := ⟨h.g, h.e, Int.le_trans h.c hmn⟩
theorem IB.Pl.put {i : IB} {m : Int} (h : i.Pl m) (from_ : Int) (l : List Int) (fin : Bool) : (i.put from_ l fin).Pl (m + l.length) := by
  have hf := h.feed from_ l
  have hg := h.g.put from_ l fin
  unfold IB.put at hg ⊢
  generalize (ctr.feed i from_ l).1 = j at *
  unfold putE at hg ⊢
  split
  · rename_i hc
    rw [if_pos hc] at hg
    refine ⟨hg, fun _ r hr => ?_, hf.c⟩
    have := last_ge2 hf.g.wf r hr
    show r.2 ≤ from_ + l.length
    omega
  · exact hf
theorem IB.Pl.read {i : IB} {m : Int} (h : i.Pl m) (k : Int) (hm : m ≤ 1600) : (i.read k).Pl m := by
  have hb := h.g.n_bd k
  have hw := h.g.w
  have hc := h.c
  have hfc := front_count h.g.wf
  exact ⟨h.g.read k (by omega), h.e, h.c⟩
section
variable {bd : Bd} {h : VF} {fu : Nat}
theorem OwE.vout {α : Type} {s : St} {v : AV} {sz : Nat} {enc : α → List AV} {l : List α} {fp f : List Nat} (h : OwE s v sz enc l fp) (hd : ∀ b ∈ fp, b ∉ f) : vout f v := by
  rcases h.ow with ⟨rfl, _, _⟩ | ⟨b, len, lo, ex, k, J, rfl, _, _, _, h5⟩
  · trivial
  · exact hd b (by rcases h5 with ⟨_, rfl⟩ | ⟨m, _, _, rfl⟩ <;> simp)
theorem lent_rd {s : St} {b : Nat} {l : List Int} (hg : s.heap.get b = some (.cells (lentC l) .own)) (hb : b < s.next) : RdE s (.sl b 0 l.length (l.length + 3) true 1) 1 encB l := by
  refine ⟨⟨⟨rfl, by omega⟩, by rw [flat_len encB_w]; simp [slen], ?_⟩, encB_w, by omega, hb⟩
  show ob (s.heap.get b) (rdC 0 (l.length * 1)) = _
  rw [hg]
  show sub (lentC l) 0 (l.length * 1) = _
  have : (lentC l).length = l.length + 3 := by unfold lentC; rw [flat_len encB_w]; simp
  rw [sub_of (by rw [this]; omega), List.drop_zero, lentC, List.flatMap_append, List.take_left' (by rw [flat_len encB_w])]
theorem k_put (hs : SortOk h) (n : Nat) {s0 : St} (s : St) (p : Nat) (i : IB) (b : Nat) (Ps : List Obj) (from_ : Int) (l : List Int) (fin : Bool) (hS : Sep s0 s (oI p i :: oC b (lentC l) :: Ps)) (hi : i.Good) (hf : -10000000000000 ≤ from_ ∧ from_ ≤ 10000000000000) (hl : l.length < 3000) (hfu : 4000 < fu) :
    OutOk (callF bd (tab h).get fu (n + 6) 65 [.ptr p 0, num from_, .sl b 0 l.length (l.length + 3) true 1, .bool fin] s) (fun x s' => Is x (num (i.new_ from_ l)) ∧ Sep s0 s' (oI p (i.put from_ l fin) :: oC b (lentC l) :: Ps)) := by
  obtain ⟨f, g, k1, ⟨c1, c2, rfl⟩, k3, up⟩ := hS.hd2
  exact (i_put hs n s p i f from_ _ l fin k1 hi hf (lent_rd c1 c2) (k3 b (by simp)) hl hfu).mono fun x s' ⟨f', r1, r2, r3, r4⟩ => ⟨r1, up (oI _ _) r2 r3 r4⟩
theorem y_put (n : Nat) {s0 : St} (s : St) (p : Nat) (i : IB) (v : AV) (Ps : List Obj) (from_ : Int) (l : List Int) (fin : Bool) (hS : Sep s0 s (oJ p i :: oW v 1 encB l :: Ps)) (hi : i.Good) (hf : -10000000000000 ≤ from_ ∧ from_ ≤ 10000000000000) (hl : l.length < 3000) (hfu : 4000 < fu) :
    OutOk (callF bd (tab h).get fu (n + 4) 77 [.ptr p 0, num from_, v, .bool fin] s) (fun x s' => Is x (num (i.new_ from_ l)) ∧ Sep s0 s' (oJ p (i.put from_ l fin) :: oW v 1 encB l :: Ps)) := by
  obtain ⟨f, g, k1, k2, k3, up⟩ := hS.hd2
  exact (j_put n s p i f from_ v l fin k1 hi hf k2.rd (OwE.vout k2 k3) hl hfu).mono fun x s' ⟨f', r1, r2, r3, r4⟩ => ⟨r1, up (oJ _ _) r2 r3 r4⟩
theorem y_read (n : Nat) {s0 : St} (s : St) (p : Nat) (i : IB) (Ps : List Obj) (k : Int) (hS : Sep s0 s (oJ p i :: Ps)) (hi : i.Good) : OutOk (callF bd (tab h).get fu (n + 4) 75 [.ptr p 0, num k] s) (fun x s' => RdE s' x 1 encB (i.out k) ∧ Sep s0 s' (oW x 1 encB (i.out k) :: oJ p (i.read k) :: Ps)) := by
  obtain ⟨f, k1, up⟩ := hS.hdw
  exact (j_read n s p i f k k1 hi).mono fun x s' ⟨fo, r1, r2, r3, r4⟩ => ⟨r1.rd, up (oJ _ _) (oW x 1 encB _) r2 r1 r3 r4⟩
theorem y_limit (n : Nat) {s0 : St} (s : St) (p : Nat) (i : IB) (Ps : List Obj) (hS : Sep s0 s (oJ p i :: Ps)) (hi : i.Ok) : OutOk (callF bd (tab h).get fu (n + 1) 108 [.ptr p 0] s) (fun x s' => Is x (num i.limit) ∧ Is s' s) := by
  obtain ⟨f, k1, up⟩ := hS.hd
  exact j_limit n s p i f k1 hi
theorem y_seen (n : Nat) {s0 : St} (s : St) (p : Nat) (i : IB) (m : Int) (Ps : List Obj) (hS : Sep s0 s (oJ p i :: Ps)) (hi : i.Pl m) : OutOk (callF bd (tab h).get fu (n + 3) 110 [.ptr p 0] s) (fun x s' => Is x (num i.seen) ∧ Is s' s) := by
  obtain ⟨f, k1, up⟩ := hS.hd
  exact j_seen n s p i f k1 hi.g.ok hi.front
theorem y_ready (n : Nat) {s0 : St} (s : St) (p : Nat) (i : IB) (Ps : List Obj) (hS : Sep s0 s (oJ p i :: Ps)) (hi : i.Good) : OutOk (callF bd (tab h).get fu (n + 3) 107 [.ptr p 0] s) (fun x s' => Is x (num i.ready) ∧ Is s' s) := by
  obtain ⟨f, k1, up⟩ := hS.hd
  exact j_ready n s p i f k1 hi.ok (front_bd hi.wf)
theorem y_done (n : Nat) {s0 : St} (s : St) (p : Nat) (i : IB) (Ps : List Obj) (hS : Sep s0 s (oJ p i :: Ps)) (hi : i.Good) : OutOk (callF bd (tab h).get fu (n + 1) 111 [.ptr p 0] s) (fun x s' => Is x (.bool i.done) ∧ Is s' s) := by
  obtain ⟨f, k1, up⟩ := hS.hd
  exact j_done n s p i f k1 hi.e.1
theorem Sep.getJ {s0 s : St} {p : Nat} {i : IB} {Ps : List Obj} (hS : Sep s0 s (oJ p i :: Ps)) : ∃ v u, s.heap.get p = some (.cells [num i.w, num i.tk, num (eN i), v, u] .own) := by
  obtain ⟨f, ⟨v, fv, u, fu, h1, _⟩, up⟩ := hS.hd; exact ⟨v, u, h1⟩
theorem rv_10 {a b c d e f g i j k : St} : [a, b, c, d, e, f, g, i, j, k].reverse = [k, j, i, g, f, e, d, c, b, a] := rfl
theorem same16 (n : Nat) {s0 : St} (s : St) (p q : Nat) (i : IB) (m : Int) (Ps : List Obj) (hS : Sep s0 s (oI p i :: oJ q i :: Ps)) (hi : i.Pl m) :
    OutOk (callF bd (tab h).get fu (n + 5) 79 [.ptr p 0, .ptr q 0] s) (fun x s' => Is x (.bool true) ∧ Sep s0 s' (oI p i :: oJ q i :: Ps)) := by
  refine call_code (t79 h) rfl ?_
  simp (disch := omega) only [vm0, vm1, vm2, vm3, vm4, vm5, vm6, vm7, fPick, fBox, fBuild, fBsl, fLd, fLda, fSt, fNilc, fBin, fEq, fUn, fMkf, fFa, fFld, fFlda, fExt, evo, wr, wrC, frame, Bool.not_true, Bool.not_false, beq_self_eq_true, List.cons_append, List.nil_append, Nat.add_zero, Nat.zero_add, Nat.reduceAdd, Nat.reduceMul, Nat.reduceSub, Bool.and_true, Bool.true_and, Bool.and_self, beq_dec, fApp, Int.toNat_natCast, Nat.sub_zero, vmI, vc79, vmU]
  refine call_ok rfl rfl (e_seen n s p i _ hS hi.g) ?_
  rintro x s1 ⟨rfl, hS1⟩
  simp (disch := omega) only [vm0, vm1, vm2, vm3, vm4, vm5, vm6, vm7, fPick, fBox, fBuild, fBsl, fLd, fLda, fSt, fNilc, fBin, fEq, fUn, fMkf, fFa, fFld, fFlda, fExt, evo, wr, wrC, frame, Bool.not_true, Bool.not_false, beq_self_eq_true, List.cons_append, List.nil_append, Nat.add_zero, Nat.zero_add, Nat.reduceAdd, Nat.reduceMul, Nat.reduceSub, Bool.and_true, Bool.true_and, Bool.and_self, beq_dec, fApp, Int.toNat_natCast, Nat.sub_zero, vmI, vmU]
  refine call_ok rfl rfl (y_seen (n + 1) s1 q i m _ hS1.swap hi) ?_
  rintro x s2 ⟨rfl, rfl⟩
  simp (disch := omega) only [vm0, vm1, vm2, vm3, vm4, vm5, vm6, vm7, fPick, fBox, fBuild, fBsl, fLd, fLda, fSt, fNilc, fBin, fEq, fUn, fMkf, fFa, fFld, fFlda, fExt, evo, wr, wrC, frame, Bool.not_true, Bool.not_false, beq_self_eq_true, List.cons_append, List.nil_append, Nat.add_zero, Nat.zero_add, Nat.reduceAdd, Nat.reduceMul, Nat.reduceSub, Bool.and_true, Bool.true_and, Bool.and_self, beq_dec, fApp, Int.toNat_natCast, Nat.sub_zero, vmI, vmU]
  refine call_ok rfl rfl (e_limit (n + 3) s2 p i _ hS1 hi.g) ?_
  rintro x s3 ⟨rfl, rfl⟩
  simp (disch := omega) only [vm0, vm1, vm2, vm3, vm4, vm5, vm6, vm7, fPick, fBox, fBuild, fBsl, fLd, fLda, fSt, fNilc, fBin, fEq, fUn, fMkf, fFa, fFld, fFlda, fExt, evo, wr, wrC, frame, Bool.not_true, Bool.not_false, beq_self_eq_true, List.cons_append, List.nil_append, Nat.add_zero, Nat.zero_add, Nat.reduceAdd, Nat.reduceMul, Nat.reduceSub, Bool.and_true, Bool.true_and, Bool.and_self, beq_dec, fApp, Int.toNat_natCast, Nat.sub_zero, vmI, vmU]
  refine call_ok rfl rfl (y_limit (n + 3) s3 q i _ hS1.swap hi.g.ok) ?_
  rintro x s4 ⟨rfl, rfl⟩
  simp (disch := omega) only [vm0, vm1, vm2, vm3, vm4, vm5, vm6, vm7, fPick, fBox, fBuild, fBsl, fLd, fLda, fSt, fNilc, fBin, fEq, fUn, fMkf, fFa, fFld, fFlda, fExt, evo, wr, wrC, frame, Bool.not_true, Bool.not_false, beq_self_eq_true, List.cons_append, List.nil_append, Nat.add_zero, Nat.zero_add, Nat.reduceAdd, Nat.reduceMul, Nat.reduceSub, Bool.and_true, Bool.true_and, Bool.and_self, beq_dec, fApp, Int.toNat_natCast, Nat.sub_zero, vmI, vmU]
  refine call_ok rfl rfl (e_ready n s4 p i _ hS1 hi.g) ?_
  rintro x s5 ⟨rfl, hS5⟩
  simp (disch := omega) only [vm0, vm1, vm2, vm3, vm4, vm5, vm6, vm7, fPick, fBox, fBuild, fBsl, fLd, fLda, fSt, fNilc, fBin, fEq, fUn, fMkf, fFa, fFld, fFlda, fExt, evo, wr, wrC, frame, Bool.not_true, Bool.not_false, beq_self_eq_true, List.cons_append, List.nil_append, Nat.add_zero, Nat.zero_add, Nat.reduceAdd, Nat.reduceMul, Nat.reduceSub, Bool.and_true, Bool.true_and, Bool.and_self, beq_dec, fApp, Int.toNat_natCast, Nat.sub_zero, vmI, vmU]
  refine call_ok rfl rfl (y_ready (n + 1) s5 q i _ hS5.swap hi.g) ?_
  rintro x s6 ⟨rfl, rfl⟩
  simp (disch := omega) only [vm0, vm1, vm2, vm3, vm4, vm5, vm6, vm7, fPick, fBox, fBuild, fBsl, fLd, fLda, fSt, fNilc, fBin, fEq, fUn, fMkf, fFa, fFld, fFlda, fExt, evo, wr, wrC, frame, Bool.not_true, Bool.not_false, beq_self_eq_true, List.cons_append, List.nil_append, Nat.add_zero, Nat.zero_add, Nat.reduceAdd, Nat.reduceMul, Nat.reduceSub, Bool.and_true, Bool.true_and, Bool.and_self, beq_dec, fApp, Int.toNat_natCast, Nat.sub_zero, vmI, vmU]
  refine call_ok rfl rfl (e_done (n + 3) s6 p i _ hS5) ?_
  rintro x s7 ⟨rfl, rfl⟩
  simp (disch := omega) only [vm0, vm1, vm2, vm3, vm4, vm5, vm6, vm7, fPick, fBox, fBuild, fBsl, fLd, fLda, fSt, fNilc, fBin, fEq, fUn, fMkf, fFa, fFld, fFlda, fExt, evo, wr, wrC, frame, Bool.not_true, Bool.not_false, beq_self_eq_true, List.cons_append, List.nil_append, Nat.add_zero, Nat.zero_add, Nat.reduceAdd, Nat.reduceMul, Nat.reduceSub, Bool.and_true, Bool.true_and, Bool.and_self, beq_dec, fApp, Int.toNat_natCast, Nat.sub_zero, vmI, vmU]
  refine call_ok rfl rfl (y_done (n + 3) s7 q i _ hS5.swap hi.g) ?_
  rintro x s8 ⟨rfl, rfl⟩
  obtain ⟨v, u, hg⟩ := hS5.swap.getJ
  simp (disch := omega) only [vm0, vm1, vm2, vm3, vm4, vm5, vm6, vm7, fPick, fBox, fBuild, fBsl, fLd, fLda, fSt, fNilc, fBin, fEq, fUn, fMkf, fFa, fFld, fFlda, fExt, evo, wr, wrC, frame, Bool.not_true, Bool.not_false, beq_self_eq_true, List.cons_append, List.nil_append, Nat.add_zero, Nat.zero_add, Nat.reduceAdd, Nat.reduceMul, Nat.reduceSub, Bool.and_true, Bool.true_and, Bool.and_self, beq_dec, fApp, Int.toNat_natCast, Nat.sub_zero, vmI, vmU]
  refine call_ok rfl rfl (e_taken (n + 3) s8 p i _ hS5) ?_
  rintro x s9 ⟨rfl, rfl⟩
  simp (disch := omega) only [vm0, vm1, vm2, vm3, vm4, vm5, vm6, vm7, fPick, fBox, fBuild, fBsl, fLd, fLda, fSt, fNilc, fBin, fEq, fUn, fMkf, fFa, fFld, fFlda, fExt, evo, wr, wrC, frame, Bool.not_true, Bool.not_false, beq_self_eq_true, List.cons_append, List.nil_append, Nat.add_zero, Nat.zero_add, Nat.reduceAdd, Nat.reduceMul, Nat.reduceSub, Bool.and_true, Bool.true_and, Bool.and_self, beq_dec, fApp, Int.toNat_natCast, Nat.sub_zero, vmI, vmU, hg, rv_10]
  exact ⟨rfl, hS5⟩
end
end Go.Proofs.Ytekhpohcjfjhfaa.ctr
namespace Go.Proofs.Ytekhpohcjfjhfaa.ctr
open Go.Vm Go.RowKit Go.Ranges
set_option linter.unusedVariables false
set_option linter.unusedSimpArgs false
set_option linter.constructorNameAsVariable false
/-! ## acts of the law of chapter 16 -/
structure A16 where
  d : Int
  f : Int
  n : Int
  u : AV
  b : List Int
  fin : Bool
def encN (x : A16) : List AV := [num x.d, num x.f, num x.n, x.u, .bool x.fin]
theorem encN_w : ∀ x, (encN x).length = 5 := fun _ => rfl
theorem _root_.Go.Vm.Arg0.acts16 {E : Env} {s : St} {w : World} (h : Arg0 E s w) {a : Option Addr} {len cap : Nat} {V : Nat → Value} (hq : IsRowV w a len cap 5 V) (hk : ∀ i, i < cap * 5 → FkOk w (([.i, .i, .i, .S, .b] : List Fk).getD (i % 5) .i) (V i)) :
    ∃ v E' s' l, Arg0 E' s' w ∧ E.le E' ∧ Fr s s' [] ∧ VR rho0 E' v (.slice a len cap) ∧ RdE s' v 5 encN l ∧ ∀ x ∈ l, In64 x.d ∧ In64 x.f ∧ In64 x.n ∧ RdE s' x.u 1 encB x.b := by
  obtain ⟨v, E', s', l, h1, h2, h3, h4, h5, _, h6⟩ := h.recs (ks := [.i, .i, .i, .S, .b]) hq hk (by decide) encN (fun f => ⟨(f 0).z, (f 1).z, (f 2).z, (f 3).u, (f 3).l, (f 4).x⟩) encN_w (by
    intro s f hf j hj
    have hj : j < 5 := hj
    have k0 : ClOk s (f 0) .i := hf 0 (by decide)
    have k1 : ClOk s (f 1) .i := hf 1 (by decide)
    have k2 : ClOk s (f 2) .i := hf 2 (by decide)
    have k3 : ClOk s (f 3) .S := hf 3 (by decide)
    have k4 : ClOk s (f 4) .b := hf 4 (by decide)
    rcases j with _ | _ | _ | _ | _ | j
    · rw [k0.i.1]; rfl
    · rw [k1.i.1]; rfl
    · rw [k2.i.1]; rfl
    · rw [k3.S.1]; rfl
    · rw [k4.b]; rfl
    · omega)
  refine ⟨v, E', s', l, h1, h2, h3, h4, h5, fun x hx => ?_⟩
  obtain ⟨f, rfl, hf⟩ := h6 x hx
  have k0 : ClOk s' (f 0) .i := hf 0 (by decide)
  have k1 : ClOk s' (f 1) .i := hf 1 (by decide)
  have k2 : ClOk s' (f 2) .i := hf 2 (by decide)
  have k3 : ClOk s' (f 3) .S := hf 3 (by decide)
  exact ⟨k0.i.2, k1.i.2, k2.i.2, k3.S.2.1⟩
noncomputable def vc15a : VC := (.seq (.reg [.i (.fa 0 (.w 2)), .i (.ld (.t 0)), .i (.call (.c (.fn 17 [] [])) [(.t 0), (.c (.int .i64 (.c 4)))]), .i (.bin .eql (.t 0) (.c (.int .i64 (.c 3))))] [(14, (.t 0))]) (.cond (.w 14) (.seq (.reg [.i (.fa 2 (.w 2)), .i (.ld (.t 0)), .i (.call (.c (.fn 17 [] [])) [(.t 0), (.c (.int .i64 (.c 30)))]), .i (.bin .sub (.t 0) (.c (.int .i64 (.c 1))))] [(7, (.t 0))]) (.seq (.seq (.reg [.i (.fa 2 (.w 2)), .i (.ld (.t 0)), .i (.bin .rem (.t 0) (.c (.int .i64 (.c 13)))), .i (.bin .eql (.t 0) (.c (.int .i64 (.c 12))))] [(15, (.t 0))]) (.cond (.w 15) (.reg [.i (.fa 2 (.w 2)), .i (.ld (.t 0))] [(7, (.t 0))]) .skip)) (.seq (.reg [.i (.call (.c (.fn 69 [] [])) [(.w 3), (.w 7)]), .i (.call (.c (.fn 75 [] [])) [(.w 5), (.w 7)]), .i (.call (.c (.fn 51 [] [])) [(.t 1), (.t 0)]), .i (.un .not (.t 0))] [(16, (.t 0))]) (.cond (.w 16) (.seq (.reg [] [(20, (.c (.bool false)))]) .ret) .skip)))) (.seq (.reg [.i (.fa 1 (.w 2)), .i (.ld (.t 0)), .i (.call (.c (.fn 17 [] [])) [(.t 0), (.c (.int .i64 (.c 70)))]), .i (.bin .sub (.t 0) (.c (.int .i64 (.c 3))))] [(8, (.t 0))]) (.seq (.seq (.reg [.i (.fa 1 (.w 2)), .i (.ld (.t 0)), .i (.bin .rem (.t 0) (.c (.int .i64 (.c 19)))), .i (.bin .eql (.t 0) (.c (.int .i64 (.c 18))))] [(17, (.t 0))]) (.cond (.w 17) (.reg [.i (.fa 1 (.w 2)), .i (.ld (.t 0)), .i (.call (.c (.fn 17 [] [])) [(.t 0), (.c (.int .i64 (.c 2199023255552)))]), .i (.bin .sub (.t 0) (.c (.int .i64 (.c 1099511627776))))] [(8, (.t 0))]) .skip)) (.seq (.reg [.i (.fa 3 (.w 2)), .i (.ld (.t 0)), .i (.call (.c (.fn 31 [] [])) [(.t 0), (.c (.int .i64 (.c 25)))])] [(6, (.t 0))]) (.seq (.reg [.i (.call (.c (.fn 76 [] [])) [(.w 6)])] [(9, (.t 0))]) (.seq (.reg [.i (.fa 4 (.w 2)), .i (.ld (.t 0)), .g (.t 0) true (.fa 2 (.w 2)), .g (.t 1) true (.ld (.t 0)), .g (.t 2) true (.bin .rem (.t 0) (.c (.int .i64 (.c 3)))), .g (.t 3) true (.bin .eql (.t 0) (.c (.int .i64 (.c 0)))), .i (.pick (.t 4) (.t 0) (.c (.bool false)))] [(10, (.t 0))]) (.seq (.reg [.i (.call (.c (.fn 65 [] [])) [(.w 3), (.w 8), (.w 9), (.w 10)]), .i (.call (.c (.fn 77 [] [])) [(.w 5), (.w 8), (.w 6), (.w 10)]), .i (.bin .neq (.t 1) (.t 0)), .g (.t 0) false (.mv (.w 9)), .g (.t 1) false (.mv (.w 6)), .g (.t 2) false (.call (.c (.fn 78 [] [])) [(.t 1), (.t 0)]), .g (.t 3) false (.un .not (.t 0)), .i (.pick (.t 4) (.c (.bool true)) (.t 0))] [(18, (.t 0))]) (.cond (.w 18) (.seq (.reg [] [(20, (.c (.bool false)))]) .ret) .skip)))))))))
theorem vc15_0_eq : vc15_0 = (.seq (.reg [.i (.ia 5 (.w 1) (.w 4)), .i (.lda 5 (.t 0)), .i (.new [.int .i64 (.c 0), .int .i64 (.c 0), .int .i64 (.c 0), .nils, .bool false]), .i (.st 5 (.t 0) (.t 1))] [(2, (.t 1))]) (.seq vc15a (.seq (.reg [.i (.call (.c (.fn 79 [] [])) [(.w 3), (.w 5)]), .i (.un .not (.t 0))] [(19, (.t 0))]) (.cond (.w 19) (.seq (.reg [] [(20, (.c (.bool false)))]) .ret) .skip)))) := rfl
noncomputable def vc15d : VC := (.seq (.reg [.i (.call (.c (.fn 65 [] [])) [(.w 3), (.w 8), (.w 9), (.w 10)]), .i (.call (.c (.fn 77 [] [])) [(.w 5), (.w 8), (.w 6), (.w 10)]), .i (.bin .neq (.t 1) (.t 0)), .g (.t 0) false (.mv (.w 9)), .g (.t 1) false (.mv (.w 6)), .g (.t 2) false (.call (.c (.fn 78 [] [])) [(.t 1), (.t 0)]), .g (.t 3) false (.un .not (.t 0)), .i (.pick (.t 4) (.c (.bool true)) (.t 0))] [(18, (.t 0))]) (.cond (.w 18) (.seq (.reg [] [(20, (.c (.bool false)))]) .ret) .skip))
noncomputable def vc15b : VC := (.seq (.reg [.i (.fa 3 (.w 2)), .i (.ld (.t 0)), .i (.call (.c (.fn 31 [] [])) [(.t 0), (.c (.int .i64 (.c 25)))])] [(6, (.t 0))]) (.seq (.reg [.i (.call (.c (.fn 76 [] [])) [(.w 6)])] [(9, (.t 0))]) (.seq (.reg [.i (.fa 4 (.w 2)), .i (.ld (.t 0)), .g (.t 0) true (.fa 2 (.w 2)), .g (.t 1) true (.ld (.t 0)), .g (.t 2) true (.bin .rem (.t 0) (.c (.int .i64 (.c 3)))), .g (.t 3) true (.bin .eql (.t 0) (.c (.int .i64 (.c 0)))), .i (.pick (.t 4) (.t 0) (.c (.bool false)))] [(10, (.t 0))]) vc15d)))
noncomputable def vc15c : VC := (.seq (.reg [.i (.call (.c (.fn 69 [] [])) [(.w 3), (.w 7)]), .i (.call (.c (.fn 75 [] [])) [(.w 5), (.w 7)]), .i (.call (.c (.fn 51 [] [])) [(.t 1), (.t 0)]), .i (.un .not (.t 0))] [(16, (.t 0))]) (.cond (.w 16) (.seq (.reg [] [(20, (.c (.bool false)))]) .ret) .skip))
noncomputable def vc15a1 : VC := (.seq (.reg [.i (.fa 0 (.w 2)), .i (.ld (.t 0)), .i (.call (.c (.fn 17 [] [])) [(.t 0), (.c (.int .i64 (.c 4)))]), .i (.bin .eql (.t 0) (.c (.int .i64 (.c 3))))] [(14, (.t 0))]) (.cond (.w 14) (.seq (.reg [.i (.fa 2 (.w 2)), .i (.ld (.t 0)), .i (.call (.c (.fn 17 [] [])) [(.t 0), (.c (.int .i64 (.c 30)))]), .i (.bin .sub (.t 0) (.c (.int .i64 (.c 1))))] [(7, (.t 0))]) (.seq (.seq (.reg [.i (.fa 2 (.w 2)), .i (.ld (.t 0)), .i (.bin .rem (.t 0) (.c (.int .i64 (.c 13)))), .i (.bin .eql (.t 0) (.c (.int .i64 (.c 12))))] [(15, (.t 0))]) (.cond (.w 15) (.reg [.i (.fa 2 (.w 2)), .i (.ld (.t 0))] [(7, (.t 0))]) .skip)) vc15c)) (.seq (.reg [.i (.fa 1 (.w 2)), .i (.ld (.t 0)), .i (.call (.c (.fn 17 [] [])) [(.t 0), (.c (.int .i64 (.c 70)))]), .i (.bin .sub (.t 0) (.c (.int .i64 (.c 3))))] [(8, (.t 0))]) (.seq (.seq (.reg [.i (.fa 1 (.w 2)), .i (.ld (.t 0)), .i (.bin .rem (.t 0) (.c (.int .i64 (.c 19)))), .i (.bin .eql (.t 0) (.c (.int .i64 (.c 18))))] [(17, (.t 0))]) (.cond (.w 17) (.reg [.i (.fa 1 (.w 2)), .i (.ld (.t 0)), .i (.call (.c (.fn 17 [] [])) [(.t 0), (.c (.int .i64 (.c 2199023255552)))]), .i (.bin .sub (.t 0) (.c (.int .i64 (.c 1099511627776))))] [(8, (.t 0))]) .skip)) vc15b))))
theorem vc15a_eq : vc15a = vc15a1 := rfl
noncomputable def vc15m : VC := (.seq (.reg [.i (.call (.c (.fn 64 [] [])) [(.w 0)]), .i (.call (.c (.fn 74 [] [])) [(.w 0)])] [(3, (.t 1)), (5, (.t 0))]) (.seq (.seq (.reg [.i (.eq false .p (.w 3) (.c (.nilp)))] [(12, (.t 0))]) (.cond (.w 12) (.seq (.reg [] [(20, (.c (.bool false)))]) .ret) .skip)) (.seq (.seq (.reg [] [(4, (.c (.int .i64 (.c 0))))]) (.block 0 (.loop vc15_1))) (.seq (.reg [.i (.call (.c (.fn 71 [] [])) [])] [(20, (.t 0))]) .ret))))
theorem vc15_eq : vc15 = (.seq (.reg [] [(20, (.c (.bool false)))]) (.seq (.seq (.reg [.i (.bin .rem (.w 0) (.c (.int .i64 (.c 7)))), .i (.bin .neq (.t 0) (.c (.int .i64 (.c 6))))] [(11, (.t 0))]) (.cond (.w 11) (.reg [.i (.call (.c (.fn 17 [] [])) [(.w 0), (.c (.int .i64 (.c 40)))])] [(0, (.t 0))]) .skip)) vc15m)) := rfl
section
variable {bd : Bd} {h : VF} {fu : Nat}
def IPost (s0 : St) (w : Int) (v : AV) (a p q k : Nat) (m : Int) (e : Ex) (F : LF) (s : St) : Prop :=
  e = .normal ∧ ∃ i : IB, i.Pl m ∧ Sep s0 s [oI p i, oJ q i] ∧ ∃ z6 z7 z8 z9 z10 z11 z13 z14 z15 z16 z17 z18 z19, F = [some (num w), some v, some (.ptr a 0), some (.ptr p 0), some (num (k : Int)), some (.ptr q 0), z6, z7, z8, z9, z10, z11, some (.bool false), z13, z14, z15, z16, z17, z18, z19, some (.bool false)]
theorem ip_read (n : Nat) {s0 : St} (s : St) (i : IB) (w nn m : Int) (v : AV) (a p q k : Nat) (A : A16) (z6 z8 z9 z10 z11 z13 z14 z15 z16 z17 z18 z19 : Option AV) (hi : i.Pl m) (hm : m ≤ 1500) (hS : Sep s0 s [oC a [num A.d, num A.f, num A.n, A.u, .bool A.fin], oI p i, oJ q i]) (hfu : 4000 < fu) :
    RsOk (exec bd (callF bd (tab h).get fu (n + 7)) fu vc15c [some (num w), some v, some (.ptr a 0), some (.ptr p 0), some (num (k : Int)), some (.ptr q 0), z6, some (num nn), z8, z9, z10, z11, some (.bool false), z13, z14, z15, z16, z17, z18, z19, some (.bool false)] s) (IPost s0 w v a p q k (m + 25)) := by
  have hg := hi.g
  have hol : (i.out nn).length ≤ 3000 := by
    have := hg.ok.b
    unfold IB.out
    rw [List.length_drop, List.length_take]; omega
  simp (disch := omega) only [vm0, vm1, vm2, vm3, vm4, vm5, vm6, vm7, fPick, fBox, fBuild, fBsl, fLd, fLda, fSt, fNilc, fBin, fEq, fUn, fMkf, fFa, fFld, fFlda, fExt, evo, wr, wrC, frame, Bool.not_true, Bool.not_false, beq_self_eq_true, List.cons_append, List.nil_append, Nat.add_zero, Nat.zero_add, Nat.reduceAdd, Nat.reduceMul, Nat.reduceSub, Bool.and_true, Bool.true_and, Bool.and_self, beq_dec, fApp, Int.toNat_natCast, Nat.sub_zero, vmI, vc15c]
  refine call_ok rfl rfl (e_read (n + 2) s p i _ nn hS.swap hg) ?_
  rintro x s1 ⟨k1, hS1⟩
  simp (disch := omega) only [vm0, vm1, vm2, vm3, vm4, vm5, vm6, vm7, fPick, fBox, fBuild, fBsl, fLd, fLda, fSt, fNilc, fBin, fEq, fUn, fMkf, fFa, fFld, fFlda, fExt, evo, wr, wrC, frame, Bool.not_true, Bool.not_false, beq_self_eq_true, List.cons_append, List.nil_append, Nat.add_zero, Nat.zero_add, Nat.reduceAdd, Nat.reduceMul, Nat.reduceSub, Bool.and_true, Bool.true_and, Bool.and_self, beq_dec, fApp, Int.toNat_natCast, Nat.sub_zero, vmI]
  refine call_ok rfl rfl (y_read (n + 3) s1 q i _ nn ((hS1.re ((List.perm_middle (l₁ := [_, _, _])).trans (.cons _ (.refl _))))) hg) ?_
  rintro y s2 ⟨k2, hS2⟩
  have k3 := (((hS2.re ((List.perm_middle (l₁ := [_, _])).trans (.cons _ (.refl _)))))).rdW
  simp (disch := omega) only [vm0, vm1, vm2, vm3, vm4, vm5, vm6, vm7, fPick, fBox, fBuild, fBsl, fLd, fLda, fSt, fNilc, fBin, fEq, fUn, fMkf, fFa, fFld, fFlda, fExt, evo, wr, wrC, frame, Bool.not_true, Bool.not_false, beq_self_eq_true, List.cons_append, List.nil_append, Nat.add_zero, Nat.zero_add, Nat.reduceAdd, Nat.reduceMul, Nat.reduceSub, Bool.and_true, Bool.true_and, Bool.and_self, beq_dec, fApp, Int.toNat_natCast, Nat.sub_zero, vmI]
  refine call_ok rfl rfl (sameB (n + 6) s2 x y _ _ k3 k2 (by omega) (by omega)) ?_
  rintro z s3 ⟨rfl, rfl⟩
  simp (disch := omega) only [vm0, vm1, vm2, vm3, vm4, vm5, vm6, vm7, fPick, fBox, fBuild, fBsl, fLd, fLda, fSt, fNilc, fBin, fEq, fUn, fMkf, fFa, fFld, fFlda, fExt, evo, wr, wrC, frame, Bool.not_true, Bool.not_false, beq_self_eq_true, List.cons_append, List.nil_append, Nat.add_zero, Nat.zero_add, Nat.reduceAdd, Nat.reduceMul, Nat.reduceSub, Bool.and_true, Bool.true_and, Bool.and_self, beq_dec, fApp, Int.toNat_natCast, Nat.sub_zero, vmI]
  exact ⟨rfl, i.read nn, (hi.read nn (by omega)).mono (by omega), ((hS2.re (.cons _ ((List.perm_middle (l₁ := [_])).trans (.cons _ ((List.perm_middle (l₁ := [_, _])).trans (.cons _ ((List.perm_middle (l₁ := [_])).trans (.cons _ (.refl _))))))))).drop.drop.drop), _, _, _, _, _, _, _, _, _, _, _, _, _, rfl⟩
theorem ip_put2 (hs : SortOk h) (n : Nat) {s0 : St} (s : St) (i : IB) (w fr m : Int) (v : AV) (a p q k : Nat) (A : A16) (c : List AV) (u : AV) (b : Nat) (B : List Int) (fin : Bool) (z7 z11 z13 z14 z15 z16 z17 z18 z19 : Option AV) (hi : i.Pl m) (hm : m ≤ 1500) (hfr : -10000000000000 ≤ fr ∧ fr ≤ 10000000000000) (hS : Sep s0 s [oC b (lentC B), oW u 1 encB B, oC a c, oI p i, oJ q i]) (hlB : B.length ≤ 25) (hfu : 4000 < fu) :
    RsOk (exec bd (callF bd (tab h).get fu (n + 7)) fu vc15d [some (num w), some v, some (.ptr a 0), some (.ptr p 0), some (num (k : Int)), some (.ptr q 0), some u, z7, some (num fr), some (.sl b 0 B.length (B.length + 3) true 1), some (.bool fin), z11, some (.bool false), z13, z14, z15, z16, z17, z18, z19, some (.bool false)] s) (IPost s0 w v a p q k (m + 25)) := by
  have hg := hi.g
  simp (disch := omega) only [vm0, vm1, vm2, vm3, vm4, vm5, vm6, vm7, fPick, fBox, fBuild, fBsl, fLd, fLda, fSt, fNilc, fBin, fEq, fUn, fMkf, fFa, fFld, fFlda, fExt, evo, wr, wrC, frame, Bool.not_true, Bool.not_false, beq_self_eq_true, List.cons_append, List.nil_append, Nat.add_zero, Nat.zero_add, Nat.reduceAdd, Nat.reduceMul, Nat.reduceSub, Bool.and_true, Bool.true_and, Bool.and_self, beq_dec, fApp, Int.toNat_natCast, Nat.sub_zero, vmI, vc15d]
  refine call_ok rfl rfl (k_put hs (n + 1) s p i b _ fr B fin ((hS.re ((List.perm_middle (l₁ := [_, _, _])).trans (.cons _ (.refl _))))) hg hfr (by omega) hfu) ?_
  rintro x s1 ⟨rfl, hS1⟩
  simp (disch := omega) only [vm0, vm1, vm2, vm3, vm4, vm5, vm6, vm7, fPick, fBox, fBuild, fBsl, fLd, fLda, fSt, fNilc, fBin, fEq, fUn, fMkf, fFa, fFld, fFlda, fExt, evo, wr, wrC, frame, Bool.not_true, Bool.not_false, beq_self_eq_true, List.cons_append, List.nil_append, Nat.add_zero, Nat.zero_add, Nat.reduceAdd, Nat.reduceMul, Nat.reduceSub, Bool.and_true, Bool.true_and, Bool.and_self, beq_dec, fApp, Int.toNat_natCast, Nat.sub_zero, vmI]
  refine call_ok rfl rfl (y_put (n + 3) s1 q i u _ fr B fin ((hS1.re ((List.perm_middle (l₁ := [_, _, _, _])).trans (.cons _ ((List.perm_middle (l₁ := [_, _])).trans (.cons _ (.refl _))))))) hg hfr (by omega) hfu) ?_
  rintro x s2 ⟨rfl, hS2⟩
  obtain ⟨fo, ⟨q1, q2, _⟩, _⟩ := (((hS2.re ((List.perm_middle (l₁ := [_, _, _])).trans (.cons _ (.refl _)))))).hd
  simp (disch := omega) only [vm0, vm1, vm2, vm3, vm4, vm5, vm6, vm7, fPick, fBox, fBuild, fBsl, fLd, fLda, fSt, fNilc, fBin, fEq, fUn, fMkf, fFa, fFld, fFlda, fExt, evo, wr, wrC, frame, Bool.not_true, Bool.not_false, beq_self_eq_true, List.cons_append, List.nil_append, Nat.add_zero, Nat.zero_add, Nat.reduceAdd, Nat.reduceMul, Nat.reduceSub, Bool.and_true, Bool.true_and, Bool.and_self, beq_dec, fApp, Int.toNat_natCast, Nat.sub_zero, vmI]
  refine call_ok rfl rfl (intact (n + 6) s2 u B b hS2.swap.rdW (by omega) q1 q2 hfu) ?_
  rintro x s3 ⟨rfl, rfl⟩
  simp (disch := omega) only [vm0, vm1, vm2, vm3, vm4, vm5, vm6, vm7, fPick, fBox, fBuild, fBsl, fLd, fLda, fSt, fNilc, fBin, fEq, fUn, fMkf, fFa, fFld, fFlda, fExt, evo, wr, wrC, frame, Bool.not_true, Bool.not_false, beq_self_eq_true, List.cons_append, List.nil_append, Nat.add_zero, Nat.zero_add, Nat.reduceAdd, Nat.reduceMul, Nat.reduceSub, Bool.and_true, Bool.true_and, Bool.and_self, beq_dec, fApp, Int.toNat_natCast, Nat.sub_zero, vmI]
  exact ⟨rfl, i.put fr B fin, (hi.put fr B fin).mono (by omega), ((hS2.re ((List.perm_middle (l₁ := [_])).trans (.cons _ ((List.perm_middle (l₁ := [_, _])).trans (.cons _ ((List.perm_middle (l₁ := [_, _])).trans (.cons _ ((List.perm_middle (l₁ := [_])).trans (.cons _ (.refl _)))))))))).drop.drop.drop), _, _, _, _, _, _, _, _, _, _, _, _, _, rfl⟩
theorem ip_put (hs : SortOk h) (n : Nat) {s0 : St} (s : St) (i : IB) (w fr m : Int) (v : AV) (a p q k : Nat) (A : A16) (z6 z7 z9 z10 z11 z13 z14 z15 z16 z17 z18 z19 : Option AV) (hi : i.Pl m) (hm : m ≤ 1500) (hfr : -10000000000000 ≤ fr ∧ fr ≤ 10000000000000) (hS : Sep s0 s [oC a [num A.d, num A.f, num A.n, A.u, .bool A.fin], oI p i, oJ q i]) (hb : RdE s0 A.u 1 encB A.b) (hfu : 4000 < fu) :
    RsOk (exec bd (callF bd (tab h).get fu (n + 7)) fu vc15b [some (num w), some v, some (.ptr a 0), some (.ptr p 0), some (num (k : Int)), some (.ptr q 0), z6, z7, some (num fr), z9, z10, z11, some (.bool false), z13, z14, z15, z16, z17, z18, z19, some (.bool false)] s) (IPost s0 w v a p q k (m + 25)) := by
  have hg := hi.g
  have g1 := hS.getC
  simp (disch := omega) only [vm0, vm1, vm2, vm3, vm4, vm5, vm6, vm7, fPick, fBox, fBuild, fBsl, fLd, fLda, fSt, fNilc, fBin, fEq, fUn, fMkf, fFa, fFld, fFlda, fExt, evo, wr, wrC, frame, Bool.not_true, Bool.not_false, beq_self_eq_true, List.cons_append, List.nil_append, Nat.add_zero, Nat.zero_add, Nat.reduceAdd, Nat.reduceMul, Nat.reduceSub, Bool.and_true, Bool.true_and, Bool.and_self, beq_dec, fApp, Int.toNat_natCast, Nat.sub_zero, vmI, vc15b, g1]
  refine call_ok rfl rfl (cutB (n + 5) s A.u A.b 25 (by omega) (by omega) (hb.fr0 hS.frm)) ?_
  rintro u s1 ⟨f2, w4, w2, w3⟩
  have hS1 := hS.push (P := oW u 1 encB (A.b.take (Int.toNat 25))) w4 w2 w3
  have hlB : (A.b.take (Int.toNat 25)).length ≤ 25 := List.length_take_le _ _
  generalize A.b.take (Int.toNat 25) = B at *
  simp (disch := omega) only [vm0, vm1, vm2, vm3, vm4, vm5, vm6, vm7, fPick, fBox, fBuild, fBsl, fLd, fLda, fSt, fNilc, fBin, fEq, fUn, fMkf, fFa, fFld, fFlda, fExt, evo, wr, wrC, frame, Bool.not_true, Bool.not_false, beq_self_eq_true, List.cons_append, List.nil_append, Nat.add_zero, Nat.zero_add, Nat.reduceAdd, Nat.reduceMul, Nat.reduceSub, Bool.and_true, Bool.true_and, Bool.and_self, beq_dec, fApp, Int.toNat_natCast, Nat.sub_zero, vmI]
  refine call_ok rfl rfl (lend (n + 6) s1 u B hS1.rdW (by omega) hfu) ?_
  rintro x s2 ⟨b, rfl, q1, q2, q3, q4⟩
  have hS2 := hS1.push (P := oC b (lentC B)) (f := [b]) ⟨q1, q3, rfl⟩ q4 (Nw.one q2)
  have g2 := (((hS2.re ((List.perm_middle (l₁ := [_, _])).trans (.cons _ (.refl _)))))).getC
  have h30 : (3 : Int) ≠ 0 := by decide
  cases hAf : A.fin
  · rw [hAf] at g2
    simp (disch := omega) only [vm0, vm1, vm2, vm3, vm4, vm5, vm6, vm7, fPick, fBox, fBuild, fBsl, fLd, fLda, fSt, fNilc, fBin, fEq, fUn, fMkf, fFa, fFld, fFlda, fExt, evo, wr, wrC, frame, Bool.not_true, Bool.not_false, beq_self_eq_true, List.cons_append, List.nil_append, Nat.add_zero, Nat.zero_add, Nat.reduceAdd, Nat.reduceMul, Nat.reduceSub, Bool.and_true, Bool.true_and, Bool.and_self, beq_dec, fApp, Int.toNat_natCast, Nat.sub_zero, vmI, g2]
    exact ip_put2 hs n s2 i w fr m v a p q k A _ u b B false _ _ _ _ _ _ _ _ _ hi hm hfr hS2 hlB hfu
  · rw [hAf] at g2
    obtain ⟨r, hr⟩ : ∃ r, A.n.tmod 3 = r := ⟨_, rfl⟩
    simp (disch := omega) only [vm0, vm1, vm2, vm3, vm4, vm5, vm6, vm7, fPick, fBox, fBuild, fBsl, fLd, fLda, fSt, fNilc, fBin, fEq, fUn, fMkf, fFa, fFld, fFlda, fExt, evo, wr, wrC, frame, Bool.not_true, Bool.not_false, beq_self_eq_true, List.cons_append, List.nil_append, Nat.add_zero, Nat.zero_add, Nat.reduceAdd, Nat.reduceMul, Nat.reduceSub, Bool.and_true, Bool.true_and, Bool.and_self, beq_dec, fApp, Int.toNat_natCast, Nat.sub_zero, vmI, g2, b_rem h30, hr]
    exact ip_put2 hs n s2 i w fr m v a p q k A _ u b B (decide (r = 0)) _ _ _ _ _ _ _ _ _ hi hm hfr hS2 hlB hfu
theorem ip_act (hs : SortOk h) (n : Nat) {s0 : St} (s : St) (i : IB) (w m : Int) (v : AV) (a p q k : Nat) (A : A16) (z6 z7 z8 z9 z10 z11 z13 z14 z15 z16 z17 z18 z19 : Option AV) (hi : i.Pl m) (hm : m ≤ 1500) (hA : In64 A.d ∧ In64 A.f ∧ In64 A.n) (hS : Sep s0 s [oC a [num A.d, num A.f, num A.n, A.u, .bool A.fin], oI p i, oJ q i]) (hb : RdE s0 A.u 1 encB A.b) (hfu : 4000 < fu) :
    RsOk (exec bd (callF bd (tab h).get fu (n + 7)) fu vc15a [some (num w), some v, some (.ptr a 0), some (.ptr p 0), some (num (k : Int)), some (.ptr q 0), z6, z7, z8, z9, z10, z11, some (.bool false), z13, z14, z15, z16, z17, z18, z19, some (.bool false)] s) (IPost s0 w v a p q k (m + 25)) := by
  have g1 := hS.getC
  obtain ⟨a1, a2, a3⟩ := hA
  simp (disch := omega) only [vm0, vm1, vm2, vm3, vm4, vm5, vm6, vm7, fPick, fBox, fBuild, fBsl, fLd, fLda, fSt, fNilc, fBin, fEq, fUn, fMkf, fFa, fFld, fFlda, fExt, evo, wr, wrC, frame, Bool.not_true, Bool.not_false, beq_self_eq_true, List.cons_append, List.nil_append, Nat.add_zero, Nat.zero_add, Nat.reduceAdd, Nat.reduceMul, Nat.reduceSub, Bool.and_true, Bool.true_and, Bool.and_self, beq_dec, fApp, Int.toNat_natCast, Nat.sub_zero, vmI, vc15a_eq, vc15a1, g1]
  refine call_ok rfl rfl (withinP (n + 6) s A.d 4 a1 (by omega) (by omega)) ?_
  rintro y s ⟨rfl, rfl⟩
  by_cases h3 : A.d % 4 = 3
  · simp (disch := omega) only [vm0, vm1, vm2, vm3, vm4, vm5, vm6, vm7, fPick, fBox, fBuild, fBsl, fLd, fLda, fSt, fNilc, fBin, fEq, fUn, fMkf, fFa, fFld, fFlda, fExt, evo, wr, wrC, frame, Bool.not_true, Bool.not_false, beq_self_eq_true, List.cons_append, List.nil_append, Nat.add_zero, Nat.zero_add, Nat.reduceAdd, Nat.reduceMul, Nat.reduceSub, Bool.and_true, Bool.true_and, Bool.and_self, beq_dec, fApp, Int.toNat_natCast, Nat.sub_zero, vmI, g1]
    refine call_ok rfl rfl (withinP (n + 6) s A.n 30 a3 (by omega) (by omega)) ?_
    rintro y s ⟨rfl, rfl⟩
    obtain ⟨r, hr⟩ : ∃ r, A.n.tmod 13 = r := ⟨_, rfl⟩
    have hz : (13 : Int) ≠ 0 := by decide
    by_cases hr2 : r = 12
    · subst hr2
      simp (disch := omega) only [vm0, vm1, vm2, vm3, vm4, vm5, vm6, vm7, fPick, fBox, fBuild, fBsl, fLd, fLda, fSt, fNilc, fBin, fEq, fUn, fMkf, fFa, fFld, fFlda, fExt, evo, wr, wrC, frame, Bool.not_true, Bool.not_false, beq_self_eq_true, List.cons_append, List.nil_append, Nat.add_zero, Nat.zero_add, Nat.reduceAdd, Nat.reduceMul, Nat.reduceSub, Bool.and_true, Bool.true_and, Bool.and_self, beq_dec, fApp, Int.toNat_natCast, Nat.sub_zero, vmI, g1, b_rem hz, hr]
      exact ip_read n s i w A.n m v a p q k A _ _ _ _ _ _ _ _ _ _ _ _ hi hm hS hfu
    · simp (disch := omega) only [vm0, vm1, vm2, vm3, vm4, vm5, vm6, vm7, fPick, fBox, fBuild, fBsl, fLd, fLda, fSt, fNilc, fBin, fEq, fUn, fMkf, fFa, fFld, fFlda, fExt, evo, wr, wrC, frame, Bool.not_true, Bool.not_false, beq_self_eq_true, List.cons_append, List.nil_append, Nat.add_zero, Nat.zero_add, Nat.reduceAdd, Nat.reduceMul, Nat.reduceSub, Bool.and_true, Bool.true_and, Bool.and_self, beq_dec, fApp, Int.toNat_natCast, Nat.sub_zero, vmI, g1, b_rem hz, hr]
      exact ip_read n s i w (A.n % 30 - 1) m v a p q k A _ _ _ _ _ _ _ _ _ _ _ _ hi hm hS hfu
  · simp (disch := omega) only [vm0, vm1, vm2, vm3, vm4, vm5, vm6, vm7, fPick, fBox, fBuild, fBsl, fLd, fLda, fSt, fNilc, fBin, fEq, fUn, fMkf, fFa, fFld, fFlda, fExt, evo, wr, wrC, frame, Bool.not_true, Bool.not_false, beq_self_eq_true, List.cons_append, List.nil_append, Nat.add_zero, Nat.zero_add, Nat.reduceAdd, Nat.reduceMul, Nat.reduceSub, Bool.and_true, Bool.true_and, Bool.and_self, beq_dec, fApp, Int.toNat_natCast, Nat.sub_zero, vmI, g1]
    refine call_ok rfl rfl (withinP (n + 6) s A.f 70 a2 (by omega) (by omega)) ?_
    rintro y s ⟨rfl, rfl⟩
    obtain ⟨r, hr⟩ : ∃ r, A.f.tmod 19 = r := ⟨_, rfl⟩
    have hz : (19 : Int) ≠ 0 := by decide
    by_cases hr2 : r = 18
    · subst hr2
      simp (disch := omega) only [vm0, vm1, vm2, vm3, vm4, vm5, vm6, vm7, fPick, fBox, fBuild, fBsl, fLd, fLda, fSt, fNilc, fBin, fEq, fUn, fMkf, fFa, fFld, fFlda, fExt, evo, wr, wrC, frame, Bool.not_true, Bool.not_false, beq_self_eq_true, List.cons_append, List.nil_append, Nat.add_zero, Nat.zero_add, Nat.reduceAdd, Nat.reduceMul, Nat.reduceSub, Bool.and_true, Bool.true_and, Bool.and_self, beq_dec, fApp, Int.toNat_natCast, Nat.sub_zero, vmI, g1, b_rem hz, hr]
      refine call_ok rfl rfl (withinP (n + 6) s A.f 2199023255552 a2 (by omega) (by omega)) ?_
      rintro y s ⟨rfl, rfl⟩
      simp (disch := omega) only [vm0, vm1, vm2, vm3, vm4, vm5, vm6, vm7, fPick, fBox, fBuild, fBsl, fLd, fLda, fSt, fNilc, fBin, fEq, fUn, fMkf, fFa, fFld, fFlda, fExt, evo, wr, wrC, frame, Bool.not_true, Bool.not_false, beq_self_eq_true, List.cons_append, List.nil_append, Nat.add_zero, Nat.zero_add, Nat.reduceAdd, Nat.reduceMul, Nat.reduceSub, Bool.and_true, Bool.true_and, Bool.and_self, beq_dec, fApp, Int.toNat_natCast, Nat.sub_zero, vmI]
      exact ip_put hs n s i w _ m v a p q k A _ _ _ _ _ _ _ _ _ _ _ _ hi hm (by omega) hS hb hfu
    · simp (disch := omega) only [vm0, vm1, vm2, vm3, vm4, vm5, vm6, vm7, fPick, fBox, fBuild, fBsl, fLd, fLda, fSt, fNilc, fBin, fEq, fUn, fMkf, fFa, fFld, fFlda, fExt, evo, wr, wrC, frame, Bool.not_true, Bool.not_false, beq_self_eq_true, List.cons_append, List.nil_append, Nat.add_zero, Nat.zero_add, Nat.reduceAdd, Nat.reduceMul, Nat.reduceSub, Bool.and_true, Bool.true_and, Bool.and_self, beq_dec, fApp, Int.toNat_natCast, Nat.sub_zero, vmI, g1, b_rem hz, hr]
      exact ip_put hs n s i w _ m v a p q k A _ _ _ _ _ _ _ _ _ _ _ _ hi hm (by omega) hS hb hfu
theorem ip_loop (hs : SortOk h) (n : Nat) (s : St) (w : Int) (v : AV) (l : List A16) (z11 : Option AV) (hv : RdE s v 5 encN l) (ha : ∀ x ∈ l, In64 x.d ∧ In64 x.f ∧ In64 x.n ∧ RdE s x.u 1 encB x.b) (hfu : 4000 < fu) :
    RsOk (exec bd (callF bd (tab h).get fu (n + 7)) fu vc15m [some (num w), some v, none, none, none, none, none, none, none, none, none, z11, none, none, none, none, none, none, none, none, some (.bool false)] s) (retQ [.tmp 20] fun x s' => Is x (.bool true)) := by
  have hS0 : Sep s s [] := .nil
  simp (disch := omega) only [vm0, vm1, vm2, vm3, vm4, vm5, vm6, vm7, fPick, fBox, fBuild, fBsl, fLd, fLda, fSt, fNilc, fBin, fEq, fUn, fMkf, fFa, fFld, fFlda, fExt, evo, wr, wrC, frame, Bool.not_true, Bool.not_false, beq_self_eq_true, List.cons_append, List.nil_append, Nat.add_zero, Nat.zero_add, Nat.reduceAdd, Nat.reduceMul, Nat.reduceSub, Bool.and_true, Bool.true_and, Bool.and_self, beq_dec, fApp, Int.toNat_natCast, Nat.sub_zero, vmI, vc15m]
  refine call_ok rfl rfl (i_new (n + 5) s w) ?_
  rintro x s1 ⟨p, fp, rfl, r1, r2, r3⟩
  have hS1 := hS0.push (P := oI p _) r1 r2 r3
  simp (disch := omega) only [vm0, vm1, vm2, vm3, vm4, vm5, vm6, vm7, fPick, fBox, fBuild, fBsl, fLd, fLda, fSt, fNilc, fBin, fEq, fUn, fMkf, fFa, fFld, fFlda, fExt, evo, wr, wrC, frame, Bool.not_true, Bool.not_false, beq_self_eq_true, List.cons_append, List.nil_append, Nat.add_zero, Nat.zero_add, Nat.reduceAdd, Nat.reduceMul, Nat.reduceSub, Bool.and_true, Bool.true_and, Bool.and_self, beq_dec, fApp, Int.toNat_natCast, Nat.sub_zero, vmI]
  refine call_ok rfl rfl (j_new (n + 5) s1 w) ?_
  rintro y s2 ⟨q, rfl, r4, r5, r6⟩
  have hS2 := hS1.push (P := oJ q _) r6 r5 (Nw.one r4)
  simp (disch := omega) only [vm0, vm1, vm2, vm3, vm4, vm5, vm6, vm7, fPick, fBox, fBuild, fBsl, fLd, fLda, fSt, fNilc, fBin, fEq, fUn, fMkf, fFa, fFld, fFlda, fExt, evo, wr, wrC, frame, Bool.not_true, Bool.not_false, beq_self_eq_true, List.cons_append, List.nil_append, Nat.add_zero, Nat.zero_add, Nat.reduceAdd, Nat.reduceMul, Nat.reduceSub, Bool.and_true, Bool.true_and, Bool.and_self, beq_dec, fApp, Int.toNat_natCast, Nat.sub_zero, vmI]
  refine x_loop (fun m F s' => ∃ (k : Nat) (i : IB), m = 30 - k ∧ k ≤ 30 ∧ i.Pl (25 * (k : Int)) ∧ Sep s s' [oI p i, oJ q i] ∧ ∃ z2 z6 z7 z8 z9 z10 z11 z13 z14 z15 z16 z17 z18 z19, F = [some (num w), some v, z2, some (.ptr p 0), some (num (k : Int)), some (.ptr q 0), z6, z7, z8, z9, z10, z11, some (.bool false), z13, z14, z15, z16, z17, z18, z19, some (.bool false)]) 30 (by omega) ?_ ?_
  · exact ⟨0, _, by omega, by omega, ⟨new_good, fun hk => (by cases hk), by simp [countR]⟩, hS2.swap, _, _, _, _, _, _, _, _, _, _, _, _, _, _, rfl⟩
  · rintro m F s3 ⟨k, i, rfl, hk, hi, hS3, z2, z6, z7, z8, z9, z10, z11, z13, z14, z15, z16, z17, z18, z19, rfl⟩ hm
    have hv3 := hv.fr0 hS3.frm
    have e0 := hv3.lenV
    by_cases hlt : k < l.length
    · by_cases hk30 : k < 30
      · obtain ⟨A, hA⟩ : ∃ A, l[k]? = some A := ⟨_, List.getElem?_eq_getElem hlt⟩
        obtain ⟨a1, a2, a3, a4⟩ := ha A (List.mem_of_getElem? hA)
        have e1 := hv3.ia hA
        have e2 := hv3.at hA
        simp (disch := omega) only [vm0, vm1, vm2, vm3, vm4, vm5, vm6, vm7, fPick, fBox, fBuild, fBsl, fLd, fLda, fSt, fNilc, fBin, fEq, fUn, fMkf, fFa, fFld, fFlda, fExt, evo, wr, wrC, frame, Bool.not_true, Bool.not_false, beq_self_eq_true, List.cons_append, List.nil_append, Nat.add_zero, Nat.zero_add, Nat.reduceAdd, Nat.reduceMul, Nat.reduceSub, Bool.and_true, Bool.true_and, Bool.and_self, beq_dec, fApp, Int.toNat_natCast, Nat.sub_zero, vmI, vc15_1, vc15_0_eq, e0, e1, e2, encN]
        have hS4 := hS3.cell [num 0, num 0, num 0, .nils, .bool false] [num A.d, num A.f, num A.n, A.u, .bool A.fin]
        generalize (s3.new (.cells [.int .i64 (.c 0), .int .i64 (.c 0), .int .i64 (.c 0), .nils, .bool false] .own)).put s3.next (some (.cells [num A.d, num A.f, num A.n, A.u, .bool A.fin] .own)) = s4 at *
        generalize s3.next = a at *
        refine (ip_act hs n s4 i w _ v a p q k A _ _ _ _ _ _ _ _ _ _ _ _ _ hi (by omega) ⟨a1, a2, a3⟩ hS4 a4 hfu).mono ?_
        rintro e F s5 ⟨rfl, i', hi', hS5, z6, z7, z8, z9, z10, z11, z13, z14, z15, z16, z17, z18, z19, rfl⟩
        simp (disch := omega) only [vm0, vm1, vm2, vm3, vm4, vm5, vm6, vm7, fPick, fBox, fBuild, fBsl, fLd, fLda, fSt, fNilc, fBin, fEq, fUn, fMkf, fFa, fFld, fFlda, fExt, evo, wr, wrC, frame, Bool.not_true, Bool.not_false, beq_self_eq_true, List.cons_append, List.nil_append, Nat.add_zero, Nat.zero_add, Nat.reduceAdd, Nat.reduceMul, Nat.reduceSub, Bool.and_true, Bool.true_and, Bool.and_self, beq_dec, fApp, Int.toNat_natCast, Nat.sub_zero, vmI]
        refine call_ok rfl rfl (same16 (n + 2) s5 p q i' _ [] hS5 hi') ?_
        rintro y s6 ⟨rfl, hS6⟩
        simp (disch := omega) only [vm0, vm1, vm2, vm3, vm4, vm5, vm6, vm7, fPick, fBox, fBuild, fBsl, fLd, fLda, fSt, fNilc, fBin, fEq, fUn, fMkf, fFa, fFld, fFlda, fExt, evo, wr, wrC, frame, Bool.not_true, Bool.not_false, beq_self_eq_true, List.cons_append, List.nil_append, Nat.add_zero, Nat.zero_add, Nat.reduceAdd, Nat.reduceMul, Nat.reduceSub, Bool.and_true, Bool.true_and, Bool.and_self, beq_dec, fApp, Int.toNat_natCast, Nat.sub_zero, vmI]
        exact ⟨30 - (k + 1), by omega, k + 1, i', rfl, by omega, hi'.mono (by omega), hS6, _, _, _, _, _, _, _, _, _, _, _, _, _, _, rfl⟩
      · simp (disch := omega) only [vm0, vm1, vm2, vm3, vm4, vm5, vm6, vm7, fPick, fBox, fBuild, fBsl, fLd, fLda, fSt, fNilc, fBin, fEq, fUn, fMkf, fFa, fFld, fFlda, fExt, evo, wr, wrC, frame, Bool.not_true, Bool.not_false, beq_self_eq_true, List.cons_append, List.nil_append, Nat.add_zero, Nat.zero_add, Nat.reduceAdd, Nat.reduceMul, Nat.reduceSub, Bool.and_true, Bool.true_and, Bool.and_self, beq_dec, fApp, Int.toNat_natCast, Nat.sub_zero, vmI, vc15_1, e0]
        refine call_ok rfl rfl (wakes16 hs n s3 hfu) ?_
        rintro y s6 rfl
        simp (disch := omega) only [vm0, vm1, vm2, vm3, vm4, vm5, vm6, vm7, fPick, fBox, fBuild, fBsl, fLd, fLda, fSt, fNilc, fBin, fEq, fUn, fMkf, fFa, fFld, fFlda, fExt, evo, wr, wrC, frame, Bool.not_true, Bool.not_false, beq_self_eq_true, List.cons_append, List.nil_append, Nat.add_zero, Nat.zero_add, Nat.reduceAdd, Nat.reduceMul, Nat.reduceSub, Bool.and_true, Bool.true_and, Bool.and_self, beq_dec, fApp, Int.toNat_natCast, Nat.sub_zero, vmI]
        rfl
    · simp (disch := omega) only [vm0, vm1, vm2, vm3, vm4, vm5, vm6, vm7, fPick, fBox, fBuild, fBsl, fLd, fLda, fSt, fNilc, fBin, fEq, fUn, fMkf, fFa, fFld, fFlda, fExt, evo, wr, wrC, frame, Bool.not_true, Bool.not_false, beq_self_eq_true, List.cons_append, List.nil_append, Nat.add_zero, Nat.zero_add, Nat.reduceAdd, Nat.reduceMul, Nat.reduceSub, Bool.and_true, Bool.true_and, Bool.and_self, beq_dec, fApp, Int.toNat_natCast, Nat.sub_zero, vmI, vc15_1, e0]
      refine call_ok rfl rfl (wakes16 hs n s3 hfu) ?_
      rintro y s6 rfl
      simp (disch := omega) only [vm0, vm1, vm2, vm3, vm4, vm5, vm6, vm7, fPick, fBox, fBuild, fBsl, fLd, fLda, fSt, fNilc, fBin, fEq, fUn, fMkf, fFa, fFld, fFlda, fExt, evo, wr, wrC, frame, Bool.not_true, Bool.not_false, beq_self_eq_true, List.cons_append, List.nil_append, Nat.add_zero, Nat.zero_add, Nat.reduceAdd, Nat.reduceMul, Nat.reduceSub, Bool.and_true, Bool.true_and, Bool.and_self, beq_dec, fApp, Int.toNat_natCast, Nat.sub_zero, vmI]
      rfl
theorem plays16 (hs : SortOk h) (n : Nat) (s : St) (w0 : Int) (v : AV) (l : List A16) (hv : RdE s v 5 encN l) (ha : ∀ x ∈ l, In64 x.d ∧ In64 x.f ∧ In64 x.n ∧ RdE s x.u 1 encB x.b) (hW : In64 w0) (hfu : 4000 < fu) :
    OutOk (callF bd (tab h).get fu (n + 8) 15 [num w0, v] s) (fun x s' => Is x (.bool true)) := by
  refine call_code (t15 h) rfl ?_
  obtain ⟨r, hr⟩ : ∃ r, w0.tmod 7 = r := ⟨_, rfl⟩
  have hz : (7 : Int) ≠ 0 := by decide
  by_cases hr2 : r = 6
  · subst hr2
    simp (disch := omega) only [vm0, vm1, vm2, vm3, vm4, vm5, vm6, vm7, fPick, fBox, fBuild, fBsl, fLd, fLda, fSt, fNilc, fBin, fEq, fUn, fMkf, fFa, fFld, fFlda, fExt, evo, wr, wrC, frame, Bool.not_true, Bool.not_false, beq_self_eq_true, List.cons_append, List.nil_append, Nat.add_zero, Nat.zero_add, Nat.reduceAdd, Nat.reduceMul, Nat.reduceSub, Bool.and_true, Bool.true_and, Bool.and_self, beq_dec, fApp, Int.toNat_natCast, Nat.sub_zero, vmI, vc15_eq, b_rem hz, hr]
    exact ip_loop hs n s w0 v l _ hv ha hfu
  · simp (disch := omega) only [vm0, vm1, vm2, vm3, vm4, vm5, vm6, vm7, fPick, fBox, fBuild, fBsl, fLd, fLda, fSt, fNilc, fBin, fEq, fUn, fMkf, fFa, fFld, fFlda, fExt, evo, wr, wrC, frame, Bool.not_true, Bool.not_false, beq_self_eq_true, List.cons_append, List.nil_append, Nat.add_zero, Nat.zero_add, Nat.reduceAdd, Nat.reduceMul, Nat.reduceSub, Bool.and_true, Bool.true_and, Bool.and_self, beq_dec, fApp, Int.toNat_natCast, Nat.sub_zero, vmI, vc15_eq, b_rem hz, hr]
    refine call_ok rfl rfl (withinP (n + 6) s w0 40 hW (by omega) (by omega)) ?_
    rintro y s2 ⟨rfl, rfl⟩
    simp (disch := omega) only [vm0, vm1, vm2, vm3, vm4, vm5, vm6, vm7, fPick, fBox, fBuild, fBsl, fLd, fLda, fSt, fNilc, fBin, fEq, fUn, fMkf, fFa, fFld, fFlda, fExt, evo, wr, wrC, frame, Bool.not_true, Bool.not_false, beq_self_eq_true, List.cons_append, List.nil_append, Nat.add_zero, Nat.zero_add, Nat.reduceAdd, Nat.reduceMul, Nat.reduceSub, Bool.and_true, Bool.true_and, Bool.and_self, beq_dec, fApp, Int.toNat_natCast, Nat.sub_zero, vmI]
    exact ip_loop hs n s2 (w0 % 40) v l _ hv ha hfu
end
end Go.Proofs.Ytekhpohcjfjhfaa.ctr
namespace Go.Proofs.Ytekhpohcjfjhfaa.inboxPlaysRun
open Go.Vm Go.RowKit Go.Proofs.Ytekhpohcjfjhfaa.ctr
set_option linter.unusedVariables false
set_option linter.unusedSimpArgs false
theorem mixed : Try.prog.follows .mixedOrders = true := by kernel_rfl
theorem walk (a0 : Int) (a1 : Option Addr) (len1 cap1 : Nat) (z1 : Nat → Value) (w : World) (w0 : (Lit.int .i64 a0).wf = true) (hq1 : IsRowV w a1 len1 cap1 5 z1) (hk1 : ∀ i, i < cap1 * 5 → FkOk w (([.i, .i, .i, .S, .b] : List Fk).getD (i % 5) .i) (z1 i)) :
    Calls Try.prog 15 #[.int .i64 a0, .slice a1 len1 cap1] w fun e w' => e = .returned (.bool true) ∧ Below w.heap.size w w' := by
  obtain ⟨v1, E1, s1, L1, g1, l1, f1, r1, d1, i1⟩ := (Arg0.start w).acts16 hq1 hk1
  have h := plays16 srt_ok (bd := bd0) (h := srt) (fu := 5000) 40 s1 a0 v1 _ d1 i1 (wf64 w0) (by omega)
  exact law_okE bd0_ok mixed (tabS_all rho0) (t15 srt) g1.hr g1.own (.cons vr_int (.cons r1 .nil)) (yes_of' h fun _ _ h => h)
end Go.Proofs.Ytekhpohcjfjhfaa.inboxPlaysRun
