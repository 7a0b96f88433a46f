/- Events are read: the plain law, the program's and the reference's readers. -/
import Derived.Test.YtgckbcljlkkceaaCyEc
namespace Go.Proofs.Ytgckbcljlkkceaa.ctr
open Go Go.Vm Go.RowKit
set_option linter.unusedVariables false
set_option linter.constructorNameAsVariable false
set_option linter.unusedSimpArgs false
theorem evB_sm : ∀ {l : List EvR}, (∀ x ∈ l, x.e.Sm) → (evB l).length ≤ l.length * 250
  | [], _ => by simp [evB]
  | x :: l, h => by
    have h1 := evB_sm (l := l) fun y hy => h y (by simp [hy])
    have h2 := x.e.bytes_len
    have h3 := (h x (by simp)).l
    have h4 := (h x (by simp)).pl
    have : evB (x :: l) = x.e.bytes ++ evB l := by simp [evB]
    rw [this, List.length_append, List.length_cons]; omega
end Go.Proofs.Ytgckbcljlkkceaa.ctr
namespace Go.Proofs.Ytgckbcljlkkceaa.ctr
open Go Go.Vm Go.RowKit
set_option linter.unusedVariables false
set_option linter.constructorNameAsVariable false
set_option linter.unusedSimpArgs false
theorem RD.Ok.num {r : RD} (h : r.Ok) : r.num.2.Ok ∧ r.num.2.B = r.B := by
  obtain ⟨B, a, bad⟩ := r
  obtain ⟨a1, a2, a3⟩ := h
  dsimp only at a1 a2 a3
  obtain ⟨t1, t2, t3, t4⟩ := takeV_bd (l := B.drop a.toNat) (fun x hx => a2 x (List.mem_of_mem_drop hx))
  rw [List.length_drop] at t4
  unfold RD.num
  split
  · exact ⟨⟨a1, a2, a3⟩, rfl⟩
  · exact ⟨⟨by unfold RD.take; dsimp only; omega, a2, a3⟩, rfl⟩
theorem RD.Ok.byte {r : RD} (h : r.Ok) : r.byte.2.Ok ∧ r.byte.2.B = r.B := by
  obtain ⟨B, a, bad⟩ := r
  obtain ⟨a1, a2, a3⟩ := h
  dsimp only at a1 a2 a3
  unfold RD.byte
  split
  · exact ⟨⟨a1, a2, a3⟩, rfl⟩
  · rename_i hc
    have : a ≠ B.length := fun e => hc (.inr e)
    exact ⟨⟨by dsimp only; omega, a2, a3⟩, rfl⟩
theorem RD.Ok.bytes {r : RD} (h : r.Ok) (most : Int) : (r.bytes most).2.Ok ∧ (r.bytes most).2.B = r.B := by
  obtain ⟨B, a, bad⟩ := r
  obtain ⟨a1, a2, a3⟩ := h
  dsimp only at a1 a2 a3
  obtain ⟨t1, t2, t3, t4⟩ := takeV_bd (l := B.drop a.toNat) (fun x hx => a2 x (List.mem_of_mem_drop hx))
  rw [List.length_drop] at t4
  unfold RD.bytes
  split
  · exact ⟨⟨a1, a2, a3⟩, rfl⟩
  · rename_i hc
    have hc3 : ¬ ((B.length : Int) - a - (RD.take ⟨B, a, bad⟩).2.1 < (RD.take ⟨B, a, bad⟩).1) := fun e => hc (.inr (.inr (.inr e)))
    unfold RD.take at *
    dsimp only at *
    exact ⟨⟨by dsimp only; omega, a2, a3⟩, rfl⟩
/-- a reader went on, over these bytes -/
structure Ate (r r' : RD) (w : List Int) : Prop where
  b0 : r.bad = false
  B : r'.B = r.B
  c : r.B.drop r.a.toNat = w ++ r.B.drop r'.a.toNat
  a : r'.a = r.a + w.length
theorem Ate.trans {r r' r'' : RD} {w w' : List Int} (h : Ate r r' w) (k : Ate r' r'' w') : Ate r r'' (w ++ w') := by
  have h1 := k.c
  rw [h.B] at h1
  exact ⟨h.b0, k.B.trans h.B, by rw [h.c, h1, List.append_assoc], by rw [k.a, h.a, List.length_append]; omega⟩
theorem take_ate {l : List Int} (h8 : ∀ x ∈ l, In8 x) (h : (takeV l).2.2 = true) : l.take (takeV l).2.1.toNat = putV (takeV l).1 ∧ (takeV l).2.1 = (putV (takeV l).1).length := by
  cases l with
  | nil => simp [takeV] at h
  | cons b r =>
    rw [takeV_cons] at h ⊢
    by_cases hlt : (r.length : Int) + 1 < szB b
    · rw [if_pos hlt] at h; simp at h
    · rw [if_neg hlt] at h ⊢
      by_cases hs : sizeV (foldV (b % 64) (r.take (szB b - 1).toNat)) = szB b
      · rw [if_pos hs] at h ⊢
        exact ⟨((put_eq h8 hlt).2 hs).symm, by dsimp only; rw [putV_len]; exact hs.symm⟩
      · rw [if_neg hs] at h; simp at h
theorem num_ate {r : RD} (h : r.Ok) (hb : r.num.2.bad = false) : Ate r r.num.2 (putV r.num.1) := by
  obtain ⟨B, a, bad⟩ := r
  obtain ⟨a1, a2, a3⟩ := h
  dsimp only at a1 a2 a3
  have h8 : ∀ x ∈ B.drop a.toNat, In8 x := fun x hx => a2 x (List.mem_of_mem_drop hx)
  unfold RD.num at hb ⊢
  split at hb
  · simp at hb
  · rename_i hc
    rw [if_neg hc]
    have hbad : bad = false := by cases bad; rfl; exact absurd (.inl rfl) hc
    have ht : (RD.take ⟨B, a, bad⟩).2.2 = true := by
      cases h : (RD.take ⟨B, a, bad⟩).2.2
      · exact absurd (.inr h) hc
      · rfl
    unfold RD.take at ht ⊢
    dsimp only at ht ⊢
    obtain ⟨k1, k2⟩ := take_ate h8 ht
    have hle := (takeV_bd h8).2.2.2
    refine ⟨hbad, rfl, ?_, by dsimp only; rw [k2]⟩
    dsimp only
    rw [← k1, show (a + (takeV (B.drop a.toNat)).2.1).toNat = a.toNat + (takeV (B.drop a.toNat)).2.1.toNat from by omega, ← List.drop_drop, List.take_append_drop]
theorem byte_ate {r : RD} (h : r.Ok) (hb : r.byte.2.bad = false) : Ate r r.byte.2 [r.byte.1] ∧ In8 r.byte.1 := by
  obtain ⟨B, a, bad⟩ := r
  obtain ⟨a1, a2, a3⟩ := h
  dsimp only at a1 a2 a3
  unfold RD.byte at hb ⊢
  split at hb
  · simp at hb
  · rename_i hc
    rw [if_neg hc]
    have hbad : bad = false := by cases bad; rfl; exact absurd (.inl rfl) hc
    have hne : a ≠ B.length := fun e => hc (.inr e)
    have hlt : a.toNat < B.length := by omega
    have hg : B.getD a.toNat 0 = B[a.toNat] := by simp [hlt]
    dsimp only
    rw [hg]
    refine ⟨⟨hbad, rfl, ?_, by simp⟩, a2 _ (List.getElem_mem hlt)⟩
    dsimp only
    rw [show (a + 1).toNat = a.toNat + 1 from by omega, List.singleton_append]
    exact List.drop_eq_getElem_cons hlt
theorem bytes_ate {r : RD} {most : Int} (h : r.Ok) (hb : (r.bytes most).2.bad = false) : Ate r (r.bytes most).2 (putV ((r.bytes most).1.length : Int) ++ (r.bytes most).1) ∧ ((r.bytes most).1.length : Int) ≤ most := by
  obtain ⟨B, a, bad⟩ := r
  obtain ⟨a1, a2, a3⟩ := h
  dsimp only at a1 a2 a3
  have h8 : ∀ x ∈ B.drop a.toNat, In8 x := fun x hx => a2 x (List.mem_of_mem_drop hx)
  unfold RD.bytes at hb ⊢
  split at hb
  · simp at hb
  · rename_i hc
    rw [if_neg hc]
    have hbad : bad = false := by cases bad; rfl; exact absurd (.inl rfl) hc
    have ht : (RD.take ⟨B, a, bad⟩).2.2 = true := by
      cases h : (RD.take ⟨B, a, bad⟩).2.2
      · exact absurd (.inr (.inl h)) hc
      · rfl
    have hm : ¬ most < (RD.take ⟨B, a, bad⟩).1 := fun h => hc (.inr (.inr (.inl h)))
    have hr : ¬ ((B.length : Int) - a - (RD.take ⟨B, a, bad⟩).2.1 < (RD.take ⟨B, a, bad⟩).1) := fun h => hc (.inr (.inr (.inr h)))
    unfold RD.take at ht hm hr ⊢
    dsimp only at ht hm hr ⊢
    obtain ⟨k1, k2⟩ := take_ate h8 ht
    obtain ⟨q1, q2, q3, q4⟩ := takeV_bd h8
    rw [List.length_drop] at q4
    generalize (takeV (B.drop a.toNat)).1 = n at *
    generalize (takeV (B.drop a.toNat)).2.1 = z at *
    have hl : ((List.drop (a + z).toNat (List.take (a + z + n).toNat B)).length : Int) = n := by
      rw [List.length_drop, List.length_take]; omega
    rw [hl]
    refine ⟨⟨hbad, rfl, ?_, by dsimp only; rw [List.length_append, Int.natCast_add, hl, ← k2]; omega⟩, by omega⟩
    dsimp only
    rw [← k1, List.append_assoc]
    have e1 : (a + z).toNat = a.toNat + z.toNat := by omega
    have e2 : (a + z + n).toNat = (a + z).toNat + n.toNat := by omega
    rw [e2, List.drop_take, Nat.add_sub_cancel_left, ← List.drop_drop (i := n.toNat), List.take_append_drop, e1, ← List.drop_drop, List.take_append_drop]
/-- badness stays -/
theorem num_bad {r : RD} (h : r.num.2.bad = false) : r.bad = false := by
  unfold RD.num at h
  split at h
  · simp at h
  · exact h
theorem byte_bad {r : RD} (h : r.byte.2.bad = false) : r.bad = false := by
  unfold RD.byte at h
  split at h
  · simp at h
  · exact h
theorem bytes_bad {r : RD} {most : Int} (h : (r.bytes most).2.bad = false) : r.bad = false := by
  unfold RD.bytes at h
  split at h
  · simp at h
  · exact h
theorem RD.bytes_in {r : RD} (h : r.Ok) (most : Int) : (∀ x ∈ (r.bytes most).1, In8 x) ∧ (r.bytes most).1.length ≤ r.B.length := by
  unfold RD.bytes
  split
  · simp
  · exact ⟨fun x hx => h.i x (List.mem_of_mem_take (List.mem_of_mem_drop hx)), by simp; omega⟩
end Go.Proofs.Ytgckbcljlkkceaa.ctr
namespace Go.Proofs.Ytgckbcljlkkceaa.ctr
open Go Go.Vm Go.RowKit
set_option linter.unusedVariables false
set_option linter.constructorNameAsVariable false
set_option linter.unusedSimpArgs false
/-- a packet is read: its fields, the byte that stands for its end, the reader behind it -/
def RD.hd (r : RD) : RD := r.byte.2.num.2.num.2
def RD.dt (r : RD) : List Int × RD := r.hd.num.2.bytes 64
def RD.pk (r : RD) : PkV × Int × RD :=
  if r.byte.1 = 2 then (⟨r.byte.1, r.byte.2.num.1, r.byte.2.num.2.num.1, r.hd.num.1, 0, [], false, 0, 0⟩, 0, r.hd.num.2)
  else if r.byte.1 = 3 then (⟨r.byte.1, r.byte.2.num.1, r.byte.2.num.2.num.1, 0, r.hd.num.1, r.dt.1, decide (r.dt.2.byte.1 = 1), 0, 0⟩, r.dt.2.byte.1, r.dt.2.byte.2)
  else if r.byte.1 = 4 then (⟨r.byte.1, r.byte.2.num.1, r.byte.2.num.2.num.1, r.hd.num.1, 0, [], false, r.hd.num.2.num.1, r.hd.num.2.num.2.num.1⟩, 0, r.hd.num.2.num.2.num.2)
  else (⟨r.byte.1, r.byte.2.num.1, r.byte.2.num.2.num.1, 0, 0, [], false, 0, 0⟩, 0, r.hd)
def RD.pkOk (r : RD) : Bool := !r.pk.2.2.bad && r.pk.1.right && decide (r.pk.2.1 ≤ 1)
/-- an event is read -/
def RD.ev (r : RD) : EvV × RD :=
  if r.byte.1 = 1 ∨ r.byte.1 = 2 then (⟨r.byte.1, 0, (r.byte.2.bytes 4096).1, pk0⟩, (r.byte.2.bytes 4096).2)
  else if r.byte.1 = 3 ∨ r.byte.1 = 7 ∨ r.byte.1 = 8 then (⟨r.byte.1, r.byte.2.num.1, [], pk0⟩, r.byte.2.num.2)
  else if r.byte.1 = 4 ∨ r.byte.1 = 5 then (⟨r.byte.1, 0, [], r.byte.2.pk.1⟩, r.byte.2.pk.2.2)
  else (⟨r.byte.1, 0, [], pk0⟩, r.byte.2)
def RD.evOk (r : RD) : Bool := !r.ev.2.bad && r.ev.1.right && (if r.byte.1 = 4 ∨ r.byte.1 = 5 then decide (r.byte.2.pk.2.1 ≤ 1) else true)
theorem RD.Ok.hd {r : RD} (h : r.Ok) : r.hd.Ok ∧ r.hd.B = r.B := by
  have h1 := h.byte
  have h2 := h1.1.num
  have h3 := h2.1.num
  exact ⟨h3.1, h3.2.trans (h2.2.trans h1.2)⟩
theorem RD.Ok.dt {r : RD} (h : r.Ok) : r.dt.2.Ok ∧ r.dt.2.B = r.B := by
  have h1 := h.hd
  have h2 := h1.1.num
  have h3 := h2.1.bytes 64
  exact ⟨h3.1, h3.2.trans (h2.2.trans h1.2)⟩
theorem RD.Ok.pk {r : RD} (h : r.Ok) : r.pk.2.2.Ok ∧ r.pk.2.2.B = r.B := by
  have h1 := h.hd
  have h2 := h1.1.num
  have h3 := h2.1.num
  have h4 := h3.1.num
  have h5 := h.dt
  have h6 := h5.1.byte
  unfold RD.pk
  split
  · exact ⟨h2.1, h2.2.trans h1.2⟩
  · split
    · exact ⟨h6.1, h6.2.trans h5.2⟩
    · split
      · exact ⟨h4.1, h4.2.trans (h3.2.trans (h2.2.trans h1.2))⟩
      · exact h1
theorem RD.Ok.ev {r : RD} (h : r.Ok) : r.ev.2.Ok ∧ r.ev.2.B = r.B := by
  have h1 := h.byte
  have h2 := h1.1.bytes 4096
  have h3 := h1.1.num
  have h4 := h1.1.pk
  unfold RD.ev
  split
  · exact ⟨h2.1, h2.2.trans h1.2⟩
  · split
    · exact ⟨h3.1, h3.2.trans h1.2⟩
    · split
      · exact ⟨h4.1, h4.2.trans h1.2⟩
      · exact h1
theorem RD.hd_bad {r : RD} (h : r.hd.bad = false) : r.byte.2.bad = false ∧ r.byte.2.num.2.bad = false := ⟨num_bad (num_bad h), num_bad h⟩
theorem hd_ate {r : RD} (h : r.Ok) (hb : r.hd.bad = false) : Ate r r.hd ([r.byte.1] ++ putV r.byte.2.num.1 ++ putV r.byte.2.num.2.num.1) ∧ In8 r.byte.1 := by
  obtain ⟨b1, b2⟩ := RD.hd_bad hb
  obtain ⟨k1, k2⟩ := byte_ate h b1
  exact ⟨(k1.trans (num_ate h.byte.1 b2)).trans (num_ate h.byte.1.num.1 hb), k2⟩
theorem pk_d {r : RD} (h : r.Ok) : (∀ x ∈ r.pk.1.d, In8 x) ∧ r.pk.1.d.length ≤ r.B.length := by
  have h1 := h.hd
  have h2 := h1.1.num
  have h3 := RD.bytes_in h2.1 64
  unfold RD.pk
  split
  · simp
  · split
    · exact ⟨h3.1, by rw [← h1.2, ← h2.2]; exact h3.2⟩
    · split <;> simp
theorem pk_ate {r : RD} (h : r.Ok) (hb : r.pk.2.2.bad = false) : ∃ w, Ate r r.pk.2.2 w ∧ (r.pk.1.bytes = w ↔ r.pk.2.1 ≤ 1) ∧ w.length = r.pk.1.bytes.length := by
  have h1 := h.hd
  have h2 := h1.1.num
  have h3 := h2.1.num
  have h5 := h.dt
  by_cases c2 : r.byte.1 = 2
  · have e : r.pk = (⟨r.byte.1, r.byte.2.num.1, r.byte.2.num.2.num.1, r.hd.num.1, 0, [], false, 0, 0⟩, 0, r.hd.num.2) := by unfold RD.pk; rw [if_pos c2]
    rw [e] at hb ⊢
    dsimp only at hb ⊢
    obtain ⟨k1, k2⟩ := hd_ate h (num_bad hb)
    have hp : PkV.bytes ⟨r.byte.1, r.byte.2.num.1, r.byte.2.num.2.num.1, r.hd.num.1, 0, [], false, 0, 0⟩ = [r.byte.1] ++ putV r.byte.2.num.1 ++ putV r.byte.2.num.2.num.1 ++ putV r.hd.num.1 := by
      unfold PkV.bytes PkV.tail; dsimp only; rw [if_pos c2, show r.byte.1 % 256 = r.byte.1 from by omega]
    exact ⟨_, k1.trans (num_ate h1.1 hb), by rw [hp]; simp, by rw [hp]⟩
  · by_cases c3 : r.byte.1 = 3
    · have e : r.pk = (⟨r.byte.1, r.byte.2.num.1, r.byte.2.num.2.num.1, 0, r.hd.num.1, r.dt.1, decide (r.dt.2.byte.1 = 1), 0, 0⟩, r.dt.2.byte.1, r.dt.2.byte.2) := by unfold RD.pk; rw [if_neg c2, if_pos c3]
      rw [e] at hb ⊢
      dsimp only at hb ⊢
      have b1 := byte_bad hb
      have b2 := bytes_bad b1
      obtain ⟨k1, k2⟩ := hd_ate h (num_bad b2)
      obtain ⟨k3, k4⟩ := byte_ate h5.1 hb
      have k5 := (bytes_ate h2.1 b1).1
      have hp : PkV.bytes ⟨r.byte.1, r.byte.2.num.1, r.byte.2.num.2.num.1, 0, r.hd.num.1, r.dt.1, decide (r.dt.2.byte.1 = 1), 0, 0⟩ = [r.byte.1] ++ putV r.byte.2.num.1 ++ putV r.byte.2.num.2.num.1 ++ (putV r.hd.num.1 ++ (putV r.dt.1.length ++ r.dt.1) ++ [if r.dt.2.byte.1 = 1 then 1 else 0]) := by
        unfold PkV.bytes PkV.tail; dsimp only; rw [if_neg c2, if_pos c3, show r.byte.1 % 256 = r.byte.1 from by omega]; simp
      refine ⟨_, k1.trans (((num_ate h1.1 b2).trans k5).trans k3), ?_, by rw [hp]; simp [RD.dt]⟩
      rw [hp]
      show _ ++ (_ ++ _) = _ ++ (_ ++ _) ↔ _
      rw [List.append_cancel_left_eq]
      show putV r.hd.num.1 ++ (putV r.dt.1.length ++ r.dt.1) ++ _ = putV r.hd.num.1 ++ (putV r.dt.1.length ++ r.dt.1) ++ _ ↔ _
      rw [List.append_cancel_left_eq]
      obtain ⟨q1, q2⟩ := k4
      constructor
      · intro hh
        have := List.head_eq_of_cons_eq hh
        split at this <;> omega
      · intro hh
        congr 1
        split <;> omega
    · by_cases c4 : r.byte.1 = 4
      · have e : r.pk = (⟨r.byte.1, r.byte.2.num.1, r.byte.2.num.2.num.1, r.hd.num.1, 0, [], false, r.hd.num.2.num.1, r.hd.num.2.num.2.num.1⟩, 0, r.hd.num.2.num.2.num.2) := by unfold RD.pk; rw [if_neg c2, if_neg c3, if_pos c4]
        rw [e] at hb ⊢
        dsimp only at hb ⊢
        have b1 := num_bad hb
        have b2 := num_bad b1
        obtain ⟨k1, k2⟩ := hd_ate h (num_bad b2)
        have hp : PkV.bytes ⟨r.byte.1, r.byte.2.num.1, r.byte.2.num.2.num.1, r.hd.num.1, 0, [], false, r.hd.num.2.num.1, r.hd.num.2.num.2.num.1⟩ = [r.byte.1] ++ putV r.byte.2.num.1 ++ putV r.byte.2.num.2.num.1 ++ (putV r.hd.num.1 ++ putV r.hd.num.2.num.1 ++ putV r.hd.num.2.num.2.num.1) := by
          unfold PkV.bytes PkV.tail; dsimp only; rw [if_neg c2, if_neg c3, if_pos c4, show r.byte.1 % 256 = r.byte.1 from by omega]
        exact ⟨_, k1.trans (((num_ate h1.1 b2).trans (num_ate h2.1 b1)).trans (num_ate h3.1 hb)), by rw [hp]; simp, by rw [hp]⟩
      · have e : r.pk = (⟨r.byte.1, r.byte.2.num.1, r.byte.2.num.2.num.1, 0, 0, [], false, 0, 0⟩, 0, r.hd) := by unfold RD.pk; rw [if_neg c2, if_neg c3, if_neg c4]
        rw [e] at hb ⊢
        dsimp only at hb ⊢
        obtain ⟨k1, k2⟩ := hd_ate h hb
        have hp : PkV.bytes ⟨r.byte.1, r.byte.2.num.1, r.byte.2.num.2.num.1, 0, 0, [], false, 0, 0⟩ = [r.byte.1] ++ putV r.byte.2.num.1 ++ putV r.byte.2.num.2.num.1 := by
          unfold PkV.bytes PkV.tail; dsimp only; rw [if_neg c2, if_neg c3, if_neg c4, show r.byte.1 % 256 = r.byte.1 from by have := k2.1; have := k2.2; omega, List.append_nil]
        exact ⟨_, k1, by rw [hp]; simp, by rw [hp]⟩
theorem ev_d {r : RD} (h : r.Ok) : ((∀ x ∈ r.ev.1.d, In8 x) ∧ r.ev.1.d.length ≤ r.B.length) ∧ ((∀ x ∈ r.ev.1.p.d, In8 x) ∧ r.ev.1.p.d.length ≤ r.B.length) := by
  have h1 := h.byte
  have h2 := RD.bytes_in h1.1 4096
  have h3 := pk_d h1.1
  rw [h1.2] at h2 h3
  have h0 : (∀ x ∈ pk0.d, In8 x) ∧ pk0.d.length ≤ r.B.length := ⟨by simp [pk0], by simp [pk0]⟩
  unfold RD.ev
  split
  · exact ⟨h2, h0⟩
  · split
    · exact ⟨⟨by simp, by simp⟩, h0⟩
    · split
      · exact ⟨⟨by simp, by simp⟩, h3⟩
      · exact ⟨⟨by simp, by simp⟩, h0⟩
/-- an event that is read was these bytes -/
theorem ev_ate {r : RD} (h : r.Ok) (hok : r.evOk = true) : Ate r r.ev.2 r.ev.1.bytes ∧ r.ev.1.right = true := by
  have h1 := h.byte
  unfold RD.evOk at hok
  simp only [Bool.and_eq_true, Bool.not_eq_true'] at hok
  obtain ⟨⟨hb, hr⟩, hf⟩ := hok
  refine ⟨?_, hr⟩
  have hbb : ∀ e : EvV, ∀ t, e.k = r.byte.1 → In8 r.byte.1 → EvV.tail e = t → e.bytes = [r.byte.1] ++ t := fun e t hk h8 ht => by
    unfold EvV.bytes; rw [ht, hk, show r.byte.1 % 256 = r.byte.1 from by have := h8.1; have := h8.2; omega]
  by_cases c1 : r.byte.1 = 1 ∨ r.byte.1 = 2
  · have e : r.ev = (⟨r.byte.1, 0, (r.byte.2.bytes 4096).1, pk0⟩, (r.byte.2.bytes 4096).2) := by unfold RD.ev; rw [if_pos c1]
    rw [e] at hb ⊢
    obtain ⟨k1, k2⟩ := byte_ate h (bytes_bad hb)
    rw [hbb _ (putV ((r.byte.2.bytes 4096).1.length : Int) ++ (r.byte.2.bytes 4096).1) rfl k2 (by unfold EvV.tail; dsimp only; rw [if_pos c1])]
    exact k1.trans (bytes_ate h1.1 hb).1
  · by_cases c2 : r.byte.1 = 3 ∨ r.byte.1 = 7 ∨ r.byte.1 = 8
    · have e : r.ev = (⟨r.byte.1, r.byte.2.num.1, [], pk0⟩, r.byte.2.num.2) := by unfold RD.ev; rw [if_neg c1, if_pos c2]
      rw [e] at hb ⊢
      obtain ⟨k1, k2⟩ := byte_ate h (num_bad hb)
      rw [hbb _ (putV r.byte.2.num.1) rfl k2 (by unfold EvV.tail; dsimp only; rw [if_neg c1, if_pos c2])]
      exact k1.trans (num_ate h1.1 hb)
    · by_cases c3 : r.byte.1 = 4 ∨ r.byte.1 = 5
      · have e : r.ev = (⟨r.byte.1, 0, [], r.byte.2.pk.1⟩, r.byte.2.pk.2.2) := by unfold RD.ev; rw [if_neg c1, if_neg c2, if_pos c3]
        rw [e] at hb ⊢
        rw [if_pos c3] at hf
        obtain ⟨w, q1, q2, _⟩ := pk_ate h1.1 hb
        have hw := q2.2 (of_decide_eq_true hf)
        have hb1 : r.byte.2.bad = false := q1.b0
        obtain ⟨k1, k2⟩ := byte_ate h hb1
        rw [hbb _ r.byte.2.pk.1.bytes rfl k2 (by unfold EvV.tail; dsimp only; rw [if_neg c1, if_neg c2, if_pos c3]), hw]
        exact k1.trans q1
      · have e : r.ev = (⟨r.byte.1, 0, [], pk0⟩, r.byte.2) := by unfold RD.ev; rw [if_neg c1, if_neg c2, if_neg c3]
        rw [e] at hb ⊢
        obtain ⟨k1, k2⟩ := byte_ate h hb
        rw [hbb _ [] rfl k2 (by unfold EvV.tail; dsimp only; rw [if_neg c1, if_neg c2, if_neg c3]), List.append_nil]
        exact k1
end Go.Proofs.Ytgckbcljlkkceaa.ctr
namespace Go.Proofs.Ytgckbcljlkkceaa.ctr
open Go Go.Vm Go.RowKit
set_option linter.unusedVariables false
set_option linter.constructorNameAsVariable false
set_option linter.unusedSimpArgs false
/-! ## the reference's reader, over bytes that are not its own -/
section
variable {bd : Bd} {fu : Nat}
theorem y_num (n : Nat) {s0 : St} (s : St) (p : Nat) (r : RD) (v : AV) (Ps : List Obj) (hv0 : RdE s0 v 1 encB r.B) (hS : Sep s0 s (oC p [v, num r.a, .bool r.bad] :: Ps)) (hr : r.Ok) (hfu : 10 < fu) : OutOk (callF bd tab.get fu (n + 4) 74 [.ptr p 0] s) (fun x s' => Is x (num r.num.1) ∧ Sep s0 s' (oC p [v, num r.num.2.a, .bool r.num.2.bad] :: Ps)) := by
  refine call_code t74 rfl ?_
  have h1 := hS.getC
  have h2 := hv0.fr0 hS.frm
  obtain ⟨B, a, bad⟩ := r
  obtain ⟨a1, a2, a3⟩ := hr
  dsimp only at hS hv0 h1 h2 a1 a2 a3
  obtain ⟨w, g1, kw⟩ := h2.sliL (a := a) a1.1 a1.2
  have h8 : ∀ x ∈ B.drop a.toNat, In8 x := fun x hx => a2 x (List.mem_of_mem_drop hx)
  obtain ⟨t1, t2, t3, t4⟩ := takeV_bd h8
  simp (disch := omega) only [vm0, vm1, vm2, vm3, vm4, vm5, vm6, vm7, vmF, vmT, evo, wr, wrC, frame, Nat.reduceAdd, Nat.reduceMul, Nat.reduceSub, beq_self_eq_true, List.cons_append, List.nil_append, beq_dec, vmI, vc74, h1, g1]
  refine call_ok rfl rfl (w_take (n + 1) s w _ kw h8 (by simp; omega) hfu) ?_
  rintro y s2 ⟨rfl, rfl⟩
  have hsm := sm_v h2.rd.sl
  unfold RD.num RD.take
  dsimp only
  rw [List.length_drop] at t4
  generalize takeV (B.drop a.toNat) = T at *
  obtain ⟨x, sz, ok⟩ := T
  dsimp only at t1 t2 t3 t4 ⊢
  cases bad
  · cases ok
    · rw [if_pos (.inr rfl)]
      simp (disch := omega) only [vm0, vm1, vm2, vm3, vm4, vm5, vm6, vm7, vmF, vmT, evo, wr, wrC, frame, Nat.reduceAdd, Nat.reduceMul, Nat.reduceSub, beq_self_eq_true, List.cons_append, List.nil_append, beq_dec, vmI, h1, g1, hsm]
      exact ⟨rfl, hS.putC _⟩
    · rw [if_neg (by simp)]
      simp (disch := omega) only [vm0, vm1, vm2, vm3, vm4, vm5, vm6, vm7, vmF, vmT, evo, wr, wrC, frame, Nat.reduceAdd, Nat.reduceMul, Nat.reduceSub, beq_self_eq_true, List.cons_append, List.nil_append, beq_dec, vmI, h1, g1, hsm]
      exact ⟨rfl, hS.putC _⟩
  · rw [if_pos (.inl rfl)]
    simp (disch := omega) only [vm0, vm1, vm2, vm3, vm4, vm5, vm6, vm7, vmF, vmT, evo, wr, wrC, frame, Nat.reduceAdd, Nat.reduceMul, Nat.reduceSub, beq_self_eq_true, List.cons_append, List.nil_append, beq_dec, vmI, h1, g1, hsm]
    exact ⟨rfl, hS.putC _⟩
theorem y_byte (n : Nat) {s0 : St} (s : St) (p : Nat) (r : RD) (v : AV) (Ps : List Obj) (hv0 : RdE s0 v 1 encB r.B) (hS : Sep s0 s (oC p [v, num r.a, .bool r.bad] :: Ps)) (hr : r.Ok) : OutOk (callF bd tab.get fu (n + 2) 72 [.ptr p 0] s) (fun x s' => Is x (byt r.byte.1) ∧ Sep s0 s' (oC p [v, num r.byte.2.a, .bool r.byte.2.bad] :: Ps)) := by
  refine call_code t72 rfl ?_
  have h1 := hS.getC
  have h2 := hv0.fr0 hS.frm
  obtain ⟨B, a, bad⟩ := r
  have hr0 := hr
  obtain ⟨a1, a2, a3⟩ := hr
  dsimp only at hS hv0 h1 h2 a1 a2 a3
  have hsm := sm_v h2.rd.sl
  have e := h2.lenV
  unfold RD.byte
  dsimp only
  cases bad
  · by_cases hz : a = B.length
    · rw [if_pos (.inr hz)]
      have hz2 : ¬ a < (B.length : Int) := by omega
      simp (disch := omega) only [vm0, vm1, vm2, vm3, vm4, vm5, vm6, vm7, vmF, vmT, evo, wr, wrC, frame, Nat.reduceAdd, Nat.reduceMul, Nat.reduceSub, beq_self_eq_true, List.cons_append, List.nil_append, beq_dec, vmI, vc72, h1, e, hsm, vmU]
      exact ⟨rfl, hS.putC _⟩
    · rw [if_neg (by simp [hz])]
      obtain ⟨c, hc⟩ : ∃ c, B[a.toNat]? = some c := ⟨_, List.getElem?_eq_getElem (by omega)⟩
      have e1 := h2.ia hc
      have e2 := h2.at1 (f := byt) hc
      have eb := h2.blk' hc
      rw [Int.toNat_of_nonneg a1.1] at e1
      have hgd : B.getD a.toNat 0 = c := by rw [List.getD, hc]; rfl
      have eb0 := hv0.blk' hc
      have hpp : s0.next ≤ p := by
        obtain ⟨fp, ⟨f, g, ⟨_, _, rfl⟩, _, _, rfl⟩, hn, _⟩ := hS
        have := hn p (by simp)
        simpa using this
      have hpb : sblk v ≠ p := by omega
      have ha1 : a + 1 - 1 = a := by omega
      rw [hgd]
      simp (disch := omega) only [vm0, vm1, vm2, vm3, vm4, vm5, vm6, vm7, vmF, vmT, evo, wr, wrC, frame, Nat.reduceAdd, Nat.reduceMul, Nat.reduceSub, beq_self_eq_true, List.cons_append, List.nil_append, beq_dec, vmI, vc72, h1, e, hsm, e1, e2, ha1, vmU]
      exact ⟨rfl, hS.putC _⟩
  · rw [if_pos (.inl rfl)]
    simp (disch := omega) only [vm0, vm1, vm2, vm3, vm4, vm5, vm6, vm7, vmF, vmT, evo, wr, wrC, frame, Nat.reduceAdd, Nat.reduceMul, Nat.reduceSub, beq_self_eq_true, List.cons_append, List.nil_append, beq_dec, vmI, vc72, h1, e, hsm, vmU]
    exact ⟨rfl, hS.putC _⟩
set_option maxHeartbeats 1000000 in
theorem y_bytes (n : Nat) {s0 : St} (s : St) (p : Nat) (r : RD) (most : Int) (v : AV) (Ps : List Obj) (hv0 : RdE s0 v 1 encB r.B) (hS : Sep s0 s (oC p [v, num r.a, .bool r.bad] :: Ps)) (hr : r.Ok) (hm : most ≤ 1000000000) (hfu : 10 < fu) : OutOk (callF bd tab.get fu (n + 4) 73 [.ptr p 0, num most] s) (fun x s' => Sep s0 s' (oW x 1 encB (r.bytes most).1 :: oC p [v, num (r.bytes most).2.a, .bool (r.bytes most).2.bad] :: Ps)) := by
  refine call_code t73 rfl ?_
  have h1 := hS.getC
  have h2 := hv0.fr0 hS.frm
  obtain ⟨B, a, bad⟩ := r
  have hr0 := hr
  obtain ⟨a1, a2, a3⟩ := hr
  dsimp only at hS hv0 h1 h2 a1 a2 a3
  obtain ⟨w, g1, kw⟩ := h2.sliL (a := a) a1.1 a1.2
  have h8 : ∀ x ∈ B.drop a.toNat, In8 x := fun x hx => a2 x (List.mem_of_mem_drop hx)
  obtain ⟨t1, t2, t3, t4⟩ := takeV_bd h8
  have hsm := sm_v h2.rd.sl
  have e := h2.lenV
  simp (disch := omega) only [vm0, vm1, vm2, vm3, vm4, vm5, vm6, vm7, vmF, vmT, evo, wr, wrC, frame, Nat.reduceAdd, Nat.reduceMul, Nat.reduceSub, beq_self_eq_true, List.cons_append, List.nil_append, beq_dec, vmI, vc73, h1, g1]
  refine call_ok rfl rfl (w_take (n + 1) s w _ kw h8 (by simp; omega) hfu) ?_
  rintro y s2 ⟨rfl, rfl⟩
  unfold RD.bytes RD.take
  dsimp only
  rw [List.length_drop] at t4
  generalize takeV (B.drop a.toNat) = T at *
  obtain ⟨x, sz, ok⟩ := T
  dsimp only at t1 t2 t3 t4 ⊢
  have fail : Sep s0 (s2.put p (some (.cells [v, num a, .bool true] .own))) (oW .nils 1 encB ([] : List Int) :: oC p [v, num a, .bool true] :: Ps) :=
    (hS.putC _).push (P := oW .nils 1 encB []) (f := []) (OwE.nil encB_w (by omega)) .refl (by simp [Nw])
  cases bad
  · cases ok
    · rw [if_pos (.inr (.inl rfl))]
      simp (disch := omega) only [vm0, vm1, vm2, vm3, vm4, vm5, vm6, vm7, vmF, vmT, evo, wr, wrC, frame, Nat.reduceAdd, Nat.reduceMul, Nat.reduceSub, beq_self_eq_true, List.cons_append, List.nil_append, beq_dec, vmI, h1, g1, hsm, e, vmU]
      exact fail
    · by_cases c1 : most < x
      · rw [if_pos (.inr (.inr (.inl c1)))]
        simp (disch := omega) only [vm0, vm1, vm2, vm3, vm4, vm5, vm6, vm7, vmF, vmT, evo, wr, wrC, frame, Nat.reduceAdd, Nat.reduceMul, Nat.reduceSub, beq_self_eq_true, List.cons_append, List.nil_append, beq_dec, vmI, h1, g1, hsm, e, vmU]
        exact fail
      · by_cases c2 : (B.length : Int) - a - sz < x
        · rw [if_pos (.inr (.inr (.inr c2)))]
          simp (disch := omega) only [vm0, vm1, vm2, vm3, vm4, vm5, vm6, vm7, vmF, vmT, evo, wr, wrC, frame, Nat.reduceAdd, Nat.reduceMul, Nat.reduceSub, beq_self_eq_true, List.cons_append, List.nil_append, beq_dec, vmI, h1, g1, hsm, e, vmU]
          exact fail
        · rw [if_neg (by simp [c1, c2])]
          obtain ⟨u, g2, ku⟩ := h2.sli' (a := a + sz) (b := a + sz + x) (by omega) (by omega) (by omega)
          have k1 := ku.lenOf
          have k2 := ku.cellsOf
          have hul := ku.len
          have hul2 : ((B.take (a + sz + x).toNat).drop (a + sz).toNat).length ≤ B.length := by simp; omega
          simp (disch := omega) only [vm0, vm1, vm2, vm3, vm4, vm5, vm6, vm7, vmF, vmT, evo, wr, wrC, frame, Nat.reduceAdd, Nat.reduceMul, Nat.reduceSub, beq_self_eq_true, List.cons_append, List.nil_append, beq_dec, vmI, h1, g1, g2, hsm, e, vmU, k1, k2]
          refine op_app (OwE.nil (s := s2) encB_w (by omega)) .refl (new := (B.take (a + sz + x).toNat).drop (a + sz).toNat) rfl rfl (by simp only [List.length_nil]; omega) ?_
          intro y s3 fo ho hf hn
          rw [List.nil_append] at ho
          have hS3 := hS.push (P := oW y 1 encB ((B.take (a + sz + x).toNat).drop (a + sz).toNat)) ho hf hn
          have h1n := hS3.swap.getC
          have hax : a + (sz + x) = a + sz + x := by omega
          simp (disch := omega) only [vm0, vm1, vm2, vm3, vm4, vm5, vm6, vm7, vmF, vmT, evo, wr, wrC, frame, Nat.reduceAdd, Nat.reduceMul, Nat.reduceSub, beq_self_eq_true, List.cons_append, List.nil_append, beq_dec, vmI, h1, h1n, g1, g2, hsm, e, hax]
          exact (hS3.swap.putC _).swap
  · rw [if_pos (.inl rfl)]
    simp (disch := omega) only [vm0, vm1, vm2, vm3, vm4, vm5, vm6, vm7, vmF, vmT, evo, wr, wrC, frame, Nat.reduceAdd, Nat.reduceMul, Nat.reduceSub, beq_self_eq_true, List.cons_append, List.nil_append, beq_dec, vmI, h1, g1, hsm, e, vmU]
    exact fail
end
end Go.Proofs.Ytgckbcljlkkceaa.ctr
namespace Go.Proofs.Ytgckbcljlkkceaa.ctr
open Go Go.Vm Go.RowKit
set_option linter.unusedVariables false
set_option linter.constructorNameAsVariable false
set_option linter.unusedSimpArgs false
theorem RD.byte_in {r : RD} (h : r.Ok) : 0 ≤ r.byte.1 ∧ r.byte.1 < 256 := by
  cases hb : r.byte.2.bad
  · have := (byte_ate h hb).2; exact ⟨this.1, by have := this.2; omega⟩
  · unfold RD.byte at hb ⊢
    split
    · simp
    · rename_i hc; rw [if_neg hc] at hb; exact absurd (.inl hb) hc
section
variable {bd : Bd} {fu : Nat}
set_option maxHeartbeats 8000000 in
theorem p_take (n : Nat) {s0 : St} (s : St) (p : Nat) (r : RD) (Ps : List Obj) (hS : Sep s0 s (oR p r :: Ps)) (hr : r.Ok) (hfu : 10 < fu) :
    OutOk (callF bd tab.get fu (n + 5) 116 [.ptr p 0] s) (fun x s' => ∃ (q : PkV) (w : AV), Is x (.tup [.agg (q.cs w), .bool r.pkOk]) ∧ ∃ r', Sep s0 s' (oW w 1 encB q.d :: oR p r' :: Ps) ∧ (r.pkOk = true → q = r.pk.1 ∧ r' = r.pk.2.2)) := by
  refine call_code t116 rfl ?_
  have hb8 := RD.byte_in hr
  have o1 := hr.byte.1
  have o2 := o1.num.1
  have o3 := hr.hd.1
  have o4 := o3.num.1
  have o5 := o4.num.1
  have o6 := hr.dt.1
  have hpd := pk_d hr
  have hS1 := hS.newC z9
  have hS2 := hS1.swap
  dsimp only [z9] at hS2
  have fail : ∀ s', r.pkOk = false → (∃ r', Sep s0 s' (oC s.next z9 :: oR p r' :: Ps)) → ∃ (q : PkV) (w : AV), Is (AV.tup [AV.agg [num 0, num 0, num 0, num 0, num 0, AV.nils, AV.bool false, num 0, num 0], AV.bool false]) (AV.tup [AV.agg (q.cs w), AV.bool r.pkOk]) ∧ ∃ r', Sep s0 s' (oW w 1 encB q.d :: oR p r' :: Ps) ∧ (r.pkOk = true → q = r.pk.1 ∧ r' = r.pk.2.2) := fun s' hf ⟨r', h1⟩ => by
    refine ⟨pk0, .nils, by rw [hf]; rfl, r', ?_, fun h => by rw [hf] at h; cases h⟩
    exact (Sep.drop h1).push (P := oW .nils 1 encB []) (f := []) (.nil encB_w (by omega)) .refl (by simp [Nw])
  simp (disch := omega) only [vm0, vm1, vm2, vm3, vm4, vm5, vm6, vm7, vmF, vmT, evo, wr, wrC, frame, Nat.reduceAdd, Nat.reduceMul, Nat.reduceSub, beq_self_eq_true, List.cons_append, List.nil_append, beq_dec, vmI, vc116]
  refine call_ok rfl rfl (r_byte (n + 2) _ p r _ hS2 hr) ?_
  rintro x s1 ⟨rfl, hS3⟩
  simp (disch := omega) only [vm0, vm1, vm2, vm3, vm4, vm5, vm6, vm7, vmF, vmT, evo, wr, wrC, frame, Nat.reduceAdd, Nat.reduceMul, Nat.reduceSub, beq_self_eq_true, List.cons_append, List.nil_append, beq_dec, vmI, f_cvi, cvi_c]
  refine call_ok rfl rfl (r_num n _ p _ _ hS3 o1 hfu) ?_
  rintro x s2 ⟨rfl, hS4⟩
  simp (disch := omega) only [vm0, vm1, vm2, vm3, vm4, vm5, vm6, vm7, vmF, vmT, evo, wr, wrC, frame, Nat.reduceAdd, Nat.reduceMul, Nat.reduceSub, beq_self_eq_true, List.cons_append, List.nil_append, beq_dec, vmI]
  refine call_ok rfl rfl (r_num n _ p _ _ hS4 o2 hfu) ?_
  rintro x s3 ⟨rfl, hS5⟩
  have hS6 := hS5.cell [num 0, num 0, num 0, num 0, num 0, .nils, .bool false, num 0, num 0] [num r.byte.1, num r.byte.2.num.1, num r.byte.2.num.2.num.1, num 0, num 0, .nils, .bool false, num 0, num 0]
  have g6 := hS6.getC
  change Sep s0 _ (_ :: oR p r.hd :: _ :: Ps) at hS6
  simp (disch := omega) only [vm0, vm1, vm2, vm3, vm4, vm5, vm6, vm7, vmF, vmT, evo, wr, wrC, frame, Nat.reduceAdd, Nat.reduceMul, Nat.reduceSub, beq_self_eq_true, List.cons_append, List.nil_append, beq_dec, vmI, g6]
  generalize hb1 : s3.next = b1 at *
  generalize ((s3.new (.cells [num 0, num 0, num 0, num 0, num 0, .nils, .bool false, num 0, num 0] .own)).put b1 (some (.cells [num r.byte.1, num r.byte.2.num.1, num r.byte.2.num.2.num.1, num 0, num 0, .nils, .bool false, num 0, num 0] .own))) = s4 at *
  clear hS1 hS2 hS3 hS4 hS5
  rcases (show r.byte.1 = 2 ∨ r.byte.1 = 3 ∨ r.byte.1 = 4 ∨ (r.byte.1 ≠ 2 ∧ r.byte.1 ≠ 3 ∧ r.byte.1 ≠ 4) by omega) with c | c | c | c
  · have e : r.pk = (⟨r.byte.1, r.byte.2.num.1, r.byte.2.num.2.num.1, r.hd.num.1, 0, [], false, 0, 0⟩, 0, r.hd.num.2) := by unfold RD.pk; rw [if_pos c]
    simp (disch := omega) only [vm0, vm1, vm2, vm3, vm4, vm5, vm6, vm7, vmF, vmT, evo, wr, wrC, frame, Nat.reduceAdd, Nat.reduceMul, Nat.reduceSub, beq_self_eq_true, List.cons_append, List.nil_append, beq_dec, vmI, g6, c]
    refine call_ok rfl rfl (r_num n _ p _ _ (((hS6.re ((List.perm_middle (l₁ := [_])).trans (.cons _ (.refl _)))))) o3 hfu) ?_
    rintro x s5 ⟨rfl, hS7⟩
    have g7 := Sep.getC (((hS7.re ((List.perm_middle (l₁ := [_])).trans (.cons _ (.refl _))))))
    have hS8 := Sep.putC (((hS7.re ((List.perm_middle (l₁ := [_])).trans (.cons _ (.refl _)))))) [num r.byte.1, num r.byte.2.num.1, num r.byte.2.num.2.num.1, num r.hd.num.1, num 0, .nils, .bool false, num 0, num 0]
    have hT := hS8.push (P := oW .nils 1 encB []) (f := []) (.nil encB_w (by omega)) .refl (by simp [Nw])
    simp (disch := omega) only [vm0, vm1, vm2, vm3, vm4, vm5, vm6, vm7, vmF, vmT, evo, wr, wrC, frame, Nat.reduceAdd, Nat.reduceMul, Nat.reduceSub, beq_self_eq_true, List.cons_append, List.nil_append, beq_dec, vmI, g7]
    generalize (s5.put b1 (some (.cells [num r.byte.1, num r.byte.2.num.1, num r.byte.2.num.2.num.1, num r.hd.num.1, num 0, .nils, .bool false, num 0, num 0] .own))) = sT at *
    have hpk : r.pkOk = (!(r.hd.num.2).bad && PkV.right ⟨r.byte.1, r.byte.2.num.1, r.byte.2.num.2.num.1, r.hd.num.1, 0, [], false, 0, 0⟩ && decide ((0 : Int) ≤ 1)) := by unfold RD.pkOk; rw [e]
    have gb1 := Sep.getC (((hT.re ((List.perm_middle (l₁ := [_])).trans (.cons _ (.refl _))))))
    have gb2 := Sep.getC (((hT.re ((List.perm_middle (l₁ := [_, _, _])).trans (.cons _ (.refl _))))))
    refine call_ok rfl rfl (r_bad (n + 3) sT p (r.hd.num.2) _ (((hT.re ((List.perm_middle (l₁ := [_, _])).trans (.cons _ (.refl _))))))) ?_
    rintro x s9 ⟨rfl, rfl⟩
    cases hbad : (r.hd.num.2).bad
    · have rw9 := Sep.rdW hT
      have hck := p_check (bd := bd)  (fu := fu) (n + 1) s9 ⟨r.byte.1, r.byte.2.num.1, r.byte.2.num.2.num.1, r.hd.num.1, 0, [], false, 0, 0⟩ .nils rw9 (by show (0:Nat) ≤ 1000000; omega) (by rw [e] at hpd; exact hpd.1)
      dsimp only [PkV.cs] at hck
      simp (disch := omega) only [vm0, vm1, vm2, vm3, vm4, vm5, vm6, vm7, vmF, vmT, evo, wr, wrC, frame, Nat.reduceAdd, Nat.reduceMul, Nat.reduceSub, beq_self_eq_true, List.cons_append, List.nil_append, beq_dec, vmI, gb1, gb2]
      refine call_ok rfl rfl hck ?_
      rintro x s10 ⟨rfl, f10⟩
      have hT2 := hT.fr f10
      have hb1' := Sep.getC (((hT2.re ((List.perm_middle (l₁ := [_])).trans (.cons _ (.refl _))))))
      have hb2' := Sep.getC (((hT2.re ((List.perm_middle (l₁ := [_, _, _])).trans (.cons _ (.refl _))))))
      have hT3 := Sep.putC (((hT2.re ((List.perm_middle (l₁ := [_, _, _])).trans (.cons _ (.refl _)))))) [num r.byte.1, num r.byte.2.num.1, num r.byte.2.num.2.num.1, num r.hd.num.1, num 0, .nils, .bool false, num 0, num 0]
      have hb3' := hT3.getC
      have hT4 := Sep.putC (((hT2.re ((List.perm_middle (l₁ := [_, _, _])).trans (.cons _ (.refl _)))))) [num 0, num 0, num 0, num 0, num 0, .nils, .bool false, num 0, num 0]
      have hb4' := hT4.getC
      cases hrt : PkV.right ⟨r.byte.1, r.byte.2.num.1, r.byte.2.num.2.num.1, r.hd.num.1, 0, [], false, 0, 0⟩
      · simp only [Bool.false_eq_true, if_false]
        simp (disch := omega) only [vm0, vm1, vm2, vm3, vm4, vm5, vm6, vm7, vmF, vmT, evo, wr, wrC, frame, Nat.reduceAdd, Nat.reduceMul, Nat.reduceSub, beq_self_eq_true, List.cons_append, List.nil_append, beq_dec, vmI, gb1, gb2, hb1', hb2', hb4', sv_sl rw9.rd.sl, sv_bool]
        exact fail _ (by rw [hpk, hrt]; simp) ⟨r.hd.num.2, (((hT4.re ((List.perm_middle (l₁ := [_])).trans (.cons _ ((List.perm_middle (l₁ := [_])).trans (.cons _ (.refl _)))))).drop.drop))⟩
      · simp only [if_true]
        simp (disch := omega) only [vm0, vm1, vm2, vm3, vm4, vm5, vm6, vm7, vmF, vmT, evo, wr, wrC, frame, Nat.reduceAdd, Nat.reduceMul, Nat.reduceSub, beq_self_eq_true, List.cons_append, List.nil_append, beq_dec, vmI, gb1, gb2, hb1', hb2', hb3', sv_sl rw9.rd.sl, sv_bool]
        have hk : r.pkOk = true := by rw [hpk, hbad, hrt, decide_eq_true (show (0 : Int) ≤ 1 by omega)]; rfl
        exact ⟨⟨r.byte.1, r.byte.2.num.1, r.byte.2.num.2.num.1, r.hd.num.1, 0, [], false, 0, 0⟩, .nils, by rw [hk]; rfl, r.hd.num.2, (((hT3.re (.cons _ ((List.perm_middle (l₁ := [_])).trans (.cons _ (.refl _))))).drop.drop)), fun _ => by rw [e]; exact ⟨rfl, rfl⟩⟩
    · have hT4 := Sep.putC (((hT.re ((List.perm_middle (l₁ := [_, _, _])).trans (.cons _ (.refl _)))))) [num 0, num 0, num 0, num 0, num 0, .nils, .bool false, num 0, num 0]
      have hb4' := hT4.getC
      simp (disch := omega) only [vm0, vm1, vm2, vm3, vm4, vm5, vm6, vm7, vmF, vmT, evo, wr, wrC, frame, Nat.reduceAdd, Nat.reduceMul, Nat.reduceSub, beq_self_eq_true, List.cons_append, List.nil_append, beq_dec, vmI, gb1, gb2, hb4', vmU, du_lda]
      exact fail _ (by rw [hpk, hbad]; rfl) ⟨r.hd.num.2, (((hT4.re ((List.perm_middle (l₁ := [_])).trans (.cons _ ((List.perm_middle (l₁ := [_])).trans (.cons _ (.refl _)))))).drop.drop))⟩
  · have c0 : r.byte.1 ≠ 2 := by omega
    have e : r.pk = (⟨r.byte.1, r.byte.2.num.1, r.byte.2.num.2.num.1, 0, r.hd.num.1, r.dt.1, decide (r.dt.2.byte.1 = 1), 0, 0⟩, r.dt.2.byte.1, r.dt.2.byte.2) := by unfold RD.pk; rw [if_neg c0, if_pos c]
    have hdl : RD.bad r.dt.2 = false → r.dt.1.length ≤ 64 := fun hb => by have := (bytes_ate (most := 64) o4 hb).2; exact (by exact_mod_cast this)
    have hfb := RD.byte_in o6
    simp (disch := omega) only [vm0, vm1, vm2, vm3, vm4, vm5, vm6, vm7, vmF, vmT, evo, wr, wrC, frame, Nat.reduceAdd, Nat.reduceMul, Nat.reduceSub, beq_self_eq_true, List.cons_append, List.nil_append, beq_dec, vmI, g6, c]
    refine call_ok rfl rfl (r_num n _ p _ _ (((hS6.re ((List.perm_middle (l₁ := [_])).trans (.cons _ (.refl _)))))) o3 hfu) ?_
    rintro x s5 ⟨rfl, hS7⟩
    simp (disch := omega) only [vm0, vm1, vm2, vm3, vm4, vm5, vm6, vm7, vmF, vmT, evo, wr, wrC, frame, Nat.reduceAdd, Nat.reduceMul, Nat.reduceSub, beq_self_eq_true, List.cons_append, List.nil_append, beq_dec, vmI]
    refine call_ok rfl rfl (r_bytes n _ p _ 64 _ hS7 o4 (by omega) hfu) ?_
    rintro d s6 hS8
    change Sep s0 s6 (oW d 1 encB r.dt.1 :: oR p r.dt.2 :: _ :: _ :: Ps) at hS8
    have g8 := Sep.getC (((hS8.re ((List.perm_middle (l₁ := [_, _])).trans (.cons _ (.refl _))))))
    have hdc := cells1 (Sep.rdW hS8).rd.sl
    have hS9 := Sep.putC (((hS8.re ((List.perm_middle (l₁ := [_, _])).trans (.cons _ (.refl _)))))) [num r.byte.1, num r.byte.2.num.1, num r.byte.2.num.2.num.1, num 0, num r.hd.num.1, .nils, .bool false, num 0, num 0]
    have g9 := hS9.getC
    have hS10 := hS9.putC [num r.byte.1, num r.byte.2.num.1, num r.byte.2.num.2.num.1, num 0, num r.hd.num.1, d, .bool false, num 0, num 0]
    simp (disch := omega) only [vm0, vm1, vm2, vm3, vm4, vm5, vm6, vm7, vmF, vmT, evo, wr, wrC, frame, Nat.reduceAdd, Nat.reduceMul, Nat.reduceSub, beq_self_eq_true, List.cons_append, List.nil_append, beq_dec, vmI, g8, g9, hdc]
    refine call_ok rfl rfl (r_byte (n + 2) _ p _ _ (((hS10.re ((List.perm_middle (l₁ := [_, _])).trans (.cons _ (.refl _)))))) o6) ?_
    rintro x s7 ⟨rfl, hS11⟩
    have g11 := Sep.getC (((hS11.re ((List.perm_middle (l₁ := [_])).trans (.cons _ (.refl _))))))
    have g12 := Sep.getC (((hS11.re ((List.perm_middle (l₁ := [_, _, _])).trans (.cons _ (.refl _))))))
    by_cases hf1 : 1 < r.dt.2.byte.1
    · have hS12 := Sep.putC (((hS11.re ((List.perm_middle (l₁ := [_, _, _])).trans (.cons _ (.refl _)))))) [num 0, num 0, num 0, num 0, num 0, .nils, .bool false, num 0, num 0]
      have g13 := hS12.getC
      simp (disch := omega) only [vm0, vm1, vm2, vm3, vm4, vm5, vm6, vm7, vmF, vmT, evo, wr, wrC, frame, Nat.reduceAdd, Nat.reduceMul, Nat.reduceSub, beq_self_eq_true, List.cons_append, List.nil_append, beq_dec, vmI, g11, g12, g13]
      exact fail _ (by unfold RD.pkOk; rw [e]; simp [show ¬ r.dt.2.byte.1 ≤ 1 by omega]) ⟨r.dt.2.byte.2, (((hS12.re ((List.perm_middle (l₁ := [_, _])).trans (.cons _ ((List.perm_middle (l₁ := [_, _])).trans (.cons _ (.refl _)))))).drop.drop))⟩
    have hS12 := Sep.putC (((hS11.re ((List.perm_middle (l₁ := [_])).trans (.cons _ (.refl _)))))) [num r.byte.1, num r.byte.2.num.1, num r.byte.2.num.2.num.1, num 0, num r.hd.num.1, d, .bool (decide (r.dt.2.byte.1 = 1)), num 0, num 0]
    have hT := (((hS12.re ((List.perm_middle (l₁ := [_, _])).trans (.cons _ (.refl _))))))
    simp (disch := omega) only [vm0, vm1, vm2, vm3, vm4, vm5, vm6, vm7, vmF, vmT, evo, wr, wrC, frame, Nat.reduceAdd, Nat.reduceMul, Nat.reduceSub, beq_self_eq_true, List.cons_append, List.nil_append, beq_dec, vmI, g11, g12]
    generalize (s7.put b1 (some (.cells [num r.byte.1, num r.byte.2.num.1, num r.byte.2.num.2.num.1, num 0, num r.hd.num.1, d, .bool (decide (r.dt.2.byte.1 = 1)), num 0, num 0] .own))) = sT at *
    have hpk : r.pkOk = (!(r.dt.2.byte.2).bad && PkV.right ⟨r.byte.1, r.byte.2.num.1, r.byte.2.num.2.num.1, 0, r.hd.num.1, r.dt.1, decide (r.dt.2.byte.1 = 1), 0, 0⟩ && decide (r.dt.2.byte.1 ≤ 1)) := by unfold RD.pkOk; rw [e]
    have gb1 := Sep.getC (((hT.re ((List.perm_middle (l₁ := [_])).trans (.cons _ (.refl _))))))
    have gb2 := Sep.getC (((hT.re ((List.perm_middle (l₁ := [_, _, _])).trans (.cons _ (.refl _))))))
    refine call_ok rfl rfl (r_bad (n + 3) sT p (r.dt.2.byte.2) _ (((hT.re ((List.perm_middle (l₁ := [_, _])).trans (.cons _ (.refl _))))))) ?_
    rintro x s9 ⟨rfl, rfl⟩
    cases hbad : (r.dt.2.byte.2).bad
    · have rw9 := Sep.rdW hT
      have hck := p_check (bd := bd)  (fu := fu) (n + 1) s9 ⟨r.byte.1, r.byte.2.num.1, r.byte.2.num.2.num.1, 0, r.hd.num.1, r.dt.1, decide (r.dt.2.byte.1 = 1), 0, 0⟩ d rw9 (by have := hdl (byte_bad hbad); show r.dt.1.length ≤ 1000000; omega) (by rw [e] at hpd; exact hpd.1)
      dsimp only [PkV.cs] at hck
      simp (disch := omega) only [vm0, vm1, vm2, vm3, vm4, vm5, vm6, vm7, vmF, vmT, evo, wr, wrC, frame, Nat.reduceAdd, Nat.reduceMul, Nat.reduceSub, beq_self_eq_true, List.cons_append, List.nil_append, beq_dec, vmI, gb1, gb2]
      refine call_ok rfl rfl hck ?_
      rintro x s10 ⟨rfl, f10⟩
      have hT2 := hT.fr f10
      have hb1' := Sep.getC (((hT2.re ((List.perm_middle (l₁ := [_])).trans (.cons _ (.refl _))))))
      have hb2' := Sep.getC (((hT2.re ((List.perm_middle (l₁ := [_, _, _])).trans (.cons _ (.refl _))))))
      have hT3 := Sep.putC (((hT2.re ((List.perm_middle (l₁ := [_, _, _])).trans (.cons _ (.refl _)))))) [num r.byte.1, num r.byte.2.num.1, num r.byte.2.num.2.num.1, num 0, num r.hd.num.1, d, .bool (decide (r.dt.2.byte.1 = 1)), num 0, num 0]
      have hb3' := hT3.getC
      have hT4 := Sep.putC (((hT2.re ((List.perm_middle (l₁ := [_, _, _])).trans (.cons _ (.refl _)))))) [num 0, num 0, num 0, num 0, num 0, .nils, .bool false, num 0, num 0]
      have hb4' := hT4.getC
      cases hrt : PkV.right ⟨r.byte.1, r.byte.2.num.1, r.byte.2.num.2.num.1, 0, r.hd.num.1, r.dt.1, decide (r.dt.2.byte.1 = 1), 0, 0⟩
      · simp only [Bool.false_eq_true, if_false]
        simp (disch := omega) only [vm0, vm1, vm2, vm3, vm4, vm5, vm6, vm7, vmF, vmT, evo, wr, wrC, frame, Nat.reduceAdd, Nat.reduceMul, Nat.reduceSub, beq_self_eq_true, List.cons_append, List.nil_append, beq_dec, vmI, gb1, gb2, hb1', hb2', hb4', sv_sl rw9.rd.sl, sv_bool]
        exact fail _ (by rw [hpk, hrt]; simp) ⟨r.dt.2.byte.2, (((hT4.re ((List.perm_middle (l₁ := [_])).trans (.cons _ ((List.perm_middle (l₁ := [_])).trans (.cons _ (.refl _)))))).drop.drop))⟩
      · simp only [if_true]
        simp (disch := omega) only [vm0, vm1, vm2, vm3, vm4, vm5, vm6, vm7, vmF, vmT, evo, wr, wrC, frame, Nat.reduceAdd, Nat.reduceMul, Nat.reduceSub, beq_self_eq_true, List.cons_append, List.nil_append, beq_dec, vmI, gb1, gb2, hb1', hb2', hb3', sv_sl rw9.rd.sl, sv_bool]
        have hk : r.pkOk = true := by rw [hpk, hbad, hrt, decide_eq_true (show r.dt.2.byte.1 ≤ 1 by omega)]; rfl
        exact ⟨⟨r.byte.1, r.byte.2.num.1, r.byte.2.num.2.num.1, 0, r.hd.num.1, r.dt.1, decide (r.dt.2.byte.1 = 1), 0, 0⟩, d, by rw [hk]; rfl, r.dt.2.byte.2, (((hT3.re (.cons _ ((List.perm_middle (l₁ := [_])).trans (.cons _ (.refl _))))).drop.drop)), fun _ => by rw [e]; exact ⟨rfl, rfl⟩⟩
    · have hT4 := Sep.putC (((hT.re ((List.perm_middle (l₁ := [_, _, _])).trans (.cons _ (.refl _)))))) [num 0, num 0, num 0, num 0, num 0, .nils, .bool false, num 0, num 0]
      have hb4' := hT4.getC
      simp (disch := omega) only [vm0, vm1, vm2, vm3, vm4, vm5, vm6, vm7, vmF, vmT, evo, wr, wrC, frame, Nat.reduceAdd, Nat.reduceMul, Nat.reduceSub, beq_self_eq_true, List.cons_append, List.nil_append, beq_dec, vmI, gb1, gb2, hb4', vmU, du_lda]
      exact fail _ (by rw [hpk, hbad]; rfl) ⟨r.dt.2.byte.2, (((hT4.re ((List.perm_middle (l₁ := [_])).trans (.cons _ ((List.perm_middle (l₁ := [_])).trans (.cons _ (.refl _)))))).drop.drop))⟩
  · have c0 : r.byte.1 ≠ 2 := by omega
    have c1 : r.byte.1 ≠ 3 := by omega
    have e : r.pk = (⟨r.byte.1, r.byte.2.num.1, r.byte.2.num.2.num.1, r.hd.num.1, 0, [], false, r.hd.num.2.num.1, r.hd.num.2.num.2.num.1⟩, 0, r.hd.num.2.num.2.num.2) := by unfold RD.pk; rw [if_neg c0, if_neg c1, if_pos c]
    simp (disch := omega) only [vm0, vm1, vm2, vm3, vm4, vm5, vm6, vm7, vmF, vmT, evo, wr, wrC, frame, Nat.reduceAdd, Nat.reduceMul, Nat.reduceSub, beq_self_eq_true, List.cons_append, List.nil_append, beq_dec, vmI, g6, c]
    refine call_ok rfl rfl (r_num n _ p _ _ (((hS6.re ((List.perm_middle (l₁ := [_])).trans (.cons _ (.refl _)))))) o3 hfu) ?_
    rintro x s5 ⟨rfl, hS7⟩
    simp (disch := omega) only [vm0, vm1, vm2, vm3, vm4, vm5, vm6, vm7, vmF, vmT, evo, wr, wrC, frame, Nat.reduceAdd, Nat.reduceMul, Nat.reduceSub, beq_self_eq_true, List.cons_append, List.nil_append, beq_dec, vmI]
    refine call_ok rfl rfl (r_num n _ p _ _ hS7 o4 hfu) ?_
    rintro x s6 ⟨rfl, hS8⟩
    simp (disch := omega) only [vm0, vm1, vm2, vm3, vm4, vm5, vm6, vm7, vmF, vmT, evo, wr, wrC, frame, Nat.reduceAdd, Nat.reduceMul, Nat.reduceSub, beq_self_eq_true, List.cons_append, List.nil_append, beq_dec, vmI]
    refine call_ok rfl rfl (r_num n _ p _ _ hS8 o5 hfu) ?_
    rintro x s7 ⟨rfl, hS9⟩
    have g7 := Sep.getC (((hS9.re ((List.perm_middle (l₁ := [_])).trans (.cons _ (.refl _))))))
    have hS10 := Sep.putC (((hS9.re ((List.perm_middle (l₁ := [_])).trans (.cons _ (.refl _)))))) [num r.byte.1, num r.byte.2.num.1, num r.byte.2.num.2.num.1, num r.hd.num.1, num 0, .nils, .bool false, num 0, num 0]
    have g8 := hS10.getC
    have hS11 := hS10.putC [num r.byte.1, num r.byte.2.num.1, num r.byte.2.num.2.num.1, num r.hd.num.1, num 0, .nils, .bool false, num r.hd.num.2.num.1, num 0]
    have g9 := hS11.getC
    have hS12 := hS11.putC [num r.byte.1, num r.byte.2.num.1, num r.byte.2.num.2.num.1, num r.hd.num.1, num 0, .nils, .bool false, num r.hd.num.2.num.1, num r.hd.num.2.num.2.num.1]
    have hT := hS12.push (P := oW .nils 1 encB []) (f := []) (.nil encB_w (by omega)) .refl (by simp [Nw])
    simp (disch := omega) only [vm0, vm1, vm2, vm3, vm4, vm5, vm6, vm7, vmF, vmT, evo, wr, wrC, frame, Nat.reduceAdd, Nat.reduceMul, Nat.reduceSub, beq_self_eq_true, List.cons_append, List.nil_append, beq_dec, vmI, g7, g8, g9]
    generalize (St.put (St.put (s7.put b1 (some (.cells [num r.byte.1, num r.byte.2.num.1, num r.byte.2.num.2.num.1, num r.hd.num.1, num 0, .nils, .bool false, num 0, num 0] .own))) b1 (some (.cells [num r.byte.1, num r.byte.2.num.1, num r.byte.2.num.2.num.1, num r.hd.num.1, num 0, .nils, .bool false, num r.hd.num.2.num.1, num 0] .own))) b1 (some (.cells [num r.byte.1, num r.byte.2.num.1, num r.byte.2.num.2.num.1, num r.hd.num.1, num 0, .nils, .bool false, num r.hd.num.2.num.1, num r.hd.num.2.num.2.num.1] .own))) = sT at *
    have hpk : r.pkOk = (!(r.hd.num.2.num.2.num.2).bad && PkV.right ⟨r.byte.1, r.byte.2.num.1, r.byte.2.num.2.num.1, r.hd.num.1, 0, [], false, r.hd.num.2.num.1, r.hd.num.2.num.2.num.1⟩ && decide ((0 : Int) ≤ 1)) := by unfold RD.pkOk; rw [e]
    have gb1 := Sep.getC (((hT.re ((List.perm_middle (l₁ := [_])).trans (.cons _ (.refl _))))))
    have gb2 := Sep.getC (((hT.re ((List.perm_middle (l₁ := [_, _, _])).trans (.cons _ (.refl _))))))
    refine call_ok rfl rfl (r_bad (n + 3) sT p (r.hd.num.2.num.2.num.2) _ (((hT.re ((List.perm_middle (l₁ := [_, _])).trans (.cons _ (.refl _))))))) ?_
    rintro x s9 ⟨rfl, rfl⟩
    cases hbad : (r.hd.num.2.num.2.num.2).bad
    · have rw9 := Sep.rdW hT
      have hck := p_check (bd := bd)  (fu := fu) (n + 1) s9 ⟨r.byte.1, r.byte.2.num.1, r.byte.2.num.2.num.1, r.hd.num.1, 0, [], false, r.hd.num.2.num.1, r.hd.num.2.num.2.num.1⟩ .nils rw9 (by show (0:Nat) ≤ 1000000; omega) (by rw [e] at hpd; exact hpd.1)
      dsimp only [PkV.cs] at hck
      simp (disch := omega) only [vm0, vm1, vm2, vm3, vm4, vm5, vm6, vm7, vmF, vmT, evo, wr, wrC, frame, Nat.reduceAdd, Nat.reduceMul, Nat.reduceSub, beq_self_eq_true, List.cons_append, List.nil_append, beq_dec, vmI, gb1, gb2]
      refine call_ok rfl rfl hck ?_
      rintro x s10 ⟨rfl, f10⟩
      have hT2 := hT.fr f10
      have hb1' := Sep.getC (((hT2.re ((List.perm_middle (l₁ := [_])).trans (.cons _ (.refl _))))))
      have hb2' := Sep.getC (((hT2.re ((List.perm_middle (l₁ := [_, _, _])).trans (.cons _ (.refl _))))))
      have hT3 := Sep.putC (((hT2.re ((List.perm_middle (l₁ := [_, _, _])).trans (.cons _ (.refl _)))))) [num r.byte.1, num r.byte.2.num.1, num r.byte.2.num.2.num.1, num r.hd.num.1, num 0, .nils, .bool false, num r.hd.num.2.num.1, num r.hd.num.2.num.2.num.1]
      have hb3' := hT3.getC
      have hT4 := Sep.putC (((hT2.re ((List.perm_middle (l₁ := [_, _, _])).trans (.cons _ (.refl _)))))) [num 0, num 0, num 0, num 0, num 0, .nils, .bool false, num 0, num 0]
      have hb4' := hT4.getC
      cases hrt : PkV.right ⟨r.byte.1, r.byte.2.num.1, r.byte.2.num.2.num.1, r.hd.num.1, 0, [], false, r.hd.num.2.num.1, r.hd.num.2.num.2.num.1⟩
      · simp only [Bool.false_eq_true, if_false]
        simp (disch := omega) only [vm0, vm1, vm2, vm3, vm4, vm5, vm6, vm7, vmF, vmT, evo, wr, wrC, frame, Nat.reduceAdd, Nat.reduceMul, Nat.reduceSub, beq_self_eq_true, List.cons_append, List.nil_append, beq_dec, vmI, gb1, gb2, hb1', hb2', hb4', sv_sl rw9.rd.sl, sv_bool]
        exact fail _ (by rw [hpk, hrt]; simp) ⟨r.hd.num.2.num.2.num.2, (((hT4.re ((List.perm_middle (l₁ := [_])).trans (.cons _ ((List.perm_middle (l₁ := [_])).trans (.cons _ (.refl _)))))).drop.drop))⟩
      · simp only [if_true]
        simp (disch := omega) only [vm0, vm1, vm2, vm3, vm4, vm5, vm6, vm7, vmF, vmT, evo, wr, wrC, frame, Nat.reduceAdd, Nat.reduceMul, Nat.reduceSub, beq_self_eq_true, List.cons_append, List.nil_append, beq_dec, vmI, gb1, gb2, hb1', hb2', hb3', sv_sl rw9.rd.sl, sv_bool]
        have hk : r.pkOk = true := by rw [hpk, hbad, hrt, decide_eq_true (show (0 : Int) ≤ 1 by omega)]; rfl
        exact ⟨⟨r.byte.1, r.byte.2.num.1, r.byte.2.num.2.num.1, r.hd.num.1, 0, [], false, r.hd.num.2.num.1, r.hd.num.2.num.2.num.1⟩, .nils, by rw [hk]; rfl, r.hd.num.2.num.2.num.2, (((hT3.re (.cons _ ((List.perm_middle (l₁ := [_])).trans (.cons _ (.refl _))))).drop.drop)), fun _ => by rw [e]; exact ⟨rfl, rfl⟩⟩
    · have hT4 := Sep.putC (((hT.re ((List.perm_middle (l₁ := [_, _, _])).trans (.cons _ (.refl _)))))) [num 0, num 0, num 0, num 0, num 0, .nils, .bool false, num 0, num 0]
      have hb4' := hT4.getC
      simp (disch := omega) only [vm0, vm1, vm2, vm3, vm4, vm5, vm6, vm7, vmF, vmT, evo, wr, wrC, frame, Nat.reduceAdd, Nat.reduceMul, Nat.reduceSub, beq_self_eq_true, List.cons_append, List.nil_append, beq_dec, vmI, gb1, gb2, hb4', vmU, du_lda]
      exact fail _ (by rw [hpk, hbad]; rfl) ⟨r.hd.num.2.num.2.num.2, (((hT4.re ((List.perm_middle (l₁ := [_])).trans (.cons _ ((List.perm_middle (l₁ := [_])).trans (.cons _ (.refl _)))))).drop.drop))⟩
  · obtain ⟨c0, c1, c2⟩ := c
    have e : r.pk = (⟨r.byte.1, r.byte.2.num.1, r.byte.2.num.2.num.1, 0, 0, [], false, 0, 0⟩, 0, r.hd) := by unfold RD.pk; rw [if_neg c0, if_neg c1, if_neg c2]
    have hT := (((hS6.re (.refl _)))).push (P := oW .nils 1 encB []) (f := []) (.nil encB_w (by omega)) .refl (by simp [Nw])
    simp (disch := omega) only [vm0, vm1, vm2, vm3, vm4, vm5, vm6, vm7, vmF, vmT, evo, wr, wrC, frame, Nat.reduceAdd, Nat.reduceMul, Nat.reduceSub, beq_self_eq_true, List.cons_append, List.nil_append, beq_dec, vmI, g6]
    have hpk : r.pkOk = (!(r.hd).bad && PkV.right ⟨r.byte.1, r.byte.2.num.1, r.byte.2.num.2.num.1, 0, 0, [], false, 0, 0⟩ && decide ((0 : Int) ≤ 1)) := by unfold RD.pkOk; rw [e]
    have gb1 := Sep.getC (((hT.re ((List.perm_middle (l₁ := [_])).trans (.cons _ (.refl _))))))
    have gb2 := Sep.getC (((hT.re ((List.perm_middle (l₁ := [_, _, _])).trans (.cons _ (.refl _))))))
    refine call_ok rfl rfl (r_bad (n + 3) s4 p (r.hd) _ (((hT.re ((List.perm_middle (l₁ := [_, _])).trans (.cons _ (.refl _))))))) ?_
    rintro x s9 ⟨rfl, rfl⟩
    cases hbad : (r.hd).bad
    · have rw9 := Sep.rdW hT
      have hck := p_check (bd := bd)  (fu := fu) (n + 1) s9 ⟨r.byte.1, r.byte.2.num.1, r.byte.2.num.2.num.1, 0, 0, [], false, 0, 0⟩ .nils rw9 (by show (0:Nat) ≤ 1000000; omega) (by rw [e] at hpd; exact hpd.1)
      dsimp only [PkV.cs] at hck
      simp (disch := omega) only [vm0, vm1, vm2, vm3, vm4, vm5, vm6, vm7, vmF, vmT, evo, wr, wrC, frame, Nat.reduceAdd, Nat.reduceMul, Nat.reduceSub, beq_self_eq_true, List.cons_append, List.nil_append, beq_dec, vmI, gb1, gb2]
      refine call_ok rfl rfl hck ?_
      rintro x s10 ⟨rfl, f10⟩
      have hT2 := hT.fr f10
      have hb1' := Sep.getC (((hT2.re ((List.perm_middle (l₁ := [_])).trans (.cons _ (.refl _))))))
      have hb2' := Sep.getC (((hT2.re ((List.perm_middle (l₁ := [_, _, _])).trans (.cons _ (.refl _))))))
      have hT3 := Sep.putC (((hT2.re ((List.perm_middle (l₁ := [_, _, _])).trans (.cons _ (.refl _)))))) [num r.byte.1, num r.byte.2.num.1, num r.byte.2.num.2.num.1, num 0, num 0, .nils, .bool false, num 0, num 0]
      have hb3' := hT3.getC
      have hT4 := Sep.putC (((hT2.re ((List.perm_middle (l₁ := [_, _, _])).trans (.cons _ (.refl _)))))) [num 0, num 0, num 0, num 0, num 0, .nils, .bool false, num 0, num 0]
      have hb4' := hT4.getC
      cases hrt : PkV.right ⟨r.byte.1, r.byte.2.num.1, r.byte.2.num.2.num.1, 0, 0, [], false, 0, 0⟩
      · simp only [Bool.false_eq_true, if_false]
        simp (disch := omega) only [vm0, vm1, vm2, vm3, vm4, vm5, vm6, vm7, vmF, vmT, evo, wr, wrC, frame, Nat.reduceAdd, Nat.reduceMul, Nat.reduceSub, beq_self_eq_true, List.cons_append, List.nil_append, beq_dec, vmI, gb1, gb2, hb1', hb2', hb4', sv_sl rw9.rd.sl, sv_bool]
        exact fail _ (by rw [hpk, hrt]; simp) ⟨r.hd, (((hT4.re ((List.perm_middle (l₁ := [_])).trans (.cons _ ((List.perm_middle (l₁ := [_])).trans (.cons _ (.refl _)))))).drop.drop))⟩
      · simp only [if_true]
        simp (disch := omega) only [vm0, vm1, vm2, vm3, vm4, vm5, vm6, vm7, vmF, vmT, evo, wr, wrC, frame, Nat.reduceAdd, Nat.reduceMul, Nat.reduceSub, beq_self_eq_true, List.cons_append, List.nil_append, beq_dec, vmI, gb1, gb2, hb1', hb2', hb3', sv_sl rw9.rd.sl, sv_bool]
        have hk : r.pkOk = true := by rw [hpk, hbad, hrt, decide_eq_true (show (0 : Int) ≤ 1 by omega)]; rfl
        exact ⟨⟨r.byte.1, r.byte.2.num.1, r.byte.2.num.2.num.1, 0, 0, [], false, 0, 0⟩, .nils, by rw [hk]; rfl, r.hd, (((hT3.re (.cons _ ((List.perm_middle (l₁ := [_])).trans (.cons _ (.refl _))))).drop.drop)), fun _ => by rw [e]; exact ⟨rfl, rfl⟩⟩
    · have hT4 := Sep.putC (((hT.re ((List.perm_middle (l₁ := [_, _, _])).trans (.cons _ (.refl _)))))) [num 0, num 0, num 0, num 0, num 0, .nils, .bool false, num 0, num 0]
      have hb4' := hT4.getC
      simp (disch := omega) only [vm0, vm1, vm2, vm3, vm4, vm5, vm6, vm7, vmF, vmT, evo, wr, wrC, frame, Nat.reduceAdd, Nat.reduceMul, Nat.reduceSub, beq_self_eq_true, List.cons_append, List.nil_append, beq_dec, vmI, gb1, gb2, hb4', vmU, du_lda]
      exact fail _ (by rw [hpk, hbad]; rfl) ⟨r.hd, (((hT4.re ((List.perm_middle (l₁ := [_])).trans (.cons _ ((List.perm_middle (l₁ := [_])).trans (.cons _ (.refl _)))))).drop.drop))⟩
end
end Go.Proofs.Ytgckbcljlkkceaa.ctr
namespace Go.Proofs.Ytgckbcljlkkceaa.ctr
open Go Go.Vm Go.RowKit
set_option linter.unusedVariables false
set_option linter.constructorNameAsVariable false
set_option linter.unusedSimpArgs false
theorem evOk_pk {r : RD} (c : r.byte.1 = 4 ∨ r.byte.1 = 5) (hok : r.byte.2.pkOk = false) : r.evOk = false := by
  have e : r.ev = (⟨r.byte.1, 0, [], r.byte.2.pk.1⟩, r.byte.2.pk.2.2) := by unfold RD.ev; rw [if_neg (by omega), if_neg (by omega), if_pos c]
  unfold RD.evOk
  rw [e, if_pos c]
  unfold RD.pkOk at hok
  cases h1 : EvV.right ⟨r.byte.1, 0, [], r.byte.2.pk.1⟩
  · rw [Bool.and_false, Bool.false_and]
  · have := (EvV.right_in h1).2.2.2.1 c
    dsimp only at this
    rw [this, Bool.and_true] at hok
    rw [Bool.and_true]; exact hok
structure ESw (r : RD) (q : EvV) (r' : RD) : Prop where
  okE : (!r'.bad && q.right) = r.evOk
  eq : q = r.ev.1 ∧ r' = r.ev.2
  sm : q.p.d.length ≤ 1000000
section
variable {bd : Bd} {fu : Nat}
set_option maxHeartbeats 8000000 in
theorem e_sw (n : Nat) {s0 : St} (s : St) (p b b4 : Nat) (r : RD) (Ps : List Obj) (hr : r.Ok) (hS : Sep s0 s (oC b [num r.byte.1, num 0, .nils, num 0, num 0, num 0, num 0, num 0, .nils, .bool false, num 0, num 0] :: oR p r.byte.2 :: oC b4 z12 :: Ps)) (hfu : 10 < fu) (x3 x5 x6 x7 x8 x9 : Option AV) :
    RsOk (exec bd (callF bd tab.get fu (n + 5)) fu vc71_0 [some (.ptr p 0), some (num r.byte.1), some (.ptr b 0), x3, some (.ptr b4 0), x5, x6, x7, x8, x9, some (.bool false)] s) (fun e F' s' => ∃ y3 y5 y6 y7 y8 y9, F' = [some (.ptr p 0), some (num r.byte.1), some (.ptr b 0), y3, some (.ptr b4 0), y5, y6, y7, y8, y9, some (.bool false)] ∧
      ((Is e .normal ∧ ∃ (q : EvV) (u w : AV) (r' : RD), Sep s0 s' (oW u 1 encB q.d :: oW w 1 encB q.p.d :: oC b (q.cs u w) :: oR p r' :: oC b4 z12 :: Ps) ∧ ESw r q r') ∨ (Is e .ret ∧ r.evOk = false ∧ ∃ r', Sep s0 s' (oC b4 z12 :: oR p r' :: Ps)))) := by
  have hb8 := RD.byte_in hr
  have o1 := hr.byte.1
  have g6 := hS.getC
  have hp0 : pk0.d.length ≤ 1000000 := by simp [pk0]
  rcases (show r.byte.1 = 1 ∨ r.byte.1 = 2 ∨ r.byte.1 = 3 ∨ r.byte.1 = 7 ∨ r.byte.1 = 8 ∨ r.byte.1 = 4 ∨ r.byte.1 = 5 ∨ (r.byte.1 ≠ 1 ∧ r.byte.1 ≠ 2 ∧ r.byte.1 ≠ 3 ∧ r.byte.1 ≠ 7 ∧ r.byte.1 ≠ 8 ∧ r.byte.1 ≠ 4 ∧ r.byte.1 ≠ 5) by omega) with c | c | c | c | c | c | c | c
  · have e : r.ev = (⟨r.byte.1, 0, (r.byte.2.bytes 4096).1, pk0⟩, (r.byte.2.bytes 4096).2) := by unfold RD.ev; rw [if_pos (by omega)]
    have hx : r.evOk = (!RD.bad ((r.byte.2.bytes 4096).2) && EvV.right ⟨r.byte.1, 0, (r.byte.2.bytes 4096).1, pk0⟩) := by unfold RD.evOk; rw [e, if_neg (by omega), Bool.and_true]
    simp (disch := omega) only [vm0, vm1, vm2, vm3, vm4, vm5, vm6, vm7, vmF, vmT, evo, wr, wrC, frame, Nat.reduceAdd, Nat.reduceMul, Nat.reduceSub, beq_self_eq_true, List.cons_append, List.nil_append, beq_dec, vmI, vc71_0, g6, c]
    refine call_ok rfl rfl (r_bytes (n + 1) _ p _ 4096 _ (((hS.re ((List.perm_middle (l₁ := [_])).trans (.cons _ (.refl _)))))) o1 (by omega) hfu) ?_
    rintro d s6 hS8
    have g8 := Sep.getC (((hS8.re ((List.perm_middle (l₁ := [_, _])).trans (.cons _ (.refl _))))))
    have hdc := cells1 (Sep.rdW hS8).rd.sl
    have hS9 := Sep.putC (((hS8.re ((List.perm_middle (l₁ := [_, _])).trans (.cons _ (.refl _)))))) [num r.byte.1, num 0, d, num 0, num 0, num 0, num 0, num 0, .nils, .bool false, num 0, num 0]
    have hS10 := hS9.push (P := oW .nils 1 encB []) (f := []) (.nil encB_w (by omega)) .refl (by simp [Nw])
    simp (disch := omega) only [vm0, vm1, vm2, vm3, vm4, vm5, vm6, vm7, vmF, vmT, evo, wr, wrC, frame, Nat.reduceAdd, Nat.reduceMul, Nat.reduceSub, beq_self_eq_true, List.cons_append, List.nil_append, beq_dec, vmI, vc71_0, g8, hdc]
    exact ⟨_, _, _, _, _, _, rfl, .inl ⟨rfl, ⟨r.byte.1, 0, (r.byte.2.bytes 4096).1, pk0⟩, d, .nils, (r.byte.2.bytes 4096).2, (((hS10.re ((List.perm_middle (l₁ := [_, _])).trans (.cons _ (.refl _)))))), ⟨hx.symm, by rw [e]; exact ⟨rfl, rfl⟩, hp0⟩⟩⟩
  · have e : r.ev = (⟨r.byte.1, 0, (r.byte.2.bytes 4096).1, pk0⟩, (r.byte.2.bytes 4096).2) := by unfold RD.ev; rw [if_pos (by omega)]
    have hx : r.evOk = (!RD.bad ((r.byte.2.bytes 4096).2) && EvV.right ⟨r.byte.1, 0, (r.byte.2.bytes 4096).1, pk0⟩) := by unfold RD.evOk; rw [e, if_neg (by omega), Bool.and_true]
    simp (disch := omega) only [vm0, vm1, vm2, vm3, vm4, vm5, vm6, vm7, vmF, vmT, evo, wr, wrC, frame, Nat.reduceAdd, Nat.reduceMul, Nat.reduceSub, beq_self_eq_true, List.cons_append, List.nil_append, beq_dec, vmI, vc71_0, g6, c]
    refine call_ok rfl rfl (r_bytes (n + 1) _ p _ 4096 _ (((hS.re ((List.perm_middle (l₁ := [_])).trans (.cons _ (.refl _)))))) o1 (by omega) hfu) ?_
    rintro d s6 hS8
    have g8 := Sep.getC (((hS8.re ((List.perm_middle (l₁ := [_, _])).trans (.cons _ (.refl _))))))
    have hdc := cells1 (Sep.rdW hS8).rd.sl
    have hS9 := Sep.putC (((hS8.re ((List.perm_middle (l₁ := [_, _])).trans (.cons _ (.refl _)))))) [num r.byte.1, num 0, d, num 0, num 0, num 0, num 0, num 0, .nils, .bool false, num 0, num 0]
    have hS10 := hS9.push (P := oW .nils 1 encB []) (f := []) (.nil encB_w (by omega)) .refl (by simp [Nw])
    simp (disch := omega) only [vm0, vm1, vm2, vm3, vm4, vm5, vm6, vm7, vmF, vmT, evo, wr, wrC, frame, Nat.reduceAdd, Nat.reduceMul, Nat.reduceSub, beq_self_eq_true, List.cons_append, List.nil_append, beq_dec, vmI, vc71_0, g8, hdc]
    exact ⟨_, _, _, _, _, _, rfl, .inl ⟨rfl, ⟨r.byte.1, 0, (r.byte.2.bytes 4096).1, pk0⟩, d, .nils, (r.byte.2.bytes 4096).2, (((hS10.re ((List.perm_middle (l₁ := [_, _])).trans (.cons _ (.refl _)))))), ⟨hx.symm, by rw [e]; exact ⟨rfl, rfl⟩, hp0⟩⟩⟩
  · have e : r.ev = (⟨r.byte.1, r.byte.2.num.1, [], pk0⟩, r.byte.2.num.2) := by unfold RD.ev; rw [if_neg (by omega), if_pos (by omega)]
    have hx : r.evOk = (!RD.bad (r.byte.2.num.2) && EvV.right ⟨r.byte.1, r.byte.2.num.1, [], pk0⟩) := by unfold RD.evOk; rw [e, if_neg (by omega), Bool.and_true]
    simp (disch := omega) only [vm0, vm1, vm2, vm3, vm4, vm5, vm6, vm7, vmF, vmT, evo, wr, wrC, frame, Nat.reduceAdd, Nat.reduceMul, Nat.reduceSub, beq_self_eq_true, List.cons_append, List.nil_append, beq_dec, vmI, vc71_0, g6, c]
    refine call_ok rfl rfl (r_num (n + 1) _ p _ _ (((hS.re ((List.perm_middle (l₁ := [_])).trans (.cons _ (.refl _)))))) o1 hfu) ?_
    rintro x s6 ⟨rfl, hS8⟩
    have g8 := Sep.getC (((hS8.re ((List.perm_middle (l₁ := [_])).trans (.cons _ (.refl _))))))
    have hS9 := Sep.putC (((hS8.re ((List.perm_middle (l₁ := [_])).trans (.cons _ (.refl _)))))) [num r.byte.1, num r.byte.2.num.1, .nils, num 0, num 0, num 0, num 0, num 0, .nils, .bool false, num 0, num 0]
    have hS10 := (hS9.push (P := oW .nils 1 encB []) (f := []) (.nil encB_w (by omega)) .refl (by simp [Nw])).push (P := oW .nils 1 encB []) (f := []) (.nil encB_w (by omega)) .refl (by simp [Nw])
    simp (disch := omega) only [vm0, vm1, vm2, vm3, vm4, vm5, vm6, vm7, vmF, vmT, evo, wr, wrC, frame, Nat.reduceAdd, Nat.reduceMul, Nat.reduceSub, beq_self_eq_true, List.cons_append, List.nil_append, beq_dec, vmI, vc71_0, g8]
    exact ⟨_, _, _, _, _, _, rfl, .inl ⟨rfl, ⟨r.byte.1, r.byte.2.num.1, [], pk0⟩, .nils, .nils, r.byte.2.num.2, hS10, ⟨hx.symm, by rw [e]; exact ⟨rfl, rfl⟩, hp0⟩⟩⟩
  · have e : r.ev = (⟨r.byte.1, r.byte.2.num.1, [], pk0⟩, r.byte.2.num.2) := by unfold RD.ev; rw [if_neg (by omega), if_pos (by omega)]
    have hx : r.evOk = (!RD.bad (r.byte.2.num.2) && EvV.right ⟨r.byte.1, r.byte.2.num.1, [], pk0⟩) := by unfold RD.evOk; rw [e, if_neg (by omega), Bool.and_true]
    simp (disch := omega) only [vm0, vm1, vm2, vm3, vm4, vm5, vm6, vm7, vmF, vmT, evo, wr, wrC, frame, Nat.reduceAdd, Nat.reduceMul, Nat.reduceSub, beq_self_eq_true, List.cons_append, List.nil_append, beq_dec, vmI, vc71_0, g6, c]
    refine call_ok rfl rfl (r_num (n + 1) _ p _ _ (((hS.re ((List.perm_middle (l₁ := [_])).trans (.cons _ (.refl _)))))) o1 hfu) ?_
    rintro x s6 ⟨rfl, hS8⟩
    have g8 := Sep.getC (((hS8.re ((List.perm_middle (l₁ := [_])).trans (.cons _ (.refl _))))))
    have hS9 := Sep.putC (((hS8.re ((List.perm_middle (l₁ := [_])).trans (.cons _ (.refl _)))))) [num r.byte.1, num r.byte.2.num.1, .nils, num 0, num 0, num 0, num 0, num 0, .nils, .bool false, num 0, num 0]
    have hS10 := (hS9.push (P := oW .nils 1 encB []) (f := []) (.nil encB_w (by omega)) .refl (by simp [Nw])).push (P := oW .nils 1 encB []) (f := []) (.nil encB_w (by omega)) .refl (by simp [Nw])
    simp (disch := omega) only [vm0, vm1, vm2, vm3, vm4, vm5, vm6, vm7, vmF, vmT, evo, wr, wrC, frame, Nat.reduceAdd, Nat.reduceMul, Nat.reduceSub, beq_self_eq_true, List.cons_append, List.nil_append, beq_dec, vmI, vc71_0, g8]
    exact ⟨_, _, _, _, _, _, rfl, .inl ⟨rfl, ⟨r.byte.1, r.byte.2.num.1, [], pk0⟩, .nils, .nils, r.byte.2.num.2, hS10, ⟨hx.symm, by rw [e]; exact ⟨rfl, rfl⟩, hp0⟩⟩⟩
  · have e : r.ev = (⟨r.byte.1, r.byte.2.num.1, [], pk0⟩, r.byte.2.num.2) := by unfold RD.ev; rw [if_neg (by omega), if_pos (by omega)]
    have hx : r.evOk = (!RD.bad (r.byte.2.num.2) && EvV.right ⟨r.byte.1, r.byte.2.num.1, [], pk0⟩) := by unfold RD.evOk; rw [e, if_neg (by omega), Bool.and_true]
    simp (disch := omega) only [vm0, vm1, vm2, vm3, vm4, vm5, vm6, vm7, vmF, vmT, evo, wr, wrC, frame, Nat.reduceAdd, Nat.reduceMul, Nat.reduceSub, beq_self_eq_true, List.cons_append, List.nil_append, beq_dec, vmI, vc71_0, g6, c]
    refine call_ok rfl rfl (r_num (n + 1) _ p _ _ (((hS.re ((List.perm_middle (l₁ := [_])).trans (.cons _ (.refl _)))))) o1 hfu) ?_
    rintro x s6 ⟨rfl, hS8⟩
    have g8 := Sep.getC (((hS8.re ((List.perm_middle (l₁ := [_])).trans (.cons _ (.refl _))))))
    have hS9 := Sep.putC (((hS8.re ((List.perm_middle (l₁ := [_])).trans (.cons _ (.refl _)))))) [num r.byte.1, num r.byte.2.num.1, .nils, num 0, num 0, num 0, num 0, num 0, .nils, .bool false, num 0, num 0]
    have hS10 := (hS9.push (P := oW .nils 1 encB []) (f := []) (.nil encB_w (by omega)) .refl (by simp [Nw])).push (P := oW .nils 1 encB []) (f := []) (.nil encB_w (by omega)) .refl (by simp [Nw])
    simp (disch := omega) only [vm0, vm1, vm2, vm3, vm4, vm5, vm6, vm7, vmF, vmT, evo, wr, wrC, frame, Nat.reduceAdd, Nat.reduceMul, Nat.reduceSub, beq_self_eq_true, List.cons_append, List.nil_append, beq_dec, vmI, vc71_0, g8]
    exact ⟨_, _, _, _, _, _, rfl, .inl ⟨rfl, ⟨r.byte.1, r.byte.2.num.1, [], pk0⟩, .nils, .nils, r.byte.2.num.2, hS10, ⟨hx.symm, by rw [e]; exact ⟨rfl, rfl⟩, hp0⟩⟩⟩
  · have e : r.ev = (⟨r.byte.1, 0, [], r.byte.2.pk.1⟩, r.byte.2.pk.2.2) := by unfold RD.ev; rw [if_neg (by omega), if_neg (by omega), if_pos (by omega)]
    have hx1 : r.evOk = (!RD.bad (r.byte.2.pk.2.2) && EvV.right ⟨r.byte.1, 0, [], r.byte.2.pk.1⟩ && decide (r.byte.2.pk.2.1 ≤ 1)) := by unfold RD.evOk; rw [e, if_pos (by omega)]
    simp (disch := omega) only [vm0, vm1, vm2, vm3, vm4, vm5, vm6, vm7, vmF, vmT, evo, wr, wrC, frame, Nat.reduceAdd, Nat.reduceMul, Nat.reduceSub, beq_self_eq_true, List.cons_append, List.nil_append, beq_dec, vmI, vc71_0, g6, c]
    refine call_ok rfl rfl (p_take n _ p _ _ (((hS.re ((List.perm_middle (l₁ := [_])).trans (.cons _ (.refl _)))))) o1 hfu) ?_
    rintro _ s6 ⟨q, w, rfl, r', hS8, hqr⟩
    have hS9 := hS8.cell [num 0, num 0, num 0, num 0, num 0, .nils, .bool false, num 0, num 0] (q.cs w)
    dsimp only [PkV.cs] at hS9 ⊢
    have g9 := hS9.getC
    simp (disch := omega) only [vm0, vm1, vm2, vm3, vm4, vm5, vm6, vm7, vmF, vmT, evo, wr, wrC, frame, Nat.reduceAdd, Nat.reduceMul, Nat.reduceSub, beq_self_eq_true, List.cons_append, List.nil_append, beq_dec, vmI, vc71_0, g9]
    generalize ((s6.new (.cells [num 0, num 0, num 0, num 0, num 0, .nils, .bool false, num 0, num 0] .own)).put s6.next (some (.cells [num q.k, num q.pt, num q.nr, num q.of_, num q.fr, w, .bool q.fin, num q.se, num q.li] .own))) = s7 at *
    generalize s6.next = b6 at *
    cases hok : r.byte.2.pkOk
    · have g10 := Sep.getC (((hS9.re ((List.perm_middle (l₁ := [_, _, _, _])).trans (.cons _ (.refl _))))))
      have hS10 := Sep.putC (((hS9.re ((List.perm_middle (l₁ := [_, _, _, _])).trans (.cons _ (.refl _)))))) z12
      have g11 := hS10.getC
      dsimp only [z12] at g10
      simp (disch := omega) only [vm0, vm1, vm2, vm3, vm4, vm5, vm6, vm7, vmF, vmT, evo, wr, wrC, frame, Nat.reduceAdd, Nat.reduceMul, Nat.reduceSub, beq_self_eq_true, List.cons_append, List.nil_append, beq_dec, vmI, vc71_0, g9, g10, g11]
      exact ⟨_, _, _, _, _, _, rfl, .inr ⟨rfl, evOk_pk (by omega) hok, r', (((hS10.re ((List.perm_middle (l₁ := [_])).trans (.cons _ ((List.perm_middle (l₁ := [_])).trans (.cons _ ((List.perm_middle (l₁ := [_, _])).trans (.cons _ (.refl _)))))))).drop.drop.drop))⟩⟩
    obtain ⟨rfl, rfl⟩ := hqr hok
    have hpr : r.byte.2.pk.1.right = true ∧ r.byte.2.pk.2.1 ≤ 1 := by
      unfold RD.pkOk at hok
      simp only [Bool.and_eq_true, decide_eq_true_eq] at hok
      exact ⟨hok.1.2, hok.2⟩
    have hdl := (PkV.right_in hpr.1).2.2.2.2.2.2.2
    have g10 := Sep.getC (((hS9.re ((List.perm_middle (l₁ := [_, _, _])).trans (.cons _ (.refl _))))))
    have hS10 := Sep.putC (((hS9.re ((List.perm_middle (l₁ := [_, _, _])).trans (.cons _ (.refl _)))))) [num r.byte.1, num 0, .nils, num r.byte.2.pk.1.k, num r.byte.2.pk.1.pt, num r.byte.2.pk.1.nr, num r.byte.2.pk.1.of_, num r.byte.2.pk.1.fr, w, .bool r.byte.2.pk.1.fin, num r.byte.2.pk.1.se, num r.byte.2.pk.1.li]
    have hS11 := hS10.push (P := oW .nils 1 encB []) (f := []) (.nil encB_w (by omega)) .refl (by simp [Nw])
    simp (disch := omega) only [vm0, vm1, vm2, vm3, vm4, vm5, vm6, vm7, vmF, vmT, evo, wr, wrC, frame, Nat.reduceAdd, Nat.reduceMul, Nat.reduceSub, beq_self_eq_true, List.cons_append, List.nil_append, beq_dec, vmI, vc71_0, g9, g10]
    exact ⟨_, _, _, _, _, _, rfl, .inl ⟨rfl, ⟨r.byte.1, 0, [], r.byte.2.pk.1⟩, .nils, w, r.byte.2.pk.2.2, (((hS11.re ((List.perm_middle (l₁ := [_, _])).trans (.cons _ (.cons _ ((List.perm_middle (l₁ := [_])).trans (.cons _ (.refl _))))))).drop)), ⟨by rw [hx1, decide_eq_true hpr.2, Bool.and_true], by rw [e]; exact ⟨rfl, rfl⟩, by show r.byte.2.pk.1.d.length ≤ 1000000; omega⟩⟩⟩
  · have e : r.ev = (⟨r.byte.1, 0, [], r.byte.2.pk.1⟩, r.byte.2.pk.2.2) := by unfold RD.ev; rw [if_neg (by omega), if_neg (by omega), if_pos (by omega)]
    have hx1 : r.evOk = (!RD.bad (r.byte.2.pk.2.2) && EvV.right ⟨r.byte.1, 0, [], r.byte.2.pk.1⟩ && decide (r.byte.2.pk.2.1 ≤ 1)) := by unfold RD.evOk; rw [e, if_pos (by omega)]
    simp (disch := omega) only [vm0, vm1, vm2, vm3, vm4, vm5, vm6, vm7, vmF, vmT, evo, wr, wrC, frame, Nat.reduceAdd, Nat.reduceMul, Nat.reduceSub, beq_self_eq_true, List.cons_append, List.nil_append, beq_dec, vmI, vc71_0, g6, c]
    refine call_ok rfl rfl (p_take n _ p _ _ (((hS.re ((List.perm_middle (l₁ := [_])).trans (.cons _ (.refl _)))))) o1 hfu) ?_
    rintro _ s6 ⟨q, w, rfl, r', hS8, hqr⟩
    have hS9 := hS8.cell [num 0, num 0, num 0, num 0, num 0, .nils, .bool false, num 0, num 0] (q.cs w)
    dsimp only [PkV.cs] at hS9 ⊢
    have g9 := hS9.getC
    simp (disch := omega) only [vm0, vm1, vm2, vm3, vm4, vm5, vm6, vm7, vmF, vmT, evo, wr, wrC, frame, Nat.reduceAdd, Nat.reduceMul, Nat.reduceSub, beq_self_eq_true, List.cons_append, List.nil_append, beq_dec, vmI, vc71_0, g9]
    generalize ((s6.new (.cells [num 0, num 0, num 0, num 0, num 0, .nils, .bool false, num 0, num 0] .own)).put s6.next (some (.cells [num q.k, num q.pt, num q.nr, num q.of_, num q.fr, w, .bool q.fin, num q.se, num q.li] .own))) = s7 at *
    generalize s6.next = b6 at *
    cases hok : r.byte.2.pkOk
    · have g10 := Sep.getC (((hS9.re ((List.perm_middle (l₁ := [_, _, _, _])).trans (.cons _ (.refl _))))))
      have hS10 := Sep.putC (((hS9.re ((List.perm_middle (l₁ := [_, _, _, _])).trans (.cons _ (.refl _)))))) z12
      have g11 := hS10.getC
      dsimp only [z12] at g10
      simp (disch := omega) only [vm0, vm1, vm2, vm3, vm4, vm5, vm6, vm7, vmF, vmT, evo, wr, wrC, frame, Nat.reduceAdd, Nat.reduceMul, Nat.reduceSub, beq_self_eq_true, List.cons_append, List.nil_append, beq_dec, vmI, vc71_0, g9, g10, g11]
      exact ⟨_, _, _, _, _, _, rfl, .inr ⟨rfl, evOk_pk (by omega) hok, r', (((hS10.re ((List.perm_middle (l₁ := [_])).trans (.cons _ ((List.perm_middle (l₁ := [_])).trans (.cons _ ((List.perm_middle (l₁ := [_, _])).trans (.cons _ (.refl _)))))))).drop.drop.drop))⟩⟩
    obtain ⟨rfl, rfl⟩ := hqr hok
    have hpr : r.byte.2.pk.1.right = true ∧ r.byte.2.pk.2.1 ≤ 1 := by
      unfold RD.pkOk at hok
      simp only [Bool.and_eq_true, decide_eq_true_eq] at hok
      exact ⟨hok.1.2, hok.2⟩
    have hdl := (PkV.right_in hpr.1).2.2.2.2.2.2.2
    have g10 := Sep.getC (((hS9.re ((List.perm_middle (l₁ := [_, _, _])).trans (.cons _ (.refl _))))))
    have hS10 := Sep.putC (((hS9.re ((List.perm_middle (l₁ := [_, _, _])).trans (.cons _ (.refl _)))))) [num r.byte.1, num 0, .nils, num r.byte.2.pk.1.k, num r.byte.2.pk.1.pt, num r.byte.2.pk.1.nr, num r.byte.2.pk.1.of_, num r.byte.2.pk.1.fr, w, .bool r.byte.2.pk.1.fin, num r.byte.2.pk.1.se, num r.byte.2.pk.1.li]
    have hS11 := hS10.push (P := oW .nils 1 encB []) (f := []) (.nil encB_w (by omega)) .refl (by simp [Nw])
    simp (disch := omega) only [vm0, vm1, vm2, vm3, vm4, vm5, vm6, vm7, vmF, vmT, evo, wr, wrC, frame, Nat.reduceAdd, Nat.reduceMul, Nat.reduceSub, beq_self_eq_true, List.cons_append, List.nil_append, beq_dec, vmI, vc71_0, g9, g10]
    exact ⟨_, _, _, _, _, _, rfl, .inl ⟨rfl, ⟨r.byte.1, 0, [], r.byte.2.pk.1⟩, .nils, w, r.byte.2.pk.2.2, (((hS11.re ((List.perm_middle (l₁ := [_, _])).trans (.cons _ (.cons _ ((List.perm_middle (l₁ := [_])).trans (.cons _ (.refl _))))))).drop)), ⟨by rw [hx1, decide_eq_true hpr.2, Bool.and_true], by rw [e]; exact ⟨rfl, rfl⟩, by show r.byte.2.pk.1.d.length ≤ 1000000; omega⟩⟩⟩
  · obtain ⟨c1, c2, c3, c4, c5, c6, c7⟩ := c
    have e : r.ev = (⟨r.byte.1, 0, [], pk0⟩, r.byte.2) := by unfold RD.ev; rw [if_neg (by omega), if_neg (by omega), if_neg (by omega)]
    have hx : r.evOk = (!RD.bad (r.byte.2) && EvV.right ⟨r.byte.1, 0, [], pk0⟩) := by unfold RD.evOk; rw [e, if_neg (by omega), Bool.and_true]
    have hS10 := (hS.push (P := oW .nils 1 encB []) (f := []) (.nil encB_w (by omega)) .refl (by simp [Nw])).push (P := oW .nils 1 encB []) (f := []) (.nil encB_w (by omega)) .refl (by simp [Nw])
    simp (disch := omega) only [vm0, vm1, vm2, vm3, vm4, vm5, vm6, vm7, vmF, vmT, evo, wr, wrC, frame, Nat.reduceAdd, Nat.reduceMul, Nat.reduceSub, beq_self_eq_true, List.cons_append, List.nil_append, beq_dec, vmI, vc71_0, g6]
    exact ⟨_, _, _, _, _, _, rfl, .inl ⟨rfl, ⟨r.byte.1, 0, [], pk0⟩, .nils, .nils, r.byte.2, hS10, ⟨hx.symm, by rw [e]; exact ⟨rfl, rfl⟩, hp0⟩⟩⟩
set_option maxHeartbeats 8000000 in
theorem e_take (n : Nat) {s0 : St} (s : St) (p : Nat) (r : RD) (Ps : List Obj) (hS : Sep s0 s (oR p r :: Ps)) (hr : r.Ok) (hfu : 10 < fu) :
    OutOk (callF bd tab.get fu (n + 6) 71 [.ptr p 0] s) (fun x s' => ∃ (q : EvV) (u w : AV), Is x (.tup [.agg (q.cs u w), .bool r.evOk]) ∧ ∃ r', Sep s0 s' (oW u 1 encB q.d :: oW w 1 encB q.p.d :: oR p r' :: Ps) ∧ (r.evOk = true → q = r.ev.1 ∧ r' = r.ev.2)) := by
  refine call_code t71 rfl ?_
  have hb8 := RD.byte_in hr
  have hed := ev_d hr
  have hS1 := hS.newC z12
  have hS2 := hS1.swap
  dsimp only [z12] at hS2
  simp (disch := omega) only [vm0, vm1, vm2, vm3, vm4, vm5, vm6, vm7, vmF, vmT, evo, wr, wrC, frame, Nat.reduceAdd, Nat.reduceMul, Nat.reduceSub, beq_self_eq_true, List.cons_append, List.nil_append, beq_dec, vmI, vc71]
  refine call_ok rfl rfl (r_byte (n + 3) _ p r _ hS2 hr) ?_
  rintro x s1 ⟨rfl, hS3⟩
  have hS6 := hS3.cell [num 0, num 0, .nils, num 0, num 0, num 0, num 0, num 0, .nils, .bool false, num 0, num 0] [num r.byte.1, num 0, .nils, num 0, num 0, num 0, num 0, num 0, .nils, .bool false, num 0, num 0]
  have g6 := hS6.getC
  simp (disch := omega) only [vm0, vm1, vm2, vm3, vm4, vm5, vm6, vm7, vmF, vmT, evo, wr, wrC, frame, Nat.reduceAdd, Nat.reduceMul, Nat.reduceSub, beq_self_eq_true, List.cons_append, List.nil_append, beq_dec, vmI, f_cvi, cvi_c, g6]
  generalize s1.next = b1 at *
  generalize ((s1.new (.cells [num 0, num 0, .nils, num 0, num 0, num 0, num 0, num 0, .nils, .bool false, num 0, num 0] .own)).put b1 (some (.cells [num r.byte.1, num 0, .nils, num 0, num 0, num 0, num 0, num 0, .nils, .bool false, num 0, num 0] .own))) = s4 at *
  refine RsOk.mono (e_sw n s4 p b1 s.next r _ hr hS6 hfu _ _ _ _ _ _) ?_
  rintro e F sT ⟨y3, y5, y6, y7, y8, y9, rfl, ⟨rfl, q, u, w, r', hT, hq⟩ | ⟨rfl, hk, r', hT⟩⟩
  case inr =>
    have g1 := hT.getC
    dsimp only [z12] at g1
    simp (disch := omega) only [vm0, vm1, vm2, vm3, vm4, vm5, vm6, vm7, vmF, vmT, evo, wr, wrC, frame, Nat.reduceAdd, Nat.reduceMul, Nat.reduceSub, beq_self_eq_true, List.cons_append, List.nil_append, beq_dec, vmI, vc71_1, g1]
    exact ⟨⟨0, 0, [], pk0⟩, .nils, .nils, by rw [hk]; rfl, r', ((((hT.re (.refl _)).drop)).push (P := oW .nils 1 encB []) (f := []) (.nil encB_w (by omega)) .refl (by simp [Nw])).push (P := oW .nils 1 encB []) (f := []) (.nil encB_w (by omega)) .refl (by simp [Nw]), fun h => by rw [hk] at h; cases h⟩
  obtain ⟨hx, ⟨rfl, rfl⟩, hsm⟩ := hq
  have gb1 := Sep.getC (((hT.re ((List.perm_middle (l₁ := [_, _])).trans (.cons _ (.refl _))))))
  have gb2 := Sep.getC (((hT.re ((List.perm_middle (l₁ := [_, _, _, _])).trans (.cons _ (.refl _))))))
  have ru9 := Sep.rdW hT
  have rw9 := Sep.rdW (((hT.re ((List.perm_middle (l₁ := [_])).trans (.cons _ (.refl _))))))
  have hck := fun s9 (f9 : Fr sT s9 []) => e_check (bd := bd)  (fu := fu) n s9 r.ev.1 u w (ru9.fr0 f9) (rw9.fr0 f9) hsm hed.1.1 hed.2.1
  dsimp only [EvV.cs, z12] at gb1 gb2 hck ⊢
  simp (disch := omega) only [vm0, vm1, vm2, vm3, vm4, vm5, vm6, vm7, vmF, vmT, evo, wr, wrC, frame, Nat.reduceAdd, Nat.reduceMul, Nat.reduceSub, beq_self_eq_true, List.cons_append, List.nil_append, beq_dec, vmI, vc71_1, gb1, sv_sl ru9.rd.sl, sv_sl rw9.rd.sl, sv_bool]
  refine call_ok rfl rfl (r_bad (n + 4) sT p r.ev.2 _ (((hT.re ((List.perm_middle (l₁ := [_, _, _])).trans (.cons _ (.refl _))))))) ?_
  rintro x s9 ⟨rfl, rfl⟩
  cases hbad : RD.bad r.ev.2
  · simp (disch := omega) only [vm0, vm1, vm2, vm3, vm4, vm5, vm6, vm7, vmF, vmT, evo, wr, wrC, frame, Nat.reduceAdd, Nat.reduceMul, Nat.reduceSub, beq_self_eq_true, List.cons_append, List.nil_append, beq_dec, vmI, gb1, gb2]
    refine call_ok rfl rfl (hck s9 .refl) ?_
    rintro x s10 ⟨rfl, f10⟩
    have hT2 := hT.fr f10
    have hb1' := Sep.getC (((hT2.re ((List.perm_middle (l₁ := [_, _])).trans (.cons _ (.refl _))))))
    have hb2' := Sep.getC (((hT2.re ((List.perm_middle (l₁ := [_, _, _, _])).trans (.cons _ (.refl _))))))
    have hT3 := Sep.putC (((hT2.re ((List.perm_middle (l₁ := [_, _, _, _])).trans (.cons _ (.refl _)))))) (r.ev.1.cs u w)
    have hb3' := hT3.getC
    dsimp only [EvV.cs, z12] at hb1' hb2' hb3'
    cases hrt : EvV.right r.ev.1
    · simp only [Bool.false_eq_true, if_false]
      simp (disch := omega) only [vm0, vm1, vm2, vm3, vm4, vm5, vm6, vm7, vmF, vmT, evo, wr, wrC, frame, Nat.reduceAdd, Nat.reduceMul, Nat.reduceSub, beq_self_eq_true, List.cons_append, List.nil_append, beq_dec, vmI, gb1, gb2, hb1', hb2', hb3', sv_sl ru9.rd.sl, sv_sl rw9.rd.sl, sv_bool]
      have hk : r.evOk = false := by rw [← hx, hrt, Bool.and_false]
      exact ⟨r.ev.1, u, w, by rw [hk]; rfl, r.ev.2, (((hT3.re (.cons _ ((List.perm_middle (l₁ := [_, _])).trans (.cons _ (.refl _))))).drop.drop)), fun h => by rw [hk] at h; cases h⟩
    · simp only [if_true]
      simp (disch := omega) only [vm0, vm1, vm2, vm3, vm4, vm5, vm6, vm7, vmF, vmT, evo, wr, wrC, frame, Nat.reduceAdd, Nat.reduceMul, Nat.reduceSub, beq_self_eq_true, List.cons_append, List.nil_append, beq_dec, vmI, gb1, gb2, hb1', hb2', hb3', sv_sl ru9.rd.sl, sv_sl rw9.rd.sl, sv_bool]
      have hk : r.evOk = true := by rw [← hx, hbad, hrt]; rfl
      exact ⟨r.ev.1, u, w, by rw [hk]; rfl, r.ev.2, (((hT3.re (.cons _ ((List.perm_middle (l₁ := [_, _])).trans (.cons _ (.refl _))))).drop.drop)), fun _ => ⟨rfl, rfl⟩⟩
  · have hT4 := Sep.putC (((hT.re ((List.perm_middle (l₁ := [_, _, _, _])).trans (.cons _ (.refl _)))))) (r.ev.1.cs u w)
    have hb4' := hT4.getC
    dsimp only [EvV.cs] at hb4'
    simp (disch := omega) only [vm0, vm1, vm2, vm3, vm4, vm5, vm6, vm7, vmF, vmT, evo, wr, wrC, frame, Nat.reduceAdd, Nat.reduceMul, Nat.reduceSub, beq_self_eq_true, List.cons_append, List.nil_append, beq_dec, vmI, gb1, gb2, hb4', vmU, du_lda, sv_sl ru9.rd.sl, sv_sl rw9.rd.sl, sv_bool]
    have hk : r.evOk = false := by rw [← hx, hbad]; rfl
    exact ⟨r.ev.1, u, w, by rw [hk]; rfl, r.ev.2, (((hT4.re (.cons _ ((List.perm_middle (l₁ := [_, _])).trans (.cons _ (.refl _))))).drop.drop)), fun h => by rw [hk] at h; cases h⟩
end
end Go.Proofs.Ytgckbcljlkkceaa.ctr
namespace Go.Proofs.Ytgckbcljlkkceaa.ctr
open Go Go.Vm Go.RowKit
set_option linter.unusedVariables false
set_option linter.constructorNameAsVariable false
set_option linter.unusedSimpArgs false
/-- the events of bytes, or where the first one begins that is none -/
def unV : Nat → RD → List EvV → Option (List EvV) × Int
  | 0, r, _ => (none, r.a)
  | n + 1, r, acc => if r.a < r.B.length then (if r.evOk then unV n r.ev.2 (acc ++ [r.ev.1]) else (none, r.a)) else (some acc, -1)
/-- what is kept on the way -/
structure UnI (B : List Int) (i : Nat) (r : RD) (m : List EvR) : Prop where
  ok : r.Ok
  eB : r.B = B
  nb : r.bad = false
  a : (i : Int) ≤ r.a
  un : unV (B.length + 1 - i) r (evs m) = unV (B.length + 1) ⟨B, 0, false⟩ []
  len : m.length = i
  sm : ∀ x ∈ m, x.e.right = true ∧ (∀ y ∈ x.e.d, In8 y) ∧ (∀ y ∈ x.e.p.d, In8 y)
  by_ : ∃ A, Ate ⟨B, 0, false⟩ r A ∧ evB m = A
theorem UnI.zero {B : List Int} (h8 : ∀ x ∈ B, In8 x) (hl : B.length ≤ 140737488351232) : UnI B 0 ⟨B, 0, false⟩ [] :=
  ⟨⟨by simp, h8, hl⟩, rfl, rfl, by simp, rfl, rfl, by simp, [], ⟨rfl, rfl, by simp, by simp⟩, rfl⟩
theorem UnI.step {B : List Int} {i : Nat} {r : RD} {m : List EvR} (h : UnI B i r m) (hlt : r.a < B.length) (hok : r.evOk = true) (u w : AV) : UnI B (i + 1) r.ev.2 (m ++ [⟨r.ev.1, u, w⟩]) ∧ r.a < r.ev.2.a := by
  obtain ⟨h1, h2, h3, h4, h5, h6, h7, A, h8, h9⟩ := h
  obtain ⟨k1, k2⟩ := ev_ate h1 hok
  obtain ⟨k3, k4⟩ := h1.ev
  have k5 := ev_d h1
  have hb : 1 ≤ r.ev.1.bytes.length := by unfold EvV.bytes; simp
  have ha : r.a < r.ev.2.a := by rw [k1.a]; omega
  have hnb : r.ev.2.bad = false := by
    unfold RD.evOk at hok
    simp only [Bool.and_eq_true, Bool.not_eq_true'] at hok
    exact hok.1.1
  refine ⟨⟨k3, k4.trans h2, hnb, by omega, ?_, by simp [h6], ?_, A ++ r.ev.1.bytes, h8.trans k1, by unfold evB at h9 ⊢; simp [h9]⟩, ha⟩
  · rw [← h5]
    have hi := h1.a.2
    rw [h2] at hi
    rw [show B.length + 1 - i = (B.length + 1 - (i + 1)) + 1 from by omega]
    show _ = if r.a < r.B.length then _ else _
    rw [if_pos (by rw [h2]; exact hlt), if_pos hok]
    simp [evs]
  · intro x hx
    rcases List.mem_append.1 hx with hx | hx
    · exact h7 x hx
    · simp at hx; subst hx; exact ⟨k2, k5.1.1, k5.2.1⟩
theorem UnI.fail {B : List Int} {i : Nat} {r : RD} {m : List EvR} (h : UnI B i r m) (hlt : r.a < B.length) (hok : r.evOk = false) : unV (B.length + 1) ⟨B, 0, false⟩ [] = (none, r.a) := by
  have hi := h.ok.a.2
  have ha := h.a
  rw [h.eB] at hi
  rw [← h.un, show B.length + 1 - i = (B.length + 1 - (i + 1)) + 1 from by omega]
  show (if r.a < r.B.length then _ else _) = _
  rw [if_pos (by rw [h.eB]; exact hlt), hok]; rfl
theorem UnI.done {B : List Int} {i : Nat} {r : RD} {m : List EvR} (h : UnI B i r m) (hlt : ¬ r.a < B.length) : unV (B.length + 1) ⟨B, 0, false⟩ [] = (some (evs m), -1) ∧ evB m = B := by
  have hi := h.ok.a.2
  have ha := h.a
  have hB := h.eB
  rw [hB] at hi
  constructor
  · rw [← h.un, show B.length + 1 - i = (B.length + 1 - (i + 1)) + 1 from by omega]
    show (if r.a < r.B.length then _ else _) = _
    rw [if_neg (by rw [h.eB]; exact hlt)]
  · obtain ⟨A, h1, h2⟩ := h.by_
    have h3 := h1.c
    dsimp only at h3
    rw [List.drop_eq_nil_of_le (by omega : B.length ≤ r.a.toNat), List.append_nil] at h3
    rw [h2, ← h3]; rfl
theorem UnI.oks {B : List Int} {i : Nat} {r : RD} {m : List EvR} (h : UnI B i r m) {s0 s : St} {Ps : List Obj} (hS : Sep s0 s (oH m :: Ps)) : evsOk s m := by
  obtain ⟨fp, ⟨f, g, h1, _⟩, _⟩ := hS
  intro x hx
  obtain ⟨⟨f1, _, k1⟩, ⟨f2, _, k2⟩⟩ := h1.2 x hx
  obtain ⟨j1, j2, j3⟩ := h.sm x hx
  obtain ⟨_, _, j4, _, j5⟩ := EvV.right_in j1
  exact ⟨k1.rd, k2.rd, j2, j3, by omega, by omega⟩
section
variable {bd : Bd} {fu : Nat}
set_option maxHeartbeats 4000000 in
theorem e_unpack (n : Nat) (s : St) (v : AV) (B : List Int) (hv : RdE s v 1 encB B) (h8 : ∀ x ∈ B, In8 x) (hl : B.length < 1048576) (hfu : 1048600 < fu) :
    OutOk (callF bd tab.get fu (n + 7) 21 [v] s) (fun x s' => (∃ (m : List EvR) (y : AV), unV (B.length + 1) ⟨B, 0, false⟩ [] = (some (evs m), -1) ∧ evB m = B ∧ allR m = true ∧ m.length ≤ B.length ∧ Is x (.tup [y, num 0, num 0]) ∧ evsOk s' m ∧ Sep s s' [oW y 12 EvR.enc m, oH m]) ∨ (∃ a : Int, unV (B.length + 1) ⟨B, 0, false⟩ [] = (none, a) ∧ (0 ≤ a ∧ a < B.length) ∧ Is x (.tup [.nils, num a, num 2]) ∧ Fr s s' [])) := by
  refine call_code t21 rfl ?_
  simp (disch := omega) only [vm0, vm1, vm2, vm3, vm4, vm5, vm6, vm7, vmF, vmT, evo, wr, wrC, frame, Nat.reduceAdd, Nat.reduceMul, Nat.reduceSub, beq_self_eq_true, List.cons_append, List.nil_append, beq_dec, vmI, vc21]
  refine call_ok rfl rfl (r_new (n + 4) s [] v B Sep.nil hv (by omega)) ?_
  rintro x s1 ⟨p, rfl, hS⟩
  simp (disch := omega) only [vm0, vm1, vm2, vm3, vm4, vm5, vm6, vm7, vmF, vmT, evo, wr, wrC, frame, Nat.reduceAdd, Nat.reduceMul, Nat.reduceSub, beq_self_eq_true, List.cons_append, List.nil_append, beq_dec, vmI]
  refine x_loop (fun k F s' => ∃ i : Nat, ∃ (r : RD) (m : List EvR), ∃ w2 vo x4 x5 x6 x7, k = (B.length - r.a).toNat ∧ F = [some v, some (.ptr p 0), some w2, some vo, x4, x5, x6, x7, some .nils, some (num 0)] ∧ UnI B i r m ∧ Sep s s' [oW vo 12 EvR.enc m, oH m, oR p r]) B.length (by omega) ?_ ?_
  · have hS2 := (hS.push (P := oH []) (f := []) ⟨by simp [Lt], by simp⟩ .refl (by simp [Nw])).push (P := oW .nils 12 EvR.enc []) (f := []) (.nil EvR.wid (by omega)) .refl (by simp [Nw])
    exact ⟨0, ⟨B, 0, false⟩, [], _, _, _, _, _, _, by simp, rfl, UnI.zero h8 (by omega), hS2⟩
  · rintro k F s2 ⟨i, r, m, w2, vo, x4, x5, x6, x7, rfl, rfl, hI, hS⟩ hk
    have hra := hI.ok.a
    have hrB := hI.eB
    rw [hrB] at hra
    simp (disch := omega) only [vm0, vm1, vm2, vm3, vm4, vm5, vm6, vm7, vmF, vmT, evo, wr, wrC, frame, Nat.reduceAdd, Nat.reduceMul, Nat.reduceSub, beq_self_eq_true, List.cons_append, List.nil_append, beq_dec, vmI]
    refine call_ok rfl rfl (r_left (n + 5) s2 p r _ (((hS.re ((List.perm_middle (l₁ := [_, _])).trans (.cons _ (.refl _)))))) hI.ok) ?_
    rintro y s3 ⟨rfl, rfl⟩
    rw [hrB]
    by_cases hlt : r.a < B.length
    case neg =>
      obtain ⟨d1, d2⟩ := hI.done hlt
      simp (disch := omega) only [vm0, vm1, vm2, vm3, vm4, vm5, vm6, vm7, vmF, vmT, evo, wr, wrC, frame, Nat.reduceAdd, Nat.reduceMul, Nat.reduceSub, beq_self_eq_true, List.cons_append, List.nil_append, beq_dec, vmI]
      refine .inl ⟨m, vo, d1, d2, ?_, ?_, rfl, hI.oks (((hS.re ((List.perm_middle (l₁ := [_])).trans (.cons _ (.refl _)))))), (((hS.re ((List.perm_middle (l₁ := [_, _])).trans (.cons _ (.refl _)))).drop))⟩
      · unfold allR; rw [List.all_eq_true]; exact fun x hx => (hI.sm x hx).1
      · have := hI.len; have := hI.a; omega
    simp (disch := omega) only [vm0, vm1, vm2, vm3, vm4, vm5, vm6, vm7, vmF, vmT, evo, wr, wrC, frame, Nat.reduceAdd, Nat.reduceMul, Nat.reduceSub, beq_self_eq_true, List.cons_append, List.nil_append, beq_dec, vmI]
    refine call_ok rfl rfl (r_at (n + 5) s3 p r _ (((hS.re ((List.perm_middle (l₁ := [_, _])).trans (.cons _ (.refl _))))))) ?_
    rintro y s4 ⟨rfl, rfl⟩
    simp (disch := omega) only [vm0, vm1, vm2, vm3, vm4, vm5, vm6, vm7, vmF, vmT, evo, wr, wrC, frame, Nat.reduceAdd, Nat.reduceMul, Nat.reduceSub, beq_self_eq_true, List.cons_append, List.nil_append, beq_dec, vmI]
    refine call_ok rfl rfl (e_take n s4 p r _ (((hS.re ((List.perm_middle (l₁ := [_, _])).trans (.cons _ (.refl _)))))) hI.ok (by omega)) ?_
    rintro _ s5 ⟨q, u, w, rfl, r', hS5, hqr⟩
    have hS6 := hS5.cell [num 0, num 0, .nils, num 0, num 0, num 0, num 0, num 0, .nils, .bool false, num 0, num 0] (q.cs u w)
    dsimp only [EvV.cs] at hS6 ⊢
    simp (disch := omega) only [vm0, vm1, vm2, vm3, vm4, vm5, vm6, vm7, vmF, vmT, evo, wr, wrC, frame, Nat.reduceAdd, Nat.reduceMul, Nat.reduceSub, beq_self_eq_true, List.cons_append, List.nil_append, beq_dec, vmI]
    generalize ((s5.new (.cells [num 0, num 0, .nils, num 0, num 0, num 0, num 0, num 0, .nils, .bool false, num 0, num 0] .own)).put s5.next (some (.cells [num q.k, num q.n, u, num q.p.k, num q.p.pt, num q.p.nr, num q.p.of_, num q.p.fr, w, .bool q.p.fin, num q.p.se, num q.p.li] .own))) = s6 at *
    generalize s5.next = b6 at *
    cases hok : r.evOk
    · simp (disch := omega) only [vm0, vm1, vm2, vm3, vm4, vm5, vm6, vm7, vmF, vmT, evo, wr, wrC, frame, Nat.reduceAdd, Nat.reduceMul, Nat.reduceSub, beq_self_eq_true, List.cons_append, List.nil_append, beq_dec, vmI]
      exact .inr ⟨r.a, hI.fail hlt hok, ⟨by omega, hlt⟩, rfl, hS6.frm⟩
    · obtain ⟨rfl, rfl⟩ := hqr hok
      obtain ⟨j1, j2⟩ := hI.step hlt hok u w
      have j3 := j1.ok.a.2
      rw [j1.eB] at j3
      have j4 := hI.len
      have j5 := hI.a
      have hS7 := hS6.newC [num r.ev.1.k, num r.ev.1.n, u, num r.ev.1.p.k, num r.ev.1.p.pt, num r.ev.1.p.nr, num r.ev.1.p.of_, num r.ev.1.p.fr, w, .bool r.ev.1.p.fin, num r.ev.1.p.se, num r.ev.1.p.li]
      have g6 := hS6.getC
      obtain ⟨fo, ho, up⟩ := Sep.hd (((hS7.re ((List.perm_middle (l₁ := [_, _, _, _, _])).trans (.cons _ (.refl _))))))
      simp (disch := omega) only [vm0, vm1, vm2, vm3, vm4, vm5, vm6, vm7, vmF, vmT, evo, wr, wrC, frame, Nat.reduceAdd, Nat.reduceMul, Nat.reduceSub, beq_self_eq_true, List.cons_append, List.nil_append, beq_dec, vmI, g6]
      refine op_app1 (show OwE _ vo 12 EvR.enc m fo from ho) .refl (x := ⟨r.ev.1, u, w⟩) rfl (by omega) ?_
      intro v3 s8 f4 r7 r8 r9
      have hS8 := up (oW v3 12 EvR.enc (m ++ [(⟨r.ev.1, u, w⟩ : EvR)])) r7 r8 r9
      have hS9 := Sep.held (((hS8.re ((List.perm_middle (l₁ := [_])).trans (.cons _ ((List.perm_middle (l₁ := [_])).trans (.cons _ ((List.perm_middle (l₁ := [_])).trans (.cons _ ((List.perm_middle (l₁ := [_])).trans (.cons _ ((List.perm_middle (l₁ := [_, _])).trans (.cons _ (.refl _)))))))))))).drop.drop))
      simp (disch := omega) only [vm0, vm1, vm2, vm3, vm4, vm5, vm6, vm7, vmF, vmT, evo, wr, wrC, frame, Nat.reduceAdd, Nat.reduceMul, Nat.reduceSub, beq_self_eq_true, List.cons_append, List.nil_append, beq_dec, vmI]
      exact ⟨((B.length : Int) - r.ev.2.a).toNat, by omega, i + 1, r.ev.2, _, _, _, _, _, _, _, rfl, rfl, j1, ((hS9.re ((List.perm_middle (l₁ := [_])).trans (.cons _ (.refl _)))))⟩
end
end Go.Proofs.Ytgckbcljlkkceaa.ctr
namespace Go.Proofs.Ytgckbcljlkkceaa.ctr
open Go Go.Vm Go.RowKit
set_option linter.unusedVariables false
set_option linter.constructorNameAsVariable false
set_option linter.unusedSimpArgs false
theorem RD.bytes_le {r : RD} (h : r.Ok) {most : Int} (h0 : 0 ≤ most) : ((r.bytes most).1.length : Int) ≤ most := by
  unfold RD.bytes
  split
  · simpa using h0
  · rename_i hc
    have : ¬ most < r.take.1 := fun e => hc (.inr (.inr (.inl e)))
    simp; omega
theorem Ate.sub {r r' : RD} {w : List Int} (h : Ate r r' w) (h0 : 0 ≤ r.a) : (r.B.take r'.a.toNat).drop r.a.toNat = w := by
  have h1 := h.c
  have h2 := h.a
  have e : r'.a.toNat = r.a.toNat + w.length := by omega
  rw [e, List.drop_take, Nat.add_sub_cancel_left, h1, List.take_left']
  rfl
section
variable {k : Nat} {s : St} {ss : List St} {fs : List Fs} {ps : List Pend} {Q : Option AV → Nat → St → List St → List Fs → List Pend → Prop}
theorem du_cvs (x : Od) : DOk (drwU (.cvs x) k s ss fs ps) Q = Q (some (.tup [])) k s ss fs ps := rfl
theorem du_sli (n : Nat) (x : Od) (a b c : Option Od) : DOk (drwU (.sli n x a b c) k s ss fs ps) Q = Q (some (.tup [])) k s ss fs ps := rfl
end
theorem pk_dl {r : RD} (h : r.Ok) : r.pk.1.d.length ≤ 64 := by
  have hdt := RD.bytes_le h.hd.1.num.1 (most := 64) (by omega)
  unfold RD.pk
  split
  · simp
  · split
    · show r.dt.1.length ≤ 64
      exact (by exact_mod_cast hdt)
    · split <;> simp
section
variable {bd : Bd} {fu : Nat}
set_option maxHeartbeats 8000000 in
theorem u_psw (n : Nat) {s0 : St} (s8 : St) (p b1 : Nat) (r : RD) (v : AV) (Ps : List Obj) (hv0 : RdE s0 v 1 encB r.B) (hr : r.Ok) (hS8 : Sep s0 s8 (oC b1 [num r.byte.1, num r.byte.2.num.1, num r.byte.2.num.2.num.1, num 0, num 0, .nils, .bool false, num 0, num 0] :: oC p [v, num r.hd.a, .bool r.hd.bad] :: Ps)) (hfu : 10 < fu) (x3 x4 x5 x6 x7 x8 x9 x10 x11 : Option AV) :
    RsOk (exec bd (callF bd tab.get fu (n + 5)) fu vc75_0 [some (.ptr p 0), some (.ptr b1 0), some (num r.byte.1), x3, x4, x5, x6, x7, x8, x9, x10, x11] s8) (fun e F' s' => Is e .normal ∧ ∃ w y4 y5 y6, F' = [some (.ptr p 0), some (.ptr b1 0), some (num r.byte.1), x3, y4, y5, y6, x7, x8, x9, x10, x11] ∧ Sep s0 s' (oW w 1 encB r.pk.1.d :: oC b1 (r.pk.1.cs w) :: oC p [v, num r.pk.2.2.a, .bool r.pk.2.2.bad] :: Ps)) := by
  have hb8 := RD.byte_in hr
  have w3 := hr.hd
  have w4 := w3.1.num
  have w5 := w4.1.num
  have w6 := w5.1.num
  have w7 := hr.dt
  have v3 : RdE s0 v 1 encB r.hd.B := by rw [w3.2]; exact hv0
  have v4 : RdE s0 v 1 encB r.hd.num.2.B := by rw [w4.2]; exact v3
  have v5 : RdE s0 v 1 encB r.hd.num.2.num.2.B := by rw [w5.2]; exact v4
  have v7 : RdE s0 v 1 encB r.dt.2.B := by rw [w7.2]; exact hv0
  have g8 := hS8.getC
  rcases (show r.byte.1 = 2 ∨ r.byte.1 = 3 ∨ r.byte.1 = 4 ∨ (r.byte.1 ≠ 2 ∧ r.byte.1 ≠ 3 ∧ r.byte.1 ≠ 4) by omega) with c | c | c | c
  · have e : r.pk = ((⟨r.byte.1, r.byte.2.num.1, r.byte.2.num.2.num.1, r.hd.num.1, 0, [], false, 0, 0⟩ : PkV), 0, r.hd.num.2) := by unfold RD.pk; rw [if_pos c]
    simp (disch := omega) only [vm0, vm1, vm2, vm3, vm4, vm5, vm6, vm7, vmF, vmT, evo, wr, wrC, frame, Nat.reduceAdd, Nat.reduceMul, Nat.reduceSub, beq_self_eq_true, List.cons_append, List.nil_append, beq_dec, vmI, vc75_0, g8, c]
    refine call_ok rfl rfl (y_num (n + 1) s8 p _ v _ v3 (((hS8.re ((List.perm_middle (l₁ := [_])).trans (.cons _ (.refl _)))))) w3.1 hfu) ?_
    rintro x s5 ⟨rfl, hS9⟩
    have g9 := Sep.getC (((hS9.re ((List.perm_middle (l₁ := [_])).trans (.cons _ (.refl _))))))
    have hS10 := Sep.putC (((hS9.re ((List.perm_middle (l₁ := [_])).trans (.cons _ (.refl _)))))) [num r.byte.1, num r.byte.2.num.1, num r.byte.2.num.2.num.1, num r.hd.num.1, num 0, .nils, .bool false, num 0, num 0]
    have hT := hS10.push (P := oW .nils 1 encB []) (f := []) (.nil encB_w (by omega)) .refl (by simp [Nw])
    simp (disch := omega) only [vm0, vm1, vm2, vm3, vm4, vm5, vm6, vm7, vmF, vmT, evo, wr, wrC, frame, Nat.reduceAdd, Nat.reduceMul, Nat.reduceSub, beq_self_eq_true, List.cons_append, List.nil_append, beq_dec, vmI, vc75_0, g9]
    rw [e]
    exact ⟨rfl, .nils, _, _, _, rfl, hT⟩
  · have c0 : r.byte.1 ≠ 2 := by omega
    have e : r.pk = ((⟨r.byte.1, r.byte.2.num.1, r.byte.2.num.2.num.1, 0, r.hd.num.1, r.dt.1, decide (r.dt.2.byte.1 = 1), 0, 0⟩ : PkV), r.dt.2.byte.1, r.dt.2.byte.2) := by unfold RD.pk; rw [if_neg c0, if_pos c]
    simp (disch := omega) only [vm0, vm1, vm2, vm3, vm4, vm5, vm6, vm7, vmF, vmT, evo, wr, wrC, frame, Nat.reduceAdd, Nat.reduceMul, Nat.reduceSub, beq_self_eq_true, List.cons_append, List.nil_append, beq_dec, vmI, vc75_0, g8, c]
    refine call_ok rfl rfl (y_num (n + 1) s8 p _ v _ v3 (((hS8.re ((List.perm_middle (l₁ := [_])).trans (.cons _ (.refl _)))))) w3.1 hfu) ?_
    rintro x s5 ⟨rfl, hS9⟩
    have g9 := Sep.getC (((hS9.re ((List.perm_middle (l₁ := [_])).trans (.cons _ (.refl _))))))
    have hS10 := Sep.putC (((hS9.re ((List.perm_middle (l₁ := [_])).trans (.cons _ (.refl _)))))) [num r.byte.1, num r.byte.2.num.1, num r.byte.2.num.2.num.1, num 0, num r.hd.num.1, .nils, .bool false, num 0, num 0]
    simp (disch := omega) only [vm0, vm1, vm2, vm3, vm4, vm5, vm6, vm7, vmF, vmT, evo, wr, wrC, frame, Nat.reduceAdd, Nat.reduceMul, Nat.reduceSub, beq_self_eq_true, List.cons_append, List.nil_append, beq_dec, vmI, vc75_0, g9]
    generalize (s5.put b1 (some (.cells [num r.byte.1, num r.byte.2.num.1, num r.byte.2.num.2.num.1, num 0, num r.hd.num.1, .nils, .bool false, num 0, num 0] .own))) = s9 at *
    refine call_ok rfl rfl (y_bytes (n + 1) s9 p _ 64 v _ v4 (((hS10.re ((List.perm_middle (l₁ := [_])).trans (.cons _ (.refl _)))))) w4.1 (by omega) hfu) ?_
    rintro d s10 hS11
    change Sep s0 s10 (oW d 1 encB r.dt.1 :: oC p [v, num r.dt.2.a, .bool r.dt.2.bad] :: _ :: Ps) at hS11
    have g11 := Sep.getC (((hS11.re ((List.perm_middle (l₁ := [_, _])).trans (.cons _ (.refl _))))))
    have hdc := cells1 (Sep.rdW hS11).rd.sl
    have hS12 := Sep.putC (((hS11.re ((List.perm_middle (l₁ := [_, _])).trans (.cons _ (.refl _)))))) [num r.byte.1, num r.byte.2.num.1, num r.byte.2.num.2.num.1, num 0, num r.hd.num.1, d, .bool false, num 0, num 0]
    simp (disch := omega) only [vm0, vm1, vm2, vm3, vm4, vm5, vm6, vm7, vmF, vmT, evo, wr, wrC, frame, Nat.reduceAdd, Nat.reduceMul, Nat.reduceSub, beq_self_eq_true, List.cons_append, List.nil_append, beq_dec, vmI, vc75_0, g11, hdc]
    generalize (s10.put b1 (some (.cells [num r.byte.1, num r.byte.2.num.1, num r.byte.2.num.2.num.1, num 0, num r.hd.num.1, d, .bool false, num 0, num 0] .own))) = s11 at *
    refine call_ok rfl rfl (y_byte (n + 3) s11 p _ v _ v7 (((hS12.re ((List.perm_middle (l₁ := [_, _])).trans (.cons _ (.refl _)))))) w7.1) ?_
    rintro x s12 ⟨rfl, hS13⟩
    have g13 := Sep.getC (((hS13.re ((List.perm_middle (l₁ := [_])).trans (.cons _ (.refl _))))))
    have hS14 := Sep.putC (((hS13.re ((List.perm_middle (l₁ := [_])).trans (.cons _ (.refl _)))))) [num r.byte.1, num r.byte.2.num.1, num r.byte.2.num.2.num.1, num 0, num r.hd.num.1, d, .bool (decide (r.dt.2.byte.1 = 1)), num 0, num 0]
    have hT := (((hS14.re ((List.perm_middle (l₁ := [_, _])).trans (.cons _ (.refl _))))))
    simp (disch := omega) only [vm0, vm1, vm2, vm3, vm4, vm5, vm6, vm7, vmF, vmT, evo, wr, wrC, frame, Nat.reduceAdd, Nat.reduceMul, Nat.reduceSub, beq_self_eq_true, List.cons_append, List.nil_append, beq_dec, vmI, vc75_0, g13]
    rw [e]
    exact ⟨rfl, d, _, _, _, rfl, hT⟩
  · have c0 : r.byte.1 ≠ 2 := by omega
    have c1 : r.byte.1 ≠ 3 := by omega
    have e : r.pk = ((⟨r.byte.1, r.byte.2.num.1, r.byte.2.num.2.num.1, r.hd.num.1, 0, [], false, r.hd.num.2.num.1, r.hd.num.2.num.2.num.1⟩ : PkV), 0, r.hd.num.2.num.2.num.2) := by unfold RD.pk; rw [if_neg c0, if_neg c1, if_pos c]
    simp (disch := omega) only [vm0, vm1, vm2, vm3, vm4, vm5, vm6, vm7, vmF, vmT, evo, wr, wrC, frame, Nat.reduceAdd, Nat.reduceMul, Nat.reduceSub, beq_self_eq_true, List.cons_append, List.nil_append, beq_dec, vmI, vc75_0, g8, c]
    refine call_ok rfl rfl (y_num (n + 1) s8 p _ v _ v3 (((hS8.re ((List.perm_middle (l₁ := [_])).trans (.cons _ (.refl _)))))) w3.1 hfu) ?_
    rintro x s5 ⟨rfl, hS9⟩
    have g9 := Sep.getC (((hS9.re ((List.perm_middle (l₁ := [_])).trans (.cons _ (.refl _))))))
    have hS10 := Sep.putC (((hS9.re ((List.perm_middle (l₁ := [_])).trans (.cons _ (.refl _)))))) [num r.byte.1, num r.byte.2.num.1, num r.byte.2.num.2.num.1, num r.hd.num.1, num 0, .nils, .bool false, num 0, num 0]
    simp (disch := omega) only [vm0, vm1, vm2, vm3, vm4, vm5, vm6, vm7, vmF, vmT, evo, wr, wrC, frame, Nat.reduceAdd, Nat.reduceMul, Nat.reduceSub, beq_self_eq_true, List.cons_append, List.nil_append, beq_dec, vmI, vc75_0, g9]
    generalize (s5.put b1 (some (.cells [num r.byte.1, num r.byte.2.num.1, num r.byte.2.num.2.num.1, num r.hd.num.1, num 0, .nils, .bool false, num 0, num 0] .own))) = s9 at *
    refine call_ok rfl rfl (y_num (n + 1) s9 p _ v _ v4 (((hS10.re ((List.perm_middle (l₁ := [_])).trans (.cons _ (.refl _)))))) w4.1 hfu) ?_
    rintro x s10 ⟨rfl, hS11⟩
    have g11 := Sep.getC (((hS11.re ((List.perm_middle (l₁ := [_])).trans (.cons _ (.refl _))))))
    have hS12 := Sep.putC (((hS11.re ((List.perm_middle (l₁ := [_])).trans (.cons _ (.refl _)))))) [num r.byte.1, num r.byte.2.num.1, num r.byte.2.num.2.num.1, num r.hd.num.1, num 0, .nils, .bool false, num r.hd.num.2.num.1, num 0]
    simp (disch := omega) only [vm0, vm1, vm2, vm3, vm4, vm5, vm6, vm7, vmF, vmT, evo, wr, wrC, frame, Nat.reduceAdd, Nat.reduceMul, Nat.reduceSub, beq_self_eq_true, List.cons_append, List.nil_append, beq_dec, vmI, vc75_0, g11]
    generalize (s10.put b1 (some (.cells [num r.byte.1, num r.byte.2.num.1, num r.byte.2.num.2.num.1, num r.hd.num.1, num 0, .nils, .bool false, num r.hd.num.2.num.1, num 0] .own))) = s11 at *
    refine call_ok rfl rfl (y_num (n + 1) s11 p _ v _ v5 (((hS12.re ((List.perm_middle (l₁ := [_])).trans (.cons _ (.refl _)))))) w5.1 hfu) ?_
    rintro x s12 ⟨rfl, hS13⟩
    have g13 := Sep.getC (((hS13.re ((List.perm_middle (l₁ := [_])).trans (.cons _ (.refl _))))))
    have hS14 := Sep.putC (((hS13.re ((List.perm_middle (l₁ := [_])).trans (.cons _ (.refl _)))))) [num r.byte.1, num r.byte.2.num.1, num r.byte.2.num.2.num.1, num r.hd.num.1, num 0, .nils, .bool false, num r.hd.num.2.num.1, num r.hd.num.2.num.2.num.1]
    have hT := hS14.push (P := oW .nils 1 encB []) (f := []) (.nil encB_w (by omega)) .refl (by simp [Nw])
    simp (disch := omega) only [vm0, vm1, vm2, vm3, vm4, vm5, vm6, vm7, vmF, vmT, evo, wr, wrC, frame, Nat.reduceAdd, Nat.reduceMul, Nat.reduceSub, beq_self_eq_true, List.cons_append, List.nil_append, beq_dec, vmI, vc75_0, g13]
    rw [e]
    exact ⟨rfl, .nils, _, _, _, rfl, hT⟩
  · obtain ⟨c0, c1, c2⟩ := c
    have e : r.pk = ((⟨r.byte.1, r.byte.2.num.1, r.byte.2.num.2.num.1, 0, 0, [], false, 0, 0⟩ : PkV), 0, r.hd) := by unfold RD.pk; rw [if_neg c0, if_neg c1, if_neg c2]
    have hT := (((hS8.re (.refl _)))).push (P := oW .nils 1 encB []) (f := []) (.nil encB_w (by omega)) .refl (by simp [Nw])
    simp (disch := omega) only [vm0, vm1, vm2, vm3, vm4, vm5, vm6, vm7, vmF, vmT, evo, wr, wrC, frame, Nat.reduceAdd, Nat.reduceMul, Nat.reduceSub, beq_self_eq_true, List.cons_append, List.nil_append, beq_dec, vmI, vc75_0, g8]
    rw [e]
    exact ⟨rfl, .nils, _, _, _, rfl, hT⟩
set_option maxHeartbeats 8000000 in
theorem u_take (n : Nat) {s0 : St} (s : St) (p : Nat) (r : RD) (v : AV) (Ps : List Obj) (hv0 : RdE s0 v 1 encB r.B) (hS : Sep s0 s (oC p [v, num r.a, .bool r.bad] :: Ps)) (hr : r.Ok) (hfu : 10 < fu) :
    OutOk (callF bd tab.get fu (n + 6) 75 [.ptr p 0] s) (fun x s' => ∃ (q : PkV) (w : AV), Is x (.tup [.agg (q.cs w), .bool r.pkOk]) ∧ ∃ r' : RD, Sep s0 s' (oW w 1 encB q.d :: oC p [v, num r'.a, .bool r'.bad] :: Ps) ∧ (r.pkOk = true → q = r.pk.1 ∧ r' = r.pk.2.2)) := by
  refine call_code t75 rfl ?_
  have hb8 := RD.byte_in hr
  have w1 := hr.byte
  have w2 := w1.1.num
  have w3 := hr.hd
  have w4 := w3.1.num
  have w5 := w4.1.num
  have w6 := w5.1.num
  have w7 := hr.dt
  have w8 := w7.1.byte
  have v1 : RdE s0 v 1 encB r.byte.2.B := by rw [w1.2]; exact hv0
  have v2 : RdE s0 v 1 encB r.byte.2.num.2.B := by rw [w2.2]; exact v1
  have v3 : RdE s0 v 1 encB r.hd.B := by rw [w3.2]; exact hv0
  have v4 : RdE s0 v 1 encB r.hd.num.2.B := by rw [w4.2]; exact v3
  have v5 : RdE s0 v 1 encB r.hd.num.2.num.2.B := by rw [w5.2]; exact v4
  have v7 : RdE s0 v 1 encB r.dt.2.B := by rw [w7.2]; exact hv0
  have hpd := pk_d hr
  have hra := hr.a
  have hdt := RD.bytes_le w4.1 (most := 64) (by omega)
  have hS1 := hS.newC z9
  have hS2 := hS1.swap
  have g0 := hS.getC
  dsimp only [z9] at hS2
  have g00 := hS2.getC
  have fail : ∀ s', r.pkOk = false → (∃ r' : RD, Sep s0 s' (oC s.next z9 :: oC p [v, num r'.a, .bool r'.bad] :: Ps)) → ∃ (q : PkV) (w : AV), Is (AV.tup [AV.agg [num 0, num 0, num 0, num 0, num 0, AV.nils, AV.bool false, num 0, num 0], AV.bool false]) (AV.tup [AV.agg (q.cs w), AV.bool r.pkOk]) ∧ ∃ r' : RD, Sep s0 s' (oW w 1 encB q.d :: oC p [v, num r'.a, .bool r'.bad] :: Ps) ∧ (r.pkOk = true → q = r.pk.1 ∧ r' = r.pk.2.2) := fun s' hf ⟨r', h1⟩ => by
    refine ⟨pk0, .nils, by rw [hf]; rfl, r', ?_, fun h => by rw [hf] at h; cases h⟩
    exact (Sep.drop h1).push (P := oW .nils 1 encB []) (f := []) (.nil encB_w (by omega)) .refl (by simp [Nw])
  simp (disch := omega) only [vm0, vm1, vm2, vm3, vm4, vm5, vm6, vm7, vmF, vmT, evo, wr, wrC, frame, Nat.reduceAdd, Nat.reduceMul, Nat.reduceSub, beq_self_eq_true, List.cons_append, List.nil_append, beq_dec, vmI, vc75, g0, g00]
  refine call_ok rfl rfl (y_byte (n + 3) _ p r v _ hv0 hS2 hr) ?_
  rintro x s1 ⟨rfl, hS3⟩
  have hS4 := hS3.cell [num 0, num 0, num 0, num 0, num 0, .nils, .bool false, num 0, num 0] [num r.byte.1, num 0, num 0, num 0, num 0, .nils, .bool false, num 0, num 0]
  have g4 := hS4.getC
  simp (disch := omega) only [vm0, vm1, vm2, vm3, vm4, vm5, vm6, vm7, vmF, vmT, evo, wr, wrC, frame, Nat.reduceAdd, Nat.reduceMul, Nat.reduceSub, beq_self_eq_true, List.cons_append, List.nil_append, beq_dec, vmI, f_cvi, cvi_c, g4]
  generalize hb1 : s1.next = b1 at *
  generalize ((s1.new (.cells [num 0, num 0, num 0, num 0, num 0, .nils, .bool false, num 0, num 0] .own)).put b1 (some (.cells [num r.byte.1, num 0, num 0, num 0, num 0, .nils, .bool false, num 0, num 0] .own))) = s4 at *
  refine call_ok rfl rfl (y_num (n + 1) s4 p _ v _ v1 (((hS4.re ((List.perm_middle (l₁ := [_])).trans (.cons _ (.refl _)))))) w1.1 hfu) ?_
  rintro x s5 ⟨rfl, hS5⟩
  have g5 := Sep.getC (((hS5.re ((List.perm_middle (l₁ := [_])).trans (.cons _ (.refl _))))))
  have hS6 := Sep.putC (((hS5.re ((List.perm_middle (l₁ := [_])).trans (.cons _ (.refl _)))))) [num r.byte.1, num r.byte.2.num.1, num 0, num 0, num 0, .nils, .bool false, num 0, num 0]
  simp (disch := omega) only [vm0, vm1, vm2, vm3, vm4, vm5, vm6, vm7, vmF, vmT, evo, wr, wrC, frame, Nat.reduceAdd, Nat.reduceMul, Nat.reduceSub, beq_self_eq_true, List.cons_append, List.nil_append, beq_dec, vmI, g5]
  generalize (s5.put b1 (some (.cells [num r.byte.1, num r.byte.2.num.1, num 0, num 0, num 0, .nils, .bool false, num 0, num 0] .own))) = s6 at *
  refine call_ok rfl rfl (y_num (n + 1) s6 p _ v _ v2 (((hS6.re ((List.perm_middle (l₁ := [_])).trans (.cons _ (.refl _)))))) w2.1 hfu) ?_
  rintro x s7 ⟨rfl, hS7⟩
  have g7 := Sep.getC (((hS7.re ((List.perm_middle (l₁ := [_])).trans (.cons _ (.refl _))))))
  have hS8 := Sep.putC (((hS7.re ((List.perm_middle (l₁ := [_])).trans (.cons _ (.refl _)))))) [num r.byte.1, num r.byte.2.num.1, num r.byte.2.num.2.num.1, num 0, num 0, .nils, .bool false, num 0, num 0]
  change Sep s0 _ (_ :: oC p [v, num r.hd.a, .bool r.hd.bad] :: _ :: Ps) at hS8
  have g8 := hS8.getC
  simp (disch := omega) only [vm0, vm1, vm2, vm3, vm4, vm5, vm6, vm7, vmF, vmT, evo, wr, wrC, frame, Nat.reduceAdd, Nat.reduceMul, Nat.reduceSub, beq_self_eq_true, List.cons_append, List.nil_append, beq_dec, vmI, g7, g8]
  generalize (s7.put b1 (some (.cells [num r.byte.1, num r.byte.2.num.1, num r.byte.2.num.2.num.1, num 0, num 0, .nils, .bool false, num 0, num 0] .own))) = s8 at *
  clear hS1 hS2 hS3 hS4 hS5 hS6 hS7 g4 g5 g7
  refine RsOk.mono (u_psw n s8 p b1 r v _ hv0 hr hS8 hfu _ _ _ _ _ _ _ _ _) ?_
  rintro e F sT ⟨rfl, w, y4, y5, y6, rfl, hT⟩
  have hRo := hr.pk
  have gb1 := Sep.getC (((hT.re ((List.perm_middle (l₁ := [_])).trans (.cons _ (.refl _))))))
  have rw9 := Sep.rdW hT
  have hd9 : r.pk.1.d.length ≤ 1000000 := by have := pk_dl hr; omega
  have hpk : r.pkOk = (!r.pk.2.2.bad && r.pk.1.right && decide (r.pk.2.1 ≤ 1)) := rfl
  cases hrt : r.pk.1.right
  · have hu0 := u_plain0 (bd := bd)  (fu := fu) (n + 1) sT r.pk.1 w rw9 hd9 hrt hfu
    dsimp only [PkV.cs] at hu0 gb1 ⊢
    simp (disch := omega) only [vm0, vm1, vm2, vm3, vm4, vm5, vm6, vm7, vmF, vmT, evo, wr, wrC, frame, Nat.reduceAdd, Nat.reduceMul, Nat.reduceSub, beq_self_eq_true, List.cons_append, List.nil_append, beq_dec, vmI, vc75_1, gb1]
    refine call_ok rfl rfl hu0 ?_
    rintro x s9 ⟨rfl, f9⟩
    have hT2 := hT.fr f9
    have gp := Sep.getC (((hT2.re ((List.perm_middle (l₁ := [_, _])).trans (.cons _ (.refl _))))))
    have gz := Sep.getC (((hT2.re ((List.perm_middle (l₁ := [_, _, _])).trans (.cons _ (.refl _))))))
    have hT4 := Sep.putC (((hT2.re ((List.perm_middle (l₁ := [_, _, _])).trans (.cons _ (.refl _)))))) [num 0, num 0, num 0, num 0, num 0, .nils, .bool false, num 0, num 0]
    have hb4' := hT4.getC
    have hfl : r.pkOk = false := by rw [hpk, hrt]; simp
    cases hbad : r.pk.2.2.bad
    all_goals
      rw [hbad] at gp
      simp (disch := omega) only [vm0, vm1, vm2, vm3, vm4, vm5, vm6, vm7, vmF, vmT, evo, wr, wrC, frame, Nat.reduceAdd, Nat.reduceMul, Nat.reduceSub, beq_self_eq_true, List.cons_append, List.nil_append, beq_dec, vmI, gb1, gp, gz, hb4', vmU, du_cvs, du_sli]
      exact fail _ hfl ⟨r.pk.2.2, (((hT4.re ((List.perm_middle (l₁ := [_])).trans (.cons _ ((List.perm_middle (l₁ := [_])).trans (.cons _ (.refl _)))))).drop.drop))⟩
  · obtain ⟨j1, j2, j3, j4, j5, j6, j7, j8⟩ := PkV.right_in hrt
    have hu1 := u_plain1 (bd := bd)  (fu := fu) (n + 1) sT r.pk.1 w rw9 hd9 hrt j1 j2 j3 j4 j5 j6 j7 hfu
    dsimp only [PkV.cs] at hu1 gb1 ⊢
    simp (disch := omega) only [vm0, vm1, vm2, vm3, vm4, vm5, vm6, vm7, vmF, vmT, evo, wr, wrC, frame, Nat.reduceAdd, Nat.reduceMul, Nat.reduceSub, beq_self_eq_true, List.cons_append, List.nil_append, beq_dec, vmI, vc75_1, gb1]
    refine call_ok rfl rfl hu1 ?_
    rintro _ s9 ⟨y, rfl, hSy⟩
    have ry := Sep.rdW hSy
    have hT2 := hT.fr hSy.frm
    have gb9 := Sep.getC (((hT2.re ((List.perm_middle (l₁ := [_])).trans (.cons _ (.refl _))))))
    have gp := Sep.getC (((hT2.re ((List.perm_middle (l₁ := [_, _])).trans (.cons _ (.refl _))))))
    have gz := Sep.getC (((hT2.re ((List.perm_middle (l₁ := [_, _, _])).trans (.cons _ (.refl _))))))
    have hT3 := Sep.putC (((hT2.re ((List.perm_middle (l₁ := [_, _, _])).trans (.cons _ (.refl _)))))) (r.pk.1.cs w)
    have hb3' := hT3.getC
    have hT4 := Sep.putC (((hT2.re ((List.perm_middle (l₁ := [_, _, _])).trans (.cons _ (.refl _)))))) [num 0, num 0, num 0, num 0, num 0, .nils, .bool false, num 0, num 0]
    have hb4' := hT4.getC
    dsimp only [PkV.cs] at gb9 hb3'
    cases hbad : r.pk.2.2.bad
    · rw [hbad] at gp
      obtain ⟨wt, q1, q2, q3⟩ := pk_ate hr hbad
      have hsub := q1.sub hra.1
      have hRa := hRo.1.a
      rw [hRo.2] at hRa
      have hqa := q1.a
      have rv := hv0.fr0 hT2.frm
      obtain ⟨ub, gs, ru⟩ := rv.sli' (a := r.a) (b := r.pk.2.2.a) hra.1 (by omega) (by omega)
      rw [hsub] at ru
      have hwi : ∀ x ∈ wt, In8 x := fun x hx => by
        rw [← hsub] at hx
        exact hr.i x (List.mem_of_mem_take (List.mem_of_mem_drop hx))
      have hin := PkV.bytes_in (p := r.pk.1) hpd.1
      generalize hX : r.pk.1.bytes = X at ry q2 q3 hin
      have cv1 := cvV_is ry hin
      have cv2 := cvV_is ru hwi
      by_cases hfn : r.pk.2.1 ≤ 1
      · have hdd : decide (X = wt) = true := decide_eq_true (q2.2 hfn)
        simp (disch := omega) only [vm0, vm1, vm2, vm3, vm4, vm5, vm6, vm7, vmF, vmT, evo, wr, wrC, frame, Nat.reduceAdd, Nat.reduceMul, Nat.reduceSub, beq_self_eq_true, List.cons_append, List.nil_append, beq_dec, vmI, gb1, gb9, gp, gz, hb3', gs, f_cvs, cv1, cv2, eqE_s, hdd, sm_v rv.rd.sl, sv_sl rw9.rd.sl, sv_bool, rw_7, rw_8]
        have hk : r.pkOk = true := by rw [hpk, hbad, hrt, decide_eq_true hfn]; rfl
        exact ⟨r.pk.1, w, by rw [hk]; rfl, r.pk.2.2, (((hT3.re (.cons _ ((List.perm_middle (l₁ := [_])).trans (.cons _ (.refl _))))).drop.drop)), fun _ => ⟨rfl, rfl⟩⟩
      · have hdd : decide (X = wt) = false := decide_eq_false fun h => hfn (q2.1 h)
        simp (disch := omega) only [vm0, vm1, vm2, vm3, vm4, vm5, vm6, vm7, vmF, vmT, evo, wr, wrC, frame, Nat.reduceAdd, Nat.reduceMul, Nat.reduceSub, beq_self_eq_true, List.cons_append, List.nil_append, beq_dec, vmI, gb1, gb9, gp, gz, hb4', gs, f_cvs, cv1, cv2, eqE_s, hdd, sm_v rv.rd.sl, sv_bool, rw_7, rw_8]
        exact fail _ (by rw [hpk, decide_eq_false hfn, Bool.and_false]) ⟨r.pk.2.2, (((hT4.re ((List.perm_middle (l₁ := [_])).trans (.cons _ ((List.perm_middle (l₁ := [_])).trans (.cons _ (.refl _)))))).drop.drop))⟩
    · rw [hbad] at gp
      simp (disch := omega) only [vm0, vm1, vm2, vm3, vm4, vm5, vm6, vm7, vmF, vmT, evo, wr, wrC, frame, Nat.reduceAdd, Nat.reduceMul, Nat.reduceSub, beq_self_eq_true, List.cons_append, List.nil_append, beq_dec, vmI, gb1, gb9, gp, gz, hb4', vmU, du_cvs, du_sli]
      exact fail _ (by rw [hpk, hbad]; rfl) ⟨r.pk.2.2, (((hT4.re ((List.perm_middle (l₁ := [_])).trans (.cons _ ((List.perm_middle (l₁ := [_])).trans (.cons _ (.refl _)))))).drop.drop))⟩
end
end Go.Proofs.Ytgckbcljlkkceaa.ctr
namespace Go.Proofs.Ytgckbcljlkkceaa.ctr
open Go Go.Vm Go.RowKit
set_option linter.unusedVariables false
set_option linter.constructorNameAsVariable false
set_option linter.unusedSimpArgs false
structure USw (r : RD) (q : EvV) (r' : RD) (ok : Bool) : Prop where
  okE : (!r'.bad && ok && q.right) = r.evOk
  eq : r.evOk = true → q = r.ev.1 ∧ r' = r.ev.2
  sm : ok = true → q.p.d.length ≤ 1000000 ∧ (∀ x ∈ q.p.d, In8 x) ∧ r'.Ok ∧ r'.B = r.B
section
variable {bd : Bd} {fu : Nat}
set_option maxHeartbeats 8000000 in
theorem u_sw (n : Nat) {s0 : St} (s : St) (p b : Nat) (r : RD) (v : AV) (Ps : List Obj) (hv0 : RdE s0 v 1 encB r.B) (hr : r.Ok) (hS : Sep s0 s (oC b [num r.byte.1, num 0, .nils, num 0, num 0, num 0, num 0, num 0, .nils, .bool false, num 0, num 0] :: oC p [v, num r.byte.2.a, .bool r.byte.2.bad] :: Ps)) (hfu : 10 < fu) (w0 x4 x5 x6 x7 x8 x10 x11 x12 x13 : Option AV) :
    RsOk (exec bd (callF bd tab.get fu (n + 6)) fu vc22_0 [w0, some (.ptr p 0), some (num r.byte.1), some (.ptr b 0), x4, x5, x6, x7, x8, some (.bool true), x10, x11, x12, x13] s) (fun e F' s' => Is e .normal ∧ ∃ (q : EvV) (u w : AV) (r' : RD) (ok : Bool), ∃ y4 y5 y6, F' = [w0, some (.ptr p 0), some (num r.byte.1), some (.ptr b 0), y4, y5, y6, x7, x8, some (.bool ok), x10, x11, x12, x13] ∧ Sep s0 s' (oW u 1 encB q.d :: oW w 1 encB q.p.d :: oC b (q.cs u w) :: oC p [v, num r'.a, .bool r'.bad] :: Ps) ∧ USw r q r' ok) := by
  have hb8 := RD.byte_in hr
  have o1 := hr.byte
  have v1 : RdE s0 v 1 encB r.byte.2.B := by rw [o1.2]; exact hv0
  have hed := ev_d hr
  have heo := hr.ev
  have g6 := hS.getC
  have hp0 : pk0.d.length ≤ 1000000 := by simp [pk0]
  have hp08 : ∀ x ∈ pk0.d, In8 x := by simp [pk0]
  rcases (show r.byte.1 = 1 ∨ r.byte.1 = 2 ∨ r.byte.1 = 3 ∨ r.byte.1 = 7 ∨ r.byte.1 = 8 ∨ r.byte.1 = 4 ∨ r.byte.1 = 5 ∨ (r.byte.1 ≠ 1 ∧ r.byte.1 ≠ 2 ∧ r.byte.1 ≠ 3 ∧ r.byte.1 ≠ 7 ∧ r.byte.1 ≠ 8 ∧ r.byte.1 ≠ 4 ∧ r.byte.1 ≠ 5) by omega) with c | c | c | c | c | c | c | c
  · have e : r.ev = (⟨r.byte.1, 0, (r.byte.2.bytes 4096).1, pk0⟩, (r.byte.2.bytes 4096).2) := by unfold RD.ev; rw [if_pos (by omega)]
    have hx : r.evOk = (!RD.bad ((r.byte.2.bytes 4096).2) && EvV.right ⟨r.byte.1, 0, (r.byte.2.bytes 4096).1, pk0⟩) := by unfold RD.evOk; rw [e, if_neg (by omega), Bool.and_true]
    simp (disch := omega) only [vm0, vm1, vm2, vm3, vm4, vm5, vm6, vm7, vmF, vmT, evo, wr, wrC, frame, Nat.reduceAdd, Nat.reduceMul, Nat.reduceSub, beq_self_eq_true, List.cons_append, List.nil_append, beq_dec, vmI, vc22_0, g6, c]
    refine call_ok rfl rfl (y_bytes (n + 2) _ p _ 4096 v _ v1 (((hS.re ((List.perm_middle (l₁ := [_])).trans (.cons _ (.refl _)))))) o1.1 (by omega) hfu) ?_
    rintro d s6 hS8
    have g8 := Sep.getC (((hS8.re ((List.perm_middle (l₁ := [_, _])).trans (.cons _ (.refl _))))))
    have hdc := cells1 (Sep.rdW hS8).rd.sl
    have hS9 := Sep.putC (((hS8.re ((List.perm_middle (l₁ := [_, _])).trans (.cons _ (.refl _)))))) [num r.byte.1, num 0, d, num 0, num 0, num 0, num 0, num 0, .nils, .bool false, num 0, num 0]
    have hS10 := hS9.push (P := oW .nils 1 encB []) (f := []) (.nil encB_w (by omega)) .refl (by simp [Nw])
    simp (disch := omega) only [vm0, vm1, vm2, vm3, vm4, vm5, vm6, vm7, vmF, vmT, evo, wr, wrC, frame, Nat.reduceAdd, Nat.reduceMul, Nat.reduceSub, beq_self_eq_true, List.cons_append, List.nil_append, beq_dec, vmI, vc22_0, g8, hdc]
    exact ⟨rfl, ⟨r.byte.1, 0, (r.byte.2.bytes 4096).1, pk0⟩, d, .nils, (r.byte.2.bytes 4096).2, true, _, _, _, rfl, (((hS10.re ((List.perm_middle (l₁ := [_, _])).trans (.cons _ (.refl _)))))), ⟨by rw [Bool.and_true]; exact hx.symm, fun _ => by rw [e]; exact ⟨rfl, rfl⟩, fun _ => ⟨hp0, hp08, by rw [e] at heo; exact heo.1, by rw [e] at heo; exact heo.2⟩⟩⟩
  · have e : r.ev = (⟨r.byte.1, 0, (r.byte.2.bytes 4096).1, pk0⟩, (r.byte.2.bytes 4096).2) := by unfold RD.ev; rw [if_pos (by omega)]
    have hx : r.evOk = (!RD.bad ((r.byte.2.bytes 4096).2) && EvV.right ⟨r.byte.1, 0, (r.byte.2.bytes 4096).1, pk0⟩) := by unfold RD.evOk; rw [e, if_neg (by omega), Bool.and_true]
    simp (disch := omega) only [vm0, vm1, vm2, vm3, vm4, vm5, vm6, vm7, vmF, vmT, evo, wr, wrC, frame, Nat.reduceAdd, Nat.reduceMul, Nat.reduceSub, beq_self_eq_true, List.cons_append, List.nil_append, beq_dec, vmI, vc22_0, g6, c]
    refine call_ok rfl rfl (y_bytes (n + 2) _ p _ 4096 v _ v1 (((hS.re ((List.perm_middle (l₁ := [_])).trans (.cons _ (.refl _)))))) o1.1 (by omega) hfu) ?_
    rintro d s6 hS8
    have g8 := Sep.getC (((hS8.re ((List.perm_middle (l₁ := [_, _])).trans (.cons _ (.refl _))))))
    have hdc := cells1 (Sep.rdW hS8).rd.sl
    have hS9 := Sep.putC (((hS8.re ((List.perm_middle (l₁ := [_, _])).trans (.cons _ (.refl _)))))) [num r.byte.1, num 0, d, num 0, num 0, num 0, num 0, num 0, .nils, .bool false, num 0, num 0]
    have hS10 := hS9.push (P := oW .nils 1 encB []) (f := []) (.nil encB_w (by omega)) .refl (by simp [Nw])
    simp (disch := omega) only [vm0, vm1, vm2, vm3, vm4, vm5, vm6, vm7, vmF, vmT, evo, wr, wrC, frame, Nat.reduceAdd, Nat.reduceMul, Nat.reduceSub, beq_self_eq_true, List.cons_append, List.nil_append, beq_dec, vmI, vc22_0, g8, hdc]
    exact ⟨rfl, ⟨r.byte.1, 0, (r.byte.2.bytes 4096).1, pk0⟩, d, .nils, (r.byte.2.bytes 4096).2, true, _, _, _, rfl, (((hS10.re ((List.perm_middle (l₁ := [_, _])).trans (.cons _ (.refl _)))))), ⟨by rw [Bool.and_true]; exact hx.symm, fun _ => by rw [e]; exact ⟨rfl, rfl⟩, fun _ => ⟨hp0, hp08, by rw [e] at heo; exact heo.1, by rw [e] at heo; exact heo.2⟩⟩⟩
  · have e : r.ev = (⟨r.byte.1, r.byte.2.num.1, [], pk0⟩, r.byte.2.num.2) := by unfold RD.ev; rw [if_neg (by omega), if_pos (by omega)]
    have hx : r.evOk = (!RD.bad (r.byte.2.num.2) && EvV.right ⟨r.byte.1, r.byte.2.num.1, [], pk0⟩) := by unfold RD.evOk; rw [e, if_neg (by omega), Bool.and_true]
    simp (disch := omega) only [vm0, vm1, vm2, vm3, vm4, vm5, vm6, vm7, vmF, vmT, evo, wr, wrC, frame, Nat.reduceAdd, Nat.reduceMul, Nat.reduceSub, beq_self_eq_true, List.cons_append, List.nil_append, beq_dec, vmI, vc22_0, g6, c]
    refine call_ok rfl rfl (y_num (n + 2) _ p _ v _ v1 (((hS.re ((List.perm_middle (l₁ := [_])).trans (.cons _ (.refl _)))))) o1.1 hfu) ?_
    rintro x s6 ⟨rfl, hS8⟩
    have g8 := Sep.getC (((hS8.re ((List.perm_middle (l₁ := [_])).trans (.cons _ (.refl _))))))
    have hS9 := Sep.putC (((hS8.re ((List.perm_middle (l₁ := [_])).trans (.cons _ (.refl _)))))) [num r.byte.1, num r.byte.2.num.1, .nils, num 0, num 0, num 0, num 0, num 0, .nils, .bool false, num 0, num 0]
    have hS10 := (hS9.push (P := oW .nils 1 encB []) (f := []) (.nil encB_w (by omega)) .refl (by simp [Nw])).push (P := oW .nils 1 encB []) (f := []) (.nil encB_w (by omega)) .refl (by simp [Nw])
    simp (disch := omega) only [vm0, vm1, vm2, vm3, vm4, vm5, vm6, vm7, vmF, vmT, evo, wr, wrC, frame, Nat.reduceAdd, Nat.reduceMul, Nat.reduceSub, beq_self_eq_true, List.cons_append, List.nil_append, beq_dec, vmI, vc22_0, g8]
    exact ⟨rfl, ⟨r.byte.1, r.byte.2.num.1, [], pk0⟩, .nils, .nils, r.byte.2.num.2, true, _, _, _, rfl, hS10, ⟨by rw [Bool.and_true]; exact hx.symm, fun _ => by rw [e]; exact ⟨rfl, rfl⟩, fun _ => ⟨hp0, hp08, by rw [e] at heo; exact heo.1, by rw [e] at heo; exact heo.2⟩⟩⟩
  · have e : r.ev = (⟨r.byte.1, r.byte.2.num.1, [], pk0⟩, r.byte.2.num.2) := by unfold RD.ev; rw [if_neg (by omega), if_pos (by omega)]
    have hx : r.evOk = (!RD.bad (r.byte.2.num.2) && EvV.right ⟨r.byte.1, r.byte.2.num.1, [], pk0⟩) := by unfold RD.evOk; rw [e, if_neg (by omega), Bool.and_true]
    simp (disch := omega) only [vm0, vm1, vm2, vm3, vm4, vm5, vm6, vm7, vmF, vmT, evo, wr, wrC, frame, Nat.reduceAdd, Nat.reduceMul, Nat.reduceSub, beq_self_eq_true, List.cons_append, List.nil_append, beq_dec, vmI, vc22_0, g6, c]
    refine call_ok rfl rfl (y_num (n + 2) _ p _ v _ v1 (((hS.re ((List.perm_middle (l₁ := [_])).trans (.cons _ (.refl _)))))) o1.1 hfu) ?_
    rintro x s6 ⟨rfl, hS8⟩
    have g8 := Sep.getC (((hS8.re ((List.perm_middle (l₁ := [_])).trans (.cons _ (.refl _))))))
    have hS9 := Sep.putC (((hS8.re ((List.perm_middle (l₁ := [_])).trans (.cons _ (.refl _)))))) [num r.byte.1, num r.byte.2.num.1, .nils, num 0, num 0, num 0, num 0, num 0, .nils, .bool false, num 0, num 0]
    have hS10 := (hS9.push (P := oW .nils 1 encB []) (f := []) (.nil encB_w (by omega)) .refl (by simp [Nw])).push (P := oW .nils 1 encB []) (f := []) (.nil encB_w (by omega)) .refl (by simp [Nw])
    simp (disch := omega) only [vm0, vm1, vm2, vm3, vm4, vm5, vm6, vm7, vmF, vmT, evo, wr, wrC, frame, Nat.reduceAdd, Nat.reduceMul, Nat.reduceSub, beq_self_eq_true, List.cons_append, List.nil_append, beq_dec, vmI, vc22_0, g8]
    exact ⟨rfl, ⟨r.byte.1, r.byte.2.num.1, [], pk0⟩, .nils, .nils, r.byte.2.num.2, true, _, _, _, rfl, hS10, ⟨by rw [Bool.and_true]; exact hx.symm, fun _ => by rw [e]; exact ⟨rfl, rfl⟩, fun _ => ⟨hp0, hp08, by rw [e] at heo; exact heo.1, by rw [e] at heo; exact heo.2⟩⟩⟩
  · have e : r.ev = (⟨r.byte.1, r.byte.2.num.1, [], pk0⟩, r.byte.2.num.2) := by unfold RD.ev; rw [if_neg (by omega), if_pos (by omega)]
    have hx : r.evOk = (!RD.bad (r.byte.2.num.2) && EvV.right ⟨r.byte.1, r.byte.2.num.1, [], pk0⟩) := by unfold RD.evOk; rw [e, if_neg (by omega), Bool.and_true]
    simp (disch := omega) only [vm0, vm1, vm2, vm3, vm4, vm5, vm6, vm7, vmF, vmT, evo, wr, wrC, frame, Nat.reduceAdd, Nat.reduceMul, Nat.reduceSub, beq_self_eq_true, List.cons_append, List.nil_append, beq_dec, vmI, vc22_0, g6, c]
    refine call_ok rfl rfl (y_num (n + 2) _ p _ v _ v1 (((hS.re ((List.perm_middle (l₁ := [_])).trans (.cons _ (.refl _)))))) o1.1 hfu) ?_
    rintro x s6 ⟨rfl, hS8⟩
    have g8 := Sep.getC (((hS8.re ((List.perm_middle (l₁ := [_])).trans (.cons _ (.refl _))))))
    have hS9 := Sep.putC (((hS8.re ((List.perm_middle (l₁ := [_])).trans (.cons _ (.refl _)))))) [num r.byte.1, num r.byte.2.num.1, .nils, num 0, num 0, num 0, num 0, num 0, .nils, .bool false, num 0, num 0]
    have hS10 := (hS9.push (P := oW .nils 1 encB []) (f := []) (.nil encB_w (by omega)) .refl (by simp [Nw])).push (P := oW .nils 1 encB []) (f := []) (.nil encB_w (by omega)) .refl (by simp [Nw])
    simp (disch := omega) only [vm0, vm1, vm2, vm3, vm4, vm5, vm6, vm7, vmF, vmT, evo, wr, wrC, frame, Nat.reduceAdd, Nat.reduceMul, Nat.reduceSub, beq_self_eq_true, List.cons_append, List.nil_append, beq_dec, vmI, vc22_0, g8]
    exact ⟨rfl, ⟨r.byte.1, r.byte.2.num.1, [], pk0⟩, .nils, .nils, r.byte.2.num.2, true, _, _, _, rfl, hS10, ⟨by rw [Bool.and_true]; exact hx.symm, fun _ => by rw [e]; exact ⟨rfl, rfl⟩, fun _ => ⟨hp0, hp08, by rw [e] at heo; exact heo.1, by rw [e] at heo; exact heo.2⟩⟩⟩
  · have e : r.ev = (⟨r.byte.1, 0, [], r.byte.2.pk.1⟩, r.byte.2.pk.2.2) := by unfold RD.ev; rw [if_neg (by omega), if_neg (by omega), if_pos (by omega)]
    have hx1 : r.evOk = (!RD.bad (r.byte.2.pk.2.2) && EvV.right ⟨r.byte.1, 0, [], r.byte.2.pk.1⟩ && decide (r.byte.2.pk.2.1 ≤ 1)) := by unfold RD.evOk; rw [e, if_pos (by omega)]
    simp (disch := omega) only [vm0, vm1, vm2, vm3, vm4, vm5, vm6, vm7, vmF, vmT, evo, wr, wrC, frame, Nat.reduceAdd, Nat.reduceMul, Nat.reduceSub, beq_self_eq_true, List.cons_append, List.nil_append, beq_dec, vmI, vc22_0, g6, c]
    refine call_ok rfl rfl (u_take n _ p _ v _ v1 (((hS.re ((List.perm_middle (l₁ := [_])).trans (.cons _ (.refl _)))))) o1.1 hfu) ?_
    rintro _ s6 ⟨q, w, rfl, r', hS8, hqr⟩
    have g8 := Sep.getC (((hS8.re ((List.perm_middle (l₁ := [_, _])).trans (.cons _ (.refl _))))))
    have hS9 := Sep.putC (((hS8.re ((List.perm_middle (l₁ := [_, _])).trans (.cons _ (.refl _)))))) [num r.byte.1, num 0, .nils, num q.k, num q.pt, num q.nr, num q.of_, num q.fr, w, .bool q.fin, num q.se, num q.li]
    have hS10 := hS9.push (P := oW .nils 1 encB []) (f := []) (.nil encB_w (by omega)) .refl (by simp [Nw])
    dsimp only [PkV.cs]
    simp (disch := omega) only [vm0, vm1, vm2, vm3, vm4, vm5, vm6, vm7, vmF, vmT, evo, wr, wrC, frame, Nat.reduceAdd, Nat.reduceMul, Nat.reduceSub, beq_self_eq_true, List.cons_append, List.nil_append, beq_dec, vmI, vc22_0, g8]
    refine ⟨rfl, ⟨r.byte.1, 0, [], q⟩, .nils, w, r', r.byte.2.pkOk, _, _, _, rfl, (((hS10.re (.cons _ ((List.perm_middle (l₁ := [_])).trans (.cons _ (.refl _))))))), ?_⟩
    cases hok : r.byte.2.pkOk
    · have hk := evOk_pk (by omega) hok
      exact ⟨by rw [hk, Bool.and_false, Bool.false_and], (fun h => by rw [hk] at h; cases h), (fun h => by cases h)⟩
    · obtain ⟨rfl, rfl⟩ := hqr hok
      have hpr : r.byte.2.pk.1.right = true ∧ r.byte.2.pk.2.1 ≤ 1 := by
        unfold RD.pkOk at hok
        simp only [Bool.and_eq_true, decide_eq_true_eq] at hok
        exact ⟨hok.1.2, hok.2⟩
      have hdl := (PkV.right_in hpr.1).2.2.2.2.2.2.2
      exact ⟨by rw [hx1, decide_eq_true hpr.2, Bool.and_true, Bool.and_true], fun _ => by rw [e]; exact ⟨rfl, rfl⟩, fun _ => ⟨by show r.byte.2.pk.1.d.length ≤ 1000000; omega, by rw [e] at hed; exact hed.2.1, by rw [e] at heo; exact heo.1, by rw [e] at heo; exact heo.2⟩⟩
  · have e : r.ev = (⟨r.byte.1, 0, [], r.byte.2.pk.1⟩, r.byte.2.pk.2.2) := by unfold RD.ev; rw [if_neg (by omega), if_neg (by omega), if_pos (by omega)]
    have hx1 : r.evOk = (!RD.bad (r.byte.2.pk.2.2) && EvV.right ⟨r.byte.1, 0, [], r.byte.2.pk.1⟩ && decide (r.byte.2.pk.2.1 ≤ 1)) := by unfold RD.evOk; rw [e, if_pos (by omega)]
    simp (disch := omega) only [vm0, vm1, vm2, vm3, vm4, vm5, vm6, vm7, vmF, vmT, evo, wr, wrC, frame, Nat.reduceAdd, Nat.reduceMul, Nat.reduceSub, beq_self_eq_true, List.cons_append, List.nil_append, beq_dec, vmI, vc22_0, g6, c]
    refine call_ok rfl rfl (u_take n _ p _ v _ v1 (((hS.re ((List.perm_middle (l₁ := [_])).trans (.cons _ (.refl _)))))) o1.1 hfu) ?_
    rintro _ s6 ⟨q, w, rfl, r', hS8, hqr⟩
    have g8 := Sep.getC (((hS8.re ((List.perm_middle (l₁ := [_, _])).trans (.cons _ (.refl _))))))
    have hS9 := Sep.putC (((hS8.re ((List.perm_middle (l₁ := [_, _])).trans (.cons _ (.refl _)))))) [num r.byte.1, num 0, .nils, num q.k, num q.pt, num q.nr, num q.of_, num q.fr, w, .bool q.fin, num q.se, num q.li]
    have hS10 := hS9.push (P := oW .nils 1 encB []) (f := []) (.nil encB_w (by omega)) .refl (by simp [Nw])
    dsimp only [PkV.cs]
    simp (disch := omega) only [vm0, vm1, vm2, vm3, vm4, vm5, vm6, vm7, vmF, vmT, evo, wr, wrC, frame, Nat.reduceAdd, Nat.reduceMul, Nat.reduceSub, beq_self_eq_true, List.cons_append, List.nil_append, beq_dec, vmI, vc22_0, g8]
    refine ⟨rfl, ⟨r.byte.1, 0, [], q⟩, .nils, w, r', r.byte.2.pkOk, _, _, _, rfl, (((hS10.re (.cons _ ((List.perm_middle (l₁ := [_])).trans (.cons _ (.refl _))))))), ?_⟩
    cases hok : r.byte.2.pkOk
    · have hk := evOk_pk (by omega) hok
      exact ⟨by rw [hk, Bool.and_false, Bool.false_and], (fun h => by rw [hk] at h; cases h), (fun h => by cases h)⟩
    · obtain ⟨rfl, rfl⟩ := hqr hok
      have hpr : r.byte.2.pk.1.right = true ∧ r.byte.2.pk.2.1 ≤ 1 := by
        unfold RD.pkOk at hok
        simp only [Bool.and_eq_true, decide_eq_true_eq] at hok
        exact ⟨hok.1.2, hok.2⟩
      have hdl := (PkV.right_in hpr.1).2.2.2.2.2.2.2
      exact ⟨by rw [hx1, decide_eq_true hpr.2, Bool.and_true, Bool.and_true], fun _ => by rw [e]; exact ⟨rfl, rfl⟩, fun _ => ⟨by show r.byte.2.pk.1.d.length ≤ 1000000; omega, by rw [e] at hed; exact hed.2.1, by rw [e] at heo; exact heo.1, by rw [e] at heo; exact heo.2⟩⟩
  · obtain ⟨c1, c2, c3, c4, c5, c6, c7⟩ := c
    have e : r.ev = (⟨r.byte.1, 0, [], pk0⟩, r.byte.2) := by unfold RD.ev; rw [if_neg (by omega), if_neg (by omega), if_neg (by omega)]
    have hx : r.evOk = (!RD.bad (r.byte.2) && EvV.right ⟨r.byte.1, 0, [], pk0⟩) := by unfold RD.evOk; rw [e, if_neg (by omega), Bool.and_true]
    have hS10 := (hS.push (P := oW .nils 1 encB []) (f := []) (.nil encB_w (by omega)) .refl (by simp [Nw])).push (P := oW .nils 1 encB []) (f := []) (.nil encB_w (by omega)) .refl (by simp [Nw])
    simp (disch := omega) only [vm0, vm1, vm2, vm3, vm4, vm5, vm6, vm7, vmF, vmT, evo, wr, wrC, frame, Nat.reduceAdd, Nat.reduceMul, Nat.reduceSub, beq_self_eq_true, List.cons_append, List.nil_append, beq_dec, vmI, vc22_0, g6]
    exact ⟨rfl, ⟨r.byte.1, 0, [], pk0⟩, .nils, .nils, r.byte.2, true, _, _, _, rfl, hS10, ⟨by rw [Bool.and_true]; exact hx.symm, fun _ => by rw [e]; exact ⟨rfl, rfl⟩, fun _ => ⟨hp0, hp08, by rw [e] at heo; exact heo.1, by rw [e] at heo; exact heo.2⟩⟩⟩
set_option maxHeartbeats 4000000 in
theorem u_unpack (n : Nat) (s : St) (v : AV) (B : List Int) (hv : RdE s v 1 encB B) (h8 : ∀ x ∈ B, In8 x) (hl : B.length < 1048576) (hfu : 1048600 < fu) :
    OutOk (callF bd tab.get fu (n + 7) 22 [v] s) (fun x s' => (∃ (m : List EvR) (y : AV), unV (B.length + 1) ⟨B, 0, false⟩ [] = (some (evs m), -1) ∧ Is x (.tup [y, num (-1)]) ∧ evsOk s' m ∧ Sep s s' [oW y 12 EvR.enc m, oH m]) ∨ (∃ a : Int, unV (B.length + 1) ⟨B, 0, false⟩ [] = (none, a) ∧ (0 ≤ a ∧ a < B.length) ∧ Is x (.tup [.nils, num a]) ∧ Fr s s' [])) := by
  refine call_code t22 rfl ?_
  have hlen := hv.lenV
  have hvc := cells1 hv.rd.sl
  have hS := (Sep.nil (s := s)).newC [v, num 0, .bool false]
  simp (disch := omega) only [vm0, vm1, vm2, vm3, vm4, vm5, vm6, vm7, vmF, vmT, evo, wr, wrC, frame, Nat.reduceAdd, Nat.reduceMul, Nat.reduceSub, beq_self_eq_true, List.cons_append, List.nil_append, beq_dec, vmI, vc22, hvc]
  generalize (s.new (.cells [v, num 0, .bool false] .own)) = s1 at *
  generalize s.next = p at *
  refine x_loop (fun k F s' => ∃ i : Nat, ∃ (r : RD) (m : List EvR), ∃ vo x2 x3 x4 x5 x6 x8 x9 x10 x11, k = (B.length - r.a).toNat ∧ F = [some v, some (.ptr p 0), x2, x3, x4, x5, x6, some vo, x8, x9, x10, x11, some .nils, some (num 0)] ∧ UnI B i r m ∧ Sep s s' [oW vo 12 EvR.enc m, oH m, oC p [v, num r.a, .bool r.bad]]) B.length (by omega) ?_ ?_
  · have hS2 := (hS.push (P := oH []) (f := []) ⟨by simp [Lt], by simp⟩ .refl (by simp [Nw])).push (P := oW .nils 12 EvR.enc []) (f := []) (.nil EvR.wid (by omega)) .refl (by simp [Nw])
    exact ⟨0, ⟨B, 0, false⟩, [], _, _, _, _, _, _, _, _, _, _, by simp, rfl, UnI.zero h8 (by omega), hS2⟩
  · rintro k F s2 ⟨i, r, m, vo, x2, x3, x4, x5, x6, x8, x9, x10, x11, rfl, rfl, hI, hS⟩ hk
    have hra := hI.ok.a
    have hrB := hI.eB
    rw [hrB] at hra
    have g2 := Sep.getC (((hS.re ((List.perm_middle (l₁ := [_, _])).trans (.cons _ (.refl _))))))
    have hv2 : RdE s v 1 encB r.B := by rw [hrB]; exact hv
    by_cases hlt : r.a < B.length
    case neg =>
      obtain ⟨d1, d2⟩ := hI.done hlt
      simp (disch := omega) only [vm0, vm1, vm2, vm3, vm4, vm5, vm6, vm7, vmF, vmT, evo, wr, wrC, frame, Nat.reduceAdd, Nat.reduceMul, Nat.reduceSub, beq_self_eq_true, List.cons_append, List.nil_append, beq_dec, vmI, vc22_3, g2, hlen]
      exact .inl ⟨m, vo, d1, rfl, hI.oks (((hS.re ((List.perm_middle (l₁ := [_])).trans (.cons _ (.refl _)))))), (((hS.re ((List.perm_middle (l₁ := [_, _])).trans (.cons _ (.refl _)))).drop))⟩
    simp (disch := omega) only [vm0, vm1, vm2, vm3, vm4, vm5, vm6, vm7, vmF, vmT, evo, wr, wrC, frame, Nat.reduceAdd, Nat.reduceMul, Nat.reduceSub, beq_self_eq_true, List.cons_append, List.nil_append, beq_dec, vmI, vc22_3, vc22_2, g2, hlen]
    refine call_ok rfl rfl (y_byte (n + 4) s2 p r v _ hv2 (((hS.re ((List.perm_middle (l₁ := [_, _])).trans (.cons _ (.refl _)))))) hI.ok) ?_
    rintro y s5 ⟨rfl, hS5⟩
    have hS6 := hS5.cell [num 0, num 0, .nils, num 0, num 0, num 0, num 0, num 0, .nils, .bool false, num 0, num 0] [num r.byte.1, num 0, .nils, num 0, num 0, num 0, num 0, num 0, .nils, .bool false, num 0, num 0]
    have hb8 := RD.byte_in hI.ok
    have g6 := hS6.getC
    simp (disch := omega) only [vm0, vm1, vm2, vm3, vm4, vm5, vm6, vm7, vmF, vmT, evo, wr, wrC, frame, Nat.reduceAdd, Nat.reduceMul, Nat.reduceSub, beq_self_eq_true, List.cons_append, List.nil_append, beq_dec, vmI, f_cvi, cvi_c, g6]
    generalize ((s5.new (.cells [num 0, num 0, .nils, num 0, num 0, num 0, num 0, num 0, .nils, .bool false, num 0, num 0] .own)).put s5.next (some (.cells [num r.byte.1, num 0, .nils, num 0, num 0, num 0, num 0, num 0, .nils, .bool false, num 0, num 0] .own))) = s6 at *
    generalize s5.next = b6 at *
    refine RsOk.mono (u_sw n s6 p b6 r v _ hv2 hI.ok hS6 (by omega) _ _ _ _ _ _ _ _ _ _) ?_
    rintro e F s7 ⟨rfl, q, u, w, r', ok, y4, y5, y6, rfl, hS7, hq⟩
    have g7 := Sep.getC (((hS7.re ((List.perm_middle (l₁ := [_, _, _])).trans (.cons _ (.refl _))))))
    have g8 := Sep.getC (((hS7.re ((List.perm_middle (l₁ := [_, _])).trans (.cons _ (.refl _))))))
    dsimp only [EvV.cs] at g8 hS7
    have hfail : r.evOk = false → _ := fun h => hI.fail hlt h
    cases hbad : r'.bad
    case true =>
      rw [hbad] at g7
      simp (disch := omega) only [vm0, vm1, vm2, vm3, vm4, vm5, vm6, vm7, vmF, vmT, evo, wr, wrC, frame, Nat.reduceAdd, Nat.reduceMul, Nat.reduceSub, beq_self_eq_true, List.cons_append, List.nil_append, beq_dec, vmI, vc22_1, g7, vmU, du_lda]
      exact .inr ⟨r.a, hI.fail hlt (by rw [← hq.okE, hbad]; rfl), ⟨by omega, hlt⟩, rfl, hS7.frm⟩
    rw [hbad] at g7
    cases hok : ok
    case false =>
      simp (disch := omega) only [vm0, vm1, vm2, vm3, vm4, vm5, vm6, vm7, vmF, vmT, evo, wr, wrC, frame, Nat.reduceAdd, Nat.reduceMul, Nat.reduceSub, beq_self_eq_true, List.cons_append, List.nil_append, beq_dec, vmI, vc22_1, g7, vmU, du_lda]
      exact .inr ⟨r.a, hI.fail hlt (by rw [← hq.okE, hok, Bool.and_false]; rfl), ⟨by omega, hlt⟩, rfl, hS7.frm⟩
    obtain ⟨l1, l2, l3, l4⟩ := hq.sm hok
    have hur := u_rightE (bd := bd)  (fu := fu) (n + 2) s7 q u w (Sep.rdW hS7) (Sep.rdW (((hS7.re ((List.perm_middle (l₁ := [_])).trans (.cons _ (.refl _))))))) l1 l2
    dsimp only [EvV.cs] at hur
    simp (disch := omega) only [vm0, vm1, vm2, vm3, vm4, vm5, vm6, vm7, vmF, vmT, evo, wr, wrC, frame, Nat.reduceAdd, Nat.reduceMul, Nat.reduceSub, beq_self_eq_true, List.cons_append, List.nil_append, beq_dec, vmI, vc22_1, g7, g8]
    refine call_ok rfl rfl hur ?_
    rintro x s8 ⟨rfl, f8⟩
    have hS8 := hS7.fr f8
    have g9 := Sep.getC (((hS8.re ((List.perm_middle (l₁ := [_, _])).trans (.cons _ (.refl _))))))
    have hqe := hq.okE
    rw [hbad, hok] at hqe
    cases hrt : q.right
    · simp (disch := omega) only [vm0, vm1, vm2, vm3, vm4, vm5, vm6, vm7, vmF, vmT, evo, wr, wrC, frame, Nat.reduceAdd, Nat.reduceMul, Nat.reduceSub, beq_self_eq_true, List.cons_append, List.nil_append, beq_dec, vmI]
      exact .inr ⟨r.a, hI.fail hlt (by rw [← hqe, hrt]; rfl), ⟨by omega, hlt⟩, rfl, hS8.frm⟩
    · have hevok : r.evOk = true := by rw [← hqe, hrt]; rfl
      obtain ⟨rfl, rfl⟩ := hq.eq hevok
      obtain ⟨j1, j2⟩ := hI.step hlt hevok u w
      have j3 := j1.ok.a.2
      rw [j1.eB] at j3
      have j4 := hI.len
      have j5 := hI.a
      have hS9 := hS8.newC [num r.ev.1.k, num r.ev.1.n, u, num r.ev.1.p.k, num r.ev.1.p.pt, num r.ev.1.p.nr, num r.ev.1.p.of_, num r.ev.1.p.fr, w, .bool r.ev.1.p.fin, num r.ev.1.p.se, num r.ev.1.p.li]
      obtain ⟨fo, ho, up⟩ := Sep.hd (((hS9.re ((List.perm_middle (l₁ := [_, _, _, _, _])).trans (.cons _ (.refl _))))))
      simp (disch := omega) only [vm0, vm1, vm2, vm3, vm4, vm5, vm6, vm7, vmF, vmT, evo, wr, wrC, frame, Nat.reduceAdd, Nat.reduceMul, Nat.reduceSub, beq_self_eq_true, List.cons_append, List.nil_append, beq_dec, vmI, g9]
      refine op_app1 (show OwE _ vo 12 EvR.enc m fo from ho) .refl (x := ⟨r.ev.1, u, w⟩) rfl (by omega) ?_
      intro v3 s10 f4 r7 r8 r9
      have hS10 := up (oW v3 12 EvR.enc (m ++ [(⟨r.ev.1, u, w⟩ : EvR)])) r7 r8 r9
      have hS11 := Sep.held (((hS10.re ((List.perm_middle (l₁ := [_])).trans (.cons _ ((List.perm_middle (l₁ := [_, _, _])).trans (.cons _ ((List.perm_middle (l₁ := [_])).trans (.cons _ ((List.perm_middle (l₁ := [_])).trans (.cons _ ((List.perm_middle (l₁ := [_, _])).trans (.cons _ (.refl _)))))))))))).drop.drop))
      simp (disch := omega) only [vm0, vm1, vm2, vm3, vm4, vm5, vm6, vm7, vmF, vmT, evo, wr, wrC, frame, Nat.reduceAdd, Nat.reduceMul, Nat.reduceSub, beq_self_eq_true, List.cons_append, List.nil_append, beq_dec, vmI]
      exact ⟨((B.length : Int) - r.ev.2.a).toNat, by omega, i + 1, r.ev.2, _, _, _, _, _, _, _, _, _, _, _, rfl, rfl, j1, ((hS11.re ((List.perm_middle (l₁ := [_])).trans (.cons _ (.refl _)))))⟩
end
end Go.Proofs.Ytgckbcljlkkceaa.ctr
