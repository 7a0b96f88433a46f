/- PathPlays, walked. -/
import Derived.Test.YtgckbcljlkkceaaCtPb
import Derived.WalkKit
import Derived.ProofKit
namespace Go.Proofs.Ytgckbcljlkkceaa.ctr
open Go Go.Vm Go.RowKit
set_option linter.unusedVariables false
set_option linter.constructorNameAsVariable false
set_option linter.unusedSimpArgs false
noncomputable def yp0 : VC := (.seq (.seq (.drw [.i (.mv (.w 3)), .i (.call (.c (.fn 27 [] [])) [(.t 0)]), .i (.mv (.w 2)), .i (.nilc (.t 0)), .i (.fa 0 (.t 0)), .i (.ld (.t 0)), .i (.eq false .b (.t 4) (.t 0))] [(18, (.t 0))] [⟨0, 0, 0⟩, ⟨0, 0, 1⟩, ⟨0, 0, 0⟩, ⟨0, 0, 4⟩, ⟨0, 0, 12⟩, ⟨0, 1, 28⟩, ⟨0, 0, 63⟩] 0) (.cond (.w 18) (.seq (.reg [] [(35, (.c (.bool false)))]) .ret) .skip)) (.reg [.i (.nilc (.w 2)), .i (.fa 0 (.t 0)), .i (.st 1 (.t 0) (.c (.bool true)))] []))
noncomputable def yp1 : VC := (.seq (.seq (.reg [.i (.fa 1 (.w 6)), .i (.ld (.t 0)), .i (.bin .rem (.t 0) (.c (.int .i64 (.c 4)))), .i (.bin .neq (.t 0) (.c (.int .i64 (.c 0))))] [(20, (.t 0))]) (.cond (.w 20) (.exit 1) .skip)) (.seq (.reg [] [(22, (.c (.nils)))]) (.seq (.seq (.reg [.i (.nilc (.w 2)), .i (.fa 0 (.t 0)), .i (.ld (.t 0))] [(21, (.t 0))]) (.cond (.w 21) (.reg [.i (.nilc (.w 2)), .i (.fa 6 (.t 0)), .i (.call (.c (.fn 28 [] [])) [(.t 0)])] [(22, (.t 0))]) .skip)) (.seq (.seq (.reg [.i (.call (.c (.fn 30 [] [])) [(.w 3)]), .i (.call (.c (.fn 29 [] [])) [(.t 0), (.w 22)]), .i (.un .not (.t 0))] [(23, (.t 0))]) (.cond (.w 23) (.seq (.reg [] [(35, (.c (.bool false)))]) .ret) .skip)) (.reg [.i (.nilc (.w 2)), .i (.fa 0 (.t 0)), .i (.st 1 (.t 0) (.c (.bool false)))] [])))))
noncomputable def yp2 : VC := (.seq (.seq (.drw [.i (.mv (.w 3)), .i (.call (.c (.fn 31 [] [])) [(.t 0)]), .i (.mv (.w 2)), .i (.nilc (.t 0)), .i (.fa 1 (.t 0)), .i (.ld (.t 0)), .i (.eq false .b (.t 4) (.t 0))] [(25, (.t 0))] [⟨0, 0, 0⟩, ⟨0, 0, 1⟩, ⟨0, 0, 0⟩, ⟨0, 0, 4⟩, ⟨0, 0, 12⟩, ⟨0, 1, 28⟩, ⟨0, 0, 63⟩] 0) (.cond (.w 25) (.seq (.reg [] [(35, (.c (.bool false)))]) .ret) .skip)) (.reg [.i (.nilc (.w 2)), .i (.fa 1 (.t 0)), .i (.st 1 (.t 0) (.c (.bool true)))] []))
noncomputable def yp3 : VC := (.seq (.seq (.reg [.i (.nilc (.w 2)), .i (.fa 0 (.t 0)), .i (.ld (.t 0)), .i (.un .not (.t 0))] [(26, (.t 0))]) (.cond (.w 26) (.exit 1) .skip)) (.seq (.reg [.i (.call (.c (.fn 32 [] [])) [(.w 3)]), .i (.ext 0 (.t 0)), .i (.ext 1 (.t 1))] [(11, (.t 1)), (28, (.t 0))]) (.seq (.reg [.i (.call (.c (.fn 33 [] [])) [(.w 2)]), .i (.ext 0 (.t 0)), .i (.ext 1 (.t 1))] [(27, (.t 1)), (29, (.t 0))]) (.seq (.seq (.reg [.i (.bin .neq (.w 11) (.w 27)), .g (.t 0) false (.mv (.w 28)), .g (.t 1) false (.mv (.w 29)), .g (.t 2) false (.eq true .b (.t 1) (.t 0)), .i (.pick (.t 3) (.c (.bool true)) (.t 0))] [(30, (.t 0))]) (.cond (.w 30) (.seq (.reg [] [(35, (.c (.bool false)))]) .ret) .skip)) (.seq (.reg [.i (.fa 1 (.w 6)), .i (.ld (.t 0)), .i (.bin .rem (.t 0) (.c (.int .i64 (.c 50)))), .i (.fa 1 (.w 6)), .i (.ld (.t 0)), .i (.bin .rem (.t 0) (.c (.int .i64 (.c 50)))), .i (.bin .add (.t 0) (.c (.int .i64 (.c 5)))), .i (.build [.int .i64 (.c 0), .int .i64 (.c 0), .int .i64 (.c 0), .int .i64 (.c 0)] [(0, 1, (.w 11)), (1, 1, (.t 4)), (2, 1, (.t 0)), (3, 1, (.w 5))]), .i (.new [.int .i64 (.c 0), .int .i64 (.c 0), .int .i64 (.c 0), .int .i64 (.c 0)]), .i (.st 4 (.t 0) (.t 1))] [(12, (.t 1))]) (.seq (.drw [.i (.mv (.w 3)), .i (.lda 4 (.w 12)), .i (.call (.c (.fn 34 [] [])) [(.t 1), (.t 0)]), .i (.mv (.w 2)), .i (.nilc (.t 0)), .i (.fa 6 (.t 0)), .i (.lda 4 (.w 12)), .i (.call (.c (.fn 35 [] [])) [(.t 1), (.t 0)]), .i (.eq true .b (.t 5) (.t 0))] [(31, (.t 0))] [⟨0, 0, 0⟩, ⟨0, 0, 0⟩, ⟨0, 0, 3⟩, ⟨0, 0, 0⟩, ⟨0, 0, 8⟩, ⟨0, 0, 24⟩, ⟨0, 1, 0⟩, ⟨0, 0, 127⟩, ⟨0, 0, 255⟩] 0) (.cond (.w 31) (.seq (.reg [] [(35, (.c (.bool false)))]) .ret) .skip)))))))
noncomputable def yp4 : VC := (.seq (.drw [.i (.fa 1 (.w 6)), .i (.ld (.t 0)), .i (.mv (.w 2)), .i (.nilc (.t 0)), .i (.fa 3 (.t 0)), .i (.ld (.t 0)), .i (.bin .add (.t 0) (.c (.int .i64 (.c 2)))), .i (.call (.c (.fn 19 [] [])) [(.t 5), (.t 0)]), .i (.mv (.t 0))] [(13, (.t 0))] [⟨0, 0, 0⟩, ⟨0, 0, 1⟩, ⟨0, 0, 0⟩, ⟨0, 0, 4⟩, ⟨0, 0, 12⟩, ⟨0, 0, 28⟩, ⟨0, 0, 60⟩, ⟨0, 0, 127⟩, ⟨0, 0, 255⟩] 0) (.seq (.reg [.i (.call (.c (.fn 36 [] [])) [(.w 3), (.w 13), (.w 5)]), .i (.call (.c (.fn 37 [] [])) [(.w 2), (.w 13), (.w 5)]), .i (.eq true .b (.t 1) (.t 0))] [(32, (.t 0))]) (.cond (.w 32) (.seq (.reg [] [(35, (.c (.bool false)))]) .ret) .skip)))
noncomputable def yp5 : VC := (.seq (.reg [.i (.call (.c (.fn 38 [] [])) [(.w 3), (.w 5)]), .i (.call (.c (.fn 39 [] [])) [(.w 2), (.w 5)]), .i (.call (.c (.fn 29 [] [])) [(.t 1), (.t 0)]), .i (.un .not (.t 0))] [(33, (.t 0))]) (.cond (.w 33) (.seq (.reg [] [(35, (.c (.bool false)))]) .ret) .skip))
theorem vc6_0_eq : vc6_0 = (.seq (.reg [.i (.bin .eql (.w 4) (.c (.int .i64 (.c 0))))] [(17, (.t 0))]) (.cond (.w 17) yp0 (.seq (.reg [.i (.bin .eql (.w 4) (.c (.int .i64 (.c 1))))] [(19, (.t 0))]) (.cond (.w 19) yp1 (.seq (.reg [.i (.bin .eql (.w 4) (.c (.int .i64 (.c 2))))] [(24, (.t 0))]) (.cond (.w 24) yp2 (.seq (.seq (.reg [.i (.bin .eql (.w 4) (.c (.int .i64 (.c 3))))] [(7, (.t 0))]) (.cond (.w 7) .skip (.seq (.reg [.i (.bin .eql (.w 4) (.c (.int .i64 (.c 4))))] [(7, (.t 0))]) (.cond (.w 7) .skip (.seq (.reg [.i (.bin .eql (.w 4) (.c (.int .i64 (.c 5))))] [(7, (.t 0))]) (.cond (.w 7) .skip (.seq (.reg [.i (.bin .eql (.w 4) (.c (.int .i64 (.c 6))))] [(7, (.t 0))]) (.cond (.w 7) .skip (.seq (.reg [.i (.bin .eql (.w 4) (.c (.int .i64 (.c 7))))] [(7, (.t 0))]) (.cond (.w 7) .skip (.reg [.i (.bin .eql (.w 4) (.c (.int .i64 (.c 8))))] [(7, (.t 0))]))))))))))) (.cond (.w 7) yp3 (.seq (.seq (.reg [.i (.bin .eql (.w 4) (.c (.int .i64 (.c 9))))] [(9, (.t 0))]) (.cond (.w 9) .skip (.seq (.reg [.i (.bin .eql (.w 4) (.c (.int .i64 (.c 10))))] [(9, (.t 0))]) (.cond (.w 9) .skip (.seq (.reg [.i (.bin .eql (.w 4) (.c (.int .i64 (.c 11))))] [(9, (.t 0))]) (.cond (.w 9) .skip (.reg [.i (.bin .eql (.w 4) (.c (.int .i64 (.c 12))))] [(9, (.t 0))]))))))) (.cond (.w 9) yp4 yp5)))))))))) := rfl
structure PT.POk (t : PT) (i : Nat) : Prop where
  g : t.G.Ok
  w : t.W.Ok
  s : 0 ≤ t.sent ∧ t.sent ≤ i
  f : t.F.length ≤ i
  a : ∀ o ∈ t.F, 0 ≤ o.2.2.2 ∧ o.2.2.2 ≤ 1000
def PT.objs (t : PT) (p g w f r g2 w2 : Nat) : List Obj := [oC p (t.pc g w f), oC g t.G.cs, oC w t.W.cs, oF f t.F, oU r t.up t.jn t.bh t.sent g2 w2 t.F, oC g2 t.G.cs, oC w2 t.W.cs]
theorem PT.POk.mono {t : PT} {i : Nat} (h : t.POk i) : t.POk (i + 1) := ⟨h.g, h.w, ⟨h.s.1, by have := h.s.2; omega⟩, by have := h.f; omega, h.a⟩
theorem PT.POk.late {t : PT} {i : Nat} (h : t.POk i) (now : Int) : (t.late now).POk (i + 1) := by
  have hl := List.length_filter_le (fun o => !lateO now t.G.wait o) t.F
  have h3 := h.s
  have h4 := h.f
  unfold PT.late
  split
  · exact ⟨h.g, h.w, ⟨h3.1, by dsimp only; omega⟩, by dsimp only; omega, fun o ho => h.a o (List.mem_filter.1 ho).1⟩
  · exact ⟨h.g.late, h.w.loss, ⟨h3.1, by dsimp only; omega⟩, by dsimp only; omega, fun o ho => h.a o (List.mem_filter.1 ho).1⟩
theorem takeF_mem {k : Int} {l : List O} {o : O} (h : o ∈ takeF k l) : o ∈ l := by
  unfold takeF at h
  split at h
  · exact h
  · exact List.mem_of_mem_eraseIdx h
theorem takeF_len (k : Int) (l : List O) : (takeF k l).length ≤ l.length := by
  unfold takeF
  split
  · omega
  · exact List.length_eraseIdx_le ..
theorem PT.POk.acked {t : PT} {i : Nat} (h : t.POk i) (k now : Int) : (t.acked k now).POk (i + 1) := by
  have h3 := h.s
  have h4 := h.f
  have h5 := takeF_len k t.F
  unfold PT.acked
  split
  · exact h.mono
  · exact ⟨h.g.sample _, h.w.ack, ⟨h3.1, by dsimp only; omega⟩, by dsimp only; omega, fun o ho => h.a o (takeF_mem ho)⟩
theorem PT.POk.add {t : PT} {i : Nat} (h : t.POk i) (o : O) (ho : 0 ≤ o.2.2.2 ∧ o.2.2.2 ≤ 1000) : PT.POk { t with sent := t.sent + 1, F := addF o t.F } (i + 1) := by
  have h3 := h.s
  have h4 := h.f
  refine ⟨h.g, h.w, ⟨by dsimp only; omega, by dsimp only; omega⟩, ?_, ?_⟩
  · show (addF o t.F).length ≤ _
    unfold addF
    split
    · rw [List.length_append, List.length_singleton]; omega
    · omega
  · show ∀ x ∈ addF o t.F, _
    unfold addF
    split
    · intro x hx
      rcases List.mem_append.1 hx with hx | hx
      · exact h.a x hx
      · simp at hx; subst hx; exact ho
    · exact h.a
theorem bq1 : (true == false) = false := rfl
theorem bq2 : (false == true) = false := rfl
section
variable {bd : Bd} {fu : Nat}
def PPost (s0 : St) (sv v : AV) (p g w f r g2 w2 a c b : Nat) (now : Int) (i : Nat) (d : Int) (e : Ex) (F : LF) (s : St) : Prop :=
  (e = .normal ∨ e = .exit 1) ∧ ∃ t : PT, t.POk (i + 1) ∧ Sep s0 s (t.objs p g w f r g2 w2) ∧ ∃ z7 z9 z11 z12 z13 z15 z16 z17 z18 z19 z20 z21 z22 z23 z24 z25 z26 z27 z28 z29 z30 z31 z32 z33 z34, F = [some sv, some v, some (.ptr r 0), some (.ptr p 0), some (num d), some (num now), some (.ptr a 0), z7, some (num (i : Int)), z9, some (.ptr c 0), z11, z12, z13, some (.ptr b 0), z15, z16, z17, z18, z19, z20, z21, z22, z23, z24, z25, z26, z27, z28, z29, z30, z31, z32, z33, z34, some (.bool false)]
theorem pp0 (n : Nat) {s0 : St} (s : St) (t : PT) (i : Nat) (sv v : AV) (p g w f r g2 w2 a c b : Nat) (d now d0 N M : Int) (z7 z9 z11 z12 z13 z15 z16 z17 z18 z19 z20 z21 z22 z23 z24 z25 z26 z27 z28 z29 z30 z31 z32 z33 z34 : Option AV) (hk : t.POk i) (hi : i < 50) (hnow : 0 ≤ now ∧ now ≤ 1000) (hN : In64 N) (hS : Sep s0 s (oC a [num d0, num N, num M] :: t.objs p g w f r g2 w2)) (hfu : 4000 < fu) :
    RsOk (exec bd (callF bd tab.get fu (n + 6)) fu yp0 [some sv, some v, some (.ptr r 0), some (.ptr p 0), some (num d), some (num now), some (.ptr a 0), z7, some (num (i : Int)), z9, some (.ptr c 0), z11, z12, z13, some (.ptr b 0), z15, z16, z17, z18, z19, z20, z21, z22, z23, z24, z25, z26, z27, z28, z29, z30, z31, z32, z33, z34, some (.bool false)] s) (PPost s0 sv v p g w f r g2 w2 a c b now i d) := by
  obtain ⟨up, jn, bh, sn, G, W, F⟩ := t
  have hk2 := hk.mono
  obtain ⟨k1, k2, k3, k4, k5⟩ := hk
  unfold PT.objs at hS
  dsimp only at *
  obtain ⟨_, gu, _⟩ := Sep.getU (((hS.re ((List.perm_middle (l₁ := [_, _, _, _, _])).trans (.cons _ (.refl _))))))
  simp (disch := omega) only [vm0, vm1, vm2, vm3, vm4, vm5, vm6, vm7, fPick, fBox, fBuild, fBsl, fLd, fLda, fSt, fNilc, fBin, fEq, fUn, fMkf, fFa, fFld, fFlda, fExt, evo, wr, wrC, frame, Bool.not_true, Bool.not_false, beq_self_eq_true, List.cons_append, List.nil_append, Nat.add_zero, Nat.zero_add, Nat.reduceAdd, Nat.reduceMul, Nat.reduceSub, Bool.and_true, Bool.true_and, Bool.and_self, beq_dec, fApp, Int.toNat_natCast, Nat.sub_zero, vmI, yp0]
  refine call_ok rfl rfl (p_up (n + 5) s p g w f ⟨up, jn, bh, sn, G, W, F⟩ _ (((hS.re (.refl _)).drop))) ?_
  rintro y s2 ⟨rfl, hS2⟩
  have hS3 := ((hS2.re ((List.perm_middle (l₁ := [_, _, _, _])).trans (.cons _ (.refl _)))))
  obtain ⟨_, g2', _⟩ := hS3.getU
  have hS4 := hS3.setU g2' true jn bh sn
  have hS5 := ((hS4.re ((List.perm_middle (l₁ := [_])).trans (.cons _ ((List.perm_middle (l₁ := [_])).trans (.cons _ ((List.perm_middle (l₁ := [_])).trans (.cons _ ((List.perm_middle (l₁ := [_])).trans (.cons _ (.refl _)))))))))))
  cases up
  all_goals
    simp (disch := omega) only [vm0, vm1, vm2, vm3, vm4, vm5, vm6, vm7, fPick, fBox, fBuild, fBsl, fLd, fLda, fSt, fNilc, fBin, fEq, fUn, fMkf, fFa, fFld, fFlda, fExt, evo, wr, wrC, frame, Bool.not_true, Bool.not_false, beq_self_eq_true, List.cons_append, List.nil_append, Nat.add_zero, Nat.zero_add, Nat.reduceAdd, Nat.reduceMul, Nat.reduceSub, Bool.and_true, Bool.true_and, Bool.and_self, beq_dec, fApp, Int.toNat_natCast, Nat.sub_zero, vmI, gu, g2', bq1, bq2]
    exact ⟨.inl rfl, ⟨true, jn, bh, sn, G, W, F⟩, ⟨k1, k2, hk2.s, hk2.f, k5⟩, hS5, _, _, _, _, _, _, _, _, _, _, _, _, _, _, _, _, _, _, _, _, _, _, _, _, _, rfl⟩
theorem pp2 (n : Nat) {s0 : St} (s : St) (t : PT) (i : Nat) (sv v : AV) (p g w f r g2 w2 a c b : Nat) (d now d0 N M : Int) (z7 z9 z11 z12 z13 z15 z16 z17 z18 z19 z20 z21 z22 z23 z24 z25 z26 z27 z28 z29 z30 z31 z32 z33 z34 : Option AV) (hk : t.POk i) (hi : i < 50) (hnow : 0 ≤ now ∧ now ≤ 1000) (hN : In64 N) (hS : Sep s0 s (oC a [num d0, num N, num M] :: t.objs p g w f r g2 w2)) (hfu : 4000 < fu) :
    RsOk (exec bd (callF bd tab.get fu (n + 6)) fu yp2 [some sv, some v, some (.ptr r 0), some (.ptr p 0), some (num d), some (num now), some (.ptr a 0), z7, some (num (i : Int)), z9, some (.ptr c 0), z11, z12, z13, some (.ptr b 0), z15, z16, z17, z18, z19, z20, z21, z22, z23, z24, z25, z26, z27, z28, z29, z30, z31, z32, z33, z34, some (.bool false)] s) (PPost s0 sv v p g w f r g2 w2 a c b now i d) := by
  obtain ⟨up, jn, bh, sn, G, W, F⟩ := t
  have hk2 := hk.mono
  obtain ⟨k1, k2, k3, k4, k5⟩ := hk
  unfold PT.objs at hS
  dsimp only at *
  obtain ⟨_, gu, _⟩ := Sep.getU (((hS.re ((List.perm_middle (l₁ := [_, _, _, _, _])).trans (.cons _ (.refl _))))))
  simp (disch := omega) only [vm0, vm1, vm2, vm3, vm4, vm5, vm6, vm7, fPick, fBox, fBuild, fBsl, fLd, fLda, fSt, fNilc, fBin, fEq, fUn, fMkf, fFa, fFld, fFlda, fExt, evo, wr, wrC, frame, Bool.not_true, Bool.not_false, beq_self_eq_true, List.cons_append, List.nil_append, Nat.add_zero, Nat.zero_add, Nat.reduceAdd, Nat.reduceMul, Nat.reduceSub, Bool.and_true, Bool.true_and, Bool.and_self, beq_dec, fApp, Int.toNat_natCast, Nat.sub_zero, vmI, yp2]
  refine call_ok rfl rfl (p_join (n + 5) s p g w f ⟨up, jn, bh, sn, G, W, F⟩ _ (((hS.re (.refl _)).drop))) ?_
  rintro y s2 ⟨rfl, hS2⟩
  have hS3 := ((hS2.re ((List.perm_middle (l₁ := [_, _, _, _])).trans (.cons _ (.refl _)))))
  obtain ⟨_, g2', _⟩ := hS3.getU
  have hS4 := hS3.setU g2' up true bh sn
  have hS5 := ((hS4.re ((List.perm_middle (l₁ := [_])).trans (.cons _ ((List.perm_middle (l₁ := [_])).trans (.cons _ ((List.perm_middle (l₁ := [_])).trans (.cons _ ((List.perm_middle (l₁ := [_])).trans (.cons _ (.refl _)))))))))))
  cases jn
  all_goals
    simp (disch := omega) only [vm0, vm1, vm2, vm3, vm4, vm5, vm6, vm7, fPick, fBox, fBuild, fBsl, fLd, fLda, fSt, fNilc, fBin, fEq, fUn, fMkf, fFa, fFld, fFlda, fExt, evo, wr, wrC, frame, Bool.not_true, Bool.not_false, beq_self_eq_true, List.cons_append, List.nil_append, Nat.add_zero, Nat.zero_add, Nat.reduceAdd, Nat.reduceMul, Nat.reduceSub, Bool.and_true, Bool.true_and, Bool.and_self, beq_dec, fApp, Int.toNat_natCast, Nat.sub_zero, vmI, gu, g2', bq1, bq2]
    exact ⟨.inl rfl, ⟨up, true, bh, sn, G, W, F⟩, ⟨k1, k2, hk2.s, hk2.f, k5⟩, hS5, _, _, _, _, _, _, _, _, _, _, _, _, _, _, _, _, _, _, _, _, _, _, _, _, _, rfl⟩
theorem pp1 (n : Nat) {s0 : St} (s : St) (t : PT) (i : Nat) (sv v : AV) (p g w f r g2 w2 a c b : Nat) (d now d0 N M : Int) (z7 z9 z11 z12 z13 z15 z16 z17 z18 z19 z20 z21 z22 z23 z24 z25 z26 z27 z28 z29 z30 z31 z32 z33 z34 : Option AV) (hk : t.POk i) (hi : i < 50) (hnow : 0 ≤ now ∧ now ≤ 1000) (hN : In64 N) (hS : Sep s0 s (oC a [num d0, num N, num M] :: t.objs p g w f r g2 w2)) (hfu : 4000 < fu) :
    RsOk (exec bd (callF bd tab.get fu (n + 6)) fu yp1 [some sv, some v, some (.ptr r 0), some (.ptr p 0), some (num d), some (num now), some (.ptr a 0), z7, some (num (i : Int)), z9, some (.ptr c 0), z11, z12, z13, some (.ptr b 0), z15, z16, z17, z18, z19, z20, z21, z22, z23, z24, z25, z26, z27, z28, z29, z30, z31, z32, z33, z34, some (.bool false)] s) (PPost s0 sv v p g w f r g2 w2 a c b now i d) := by
  obtain ⟨up, jn, bh, sn, G, W, F⟩ := t
  have hk2 := hk.mono
  obtain ⟨k1, k2, k3, k4, k5⟩ := hk
  unfold PT.objs at hS
  dsimp only at *
  have ga := hS.getC
  have h40 : (4 : Int) ≠ 0 := by decide
  obtain ⟨m, hm⟩ : ∃ m, N.tmod 4 = m := ⟨_, rfl⟩
  by_cases hm0 : m = 0
  · subst hm0
    obtain ⟨_, gu, _⟩ := Sep.getU (((hS.re ((List.perm_middle (l₁ := [_, _, _, _, _])).trans (.cons _ (.refl _))))))
    cases up
    · simp (disch := omega) only [vm0, vm1, vm2, vm3, vm4, vm5, vm6, vm7, fPick, fBox, fBuild, fBsl, fLd, fLda, fSt, fNilc, fBin, fEq, fUn, fMkf, fFa, fFld, fFlda, fExt, evo, wr, wrC, frame, Bool.not_true, Bool.not_false, beq_self_eq_true, List.cons_append, List.nil_append, Nat.add_zero, Nat.zero_add, Nat.reduceAdd, Nat.reduceMul, Nat.reduceSub, Bool.and_true, Bool.true_and, Bool.and_self, beq_dec, fApp, Int.toNat_natCast, Nat.sub_zero, vmI, yp1, ga, gu, b_rem h40, hm]
      refine call_ok rfl rfl (p_down (n + 4) s p g w f ⟨false, jn, bh, sn, G, W, F⟩ _ (((hS.re (.cons _ (.cons _ ((List.perm_middle (l₁ := [_, _])).trans (.cons _ (.refl _)))))).drop))) ?_
      rintro x s2 hS2
      rw [if_neg (by simp), if_neg (by simp)] at hS2
      simp (disch := omega) only [vm0, vm1, vm2, vm3, vm4, vm5, vm6, vm7, fPick, fBox, fBuild, fBsl, fLd, fLda, fSt, fNilc, fBin, fEq, fUn, fMkf, fFa, fFld, fFlda, fExt, evo, wr, wrC, frame, Bool.not_true, Bool.not_false, beq_self_eq_true, List.cons_append, List.nil_append, Nat.add_zero, Nat.zero_add, Nat.reduceAdd, Nat.reduceMul, Nat.reduceSub, Bool.and_true, Bool.true_and, Bool.and_self, beq_dec, fApp, Int.toNat_natCast, Nat.sub_zero, vmI]
      refine call_ok rfl rfl (sameR (n + 5) s2 x .nils [] [] hS2.rdW (OwE.nil (by intro x; rfl) (by omega)).rd (by simp only [List.length_nil]; omega) (by simp only [List.length_nil]; omega)) ?_
      rintro y s3 ⟨rfl, rfl⟩
      have hS3 := ((hS2.re ((List.perm_middle (l₁ := [_, _, _, _, _])).trans (.cons _ (.refl _)))))
      obtain ⟨_, g3, _⟩ := hS3.getU
      have hS4 := hS3.setU g3 false jn bh sn
      have hS5 := ((hS4.re ((List.perm_middle (l₁ := [_])).trans (.cons _ ((List.perm_middle (l₁ := [_])).trans (.cons _ ((List.perm_middle (l₁ := [_, _])).trans (.cons _ ((List.perm_middle (l₁ := [_, _])).trans (.cons _ ((List.perm_middle (l₁ := [_])).trans (.cons _ (.refl _)))))))))))).drop)
      have hde : decide (([] : List O) = []) = true := by simp
      simp (disch := omega) only [vm0, vm1, vm2, vm3, vm4, vm5, vm6, vm7, fPick, fBox, fBuild, fBsl, fLd, fLda, fSt, fNilc, fBin, fEq, fUn, fMkf, fFa, fFld, fFlda, fExt, evo, wr, wrC, frame, Bool.not_true, Bool.not_false, beq_self_eq_true, List.cons_append, List.nil_append, Nat.add_zero, Nat.zero_add, Nat.reduceAdd, Nat.reduceMul, Nat.reduceSub, Bool.and_true, Bool.true_and, Bool.and_self, beq_dec, fApp, Int.toNat_natCast, Nat.sub_zero, vmI, g3, hde]
      exact ⟨.inl rfl, ⟨false, jn, bh, sn, G, W, F⟩, ⟨k1, k2, hk2.s, hk2.f, k5⟩, hS5, _, _, _, _, _, _, _, _, _, _, _, _, _, _, _, _, _, _, _, _, _, _, _, _, _, rfl⟩
    · simp (disch := omega) only [vm0, vm1, vm2, vm3, vm4, vm5, vm6, vm7, fPick, fBox, fBuild, fBsl, fLd, fLda, fSt, fNilc, fBin, fEq, fUn, fMkf, fFa, fFld, fFlda, fExt, evo, wr, wrC, frame, Bool.not_true, Bool.not_false, beq_self_eq_true, List.cons_append, List.nil_append, Nat.add_zero, Nat.zero_add, Nat.reduceAdd, Nat.reduceMul, Nat.reduceSub, Bool.and_true, Bool.true_and, Bool.and_self, beq_dec, fApp, Int.toNat_natCast, Nat.sub_zero, vmI, yp1, ga, gu, b_rem h40, hm]
      refine call_ok rfl rfl (d_udrop (n + 5) s r true jn bh sn g2 w2 F _ (((hS.re ((List.perm_middle (l₁ := [_, _, _, _, _])).trans (.cons _ (.refl _))))))) ?_
      rintro u s1 hS1
      simp (disch := omega) only [vm0, vm1, vm2, vm3, vm4, vm5, vm6, vm7, fPick, fBox, fBuild, fBsl, fLd, fLda, fSt, fNilc, fBin, fEq, fUn, fMkf, fFa, fFld, fFlda, fExt, evo, wr, wrC, frame, Bool.not_true, Bool.not_false, beq_self_eq_true, List.cons_append, List.nil_append, Nat.add_zero, Nat.zero_add, Nat.reduceAdd, Nat.reduceMul, Nat.reduceSub, Bool.and_true, Bool.true_and, Bool.and_self, beq_dec, fApp, Int.toNat_natCast, Nat.sub_zero, vmI]
      refine call_ok rfl rfl (p_down (n + 4) s1 p g w f ⟨true, jn, bh, sn, G, W, F⟩ _ (((hS1.re ((List.perm_middle (l₁ := [_, _, _])).trans (.cons _ ((List.perm_middle (l₁ := [_, _, _, _, _])).trans (.cons _ (.refl _))))))))) ?_
      rintro x s2 hS2
      rw [if_pos rfl, if_pos rfl] at hS2
      simp (disch := omega) only [vm0, vm1, vm2, vm3, vm4, vm5, vm6, vm7, fPick, fBox, fBuild, fBsl, fLd, fLda, fSt, fNilc, fBin, fEq, fUn, fMkf, fFa, fFld, fFlda, fExt, evo, wr, wrC, frame, Bool.not_true, Bool.not_false, beq_self_eq_true, List.cons_append, List.nil_append, Nat.add_zero, Nat.zero_add, Nat.reduceAdd, Nat.reduceMul, Nat.reduceSub, Bool.and_true, Bool.true_and, Bool.and_self, beq_dec, fApp, Int.toNat_natCast, Nat.sub_zero, vmI]
      refine call_ok rfl rfl (sameR (n + 5) s2 x u F F hS2.rdW (Sep.rdW (((hS2.re ((List.perm_middle (l₁ := [_, _, _])).trans (.cons _ (.refl _))))))) (by omega) (by omega)) ?_
      rintro y s3 ⟨rfl, rfl⟩
      have hS3 := ((hS2.re ((List.perm_middle (l₁ := [_, _, _, _])).trans (.cons _ (.refl _)))))
      obtain ⟨_, g3, _⟩ := hS3.getU
      have hS4 := hS3.setU g3 false jn bh sn
      have hS5 := ((hS4.re ((List.perm_middle (l₁ := [_])).trans (.cons _ ((List.perm_middle (l₁ := [_, _, _])).trans (.cons _ ((List.perm_middle (l₁ := [_, _, _])).trans (.cons _ ((List.perm_middle (l₁ := [_])).trans (.cons _ ((List.perm_middle (l₁ := [_, _])).trans (.cons _ ((List.perm_middle (l₁ := [_, _])).trans (.cons _ ((List.perm_middle (l₁ := [_])).trans (.cons _ (.refl _)))))))))))))))).drop.drop.drop)
      have hde : decide (F = F) = true := by simp
      simp (disch := omega) only [vm0, vm1, vm2, vm3, vm4, vm5, vm6, vm7, fPick, fBox, fBuild, fBsl, fLd, fLda, fSt, fNilc, fBin, fEq, fUn, fMkf, fFa, fFld, fFlda, fExt, evo, wr, wrC, frame, Bool.not_true, Bool.not_false, beq_self_eq_true, List.cons_append, List.nil_append, Nat.add_zero, Nat.zero_add, Nat.reduceAdd, Nat.reduceMul, Nat.reduceSub, Bool.and_true, Bool.true_and, Bool.and_self, beq_dec, fApp, Int.toNat_natCast, Nat.sub_zero, vmI, g3, hde]
      exact ⟨.inl rfl, ⟨false, jn, bh, sn, G, W, []⟩, ⟨k1, k2, hk2.s, by dsimp only [List.length_nil]; omega, by simp⟩, hS5, _, _, _, _, _, _, _, _, _, _, _, _, _, _, _, _, _, _, _, _, _, _, _, _, _, rfl⟩
  · simp (disch := omega) only [vm0, vm1, vm2, vm3, vm4, vm5, vm6, vm7, fPick, fBox, fBuild, fBsl, fLd, fLda, fSt, fNilc, fBin, fEq, fUn, fMkf, fFa, fFld, fFlda, fExt, evo, wr, wrC, frame, Bool.not_true, Bool.not_false, beq_self_eq_true, List.cons_append, List.nil_append, Nat.add_zero, Nat.zero_add, Nat.reduceAdd, Nat.reduceMul, Nat.reduceSub, Bool.and_true, Bool.true_and, Bool.and_self, beq_dec, fApp, Int.toNat_natCast, Nat.sub_zero, vmI, yp1, ga, b_rem h40, hm]
    exact ⟨.inr rfl, ⟨up, jn, bh, sn, G, W, F⟩, hk2, hS.drop, _, _, _, _, _, _, _, _, _, _, _, _, _, _, _, _, _, _, _, _, _, _, _, _, _, rfl⟩
theorem pp4 (n : Nat) {s0 : St} (s : St) (t : PT) (i : Nat) (sv v : AV) (p g w f r g2 w2 a c b : Nat) (d now d0 N M : Int) (z7 z9 z11 z12 z13 z15 z16 z17 z18 z19 z20 z21 z22 z23 z24 z25 z26 z27 z28 z29 z30 z31 z32 z33 z34 : Option AV) (hk : t.POk i) (hi : i < 50) (hnow : 0 ≤ now ∧ now ≤ 1000) (hN : In64 N) (hS : Sep s0 s (oC a [num d0, num N, num M] :: t.objs p g w f r g2 w2)) (hfu : 4000 < fu) :
    RsOk (exec bd (callF bd tab.get fu (n + 6)) fu yp4 [some sv, some v, some (.ptr r 0), some (.ptr p 0), some (num d), some (num now), some (.ptr a 0), z7, some (num (i : Int)), z9, some (.ptr c 0), z11, z12, z13, some (.ptr b 0), z15, z16, z17, z18, z19, z20, z21, z22, z23, z24, z25, z26, z27, z28, z29, z30, z31, z32, z33, z34, some (.bool false)] s) (PPost s0 sv v p g w f r g2 w2 a c b now i d) := by
  have hk2 := hk
  obtain ⟨k1, k2, k3, k4, k5⟩ := hk
  unfold PT.objs at hS
  have ga := hS.getC
  have hS0 := ((hS.re (.cons _ ((List.perm_middle (l₁ := [_, _, _, _])).trans (.cons _ ((List.perm_middle (l₁ := [_, _, _, _])).trans (.cons _ ((List.perm_middle (l₁ := [_, _, _, _])).trans (.cons _ (.refl _))))))))).drop)
  obtain ⟨_, gu, _⟩ := hS0.getU
  simp (disch := omega) only [vm0, vm1, vm2, vm3, vm4, vm5, vm6, vm7, fPick, fBox, fBuild, fBsl, fLd, fLda, fSt, fNilc, fBin, fEq, fUn, fMkf, fFa, fFld, fFlda, fExt, evo, wr, wrC, frame, Bool.not_true, Bool.not_false, beq_self_eq_true, List.cons_append, List.nil_append, Nat.add_zero, Nat.zero_add, Nat.reduceAdd, Nat.reduceMul, Nat.reduceSub, Bool.and_true, Bool.true_and, Bool.and_self, beq_dec, fApp, Int.toNat_natCast, Nat.sub_zero, vmI, yp4, ga, gu]
  refine call_ok rfl rfl (within (n + 5) s N (t.sent + 2) hN (by omega) (by omega)) ?_
  rintro y s1 ⟨rfl, rfl⟩
  generalize N % (t.sent + 2) = k
  simp (disch := omega) only [vm0, vm1, vm2, vm3, vm4, vm5, vm6, vm7, fPick, fBox, fBuild, fBsl, fLd, fLda, fSt, fNilc, fBin, fEq, fUn, fMkf, fFa, fFld, fFlda, fExt, evo, wr, wrC, frame, Bool.not_true, Bool.not_false, beq_self_eq_true, List.cons_append, List.nil_append, Nat.add_zero, Nat.zero_add, Nat.reduceAdd, Nat.reduceMul, Nat.reduceSub, Bool.and_true, Bool.true_and, Bool.and_self, beq_dec, fApp, Int.toNat_natCast, Nat.sub_zero, vmI, ga, gu]
  refine call_ok rfl rfl (p_acked (n + 1) s1 p g w f t k now _ (((hS0.re ((List.perm_middle (l₁ := [_, _, _])).trans (.cons _ ((List.perm_middle (l₁ := [_, _, _])).trans (.cons _ ((List.perm_middle (l₁ := [_, _, _])).trans (.cons _ ((List.perm_middle (l₁ := [_, _, _])).trans (.cons _ (.refl _)))))))))))) k1 k2 (by omega) (by omega) hnow k5) ?_
  rintro y s2 ⟨rfl, hS2⟩
  simp (disch := omega) only [vm0, vm1, vm2, vm3, vm4, vm5, vm6, vm7, fPick, fBox, fBuild, fBsl, fLd, fLda, fSt, fNilc, fBin, fEq, fUn, fMkf, fFa, fFld, fFlda, fExt, evo, wr, wrC, frame, Bool.not_true, Bool.not_false, beq_self_eq_true, List.cons_append, List.nil_append, Nat.add_zero, Nat.zero_add, Nat.reduceAdd, Nat.reduceMul, Nat.reduceSub, Bool.and_true, Bool.true_and, Bool.and_self, beq_dec, fApp, Int.toNat_natCast, Nat.sub_zero, vmI]
  refine call_ok rfl rfl (q_acked (n + 3) s2 r g2 w2 t k now _ (((hS2.re ((List.perm_middle (l₁ := [_, _, _, _])).trans (.cons _ ((List.perm_middle (l₁ := [_, _, _, _])).trans (.cons _ ((List.perm_middle (l₁ := [_, _, _, _])).trans (.cons _ (.refl _)))))))))) k1 k2 (by omega) (by omega) hnow k5) ?_
  rintro y s3 ⟨rfl, hS3⟩
  have hS4 := ((hS3.re ((List.perm_middle (l₁ := [_, _, _])).trans (.cons _ ((List.perm_middle (l₁ := [_, _, _])).trans (.cons _ ((List.perm_middle (l₁ := [_, _, _])).trans (.cons _ ((List.perm_middle (l₁ := [_, _, _])).trans (.cons _ (.refl _)))))))))))
  cases hd : decide (¬ fst k t.F 0 < 0)
  all_goals
    simp (disch := omega) only [vm0, vm1, vm2, vm3, vm4, vm5, vm6, vm7, fPick, fBox, fBuild, fBsl, fLd, fLda, fSt, fNilc, fBin, fEq, fUn, fMkf, fFa, fFld, fFlda, fExt, evo, wr, wrC, frame, Bool.not_true, Bool.not_false, beq_self_eq_true, List.cons_append, List.nil_append, Nat.add_zero, Nat.zero_add, Nat.reduceAdd, Nat.reduceMul, Nat.reduceSub, Bool.and_true, Bool.true_and, Bool.and_self, beq_dec, fApp, Int.toNat_natCast, Nat.sub_zero, vmI, bq1, bq2]
    exact ⟨.inl rfl, t.acked k now, hk2.acked k now, hS4, _, _, _, _, _, _, _, _, _, _, _, _, _, _, _, _, _, _, _, _, _, _, _, _, _, rfl⟩
theorem pp5 (n : Nat) {s0 : St} (s : St) (t : PT) (i : Nat) (sv v : AV) (p g w f r g2 w2 a c b : Nat) (d now d0 N M : Int) (z7 z9 z11 z12 z13 z15 z16 z17 z18 z19 z20 z21 z22 z23 z24 z25 z26 z27 z28 z29 z30 z31 z32 z33 z34 : Option AV) (hk : t.POk i) (hi : i < 50) (hnow : 0 ≤ now ∧ now ≤ 1000) (hN : In64 N) (hS : Sep s0 s (oC a [num d0, num N, num M] :: t.objs p g w f r g2 w2)) (hfu : 4000 < fu) :
    RsOk (exec bd (callF bd tab.get fu (n + 6)) fu yp5 [some sv, some v, some (.ptr r 0), some (.ptr p 0), some (num d), some (num now), some (.ptr a 0), z7, some (num (i : Int)), z9, some (.ptr c 0), z11, z12, z13, some (.ptr b 0), z15, z16, z17, z18, z19, z20, z21, z22, z23, z24, z25, z26, z27, z28, z29, z30, z31, z32, z33, z34, some (.bool false)] s) (PPost s0 sv v p g w f r g2 w2 a c b now i d) := by
  have hk2 := hk
  obtain ⟨k1, k2, k3, k4, k5⟩ := hk
  unfold PT.objs at hS
  have hll : (t.lates now).length ≤ t.F.length := List.length_filter_le _ _
  simp (disch := omega) only [vm0, vm1, vm2, vm3, vm4, vm5, vm6, vm7, fPick, fBox, fBuild, fBsl, fLd, fLda, fSt, fNilc, fBin, fEq, fUn, fMkf, fFa, fFld, fFlda, fExt, evo, wr, wrC, frame, Bool.not_true, Bool.not_false, beq_self_eq_true, List.cons_append, List.nil_append, Nat.add_zero, Nat.zero_add, Nat.reduceAdd, Nat.reduceMul, Nat.reduceSub, Bool.and_true, Bool.true_and, Bool.and_self, beq_dec, fApp, Int.toNat_natCast, Nat.sub_zero, vmI, yp5]
  refine call_ok rfl rfl (p_late (n + 3) s p g w f t now _ (((hS.re (.refl _)).drop)) k1 k2 (by omega) (by omega) hnow) ?_
  rintro x s2 hS2
  simp (disch := omega) only [vm0, vm1, vm2, vm3, vm4, vm5, vm6, vm7, fPick, fBox, fBuild, fBsl, fLd, fLda, fSt, fNilc, fBin, fEq, fUn, fMkf, fFa, fFld, fFlda, fExt, evo, wr, wrC, frame, Bool.not_true, Bool.not_false, beq_self_eq_true, List.cons_append, List.nil_append, Nat.add_zero, Nat.zero_add, Nat.reduceAdd, Nat.reduceMul, Nat.reduceSub, Bool.and_true, Bool.true_and, Bool.and_self, beq_dec, fApp, Int.toNat_natCast, Nat.sub_zero, vmI]
  refine call_ok rfl rfl (q_late (n + 3) s2 r g2 w2 t now _ (((hS2.re ((List.perm_middle (l₁ := [_, _, _, _, _])).trans (.cons _ ((List.perm_middle (l₁ := [_, _, _, _, _])).trans (.cons _ ((List.perm_middle (l₁ := [_, _, _, _, _])).trans (.cons _ (.refl _)))))))))) k1 k2 (by omega) (by omega) (by omega) hnow) ?_
  rintro u s3 hS3
  simp (disch := omega) only [vm0, vm1, vm2, vm3, vm4, vm5, vm6, vm7, fPick, fBox, fBuild, fBsl, fLd, fLda, fSt, fNilc, fBin, fEq, fUn, fMkf, fFa, fFld, fFlda, fExt, evo, wr, wrC, frame, Bool.not_true, Bool.not_false, beq_self_eq_true, List.cons_append, List.nil_append, Nat.add_zero, Nat.zero_add, Nat.reduceAdd, Nat.reduceMul, Nat.reduceSub, Bool.and_true, Bool.true_and, Bool.and_self, beq_dec, fApp, Int.toNat_natCast, Nat.sub_zero, vmI]
  refine call_ok rfl rfl (sameR (n + 5) s3 x u (t.lates now) (t.lates now) (Sep.rdW (((hS3.re ((List.perm_middle (l₁ := [_, _, _, _])).trans (.cons _ (.refl _))))))) hS3.rdW (by omega) (by omega)) ?_
  rintro y s4 ⟨rfl, rfl⟩
  have hS4 := ((hS3.re (.cons _ ((List.perm_middle (l₁ := [_, _, _])).trans (.cons _ ((List.perm_middle (l₁ := [_, _, _])).trans (.cons _ ((List.perm_middle (l₁ := [_, _, _])).trans (.cons _ ((List.perm_middle (l₁ := [_, _, _])).trans (.cons _ ((List.perm_middle (l₁ := [_, _, _])).trans (.cons _ (.refl _))))))))))))).drop.drop)
  have hde : decide (t.lates now = t.lates now) = true := by simp
  simp (disch := omega) only [vm0, vm1, vm2, vm3, vm4, vm5, vm6, vm7, fPick, fBox, fBuild, fBsl, fLd, fLda, fSt, fNilc, fBin, fEq, fUn, fMkf, fFa, fFld, fFlda, fExt, evo, wr, wrC, frame, Bool.not_true, Bool.not_false, beq_self_eq_true, List.cons_append, List.nil_append, Nat.add_zero, Nat.zero_add, Nat.reduceAdd, Nat.reduceMul, Nat.reduceSub, Bool.and_true, Bool.true_and, Bool.and_self, beq_dec, fApp, Int.toNat_natCast, Nat.sub_zero, vmI, hde]
  exact ⟨.inl rfl, t.late now, hk2.late now, hS4, _, _, _, _, _, _, _, _, _, _, _, _, _, _, _, _, _, _, _, _, _, _, _, _, _, rfl⟩
theorem pp3 (n : Nat) {s0 : St} (s : St) (t : PT) (i : Nat) (sv v : AV) (p g w f r g2 w2 a c b : Nat) (d now d0 N M : Int) (z7 z9 z11 z12 z13 z15 z16 z17 z18 z19 z20 z21 z22 z23 z24 z25 z26 z27 z28 z29 z30 z31 z32 z33 z34 : Option AV) (hk : t.POk i) (hi : i < 50) (hnow : 0 ≤ now ∧ now ≤ 1000) (hN : In64 N) (hS : Sep s0 s (oC a [num d0, num N, num M] :: t.objs p g w f r g2 w2)) (hfu : 4000 < fu) :
    RsOk (exec bd (callF bd tab.get fu (n + 6)) fu yp3 [some sv, some v, some (.ptr r 0), some (.ptr p 0), some (num d), some (num now), some (.ptr a 0), z7, some (num (i : Int)), z9, some (.ptr c 0), z11, z12, z13, some (.ptr b 0), z15, z16, z17, z18, z19, z20, z21, z22, z23, z24, z25, z26, z27, z28, z29, z30, z31, z32, z33, z34, some (.bool false)] s) (PPost s0 sv v p g w f r g2 w2 a c b now i d) := by
  obtain ⟨up, jn, bh, sn, G, W, F⟩ := t
  have hk2 := hk.mono
  have hka := fun q => hk.add (N.tmod 50, N.tmod 50, q, now)
  have hk0 := hk
  obtain ⟨k1, k2, k3, k4, k5⟩ := hk
  unfold PT.objs at hS
  dsimp only at *
  have ga := hS.getC
  have h50 : (50 : Int) ≠ 0 := by decide
  obtain ⟨m, hm⟩ : ∃ m, N.tmod 50 = m := ⟨_, rfl⟩
  have hb1 : m < 50 := by rw [← hm]; exact Int.tmod_lt_of_pos N (by decide)
  have hb2 : -50 < m := by
    have h1 := Int.tmod_lt_of_pos (-N) (b := 50) (by decide)
    rw [Int.neg_tmod, hm] at h1
    omega
  obtain ⟨_, gu, _⟩ := Sep.getU (((hS.re ((List.perm_middle (l₁ := [_, _, _, _, _])).trans (.cons _ (.refl _))))))
  cases up
  · simp (disch := omega) only [vm0, vm1, vm2, vm3, vm4, vm5, vm6, vm7, fPick, fBox, fBuild, fBsl, fLd, fLda, fSt, fNilc, fBin, fEq, fUn, fMkf, fFa, fFld, fFlda, fExt, evo, wr, wrC, frame, Bool.not_true, Bool.not_false, beq_self_eq_true, List.cons_append, List.nil_append, Nat.add_zero, Nat.zero_add, Nat.reduceAdd, Nat.reduceMul, Nat.reduceSub, Bool.and_true, Bool.true_and, Bool.and_self, beq_dec, fApp, Int.toNat_natCast, Nat.sub_zero, vmI, yp3, gu]
    exact ⟨.inr rfl, ⟨false, jn, bh, sn, G, W, F⟩, hk2, hS.drop, _, _, _, _, _, _, _, _, _, _, _, _, _, _, _, _, _, _, _, _, _, _, _, _, _, rfl⟩
  · simp (disch := omega) only [vm0, vm1, vm2, vm3, vm4, vm5, vm6, vm7, fPick, fBox, fBuild, fBsl, fLd, fLda, fSt, fNilc, fBin, fEq, fUn, fMkf, fFa, fFld, fFlda, fExt, evo, wr, wrC, frame, Bool.not_true, Bool.not_false, beq_self_eq_true, List.cons_append, List.nil_append, Nat.add_zero, Nat.zero_add, Nat.reduceAdd, Nat.reduceMul, Nat.reduceSub, Bool.and_true, Bool.true_and, Bool.and_self, beq_dec, fApp, Int.toNat_natCast, Nat.sub_zero, vmI, yp3, gu]
    refine call_ok rfl rfl (p_number (n + 4) s p g w f ⟨true, jn, bh, sn, G, W, F⟩ _ (((hS.re ((List.perm_middle (l₁ := [_])).trans (.cons _ (.refl _)))))) k3.1 (by dsimp only; omega)) ?_
    rintro y s1 ⟨rfl, hS1⟩
    simp (disch := omega) only [vm0, vm1, vm2, vm3, vm4, vm5, vm6, vm7, fPick, fBox, fBuild, fBsl, fLd, fLda, fSt, fNilc, fBin, fEq, fUn, fMkf, fFa, fFld, fFlda, fExt, evo, wr, wrC, frame, Bool.not_true, Bool.not_false, beq_self_eq_true, List.cons_append, List.nil_append, Nat.add_zero, Nat.zero_add, Nat.reduceAdd, Nat.reduceMul, Nat.reduceSub, Bool.and_true, Bool.true_and, Bool.and_self, beq_dec, fApp, Int.toNat_natCast, Nat.sub_zero, vmI]
    refine call_ok rfl rfl (u_number (n + 5) s1 r true jn bh sn g2 w2 F _ (((hS1.re ((List.perm_middle (l₁ := [_, _, _, _, _])).trans (.cons _ (.refl _)))))) k3.1 (by omega)) ?_
    rintro y s2 ⟨rfl, hS2⟩
    have ga2 := (((hS2.re ((List.perm_middle (l₁ := [_, _])).trans (.cons _ (.refl _)))))).getC
    simp (disch := omega) only [vm0, vm1, vm2, vm3, vm4, vm5, vm6, vm7, fPick, fBox, fBuild, fBsl, fLd, fLda, fSt, fNilc, fBin, fEq, fUn, fMkf, fFa, fFld, fFlda, fExt, evo, wr, wrC, frame, Bool.not_true, Bool.not_false, beq_self_eq_true, List.cons_append, List.nil_append, Nat.add_zero, Nat.zero_add, Nat.reduceAdd, Nat.reduceMul, Nat.reduceSub, Bool.and_true, Bool.true_and, Bool.and_self, beq_dec, fApp, Int.toNat_natCast, Nat.sub_zero, vmI, ga2, b_rem h50, hm, bq1, bq2]
    have hS3 := hS2.cell [num 0, num 0, num 0, num 0] [num sn, num m, num (m + 5), num now]
    generalize (s2.new (.cells [num 0, num 0, num 0, num 0] .own)).put s2.next (some (.cells [num sn, num m, num (m + 5), num now] .own)) = s3 at *
    have g3 := hS3.getC
    refine call_ok rfl rfl (p_out (n + 1) s3 p g w f ⟨true, jn, bh, sn + 1, G, W, F⟩ (sn, m, m + 5, now) _ (((hS3.re ((List.perm_middle (l₁ := [_, _])).trans (.cons _ ((List.perm_middle (l₁ := [_, _, _, _, _])).trans (.cons _ (.refl _)))))))) (by dsimp only; omega) (by dsimp only; omega)) ?_
    rintro y s4 ⟨rfl, hS4⟩
    have g4 := (((hS4.re ((List.perm_middle (l₁ := [_, _])).trans (.cons _ (.refl _)))))).getC
    simp (disch := omega) only [vm0, vm1, vm2, vm3, vm4, vm5, vm6, vm7, fPick, fBox, fBuild, fBsl, fLd, fLda, fSt, fNilc, fBin, fEq, fUn, fMkf, fFa, fFld, fFlda, fExt, evo, wr, wrC, frame, Bool.not_true, Bool.not_false, beq_self_eq_true, List.cons_append, List.nil_append, Nat.add_zero, Nat.zero_add, Nat.reduceAdd, Nat.reduceMul, Nat.reduceSub, Bool.and_true, Bool.true_and, Bool.and_self, beq_dec, fApp, Int.toNat_natCast, Nat.sub_zero, vmI, g3, g4]
    refine call_ok rfl rfl (d_uadd (n + 5) s4 r true jn bh (sn + 1) g2 w2 F (sn, m, m + 5, now) _ (((hS4.re ((List.perm_middle (l₁ := [_, _, _])).trans (.cons _ (.refl _)))))) (by omega) (by omega)) ?_
    rintro y s5 ⟨rfl, hS5⟩
    have g5 := (((hS5.re ((List.perm_middle (l₁ := [_, _, _])).trans (.cons _ (.refl _)))))).getC
    have hS6 := ((hS5.re ((List.perm_middle (l₁ := [_, _, _])).trans (.cons _ ((List.perm_middle (l₁ := [_, _, _])).trans (.cons _ ((List.perm_middle (l₁ := [_])).trans (.cons _ ((List.perm_middle (l₁ := [_, _])).trans (.cons _ ((List.perm_middle (l₁ := [_, _])).trans (.cons _ ((List.perm_middle (l₁ := [_])).trans (.cons _ (.refl _)))))))))))))).drop.drop)
    cases hd : decide (fst sn F 0 < 0)
    all_goals
      simp (disch := omega) only [vm0, vm1, vm2, vm3, vm4, vm5, vm6, vm7, fPick, fBox, fBuild, fBsl, fLd, fLda, fSt, fNilc, fBin, fEq, fUn, fMkf, fFa, fFld, fFlda, fExt, evo, wr, wrC, frame, Bool.not_true, Bool.not_false, beq_self_eq_true, List.cons_append, List.nil_append, Nat.add_zero, Nat.zero_add, Nat.reduceAdd, Nat.reduceMul, Nat.reduceSub, Bool.and_true, Bool.true_and, Bool.and_self, beq_dec, fApp, Int.toNat_natCast, Nat.sub_zero, vmI, g3, g4, g5, bq1, bq2, hd]
      exact ⟨.inl rfl, ⟨true, jn, bh, sn + 1, G, W, addF (sn, m, m + 5, now) F⟩, hk0.add (sn, m, m + 5, now) hnow, hS6, _, _, _, _, _, _, _, _, _, _, _, _, _, _, _, _, _, _, _, _, _, _, _, _, _, rfl⟩
end
end Go.Proofs.Ytgckbcljlkkceaa.ctr
namespace Go.Proofs.Ytgckbcljlkkceaa.ctr
open Go Go.Vm Go.RowKit
set_option linter.unusedVariables false
set_option linter.constructorNameAsVariable false
set_option linter.unusedSimpArgs false
section
variable {bd : Bd} {fu : Nat}
theorem pp_switch (n : Nat) {s0 : St} (s : St) (t : PT) (i : Nat) (sv v : AV) (p g w f r g2 w2 a c b : Nat) (d now d0 N M : Int) (z7 z9 z11 z12 z13 z15 z16 z17 z18 z19 z20 z21 z22 z23 z24 z25 z26 z27 z28 z29 z30 z31 z32 z33 z34 : Option AV) (hk : t.POk i) (hi : i < 50) (hnow : 0 ≤ now ∧ now ≤ 1000) (hN : In64 N) (hd : 0 ≤ d ∧ d < 16) (hS : Sep s0 s (oC a [num d0, num N, num M] :: t.objs p g w f r g2 w2)) (hfu : 4000 < fu) :
    RsOk (exec bd (callF bd tab.get fu (n + 6)) fu vc6_0 [some sv, some v, some (.ptr r 0), some (.ptr p 0), some (num d), some (num now), some (.ptr a 0), z7, some (num (i : Int)), z9, some (.ptr c 0), z11, z12, z13, some (.ptr b 0), z15, z16, z17, z18, z19, z20, z21, z22, z23, z24, z25, z26, z27, z28, z29, z30, z31, z32, z33, z34, some (.bool false)] s) (PPost s0 sv v p g w f r g2 w2 a c b now i d) := by
  rw [vc6_0_eq]
  have hc : d = 0 ∨ d = 1 ∨ d = 2 ∨ d = 3 ∨ d = 4 ∨ d = 5 ∨ d = 6 ∨ d = 7 ∨ d = 8 ∨ d = 9 ∨ d = 10 ∨ d = 11 ∨ d = 12 ∨ 13 ≤ d := by omega
  rcases hc with rfl | rfl | rfl | rfl | rfl | rfl | rfl | rfl | rfl | rfl | rfl | rfl | rfl | hc
  · simp (disch := omega) only [vm0, vm1, vm2, vm3, vm4, vm5, vm6, vm7, fPick, fBox, fBuild, fBsl, fLd, fLda, fSt, fNilc, fBin, fEq, fUn, fMkf, fFa, fFld, fFlda, fExt, evo, wr, wrC, frame, Bool.not_true, Bool.not_false, beq_self_eq_true, List.cons_append, List.nil_append, Nat.add_zero, Nat.zero_add, Nat.reduceAdd, Nat.reduceMul, Nat.reduceSub, Bool.and_true, Bool.true_and, Bool.and_self, beq_dec, fApp, Int.toNat_natCast, Nat.sub_zero, vmI]
    exact pp0 n s t i sv v p g w f r g2 w2 a c b _ now d0 N M _ _ _ _ _ _ _ _ _ _ _ _ _ _ _ _ _ _ _ _ _ _ _ _ _ hk hi hnow hN hS hfu
  · simp (disch := omega) only [vm0, vm1, vm2, vm3, vm4, vm5, vm6, vm7, fPick, fBox, fBuild, fBsl, fLd, fLda, fSt, fNilc, fBin, fEq, fUn, fMkf, fFa, fFld, fFlda, fExt, evo, wr, wrC, frame, Bool.not_true, Bool.not_false, beq_self_eq_true, List.cons_append, List.nil_append, Nat.add_zero, Nat.zero_add, Nat.reduceAdd, Nat.reduceMul, Nat.reduceSub, Bool.and_true, Bool.true_and, Bool.and_self, beq_dec, fApp, Int.toNat_natCast, Nat.sub_zero, vmI]
    exact pp1 n s t i sv v p g w f r g2 w2 a c b _ now d0 N M _ _ _ _ _ _ _ _ _ _ _ _ _ _ _ _ _ _ _ _ _ _ _ _ _ hk hi hnow hN hS hfu
  · simp (disch := omega) only [vm0, vm1, vm2, vm3, vm4, vm5, vm6, vm7, fPick, fBox, fBuild, fBsl, fLd, fLda, fSt, fNilc, fBin, fEq, fUn, fMkf, fFa, fFld, fFlda, fExt, evo, wr, wrC, frame, Bool.not_true, Bool.not_false, beq_self_eq_true, List.cons_append, List.nil_append, Nat.add_zero, Nat.zero_add, Nat.reduceAdd, Nat.reduceMul, Nat.reduceSub, Bool.and_true, Bool.true_and, Bool.and_self, beq_dec, fApp, Int.toNat_natCast, Nat.sub_zero, vmI]
    exact pp2 n s t i sv v p g w f r g2 w2 a c b _ now d0 N M _ _ _ _ _ _ _ _ _ _ _ _ _ _ _ _ _ _ _ _ _ _ _ _ _ hk hi hnow hN hS hfu
  iterate 6
    · simp (disch := omega) only [vm0, vm1, vm2, vm3, vm4, vm5, vm6, vm7, fPick, fBox, fBuild, fBsl, fLd, fLda, fSt, fNilc, fBin, fEq, fUn, fMkf, fFa, fFld, fFlda, fExt, evo, wr, wrC, frame, Bool.not_true, Bool.not_false, beq_self_eq_true, List.cons_append, List.nil_append, Nat.add_zero, Nat.zero_add, Nat.reduceAdd, Nat.reduceMul, Nat.reduceSub, Bool.and_true, Bool.true_and, Bool.and_self, beq_dec, fApp, Int.toNat_natCast, Nat.sub_zero, vmI]
      exact pp3 n s t i sv v p g w f r g2 w2 a c b _ now d0 N M _ _ _ _ _ _ _ _ _ _ _ _ _ _ _ _ _ _ _ _ _ _ _ _ _ hk hi hnow hN hS hfu
  iterate 4
    · simp (disch := omega) only [vm0, vm1, vm2, vm3, vm4, vm5, vm6, vm7, fPick, fBox, fBuild, fBsl, fLd, fLda, fSt, fNilc, fBin, fEq, fUn, fMkf, fFa, fFld, fFlda, fExt, evo, wr, wrC, frame, Bool.not_true, Bool.not_false, beq_self_eq_true, List.cons_append, List.nil_append, Nat.add_zero, Nat.zero_add, Nat.reduceAdd, Nat.reduceMul, Nat.reduceSub, Bool.and_true, Bool.true_and, Bool.and_self, beq_dec, fApp, Int.toNat_natCast, Nat.sub_zero, vmI]
      exact pp4 n s t i sv v p g w f r g2 w2 a c b _ now d0 N M _ _ _ _ _ _ _ _ _ _ _ _ _ _ _ _ _ _ _ _ _ _ _ _ _ hk hi hnow hN hS hfu
  · simp (disch := omega) only [vm0, vm1, vm2, vm3, vm4, vm5, vm6, vm7, fPick, fBox, fBuild, fBsl, fLd, fLda, fSt, fNilc, fBin, fEq, fUn, fMkf, fFa, fFld, fFlda, fExt, evo, wr, wrC, frame, Bool.not_true, Bool.not_false, beq_self_eq_true, List.cons_append, List.nil_append, Nat.add_zero, Nat.zero_add, Nat.reduceAdd, Nat.reduceMul, Nat.reduceSub, Bool.and_true, Bool.true_and, Bool.and_self, beq_dec, fApp, Int.toNat_natCast, Nat.sub_zero, vmI]
    exact pp5 n s t i sv v p g w f r g2 w2 a c b _ now d0 N M _ _ _ _ _ _ _ _ _ _ _ _ _ _ _ _ _ _ _ _ _ _ _ _ _ hk hi hnow hN hS hfu
set_option maxHeartbeats 2000000 in
theorem pp_check (n : Nat) {s0 : St} (s : St) (t : PT) (k i : Nat) (sv v : AV) (p g w f r g2 w2 a c b : Nat) (d now : Int) (z7 z9 z11 z12 z13 z15 z16 z17 z18 z19 z20 z21 z22 z23 z24 z25 z26 z27 z28 z29 z30 z31 z32 z33 z34 : Option AV) (hk : t.POk k) (hi : k ≤ 50) (hS : Sep s0 s (t.objs p g w f r g2 w2)) (hfu : 4000 < fu) :
    RsOk (exec bd (callF bd tab.get fu (n + 6)) fu vc6_1 [some sv, some v, some (.ptr r 0), some (.ptr p 0), some (num d), some (num now), some (.ptr a 0), z7, some (num (i : Int)), z9, some (.ptr c 0), z11, z12, z13, some (.ptr b 0), z15, z16, z17, z18, z19, z20, z21, z22, z23, z24, z25, z26, z27, z28, z29, z30, z31, z32, z33, z34, some (.bool false)] s) (fun e F' s' => e = .normal ∧ Sep s0 s' (t.objs p g w f r g2 w2) ∧ ∃ z7 z9 z11 z12 z13 z15 z16 z17 z18 z19 z20 z21 z22 z23 z24 z25 z26 z27 z28 z29 z30 z31 z32 z33 z34, F' = [some sv, some v, some (.ptr r 0), some (.ptr p 0), some (num d), some (num now), some (.ptr a 0), z7, some (num (i : Int)), z9, some (.ptr c 0), z11, z12, z13, some (.ptr b 0), z15, z16, z17, z18, z19, z20, z21, z22, z23, z24, z25, z26, z27, z28, z29, z30, z31, z32, z33, z34, some (.bool false)]) := by
  obtain ⟨up, jn, bh, sn, G, W, F⟩ := t
  obtain ⟨k1, k2, k3, k4, k5⟩ := hk
  unfold PT.objs at hS
  dsimp only at *
  obtain ⟨vf, hO⟩ := Sep.openU (((hS.re ((List.perm_middle (l₁ := [_, _, _, _])).trans (.cons _ (.refl _))))))
  have gr := hO.getC
  have hv := hO.swap.rdW
  have hvl := hv.lenV
  have hvs := hO.swap.sameW
  obtain ⟨fi, me, sp, la, kn⟩ := G
  have gg : s.heap.get g2 = some (.cells [num fi, num me, num sp, num la, .bool kn] .own) := (((hO.re ((List.perm_middle (l₁ := [_, _, _, _, _, _])).trans (.cons _ (.refl _)))))).getC
  simp (disch := omega) only [vm0, vm1, vm2, vm3, vm4, vm5, vm6, vm7, fPick, fBox, fBuild, fBsl, fLd, fLda, fSt, fNilc, fBin, fEq, fUn, fMkf, fFa, fFld, fFlda, fExt, evo, wr, wrC, frame, Bool.not_true, Bool.not_false, beq_self_eq_true, List.cons_append, List.nil_append, Nat.add_zero, Nat.zero_add, Nat.reduceAdd, Nat.reduceMul, Nat.reduceSub, Bool.and_true, Bool.true_and, Bool.and_self, beq_dec, fApp, Int.toNat_natCast, Nat.sub_zero, vmI, vc6_1]
  refine call_ok rfl rfl (p_isup (n + 5) s p g w f _ _ hS) ?_
  rintro y s ⟨rfl, rfl⟩
  simp (disch := omega) only [vm0, vm1, vm2, vm3, vm4, vm5, vm6, vm7, fPick, fBox, fBuild, fBsl, fLd, fLda, fSt, fNilc, fBin, fEq, fUn, fMkf, fFa, fFld, fFlda, fExt, evo, wr, wrC, frame, Bool.not_true, Bool.not_false, beq_self_eq_true, List.cons_append, List.nil_append, Nat.add_zero, Nat.zero_add, Nat.reduceAdd, Nat.reduceMul, Nat.reduceSub, Bool.and_true, Bool.true_and, Bool.and_self, beq_dec, fApp, Int.toNat_natCast, Nat.sub_zero, vmI, gr]
  refine call_ok rfl rfl (p_joined (n + 5) s p g w f _ _ hS) ?_
  rintro y s ⟨rfl, rfl⟩
  simp (disch := omega) only [vm0, vm1, vm2, vm3, vm4, vm5, vm6, vm7, fPick, fBox, fBuild, fBsl, fLd, fLda, fSt, fNilc, fBin, fEq, fUn, fMkf, fFa, fFld, fFlda, fExt, evo, wr, wrC, frame, Bool.not_true, Bool.not_false, beq_self_eq_true, List.cons_append, List.nil_append, Nat.add_zero, Nat.zero_add, Nat.reduceAdd, Nat.reduceMul, Nat.reduceSub, Bool.and_true, Bool.true_and, Bool.and_self, beq_dec, fApp, Int.toNat_natCast, Nat.sub_zero, vmI, gr]
  have hpu := p_usable (bd := bd)  (fu := fu) (n + 4) s p g w f ⟨up, jn, bh, sn, ⟨fi, me, sp, la, kn⟩, W, F⟩ _ hS (by dsimp only; omega)
  have hqu := q_usable (bd := bd)  (fu := fu) (n + 5) s r g2 w2 ⟨up, jn, bh, sn, ⟨fi, me, sp, la, kn⟩, W, F⟩ _ (((hS.re ((List.perm_middle (l₁ := [_, _, _, _])).trans (.cons _ ((List.perm_middle (l₁ := [_, _, _, _])).trans (.cons _ ((List.perm_middle (l₁ := [_, _, _, _])).trans (.cons _ (.refl _)))))))))) (by dsimp only; omega)
  generalize PT.usable ⟨up, jn, bh, sn, ⟨fi, me, sp, la, kn⟩, W, F⟩ = us at hpu hqu
  refine call_ok rfl rfl hpu ?_
  rintro y s ⟨rfl, rfl⟩
  simp (disch := omega) only [vm0, vm1, vm2, vm3, vm4, vm5, vm6, vm7, fPick, fBox, fBuild, fBsl, fLd, fLda, fSt, fNilc, fBin, fEq, fUn, fMkf, fFa, fFld, fFlda, fExt, evo, wr, wrC, frame, Bool.not_true, Bool.not_false, beq_self_eq_true, List.cons_append, List.nil_append, Nat.add_zero, Nat.zero_add, Nat.reduceAdd, Nat.reduceMul, Nat.reduceSub, Bool.and_true, Bool.true_and, Bool.and_self, beq_dec, fApp, Int.toNat_natCast, Nat.sub_zero, vmI, gr]
  refine call_ok rfl rfl hqu ?_
  rintro y s ⟨rfl, rfl⟩
  simp (disch := omega) only [vm0, vm1, vm2, vm3, vm4, vm5, vm6, vm7, fPick, fBox, fBuild, fBsl, fLd, fLda, fSt, fNilc, fBin, fEq, fUn, fMkf, fFa, fFld, fFlda, fExt, evo, wr, wrC, frame, Bool.not_true, Bool.not_false, beq_self_eq_true, List.cons_append, List.nil_append, Nat.add_zero, Nat.zero_add, Nat.reduceAdd, Nat.reduceMul, Nat.reduceSub, Bool.and_true, Bool.true_and, Bool.and_self, beq_dec, fApp, Int.toNat_natCast, Nat.sub_zero, vmI, gr]
  refine call_ok rfl rfl (p_behind (n + 5) s p g w f _ _ hS) ?_
  rintro y s ⟨rfl, rfl⟩
  simp (disch := omega) only [vm0, vm1, vm2, vm3, vm4, vm5, vm6, vm7, fPick, fBox, fBuild, fBsl, fLd, fLda, fSt, fNilc, fBin, fEq, fUn, fMkf, fFa, fFld, fFlda, fExt, evo, wr, wrC, frame, Bool.not_true, Bool.not_false, beq_self_eq_true, List.cons_append, List.nil_append, Nat.add_zero, Nat.zero_add, Nat.reduceAdd, Nat.reduceMul, Nat.reduceSub, Bool.and_true, Bool.true_and, Bool.and_self, beq_dec, fApp, Int.toNat_natCast, Nat.sub_zero, vmI, gr]
  refine call_ok rfl rfl (p_mean (n + 4) s p g w f _ _ hS) ?_
  rintro y s ⟨rfl, rfl⟩
  simp (disch := omega) only [vm0, vm1, vm2, vm3, vm4, vm5, vm6, vm7, fPick, fBox, fBuild, fBsl, fLd, fLda, fSt, fNilc, fBin, fEq, fUn, fMkf, fFa, fFld, fFlda, fExt, evo, wr, wrC, frame, Bool.not_true, Bool.not_false, beq_self_eq_true, List.cons_append, List.nil_append, Nat.add_zero, Nat.zero_add, Nat.reduceAdd, Nat.reduceMul, Nat.reduceSub, Bool.and_true, Bool.true_and, Bool.and_self, beq_dec, fApp, Int.toNat_natCast, Nat.sub_zero, vmI, gr, gg]
  refine call_ok rfl rfl (p_len (n + 4) s p g w f ⟨up, jn, bh, sn, ⟨fi, me, sp, la, kn⟩, W, F⟩ _ (((hS.re (.cons _ ((List.perm_middle (l₁ := [_, _])).trans (.cons _ (.refl _)))))))) ?_
  rintro y s ⟨rfl, rfl⟩
  simp (disch := omega) only [vm0, vm1, vm2, vm3, vm4, vm5, vm6, vm7, fPick, fBox, fBuild, fBsl, fLd, fLda, fSt, fNilc, fBin, fEq, fUn, fMkf, fFa, fFld, fFlda, fExt, evo, wr, wrC, frame, Bool.not_true, Bool.not_false, beq_self_eq_true, List.cons_append, List.nil_append, Nat.add_zero, Nat.zero_add, Nat.reduceAdd, Nat.reduceMul, Nat.reduceSub, Bool.and_true, Bool.true_and, Bool.and_self, beq_dec, fApp, Int.toNat_natCast, Nat.sub_zero, vmI, gr, gg, hvl]
  refine call_ok rfl rfl (p_sent (n + 5) s p g w f _ _ hS) ?_
  rintro y s ⟨rfl, rfl⟩
  simp (disch := omega) only [vm0, vm1, vm2, vm3, vm4, vm5, vm6, vm7, fPick, fBox, fBuild, fBsl, fLd, fLda, fSt, fNilc, fBin, fEq, fUn, fMkf, fFa, fFld, fFlda, fExt, evo, wr, wrC, frame, Bool.not_true, Bool.not_false, beq_self_eq_true, List.cons_append, List.nil_append, Nat.add_zero, Nat.zero_add, Nat.reduceAdd, Nat.reduceMul, Nat.reduceSub, Bool.and_true, Bool.true_and, Bool.and_self, beq_dec, fApp, Int.toNat_natCast, Nat.sub_zero, vmI, gr, gg, hvl]
  refine call_ok rfl rfl (p_state (n + 3) s p g w f ⟨up, jn, bh, sn, ⟨fi, me, sp, la, kn⟩, W, F⟩ _ (((hO.re ((List.perm_middle (l₁ := [_, _])).trans (.cons _ ((List.perm_middle (l₁ := [_, _])).trans (.cons _ ((List.perm_middle (l₁ := [_, _])).trans (.cons _ ((List.perm_middle (l₁ := [_, _])).trans (.cons _ (.refl _)))))))))))) k1 (by dsimp only; omega) (by dsimp only; omega)) ?_
  rintro x s1 hS1
  have gr1 := (((hS1.re ((List.perm_middle (l₁ := [_, _, _, _, _])).trans (.cons _ (.refl _)))))).getC
  have gg1 : s1.heap.get g2 = some (.cells [num fi, num me, num sp, num la, .bool kn] .own) := (((hS1.re ((List.perm_middle (l₁ := [_, _, _, _, _, _, _])).trans (.cons _ (.refl _)))))).getC
  simp (disch := omega) only [vm0, vm1, vm2, vm3, vm4, vm5, vm6, vm7, fPick, fBox, fBuild, fBsl, fLd, fLda, fSt, fNilc, fBin, fEq, fUn, fMkf, fFa, fFld, fFlda, fExt, evo, wr, wrC, frame, Bool.not_true, Bool.not_false, beq_self_eq_true, List.cons_append, List.nil_append, Nat.add_zero, Nat.zero_add, Nat.reduceAdd, Nat.reduceMul, Nat.reduceSub, Bool.and_true, Bool.true_and, Bool.and_self, beq_dec, fApp, Int.toNat_natCast, Nat.sub_zero, vmI, gr, gg, hvl]
  refine call_ok rfl rfl (q_state (n + 3) s1 r g2 w2 ⟨up, jn, bh, sn, ⟨fi, me, sp, la, kn⟩, W, F⟩ vf _ (((hS1.re ((List.perm_middle (l₁ := [_, _, _, _, _])).trans (.cons _ ((List.perm_middle (l₁ := [_, _, _, _, _])).trans (.cons _ ((List.perm_middle (l₁ := [_, _, _, _, _])).trans (.cons _ ((List.perm_middle (l₁ := [_, _, _, _, _])).trans (.cons _ (.refl _)))))))))))) k1 (by dsimp only; omega) (by dsimp only; omega) (by omega)) ?_
  rintro u s2 hS2
  have gr2 := (((hS2.re ((List.perm_middle (l₁ := [_])).trans (.cons _ (.refl _)))))).getC
  have gg2 : s2.heap.get g2 = some (.cells [num fi, num me, num sp, num la, .bool kn] .own) := (((hS2.re ((List.perm_middle (l₁ := [_, _, _])).trans (.cons _ (.refl _)))))).getC
  have hsl : (PT.state ⟨up, jn, bh, sn, ⟨fi, me, sp, la, kn⟩, W, F⟩).length ≤ 8 + 4 * k := by
    show (PT.hdS _ ++ F.flatMap o4).length ≤ _
    rw [List.length_append, o4_len]
    show 8 + _ ≤ _
    omega
  generalize PT.state ⟨up, jn, bh, sn, ⟨fi, me, sp, la, kn⟩, W, F⟩ = L at *
  simp (disch := omega) only [vm0, vm1, vm2, vm3, vm4, vm5, vm6, vm7, fPick, fBox, fBuild, fBsl, fLd, fLda, fSt, fNilc, fBin, fEq, fUn, fMkf, fFa, fFld, fFlda, fExt, evo, wr, wrC, frame, Bool.not_true, Bool.not_false, beq_self_eq_true, List.cons_append, List.nil_append, Nat.add_zero, Nat.zero_add, Nat.reduceAdd, Nat.reduceMul, Nat.reduceSub, Bool.and_true, Bool.true_and, Bool.and_self, beq_dec, fApp, Int.toNat_natCast, Nat.sub_zero, vmI]
  refine call_ok rfl rfl (sameI (n + 5) s2 x u L L (Sep.rdW (((hS2.re ((List.perm_middle (l₁ := [_, _, _, _, _])).trans (.cons _ (.refl _))))))) hS2.rdW (by omega) (by omega)) ?_
  rintro y s3 ⟨rfl, rfl⟩
  have hde : decide (L = L) = true := by simp
  have hS3 := Sep.closeU (((hS2.re (.cons _ ((List.perm_middle (l₁ := [_, _, _, _])).trans (.cons _ (.refl _))))).drop.drop))
  have hS4 := ((hS3.re ((List.perm_middle (l₁ := [_, _, _])).trans (.cons _ ((List.perm_middle (l₁ := [_, _, _])).trans (.cons _ ((List.perm_middle (l₁ := [_, _, _])).trans (.cons _ ((List.perm_middle (l₁ := [_, _, _])).trans (.cons _ (.refl _)))))))))))
  simp (disch := omega) only [vm0, vm1, vm2, vm3, vm4, vm5, vm6, vm7, fPick, fBox, fBuild, fBsl, fLd, fLda, fSt, fNilc, fBin, fEq, fUn, fMkf, fFa, fFld, fFlda, fExt, evo, wr, wrC, frame, Bool.not_true, Bool.not_false, beq_self_eq_true, List.cons_append, List.nil_append, Nat.add_zero, Nat.zero_add, Nat.reduceAdd, Nat.reduceMul, Nat.reduceSub, Bool.and_true, Bool.true_and, Bool.and_self, beq_dec, fApp, Int.toNat_natCast, Nat.sub_zero, vmI, hde, vmR, gr, gg, gr1, gg1, gr2, gg2, hvl, hvs]
  exact ⟨trivial, hS4, _, _, _, _, _, _, _, _, _, _, _, _, _, _, _, _, _, _, _, _, _, _, _, _, _, rfl⟩
end
end Go.Proofs.Ytgckbcljlkkceaa.ctr
namespace Go.Proofs.Ytgckbcljlkkceaa.ctr
open Go Go.Vm Go.RowKit
set_option linter.unusedVariables false
set_option linter.constructorNameAsVariable false
set_option linter.unusedSimpArgs false
structure A18 where
  d : Int
  n : Int
  m : Int
def encP (x : A18) : List AV := [num x.d, num x.n, num x.m]
theorem encP_w : ∀ x, (encP x).length = 3 := fun _ => rfl
theorem _root_.Go.Vm.Arg0.acts18 {E : Env} {s : St} {w : World} (h : Arg0 E s w) {a : Option Addr} {len cap : Nat} {V : Nat → Value} (hq : IsRowV w a len cap 3 V) (hk : ∀ i, i < cap * 3 → FkOk w (([.i, .i, .i] : List Fk).getD (i % 3) .i) (V i)) :
    ∃ v E' s' l, Arg0 E' s' w ∧ E.le E' ∧ Fr s s' [] ∧ VR rho0 E' v (.slice a len cap) ∧ RdE s' v 3 encP l ∧ ∀ x ∈ l, In64 x.d ∧ In64 x.n ∧ In64 x.m := by
  obtain ⟨v, E', s', l, h1, h2, h3, h4, h5, _, h6⟩ := h.recs (ks := [.i, .i, .i]) hq hk (by decide) encP (fun f => ⟨(f 0).z, (f 1).z, (f 2).z⟩) encP_w (by
    intro s f hf j hj
    have hj : j < 3 := hj
    have k0 : ClOk s (f 0) .i := hf 0 (by decide)
    have k1 : ClOk s (f 1) .i := hf 1 (by decide)
    have k2 : ClOk s (f 2) .i := hf 2 (by decide)
    rcases j with _ | _ | _ | j
    · rw [k0.i.1]; rfl
    · rw [k1.i.1]; rfl
    · rw [k2.i.1]; rfl
    · omega)
  refine ⟨v, E', s', l, h1, h2, h3, h4, h5, fun x hx => ?_⟩
  obtain ⟨f, rfl, hf⟩ := h6 x hx
  have k0 : ClOk s' (f 0) .i := hf 0 (by decide)
  have k1 : ClOk s' (f 1) .i := hf 1 (by decide)
  have k2 : ClOk s' (f 2) .i := hf 2 (by decide)
  exact ⟨k0.i.2, k1.i.2, k2.i.2⟩
section
variable {bd : Bd} {fu : Nat}
theorem pp_body (n : Nat) {s0 : St} (s : St) (t : PT) (i : Nat) (sv v : AV) (l : List A18) (p g w f r g2 w2 c b : Nat) (now : Int) (z4 z6 z7 z9 z11 z12 z13 z15 z16 z17 z18 z19 z20 z21 z22 z23 z24 z25 z26 z27 z28 z29 z30 z31 z32 z33 z34 : Option AV) (hk : t.POk i) (hi : i < 50) (hil : i < l.length) (hnow : 0 ≤ now ∧ now ≤ 4 * i) (hv : RdE s0 v 3 encP l) (ha : ∀ x ∈ l, In64 x.d ∧ In64 x.n ∧ In64 x.m) (hS : Sep s0 s (t.objs p g w f r g2 w2)) (hfu : 4000 < fu) :
    RsOk (exec bd (callF bd tab.get fu (n + 6)) fu vc6_3 [some sv, some v, some (.ptr r 0), some (.ptr p 0), z4, some (num now), z6, z7, some (num (i : Int)), z9, some (.ptr c 0), z11, z12, z13, some (.ptr b 0), z15, z16, z17, z18, z19, z20, z21, z22, z23, z24, z25, z26, z27, z28, z29, z30, z31, z32, z33, z34, some (.bool false)] s) (fun e F' s' => e = .normal ∧ ∃ t' : PT, ∃ now' : Int, t'.POk (i + 1) ∧ (0 ≤ now' ∧ now' ≤ 4 * (i + 1)) ∧ Sep s0 s' (t'.objs p g w f r g2 w2) ∧ ∃ z4 z6 z7 z9 z11 z12 z13 z15 z16 z17 z18 z19 z20 z21 z22 z23 z24 z25 z26 z27 z28 z29 z30 z31 z32 z33 z34, F' = [some sv, some v, some (.ptr r 0), some (.ptr p 0), z4, some (num now'), z6, z7, some (num ((i : Int) + 1)), z9, some (.ptr c 0), z11, z12, z13, some (.ptr b 0), z15, z16, z17, z18, z19, z20, z21, z22, z23, z24, z25, z26, z27, z28, z29, z30, z31, z32, z33, z34, some (.bool false)]) := by
  have hv5 := hv.fr0 hS.frm
  have e0 := hv5.lenV
  obtain ⟨A, hA⟩ : ∃ A, l[i]? = some A := ⟨_, List.getElem?_eq_getElem hil⟩
  obtain ⟨a1, a2, a3⟩ := ha A (List.mem_of_getElem? hA)
  have e1 := hv5.ia hA
  have e2 := hv5.at hA
  simp (disch := omega) only [vm0, vm1, vm2, vm3, vm4, vm5, vm6, vm7, fPick, fBox, fBuild, fBsl, fLd, fLda, fSt, fNilc, fBin, fEq, fUn, fMkf, fFa, fFld, fFlda, fExt, evo, wr, wrC, frame, Bool.not_true, Bool.not_false, beq_self_eq_true, List.cons_append, List.nil_append, Nat.add_zero, Nat.zero_add, Nat.reduceAdd, Nat.reduceMul, Nat.reduceSub, Bool.and_true, Bool.true_and, Bool.and_self, beq_dec, fApp, Int.toNat_natCast, Nat.sub_zero, vmI, vc6_3, vc6_2, e0, e1, e2, encP]
  have hS7 := hS.cell [num 0, num 0, num 0] [num A.d, num A.n, num A.m]
  generalize (s.new (.cells [num 0, num 0, num 0] .own)).put s.next (some (.cells [num A.d, num A.n, num A.m] .own)) = s6 at *
  generalize s.next = a at *
  have ga := hS7.getC
  refine call_ok rfl rfl (within (n + 5) s6 A.m 4 a3 (by omega) (by omega)) ?_
  rintro y s6 ⟨rfl, rfl⟩
  have hm4 : 0 ≤ A.m % 4 ∧ A.m % 4 < 4 := by omega
  generalize A.m % 4 = m4 at *
  simp (disch := omega) only [vm0, vm1, vm2, vm3, vm4, vm5, vm6, vm7, fPick, fBox, fBuild, fBsl, fLd, fLda, fSt, fNilc, fBin, fEq, fUn, fMkf, fFa, fFld, fFlda, fExt, evo, wr, wrC, frame, Bool.not_true, Bool.not_false, beq_self_eq_true, List.cons_append, List.nil_append, Nat.add_zero, Nat.zero_add, Nat.reduceAdd, Nat.reduceMul, Nat.reduceSub, Bool.and_true, Bool.true_and, Bool.and_self, beq_dec, fApp, Int.toNat_natCast, Nat.sub_zero, vmI, ga]
  refine call_ok rfl rfl (within (n + 5) s6 A.d 16 a1 (by omega) (by omega)) ?_
  rintro y s6 ⟨rfl, rfl⟩
  simp (disch := omega) only [vm0, vm1, vm2, vm3, vm4, vm5, vm6, vm7, fPick, fBox, fBuild, fBsl, fLd, fLda, fSt, fNilc, fBin, fEq, fUn, fMkf, fFa, fFld, fFlda, fExt, evo, wr, wrC, frame, Bool.not_true, Bool.not_false, beq_self_eq_true, List.cons_append, List.nil_append, Nat.add_zero, Nat.zero_add, Nat.reduceAdd, Nat.reduceMul, Nat.reduceSub, Bool.and_true, Bool.true_and, Bool.and_self, beq_dec, fApp, Int.toNat_natCast, Nat.sub_zero, vmI]
  refine (pp_switch n s6 t i sv v p g w f r g2 w2 a c b (A.d % 16) (now + m4) A.d A.n A.m _ _ _ _ _ _ _ _ _ _ _ _ _ _ _ _ _ _ _ _ _ _ _ _ _ hk hi (by omega) a2 (by omega) hS7 hfu).mono ?_
  rintro e F s8 ⟨he, t', hk', hS8, z7, z9, z11, z12, z13, z15, z16, z17, z18, z19, z20, z21, z22, z23, z24, z25, z26, z27, z28, z29, z30, z31, z32, z33, z34, rfl⟩
  rcases he with rfl | rfl
  · simp (disch := omega) only [vm0, vm1, vm2, vm3, vm4, vm5, vm6, vm7, fPick, fBox, fBuild, fBsl, fLd, fLda, fSt, fNilc, fBin, fEq, fUn, fMkf, fFa, fFld, fFlda, fExt, evo, wr, wrC, frame, Bool.not_true, Bool.not_false, beq_self_eq_true, List.cons_append, List.nil_append, Nat.add_zero, Nat.zero_add, Nat.reduceAdd, Nat.reduceMul, Nat.reduceSub, Bool.and_true, Bool.true_and, Bool.and_self, beq_dec, fApp, Int.toNat_natCast, Nat.sub_zero, vmI]
    refine (pp_check n s8 t' (i + 1) i sv v p g w f r g2 w2 a c b (A.d % 16) (now + m4) _ _ _ _ _ _ _ _ _ _ _ _ _ _ _ _ _ _ _ _ _ _ _ _ _ hk' (by omega) hS8 hfu).mono ?_
    rintro e F s9 ⟨rfl, hS9, z7, z9, z11, z12, z13, z15, z16, z17, z18, z19, z20, z21, z22, z23, z24, z25, z26, z27, z28, z29, z30, z31, z32, z33, z34, rfl⟩
    simp (disch := omega) only [vm0, vm1, vm2, vm3, vm4, vm5, vm6, vm7, fPick, fBox, fBuild, fBsl, fLd, fLda, fSt, fNilc, fBin, fEq, fUn, fMkf, fFa, fFld, fFlda, fExt, evo, wr, wrC, frame, Bool.not_true, Bool.not_false, beq_self_eq_true, List.cons_append, List.nil_append, Nat.add_zero, Nat.zero_add, Nat.reduceAdd, Nat.reduceMul, Nat.reduceSub, Bool.and_true, Bool.true_and, Bool.and_self, beq_dec, fApp, Int.toNat_natCast, Nat.sub_zero, vmI]
    exact ⟨trivial, t', now + m4, hk', by omega, hS9, _, _, _, _, _, _, _, _, _, _, _, _, _, _, _, _, _, _, _, _, _, _, _, _, _, _, _, rfl⟩
  · rw [q_blky (by decide)]
    simp (disch := omega) only [vm0, vm1, vm2, vm3, vm4, vm5, vm6, vm7, fPick, fBox, fBuild, fBsl, fLd, fLda, fSt, fNilc, fBin, fEq, fUn, fMkf, fFa, fFld, fFlda, fExt, evo, wr, wrC, frame, Bool.not_true, Bool.not_false, beq_self_eq_true, List.cons_append, List.nil_append, Nat.add_zero, Nat.zero_add, Nat.reduceAdd, Nat.reduceMul, Nat.reduceSub, Bool.and_true, Bool.true_and, Bool.and_self, beq_dec, fApp, Int.toNat_natCast, Nat.sub_zero, vmI]
    exact ⟨trivial, t', now + m4, hk', by omega, hS8, _, _, _, _, _, _, _, _, _, _, _, _, _, _, _, _, _, _, _, _, _, _, _, _, _, _, _, rfl⟩
theorem plays18 (n : Nat) (s : St) (b1 b2 b3 b4 b5 b6 b7 : Int) (v : AV) (l : List A18) (hv : RdE s v 3 encP l) (ha : ∀ x ∈ l, In64 x.d ∧ In64 x.n ∧ In64 x.m) (h1 : In64 b1) (h2 : In64 b2) (h3 : In64 b3) (h4 : In64 b4) (h5 : In64 b5) (h6 : In64 b6) (h7 : In64 b7) (hfu : 4000 < fu) :
    OutOk (callF bd tab.get fu (n + 7) 6 [.agg [num b1, num b2, num b3, num b4, num b5, num b6, num b7], v] s) (fun x s' => Is x (.bool true)) := by
  refine call_code t6 rfl ?_
  have hS1 := pushC (Sep.nil (s := s)) [num b1, num b2, num b3, num b4, num b5, num b6, num b7]
  have hb := hS1.getC
  simp (disch := omega) only [vm0, vm1, vm2, vm3, vm4, vm5, vm6, vm7, fPick, fBox, fBuild, fBsl, fLd, fLda, fSt, fNilc, fBin, fEq, fUn, fMkf, fFa, fFld, fFlda, fExt, evo, wr, wrC, frame, Bool.not_true, Bool.not_false, beq_self_eq_true, List.cons_append, List.nil_append, Nat.add_zero, Nat.zero_add, Nat.reduceAdd, Nat.reduceMul, Nat.reduceSub, Bool.and_true, Bool.true_and, Bool.and_self, beq_dec, fApp, Int.toNat_natCast, Nat.sub_zero, vmI, vc6, hb]
  generalize s.new (.cells [num b1, num b2, num b3, num b4, num b5, num b6, num b7] .own) = s1 at *
  generalize s.next = b at *
  refine call_ok rfl rfl (p_config (n + 4) s1 b1 b2 b3 b4 b5 b6 b7 h1 h2 h3 h4 h5 h6 h7) ?_
  rintro y s2 ⟨rfl, hf2⟩
  have hS2 := (hS1.fr hf2).drop
  simp (disch := omega) only [vm0, vm1, vm2, vm3, vm4, vm5, vm6, vm7, fPick, fBox, fBuild, fBsl, fLd, fLda, fSt, fNilc, fBin, fEq, fUn, fMkf, fFa, fFld, fFlda, fExt, evo, wr, wrC, frame, Bool.not_true, Bool.not_false, beq_self_eq_true, List.cons_append, List.nil_append, Nat.add_zero, Nat.zero_add, Nat.reduceAdd, Nat.reduceMul, Nat.reduceSub, Bool.and_true, Bool.true_and, Bool.and_self, beq_dec, fApp, Int.toNat_natCast, Nat.sub_zero, vmI]
  have hS3 := hS2.cell [num 0, num 0, num 0, num 0, num 0, num 0, num 0] [num (1 + b1 % 3), num (1 + b2 % 60), num (1 + b3 % 50), num (1 + b4 % 20), num (1 + b5 % 6), num (1 + b6 % 8), num (1 + b7 % 3)]
  generalize 1 + b5 % 6 = mo at *
  generalize 1 + b6 % 8 = fi at *
  generalize 1 + b1 % 3 = c1 at *
  generalize 1 + b2 % 60 = c2 at *
  generalize 1 + b3 % 50 = c3 at *
  generalize 1 + b4 % 20 = c4 at *
  generalize 1 + b7 % 3 = c7 at *
  generalize (s2.new (.cells [num 0, num 0, num 0, num 0, num 0, num 0, num 0] .own)).put s2.next (some (.cells [num c1, num c2, num c3, num c4, num mo, num fi, num c7] .own)) = s3 at *
  generalize s2.next = c at *
  have g3 := hS3.getC
  refine call_ok rfl rfl (p_new (n + 3) s3 c1 c2 c3 c4 mo fi c7 _ hS3) ?_
  rintro y s4 ⟨p, g, w, f, rfl, hS4⟩
  have g4 := (((hS4.re ((List.perm_middle (l₁ := [_, _, _, _])).trans (.cons _ (.refl _)))))).getC
  simp (disch := omega) only [vm0, vm1, vm2, vm3, vm4, vm5, vm6, vm7, fPick, fBox, fBuild, fBsl, fLd, fLda, fSt, fNilc, fBin, fEq, fUn, fMkf, fFa, fFld, fFlda, fExt, evo, wr, wrC, frame, Bool.not_true, Bool.not_false, beq_self_eq_true, List.cons_append, List.nil_append, Nat.add_zero, Nat.zero_add, Nat.reduceAdd, Nat.reduceMul, Nat.reduceSub, Bool.and_true, Bool.true_and, Bool.and_self, beq_dec, fApp, Int.toNat_natCast, Nat.sub_zero, vmI, g3, g4]
  refine call_ok rfl rfl (q_new (n + 3) s4 c1 c2 c3 c4 mo fi c7 _ hS4) ?_
  rintro y s5 ⟨r, g2, w2, rfl, hS5⟩
  simp (disch := omega) only [vm0, vm1, vm2, vm3, vm4, vm5, vm6, vm7, fPick, fBox, fBuild, fBsl, fLd, fLda, fSt, fNilc, fBin, fEq, fUn, fMkf, fFa, fFld, fFlda, fExt, evo, wr, wrC, frame, Bool.not_true, Bool.not_false, beq_self_eq_true, List.cons_append, List.nil_append, Nat.add_zero, Nat.zero_add, Nat.reduceAdd, Nat.reduceMul, Nat.reduceSub, Bool.and_true, Bool.true_and, Bool.and_self, beq_dec, fApp, Int.toNat_natCast, Nat.sub_zero, vmI, g3, g4]
  refine x_loop (fun m F' s' => ∃ (i : Nat) (t : PT) (now : Int), m = 50 - i ∧ i ≤ 50 ∧ t.POk i ∧ (0 ≤ now ∧ now ≤ 4 * i) ∧ Sep s s' (t.objs p g w f r g2 w2) ∧ ∃ z4 z6 z7 z9 z11 z12 z13 z15 z16 z17 z18 z19 z20 z21 z22 z23 z24 z25 z26 z27 z28 z29 z30 z31 z32 z33 z34, F' = [some (.agg [num b1, num b2, num b3, num b4, num b5, num b6, num b7]), some v, some (.ptr r 0), some (.ptr p 0), z4, some (num now), z6, z7, some (num (i : Int)), z9, some (.ptr c 0), z11, z12, z13, some (.ptr b 0), z15, z16, z17, z18, z19, z20, z21, z22, z23, z24, z25, z26, z27, z28, z29, z30, z31, z32, z33, z34, some (.bool false)]) 50 (by omega) ?_ ?_
  · exact ⟨0, PT.new mo fi, 0, by omega, by omega, ⟨GS.new_ok _, WS.new_ok _, ⟨Int.le_refl _, Int.le_refl _⟩, Nat.le_refl _, fun o ho => by cases ho⟩, ⟨by omega, by omega⟩, ((hS5.re ((List.perm_middle (l₁ := [_, _, _, _, _, _, _])).trans (.cons _ ((List.perm_middle (l₁ := [_, _, _])).trans (.cons _ ((List.perm_middle (l₁ := [_, _, _])).trans (.cons _ ((List.perm_middle (l₁ := [_, _, _])).trans (.cons _ ((List.perm_middle (l₁ := [_, _, _])).trans (.cons _ (.refl _)))))))))))).drop), _, _, _, _, _, _, _, _, _, _, _, _, _, _, _, _, _, _, _, _, _, _, _, _, _, _, _, rfl⟩
  · rintro m F' s6 ⟨i, t, now, rfl, hi, hk, hnow, hS6, z4, z6, z7, z9, z11, z12, z13, z15, z16, z17, z18, z19, z20, z21, z22, z23, z24, z25, z26, z27, z28, z29, z30, z31, z32, z33, z34, rfl⟩ hm
    by_cases hlt : i < l.length ∧ i < 50
    · refine (pp_body n s6 t i (.agg [num b1, num b2, num b3, num b4, num b5, num b6, num b7]) v l p g w f r g2 w2 c b now _ _ _ _ _ _ _ _ _ _ _ _ _ _ _ _ _ _ _ _ _ _ _ _ _ _ _ hk hlt.2 hlt.1 hnow hv ha hS6 hfu).mono ?_
      rintro e F' s7 ⟨rfl, t', now', hk', hn', hS7, z4, z6, z7, z9, z11, z12, z13, z15, z16, z17, z18, z19, z20, z21, z22, z23, z24, z25, z26, z27, z28, z29, z30, z31, z32, z33, z34, rfl⟩
      rw [q_rn]
      exact ⟨50 - (i + 1), by omega, i + 1, t', now', rfl, by omega, hk', by omega, hS7, _, _, _, _, _, _, _, _, _, _, _, _, _, _, _, _, _, _, _, _, _, _, _, _, _, _, _, rfl⟩
    · have e0 := (hv.fr0 hS6.frm).lenV
      by_cases hl : i < l.length
      · have h50 : ¬ i < 50 := fun h => hlt ⟨hl, h⟩
        simp (disch := omega) only [vm0, vm1, vm2, vm3, vm4, vm5, vm6, vm7, fPick, fBox, fBuild, fBsl, fLd, fLda, fSt, fNilc, fBin, fEq, fUn, fMkf, fFa, fFld, fFlda, fExt, evo, wr, wrC, frame, Bool.not_true, Bool.not_false, beq_self_eq_true, List.cons_append, List.nil_append, Nat.add_zero, Nat.zero_add, Nat.reduceAdd, Nat.reduceMul, Nat.reduceSub, Bool.and_true, Bool.true_and, Bool.and_self, beq_dec, fApp, Int.toNat_natCast, Nat.sub_zero, vmI, vc6_3, e0]
        refine call_ok rfl rfl (wakes18 (n + 2) s6) ?_
        rintro y s7 rfl
        simp (disch := omega) only [vm0, vm1, vm2, vm3, vm4, vm5, vm6, vm7, fPick, fBox, fBuild, fBsl, fLd, fLda, fSt, fNilc, fBin, fEq, fUn, fMkf, fFa, fFld, fFlda, fExt, evo, wr, wrC, frame, Bool.not_true, Bool.not_false, beq_self_eq_true, List.cons_append, List.nil_append, Nat.add_zero, Nat.zero_add, Nat.reduceAdd, Nat.reduceMul, Nat.reduceSub, Bool.and_true, Bool.true_and, Bool.and_self, beq_dec, fApp, Int.toNat_natCast, Nat.sub_zero, vmI]
        rfl
      · simp (disch := omega) only [vm0, vm1, vm2, vm3, vm4, vm5, vm6, vm7, fPick, fBox, fBuild, fBsl, fLd, fLda, fSt, fNilc, fBin, fEq, fUn, fMkf, fFa, fFld, fFlda, fExt, evo, wr, wrC, frame, Bool.not_true, Bool.not_false, beq_self_eq_true, List.cons_append, List.nil_append, Nat.add_zero, Nat.zero_add, Nat.reduceAdd, Nat.reduceMul, Nat.reduceSub, Bool.and_true, Bool.true_and, Bool.and_self, beq_dec, fApp, Int.toNat_natCast, Nat.sub_zero, vmI, vc6_3, e0]
        refine call_ok rfl rfl (wakes18 (n + 2) s6) ?_
        rintro y s7 rfl
        simp (disch := omega) only [vm0, vm1, vm2, vm3, vm4, vm5, vm6, vm7, fPick, fBox, fBuild, fBsl, fLd, fLda, fSt, fNilc, fBin, fEq, fUn, fMkf, fFa, fFld, fFlda, fExt, evo, wr, wrC, frame, Bool.not_true, Bool.not_false, beq_self_eq_true, List.cons_append, List.nil_append, Nat.add_zero, Nat.zero_add, Nat.reduceAdd, Nat.reduceMul, Nat.reduceSub, Bool.and_true, Bool.true_and, Bool.and_self, beq_dec, fApp, Int.toNat_natCast, Nat.sub_zero, vmI]
        rfl
end
end Go.Proofs.Ytgckbcljlkkceaa.ctr
namespace Go.Proofs.Ytgckbcljlkkceaa.pathPlaysRun
open Go.Vm Go.RowKit Go.Proofs.Ytgckbcljlkkceaa.ctr
set_option linter.unusedVariables false
set_option linter.unusedSimpArgs false
theorem mixed : Try.prog.follows .mixedOrders = true := by kernel_rfl
theorem walk (b1 b2 b3 b4 b5 b6 b7 : Int) (a1 : Option Addr) (len1 cap1 : Nat) (z1 : Nat → Value) (w : World) (w1 : (Lit.int .i64 b1).wf = true) (w2 : (Lit.int .i64 b2).wf = true) (w3 : (Lit.int .i64 b3).wf = true) (w4 : (Lit.int .i64 b4).wf = true) (w5 : (Lit.int .i64 b5).wf = true) (w6 : (Lit.int .i64 b6).wf = true) (w7 : (Lit.int .i64 b7).wf = true) (hq1 : IsRowV w a1 len1 cap1 3 z1) (hk1 : ∀ i, i < cap1 * 3 → FkOk w (([.i, .i, .i] : List Fk).getD (i % 3) .i) (z1 i)) :
    Calls Try.prog 6 #[.agg #[.int .i64 b1, .int .i64 b2, .int .i64 b3, .int .i64 b4, .int .i64 b5, .int .i64 b6, .int .i64 b7], .slice a1 len1 cap1] w fun e w' => e = .returned (.bool true) ∧ Below w.heap.size w w' := by
  obtain ⟨v1, E1, s1, L1, g1, l1, f1, r1, d1, i1⟩ := (Arg0.start w).acts18 hq1 hk1
  have h := plays18 (bd := bd0) (fu := 5000) 40 s1 b1 b2 b3 b4 b5 b6 b7 v1 _ d1 i1 (wf64 w1) (wf64 w2) (wf64 w3) (wf64 w4) (wf64 w5) (wf64 w6) (wf64 w7) (by omega)
  exact law_okE bd0_ok mixed (tab_all rho0) t6 g1.hr g1.own (.cons (.agg (xs := [.int .i64 b1, .int .i64 b2, .int .i64 b3, .int .i64 b4, .int .i64 b5, .int .i64 b6, .int .i64 b7]) (.cons vr_int (.cons vr_int (.cons vr_int (.cons vr_int (.cons vr_int (.cons vr_int (.cons vr_int .nil))))))) (by intro c hc; simp only [List.mem_cons, List.not_mem_nil, or_false] at hc; rcases hc with rfl | rfl | rfl | rfl | rfl | rfl | rfl <;> rfl)) (.cons r1 .nil)) (yes_of' h fun _ _ h => h)
end Go.Proofs.Ytgckbcljlkkceaa.pathPlaysRun
