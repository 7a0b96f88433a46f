/- What functions of the program compute, one by one (7). -/
import Derived.Test.YtlgbkpaihjnjpaaGreatCtff
set_option linter.unusedVariables false
set_option linter.unusedSimpArgs false
set_option linter.unusedSectionVars false
set_option linter.constructorNameAsVariable false
set_option linter.defProp false
namespace Go.Proofs.YtlgbkpaihjnjpaaGreat.ctr
open Go Go.Vm Go.RowKit Go.Ranges
def vin (g:List Nat):AV→Prop
 | .sl b _ _ _ _ _=>b∈g
 | _=>True
theorem OwE.vin {α:Type} {s:St} {v:AV} {sz:Nat} {enc:α→List AV} {l:List α} {fp:List Nat} (h:OwE s v sz enc l fp):vin fp v:=by
 rcases h.ow with ⟨rfl,_⟩ | ⟨b,len,lo,ex,k,J,rfl,_,_,_,h5⟩
 ·trivial
 ·show b∈fp
  rcases h5 with ⟨_,rfl⟩ | ⟨m,_,_,rfl⟩ <;> simp
def Hd (Ps:List Obj) (v:AV) (l:List Int):Prop:=∀ s g,SepF s Ps g→RdE s v 1 encB l∧vin g v
theorem Hd.rd {Ps:List Obj} {v:AV} {l:List Int} (h:Hd Ps v l) {s0 s:St} (hS:Sep s0 s Ps):RdE s v 1 encB l:=by
 obtain ⟨fp,h1,_⟩:=hS; exact (h s fp h1).1
theorem Hd.oW {v:AV} {l:List Int} {Ps:List Obj}:Hd (oW v 1 encB l::Ps) v l:=fun s g ⟨f,g',h1,_,_,h4⟩=>by
 refine ⟨OwE.rd h1,?_⟩
 have:=OwE.vin h1
 subst h4
 cases v <;> first | trivial | exact List.mem_append_left _ this
theorem Hd.cons {v:AV} {l:List Int} {P:Obj} {Ps:List Obj} (h:Hd Ps v l):Hd (P::Ps) v l:=fun s g ⟨f,g',h1,h2,_,h4⟩=>by
 obtain ⟨r1,r2⟩:=h s g' h2
 refine ⟨r1,?_⟩
 subst h4
 cases v <;> first | trivial | exact List.mem_append_right _ r2
theorem Hd.held {m:List EvR} {Ps:List Obj} {x:EvR} (hx:x∈m):Hd (oH m::Ps) x.u x.e.d∧Hd (oH m::Ps) x.w x.e.p.d:=by
 have key:∀ (s:St) (f:List Nat) (v:AV) (l:List Int),Held s f v l→RdE s v 1 encB l∧vin f v:=fun s f v l ⟨f',h1,h2⟩=>by
  refine ⟨h2.rd,?_⟩
  have:=OwE.vin h2
  cases v <;> first | trivial | exact h1 _ this
 constructor
 ·intro s g ⟨f,g',h1,_,_,h4⟩
  obtain ⟨r1,r2⟩:=key s f _ _ (h1.2 x hx).1
  refine ⟨r1,?_⟩
  subst h4
  cases hv:x.u <;> rw[hv] at r2 <;> first | trivial | exact List.mem_append_left _ r2
 ·intro s g ⟨f,g',h1,_,_,h4⟩
  obtain ⟨r1,r2⟩:=key s f _ _ (h1.2 x hx).2
  refine ⟨r1,?_⟩
  subst h4
  cases hv:x.w <;> rw[hv] at r2 <;> first | trivial | exact List.mem_append_left _ r2
section
variable {bd : Bd} {h : VF} {fu : Nat} {gv : AV × List Nat}
theorem e_put2 (hs:SortOk h) (n:Nat) {s0:St} (s:St) (p:Nat) (i:IB) (As Ps:List Obj) (from_:Int) (v:AV) (l:List Int) (fin:Bool) (hS:Sep s0 s (oI p i::(As++Ps))) (hi:i.Good) (hf:-10000000000000≤from_∧from_≤10000000000000) (hv:Hd Ps v l) (hl:l.length<3000) (hfu:9000<fu) :
  OutOk (callF bd (tab h).get fu (n+6) 48 [.ptr p 0,num from_,v,.bool fin] s) (fun x s'=>Sep s0 s' (oI p (i.put from_ l fin)::(As++Ps))):=by
 obtain ⟨fp,⟨f,g,h1,h2,h3,rfl⟩,h4,h5⟩:=id hS
 obtain ⟨fq,fr,q1,q2,q3,rfl⟩:=h2.split
 obtain ⟨hr,hin⟩:=hv s fr q2
 obtain ⟨f0,k1,up⟩:=(show Sep s0 s (oI p i::(As++Ps)) from ⟨_,⟨f,_,h1,h2,h3,rfl⟩,h4,h5⟩).hd
 have hvo:∀ f1,IsI s p i f1→(∀ b∈f1,b∉fq++fr)→vout f1 v:=fun f1 _ hd=>by
  cases v <;> first | trivial | exact fun hm=>hd _ hm (List.mem_append_right _ hin)
 have up2:∀ (P':Obj) {s':St} {f':List Nat},P'.P s' f'→Fr s s' f→Nw s f f'→Sep s0 s' (P'::(As++Ps)):=fun P' s' f' k1 k2 k3=>by
  have hd:∀ b∈fq++fr,b∉f:=fun b hb hm=>h3 b hm hb
  refine ⟨f'++(fq++fr),⟨f',_,k1,h2.fr k2 hd,?_,rfl⟩,?_,h5.nn k2 fun b hb=>h4 b (by simp[hb])⟩
  ·intro b hb hm
   rcases k3 b hb with h | h
   ·exact h3 b h hm
   ·have:=h2.lt b hm; omega
  ·intro b hb
   rcases List.mem_append.1 hb with hb | hb
   ·rcases k3 b hb with h | h
    ·exact h4 b (by simp[h])
    ·exact .inr (Nat.le_trans h5.1 h)
   ·exact h4 b (by simp only[List.mem_append] at *; exact .inr hb)
 exact (i_put hs n s p i f from_ v l fin h1 hi hf hr (hvo f h1 h3) (by omega) hfu).mono fun x s' ⟨f',r1,r2,r3,r4⟩=>up2 (oI _ _) r2 r3 r4
theorem pl_new (n:Nat) (s:St):OutOk (callF bd (tab h).get fu (n+2) 25 [] s) (fun x s'=>∃ p fp,Is x (.ptr p 0)∧IsP s' p [] 0 fp∧Fr s s' []∧Nw s [] fp):=by
 refine call_code (t25 h) rfl ?_
 simp (disch:=omega) only [vm0,vm1,vm2,vm3,vm4,vm5,vm6,vm7,vmF,vmT,evo,wr,wrC,frame,Nat.reduceAdd,Nat.reduceMul,Nat.reduceSub,beq_self_eq_true,List.cons_append,List.nil_append,beq_dec,vmI,vc25]
 refine call_ok rfl rfl (s_new n s) ?_
 rintro x s1 ⟨q,rfl,hq,hf1,hS⟩
 simp (disch:=omega) only [vm0,vm1,vm2,vm3,vm4,vm5,vm6,vm7,vmF,vmT,evo,wr,wrC,frame,Nat.reduceAdd,Nat.reduceMul,Nat.reduceSub,beq_self_eq_true,List.cons_append,List.nil_append,beq_dec,vmI]
 have hfa:Fr s1 (s1.new (.cells [.ptr q 0,num 0] .own)) [] := .new
 have hql:=hS.lt q (by simp)
 refine ⟨s1.next,[s1.next,q],rfl,⟨q,[q],get_new_eq rfl,hS.fr hfa (by simp),by simp; omega,rfl,by rw[next_new]; omega⟩,hf1.trans hfa (by simp) (by simp),?_⟩
 intro b hb
 have:=hf1.1
 simp at hb
 rcases hb with rfl | rfl <;> right <;> omega
theorem pl_sent (n:Nat) (s:St) (p:Nat) (l:List R) (t:Int) (fp:List Nat) (hF:IsP s p l t fp):OutOk (callF bd (tab h).get fu (n+1) 64 [.ptr p 0] s) (fun x s'=>Is x (num t)∧Is s' s):=by
 refine call_code (t64 h) rfl ?_
 obtain ⟨q,fq,h1,h2,h3,rfl,h5⟩:=hF
 simp (disch:=omega) only [vm0,vm1,vm2,vm3,vm4,vm5,vm6,vm7,vmF,vmT,evo,wr,wrC,frame,Nat.reduceAdd,Nat.reduceMul,Nat.reduceSub,beq_self_eq_true,List.cons_append,List.nil_append,beq_dec,vmI,vc64,h1]
 exact ⟨rfl,rfl⟩
theorem d_psent (n:Nat) {s0:St} (s:St) (p:Nat) (l:List R) (t:Int) (Ps:List Obj) (hS:Sep s0 s (oP p l t::Ps)):OutOk (callF bd (tab h).get fu (n+1) 64 [.ptr p 0] s) (fun x s'=>Is x (num t)∧Is s' s):=by
 obtain ⟨f,k1,up⟩:=hS.hd
 exact pl_sent n s p l t f k1
set_option maxHeartbeats 2000000 in
theorem n_may (n:Nat) {s0:St} (s:St) (e:Nat) (X:EN) (k:Int) (p:PkV) (u:AV) (Ps:List Obj) (hE:EndS gv s0 s e X Ps) (hX:X.Ok k) (hu:RdE s u 1 encB p.d) (hl:p.d.length≤1000000) (h8:∀ x∈p.d,In8 x) :
  OutOk (callF bd (tab h).get fu (n+5) 45 [.ptr e 0,.agg (p.cs u)] s) (fun x s'=>Is x (.bool (X.may p))∧Fr s s' []):=by
 refine call_code (t45 h) rfl ?_
 obtain ⟨H,hnp,hS⟩:=hE
 have hS1:=hS.newC (p.cs u)
 have hf1:Fr s (s.new (.cells (p.cs u) .own)) [] := .new
 have hu1:=hu.fr0 hf1
 have hchk:=p_check (bd:=bd) (h:=h) (fu:=fu) (n+1) _ p u hu1 hl h8
 have g1:=hS1.getC
 have g2:=hS1.swap.getC
 have hM:X.may p=(p.right&&decide (0≤p.pt∧p.pt<X.P.length)&&(match X.P[p.pt.toNat]? with
  | some t=>t.up&&(if p.k=1 then decide (X.side=1) else if p.k=2 then decide (X.side=0)&&decide (p.of_<t.sent) else if p.k=3 then t.jn else decide (p.of_<t.sent)&&decide (p.se≤X.ps))
  | none=>false)):=rfl
 rw[hM]
 have hrk:=@right_k p
 obtain ⟨pk,pt,nr,of_,fr,d,fin,se,li⟩:=p
 dsimp only[PkV.cs,EN.cells] at *
 simp (disch:=omega) only [vm0,vm1,vm2,vm3,vm4,vm5,vm6,vm7,vmF,vmT,evo,wr,wrC,frame,Nat.reduceAdd,Nat.reduceMul,Nat.reduceSub,beq_self_eq_true,List.cons_append,List.nil_append,beq_dec,vmI,vc45,g1]
 generalize s.new (.cells [num pk,num pt,num nr,num of_,num fr,u,.bool fin,num se,num li] .own)=s1 at *
 refine call_ok rfl rfl hchk ?_
 rintro y s2 ⟨rfl,hf2⟩
 have hS2:=hS1.fr hf2
 have hf02:=hf1.tr hf2 (by simp[Nw])
 have g3:=hS2.getC
 have g4:=hS2.swap.getC
 cases hr:PkV.right ⟨pk,pt,nr,of_,fr,d,fin,se,li⟩
 ·simp only[Bool.false_eq_true,if_false]
  simp (disch:=omega) only [vm0,vm1,vm2,vm3,vm4,vm5,vm6,vm7,vmF,vmT,evo,wr,wrC,frame,Nat.reduceAdd,Nat.reduceMul,Nat.reduceSub,beq_self_eq_true,List.cons_append,List.nil_append,beq_dec,vmI,vmU,g1,g2,g3,g4]
  exact ⟨rfl,hf02⟩
 obtain ⟨r1,r2,r3,r4,r5,r6,r7,r8,r9⟩:=hrk hr
 simp only[if_true]
 simp (disch:=omega) only [vm0,vm1,vm2,vm3,vm4,vm5,vm6,vm7,vmF,vmT,evo,wr,wrC,frame,Nat.reduceAdd,Nat.reduceMul,Nat.reduceSub,beq_self_eq_true,List.cons_append,List.nil_append,beq_dec,vmI,vmU,g1,g2,g3,g4]
 refine call_ok rfl rfl (n_is (n+3) s2 e X pt (oC s.next [num pk,num pt,num nr,num of_,num fr,u,.bool fin,num se,num li]::Ps) ⟨H,hnp,((hS2.re ((List.perm_middle (l₁:=[_])).trans (.cons _ ((List.perm_middle (l₁:=[_])).trans (.cons _ ((List.perm_middle (l₁:=[_])).trans (.cons _ ((List.perm_middle (l₁:=[_])).trans (.cons _ ((List.perm_middle (l₁:=[_])).trans (.cons _ ((List.perm_middle (l₁:=[_])).trans (.cons _ ((List.perm_middle (l₁:=[_])).trans (.cons _ ((List.perm_middle (l₁:=[_])).trans (.cons _ ((List.perm_middle (l₁:=[_])).trans (.cons _ (.refl _)))))))))))))))))))))⟩) ?_
 rintro y s3 ⟨rfl,rfl⟩
 by_cases hz:0≤pt∧pt<X.P.length
 case neg =>
  rw[decide_eq_false hz,Bool.false_and]
  simp (disch:=omega) only [vm0,vm1,vm2,vm3,vm4,vm5,vm6,vm7,vmF,vmT,evo,wr,wrC,frame,Nat.reduceAdd,Nat.reduceMul,Nat.reduceSub,beq_self_eq_true,List.cons_append,List.nil_append,beq_dec,vmI,vmU,g1,g2,g3,g4]
  exact ⟨rfl,hf02⟩
 obtain ⟨i,rfl⟩ : ∃ i:Nat,pt=(i:Int):=⟨pt.toNat,by omega⟩
 have hil:i<X.P.length:=by omega
 obtain ⟨q,t,R,ht,hq,hT,e1,e2⟩:=EndS.at hnp (((hS2.re ((List.perm_middle (l₁:=[_])).trans (.cons _ ((List.perm_middle (l₁:=[_])).trans (.cons _ ((List.perm_middle (l₁:=[_])).trans (.cons _ (.refl _)))))))))) hil
 have svp:=Sep.sameV (((hS2.re ((List.perm_middle (l₁:=[_,_,_])).trans (.cons _ (.refl _))))))
 rw[decide_eq_true hz,Bool.true_and,Int.toNat_natCast,ht]
 dsimp only
 simp (disch:=omega) only [vm0,vm1,vm2,vm3,vm4,vm5,vm6,vm7,vmF,vmT,evo,wr,wrC,frame,Nat.reduceAdd,Nat.reduceMul,Nat.reduceSub,beq_self_eq_true,List.cons_append,List.nil_append,beq_dec,vmI,vmU,g1,g2,g3,g4,e1,e2]
 refine call_ok rfl rfl (m_isup (n+3) s3 q t _ hT) ?_
 rintro y s4 ⟨rfl,rfl⟩
 cases hup:t.up
 ·simp (disch:=omega) only [vm0,vm1,vm2,vm3,vm4,vm5,vm6,vm7,vmF,vmT,evo,wr,wrC,frame,Nat.reduceAdd,Nat.reduceMul,Nat.reduceSub,beq_self_eq_true,List.cons_append,List.nil_append,beq_dec,vmI,vmU,g1,g2,g3,g4,e1,e2,svp]
  exact ⟨rfl,hf02⟩
 simp (disch:=omega) only [vm0,vm1,vm2,vm3,vm4,vm5,vm6,vm7,vmF,vmT,evo,wr,wrC,frame,Nat.reduceAdd,Nat.reduceMul,Nat.reduceSub,beq_self_eq_true,List.cons_append,List.nil_append,beq_dec,vmI,vmU,g1,g2,g3,g4,e1,e2,svp]
 by_cases k1:pk=1
 ·rw[if_pos k1]
  subst k1
  by_cases hsd:X.side=1
  ·rw[decide_eq_true hsd]
   simp (disch:=omega) only [vm0,vm1,vm2,vm3,vm4,vm5,vm6,vm7,vmF,vmT,evo,wr,wrC,frame,Nat.reduceAdd,Nat.reduceMul,Nat.reduceSub,beq_self_eq_true,List.cons_append,List.nil_append,beq_dec,vmI,vc45_0,vmU,g3,g4]
   exact ⟨rfl,hf02⟩
  ·rw[decide_eq_false hsd]
   simp (disch:=omega) only [vm0,vm1,vm2,vm3,vm4,vm5,vm6,vm7,vmF,vmT,evo,wr,wrC,frame,Nat.reduceAdd,Nat.reduceMul,Nat.reduceSub,beq_self_eq_true,List.cons_append,List.nil_append,beq_dec,vmI,vc45_0,vmU,g3,g4]
   exact ⟨rfl,hf02⟩
 rw[if_neg k1]
 by_cases k2:pk=2
 ·rw[if_pos k2]
  subst k2
  by_cases hsd:X.side=0
  ·rw[decide_eq_true hsd]
   simp (disch:=omega) only [vm0,vm1,vm2,vm3,vm4,vm5,vm6,vm7,vmF,vmT,evo,wr,wrC,frame,Nat.reduceAdd,Nat.reduceMul,Nat.reduceSub,beq_self_eq_true,List.cons_append,List.nil_append,beq_dec,vmI,vc45_0,vmU,g3,g4]
   refine call_ok rfl rfl (m_sent (n+3) s4 q t _ hT) ?_
   rintro y s5 ⟨rfl,rfl⟩
   by_cases ho:of_<t.sent
   ·rw[decide_eq_true ho]
    simp (disch:=omega) only [vm0,vm1,vm2,vm3,vm4,vm5,vm6,vm7,vmF,vmT,evo,wr,wrC,frame,Nat.reduceAdd,Nat.reduceMul,Nat.reduceSub,beq_self_eq_true,List.cons_append,List.nil_append,beq_dec,vmI,vmU,g3,g4]
    exact ⟨rfl,hf02⟩
   ·rw[decide_eq_false ho]
    simp (disch:=omega) only [vm0,vm1,vm2,vm3,vm4,vm5,vm6,vm7,vmF,vmT,evo,wr,wrC,frame,Nat.reduceAdd,Nat.reduceMul,Nat.reduceSub,beq_self_eq_true,List.cons_append,List.nil_append,beq_dec,vmI,vmU,g3,g4]
    exact ⟨rfl,hf02⟩
  ·rw[decide_eq_false hsd]
   simp (disch:=omega) only [vm0,vm1,vm2,vm3,vm4,vm5,vm6,vm7,vmF,vmT,evo,wr,wrC,frame,Nat.reduceAdd,Nat.reduceMul,Nat.reduceSub,beq_self_eq_true,List.cons_append,List.nil_append,beq_dec,vmI,vc45_0,vmU,g3,g4]
   exact ⟨rfl,hf02⟩
 rw[if_neg k2]
 by_cases k3:pk=3
 ·rw[if_pos k3]
  subst k3
  simp (disch:=omega) only [vm0,vm1,vm2,vm3,vm4,vm5,vm6,vm7,vmF,vmT,evo,wr,wrC,frame,Nat.reduceAdd,Nat.reduceMul,Nat.reduceSub,beq_self_eq_true,List.cons_append,List.nil_append,beq_dec,vmI,vc45_0,vmU,g3,g4]
  refine call_ok rfl rfl (m_joined (n+3) s4 q t _ hT) ?_
  rintro y s5 ⟨rfl,rfl⟩
  simp (disch:=omega) only [vm0,vm1,vm2,vm3,vm4,vm5,vm6,vm7,vmF,vmT,evo,wr,wrC,frame,Nat.reduceAdd,Nat.reduceMul,Nat.reduceSub,beq_self_eq_true,List.cons_append,List.nil_append,beq_dec,vmI]
  exact ⟨rfl,hf02⟩
 rw[if_neg k3]
 simp (disch:=omega) only [vm0,vm1,vm2,vm3,vm4,vm5,vm6,vm7,vmF,vmT,evo,wr,wrC,frame,Nat.reduceAdd,Nat.reduceMul,Nat.reduceSub,beq_self_eq_true,List.cons_append,List.nil_append,beq_dec,vmI,vc45_0,vc45_1,vmU,g3,g4]
 refine call_ok rfl rfl (m_sent (n+3) s4 q t _ hT) ?_
 rintro y s5 ⟨rfl,rfl⟩
 by_cases ho:of_<t.sent
 ·rw[decide_eq_true ho]
  simp (disch:=omega) only [vm0,vm1,vm2,vm3,vm4,vm5,vm6,vm7,vmF,vmT,evo,wr,wrC,frame,Nat.reduceAdd,Nat.reduceMul,Nat.reduceSub,beq_self_eq_true,List.cons_append,List.nil_append,beq_dec,vmI,vmU,g3,g4]
  refine call_ok rfl rfl (d_psent (n+3) s5 H.pb X.pl X.ps _ (Sep.up6 hS2)) ?_
  rintro y s6 ⟨rfl,rfl⟩
  by_cases hse:se≤X.ps
  ·rw[decide_eq_true hse]
   simp (disch:=omega) only [vm0,vm1,vm2,vm3,vm4,vm5,vm6,vm7,vmF,vmT,evo,wr,wrC,frame,Nat.reduceAdd,Nat.reduceMul,Nat.reduceSub,beq_self_eq_true,List.cons_append,List.nil_append,beq_dec,vmI,vmU,g3,g4]
   exact ⟨rfl,hf02⟩
  ·rw[decide_eq_false hse]
   simp (disch:=omega) only [vm0,vm1,vm2,vm3,vm4,vm5,vm6,vm7,vmF,vmT,evo,wr,wrC,frame,Nat.reduceAdd,Nat.reduceMul,Nat.reduceSub,beq_self_eq_true,List.cons_append,List.nil_append,beq_dec,vmI,vmU,g3,g4]
   exact ⟨rfl,hf02⟩
 ·rw[decide_eq_false ho]
  simp (disch:=omega) only [vm0,vm1,vm2,vm3,vm4,vm5,vm6,vm7,vmF,vmT,evo,wr,wrC,frame,Nat.reduceAdd,Nat.reduceMul,Nat.reduceSub,beq_self_eq_true,List.cons_append,List.nil_append,beq_dec,vmI,vmU,g3,g4]
  exact ⟨rfl,hf02⟩
end
theorem EndS.drop {gv:AV×List Nat} {s0 s:St} {e:Nat} {X:EN} {P:Obj} {Ps:List Obj} (h:EndS gv s0 s e X (P::Ps)):EndS gv s0 s e X Ps:=by
 obtain ⟨H,hnp,hS⟩:=h
 exact ⟨H,hnp,((hS.re ((List.perm_middle (l₁:=[_,_,_,_,_,_,_,_,_])).trans (.cons _ (.refl _)))).drop)⟩
section
variable {bd : Bd} {h : VF} {fu : Nat} {gv : AV × List Nat}
set_option maxHeartbeats 4000000 in
theorem n_come (hs:SortOk h) (n:Nat) {s0:St} (s:St) (e:Nat) (X:EN) (k:Int) (p:PkV) (u:AV) (Ps:List Obj) (hE:EndS gv s0 s e X Ps) (hX:X.Ok k) (hk:k+1≤500000) (hu:Hd Ps u p.d) (hl:p.d.length≤1000000) (h8:∀ x∈p.d,In8 x) (hfu:250000<fu) :
  OutOk (callF bd (tab h).get fu (n+8) 14 [.ptr e 0,.agg (p.cs u)] s) (fun x s'=>Is x (.bool (X.may p))∧EndS gv s0 s' e (X.come p) Ps):=by
 refine call_code (t14 h) rfl ?_
 have hs0:(s.new (.cells (p.cs u) .own)).heap.get s.next=some (.cells (p.cs u) .own):=get_new_eq rfl
 obtain ⟨H0,hnp0,hS0⟩:=hE
 have hS1:=hS0.newC (p.cs u)
 have hE1:EndS gv s0 _ e X (oC s.next (p.cs u)::Ps):=⟨H0,hnp0,((hS1.re ((List.perm_middle (l₁:=[_])).trans (.cons _ ((List.perm_middle (l₁:=[_])).trans (.cons _ ((List.perm_middle (l₁:=[_])).trans (.cons _ ((List.perm_middle (l₁:=[_])).trans (.cons _ ((List.perm_middle (l₁:=[_])).trans (.cons _ ((List.perm_middle (l₁:=[_])).trans (.cons _ ((List.perm_middle (l₁:=[_])).trans (.cons _ ((List.perm_middle (l₁:=[_])).trans (.cons _ ((List.perm_middle (l₁:=[_])).trans (.cons _ (.refl _)))))))))))))))))))))⟩
 have hu1:Hd (oC s.next (p.cs u)::Ps) u p.d:=hu.cons
 have hmay:=n_may (bd:=bd) (h:=h) (fu:=fu) (n+2) _ e X k p u _ hE1 hX (hu1.rd (EndJ.tail hE1)) hl h8
 have hC:X.come p=if X.may p then (match X.P[p.pt.toNat]? with
  | some t=>(X.note (evP 4 p)).heard p t
  | none=>X) else X:=rfl
 have hM:X.may p=(p.right&&decide (0≤p.pt∧p.pt<X.P.length)&&(match X.P[p.pt.toNat]? with
  | some t=>t.up&&(if p.k=1 then decide (X.side=1) else if p.k=2 then decide (X.side=0)&&decide (p.of_<t.sent) else if p.k=3 then t.jn else decide (p.of_<t.sent)&&decide (p.se≤X.ps))
  | none=>false)):=rfl
 rw[hC]
 have hrk:=@right_k p
 have hft:=@evP_ft 4 p
 obtain ⟨pk,pt,nr,of_,fr,d,fin,se,li⟩:=p
 dsimp only[PkV.cs] at *
 simp (disch:=omega) only [vm0,vm1,vm2,vm3,vm4,vm5,vm6,vm7,vmF,vmT,evo,wr,wrC,frame,Nat.reduceAdd,Nat.reduceMul,Nat.reduceSub,beq_self_eq_true,List.cons_append,List.nil_append,beq_dec,vmI,vc14,hs0]
 generalize s.new (.cells [num pk,num pt,num nr,num of_,num fr,u,.bool fin,num se,num li] .own)=s1 at *
 refine call_ok rfl rfl hmay ?_
 rintro y s2 ⟨rfl,hf2⟩
 have hE2:=EndS.fr hE1 hf2
 cases hm:X.may ⟨pk,pt,nr,of_,fr,d,fin,se,li⟩
 ·obtain ⟨H,g1,hmt⟩:=EndS.met (bd:=bd) (h:=h) (fu:=fu) hE2
  dsimp only[EN.cells] at g1
  simp only[Bool.false_eq_true,if_false]
  simp (disch:=omega) only [vm0,vm1,vm2,vm3,vm4,vm5,vm6,vm7,vmF,vmT,evo,wr,wrC,frame,Nat.reduceAdd,Nat.reduceMul,Nat.reduceSub,beq_self_eq_true,List.cons_append,List.nil_append,beq_dec,vmI,g1]
  refine call_ok rfl rfl (hmt (n+4) 4 4 1 rfl (by omega) (by omega)) ?_
  rintro y s3 ⟨H3,hnp3,hS3⟩
  simp (disch:=omega) only [vm0,vm1,vm2,vm3,vm4,vm5,vm6,vm7,vmF,vmT,evo,wr,wrC,frame,Nat.reduceAdd,Nat.reduceMul,Nat.reduceSub,beq_self_eq_true,List.cons_append,List.nil_append,beq_dec,vmI]
  exact ⟨rfl,H3,hnp3,((hS3.re ((List.perm_middle (l₁:=[_,_,_,_,_,_,_,_,_])).trans (.cons _ (.refl _)))).drop)⟩
 have hm2:=hm
 rw[hM] at hm2
 simp only[Bool.and_eq_true,decide_eq_true_eq] at hm2
 obtain ⟨⟨hr,hz⟩,_⟩:=hm2
 obtain ⟨r1,r2,r3,r4,r5,r6,r7,r8,r9⟩:=hrk hr
 have hft:=hft r7 h8
 clear hM hrk hmay hE1 hS1 hS0
 obtain ⟨i,rfl⟩ : ∃ i:Nat,pt=(i:Int):=⟨pt.toNat,by omega⟩
 have hil:i<X.P.length:=by omega
 obtain ⟨t,ht⟩ : ∃ t,X.P[i]?=some t:=⟨_,List.getElem?_eq_getElem hil⟩
 rw[Int.toNat_natCast,ht]
 simp only[if_true]
 have hN:=hX.note hft hk
 obtain ⟨H2,hnp2,hS2⟩:=id hE2
 have g2:=Sep.getC (((hS2.re ((List.perm_middle (l₁:=[_,_,_,_,_,_,_,_,_])).trans (.cons _ (.refl _))))))
 simp (disch:=omega) only [vm0,vm1,vm2,vm3,vm4,vm5,vm6,vm7,vmF,vmT,evo,wr,wrC,frame,Nat.reduceAdd,Nat.reduceMul,Nat.reduceSub,beq_self_eq_true,List.cons_append,List.nil_append,beq_dec,vmI,g2]
 refine call_ok rfl rfl (n_note (n+3) 0 s2 e X (evP 4 ⟨pk,i,nr,of_,fr,d,fin,se,li⟩) .nils u _ hE2 (.nil encB_w (by omega)) (hu1.rd (EndJ.tail hE2)) (by simp[evP]) hl hX.log) ?_
 rintro y s3 hE3
 obtain ⟨H3,g3,hmt⟩:=EndS.met (bd:=bd) (h:=h) (fu:=fu) hE3
 dsimp only[EN.cells,EN.note] at g3
 simp (disch:=omega) only [vm0,vm1,vm2,vm3,vm4,vm5,vm6,vm7,vmF,vmT,evo,wr,wrC,frame,Nat.reduceAdd,Nat.reduceMul,Nat.reduceSub,beq_self_eq_true,List.cons_append,List.nil_append,beq_dec,vmI,g3]
 refine call_ok rfl rfl (hmt (n+4) 3 3 1 rfl (by omega) (by omega)) ?_
 rintro y s4 hE4
 have htN:(X.note (evP 4 ⟨pk,i,nr,of_,fr,d,fin,se,li⟩)).P[i]?=some t:=ht
 generalize X.note (evP 4 ⟨pk,i,nr,of_,fr,d,fin,se,li⟩)=Y at *
 have hY:=hN
 obtain ⟨H4,hnp4,hS4⟩:=id hE4
 have hYl:i<Y.P.length:=(List.getElem?_eq_some_iff.1 htN).1
 obtain ⟨q,t',R,ht',hq,hT,e1,e2⟩:=EndS.at hnp4 hS4 hYl
 rw[htN] at ht'
 obtain rfl:t=t':=by simpa using ht'
 have g4:=hS4.getC
 have g5:=Sep.getC (((hS4.re ((List.perm_middle (l₁:=[_,_,_,_,_,_,_,_,_])).trans (.cons _ (.refl _))))))
 have svp:=Sep.sameV (((hS4.re ((List.perm_middle (l₁:=[_,_])).trans (.cons _ (.refl _))))))
 dsimp only[EN.cells] at g4
 simp (disch:=omega) only [vm0,vm1,vm2,vm3,vm4,vm5,vm6,vm7,vmF,vmT,evo,wr,wrC,frame,Nat.reduceAdd,Nat.reduceMul,Nat.reduceSub,beq_self_eq_true,List.cons_append,List.nil_append,beq_dec,vmI,g4,g5,e1,e2,svp]
 have hK:=hY.at htN
 have hks:=hK.s
 have hkf:=hK.f
 have hH:Y.heard ⟨pk,i,nr,of_,fr,d,fin,se,li⟩ t=if pk=1 then (Y.setP i { t with jn:=true }).say (ansP 2 i nr 0 0)
  else if pk=2 then (Y.setP i { t with jn:=true }).pump
  else if pk=3 then EN.say { Y with i:=Y.i.put fr d fin } (ansP 4 i nr (Y.i.put fr d fin).seen (Y.i.put fr d fin).limit)
  else EN.pump { Y.setP i (t.acked of_ Y.now) with o:=Y.o.ack se,limit:=max Y.limit li }:=rfl
 rw[hH]
 have hJ:(Y.setP i { t with jn:=true }).Ok (k+1):=hY.setPt htN ⟨hK.g,hK.w,hK.s,hK.f,hK.a,hK.r⟩ rfl
 have htJ:(Y.setP i { t with jn:=true }).P[i]?=some { t with jn:=true }:=by simp[EN.setP,hYl]
 obtain ⟨Rr,hFo,back⟩:=Sep.focus (((hS4.re ((List.perm_middle (l₁:=[_])).trans (.cons _ (.refl _)))))) hq htN
 by_cases k1:pk=1
 ·rw[if_pos k1]
  subst k1
  simp (disch:=omega) only [vm0,vm1,vm2,vm3,vm4,vm5,vm6,vm7,vmF,vmT,evo,wr,wrC,frame,Nat.reduceAdd,Nat.reduceMul,Nat.reduceSub,beq_self_eq_true,List.cons_append,List.nil_append,beq_dec,vmI,vc14_0]
  refine call_ok rfl rfl (m_join (n+6) s4 q t _ hFo) ?_
  rintro y s5 hS5
  have hS6:=back hS5
  have hE6:EndS gv s0 s5 e (Y.setP i { t with jn:=true }) (oC s.next [num 1,num i,num nr,num of_,num fr,u,.bool fin,num se,num li]::Ps):=⟨H4,by rw[hnp4]; simp[EN.setP],hS6.swap⟩
  have g6:=Sep.getC (((hS6.re ((List.perm_middle (l₁:=[_,_,_,_,_,_,_,_,_])).trans (.cons _ (.refl _))))))
  simp (disch:=omega) only [vm0,vm1,vm2,vm3,vm4,vm5,vm6,vm7,vmF,vmT,evo,wr,wrC,frame,Nat.reduceAdd,Nat.reduceMul,Nat.reduceSub,beq_self_eq_true,List.cons_append,List.nil_append,beq_dec,vmI,g6]
  refine call_ok rfl rfl (n_say (n+2) s5 e _ (ansP 2 i nr 0 0) { t with jn:=true } .nils _ hE6 (by simp[ansP]) (by simpa [ansP] using htJ) hks (fun s' _ => .nil encB_w (by omega)) (by simp[ansP]) hJ.log) ?_
  rintro y s7 ⟨rfl,hE7⟩
  simp (disch:=omega) only [vm0,vm1,vm2,vm3,vm4,vm5,vm6,vm7,vmF,vmT,evo,wr,wrC,frame,Nat.reduceAdd,Nat.reduceMul,Nat.reduceSub,beq_self_eq_true,List.cons_append,List.nil_append,beq_dec,vmI]
  exact ⟨rfl,hE7.drop⟩
 rw[if_neg k1]
 by_cases k2:pk=2
 ·rw[if_pos k2]
  subst k2
  simp (disch:=omega) only [vm0,vm1,vm2,vm3,vm4,vm5,vm6,vm7,vmF,vmT,evo,wr,wrC,frame,Nat.reduceAdd,Nat.reduceMul,Nat.reduceSub,beq_self_eq_true,List.cons_append,List.nil_append,beq_dec,vmI,vc14_0]
  refine call_ok rfl rfl (m_join (n+6) s4 q t _ hFo) ?_
  rintro y s5 hS5
  have hS6:=back hS5
  have hE6:EndS gv s0 s5 e (Y.setP i { t with jn:=true }) (oC s.next [num 2,num i,num nr,num of_,num fr,u,.bool fin,num se,num li]::Ps):=⟨H4,by rw[hnp4]; simp[EN.setP],hS6.swap⟩
  simp (disch:=omega) only [vm0,vm1,vm2,vm3,vm4,vm5,vm6,vm7,vmF,vmT,evo,wr,wrC,frame,Nat.reduceAdd,Nat.reduceMul,Nat.reduceSub,beq_self_eq_true,List.cons_append,List.nil_append,beq_dec,vmI]
  refine call_ok rfl rfl (n_pump n s5 e _ (k+1) Ps hE6.drop hJ hfu) ?_
  rintro y s7 hE7
  simp (disch:=omega) only [vm0,vm1,vm2,vm3,vm4,vm5,vm6,vm7,vmF,vmT,evo,wr,wrC,frame,Nat.reduceAdd,Nat.reduceMul,Nat.reduceSub,beq_self_eq_true,List.cons_append,List.nil_append,beq_dec,vmI]
  exact ⟨rfl,hE7⟩
 rw[if_neg k2]
 by_cases k3:pk=3
 ·rw[if_pos k3]
  subst k3
  have r8':=r8 rfl
  have suv:=sv_sl (hu.rd (EndJ.tail hE4).drop).rd.sl
  simp (disch:=omega) only [vm0,vm1,vm2,vm3,vm4,vm5,vm6,vm7,vmF,vmT,evo,wr,wrC,frame,Nat.reduceAdd,Nat.reduceMul,Nat.reduceSub,beq_self_eq_true,List.cons_append,List.nil_append,beq_dec,vmI,vc14_0,g4,g5,suv]
  refine call_ok rfl rfl (e_put2 hs (n+1) s4 H4.ib Y.i [_,_,_,_,_,_,_,_,_] Ps fr u d fin (((hS4.re ((List.perm_middle (l₁:=[_,_,_,_,_,_])).trans (.cons _ (.refl _)))))) hY.ig (by omega) hu (by omega) (by omega)) ?_
  rintro y s5 hS5
  have hP:=hY.puts (fin:=fin) h8 r8'.2.2
  have hE5:EndS gv s0 s5 e { Y with i:=Y.i.put fr d fin } (oC s.next [num 3,num i,num nr,num of_,num fr,u,.bool fin,num se,num li]::Ps):=⟨H4,hnp4,Sep.dn6 hS5⟩
  have g6:=hS5.swap.getC
  have g7:=Sep.getC (((hS5.re ((List.perm_middle (l₁:=[_,_,_,_,_,_,_,_,_])).trans (.cons _ (.refl _))))))
  dsimp only[EN.cells] at g6
  simp (disch:=omega) only [vm0,vm1,vm2,vm3,vm4,vm5,vm6,vm7,vmF,vmT,evo,wr,wrC,frame,Nat.reduceAdd,Nat.reduceMul,Nat.reduceSub,beq_self_eq_true,List.cons_append,List.nil_append,beq_dec,vmI,g4,g5,g6,g7,suv]
  refine call_ok rfl rfl (e_seen (n+3) s5 H4.ib _ _ hS5 hP.ig) ?_
  rintro y s6 ⟨rfl,hS6⟩
  have g8:=hS6.swap.getC
  have g9:=Sep.getC (((hS6.re ((List.perm_middle (l₁:=[_,_,_,_,_,_,_,_,_])).trans (.cons _ (.refl _))))))
  dsimp only[EN.cells] at g8
  simp (disch:=omega) only [vm0,vm1,vm2,vm3,vm4,vm5,vm6,vm7,vmF,vmT,evo,wr,wrC,frame,Nat.reduceAdd,Nat.reduceMul,Nat.reduceSub,beq_self_eq_true,List.cons_append,List.nil_append,beq_dec,vmI,g6,g7,g8,g9]
  refine call_ok rfl rfl (e_limit (n+6) s6 H4.ib _ _ hS6 hP.ig) ?_
  rintro y s7 ⟨rfl,rfl⟩
  have hE7:EndS gv s0 s7 e { Y with i:=Y.i.put fr d fin } (oC s.next [num 3,num i,num nr,num of_,num fr,u,.bool fin,num se,num li]::Ps):=⟨H4,hnp4,Sep.dn6 hS6⟩
  simp (disch:=omega) only [vm0,vm1,vm2,vm3,vm4,vm5,vm6,vm7,vmF,vmT,evo,wr,wrC,frame,Nat.reduceAdd,Nat.reduceMul,Nat.reduceSub,beq_self_eq_true,List.cons_append,List.nil_append,beq_dec,vmI,g6,g7,g8,g9]
  refine call_ok rfl rfl (n_say (n+2) s7 e _ (ansP 4 i nr (Y.i.put fr d fin).seen (Y.i.put fr d fin).limit) t .nils _ hE7 (by simp[ansP]) (by simpa [ansP] using htN) hks (fun s' _ => .nil encB_w (by omega)) (by simp[ansP]) hP.log) ?_
  rintro y s8 ⟨rfl,hE8⟩
  simp (disch:=omega) only [vm0,vm1,vm2,vm3,vm4,vm5,vm6,vm7,vmF,vmT,evo,wr,wrC,frame,Nat.reduceAdd,Nat.reduceMul,Nat.reduceSub,beq_self_eq_true,List.cons_append,List.nil_append,beq_dec,vmI,g6,g7,g8,g9]
  exact ⟨rfl,hE8.drop⟩
 rw[if_neg k3]
 have k4:pk=4:=by omega
 subst k4
 have r9':=r9 rfl
 have hA:=hK.acked of_ Y.now
 have hYn:=hY.now
 have hYb:=hY.bl
 have hYl2:=hY.lim
 have hAk:=hY.acks (i:=i) htN hA.1 hA.2 (se:=se) (li:=li) (by omega)
 simp (disch:=omega) only [vm0,vm1,vm2,vm3,vm4,vm5,vm6,vm7,vmF,vmT,evo,wr,wrC,frame,Nat.reduceAdd,Nat.reduceMul,Nat.reduceSub,beq_self_eq_true,List.cons_append,List.nil_append,beq_dec,vmI,vc14_0,g4,g5]
 refine call_ok rfl rfl (m_acked (n+2) s4 q t of_ Y.now _ hFo hK.g hK.w (by omega) (by omega) (by omega) hK.a) ?_
 rintro y s5 hS5
 have hS6:=back hS5
 have g6:=hS6.swap.getC
 have g7:=Sep.getC (((hS6.re ((List.perm_middle (l₁:=[_,_,_,_,_,_,_,_,_])).trans (.cons _ (.refl _))))))
 dsimp only[EN.cells] at g6
 simp (disch:=omega) only [vm0,vm1,vm2,vm3,vm4,vm5,vm6,vm7,vmF,vmT,evo,wr,wrC,frame,Nat.reduceAdd,Nat.reduceMul,Nat.reduceSub,beq_self_eq_true,List.cons_append,List.nil_append,beq_dec,vmI,g4,g5,g6,g7]
 refine call_ok rfl rfl (d_ack (n+5) s5 H4.ob Y.o se _ hS6.up4 (by omega)) ?_
 rintro y s6 ⟨rfl,hS7⟩
 have g8:=Sep.getC (((hS7.re ((List.perm_middle (l₁:=[_,_])).trans (.cons _ (.refl _))))))
 have g9:=Sep.getC (((hS7.re ((List.perm_middle (l₁:=[_,_,_,_,_,_,_,_,_])).trans (.cons _ (.refl _))))))
 dsimp only[EN.cells] at g8
 simp (disch:=omega) only [vm0,vm1,vm2,vm3,vm4,vm5,vm6,vm7,vmF,vmT,evo,wr,wrC,frame,Nat.reduceAdd,Nat.reduceMul,Nat.reduceSub,beq_self_eq_true,List.cons_append,List.nil_append,beq_dec,vmI,g6,g7,g8,g9]
 have hS8:=Sep.setC (((hS7.re ((List.perm_middle (l₁:=[_,_])).trans (.cons _ (.refl _)))))) [num Y.c.pa,num Y.c.bu,num Y.c.wi,num Y.c.ch,num Y.c.mo,num Y.c.fi,num Y.c.sc,num Y.side,num Y.now,H4.vp,H4.vd,num (max Y.limit li),.ptr H4.ob 0,.ptr H4.pb 0,.ptr H4.ib 0,.ptr H4.sb 0,H4.vs,H4.vl,.ptr H4.mb 0]
 generalize s6.put e (some (.cells [num Y.c.pa,num Y.c.bu,num Y.c.wi,num Y.c.ch,num Y.c.mo,num Y.c.fi,num Y.c.sc,num Y.side,num Y.now,H4.vp,H4.vd,num (max Y.limit li),.ptr H4.ob 0,.ptr H4.pb 0,.ptr H4.ib 0,.ptr H4.sb 0,H4.vs,H4.vl,.ptr H4.mb 0] .own))=s7 at *
 have hE7:EndS gv s0 s7 e { Y.setP i (t.acked of_ Y.now) with o:=Y.o.ack se,limit:=max Y.limit li } Ps:=⟨H4,by rw[hnp4]; simp[EN.setP],((hS8.re ((List.perm_middle (l₁:=[_,_,_,_,_,_,_,_,_])).trans (.cons _ (.cons _ ((List.perm_middle (l₁:=[_])).trans (.cons _ ((List.perm_middle (l₁:=[_])).trans (.cons _ ((List.perm_middle (l₁:=[_])).trans (.cons _ (.refl _))))))))))).drop)⟩
 refine call_ok rfl rfl (n_pump n s7 e _ (k+1) Ps hE7 hAk hfu) ?_
 rintro y s8 hE8
 simp (disch:=omega) only [vm0,vm1,vm2,vm3,vm4,vm5,vm6,vm7,vmF,vmT,evo,wr,wrC,frame,Nat.reduceAdd,Nat.reduceMul,Nat.reduceSub,beq_self_eq_true,List.cons_append,List.nil_append,beq_dec,vmI]
 exact ⟨rfl,hE8⟩
end
structure CF.Vd (c:CF):Prop where
 pa:1≤c.pa∧c.pa≤3
 bu:1≤c.bu∧c.bu≤400
 wi:1≤c.wi∧c.wi≤400
 ch:1≤c.ch∧c.ch≤64
 mo:1≤c.mo∧c.mo≤16
 fi:1≤c.fi∧c.fi≤64
 sc:1≤c.sc∧c.sc≤3
def EN.new (c:CF) (side:Int):EN:=⟨c,side,0,List.replicate c.pa.toNat (PT.new c.mo c.fi),List.replicate c.pa.toNat 0,c.wi,⟨[],min (max c.bu 1) 400,0,false⟩,[],0,⟨[],[],min (max c.wi 1) 400,0,0,false⟩,0,[]⟩
theorem EN.Ok.new {c : CF} (hc : c.Vd) (side : Int) : (EN.new c side).Ok 0 := by
  have hp := hc.pa
  have hw := hc.wi
  have hf := hc.fi
  exact { n := by show (List.replicate c.pa.toNat (PT.new c.mo c.fi)).length ≤ 3; rw [List.length_replicate]; omega
          due := by show (List.replicate c.pa.toNat (0 : Int)).length = (List.replicate c.pa.toNat (PT.new c.mo c.fi)).length; rw [List.length_replicate, List.length_replicate]
          P := fun t ht => by
            obtain ⟨_, rfl⟩ := List.mem_replicate.1 ht
            exact ⟨GS.new_ok _, WS.new_ok _, ⟨by show (0 : Int) ≤ 0; omega, by show (0 : Int) ≤ 65536; omega⟩, by show ((([] : List O).length : Nat) : Int) ≤ 0; simp, by show ∀ o ∈ ([] : List O), _; simp, by show ∀ o ∈ ([] : List O), _; simp⟩
          now := ⟨by show (0 : Int) ≤ 0; omega, by show (0 : Int) ≤ 1048576; omega⟩
          lim := ⟨by show 0 ≤ c.wi; omega, by show c.wi ≤ 4496; omega⟩
          fi := ⟨by show 0 ≤ c.fi; omega, hf.2⟩
          bl := by show ([] : List Int).length ≤ 4096; simp
          bu := ⟨by show 0 ≤ min (max c.bu 1) 400; omega, by show min (max c.bu 1) 400 ≤ 400; omega⟩
          ac := ⟨by show (0 : Int) ≤ 0; omega, by show (0 : Int) ≤ OB.places ⟨[], _, 0, false⟩; simp [OB.places]⟩
          b8 := by show ∀ x ∈ ([] : List Int), In8 x; simp
          wf := trivial
          pl := by show ∀ r ∈ ([] : List R), r.2 ≤ 4097; simp
          ps := ⟨by show (0 : Int) ≤ 0; omega, by show (0 : Int) ≤ 4097; omega⟩
          ig := new_good
          il := by show ∀ r ∈ ([] : List R), r.2 ≤ 4096; simp
          i8 := by show ∀ x ∈ ([] : List Int), In8 x; simp
          lg := by show ∀ x ∈ ([] : List EvV), x.Ft; simp
          ln := by
            show ((([] : List EvV).length : Nat) : Int) ≤ 0 + ((List.replicate c.pa.toNat (PT.new c.mo c.fi)).map PT.sent).sum
            have : ∀ m : Nat, ((List.replicate m (PT.new c.mo c.fi)).map PT.sent).sum = 0 := fun m => by
              induction m with
              | zero => rfl
              | succ m ih => rw [List.replicate_succ, List.map_cons, List.sum_cons, ih]; rfl
            rw [this]; simp
          k := by omega }
noncomputable def mksV (id:Nat) (bd:Bd) (z:List AV) (sz bytes:Nat) (l c:AV):Option (AV×AB) :=
 l.onInt (fun k x=>AI.casesOn x (fun _=>fMksC id z sz bytes l c) fun _ _=>c.onInt (fun k' y=>cnd (Nat.beq (ik k) 3&&Nat.beq (ik k') 3) (fMksS id bd sz bytes x y) none) none) none
theorem f_mksV {L F:LF} {id:Nat} {bd:Bd} {z:List AV} {sz bytes:Nat} {x y:Od}:fMks L F id bd z sz bytes x y=ob (ev L F x) fun l=>ob (ev L F y) fun c=>mksV id bd z sz bytes l c:=rfl
theorem mks_k {id:Nat} {bd:Bd} {z:List AV} {sz k:Nat} {n:Int} (h:n=(k:Int)) (hk:k≤1000):mksV id bd z sz 8 (num n) (num n)=some (.sl id 0 k k true sz,.cells (rep k z) .own):=by
 subst h
 show fMksC id z sz 8 (num (k:Int)) (num (k:Int))=_
 unfold fMksC
 rw[onN (by omega),onN (by omega),Int.toNat_natCast]
 rw[ble_dec,dec_t (by omega),ble_dec,dec_t (by omega),ble_dec,dec_t (by omega)]
 rfl
theorem rep_int (n:Nat):rep n [num 0]=(List.replicate n (0:Int)).flatMap encI:=by
 induction n with
 | zero=>rfl
 | succ n ih=>show num 0::rep n [num 0]=_; rw[ih]; rfl
section
variable {bd : Bd} {h : VF} {fu : Nat} {gv : AV × List Nat}
theorem n_upto (n:Nat) (s:St) (x m:Int) (h1:1≤x) (h2:x≤m):OutOk (callF bd (tab h).get fu (n+1) 71 [num x,num m] s) (fun y s'=>Is y (.bool true)∧Is s' s):=by
 refine call_code (t71 h) rfl ?_
 simp (disch:=omega) only [vm0,vm1,vm2,vm3,vm4,vm5,vm6,vm7,vmF,vmT,evo,wr,wrC,frame,Nat.reduceAdd,Nat.reduceMul,Nat.reduceSub,beq_self_eq_true,List.cons_append,List.nil_append,beq_dec,vmI,vc71,vmU]
 exact ⟨rfl,rfl⟩
theorem n_check (n:Nat) (s:St) (c:CF) (hc:c.Vd):OutOk (callF bd (tab h).get fu (n+2) 22 [.agg c.cs] s) (fun y s'=>Is y (num 0)∧Fr s s' []):=by
 refine call_code (t22 h) rfl ?_
 have hf:Fr s (s.new (.cells c.cs .own)) [] := .new
 have g:(s.new (.cells c.cs .own)).heap.get s.next=some (.cells c.cs .own):=get_new_eq rfl
 obtain ⟨h1,h2,h3,h4,h5,h6,h7⟩:=hc
 obtain ⟨pa,bu,wi,ch,mo,fi,sc⟩:=c
 dsimp only[CF.cs] at *
 simp (disch:=omega) only [vm0,vm1,vm2,vm3,vm4,vm5,vm6,vm7,vmF,vmT,evo,wr,wrC,frame,Nat.reduceAdd,Nat.reduceMul,Nat.reduceSub,beq_self_eq_true,List.cons_append,List.nil_append,beq_dec,vmI,vc22,g]
 generalize s.new (.cells [num pa,num bu,num wi,num ch,num mo,num fi,num sc] .own)=s1 at *
 refine call_ok rfl rfl (n_upto n s1 pa 3 h1.1 h1.2) ?_
 rintro y s2 ⟨rfl,rfl⟩
 simp (disch:=omega) only [vm0,vm1,vm2,vm3,vm4,vm5,vm6,vm7,vmF,vmT,evo,wr,wrC,frame,Nat.reduceAdd,Nat.reduceMul,Nat.reduceSub,beq_self_eq_true,List.cons_append,List.nil_append,beq_dec,vmI,vmU,g]
 refine call_ok rfl rfl (n_upto n s2 bu 400 h2.1 h2.2) ?_
 rintro y s3 ⟨rfl,rfl⟩
 simp (disch:=omega) only [vm0,vm1,vm2,vm3,vm4,vm5,vm6,vm7,vmF,vmT,evo,wr,wrC,frame,Nat.reduceAdd,Nat.reduceMul,Nat.reduceSub,beq_self_eq_true,List.cons_append,List.nil_append,beq_dec,vmI,vmU,g]
 refine call_ok rfl rfl (n_upto n s3 wi 400 h3.1 h3.2) ?_
 rintro y s4 ⟨rfl,rfl⟩
 simp (disch:=omega) only [vm0,vm1,vm2,vm3,vm4,vm5,vm6,vm7,vmF,vmT,evo,wr,wrC,frame,Nat.reduceAdd,Nat.reduceMul,Nat.reduceSub,beq_self_eq_true,List.cons_append,List.nil_append,beq_dec,vmI,vmU,g]
 refine call_ok rfl rfl (n_upto n s4 ch 64 h4.1 h4.2) ?_
 rintro y s5 ⟨rfl,rfl⟩
 simp (disch:=omega) only [vm0,vm1,vm2,vm3,vm4,vm5,vm6,vm7,vmF,vmT,evo,wr,wrC,frame,Nat.reduceAdd,Nat.reduceMul,Nat.reduceSub,beq_self_eq_true,List.cons_append,List.nil_append,beq_dec,vmI,vmU,g]
 refine call_ok rfl rfl (n_upto n s5 mo 16 h5.1 h5.2) ?_
 rintro y s6 ⟨rfl,rfl⟩
 simp (disch:=omega) only [vm0,vm1,vm2,vm3,vm4,vm5,vm6,vm7,vmF,vmT,evo,wr,wrC,frame,Nat.reduceAdd,Nat.reduceMul,Nat.reduceSub,beq_self_eq_true,List.cons_append,List.nil_append,beq_dec,vmI,vmU,g]
 refine call_ok rfl rfl (n_upto n s6 fi 64 h6.1 h6.2) ?_
 rintro y s7 ⟨rfl,rfl⟩
 simp (disch:=omega) only [vm0,vm1,vm2,vm3,vm4,vm5,vm6,vm7,vmF,vmT,evo,wr,wrC,frame,Nat.reduceAdd,Nat.reduceMul,Nat.reduceSub,beq_self_eq_true,List.cons_append,List.nil_append,beq_dec,vmI,vmU,g]
 refine call_ok rfl rfl (n_upto n s7 sc 3 h7.1 h7.2) ?_
 rintro y s8 ⟨rfl,rfl⟩
 simp (disch:=omega) only [vm0,vm1,vm2,vm3,vm4,vm5,vm6,vm7,vmF,vmT,evo,wr,wrC,frame,Nat.reduceAdd,Nat.reduceMul,Nat.reduceSub,beq_self_eq_true,List.cons_append,List.nil_append,beq_dec,vmI,vmU,g]
 exact ⟨rfl,hf⟩
theorem mt_new (n:Nat) {s0:St} (s:St) (Ps:List Obj) (hS:Sep s0 s Ps):OutOk (callF bd (tab h).get fu (n+1) 23 [] s) (fun x s'=>∃ p,Is x (.ptr p 0)∧Sep s0 s' (oM p::Ps)):=by
 refine call_code (t23 h) rfl ?_
 simp (disch:=omega) only [vm0,vm1,vm2,vm3,vm4,vm5,vm6,vm7,vmF,vmT,evo,wr,wrC,frame,Nat.reduceAdd,Nat.reduceMul,Nat.reduceSub,beq_self_eq_true,List.cons_append,List.nil_append,beq_dec,vmI,vc23]
 exact ⟨_,rfl,Sep.closeE (f:=fun mc:Int×Int×Int×Int×Int×Int×Int×Int=>oC s.next _) (0,0,0,0,0,0,0,0) (hS.newC [num 0,num 0,num 0,num 0,num 0,num 0,num 0,num 0])⟩
theorem sc_new (n:Nat) {s0:St} (s:St) (k:Int) (Ps:List Obj) (hS:Sep s0 s Ps):OutOk (callF bd (tab h).get fu (n+1) 27 [num k] s) (fun x s'=>∃ p,Is x (.ptr p 0)∧Sep s0 s' (oC p [num k,num 0]::Ps)):=by
 refine call_code (t27 h) rfl ?_
 simp (disch:=omega) only [vm0,vm1,vm2,vm3,vm4,vm5,vm6,vm7,vmF,vmT,evo,wr,wrC,frame,Nat.reduceAdd,Nat.reduceMul,Nat.reduceSub,beq_self_eq_true,List.cons_append,List.nil_append,beq_dec,vmI,vc27]
 exact ⟨_,rfl,hS.newC [num k,num 0]⟩
theorem Sep.toV {s0 s:St} {v:AV} {ps:List Nat} {Ps:List Obj} (h:Sep s0 s (oW v 1 encPt ps::Ps)):Sep s0 s (oV (v,ps) v ps::Ps):=by
 obtain ⟨f,h1,up⟩:=h.hd
 exact up (oV (v,ps) v ps) ⟨h1,rfl⟩ .refl (fun b hb => .inl hb)
theorem Sep.addP {s0 s:St} {ps:List Nat} {ts:List PT} {p:Nat} {t:PT} {Ps:List Obj} (h:Sep s0 s (oT1 p t::oPS ps ts::Ps)) (hl:ps.length=ts.length):Sep s0 s (oPS (ps++[p]) (ts++[t])::Ps):=by
 have h1:=h.swap.openL
 unfold oPS
 rw[List.zipWith_append hl]
 refine Sep.closeL (h1.perm ?_)
 rw[List.append_assoc]
 exact .refl _
theorem Sep.newLg {s0 s:St} {mb:Nat} {Ps:List Obj} (h:Sep s0 s (oM mb::Ps)):Sep s0 s (oLg 0 .nils .nils mb []::Ps):=by
 have h1:=h.push (P:=oH []) (f:=[]) ⟨by simp[Lt],by simp⟩ .refl (by simp[Nw])
 have h2:=h1.push (P:=oW .nils 12 EvR.enc []) (f:=[]) (.nil EvR.wid (by omega)) .refl (by simp[Nw])
 have h3:=h2.push (P:=oW .nils 9 encK []) (f:=[]) (.nil (fun _=>rfl) (by omega)) .refl (by simp[Nw])
 exact Sep.closeLg rfl (by simp) h3
theorem Sep.toW {s0 s:St} {b k:Nat} {l:List Int} {Ps:List Obj} (h:Sep s0 s (oC b (l.flatMap encI)::Ps)) (hk:l.length=k):Sep s0 s (oW (.sl b 0 k k true 1) 1 encI l::Ps):=by
 obtain ⟨f,⟨h1,h2,rfl⟩,up⟩:=h.hd
 exact up (oW _ 1 encI l) (bsl_ow hk h1 h2) .refl (fun b hb => .inl hb)
set_option maxHeartbeats 1000000 in
theorem n_newL (n:Nat) {s0:St} (s:St) (e k:Nat) (bu wi ch mo fi sc side:Int) (bx ob' pb ib sb mb:Nat) (vd:AV) (Ps:List Obj) (hk:k≤3) (hfu:10<fu)
  (hS:Sep s0 s (oC e [num k,num bu,num wi,num ch,num mo,num fi,num sc,num side,num 0,.nils,vd,num wi,.ptr ob' 0,.ptr pb 0,.ptr ib 0,.ptr sb 0,.nils,.nils,.ptr mb 0]::oC sb [num sc,num 0]::oI ib ⟨[],[],min (max wi 1) 400,0,0,false⟩::oP pb [] 0::oO ob' ⟨[],min (max bu 1) 400,0,false⟩::oW vd 1 encI (List.replicate k 0)::oM mb::oC bx [num k,num bu,num wi,num ch,num mo,num fi,num sc]::Ps))
  {Q:Ex→LF→St→Prop} (hQ:∀ s' (E:EN) gv (y5 y9:Option AV),EndS gv s0 s' e ⟨⟨k,bu,wi,ch,mo,fi,sc⟩,side,0,List.replicate k (PT.new mo fi),List.replicate k 0,wi,⟨[],min (max bu 1) 400,0,false⟩,[],0,⟨[],[],min (max wi 1) 400,0,0,false⟩,0,[]⟩ Ps→Q (.exit 0) [some (.agg [num k,num bu,num wi,num ch,num mo,num fi,num sc]),some (num side),some (.ptr bx 0),some (.ptr e 0),some (num 0),y5,some (.bool false),some (.bool false),some (num k),y9,some .nilp,some (num 0)] s') :
  RsOk (exec bd (callF bd (tab h).get fu (n+4)) fu (.loop vc6_1) [some (.agg [num k,num bu,num wi,num ch,num mo,num fi,num sc]),some (num side),some (.ptr bx 0),some (.ptr e 0),some (num 0),some (num 0),some (.bool false),some (.bool false),some (num k),none,some .nilp,some (num 0)] s) Q:=by
 refine x_loop (fun m F s'=>∃ i:Nat,∃ z x9 vp ps,m=k-i∧i≤k∧z=(i:Int)∧F=[some (.agg [num k,num bu,num wi,num ch,num mo,num fi,num sc]),some (num side),some (.ptr bx 0),some (.ptr e 0),some (num 0),some (num z),some (.bool false),some (.bool false),some (num k),x9,some .nilp,some (num 0)]∧ps.length=i ∧
  Sep s0 s' (oC e [num k,num bu,num wi,num ch,num mo,num fi,num sc,num side,num 0,vp,vd,num wi,.ptr ob' 0,.ptr pb 0,.ptr ib 0,.ptr sb 0,.nils,.nils,.ptr mb 0]::oPS ps (List.replicate i (PT.new mo fi))::oW vp 1 encPt ps::oC sb [num sc,num 0]::oI ib ⟨[],[],min (max wi 1) 400,0,0,false⟩::oP pb [] 0::oO ob' ⟨[],min (max bu 1) 400,0,false⟩::oW vd 1 encI (List.replicate k 0)::oM mb::oC bx [num k,num bu,num wi,num ch,num mo,num fi,num sc]::Ps)) k (by omega) ?_ ?_
 ·have h1:=hS.push (P:=oW .nils 1 encPt []) (f:=[]) (.nil (fun _=>rfl) (by omega)) .refl (by simp[Nw])
  have h2:Sep s0 s (oPS [] []::_):=Sep.closeL (Qs:=[]) h1
  exact ⟨0,0,_,.nils,[],by omega,by omega,rfl,rfl,rfl,((h2.re ((List.perm_middle (l₁:=[_,_])).trans (.cons _ (.refl _)))))⟩
 ·clear hS
  rintro m F s1 ⟨i,_,x9,vp,ps,rfl,hi,rfl,rfl,hpl,hS⟩ hm
  by_cases hlt:i<k
  ·have hS1:=hS.rsv
   have g0:=hS.getC
   have g1:=Sep.getC (((hS1.re ((List.perm_middle (l₁:=[_,_,_,_,_,_,_,_,_,_])).trans (.cons _ (.refl _))))))
   have g2:=hS1.swap.getC
   have svp:=Sep.sameW (((hS.re ((List.perm_middle (l₁:=[_,_])).trans (.cons _ (.refl _))))))
   simp (disch:=omega) only [vm0,vm1,vm2,vm3,vm4,vm5,vm6,vm7,vmF,vmT,evo,wr,wrC,frame,Nat.reduceAdd,Nat.reduceMul,Nat.reduceSub,beq_self_eq_true,List.cons_append,List.nil_append,beq_dec,vmI,vc6_1,vc6_0,g0,g1,g2]
   generalize hs2:(⟨s1.heap,s1.next+1⟩ : St)=s2 at *
   have g3:=hS1.swap.getC
   refine call_ok rfl rfl (m_new (n+1) s2 k bu wi ch mo fi sc _ hS1) ?_
   rintro y s3 ⟨p,rfl,hS2⟩
   have hS3:=Sep.fillC hS2.swap [.ptr p 0]
   have g4:=hS3.getC
   have g5:=Sep.getC (((hS2.re ((List.perm_middle (l₁:=[_,_])).trans (.cons _ (.refl _))))))
   obtain ⟨fo,ho,up⟩:=Sep.hd (((hS3.re ((List.perm_middle (l₁:=[_,_,_,_])).trans (.cons _ (.refl _))))))
   simp (disch:=omega) only [vm0,vm1,vm2,vm3,vm4,vm5,vm6,vm7,vmF,vmT,evo,wr,wrC,frame,Nat.reduceAdd,Nat.reduceMul,Nat.reduceSub,beq_self_eq_true,List.cons_append,List.nil_append,beq_dec,vmI,g3,g4,g5,svp]
   refine op_app1 (show OwE _ vp 1 encPt ps fo from ho) .refl (x:=p) rfl (by omega) ?_
   intro v3 s4 f4 r7 r8 r9
   have hS4:=up (oW v3 1 encPt (ps++[p])) r7 r8 r9
   have g6:=Sep.getC (((hS4.re ((List.perm_middle (l₁:=[_,_,_])).trans (.cons _ (.refl _))))))
   have h3c:=cells1 (Sep.rdW hS4).rd.sl
   have hS5:=Sep.setC (((hS4.re ((List.perm_middle (l₁:=[_])).trans (.cons _ ((List.perm_middle (l₁:=[_,_])).trans (.cons _ (.refl _)))))).drop)) [num k,num bu,num wi,num ch,num mo,num fi,num sc,num side,num 0,v3,vd,num wi,.ptr ob' 0,.ptr pb 0,.ptr ib 0,.ptr sb 0,.nils,.nils,.ptr mb 0]
   have hS6:=Sep.addP (((hS5.re ((List.perm_middle (l₁:=[_,_])).trans (.cons _ ((List.perm_middle (l₁:=[_,_])).trans (.cons _ (.refl _)))))))) (by rw[hpl,List.length_replicate])
   rw[←List.replicate_succ'] at hS6
   simp (disch:=omega) only [vm0,vm1,vm2,vm3,vm4,vm5,vm6,vm7,vmF,vmT,evo,wr,wrC,frame,Nat.reduceAdd,Nat.reduceMul,Nat.reduceSub,beq_self_eq_true,List.cons_append,List.nil_append,beq_dec,vmI,g3,g5,g6,h3c,svp]
   exact ⟨k-(i+1),by omega,i+1,(i:Int)+1,_,v3,ps++[p],rfl,by omega,by omega,rfl,by simp[hpl],((hS6.re ((List.perm_middle (l₁:=[_])).trans (.cons _ (.refl _)))))⟩
  ·obtain rfl:i=k:=by omega
   simp (disch:=omega) only [vm0,vm1,vm2,vm3,vm4,vm5,vm6,vm7,vmF,vmT,evo,wr,wrC,frame,Nat.reduceAdd,Nat.reduceMul,Nat.reduceSub,beq_self_eq_true,List.cons_append,List.nil_append,beq_dec,vmI,vc6_1]
   have h1:=Sep.newLg (((hS.re ((List.perm_middle (l₁:=[_,_,_,_,_,_,_,_])).trans (.cons _ (.refl _))))))
   have h2:=Sep.toV (((h1.re ((List.perm_middle (l₁:=[_,_,_])).trans (.cons _ (.refl _))))))
   exact hQ _ (EN.new ⟨i,bu,wi,ch,mo,fi,sc⟩ side) (vp,ps) _ _ ⟨⟨vp,ps,vd,ob',pb,ib,sb,.nils,.nils,mb⟩,by rw[hpl]; simp,((h2.re ((List.perm_middle (l₁:=[_,_,_,_,_,_,_,_,_])).trans (.cons _ ((List.perm_middle (l₁:=[_,_])).trans (.cons _ ((List.perm_middle (l₁:=[_,_])).trans (.cons _ (.cons _ ((List.perm_middle (l₁:=[_,_,_,_,_])).trans (.cons _ ((List.perm_middle (l₁:=[_,_,_,_])).trans (.cons _ ((List.perm_middle (l₁:=[_,_,_])).trans (.cons _ ((List.perm_middle (l₁:=[_,_])).trans (.cons _ ((List.perm_middle (l₁:=[_])).trans (.cons _ (.refl _))))))))))))))))))).drop)⟩
set_option maxHeartbeats 2000000 in
theorem n_new (n:Nat) {s0:St} (s:St) (c:CF) (side:Int) (Ps:List Obj) (hS:Sep s0 s Ps) (hc:c.Vd) (hs:side=0∨side=1) (hfu:10<fu) :
  OutOk (callF bd (tab h).get fu (n+5) 6 [.agg c.cs,num side] s) (fun x s'=>∃ e gv,Is x (.tup [.ptr e 0,num 0])∧EndS gv s0 s' e (EN.new c side) Ps):=by
 refine call_code (t6 h) rfl ?_
 have hS1:=hS.newC c.cs
 have g1:=hS1.getC
 have hchk:=n_check (bd:=bd) (h:=h) (fu:=fu) (n+2) (s.new (.cells c.cs .own)) c hc
 obtain ⟨k,hk⟩ : ∃ k:Nat,c.pa=(k:Int):=⟨c.pa.toNat,by have:=hc.pa; omega⟩
 have hcp:=hc.pa
 have hEN:EN.new c side=⟨c,side,0,List.replicate k (PT.new c.mo c.fi),List.replicate k 0,c.wi,⟨[],min (max c.bu 1) 400,0,false⟩,[],0,⟨[],[],min (max c.wi 1) 400,0,0,false⟩,0,[]⟩:=by unfold EN.new; rw[hk,Int.toNat_natCast]
 rw[hEN]
 clear hEN
 obtain ⟨pa,bu,wi,ch,mo,fi,sc⟩:=c
 dsimp only at hk hcp
 subst hk
 dsimp only[CF.cs] at *
 simp (disch:=omega) only [vm0,vm1,vm2,vm3,vm4,vm5,vm6,vm7,vmF,vmT,evo,wr,wrC,frame,Nat.reduceAdd,Nat.reduceMul,Nat.reduceSub,beq_self_eq_true,List.cons_append,List.nil_append,beq_dec,vmI,vc6,g1]
 refine call_ok rfl rfl hchk ?_
 rintro y s2 ⟨rfl,hf2⟩
 have hS2:=hS1.fr hf2
 have g2:=hS2.getC
 have hsd:side=0∨side≠0∧side=1:=by omega
 have hmk:∀ id,mksV id bd [num 0] 1 8 (num (k:Int)) (num (k:Int))=some (.sl id 0 k k true 1,.cells (rep k [num 0]) .own):=fun id=>mks_k rfl (by omega)
 have hS3:=hS2.rsv.rsv
 dsimp only at hS3
 obtain h0 | ⟨h0,h1⟩:=hsd
 all_goals (
  simp (disch:=omega) only [vm0,vm1,vm2,vm3,vm4,vm5,vm6,vm7,vmF,vmT,evo,wr,wrC,frame,Nat.reduceAdd,Nat.reduceMul,Nat.reduceSub,beq_self_eq_true,List.cons_append,List.nil_append,beq_dec,vmI,vmU,g2,f_mksV,hmk]
  have e1:({ heap:=s2.heap,next:=s2.next+2 }:St)=⟨s2.heap,s2.next+1+1⟩:=rfl
  rw[e1]
  generalize ({ heap:=s2.heap,next:=s2.next+1+1 }:St)=s3 at *
  have g3:=Sep.getC (((hS3.re ((List.perm_middle (l₁:=[_,_])).trans (.cons _ (.refl _))))))
  have hlt:s.next<s2.next:=by have:=hf2.1; rw[next_new] at this; omega
  refine call_ok rfl rfl (mt_new (n+3) s3 _ hS3) ?_
  rintro y s4 ⟨mb,rfl,hS4⟩
  have g4:=Sep.getC (((hS4.re ((List.perm_middle (l₁:=[_,_,_])).trans (.cons _ (.refl _))))))
  simp (disch:=omega) only [vm0,vm1,vm2,vm3,vm4,vm5,vm6,vm7,vmF,vmT,evo,wr,wrC,frame,Nat.reduceAdd,Nat.reduceMul,Nat.reduceSub,beq_self_eq_true,List.cons_append,List.nil_append,beq_dec,vmI,g2,g3,g4]
  generalize hcs:([num k,num bu,num wi,num ch,num mo,num fi,num sc,num side,num 0,.nils,.sl s2.next 0 k k true 1,num wi,.nilp,.nilp,.nilp,.nilp,.nils,.nils,.ptr mb 0]:List AV)=C0
  have hS5:=Sep.fillC (((hS4.re ((List.perm_middle (l₁:=[_])).trans (.cons _ (.refl _)))))) C0
  have hS6:=Sep.fillC (((hS5.re ((List.perm_middle (l₁:=[_,_])).trans (.cons _ (.refl _)))))) (rep k [num 0])
  generalize (s4.put (s2.next+1) (some (.cells C0 .own))).put s2.next (some (.cells (rep k [num 0]) .own))=s5 at *
  rw[rep_int] at hS6
  have hS7:=hS6.toW (k:=k) (by simp)
  have g5:=Sep.getC (((hS7.re ((List.perm_middle (l₁:=[_,_,_])).trans (.cons _ (.refl _))))))
  refine call_ok rfl rfl (o_new (n+3) s5 bu) ?_
  rintro y s6 ⟨ob',rfl,q1,q2,q3⟩
  have hS8:=hS7.push (P:=oO ob' _) q3 q2 (Nw.one q1)
  have g6:=Sep.getC (((hS8.re ((List.perm_middle (l₁:=[_,_,_,_])).trans (.cons _ (.refl _))))))
  simp (disch:=omega) only [vm0,vm1,vm2,vm3,vm4,vm5,vm6,vm7,vmF,vmT,evo,wr,wrC,frame,Nat.reduceAdd,Nat.reduceMul,Nat.reduceSub,beq_self_eq_true,List.cons_append,List.nil_append,beq_dec,vmI]
  refine call_ok rfl rfl (pl_new (n+2) s6) ?_
  rintro y s7 ⟨pb,fp,rfl,q4,q5,q6⟩
  have hS9:=hS8.push (P:=oP pb [] 0) q4 q5 q6
  have g7:=Sep.getC (((hS9.re ((List.perm_middle (l₁:=[_,_,_,_,_])).trans (.cons _ (.refl _))))))
  simp (disch:=omega) only [vm0,vm1,vm2,vm3,vm4,vm5,vm6,vm7,vmF,vmT,evo,wr,wrC,frame,Nat.reduceAdd,Nat.reduceMul,Nat.reduceSub,beq_self_eq_true,List.cons_append,List.nil_append,beq_dec,vmI,g7]
  refine call_ok rfl rfl (i_new (n+2) s7 wi) ?_
  rintro y s8 ⟨ib,fi',rfl,q7,q8,q9⟩
  have hS10:=hS9.push (P:=oI ib _) q7 q8 q9
  have g8:=Sep.getC (((hS10.re ((List.perm_middle (l₁:=[_,_,_,_,_,_])).trans (.cons _ (.refl _))))))
  simp (disch:=omega) only [vm0,vm1,vm2,vm3,vm4,vm5,vm6,vm7,vmF,vmT,evo,wr,wrC,frame,Nat.reduceAdd,Nat.reduceMul,Nat.reduceSub,beq_self_eq_true,List.cons_append,List.nil_append,beq_dec,vmI,g8]
  refine call_ok rfl rfl (sc_new (n+3) s8 sc _ hS10) ?_
  rintro y s9 ⟨sb,rfl,hS11⟩
  have g9:=Sep.getC (((hS11.re ((List.perm_middle (l₁:=[_,_,_,_,_,_,_])).trans (.cons _ (.refl _))))))
  have g10:=Sep.getC (((hS11.re ((List.perm_middle (l₁:=[_,_,_,_,_])).trans (.cons _ (.refl _))))))
  rw[←hcs] at g10
  simp (disch:=omega) only [vm0,vm1,vm2,vm3,vm4,vm5,vm6,vm7,vmF,vmT,evo,wr,wrC,frame,Nat.reduceAdd,Nat.reduceMul,Nat.reduceSub,beq_self_eq_true,List.cons_append,List.nil_append,beq_dec,vmI,vmR,g5,g6,g7,g8,g9,g10]
  have hS12:=Sep.setC (Sep.setC (Sep.setC (Sep.setC (((hS11.re ((List.perm_middle (l₁:=[_,_,_,_,_])).trans (.cons _ (.refl _)))))) [num k,num bu,num wi,num ch,num mo,num fi,num sc,num side,num 0,.nils,.sl s2.next 0 k k true 1,num wi,.ptr ob' 0,.nilp,.nilp,.nilp,.nils,.nils,.ptr mb 0]) [num k,num bu,num wi,num ch,num mo,num fi,num sc,num side,num 0,.nils,.sl s2.next 0 k k true 1,num wi,.ptr ob' 0,.ptr pb 0,.nilp,.nilp,.nils,.nils,.ptr mb 0]) [num k,num bu,num wi,num ch,num mo,num fi,num sc,num side,num 0,.nils,.sl s2.next 0 k k true 1,num wi,.ptr ob' 0,.ptr pb 0,.ptr ib 0,.nilp,.nils,.nils,.ptr mb 0]) [num k,num bu,num wi,num ch,num mo,num fi,num sc,num side,num 0,.nils,.sl s2.next 0 k k true 1,num wi,.ptr ob' 0,.ptr pb 0,.ptr ib 0,.ptr sb 0,.nils,.nils,.ptr mb 0]
  refine n_newL n _ (s2.next+1) k bu wi ch mo fi sc _ s.next ob' pb ib sb mb (.sl s2.next 0 k k true 1) Ps (by omega) (by omega) hS12 ?_
  ·intro s' E gv y5 y9 hE
   simp (disch:=omega) only [vm0,vm1,vm2,vm3,vm4,vm5,vm6,vm7,vmF,vmT,evo,wr,wrC,frame,Nat.reduceAdd,Nat.reduceMul,Nat.reduceSub,beq_self_eq_true,List.cons_append,List.nil_append,beq_dec,vmI]
   exact ⟨_,gv,rfl,hE⟩)
end
theorem encI_w1:∀ x:Int,(encI x).length=1:=fun _=>rfl
theorem cut0_owI {s:St} {v:AV} {l:List Int} {fp:List Nat} (h:OwE s v 1 encI l fp) (hl:l≠[]):∃ v',sliceV 1 v none (some (num 0)) none=some v'∧OwE s v' 1 encI [] fp:=by
 rcases h.ow with ⟨_,h0,_⟩ | ⟨b,len,lo,ex,k,J,rfl,h2,h3,h4,h5⟩
 ·have:=flat_len h.wid l
  rw[h0] at this
  exact absurd (List.eq_nil_of_length_eq_zero (by simp at this; omega)) hl
 ·have hlen:len=l.length:=h.len
  have hpos:0<l.length:=by cases l with | nil=>exact absurd rfl hl | cons=>simp
  refine ⟨.sl b 0 0 lo ex 1,?_,⟨.inr ⟨b,0,lo,ex,k,l.flatMap encI++J,rfl,Nat.zero_le _,by simp,by simpa using h4,h5⟩,h.wid,h.pos,h.lt⟩⟩
  rw[sv_s,bnd_n,bnd_s (by omega),ob_some,ob_some,sli_k (by simp) (by simp) (by omega)]
  simp
def RdUI (s:St) (us:List AV) (ls:List (List Int)):Prop:=us.length=ls.length∧∀ (i:Nat) (u:AV) (l:List Int),us[i]?=some u→ls[i]?=some l→RdE s u 1 encI l
theorem RdUI.nil {s:St}:RdUI s [] []:=⟨rfl,by intro i u l h; simp at h⟩
theorem RdUI.cons {s:St} {u:AV} {l:List Int} {us:List AV} {ls:List (List Int)} (h:RdE s u 1 encI l) (hr:RdUI s us ls):RdUI s (u::us) (l::ls):=by
 refine ⟨by simp[hr.1],fun i u' l' h1 h2=>?_⟩
 cases i with
 | zero=>simp at h1 h2; subst h1; subst h2; exact h
 | succ i=>exact hr.2 i u' l' (by simpa using h1) (by simpa using h2)
section
variable {bd : Bd} {h : VF} {fu : Nat} {gv : AV × List Nat}
theorem growI (n:Nat) (s:St) (m:Nat) (hm:m<1000000) :
  OutOk (callF bd (tab h).get fu (n+1) 108 [.nils,num (m:Int)] s) (fun x s'=>∃ fp,OwE s' x 1 encI [] fp∧Fr s s' []∧Nw s [] fp):=by
 refine call_code (t108 h) rfl ?_
 by_cases h0:m=0
 ·subst h0
  simp (disch:=omega) only [vm0,vm1,vm2,vm3,vm4,vm5,vm6,vm7,vmF,vmT,evo,wr,wrC,frame,Nat.reduceAdd,Nat.reduceMul,Nat.reduceSub,beq_self_eq_true,List.cons_append,List.nil_append,beq_dec,vmI,vc108,fCap]
  exact ⟨[],.nil encI_w1 (by omega),.refl,by simp[Nw]⟩
 ·have z0:(0:Int)≤0:=Int.le_refl 0
  simp (disch:=omega) only [vm0,vm1,vm2,vm3,vm4,vm5,vm6,vm7,vmF,vmT,evo,wr,wrC,frame,Nat.reduceAdd,Nat.reduceMul,Nat.reduceSub,beq_self_eq_true,List.cons_append,List.nil_append,beq_dec,vmI,vc108,fCap,sv_nils,zr_s,fApz,rep_int]
  refine op_app (.nil encI_w1 (by omega)) (by (repeat' (first | exact Fr.refl | assumption | apply Fr.new' | apply Fr.mk' | apply Fr.put')) <;> (first | omega | (left; simp; done) | (right; simp only[next_put,next_new,next_mk]; omega) | (simp only[next_put,next_new,next_mk]; omega))) (new:=List.replicate m (0:Int)) rfl (by simp) (by simp; omega) ?_
  intro v' s' fp' q1 q2 q3
  obtain ⟨u,g1,r1⟩:=cut0_owI q1 (by simp; omega)
  simp (disch:=omega) only [vm0,vm1,vm2,vm3,vm4,vm5,vm6,vm7,vmF,vmT,evo,wr,wrC,frame,Nat.reduceAdd,Nat.reduceMul,Nat.reduceSub,beq_self_eq_true,List.cons_append,List.nil_append,beq_dec,vmI,g1]
  exact ⟨fp',r1,q2,q3⟩
theorem concatI (n:Nat) (s:St) (v:AV) (us:List AV) (ls:List (List Int)) (hv:RdE s v 1 encU us) (hu:RdUI s us ls) (hN:us.length<fu) (hN2:us.length<100000) (hl:ls.flatten.length<1000000) :
  OutOk (callF bd (tab h).get fu (n+2) 59 [v] s) (fun x s'=>∃ fp,OwE s' x 1 encI ls.flatten fp∧Fr s s' []∧Nw s [] fp):=by
 refine call_code (t59 h) rfl ?_
 obtain ⟨N,hNe⟩ : ∃ N,us.length=N:=⟨_,rfl⟩
 have hlen:lenV v=some (num (N:Int)):=by rw[hv.lenV,hNe]
 have hls:ls.length=N:=by rw[←hu.1,hNe]
 have key:∀ i:Nat,i<N→∃ u l,us[i]?=some u∧RdE s u 1 encI l∧ls[i]?=some l:=by
  intro i hi
  have h1:us[i]?=some us[i]:=List.getElem?_eq_getElem (by omega)
  have h2:ls[i]?=some ls[i]:=List.getElem?_eq_getElem (by omega)
  exact ⟨_,_,h1,hu.2 i _ _ h1 h2,h2⟩
 rw[hNe] at hN hN2
 simp (disch:=omega) only [vm0,vm1,vm2,vm3,vm4,vm5,vm6,vm7,vmF,vmT,evo,wr,wrC,frame,Nat.reduceAdd,Nat.reduceMul,Nat.reduceSub,beq_self_eq_true,List.cons_append,List.nil_append,beq_dec,vmI,vc59,hlen]
 refine x_loop (fun k F s'=>∃ i:Nat,∃ z x6 x8 x9,k=N-i∧i≤N∧z=(i:Int)∧F=[some v,some (num z),some (num (((ls.take i).flatten.length:Nat):Int)),none,none,some (num (N:Int)),x6,some v,x8,x9,none,none,none,none,some .nils]∧s'=s) N (by omega) ?_ ?_
 ·exact ⟨0,_,_,_,_,by omega,by omega,rfl,rfl,rfl⟩
 ·rintro k F s0 ⟨i,_,x6,x8,x9,rfl,hi,rfl,rfl,rfl⟩ hk
  by_cases hlt:i<N
  ·obtain ⟨u,l,hu,hul,hl'⟩:=key i hlt
   have e1:=hv.ia hu
   have e2:=hv.at1 (f:=fun u=>u) hu
   have ht:(ls.take (i+1)).flatten.length=(ls.take i).flatten.length+l.length:=by rw[List.take_add_one,hl']; simp
   have htb:=flat_le ls (i+1)
   simp (disch:=omega) only [vm0,vm1,vm2,vm3,vm4,vm5,vm6,vm7,vmF,vmT,evo,wr,wrC,frame,Nat.reduceAdd,Nat.reduceMul,Nat.reduceSub,beq_self_eq_true,List.cons_append,List.nil_append,beq_dec,vmI,e1,e2,hul.lenV]
   exact ⟨N-(i+1),by omega,i+1,(i:Int)+1,_,_,_,rfl,by omega,by omega,by rw[ht,Int.natCast_add],rfl⟩
  ·obtain rfl:i=N:=by omega
   have hfl:(ls.take i).flatten=ls.flatten:=by rw[List.take_of_length_le (by omega)]
   rw[hfl]
   simp (disch:=omega) only [vm0,vm1,vm2,vm3,vm4,vm5,vm6,vm7,vmF,vmT,evo,wr,wrC,frame,Nat.reduceAdd,Nat.reduceMul,Nat.reduceSub,beq_self_eq_true,List.cons_append,List.nil_append,beq_dec,vmI]
   refine call_ok rfl rfl (growI n s0 _ (by omega)) ?_
   rintro x s1 ⟨fx,q1,q2,q3⟩
   simp (disch:=omega) only [vm0,vm1,vm2,vm3,vm4,vm5,vm6,vm7,vmF,vmT,evo,wr,wrC,frame,Nat.reduceAdd,Nat.reduceMul,Nat.reduceSub,beq_self_eq_true,List.cons_append,List.nil_append,beq_dec,vmI,hlen]
   refine x_loop (fun k F s'=>∃ j:Nat,∃ z x11 x13 vo fo,k=i-j∧j≤i∧z=(j:Int)∧F=[some v,some (num (i:Int)),some (num ((ls.flatten.length:Nat):Int)),some (num z),some vo,some (num (i:Int)),some (.bool false),some v,x8,x9,some (num (i:Int)),x11,some v,x13,some .nils]∧Fr s0 s' []∧OwE s' vo 1 encI (ls.take j).flatten fo∧Nw s0 [] fo) i (by omega) ?_ ?_
   ·exact ⟨0,_,_,_,_,fx,by omega,by omega,rfl,rfl,q2,by simpa using q1,q3⟩
   ·rintro k F s2 ⟨j,_,x11,x13,vo,fo,rfl,hj,rfl,rfl,hf2,ho,hn⟩ hk
    by_cases hlt:j<i
    ·obtain ⟨u,l,hu,hul,hl'⟩:=key j hlt
     have hv2:=hv.fr0 hf2
     have hul2:=hul.fr0 hf2
     have e1:=hv2.ia hu
     have e2:=hv2.at1 (f:=fun u=>u) hu
     have ht:(ls.take (j+1)).flatten=(ls.take j).flatten++l:=by rw[List.take_add_one,hl']; simp
     have htb:(ls.take j).flatten.length+l.length≤ls.flatten.length:=by
      have:=flat_le ls (j+1)
      rw[ht,List.length_append] at this; exact this
     simp (disch:=omega) only [vm0,vm1,vm2,vm3,vm4,vm5,vm6,vm7,vmF,vmT,evo,wr,wrC,frame,Nat.reduceAdd,Nat.reduceMul,Nat.reduceSub,beq_self_eq_true,List.cons_append,List.nil_append,beq_dec,vmI,e1,e2,hul2.lenOf,hul2.cellsOf]
     refine op_app ho (by (repeat' (first | exact Fr.refl | assumption | apply Fr.new' | apply Fr.mk' | apply Fr.put')) <;> (first | omega | (left; simp; done) | (right; simp only[next_put,next_new,next_mk]; omega) | (simp only[next_put,next_new,next_mk]; omega))) (new:=l) rfl rfl (by omega) ?_
     intro v' s3 fo' p1 p2 p3
     simp (disch:=omega) only [vm0,vm1,vm2,vm3,vm4,vm5,vm6,vm7,vmF,vmT,evo,wr,wrC,frame,Nat.reduceAdd,Nat.reduceMul,Nat.reduceSub,beq_self_eq_true,List.cons_append,List.nil_append,beq_dec,vmI]
     exact ⟨i-(j+1),by omega,j+1,(j:Int)+1,_,_,_,fo',rfl,by omega,by omega,rfl,hf2.nn p2 hn,by rw[ht]; exact p1,hn.nn p3 hf2.1⟩
    ·obtain rfl:j=i:=by omega
     rw[hfl] at ho
     simp (disch:=omega) only [vm0,vm1,vm2,vm3,vm4,vm5,vm6,vm7,vmF,vmT,evo,wr,wrC,frame,Nat.reduceAdd,Nat.reduceMul,Nat.reduceSub,beq_self_eq_true,List.cons_append,List.nil_append,beq_dec,vmI]
     exact ⟨fo,ho,hf2,hn⟩
theorem n_truth (n:Nat) (s:St) (b:Bool):OutOk (callF bd (tab h).get fu (n+1) 61 [.bool b] s) (fun x s'=>Is x (num (b2i b))∧Is s' s):=by
 refine call_code (t61 h) rfl ?_
 cases b
 ·simp (disch:=omega) only [vm0,vm1,vm2,vm3,vm4,vm5,vm6,vm7,vmF,vmT,evo,wr,wrC,frame,Nat.reduceAdd,Nat.reduceMul,Nat.reduceSub,beq_self_eq_true,List.cons_append,List.nil_append,beq_dec,vmI,vc61]
  exact ⟨rfl,rfl⟩
 ·simp (disch:=omega) only [vm0,vm1,vm2,vm3,vm4,vm5,vm6,vm7,vmF,vmT,evo,wr,wrC,frame,Nat.reduceAdd,Nat.reduceMul,Nat.reduceSub,beq_self_eq_true,List.cons_append,List.nil_append,beq_dec,vmI,vc61]
  exact ⟨rfl,rfl⟩
theorem n_now (n:Nat) {s0:St} (s:St) (e:Nat) (X:EN) (Ps:List Obj) (hE:EndS gv s0 s e X Ps):OutOk (callF bd (tab h).get fu (n+1) 11 [.ptr e 0] s) (fun x s'=>Is x (num X.now)∧Is s' s):=by
 refine call_code (t11 h) rfl ?_
 obtain ⟨H,hnp,hS⟩:=hE
 have g1:=hS.getC
 dsimp only[EN.cells] at g1
 simp (disch:=omega) only [vm0,vm1,vm2,vm3,vm4,vm5,vm6,vm7,vmF,vmT,evo,wr,wrC,frame,Nat.reduceAdd,Nat.reduceMul,Nat.reduceSub,beq_self_eq_true,List.cons_append,List.nil_append,beq_dec,vmI,vc11,g1]
 exact ⟨rfl,rfl⟩
set_option maxHeartbeats 1000000 in
theorem n_events (n:Nat) {s0:St} (s:St) (e:Nat) (X:EN) (k:Int) (Ps:List Obj) (hE:EndS gv s0 s e X Ps) (hX:X.Ok k) (hfu:1200000<fu) :
  OutOk (callF bd (tab h).get fu (n+4) 18 [.ptr e 0] s) (fun x s'=>∃ m:List EvR,m.map EvR.e=X.log∧EndS gv s0 s' e X (oW x 12 EvR.enc m::oH m::Ps)):=by
 refine call_code (t18 h) rfl ?_
 obtain ⟨H,hnp,hS⟩:=hE
 have hlog:=hX.log
 obtain ⟨ms,m,hm1,hm2,hL⟩:=(Sep.up8 hS).openLg
 have g1:=Sep.getC (((hL.re ((List.perm_middle (l₁:=[_,_,_,_])).trans (.cons _ (.refl _))))))
 have hml:m.length=X.log.length:=by rw[←hm1,List.length_map]
 have hvl:=(Sep.rdW hL.swap).lenV
 dsimp only[EN.cells] at g1
 simp (disch:=omega) only [vm0,vm1,vm2,vm3,vm4,vm5,vm6,vm7,vmF,vmT,evo,wr,wrC,frame,Nat.reduceAdd,Nat.reduceMul,Nat.reduceSub,beq_self_eq_true,List.cons_append,List.nil_append,beq_dec,vmI,vc18,g1,hvl]
 refine x_loop (fun j F s'=>∃ i:Nat,∃ z vo x4 x6,∃ m2:List EvR,j=m.length-i∧i≤m.length∧z=(i:Int)∧F=[some (.ptr e 0),some (num z),some vo,some (num (m.length:Int)),x4,some H.vl,x6,some .nils]∧m2.map EvR.e=X.log.take i ∧
  Sep s0 s' (oW vo 12 EvR.enc m2::oH m2::oW H.vs 9 encK ms::oW H.vl 12 EvR.enc m::oH m::oM H.mb::oC e (X.cells H)::oPS H.ps X.P::oV gv H.vp H.ps::oW H.vd 1 encI X.due::oO H.ob X.o::oP H.pb X.pl X.ps::oI H.ib X.i::oC H.sb [num X.c.sc,num X.nx]::Ps)) m.length (by omega) ?_ ?_
 ·have h1:=hL.push (P:=oH []) (f:=[]) ⟨by simp[Lt],by simp⟩ .refl (by simp[Nw])
  have h2:=h1.push (P:=oW .nils 12 EvR.enc []) (f:=[]) (.nil EvR.wid (by omega)) .refl (by simp[Nw])
  exact ⟨0,0,.nils,_,_,[],by omega,by omega,rfl,rfl,by simp,h2⟩
 ·clear hS hL g1 hvl
  rintro j F s1 ⟨i,_,vo,x4,x6,m2,rfl,hi,rfl,rfl,hmm,hS⟩ hj
  by_cases hlt:i<m.length
  ·obtain ⟨x,hx⟩ : ∃ x,m[i]?=some x:=⟨_,List.getElem?_eq_getElem hlt⟩
   have hxl:X.log[i]?=some x.e:=by rw[←hm1,List.getElem?_map,hx]; rfl
   have hft:=hX.lg x.e (List.mem_of_getElem? hxl)
   have hok:=Sep.oks2 (((hS.re ((List.perm_middle (l₁:=[_,_,_,_])).trans (.cons _ (.refl _)))))) (fun y hy=>hX.lg y (by rw[←hm1]; exact hy)) x (List.mem_of_getElem? hx)
   have hv1:=Sep.rdW (((hS.re ((List.perm_middle (l₁:=[_,_,_])).trans (.cons _ (.refl _))))))
   have e1:=hv1.ia hx
   have e2:=hv1.at hx
   have hm2l:m2.length=i:=by
    have:=congrArg List.length hmm
    rw[List.length_map,List.length_take] at this; omega
   obtain ⟨⟨ek,en,ed,⟨pk,pt,nr,of_,fr,d,fin,se,li⟩⟩,u,w⟩:=x
   have hS1:=hS.cell z12 [num ek,num en,u,num pk,num pt,num nr,num of_,num fr,w,.bool fin,num se,num li]
   have g2:=hS1.getC
   have hf1:Fr s1 ((s1.new (.cells z12 .own)).put s1.next (some (.cells [num ek,num en,u,num pk,num pt,num nr,num of_,num fr,w,.bool fin,num se,num li] .own))) []:=by exact (by (repeat' (first | exact Fr.refl | assumption | apply Fr.new' | apply Fr.mk' | apply Fr.put')) <;> (first | omega | (left; simp; done) | (right; simp only[next_put,next_new,next_mk]; omega) | (simp only[next_put,next_new,next_mk]; omega)))
   have hok2:=hok.fr0 hf1
   dsimp only[EvR.enc,EvV.cs,z12] at *
   simp (disch:=omega) only [vm0,vm1,vm2,vm3,vm4,vm5,vm6,vm7,vmF,vmT,evo,wr,wrC,frame,Nat.reduceAdd,Nat.reduceMul,Nat.reduceSub,beq_self_eq_true,List.cons_append,List.nil_append,beq_dec,vmI,e1,e2]
   generalize (s1.new (.cells [num 0,num 0,.nils,num 0,num 0,num 0,num 0,num 0,.nils,.bool false,num 0,num 0] .own)).put s1.next (some (.cells [num ek,num en,u,num pk,num pt,num nr,num of_,num fr,w,.bool fin,num se,num li] .own))=s2 at *
   refine call_ok rfl rfl (ownE n s2 ⟨ek,en,ed,⟨pk,pt,nr,of_,fr,d,fin,se,li⟩⟩ u w hok2.u hok2.w hok2.hl hok2.hpl) ?_
   rintro y s3 ⟨u',w',rfl,hSq⟩
   have hS2:=hS1.app hSq
   have hS3:=hS2.newC [num ek,num en,u',num pk,num pt,num nr,num of_,num fr,w',.bool fin,num se,num li]
   obtain ⟨fo,ho,up⟩:=Sep.hd (((hS3.re ((List.perm_middle (l₁:=[_,_,_,_])).trans (.cons _ (.refl _))))))
   dsimp only[EvV.cs]
   simp (disch:=omega) only [vm0,vm1,vm2,vm3,vm4,vm5,vm6,vm7,vmF,vmT,evo,wr,wrC,frame,Nat.reduceAdd,Nat.reduceMul,Nat.reduceSub,beq_self_eq_true,List.cons_append,List.nil_append,beq_dec,vmI]
   refine op_app1 (show OwE _ vo 12 EvR.enc m2 fo from ho) .refl (x:=⟨⟨ek,en,ed,⟨pk,pt,nr,of_,fr,d,fin,se,li⟩⟩,u',w'⟩) rfl (by omega) ?_
   intro v3 s4 f4 r7 r8 r9
   have hS4:=up (oW v3 12 EvR.enc (m2++[(⟨⟨ek,en,ed,⟨pk,pt,nr,of_,fr,d,fin,se,li⟩⟩,u',w'⟩ : EvR)])) r7 r8 r9
   have hS5:=Sep.held (e:=⟨ek,en,ed,⟨pk,pt,nr,of_,fr,d,fin,se,li⟩⟩) (((hS4.re ((List.perm_middle (l₁:=[_])).trans (.cons _ ((List.perm_middle (l₁:=[_,_,_])).trans (.cons _ ((List.perm_middle (l₁:=[_])).trans (.cons _ ((List.perm_middle (l₁:=[_])).trans (.cons _ ((List.perm_middle (l₁:=[_])).trans (.cons _ (.refl _)))))))))))).drop.drop))
   simp (disch:=omega) only [vm0,vm1,vm2,vm3,vm4,vm5,vm6,vm7,vmF,vmT,evo,wr,wrC,frame,Nat.reduceAdd,Nat.reduceMul,Nat.reduceSub,beq_self_eq_true,List.cons_append,List.nil_append,beq_dec,vmI]
   exact ⟨m.length-(i+1),by omega,i+1,(i:Int)+1,v3,_,_,m2++[⟨⟨ek,en,ed,⟨pk,pt,nr,of_,fr,d,fin,se,li⟩⟩,u',w'⟩],rfl,by omega,by omega,rfl,by rw[List.map_append,hmm,List.take_add_one,hxl]; rfl,hS5.swap⟩
  ·obtain rfl:i=m.length:=by omega
   rw[hml,List.take_length] at hmm
   simp (disch:=omega) only [vm0,vm1,vm2,vm3,vm4,vm5,vm6,vm7,vmF,vmT,evo,wr,wrC,frame,Nat.reduceAdd,Nat.reduceMul,Nat.reduceSub,beq_self_eq_true,List.cons_append,List.nil_append,beq_dec,vmI]
   have h1:=Sep.closeLg (j:=0) hm1 hm2 (((hS.re ((List.perm_middle (l₁:=[_,_])).trans (.cons _ ((List.perm_middle (l₁:=[_,_])).trans (.cons _ ((List.perm_middle (l₁:=[_,_])).trans (.cons _ ((List.perm_middle (l₁:=[_,_])).trans (.cons _ (.refl _))))))))))))
   exact ⟨m2,hmm,H,hnp,((h1.re ((List.perm_middle (l₁:=[_,_,_])).trans (.cons _ ((List.perm_middle (l₁:=[_,_,_])).trans (.cons _ ((List.perm_middle (l₁:=[_,_,_])).trans (.cons _ ((List.perm_middle (l₁:=[_,_,_])).trans (.cons _ ((List.perm_middle (l₁:=[_,_,_])).trans (.cons _ ((List.perm_middle (l₁:=[_,_,_])).trans (.cons _ ((List.perm_middle (l₁:=[_,_,_])).trans (.cons _ ((List.perm_middle (l₁:=[_,_,_])).trans (.cons _ (.refl _)))))))))))))))))))⟩
end
def r2 (r:R):List Int:=[r.1,r.2]
def EN.st0 (X:EN):List Int:=[X.now]++X.due++[X.limit,X.o.b.length,b2i X.o.closed,X.o.acked,X.ps]
def EN.st1 (X:EN):List Int:=[X.i.tk,X.i.seen,X.i.ready,b2i X.i.done]
def EN.state (X:EN):List Int:=X.st0++[(X.pl.length:Int)]++X.pl.flatMap r2++X.st1++X.P.flatMap PT.state
theorem r2_len (l:List R):(l.flatMap r2).length=2*l.length:=by
 induction l with
 | nil=>rfl
 | cons x l ih=>rw[List.flatMap_cons,List.length_append,ih,List.length_cons]; show 2+_=_; omega
theorem stP_len:∀ {l:List PT},(∀ t∈l,t.Kk)→(l.flatMap PT.state).length≤262152*l.length
 | [],_=>by simp
 | t::l,h=>by
  have h1:=(h t (by simp)).f
  have h2:=(h t (by simp)).s
  have h3:=stP_len (l:=l) fun u hu=>h u (by simp[hu])
  have h4:t.state.length=8+4*t.F.length:=by
   unfold PT.state
   rw[List.length_append,o4_len]; rfl
  rw[List.flatMap_cons,List.length_append,h4,List.length_cons]; omega
section
variable {bd : Bd} {h : VF} {fu : Nat} {gv : AV × List Nat}
theorem d_closed (n:Nat) {s0:St} (s:St) (p:Nat) (o:OB) (Ps:List Obj) (hS:Sep s0 s (oO p o::Ps)):OutOk (callF bd (tab h).get fu (n+1) 62 [.ptr p 0] s) (fun x s'=>Is x (.bool o.closed)∧Is s' s):=by
 obtain ⟨f,k1,up⟩:=hS.hd
 exact o_closed n s p o f k1
theorem d_missing (n:Nat) {s0:St} (s:St) (p:Nat) (l:List R) (t:Int) (Ps:List Obj) (hS:Sep s0 s (oP p l t::Ps)) (hl:l.length<1000000):OutOk (callF bd (tab h).get fu (n+3) 65 [.ptr p 0] s) (fun x s'=>Sep s0 s' (oW x 2 encR l::oP p l t::Ps)):=by
 obtain ⟨f,k1,up⟩:=hS.hd
 exact (p_missing n s p l t f k1 hl).mono fun x s' ⟨f',r1,r2,r3⟩=>hS.push (P:=oW x 2 encR l) r1 r2 r3
theorem n_stA (call:Nat→List AV→St→Out) {s0:St} (s:St) (e:Nat) (X:EN) (vo v2:AV) (B:List Int) (l:List R) (x3 x5 x7:Option AV) (Ps:List Obj) (hE:EndS gv s0 s e X (oW vo 1 encI B::oW v2 2 encR l::Ps)) (hB:B.length≤20) (hl:l.length≤2100) (hfu:10000<fu) {Q:Ex→LF→St→Prop}
  (hQ:∀ s' v' y1 y2 y3,EndS gv s0 s' e X (oW v' 1 encI (B++l.flatMap r2)::Ps)→Q (.exit 0) [some (.ptr e 0),some v',y1,x3,some v2,y2,some (num l.length),y3,some v2,none,none,none,none,some .nils] s') :
  RsOk (exec bd call fu (.loop vc20_1) [some (.ptr e 0),some vo,some (num 0),x3,some v2,x5,some (num l.length),x7,some v2,none,none,none,none,some .nils] s) Q:=by
 refine x_loop (fun m F s'=>∃ i:Nat,∃ z vo x5 x7,m=l.length-i∧i≤l.length∧z=(i:Int)∧F=[some (.ptr e 0),some vo,some (num z),x3,some v2,x5,some (num l.length),x7,some v2,none,none,none,none,some .nils]∧EndS gv s0 s' e X (oW vo 1 encI (B++(l.take i).flatMap r2)::oW v2 2 encR l::Ps)) l.length (by omega) ?_ ?_
 ·exact ⟨0,0,vo,_,_,by omega,by omega,rfl,rfl,by simpa using hE⟩
 ·clear hE
  rintro m F s1 ⟨i,_,vo,x5,x7,rfl,hi,rfl,rfl,H,hnp,hS⟩ hm
  by_cases hlt:i<l.length
  ·obtain ⟨⟨a,b⟩,hx⟩ : ∃ x,l[i]?=some x:=⟨_,List.getElem?_eq_getElem hlt⟩
   have hv:=Sep.rdW (((hS.re ((List.perm_middle (l₁:=[_,_,_,_,_,_,_,_,_,_])).trans (.cons _ (.refl _))))))
   have e1:=hv.ia hx
   have e2:=hv.at hx
   have ht:(l.take (i+1)).flatMap r2=(l.take i).flatMap r2++[a,b]:=by rw[List.take_add_one,hx]; simp[r2]
   have htl:(B++(l.take i).flatMap r2).length≤20+2*i:=by rw[List.length_append,r2_len,List.length_take]; omega
   have hS1:=hS.cell [num 0,num 0] [num a,num b]
   have g2:=hS1.getC
   dsimp only[encR] at *
   simp (disch:=omega) only [vm0,vm1,vm2,vm3,vm4,vm5,vm6,vm7,vmF,vmT,evo,wr,wrC,frame,Nat.reduceAdd,Nat.reduceMul,Nat.reduceSub,beq_self_eq_true,List.cons_append,List.nil_append,beq_dec,vmI,vc20_1,vc20_0,e1,e2]
   have hn4:((s1.new (.cells [num 0,num 0] .own)).put s1.next (some (.cells [num a,num b] .own))).next=s1.next+1:=by rw[next_put,next_new]
   generalize (s1.new (.cells [num 0,num 0] .own)).put s1.next (some (.cells [num a,num b] .own))=s2 at *
   simp (disch:=omega) only [vm0,vm1,vm2,vm3,vm4,vm5,vm6,vm7,vmF,vmT,evo,wr,wrC,frame,Nat.reduceAdd,Nat.reduceMul,Nat.reduceSub,beq_self_eq_true,List.cons_append,List.nil_append,beq_dec,vmI]
   obtain ⟨fo,ho,up⟩:=Sep.hd (((hS1.re (.cons _ ((List.perm_middle (l₁:=[_,_,_,_,_,_,_,_,_])).trans (.cons _ (.refl _))))).drop))
   refine op_app (show OwE _ vo 1 encI (B++(l.take i).flatMap r2) fo from ho) .new (new:=[a,b]) rfl rfl (by omega) ?_
   intro v' s5 fo' p1 p2 p3
   have hS5:=up (oW v' 1 encI _) p1 p2 p3
   simp (disch:=omega) only [vm0,vm1,vm2,vm3,vm4,vm5,vm6,vm7,vmF,vmT,evo,wr,wrC,frame,Nat.reduceAdd,Nat.reduceMul,Nat.reduceSub,beq_self_eq_true,List.cons_append,List.nil_append,beq_dec,vmI]
   refine ⟨l.length-(i+1),by omega,i+1,(i:Int)+1,v',_,_,rfl,by omega,by omega,rfl,?_⟩
   rw[ht,←List.append_assoc]
   exact ⟨H,hnp,((hS5.re ((List.perm_middle (l₁:=[_])).trans (.cons _ ((List.perm_middle (l₁:=[_])).trans (.cons _ ((List.perm_middle (l₁:=[_])).trans (.cons _ ((List.perm_middle (l₁:=[_])).trans (.cons _ ((List.perm_middle (l₁:=[_])).trans (.cons _ ((List.perm_middle (l₁:=[_])).trans (.cons _ ((List.perm_middle (l₁:=[_])).trans (.cons _ ((List.perm_middle (l₁:=[_])).trans (.cons _ ((List.perm_middle (l₁:=[_])).trans (.cons _ (.refl _)))))))))))))))))))))⟩
  ·obtain rfl:i=l.length:=by omega
   rw[List.take_length] at hS
   simp (disch:=omega) only [vm0,vm1,vm2,vm3,vm4,vm5,vm6,vm7,vmF,vmT,evo,wr,wrC,frame,Nat.reduceAdd,Nat.reduceMul,Nat.reduceSub,beq_self_eq_true,List.cons_append,List.nil_append,beq_dec,vmI,vc20_1]
   exact hQ _ _ _ _ _ ⟨H,hnp,((hS.re ((List.perm_middle (l₁:=[_,_,_,_,_,_,_,_,_,_])).trans (.cons _ (.refl _)))).drop)⟩
theorem n_stB (n:Nat) {s0:St} (s:St) (e:Nat) (X:EN) (k:Int) (vo:AV) (B:List Int) (x2 x4 x5 x6 x7 x8 x10 x12:Option AV) (Ps:List Obj) (hE:EndS gv s0 s e X (oW vo 1 encI B::Ps)) (hX:X.Ok k) (hB:B.length≤6000) (hfu:1200000<fu) {Q:Ex→LF→St→Prop}
  (hQ:∀ s' v' y1 y2 y3,EndS gv s0 s' e X (oW v' 1 encI (B++X.P.flatMap PT.state)::Ps)→Q (.exit 2) [some (.ptr e 0),some v',x2,y1,x4,x5,x6,x7,x8,some (num X.P.length),y2,some gv.1,y3,some .nils] s') :
  RsOk (exec bd (callF bd (tab h).get fu (n+5)) fu (.loop vc20_3) [some (.ptr e 0),some vo,x2,some (num 0),x4,x5,x6,x7,x8,some (num X.P.length),x10,some gv.1,x12,some .nils] s) Q:=by
 have hn:=hX.n
 refine x_loop (fun m F s'=>∃ i:Nat,∃ z vo x10 x12,m=X.P.length-i∧i≤X.P.length∧z=(i:Int)∧F=[some (.ptr e 0),some vo,x2,some (num z),x4,x5,x6,x7,x8,some (num X.P.length),x10,some gv.1,x12,some .nils]∧EndS gv s0 s' e X (oW vo 1 encI (B++(X.P.take i).flatMap PT.state)::Ps)) X.P.length (by omega) ?_ ?_
 ·exact ⟨0,0,vo,_,_,by omega,by omega,rfl,rfl,by simpa using hE⟩
 ·clear hE
  rintro m F s1 ⟨i,_,vo,x10,x12,rfl,hi,rfl,rfl,H,hnp,hS⟩ hm
  by_cases hlt:i<X.P.length
  ·obtain ⟨p,t,R,ht,hp,hT,e1,e2⟩:=EndS.at hnp hS hlt
   have hvp:=(Sep.eqV (((hS.re ((List.perm_middle (l₁:=[_,_])).trans (.cons _ (.refl _))))))).1
   rw[hvp] at e1 e2
   have hK:=hX.at ht
   have hks:=hK.s
   have hkf:=hK.f
   have ht2:(X.P.take (i+1)).flatMap PT.state=(X.P.take i).flatMap PT.state++t.state:=by rw[List.take_add_one,ht]; simp
   have hbd:=stP_len (l:=X.P.take (i+1)) (fun u hu=>hX.P u (List.mem_of_mem_take hu))
   rw[ht2,List.length_append,List.length_take] at hbd
   simp (disch:=omega) only [vm0,vm1,vm2,vm3,vm4,vm5,vm6,vm7,vmF,vmT,evo,wr,wrC,frame,Nat.reduceAdd,Nat.reduceMul,Nat.reduceSub,beq_self_eq_true,List.cons_append,List.nil_append,beq_dec,vmI,vc20_3,vc20_2,e1,e2]
   obtain ⟨Rr,hFo,back⟩:=Sep.focus (((hS.re ((List.perm_middle (l₁:=[_])).trans (.cons _ (.refl _)))))) hp ht
   refine call_ok rfl rfl (m_state (n+2) s1 p t _ hFo hK.g (by omega) (by omega)) ?_
   rintro y s2 hS2
   have hy:=hS2.rdW
   have hset:X.P.set i t=X.P:=List.ext_getElem? fun j=>by
    rw[List.getElem?_set]
    split
    ·rename_i hij; subst hij; exact ht.symm
    ·rfl
   have hS3:=back (((hS2.re ((List.perm_middle (l₁:=[_])).trans (.cons _ ((List.perm_middle (l₁:=[_])).trans (.cons _ (.refl _))))))))
   rw[hset] at hS3
   obtain ⟨fo,ho,up⟩:=Sep.hd (((hS3.re ((List.perm_middle (l₁:=[_,_,_,_,_,_,_,_,_,_])).trans (.cons _ (.refl _))))))
   simp (disch:=omega) only [vm0,vm1,vm2,vm3,vm4,vm5,vm6,vm7,vmF,vmT,evo,wr,wrC,frame,Nat.reduceAdd,Nat.reduceMul,Nat.reduceSub,beq_self_eq_true,List.cons_append,List.nil_append,beq_dec,vmI,hy.lenOf,hy.cellsOf]
   refine op_app (show OwE _ vo 1 encI (B++(X.P.take i).flatMap PT.state) fo from ho) .refl (new:=t.state) rfl rfl (by rw[List.length_append]; omega) ?_
   intro v' s5 fo' p1 p2 p3
   have hS5:=up (oW v' 1 encI _) p1 p2 p3
   simp (disch:=omega) only [vm0,vm1,vm2,vm3,vm4,vm5,vm6,vm7,vmF,vmT,evo,wr,wrC,frame,Nat.reduceAdd,Nat.reduceMul,Nat.reduceSub,beq_self_eq_true,List.cons_append,List.nil_append,beq_dec,vmI]
   refine ⟨X.P.length-(i+1),by omega,i+1,(i:Int)+1,v',_,_,rfl,by omega,by omega,rfl,?_⟩
   rw[ht2,←List.append_assoc]
   exact ⟨H,hnp,((hS5.re ((List.perm_middle (l₁:=[_,_])).trans (.cons _ ((List.perm_middle (l₁:=[_,_])).trans (.cons _ ((List.perm_middle (l₁:=[_])).trans (.cons _ ((List.perm_middle (l₁:=[_])).trans (.cons _ ((List.perm_middle (l₁:=[_])).trans (.cons _ ((List.perm_middle (l₁:=[_])).trans (.cons _ ((List.perm_middle (l₁:=[_])).trans (.cons _ ((List.perm_middle (l₁:=[_])).trans (.cons _ ((List.perm_middle (l₁:=[_])).trans (.cons _ ((List.perm_middle (l₁:=[_])).trans (.cons _ (.refl _)))))))))))))))))))))).drop)⟩
  ·obtain rfl:i=X.P.length:=by omega
   rw[List.take_length] at hS
   simp (disch:=omega) only [vm0,vm1,vm2,vm3,vm4,vm5,vm6,vm7,vmF,vmT,evo,wr,wrC,frame,Nat.reduceAdd,Nat.reduceMul,Nat.reduceSub,beq_self_eq_true,List.cons_append,List.nil_append,beq_dec,vmI,vc20_3]
   exact hQ _ _ _ _ _ ⟨H,hnp,hS⟩
set_option maxHeartbeats 2000000 in
theorem n_stC (n:Nat) {s0:St} (s:St) (e:Nat) (X:EN) (k:Int) (vo:AV) (x2 x3 x4 x5 x6 x7 x8:Option AV) (B:List Int) (Ps:List Obj) (hE:EndS gv s0 s e X (oW vo 1 encI B::Ps)) (hX:X.Ok k) (hB:B.length≤5000) (hfu:1200000<fu) {Q:Ex→LF→St→Prop}
  (hQ:∀ s' v' y1 y2 y3,EndS gv s0 s' e X (oW v' 1 encI (B++X.st1++X.P.flatMap PT.state)::Ps)→Q .ret [some (.ptr e 0),some v',x2,y1,x4,x5,x6,x7,x8,some (num X.P.length),y2,some gv.1,y3,some v'] s') :
  RsOk (exec bd (callF bd (tab h).get fu (n+5)) fu vc20_4 [some (.ptr e 0),some vo,x2,x3,x4,x5,x6,x7,x8,none,none,none,none,some .nils] s) Q:=by
 have hn:=hX.n
 have hig:=hX.ig
 obtain ⟨H,hnp,hS⟩:=hE
 have hR:=hS.rsv
 have g1:=hS.getC
 have g2:=Sep.getC hR.swap
 have hfb:=front_bd hig.wf
 dsimp only[EN.cells] at g1 g2
 simp (disch:=omega) only [vm0,vm1,vm2,vm3,vm4,vm5,vm6,vm7,vmF,vmT,evo,wr,wrC,frame,Nat.reduceAdd,Nat.reduceMul,Nat.reduceSub,beq_self_eq_true,List.cons_append,List.nil_append,beq_dec,vmI,vc20_4,g1]
 generalize hs1:({ heap:=s.heap,next:=s.next+1 }:St)=s1 at *
 refine call_ok rfl rfl (e_taken (n+4) s1 H.ib X.i _ (((hR.re ((List.perm_middle (l₁:=[_,_,_,_,_,_,_])).trans (.cons _ (.refl _))))))) ?_
 rintro y s2 ⟨rfl,rfl⟩
 have g2:=hR.swap.getC
 dsimp only[EN.cells] at g2
 simp (disch:=omega) only [vm0,vm1,vm2,vm3,vm4,vm5,vm6,vm7,vmF,vmT,evo,wr,wrC,frame,Nat.reduceAdd,Nat.reduceMul,Nat.reduceSub,beq_self_eq_true,List.cons_append,List.nil_append,beq_dec,vmI,g2]
 refine call_ok rfl rfl (e_seen (n+1) s2 H.ib X.i _ (((hR.re ((List.perm_middle (l₁:=[_,_,_,_,_,_,_])).trans (.cons _ (.refl _)))))) hig) ?_
 rintro y s3 ⟨rfl,hR3⟩
 have g3:=Sep.getC (((hR3.re ((List.perm_middle (l₁:=[_,_])).trans (.cons _ (.refl _))))))
 dsimp only[EN.cells] at g3
 simp (disch:=omega) only [vm0,vm1,vm2,vm3,vm4,vm5,vm6,vm7,vmF,vmT,evo,wr,wrC,frame,Nat.reduceAdd,Nat.reduceMul,Nat.reduceSub,beq_self_eq_true,List.cons_append,List.nil_append,beq_dec,vmI,g3]
 refine call_ok rfl rfl (e_ready (n+1) s3 H.ib X.i _ hR3 hig) ?_
 rintro y s4 ⟨rfl,hR4⟩
 have g4:=Sep.getC (((hR4.re ((List.perm_middle (l₁:=[_,_])).trans (.cons _ (.refl _))))))
 dsimp only[EN.cells] at g4
 simp (disch:=omega) only [vm0,vm1,vm2,vm3,vm4,vm5,vm6,vm7,vmF,vmT,evo,wr,wrC,frame,Nat.reduceAdd,Nat.reduceMul,Nat.reduceSub,beq_self_eq_true,List.cons_append,List.nil_append,beq_dec,vmI,g4]
 refine call_ok rfl rfl (e_done (n+4) s4 H.ib X.i _ hR4) ?_
 rintro y s5 ⟨rfl,rfl⟩
 simp (disch:=omega) only [vm0,vm1,vm2,vm3,vm4,vm5,vm6,vm7,vmF,vmT,evo,wr,wrC,frame,Nat.reduceAdd,Nat.reduceMul,Nat.reduceSub,beq_self_eq_true,List.cons_append,List.nil_append,beq_dec,vmI,g4]
 refine call_ok rfl rfl (n_truth (n+4) s5 X.i.done) ?_
 rintro y s6 ⟨rfl,rfl⟩
 have hF:=Sep.fillC (((hR4.re ((List.perm_middle (l₁:=[_])).trans (.cons _ (.refl _)))))) [num X.i.tk,num X.i.seen,num X.i.ready,num (b2i X.i.done)]
 have g6:=hF.getC
 have svo:=Sep.sameW (((hF.re ((List.perm_middle (l₁:=[_,_,_,_,_,_,_,_,_,_])).trans (.cons _ (.refl _))))))
 obtain ⟨fo,ho,up⟩:=Sep.hd (((hF.re ((List.perm_middle (l₁:=[_,_,_,_,_,_,_,_,_,_])).trans (.cons _ (.refl _))))))
 simp (disch:=omega) only [vm0,vm1,vm2,vm3,vm4,vm5,vm6,vm7,vmF,vmT,evo,wr,wrC,frame,Nat.reduceAdd,Nat.reduceMul,Nat.reduceSub,beq_self_eq_true,List.cons_append,List.nil_append,beq_dec,vmI,g2,g3,g4,g6]
 refine op_app (show OwE _ vo 1 encI B fo from ho) .refl (new:=X.st1) rfl rfl (by show B.length+4≤1048576; omega) ?_
 intro v' s7 fo' p1 p2 p3
 have hS7:=up (oW v' 1 encI (B++X.st1)) p1 p2 p3
 have hE7:EndS gv s0 s7 e X (oW v' 1 encI (B++X.st1)::Ps):=⟨H,hnp,((hS7.re ((List.perm_middle (l₁:=[_])).trans (.cons _ ((List.perm_middle (l₁:=[_,_])).trans (.cons _ ((List.perm_middle (l₁:=[_,_])).trans (.cons _ ((List.perm_middle (l₁:=[_,_])).trans (.cons _ ((List.perm_middle (l₁:=[_,_])).trans (.cons _ ((List.perm_middle (l₁:=[_,_])).trans (.cons _ ((List.perm_middle (l₁:=[_,_])).trans (.cons _ ((List.perm_middle (l₁:=[_])).trans (.cons _ ((List.perm_middle (l₁:=[_])).trans (.cons _ ((List.perm_middle (l₁:=[_])).trans (.cons _ (.refl _)))))))))))))))))))))).drop)⟩
 have g7:=Sep.getC (((hS7.re ((List.perm_middle (l₁:=[_,_,_])).trans (.cons _ (.refl _))))))
 have hvl:=(Sep.rdV (((hS7.re ((List.perm_middle (l₁:=[_,_,_,_,_])).trans (.cons _ (.refl _))))))).lenV
 have hvp:=(Sep.eqV (((hS7.re ((List.perm_middle (l₁:=[_,_,_,_,_])).trans (.cons _ (.refl _))))))).1
 rw[hnp] at hvl
 dsimp only[EN.cells] at g7
 simp (disch:=omega) only [vm0,vm1,vm2,vm3,vm4,vm5,vm6,vm7,vmF,vmT,evo,wr,wrC,frame,Nat.reduceAdd,Nat.reduceMul,Nat.reduceSub,beq_self_eq_true,List.cons_append,List.nil_append,beq_dec,vmI,vmR,g2,g3,g4,g7,hvl]
 rw[hvp]
 refine n_stB n s7 e X k v' (B++X.st1) _ _ _ _ _ _ _ _ Ps hE7 hX (by rw[List.length_append]; show B.length+4≤6000; omega) hfu ?_
 intro s8 v8 y1 y2 y3 hE8
 simp (disch:=omega) only [vm0,vm1,vm2,vm3,vm4,vm5,vm6,vm7,vmF,vmT,evo,wr,wrC,frame,Nat.reduceAdd,Nat.reduceMul,Nat.reduceSub,beq_self_eq_true,List.cons_append,List.nil_append,beq_dec,vmI]
 exact hQ _ _ _ _ _ hE8
set_option maxHeartbeats 4000000 in
theorem n_state (n:Nat) {s0:St} (s:St) (e:Nat) (X:EN) (k:Int) (Ps:List Obj) (hE:EndS gv s0 s e X Ps) (hX:X.Ok k) (hfu:1200000<fu) :
  OutOk (callF bd (tab h).get fu (n+6) 20 [.ptr e 0] s) (fun x s'=>EndS gv s0 s' e X (oW x 1 encI X.state::Ps)):=by
 refine call_code (t20 h) rfl ?_
 obtain ⟨H,hnp,hS⟩:=hE
 have hn:=hX.n
 have hdl:=hX.due
 have hpl:=hX.pll
 have hbl:=hX.bl
 have hig:=hX.ig
 have hSR:=hS.rsv.rsv.rsv
 have e3:(⟨s.heap,s.next+1+1+1⟩ : St)={ heap:=s.heap,next:=s.next+3 }:=rfl
 have g1:=hS.getC
 have svd:=Sep.sameW (((hS.re ((List.perm_middle (l₁:=[_,_,_])).trans (.cons _ (.refl _))))))
 have hdc:=cells1 (Sep.rdW (((hS.re ((List.perm_middle (l₁:=[_,_,_])).trans (.cons _ (.refl _))))))).rd.sl
 dsimp only[EN.cells] at g1 hSR
 rw[e3] at hSR
 simp (disch:=omega) only [vm0,vm1,vm2,vm3,vm4,vm5,vm6,vm7,vmF,vmT,evo,wr,wrC,frame,Nat.reduceAdd,Nat.reduceMul,Nat.reduceSub,beq_self_eq_true,List.cons_append,List.nil_append,beq_dec,vmI,vc20,g1]
 generalize hs1:({ heap:=s.heap,next:=s.next+3 }:St)=s1 at *
 have g2:=Sep.getC (((hSR.re ((List.perm_middle (l₁:=[_,_,_])).trans (.cons _ (.refl _))))))
 have hO:=((hSR.re ((List.perm_middle (l₁:=[_,_,_,_,_,_,_])).trans (.cons _ (.refl _)))))
 have hP:=((hSR.re ((List.perm_middle (l₁:=[_,_,_,_,_,_,_,_])).trans (.cons _ (.refl _)))))
 refine call_ok rfl rfl (d_len (n+4) s1 H.ob X.o _ hO) ?_
 rintro y s2 ⟨rfl,rfl⟩
 simp (disch:=omega) only [vm0,vm1,vm2,vm3,vm4,vm5,vm6,vm7,vmF,vmT,evo,wr,wrC,frame,Nat.reduceAdd,Nat.reduceMul,Nat.reduceSub,beq_self_eq_true,List.cons_append,List.nil_append,beq_dec,vmI,g1,g2]
 refine call_ok rfl rfl (d_closed (n+4) s2 H.ob X.o _ hO) ?_
 rintro y s3 ⟨rfl,rfl⟩
 simp (disch:=omega) only [vm0,vm1,vm2,vm3,vm4,vm5,vm6,vm7,vmF,vmT,evo,wr,wrC,frame,Nat.reduceAdd,Nat.reduceMul,Nat.reduceSub,beq_self_eq_true,List.cons_append,List.nil_append,beq_dec,vmI,g1,g2]
 refine call_ok rfl rfl (n_truth (n+4) s3 X.o.closed) ?_
 rintro y s4 ⟨rfl,rfl⟩
 simp (disch:=omega) only [vm0,vm1,vm2,vm3,vm4,vm5,vm6,vm7,vmF,vmT,evo,wr,wrC,frame,Nat.reduceAdd,Nat.reduceMul,Nat.reduceSub,beq_self_eq_true,List.cons_append,List.nil_append,beq_dec,vmI,g1,g2]
 refine call_ok rfl rfl (d_acked (n+4) s4 H.ob X.o _ hO) ?_
 rintro y s5 ⟨rfl,rfl⟩
 simp (disch:=omega) only [vm0,vm1,vm2,vm3,vm4,vm5,vm6,vm7,vmF,vmT,evo,wr,wrC,frame,Nat.reduceAdd,Nat.reduceMul,Nat.reduceSub,beq_self_eq_true,List.cons_append,List.nil_append,beq_dec,vmI,g1,g2]
 refine call_ok rfl rfl (d_psent (n+4) s5 H.pb X.pl X.ps _ hP) ?_
 rintro y s6 ⟨rfl,rfl⟩
 simp (disch:=omega) only [vm0,vm1,vm2,vm3,vm4,vm5,vm6,vm7,vmF,vmT,evo,wr,wrC,frame,Nat.reduceAdd,Nat.reduceMul,Nat.reduceSub,beq_self_eq_true,List.cons_append,List.nil_append,beq_dec,vmI,vmR,g1,g2,svd,hdc]
 have hF:=Sep.fillC (b:=s.next+2) hSR [.sl s.next 0 1 1 true 1,H.vd,.sl (s.next+1) 0 5 5 true 1]
 have hF2:=Sep.fillC (b:=s.next+1) (((hF.re ((List.perm_middle (l₁:=[_])).trans (.cons _ (.refl _)))))) [num X.limit,num X.o.b.length,num (b2i X.o.closed),num X.o.acked,num X.ps]
 have hF3:=Sep.fillC (b:=s.next) (((hF2.re ((List.perm_middle (l₁:=[_,_])).trans (.cons _ (.refl _)))))) [num X.now]
 generalize ((s6.put (s.next+2) (some (.cells [.sl s.next 0 1 1 true 1,H.vd,.sl (s.next+1) 0 5 5 true 1] .own))).put (s.next+1) (some (.cells [num X.limit,num X.o.b.length,num (b2i X.o.closed),num X.o.acked,num X.ps] .own))).put s.next (some (.cells [num X.now] .own))=sA at *
 clear hF hF2
 have hW:=Sep.toW (l:=[X.now]) (k:=1) hF3 rfl
 have hW2:=Sep.toW (l:=[X.limit,(X.o.b.length:Int),b2i X.o.closed,X.o.acked,X.ps]) (k:=5) (((hW.re ((List.perm_middle (l₁:=[_])).trans (.cons _ (.refl _)))))) rfl
 have hru:RdUI sA [.sl s.next 0 1 1 true 1,H.vd,.sl (s.next+1) 0 5 5 true 1] [[X.now],X.due,[X.limit,(X.o.b.length:Int),b2i X.o.closed,X.o.acked,X.ps]] :=
  .cons (Sep.rdW hW) (.cons (Sep.rdW (((hW.re ((List.perm_middle (l₁:=[_,_,_,_,_,_])).trans (.cons _ (.refl _))))))) (.cons (Sep.rdW hW2) .nil))
 obtain ⟨_,⟨g3,g4,_⟩,_⟩:=Sep.hd (((hF3.re ((List.perm_middle (l₁:=[_,_])).trans (.cons _ (.refl _))))))
 have g5:=Sep.getC (((hF3.re ((List.perm_middle (l₁:=[_,_,_])).trans (.cons _ (.refl _))))))
 have hst0:([[X.now],X.due,[X.limit,(X.o.b.length:Int),b2i X.o.closed,X.o.acked,X.ps]]:List (List Int)).flatten=X.st0:=by simp[EN.st0]
 have hst0l:X.st0.length≤10:=by unfold EN.st0; simp; omega
 refine call_ok rfl rfl (concatI (n+3) sA _ _ _ (rdU_of g3 g4 rfl) hru (by simp; omega) (by simp) (by rw[hst0]; omega)) ?_
 rw[hst0]
 rintro v1 s7 ⟨f1,a1,a2,a3⟩
 have hA:=(((hF3.re (.refl _)).drop.drop.drop)).push (P:=oW v1 1 encI X.st0) a1 a2 a3
 have g6:=hA.swap.getC
 simp (disch:=omega) only [vm0,vm1,vm2,vm3,vm4,vm5,vm6,vm7,vmF,vmT,evo,wr,wrC,frame,Nat.reduceAdd,Nat.reduceMul,Nat.reduceSub,beq_self_eq_true,List.cons_append,List.nil_append,beq_dec,vmI,vmR,g1,g2,g5,g6,svd]
 refine call_ok rfl rfl (d_missing (n+2) s7 H.pb X.pl X.ps _ (Sep.up6 hA) (by omega)) ?_
 rintro v2 s8 hB
 have hv2l:=hB.rdW.lenV
 have hB2:=((hB.re ((List.perm_middle (l₁:=[_,_])).trans (.cons _ ((List.perm_middle (l₁:=[_,_])).trans (.cons _ ((List.perm_middle (l₁:=[_,_])).trans (.cons _ ((List.perm_middle (l₁:=[_,_])).trans (.cons _ ((List.perm_middle (l₁:=[_,_])).trans (.cons _ ((List.perm_middle (l₁:=[_,_])).trans (.cons _ ((List.perm_middle (l₁:=[_])).trans (.cons _ ((List.perm_middle (l₁:=[_])).trans (.cons _ ((List.perm_middle (l₁:=[_])).trans (.cons _ ((List.perm_middle (l₁:=[_])).trans (.cons _ (.refl _)))))))))))))))))))))))
 obtain ⟨fo,ho,up⟩:=hB2.hd
 simp (disch:=omega) only [vm0,vm1,vm2,vm3,vm4,vm5,vm6,vm7,vmF,vmT,evo,wr,wrC,frame,Nat.reduceAdd,Nat.reduceMul,Nat.reduceSub,beq_self_eq_true,List.cons_append,List.nil_append,beq_dec,vmI,hv2l]
 refine op_app1 (show OwE _ v1 1 encI X.st0 fo from ho) .new (x:=(X.pl.length:Int)) rfl (by omega) ?_
 intro v3 s9 f4 r7 r8 r9
 have hC:=up (oW v3 1 encI (X.st0++[(X.pl.length:Int)])) r7 r8 r9
 clear hB hB2 hA hW hW2 hF3 hS hSR
 simp (disch:=omega) only [vm0,vm1,vm2,vm3,vm4,vm5,vm6,vm7,vmF,vmT,evo,wr,wrC,frame,Nat.reduceAdd,Nat.reduceMul,Nat.reduceSub,beq_self_eq_true,List.cons_append,List.nil_append,beq_dec,vmI,hv2l]
 have hE9:EndS gv s0 s9 e X (oW v3 1 encI (X.st0++[(X.pl.length:Int)])::oW v2 2 encR X.pl::Ps):=⟨H,hnp,((hC.re ((List.perm_middle (l₁:=[_])).trans (.cons _ ((List.perm_middle (l₁:=[_])).trans (.cons _ ((List.perm_middle (l₁:=[_])).trans (.cons _ ((List.perm_middle (l₁:=[_])).trans (.cons _ ((List.perm_middle (l₁:=[_])).trans (.cons _ ((List.perm_middle (l₁:=[_])).trans (.cons _ ((List.perm_middle (l₁:=[_])).trans (.cons _ ((List.perm_middle (l₁:=[_])).trans (.cons _ ((List.perm_middle (l₁:=[_])).trans (.cons _ (.refl _)))))))))))))))))))))⟩
 have hBl:(X.st0++[(X.pl.length:Int)]).length≤20:=by simp; omega
 have hst:X.state=X.st0++[(X.pl.length:Int)]++X.pl.flatMap r2++X.st1++X.P.flatMap PT.state:=rfl
 rw[hst]
 generalize X.st0++[(X.pl.length:Int)]=B at *
 refine n_stA (callF bd (tab h).get fu (n+5)) s9 e X v3 v2 B X.pl _ _ _ Ps hE9 hBl (by omega) (by omega) ?_
 intro s10 v4 y1 y2 y3 hE10
 have hrl:=r2_len X.pl
 have hBl2:(B++X.pl.flatMap r2).length≤5000:=by rw[List.length_append]; omega
 generalize B++X.pl.flatMap r2=B2 at *
 simp (disch:=omega) only [vm0,vm1,vm2,vm3,vm4,vm5,vm6,vm7,vmF,vmT,evo,wr,wrC,frame,Nat.reduceAdd,Nat.reduceMul,Nat.reduceSub,beq_self_eq_true,List.cons_append,List.nil_append,beq_dec,vmI]
 refine n_stC n s10 e X k _ _ _ _ _ _ _ _ B2 _ hE10 hX hBl2 hfu ?_
 intro s11 v' y4 y5 y6 hE11
 simp (disch:=omega) only [vm0,vm1,vm2,vm3,vm4,vm5,vm6,vm7,vmF,vmT,evo,wr,wrC,frame,Nat.reduceAdd,Nat.reduceMul,Nat.reduceSub,beq_self_eq_true,List.cons_append,List.nil_append,beq_dec,vmI]
 exact hE11
end
def EN.doE (X:EN) (e:EvV):EN:=if e.k=1 then X.write e.d else if e.k=2 then X.read e.d.length else if e.k=3 then X.tick e.n else if e.k=4 then X.come e.p else if e.k=6 then X.close else if e.k=7 then X.up e.n else X.down e.n
def EN.doB (X:EN) (e:EvV):Bool:=if e.k=1 then decide (0<e.d.length)&&decide (X.o.room e.d.length=e.d.length) else if e.k=2 then decide (X.i.out e.d.length=e.d) else if e.k=3 then X.mayT e.n else if e.k=4 then X.may e.p else if e.k=6 then !X.o.closed else if e.k=7 then X.mayU e.n else X.mayD e.n
def inpB (e:EvV):Bool:=decide (1≤e.k∧e.k≤8)&&decide (e.k≠5)
theorem EN.Ok.doE {X:EN} {k:Int} (h:X.Ok k) {e:EvV} (he:e.Ft) (hk:k+1≤500000):(X.doE e).Ok (k+1):=by
 unfold EN.doE
 split
 ·exact h.write he.h8 hk
 split
 ·exact h.read _ hk
 split
 ·exact h.tick _ hk
 split
 ·exact h.come he.h9 hk
 split
 ·exact h.close hk
 split
 ·exact h.up _ hk
 ·exact h.down _ hk
theorem write_nil (X:EN):X.write []=X:=by
 unfold EN.write
 obtain ⟨r1,r2,r3⟩:=room_bd X.o []
 rw[if_pos (by have:(([]:List Int).length:Int)=0:=rfl; omega)]
section
variable {bd : Bd} {h : VF} {fu : Nat} {gv : AV × List Nat}
theorem n_input (n:Nat) (s:St) (e:EvV) (u w:AV):OutOk (callF bd (tab h).get fu (n+1) 55 [.agg (e.cs u w)] s) (fun x s'=>Is x (.bool (inpB e))∧Fr s s' []):=by
 refine call_code (t55 h) rfl ?_
 have hf:Fr s (s.new (.cells (e.cs u w) .own)) [] := .new
 have g:(s.new (.cells (e.cs u w) .own)).heap.get s.next=some (.cells (e.cs u w) .own):=get_new_eq rfl
 have hI:inpB e=(decide (1≤e.k∧e.k≤8)&&decide (e.k≠5)):=rfl
 rw[hI]
 obtain ⟨k,nn,d,⟨pk,pt,nr,of_,fr,pd,fin,se,li⟩⟩:=e
 dsimp only[EvV.cs] at *
 by_cases h1:1≤k
 ·by_cases h2:k≤8
  ·by_cases h5:k=5
   ·rw[decide_eq_true (show 1≤k∧k≤8 from ⟨h1,h2⟩),decide_eq_false (show ¬k≠5 from fun h=>h h5)]
    simp (disch:=omega) only [vm0,vm1,vm2,vm3,vm4,vm5,vm6,vm7,vmF,vmT,evo,wr,wrC,frame,Nat.reduceAdd,Nat.reduceMul,Nat.reduceSub,beq_self_eq_true,List.cons_append,List.nil_append,beq_dec,vmI,vc55,vmU,g]
    exact ⟨rfl,hf⟩
   ·rw[decide_eq_true (show 1≤k∧k≤8 from ⟨h1,h2⟩),decide_eq_true (show k≠5 from h5)]
    simp (disch:=omega) only [vm0,vm1,vm2,vm3,vm4,vm5,vm6,vm7,vmF,vmT,evo,wr,wrC,frame,Nat.reduceAdd,Nat.reduceMul,Nat.reduceSub,beq_self_eq_true,List.cons_append,List.nil_append,beq_dec,vmI,vc55,vmU,g]
    exact ⟨rfl,hf⟩
  ·rw[decide_eq_false (show ¬(1≤k∧k≤8) from fun h=>h2 h.2),Bool.false_and]
   simp (disch:=omega) only [vm0,vm1,vm2,vm3,vm4,vm5,vm6,vm7,vmF,vmT,evo,wr,wrC,frame,Nat.reduceAdd,Nat.reduceMul,Nat.reduceSub,beq_self_eq_true,List.cons_append,List.nil_append,beq_dec,vmI,vc55,vmU,g]
   exact ⟨rfl,hf⟩
 ·rw[decide_eq_false (show ¬(1≤k∧k≤8) from fun h=>h1 h.1),Bool.false_and]
  simp (disch:=omega) only [vm0,vm1,vm2,vm3,vm4,vm5,vm6,vm7,vmF,vmT,evo,wr,wrC,frame,Nat.reduceAdd,Nat.reduceMul,Nat.reduceSub,beq_self_eq_true,List.cons_append,List.nil_append,beq_dec,vmI,vc55,vmU,g]
  exact ⟨rfl,hf⟩
set_option maxHeartbeats 4000000 in
theorem n_do (hs:SortOk h) (n:Nat) {s0:St} (s:St) (x:Nat) (X:EN) (k:Int) (e:EvV) (u w:AV) (Ps:List Obj) (hE:EndS gv s0 s x X Ps) (hX:X.Ok k) (hk:k+1≤500000) (he:e.Ft) (hu:Hd Ps u e.d) (hw:Hd Ps w e.p.d) (hfu:1200000<fu) :
  OutOk (callF bd (tab h).get fu (n+9) 56 [.ptr x 0,.agg (e.cs u w)] s) (fun y s'=>Is y (.bool (X.doB e))∧EndS gv s0 s' x (X.doE e) Ps):=by
 refine call_code (t56 h) rfl ?_
 obtain ⟨H0,hnp0,hS0⟩:=hE
 have hS1:=hS0.newC (e.cs u w)
 have hE1:EndS gv s0 _ x X (oC s.next (e.cs u w)::Ps):=⟨H0,hnp0,((hS1.re ((List.perm_middle (l₁:=[_])).trans (.cons _ ((List.perm_middle (l₁:=[_])).trans (.cons _ ((List.perm_middle (l₁:=[_])).trans (.cons _ ((List.perm_middle (l₁:=[_])).trans (.cons _ ((List.perm_middle (l₁:=[_])).trans (.cons _ ((List.perm_middle (l₁:=[_])).trans (.cons _ ((List.perm_middle (l₁:=[_])).trans (.cons _ ((List.perm_middle (l₁:=[_])).trans (.cons _ ((List.perm_middle (l₁:=[_])).trans (.cons _ (.refl _)))))))))))))))))))))⟩
 have g:=hS1.getC
 have hul:=(hu.rd (EndJ.tail hE1).drop).lenV
 have suv:=sm_v (hu.rd (EndJ.tail hE1).drop).rd.sl
 have hB:X.doB e=(if e.k=1 then decide (0<e.d.length)&&decide (X.o.room e.d.length=e.d.length) else if e.k=2 then decide (X.i.out e.d.length=e.d) else if e.k=3 then X.mayT e.n else if e.k=4 then X.may e.p else if e.k=6 then !X.o.closed else if e.k=7 then X.mayU e.n else X.mayD e.n):=rfl
 have hD:X.doE e=(if e.k=1 then X.write e.d else if e.k=2 then X.read e.d.length else if e.k=3 then X.tick e.n else if e.k=4 then X.come e.p else if e.k=6 then X.close else if e.k=7 then X.up e.n else X.down e.n):=rfl
 rw[hB,hD]
 have hin:=@out_in8 X k hX
 obtain ⟨l1,l2,h8,h9⟩:=he
 obtain ⟨ek,en,d,⟨pk,pt,nr,of_,fr,pd,fin,se,li⟩⟩:=e
 dsimp only[EvV.cs] at *
 simp (disch:=omega) only [vm0,vm1,vm2,vm3,vm4,vm5,vm6,vm7,vmF,vmT,evo,wr,wrC,frame,Nat.reduceAdd,Nat.reduceMul,Nat.reduceSub,beq_self_eq_true,List.cons_append,List.nil_append,beq_dec,vmI,vc56,g]
 generalize s.new (.cells [num ek,num en,u,num pk,num pt,num nr,num of_,num fr,w,.bool fin,num se,num li] .own)=s1 at *
 by_cases k1:ek=1
 ·rw[if_pos k1,if_pos k1]
  subst k1
  by_cases hd0:d=[]
  ·subst hd0
   rw[write_nil]
   simp (disch:=omega) only [vm0,vm1,vm2,vm3,vm4,vm5,vm6,vm7,vmF,vmT,evo,wr,wrC,frame,Nat.reduceAdd,Nat.reduceMul,Nat.reduceSub,beq_self_eq_true,List.cons_append,List.nil_append,beq_dec,vmI,vmU,g,hul,List.length_nil,Int.natCast_zero]
   exact ⟨by simp[Is],hE1.drop⟩
  have hd1:=List.length_pos_iff.2 hd0
  simp (disch:=omega) only [vm0,vm1,vm2,vm3,vm4,vm5,vm6,vm7,vmF,vmT,evo,wr,wrC,frame,Nat.reduceAdd,Nat.reduceMul,Nat.reduceSub,beq_self_eq_true,List.cons_append,List.nil_append,beq_dec,vmI,vmU,g,hul]
  refine call_ok rfl rfl (n_write n s1 x X k u d _ hE1 hX hk (fun s' hS=>hu.rd hS.drop) h8 l1 (by omega)) ?_
  rintro y s2 ⟨rfl,hE2⟩
  have g2:=(EndJ.tail hE2).getC
  have hd2:(0:Int)<(d.length:Int):=by omega
  by_cases hr:X.o.room (d.length:Int)=(d.length:Int)
  ·rw[decide_eq_true hr]
   simp (disch:=omega) only [vm0,vm1,vm2,vm3,vm4,vm5,vm6,vm7,vmF,vmT,evo,wr,wrC,frame,Nat.reduceAdd,Nat.reduceMul,Nat.reduceSub,beq_self_eq_true,List.cons_append,List.nil_append,beq_dec,vmI,vmU,g,g2,hul,suv]
   exact ⟨rfl,hE2.drop⟩
  ·rw[decide_eq_false hr]
   simp (disch:=omega) only [vm0,vm1,vm2,vm3,vm4,vm5,vm6,vm7,vmF,vmT,evo,wr,wrC,frame,Nat.reduceAdd,Nat.reduceMul,Nat.reduceSub,beq_self_eq_true,List.cons_append,List.nil_append,beq_dec,vmI,vmU,g,g2,hul,suv]
   exact ⟨rfl,hE2.drop⟩
 rw[if_neg k1,if_neg k1]
 by_cases k2:ek=2
 ·rw[if_pos k2,if_pos k2]
  subst k2
  simp (disch:=omega) only [vm0,vm1,vm2,vm3,vm4,vm5,vm6,vm7,vmF,vmT,evo,wr,wrC,frame,Nat.reduceAdd,Nat.reduceMul,Nat.reduceSub,beq_self_eq_true,List.cons_append,List.nil_append,beq_dec,vmI,g,hul]
  refine call_ok rfl rfl (n_read (n+2) s1 x X k d.length _ hE1 hX) ?_
  rintro y s2 hE2
  have hT:=EndJ.tail hE2
  have g2:=hT.swap.getC
  have hy:=hT.rdW
  simp (disch:=omega) only [vm0,vm1,vm2,vm3,vm4,vm5,vm6,vm7,vmF,vmT,evo,wr,wrC,frame,Nat.reduceAdd,Nat.reduceMul,Nat.reduceSub,beq_self_eq_true,List.cons_append,List.nil_append,beq_dec,vmI,g,g2,suv]
  refine call_ok rfl rfl (v_equal (n+7) s2 y u (X.i.out d.length) d hy (hu.rd (((hT.re (.refl _)).drop.drop))) (hin _) h8) ?_
  rintro z s3 ⟨rfl,rfl⟩
  simp (disch:=omega) only [vm0,vm1,vm2,vm3,vm4,vm5,vm6,vm7,vmF,vmT,evo,wr,wrC,frame,Nat.reduceAdd,Nat.reduceMul,Nat.reduceSub,beq_self_eq_true,List.cons_append,List.nil_append,beq_dec,vmI,g,g2,suv]
  exact ⟨rfl,hE2.drop.drop⟩
 rw[if_neg k2,if_neg k2]
 by_cases k3:ek=3
 ·rw[if_pos k3,if_pos k3]
  subst k3
  simp (disch:=omega) only [vm0,vm1,vm2,vm3,vm4,vm5,vm6,vm7,vmF,vmT,evo,wr,wrC,frame,Nat.reduceAdd,Nat.reduceMul,Nat.reduceSub,beq_self_eq_true,List.cons_append,List.nil_append,beq_dec,vmI,g]
  refine call_ok rfl rfl (n_tick hs n s1 x X k en _ hE1 hX hk (by omega)) ?_
  rintro y s2 ⟨rfl,hE2⟩
  simp (disch:=omega) only [vm0,vm1,vm2,vm3,vm4,vm5,vm6,vm7,vmF,vmT,evo,wr,wrC,frame,Nat.reduceAdd,Nat.reduceMul,Nat.reduceSub,beq_self_eq_true,List.cons_append,List.nil_append,beq_dec,vmI]
  exact ⟨rfl,hE2.drop⟩
 rw[if_neg k3,if_neg k3]
 by_cases k4:ek=4
 ·rw[if_pos k4,if_pos k4]
  subst k4
  simp (disch:=omega) only [vm0,vm1,vm2,vm3,vm4,vm5,vm6,vm7,vmF,vmT,evo,wr,wrC,frame,Nat.reduceAdd,Nat.reduceMul,Nat.reduceSub,beq_self_eq_true,List.cons_append,List.nil_append,beq_dec,vmI,g]
  refine call_ok rfl rfl (n_come hs n s1 x X k ⟨pk,pt,nr,of_,fr,pd,fin,se,li⟩ w _ hE1 hX hk hw.cons l2 h9 (by omega)) ?_
  rintro y s2 ⟨rfl,hE2⟩
  simp (disch:=omega) only [vm0,vm1,vm2,vm3,vm4,vm5,vm6,vm7,vmF,vmT,evo,wr,wrC,frame,Nat.reduceAdd,Nat.reduceMul,Nat.reduceSub,beq_self_eq_true,List.cons_append,List.nil_append,beq_dec,vmI]
  exact ⟨rfl,hE2.drop⟩
 rw[if_neg k4,if_neg k4]
 by_cases k6:ek=6
 ·rw[if_pos k6,if_pos k6]
  subst k6
  simp (disch:=omega) only [vm0,vm1,vm2,vm3,vm4,vm5,vm6,vm7,vmF,vmT,evo,wr,wrC,frame,Nat.reduceAdd,Nat.reduceMul,Nat.reduceSub,beq_self_eq_true,List.cons_append,List.nil_append,beq_dec,vmI,g]
  refine call_ok rfl rfl (n_close n s1 x X k _ hE1 hX hk (by omega)) ?_
  rintro y s2 ⟨rfl,hE2⟩
  simp (disch:=omega) only [vm0,vm1,vm2,vm3,vm4,vm5,vm6,vm7,vmF,vmT,evo,wr,wrC,frame,Nat.reduceAdd,Nat.reduceMul,Nat.reduceSub,beq_self_eq_true,List.cons_append,List.nil_append,beq_dec,vmI]
  exact ⟨rfl,hE2.drop⟩
 rw[if_neg k6,if_neg k6]
 by_cases k7:ek=7
 ·rw[if_pos k7,if_pos k7]
  subst k7
  simp (disch:=omega) only [vm0,vm1,vm2,vm3,vm4,vm5,vm6,vm7,vmF,vmT,evo,wr,wrC,frame,Nat.reduceAdd,Nat.reduceMul,Nat.reduceSub,beq_self_eq_true,List.cons_append,List.nil_append,beq_dec,vmI,g]
  refine call_ok rfl rfl (n_up n s1 x X k en _ hE1 hX hk (by omega)) ?_
  rintro y s2 ⟨rfl,hE2⟩
  simp (disch:=omega) only [vm0,vm1,vm2,vm3,vm4,vm5,vm6,vm7,vmF,vmT,evo,wr,wrC,frame,Nat.reduceAdd,Nat.reduceMul,Nat.reduceSub,beq_self_eq_true,List.cons_append,List.nil_append,beq_dec,vmI]
  exact ⟨rfl,hE2.drop⟩
 rw[if_neg k7,if_neg k7]
 simp (disch:=omega) only [vm0,vm1,vm2,vm3,vm4,vm5,vm6,vm7,vmF,vmT,evo,wr,wrC,frame,Nat.reduceAdd,Nat.reduceMul,Nat.reduceSub,beq_self_eq_true,List.cons_append,List.nil_append,beq_dec,vmI,g]
 refine call_ok rfl rfl (n_down hs n s1 x X k en _ hE1 hX hk (by omega)) ?_
 rintro y s2 ⟨rfl,hE2⟩
 simp (disch:=omega) only [vm0,vm1,vm2,vm3,vm4,vm5,vm6,vm7,vmF,vmT,evo,wr,wrC,frame,Nat.reduceAdd,Nat.reduceMul,Nat.reduceSub,beq_self_eq_true,List.cons_append,List.nil_append,beq_dec,vmI]
 exact ⟨rfl,hE2.drop⟩
end
end Go.Proofs.YtlgbkpaihjnjpaaGreat.ctr
