/- What functions of the program compute, one by one (2). -/
import Derived.Test.YtlgbkpaihjnjpaaGreatCtaa
set_option linter.unusedVariables false
set_option linter.unusedSimpArgs false
set_option linter.unusedSectionVars false
set_option linter.constructorNameAsVariable false
set_option linter.defProp false
namespace Go.Proofs.YtlgbkpaihjnjpaaGreat.ctr
open Go Go.Vm Go.RowKit
def oF (p:Nat) (l:List O):Obj:=⟨fun s fp=>IsF s p l fp,IsF.fr,IsF.lt⟩
structure PT where
 up:Bool
 jn:Bool
 bh:Bool
 sent:Int
 G:GS
 W:WS
 F:List O
def PT.pc (t:PT) (g w f:Nat):List AV:=[.bool t.up,.bool t.jn,.ptr g 0,.ptr w 0,.ptr f 0,num t.sent,.bool t.bh]
def addF (o:O) (l:List O):List O:=if fst o.1 l 0<0 then l++[o] else l
def takeF (k:Int) (l:List O):List O:=if fst k l 0<0 then l else l.eraseIdx (ixO k l)
def PT.acked (t:PT) (k now:Int):PT:=if fst k t.F 0<0 then t else { t with F:=takeF k t.F,G:=t.G.sample (now-(t.F.getD (ixO k t.F) o0).2.2.2),W:=t.W.ack,bh:=false }
def PT.lates (t:PT) (now:Int):List O:=t.F.filter (lateO now t.G.wait)
def PT.late (t:PT) (now:Int):PT:=if (t.lates now).length=0 then { t with F:=t.F.filter (fun o=>!lateO now t.G.wait o) } else { t with F:=t.F.filter (fun o=>!lateO now t.G.wait o),G:=t.G.late,W:=t.W.loss,bh:=true }
section
variable {bd : Bd} {h : VF} {fu : Nat}
theorem d_fadd (n:Nat) {s0:St} (s:St) (p:Nat) (l:List O) (o:O) (Ps:List Obj) (hS:Sep s0 s (oF p l::Ps)) (hlen:l.length<fu) (hf:l.length<100000):OutOk (callF bd (tab h).get fu (n+4) 148 [.ptr p 0,.agg (encO o)] s) (fun x s'=>Is x (.bool (decide (fst o.1 l 0<0)))∧Sep s0 s' (oF p (addF o l)::Ps)):=by
 obtain ⟨f,k1,up⟩:=hS.hd
 exact (f_add n s p l f o k1 hlen hf).mono fun x s' ⟨f',r1,r2,r3,r4⟩=>⟨r1,up (oF _ _) r2 r3 r4⟩
theorem d_ftake (n:Nat) {s0:St} (s:St) (p:Nat) (l:List O) (k:Int) (Ps:List Obj) (hS:Sep s0 s (oF p l::Ps)) (hlen:l.length<fu) (hf:l.length<100000):OutOk (callF bd (tab h).get fu (n+4) 101 [.ptr p 0,num k] s) (fun x s'=>(if fst k l 0<0 then x = .tup [.agg (encO o0),.bool false] else x = .tup [.agg (encO (l.getD (ixO k l) o0)),.bool true])∧Sep s0 s' (oF p (takeF k l)::Ps)):=by
 obtain ⟨f,k1,up⟩:=hS.hd
 exact (f_take n s p l f k k1 hlen hf).mono fun x s' ⟨f',r1,r2,r3,r4⟩=>⟨r1,up (oF _ _) r2 r3 r4⟩
end
def oPair (P Q:Obj):Obj:=⟨fun s fp=>∃ f g,P.P s f∧Q.P s g∧(∀ b∈f,b∉g)∧fp=f++g,
 fun {s s' fp fp'} ⟨f,g,h1,h2,h3,h4⟩ hf hd=>⟨f,g,P.fr h1 hf fun b hb=>hd b (by rw[h4]; simp[hb]),Q.fr h2 hf fun b hb=>hd b (by rw[h4]; simp[hb]),h3,h4⟩,
 fun {s fp} ⟨f,g,h1,h2,h3,h4⟩=>by
  intro b hb
  rw[h4] at hb
  rcases List.mem_append.1 hb with hb | hb
  ·exact P.lt h1 b hb
  ·exact Q.lt h2 b hb⟩
theorem Sep.split {s0 s:St} {P Q:Obj} {Ps:List Obj} (h:Sep s0 s (oPair P Q::Ps)):Sep s0 s (P::Q::Ps):=by
 obtain ⟨fp,⟨f,g,⟨f1,f2,h1,h2,h3,rfl⟩,k2,k3,rfl⟩,k4,k5⟩:=h
 refine ⟨f1++(f2++g),⟨f1,f2++g,h1,⟨f2,g,h2,k2,fun b hb hm=>k3 b (by simp[hb]) hm,rfl⟩,?_,rfl⟩,fun b hb=>k4 b (by simp only[List.mem_append] at *; rcases hb with h | h | h <;> simp[h]),k5⟩
 intro b hb hm
 rcases List.mem_append.1 hm with hm | hm
 ·exact h3 b hb hm
 ·exact k3 b (by simp[hb]) hm
section
variable {bd : Bd} {h : VF} {fu : Nat}
theorem d_flate2 (n:Nat) {s0:St} (s:St) (p:Nat) (l:List O) (now wait:Int) (Ps:List Obj) (hS:Sep s0 s (oF p l::Ps)) (hlen:l.length<fu) (hf:l.length<100000) (b1:-1000000000000≤now) (b2:now≤1000000000000) (b3:-1000000000000≤wait) (b4:wait≤1000000000000):OutOk (callF bd (tab h).get fu (n+2) 85 [.ptr p 0,num now,num wait] s) (fun x s'=>Sep s0 s' (oW x 4 encO (l.filter (lateO now wait))::oF p (l.filter (fun o=>!lateO now wait o))::Ps)):=by
 obtain ⟨f,k1,up⟩:=hS.hd
 have hp:p∈f:=by obtain ⟨v,fv,h1,h2,h3,rfl,h5⟩:=k1; simp
 refine (f_late n s p l f now wait k1 hlen hf b1 b2 b3 b4).mono fun x s' ⟨fl,fr,r1,r2,r3,r4,r5,r6⟩=>?_
 refine (up (oPair (oW x 4 encO (l.filter (lateO now wait))) (oF p (l.filter (fun o=>!lateO now wait o)))) ⟨fl,fr,r1,r2,r6,rfl⟩ (r3.mono (fun b hb _=>by simp at hb; subst hb; exact hp)) ?_).split
 intro b hb
 rcases List.mem_append.1 hb with hb | hb
 ·rcases r4 b hb with h | h
  ·simp at h
  ·exact .inr h
 ·rcases r5 b hb with h | h
  ·left; simp at h; subst h; exact hp
  ·exact .inr h
theorem d_fdrop (n:Nat) {s0:St} (s:St) (p:Nat) (l:List O) (Ps:List Obj) (hS:Sep s0 s (oF p l::Ps)):OutOk (callF bd (tab h).get fu (n+1) 104 [.ptr p 0] s) (fun x s'=>Sep s0 s' (oW x 4 encO l::oF p []::Ps)):=by
 obtain ⟨f,k1,up⟩:=hS.hd
 refine (f_drop n s p l f k1).mono fun x s' ⟨fv,r1,r2,r3,r4,r5⟩=>?_
 refine (up (oPair (oW x 4 encO l) (oF p [])) ⟨fv,[p],r1,r2,by intro b hb hm; simp at hm; subst hm; exact r5 hb,rfl⟩ r3 ?_).split
 intro b hb
 left
 subst r4
 rcases List.mem_append.1 hb with hb | hb
 ·simp[hb]
 ·simp at hb; simp[hb]
theorem d_flen (n:Nat) {s0:St} (s:St) (p:Nat) (l:List O) (Ps:List Obj) (hS:Sep s0 s (oF p l::Ps)):OutOk (callF bd (tab h).get fu (n+1) 113 [.ptr p 0] s) (fun x s'=>Is x (num (l.length:Int))∧Is s' s):=by
 obtain ⟨f,k1,up⟩:=hS.hd
 exact f_len_ n s p l f k1
theorem d_fall (n:Nat) {s0:St} (s:St) (p:Nat) (l:List O) (Ps:List Obj) (hS:Sep s0 s (oF p l::Ps)) (hf:l.length<1000000):OutOk (callF bd (tab h).get fu (n+2) 114 [.ptr p 0] s) (fun x s'=>Sep s0 s' (oW x 4 encO l::oF p l::Ps)):=by
 obtain ⟨f,k1,up⟩:=hS.hd
 refine (f_all n s p l f k1 hf).mono fun x s' ⟨f',r1,r2,r3⟩=>hS.push (P:=oW x 4 encO l) r1 r2 r3
theorem p_up (n:Nat) {s0:St} (s:St) (p g w f:Nat) (t:PT) (Ps:List Obj) (hS:Sep s0 s (oC p (t.pc g w f)::Ps)):OutOk (callF bd (tab h).get fu (n+1) 43 [.ptr p 0] s) (fun x s'=>Is x (.bool (!t.up))∧Sep s0 s' (oC p (PT.pc { t with up:=true } g w f)::Ps)):=by
 refine call_code (t43 h) rfl ?_
 obtain ⟨up,jn,bh,sn,G,W,F⟩:=t
 dsimp only[PT.pc] at *
 have g1:=hS.getC
 simp (disch:=omega) only [vm0,vm1,vm2,vm3,vm4,vm5,vm6,vm7,vmF,vmT,evo,wr,wrC,frame,Nat.reduceAdd,Nat.reduceMul,Nat.reduceSub,beq_self_eq_true,List.cons_append,List.nil_append,beq_dec,vmI,vc43,g1]
 exact ⟨rfl,hS.setC _⟩
theorem p_join (n:Nat) {s0:St} (s:St) (p g w f:Nat) (t:PT) (Ps:List Obj) (hS:Sep s0 s (oC p (t.pc g w f)::Ps)):OutOk (callF bd (tab h).get fu (n+1) 46 [.ptr p 0] s) (fun x s'=>Is x (.bool (!t.jn))∧Sep s0 s' (oC p (PT.pc { t with jn:=true } g w f)::Ps)):=by
 refine call_code (t46 h) rfl ?_
 obtain ⟨up,jn,bh,sn,G,W,F⟩:=t
 dsimp only[PT.pc] at *
 have g1:=hS.getC
 simp (disch:=omega) only [vm0,vm1,vm2,vm3,vm4,vm5,vm6,vm7,vmF,vmT,evo,wr,wrC,frame,Nat.reduceAdd,Nat.reduceMul,Nat.reduceSub,beq_self_eq_true,List.cons_append,List.nil_append,beq_dec,vmI,vc46,g1]
 exact ⟨rfl,hS.setC _⟩
theorem p_down (n:Nat) {s0:St} (s:St) (p g w f:Nat) (t:PT) (Ps:List Obj) (hS:Sep s0 s (oC p (t.pc g w f)::oF f t.F::Ps)):OutOk (callF bd (tab h).get fu (n+2) 54 [.ptr p 0] s) (fun x s'=>Sep s0 s' (oW x 4 encO (if t.up then t.F else [])::oC p (PT.pc { t with up:=false } g w f)::oF f (if t.up then [] else t.F)::Ps)):=by
 refine call_code (t54 h) rfl ?_
 obtain ⟨up,jn,bh,sn,G,W,F⟩:=t
 dsimp only[PT.pc] at *
 have g1:=hS.getC
 cases up
 ·simp (disch:=omega) only [vm0,vm1,vm2,vm3,vm4,vm5,vm6,vm7,vmF,vmT,evo,wr,wrC,frame,Nat.reduceAdd,Nat.reduceMul,Nat.reduceSub,beq_self_eq_true,List.cons_append,List.nil_append,beq_dec,vmI,vc54,g1]
  rw[if_neg (by simp),if_neg (by simp)]
  exact hS.push (P:=oW .nils 4 encO []) (f:=[]) (OwE.nil (by intro x; rfl) (by omega)) .refl (by simp[Nw])
 ·simp (disch:=omega) only [vm0,vm1,vm2,vm3,vm4,vm5,vm6,vm7,vmF,vmT,evo,wr,wrC,frame,Nat.reduceAdd,Nat.reduceMul,Nat.reduceSub,beq_self_eq_true,List.cons_append,List.nil_append,beq_dec,vmI,vc54,g1]
  simp only[if_true]
  refine call_ok rfl rfl (d_fdrop n _ f F _ (hS.setC _).swap) ?_
  rintro x s1 hS1
  simp (disch:=omega) only [vm0,vm1,vm2,vm3,vm4,vm5,vm6,vm7,vmF,vmT,evo,wr,wrC,frame,Nat.reduceAdd,Nat.reduceMul,Nat.reduceSub,beq_self_eq_true,List.cons_append,List.nil_append,beq_dec,vmI]
  exact (((hS1.re (.cons _ ((List.perm_middle (l₁:=[_])).trans (.cons _ (.refl _)))))))
theorem p_out (n:Nat) {s0:St} (s:St) (p g w f:Nat) (t:PT) (o:O) (Ps:List Obj) (hS:Sep s0 s (oC p (t.pc g w f)::oF f t.F::Ps)) (hlen:t.F.length<fu) (hf:t.F.length<100000):OutOk (callF bd (tab h).get fu (n+5) 127 [.ptr p 0,.agg (encO o)] s) (fun x s'=>Is x (.bool (decide (fst o.1 t.F 0<0)))∧Sep s0 s' (oC p (t.pc g w f)::oF f (addF o t.F)::Ps)):=by
 refine call_code (t127 h) rfl ?_
 obtain ⟨up,jn,bh,sn,G,W,F⟩:=t
 obtain ⟨a,b,c,d⟩:=o
 dsimp only[PT.pc,encO] at *
 have g1:=hS.getC
 simp (disch:=omega) only [vm0,vm1,vm2,vm3,vm4,vm5,vm6,vm7,vmF,vmT,evo,wr,wrC,frame,Nat.reduceAdd,Nat.reduceMul,Nat.reduceSub,beq_self_eq_true,List.cons_append,List.nil_append,beq_dec,vmI,vc127,g1]
 have hS1:=hS.fr (s':=s.new (.cells [num a,num b,num c,num d] .own)) (by (repeat' (first | exact Fr.refl | assumption | apply Fr.new' | apply Fr.mk' | apply Fr.put')) <;> (first | omega | (left; simp; done) | (right; simp only[next_put,next_new,next_mk]; omega) | (simp only[next_put,next_new,next_mk]; omega)))
 have g2:=hS1.getC
 have hb:(s.new (.cells [num a,num b,num c,num d] .own)).heap.get s.next=some (.cells [num a,num b,num c,num d] .own):=get_new_eq rfl
 have hC:=Sep.push hS (s':=s.new (.cells [num a,num b,num c,num d] .own)) (P:=oC s.next [num a,num b,num c,num d]) ⟨hb,by rw[next_new]; omega,rfl⟩ (by (repeat' (first | exact Fr.refl | assumption | apply Fr.new' | apply Fr.mk' | apply Fr.put')) <;> (first | omega | (left; simp; done) | (right; simp only[next_put,next_new,next_mk]; omega) | (simp only[next_put,next_new,next_mk]; omega))) (by intro z hz; simp at hz; right; omega)
 generalize s.new (.cells [num a,num b,num c,num d] .own)=s1 at *
 simp (disch:=omega) only [vm0,vm1,vm2,vm3,vm4,vm5,vm6,vm7,vmF,vmT,evo,wr,wrC,frame,Nat.reduceAdd,Nat.reduceMul,Nat.reduceSub,beq_self_eq_true,List.cons_append,List.nil_append,beq_dec,vmI,g2,hb]
 refine call_ok rfl rfl (d_fadd n s1 f F (a,b,c,d) _ (((hC.re ((List.perm_middle (l₁:=[_,_])).trans (.cons _ (.refl _)))))) hlen hf) ?_
 rintro x s2 ⟨rfl,hS2⟩
 have g3:=hS2.swap.getC
 have g4:=(((hS2.re ((List.perm_middle (l₁:=[_,_])).trans (.cons _ (.refl _)))))).getC
 simp (disch:=omega) only [vm0,vm1,vm2,vm3,vm4,vm5,vm6,vm7,vmF,vmT,evo,wr,wrC,frame,Nat.reduceAdd,Nat.reduceMul,Nat.reduceSub,beq_self_eq_true,List.cons_append,List.nil_append,beq_dec,vmI,g2,hb,g3,g4]
 exact ⟨rfl,((hS2.re ((List.perm_middle (l₁:=[_])).trans (.cons _ ((List.perm_middle (l₁:=[_])).trans (.cons _ (.refl _)))))).drop)⟩
end
theorem Sep.sameW {α:Type} {s0 s:St} {v:AV} {sz:Nat} {enc:α→List AV} {l:List α} {Ps:List Obj} (h:Sep s0 s (oW v sz enc l::Ps)):sameA v v=true:=by
 obtain ⟨f,k,_⟩:=h.hd
 rcases k.ow with ⟨rfl,_⟩ | ⟨_,_,_,_,_,_,rfl,_⟩
 ·exact sm_n
 ·exact sm_s
section
variable {bd : Bd} {h : VF} {fu : Nat}
theorem p_late (n:Nat) {s0:St} (s:St) (p g w f:Nat) (t:PT) (now:Int) (Ps:List Obj) (hS:Sep s0 s (oC p (t.pc g w f)::oC g t.G.cs::oC w t.W.cs::oF f t.F::Ps)) (hg:t.G.Ok) (hw:t.W.Ok) (hlen:t.F.length<fu) (hf:t.F.length<100000) (hn:0≤now∧now≤1048576) :
  OutOk (callF bd (tab h).get fu (n+3) 38 [.ptr p 0,num now] s) (fun x s'=>Sep s0 s' (oW x 4 encO (t.lates now)::oC p ((t.late now).pc g w f)::oC g (t.late now).G.cs::oC w (t.late now).W.cs::oF f (t.late now).F::Ps)):=by
 refine call_code (t38 h) rfl ?_
 have hwt:=hg.wait
 obtain ⟨up,jn,bh,sn,G,W,F⟩:=t
 dsimp only[PT.pc,PT.lates] at *
 have g1:=hS.getC
 simp (disch:=omega) only [vm0,vm1,vm2,vm3,vm4,vm5,vm6,vm7,vmF,vmT,evo,wr,wrC,frame,Nat.reduceAdd,Nat.reduceMul,Nat.reduceSub,beq_self_eq_true,List.cons_append,List.nil_append,beq_dec,vmI,vc38,g1]
 refine call_ok rfl rfl (g_wait n s g G _ (((hS.re ((List.perm_middle (l₁:=[_])).trans (.cons _ (.refl _)))))) hg) ?_
 rintro y s1 ⟨rfl,rfl⟩
 simp (disch:=omega) only [vm0,vm1,vm2,vm3,vm4,vm5,vm6,vm7,vmF,vmT,evo,wr,wrC,frame,Nat.reduceAdd,Nat.reduceMul,Nat.reduceSub,beq_self_eq_true,List.cons_append,List.nil_append,beq_dec,vmI,g1]
 refine call_ok rfl rfl (d_flate2 n s1 f F now G.wait _ (((hS.re ((List.perm_middle (l₁:=[_,_,_])).trans (.cons _ (.refl _)))))) hlen hf (by omega) (by omega) (by omega) (by omega)) ?_
 rintro x s2 hS2
 have g2:=(((hS2.re ((List.perm_middle (l₁:=[_,_])).trans (.cons _ (.refl _)))))).getC
 have hx:=hS2.rdW
 have hxl:=hx.lenV
 have hsx:=hS2.sameW
 by_cases hl:(F.filter (lateO now G.wait)).length=0
 ·have e:PT.late ⟨up,jn,bh,sn,G,W,F⟩ now=⟨up,jn,bh,sn,G,W,F.filter (fun o=>!lateO now G.wait o)⟩:=if_pos hl
  rw[e]
  dsimp only
  rw[hl] at hxl
  simp (disch:=omega) only [vm0,vm1,vm2,vm3,vm4,vm5,vm6,vm7,vmF,vmT,evo,wr,wrC,frame,Nat.reduceAdd,Nat.reduceMul,Nat.reduceSub,beq_self_eq_true,List.cons_append,List.nil_append,beq_dec,vmI,g1,g2,hsx,hxl]
  exact ((hS2.re (.cons _ ((List.perm_middle (l₁:=[_])).trans (.cons _ ((List.perm_middle (l₁:=[_])).trans (.cons _ ((List.perm_middle (l₁:=[_])).trans (.cons _ (.refl _))))))))))
 ·have e:PT.late ⟨up,jn,bh,sn,G,W,F⟩ now=⟨up,jn,true,sn,G.late,W.loss,F.filter (fun o=>!lateO now G.wait o)⟩:=if_neg hl
  rw[e]
  dsimp only
  have hl2:(0:Int)<((F.filter (lateO now G.wait)).length:Int):=by omega
  simp (disch:=omega) only [vm0,vm1,vm2,vm3,vm4,vm5,vm6,vm7,vmF,vmT,evo,wr,wrC,frame,Nat.reduceAdd,Nat.reduceMul,Nat.reduceSub,beq_self_eq_true,List.cons_append,List.nil_append,beq_dec,vmI,g1,g2,hsx,hxl]
  refine call_ok rfl rfl (g_late (n+1) s2 g G _ (((hS2.re ((List.perm_middle (l₁:=[_,_,_])).trans (.cons _ (.refl _)))))) hg) ?_
  rintro y s3 hS3
  have g3:=(((hS3.re ((List.perm_middle (l₁:=[_,_,_])).trans (.cons _ (.refl _)))))).getC
  simp (disch:=omega) only [vm0,vm1,vm2,vm3,vm4,vm5,vm6,vm7,vmF,vmT,evo,wr,wrC,frame,Nat.reduceAdd,Nat.reduceMul,Nat.reduceSub,beq_self_eq_true,List.cons_append,List.nil_append,beq_dec,vmI,g3]
  refine call_ok rfl rfl (c_loss (n+1) s3 w W _ (((hS3.re ((List.perm_middle (l₁:=[_,_,_,_])).trans (.cons _ (.refl _)))))) hw) ?_
  rintro y s4 hS4
  have hS5:=((hS4.re ((List.perm_middle (l₁:=[_,_,_,_])).trans (.cons _ (.refl _)))))
  have g4:=hS5.getC
  simp (disch:=omega) only [vm0,vm1,vm2,vm3,vm4,vm5,vm6,vm7,vmF,vmT,evo,wr,wrC,frame,Nat.reduceAdd,Nat.reduceMul,Nat.reduceSub,beq_self_eq_true,List.cons_append,List.nil_append,beq_dec,vmI,g4]
  have hS6:=Sep.setC hS5 [.bool up,.bool jn,.ptr g 0,.ptr w 0,.ptr f 0,num sn,.bool true]
  exact ((hS6.re ((List.perm_middle (l₁:=[_,_,_])).trans (.cons _ (.cons _ ((List.perm_middle (l₁:=[_])).trans (.cons _ (.refl _))))))))
theorem p_acked (n:Nat) {s0:St} (s:St) (p g w f:Nat) (t:PT) (k now:Int) (Ps:List Obj) (hS:Sep s0 s (oC p (t.pc g w f)::oC g t.G.cs::oC w t.W.cs::oF f t.F::Ps)) (hg:t.G.Ok) (hw:t.W.Ok) (hlen:t.F.length<fu) (hf:t.F.length<100000) (hn:0≤now∧now≤1048576) (ha:∀ o∈t.F,0≤o.2.2.2∧o.2.2.2≤1048576) :
  OutOk (callF bd (tab h).get fu (n+5) 51 [.ptr p 0,num k,num now] s) (fun x s'=>Is x (.bool (decide (¬fst k t.F 0<0)))∧Sep s0 s' (oC p ((t.acked k now).pc g w f)::oC g (t.acked k now).G.cs::oC w (t.acked k now).W.cs::oF f (t.acked k now).F::Ps)):=by
 refine call_code (t51 h) rfl ?_
 obtain ⟨up,jn,bh,sn,G,W,F⟩:=t
 dsimp only[PT.pc] at *
 have g1:=hS.getC
 simp (disch:=omega) only [vm0,vm1,vm2,vm3,vm4,vm5,vm6,vm7,vmF,vmT,evo,wr,wrC,frame,Nat.reduceAdd,Nat.reduceMul,Nat.reduceSub,beq_self_eq_true,List.cons_append,List.nil_append,beq_dec,vmI,vc51,g1]
 refine call_ok rfl rfl (d_ftake n s f F k _ (((hS.re ((List.perm_middle (l₁:=[_,_,_])).trans (.cons _ (.refl _)))))) hlen hf) ?_
 rintro y s1 ⟨hy,hS1⟩
 by_cases hl:fst k F 0<0
 ·rw[if_pos hl] at hy
  subst hy
  have e:PT.acked ⟨up,jn,bh,sn,G,W,F⟩ k now=⟨up,jn,bh,sn,G,W,F⟩:=if_pos hl
  have e2:takeF k F=F:=if_pos hl
  rw[e]
  rw[e2] at hS1
  dsimp only
  have hS2:=hS1.cell [num 0,num 0,num 0,num 0] (encO o0)
  dsimp only[encO] at *
  simp (disch:=omega) only [vm0,vm1,vm2,vm3,vm4,vm5,vm6,vm7,vmF,vmT,evo,wr,wrC,frame,Nat.reduceAdd,Nat.reduceMul,Nat.reduceSub,beq_self_eq_true,List.cons_append,List.nil_append,beq_dec,vmI]
  exact ⟨rfl,((hS2.re (.cons _ ((List.perm_middle (l₁:=[_])).trans (.cons _ ((List.perm_middle (l₁:=[_])).trans (.cons _ ((List.perm_middle (l₁:=[_])).trans (.cons _ (.refl _))))))))).drop)⟩
 ·rw[if_neg hl] at hy
  subst hy
  have e:PT.acked ⟨up,jn,bh,sn,G,W,F⟩ k now=⟨up,jn,false,sn,G.sample (now-(F.getD (ixO k F) o0).2.2.2),W.ack,takeF k F⟩:=if_neg hl
  rw[e]
  dsimp only
  have hat:0≤(F.getD (ixO k F) o0).2.2.2∧(F.getD (ixO k F) o0).2.2.2≤1048576:=by
   rw[List.getD_eq_getElem?_getD]
   cases hq:F[ixO k F]? with
   | none=>exact ⟨by decide,by decide⟩
   | some o=>exact ha o (List.mem_of_getElem? hq)
  generalize F.getD (ixO k F) o0=o at *
  obtain ⟨oa,ob',oc,od⟩:=o
  dsimp only at hat
  have hS2:=hS1.cell [num 0,num 0,num 0,num 0] (encO (oa,ob',oc,od))
  have g2:=(((hS2.re ((List.perm_middle (l₁:=[_,_])).trans (.cons _ (.refl _)))))).getC
  have g3:=hS2.getC
  dsimp only[encO] at *
  simp (disch:=omega) only [vm0,vm1,vm2,vm3,vm4,vm5,vm6,vm7,vmF,vmT,evo,wr,wrC,frame,Nat.reduceAdd,Nat.reduceMul,Nat.reduceSub,beq_self_eq_true,List.cons_append,List.nil_append,beq_dec,vmI]
  generalize (s1.new (.cells [num 0,num 0,num 0,num 0] .own)).put s1.next (some (.cells [num oa,num ob',num oc,num od] .own))=s2 at *
  simp (disch:=omega) only [vm0,vm1,vm2,vm3,vm4,vm5,vm6,vm7,vmF,vmT,evo,wr,wrC,frame,Nat.reduceAdd,Nat.reduceMul,Nat.reduceSub,beq_self_eq_true,List.cons_append,List.nil_append,beq_dec,vmI,g2,g3]
  refine call_ok rfl rfl (g_sample (n+2) s2 g G (now-od) _ (((hS2.re ((List.perm_middle (l₁:=[_,_,_])).trans (.cons _ (.refl _)))))) hg) ?_
  rintro y s3 hS3
  have g4:=(((hS3.re ((List.perm_middle (l₁:=[_,_,_])).trans (.cons _ (.refl _)))))).getC
  have g5:=(((hS3.re ((List.perm_middle (l₁:=[_])).trans (.cons _ (.refl _)))))).getC
  simp (disch:=omega) only [vm0,vm1,vm2,vm3,vm4,vm5,vm6,vm7,vmF,vmT,evo,wr,wrC,frame,Nat.reduceAdd,Nat.reduceMul,Nat.reduceSub,beq_self_eq_true,List.cons_append,List.nil_append,beq_dec,vmI,g2,g3,g4,g5]
  refine call_ok rfl rfl (c_ack (n+2) s3 w W _ (((hS3.re ((List.perm_middle (l₁:=[_,_,_,_])).trans (.cons _ (.refl _)))))) hw) ?_
  rintro y s4 hS4
  have hS5:=((hS4.re ((List.perm_middle (l₁:=[_,_,_,_])).trans (.cons _ (.refl _)))))
  have g6:=hS5.getC
  simp (disch:=omega) only [vm0,vm1,vm2,vm3,vm4,vm5,vm6,vm7,vmF,vmT,evo,wr,wrC,frame,Nat.reduceAdd,Nat.reduceMul,Nat.reduceSub,beq_self_eq_true,List.cons_append,List.nil_append,beq_dec,vmI,g6]
  have hS6:=Sep.setC hS5 [.bool up,.bool jn,.ptr g 0,.ptr w 0,.ptr f 0,num sn,.bool false]
  exact ⟨rfl,((hS6.re ((List.perm_middle (l₁:=[_,_,_])).trans (.cons _ (.cons _ ((List.perm_middle (l₁:=[_])).trans (.cons _ (.refl _))))))).drop)⟩
end
def b2i (b:Bool):Int:=if b then 1 else 0
def PT.usable (t:PT):Bool:=t.up&&t.jn&&decide ((t.F.length:Int)<t.W.si)
def PT.hdS (t:PT):List Int:=[b2i t.up,b2i t.jn,b2i t.bh,t.sent,t.G.me,t.G.wait,t.W.si,t.F.length]
def o4 (o:O):List Int:=[o.1,o.2.1,o.2.2.1,o.2.2.2]
def PT.state (t:PT):List Int:=t.hdS++t.F.flatMap o4
theorem o4_len (l:List O):(l.flatMap o4).length=4*l.length:=by
 induction l with
 | nil=>rfl
 | cons a l ih=>rw[List.flatMap_cons,List.length_append,ih,List.length_cons]; show 4+_=_; omega
section
variable {bd : Bd} {h : VF} {fu : Nat}
theorem p_truth (n:Nat) (s:St) (b:Bool):OutOk (callF bd (tab h).get fu (n+1) 110 [.bool b] s) (fun x s'=>Is x (num (b2i b))∧Is s' s):=by
 refine call_code (t110 h) rfl ?_
 cases b
 ·simp (disch:=omega) only [vm0,vm1,vm2,vm3,vm4,vm5,vm6,vm7,vmF,vmT,evo,wr,wrC,frame,Nat.reduceAdd,Nat.reduceMul,Nat.reduceSub,beq_self_eq_true,List.cons_append,List.nil_append,beq_dec,vmI,vc110]
  exact ⟨rfl,rfl⟩
 ·simp (disch:=omega) only [vm0,vm1,vm2,vm3,vm4,vm5,vm6,vm7,vmF,vmT,evo,wr,wrC,frame,Nat.reduceAdd,Nat.reduceMul,Nat.reduceSub,beq_self_eq_true,List.cons_append,List.nil_append,beq_dec,vmI,vc110]
  exact ⟨rfl,rfl⟩
theorem g_mean (n:Nat) {s0:St} (s:St) (p:Nat) (g:GS) (Ps:List Obj) (hS:Sep s0 s (oC p g.cs::Ps)):OutOk (callF bd (tab h).get fu (n+1) 111 [.ptr p 0] s) (fun x s'=>Is x (num g.me)∧Is s' s):=by
 refine call_code (t111 h) rfl ?_
 obtain ⟨fi,me,sp,la,kn⟩:=g
 dsimp only[GS.cs] at *
 have g1:=hS.getC
 simp (disch:=omega) only [vm0,vm1,vm2,vm3,vm4,vm5,vm6,vm7,vmF,vmT,evo,wr,wrC,frame,Nat.reduceAdd,Nat.reduceMul,Nat.reduceSub,beq_self_eq_true,List.cons_append,List.nil_append,beq_dec,vmI,vc111,g1]
 exact ⟨rfl,rfl⟩
theorem c_size (n:Nat) {s0:St} (s:St) (p:Nat) (w:WS) (Ps:List Obj) (hS:Sep s0 s (oC p w.cs::Ps)):OutOk (callF bd (tab h).get fu (n+1) 112 [.ptr p 0] s) (fun x s'=>Is x (num w.si)∧Is s' s):=by
 refine call_code (t112 h) rfl ?_
 obtain ⟨mo,si,tu,co⟩:=w
 dsimp only[WS.cs] at *
 have g1:=hS.getC
 simp (disch:=omega) only [vm0,vm1,vm2,vm3,vm4,vm5,vm6,vm7,vmF,vmT,evo,wr,wrC,frame,Nat.reduceAdd,Nat.reduceMul,Nat.reduceSub,beq_self_eq_true,List.cons_append,List.nil_append,beq_dec,vmI,vc112,g1]
 exact ⟨rfl,rfl⟩
theorem c_room (n:Nat) {s0:St} (s:St) (p:Nat) (w:WS) (k:Int) (Ps:List Obj) (hS:Sep s0 s (oC p w.cs::Ps)):OutOk (callF bd (tab h).get fu (n+1) 142 [.ptr p 0,num k] s) (fun x s'=>Is x (.bool (decide (k<w.si)))∧Is s' s):=by
 refine call_code (t142 h) rfl ?_
 obtain ⟨mo,si,tu,co⟩:=w
 dsimp only[WS.cs] at *
 have g1:=hS.getC
 by_cases hk:k<si
 ·simp (disch:=omega) only [vm0,vm1,vm2,vm3,vm4,vm5,vm6,vm7,vmF,vmT,evo,wr,wrC,frame,Nat.reduceAdd,Nat.reduceMul,Nat.reduceSub,beq_self_eq_true,List.cons_append,List.nil_append,beq_dec,vmI,vc142,g1]
  exact ⟨rfl,rfl⟩
 ·simp (disch:=omega) only [vm0,vm1,vm2,vm3,vm4,vm5,vm6,vm7,vmF,vmT,evo,wr,wrC,frame,Nat.reduceAdd,Nat.reduceMul,Nat.reduceSub,beq_self_eq_true,List.cons_append,List.nil_append,beq_dec,vmI,vc142,g1]
  exact ⟨rfl,rfl⟩
theorem p_isup (n:Nat) {s0:St} (s:St) (p g w f:Nat) (t:PT) (Ps:List Obj) (hS:Sep s0 s (oC p (t.pc g w f)::Ps)):OutOk (callF bd (tab h).get fu (n+1) 42 [.ptr p 0] s) (fun x s'=>Is x (.bool t.up)∧Is s' s):=by
 refine call_code (t42 h) rfl ?_
 obtain ⟨up,jn,bh,sn,G,W,F⟩:=t
 dsimp only[PT.pc] at *
 have g1:=hS.getC
 simp (disch:=omega) only [vm0,vm1,vm2,vm3,vm4,vm5,vm6,vm7,vmF,vmT,evo,wr,wrC,frame,Nat.reduceAdd,Nat.reduceMul,Nat.reduceSub,beq_self_eq_true,List.cons_append,List.nil_append,beq_dec,vmI,vc42,g1]
 exact ⟨rfl,rfl⟩
theorem p_joined (n:Nat) {s0:St} (s:St) (p g w f:Nat) (t:PT) (Ps:List Obj) (hS:Sep s0 s (oC p (t.pc g w f)::Ps)):OutOk (callF bd (tab h).get fu (n+1) 83 [.ptr p 0] s) (fun x s'=>Is x (.bool t.jn)∧Is s' s):=by
 refine call_code (t83 h) rfl ?_
 obtain ⟨up,jn,bh,sn,G,W,F⟩:=t
 dsimp only[PT.pc] at *
 have g1:=hS.getC
 simp (disch:=omega) only [vm0,vm1,vm2,vm3,vm4,vm5,vm6,vm7,vmF,vmT,evo,wr,wrC,frame,Nat.reduceAdd,Nat.reduceMul,Nat.reduceSub,beq_self_eq_true,List.cons_append,List.nil_append,beq_dec,vmI,vc83,g1]
 exact ⟨rfl,rfl⟩
theorem p_behind (n:Nat) {s0:St} (s:St) (p g w f:Nat) (t:PT) (Ps:List Obj) (hS:Sep s0 s (oC p (t.pc g w f)::Ps)):OutOk (callF bd (tab h).get fu (n+1) 144 [.ptr p 0] s) (fun x s'=>Is x (.bool t.bh)∧Is s' s):=by
 refine call_code (t144 h) rfl ?_
 obtain ⟨up,jn,bh,sn,G,W,F⟩:=t
 dsimp only[PT.pc] at *
 have g1:=hS.getC
 simp (disch:=omega) only [vm0,vm1,vm2,vm3,vm4,vm5,vm6,vm7,vmF,vmT,evo,wr,wrC,frame,Nat.reduceAdd,Nat.reduceMul,Nat.reduceSub,beq_self_eq_true,List.cons_append,List.nil_append,beq_dec,vmI,vc144,g1]
 exact ⟨rfl,rfl⟩
theorem p_sent (n:Nat) {s0:St} (s:St) (p g w f:Nat) (t:PT) (Ps:List Obj) (hS:Sep s0 s (oC p (t.pc g w f)::Ps)):OutOk (callF bd (tab h).get fu (n+1) 94 [.ptr p 0] s) (fun x s'=>Is x (num t.sent)∧Is s' s):=by
 refine call_code (t94 h) rfl ?_
 obtain ⟨up,jn,bh,sn,G,W,F⟩:=t
 dsimp only[PT.pc] at *
 have g1:=hS.getC
 simp (disch:=omega) only [vm0,vm1,vm2,vm3,vm4,vm5,vm6,vm7,vmF,vmT,evo,wr,wrC,frame,Nat.reduceAdd,Nat.reduceMul,Nat.reduceSub,beq_self_eq_true,List.cons_append,List.nil_append,beq_dec,vmI,vc94,g1]
 exact ⟨rfl,rfl⟩
theorem p_mean (n:Nat) {s0:St} (s:St) (p g w f:Nat) (t:PT) (Ps:List Obj) (hS:Sep s0 s (oC p (t.pc g w f)::oC g t.G.cs::Ps)):OutOk (callF bd (tab h).get fu (n+2) 145 [.ptr p 0] s) (fun x s'=>Is x (num t.G.me)∧Is s' s):=by
 refine call_code (t145 h) rfl ?_
 obtain ⟨up,jn,bh,sn,G,W,F⟩:=t
 dsimp only[PT.pc] at *
 have g1:=hS.getC
 simp (disch:=omega) only [vm0,vm1,vm2,vm3,vm4,vm5,vm6,vm7,vmF,vmT,evo,wr,wrC,frame,Nat.reduceAdd,Nat.reduceMul,Nat.reduceSub,beq_self_eq_true,List.cons_append,List.nil_append,beq_dec,vmI,vc145,g1]
 refine call_ok rfl rfl (g_mean n s g G _ hS.swap) ?_
 rintro y s1 ⟨rfl,rfl⟩
 simp (disch:=omega) only [vm0,vm1,vm2,vm3,vm4,vm5,vm6,vm7,vmF,vmT,evo,wr,wrC,frame,Nat.reduceAdd,Nat.reduceMul,Nat.reduceSub,beq_self_eq_true,List.cons_append,List.nil_append,beq_dec,vmI]
 exact ⟨rfl,rfl⟩
theorem p_len (n:Nat) {s0:St} (s:St) (p g w f:Nat) (t:PT) (Ps:List Obj) (hS:Sep s0 s (oC p (t.pc g w f)::oF f t.F::Ps)):OutOk (callF bd (tab h).get fu (n+2) 92 [.ptr p 0] s) (fun x s'=>Is x (num (t.F.length:Int))∧Is s' s):=by
 refine call_code (t92 h) rfl ?_
 obtain ⟨up,jn,bh,sn,G,W,F⟩:=t
 dsimp only[PT.pc] at *
 have g1:=hS.getC
 simp (disch:=omega) only [vm0,vm1,vm2,vm3,vm4,vm5,vm6,vm7,vmF,vmT,evo,wr,wrC,frame,Nat.reduceAdd,Nat.reduceMul,Nat.reduceSub,beq_self_eq_true,List.cons_append,List.nil_append,beq_dec,vmI,vc92,g1]
 refine call_ok rfl rfl (d_flen n s f F _ hS.swap) ?_
 rintro y s1 ⟨rfl,rfl⟩
 simp (disch:=omega) only [vm0,vm1,vm2,vm3,vm4,vm5,vm6,vm7,vmF,vmT,evo,wr,wrC,frame,Nat.reduceAdd,Nat.reduceMul,Nat.reduceSub,beq_self_eq_true,List.cons_append,List.nil_append,beq_dec,vmI]
 exact ⟨rfl,rfl⟩
end
theorem rv_7 {α:Type} {x0 x1 x2 x3 x4 x5 x6:α}:List.reverse [x0,x1,x2,x3,x4,x5,x6]=[x6,x5,x4,x3,x2,x1,x0]:=rfl
theorem rv_8 {α:Type} {x0 x1 x2 x3 x4 x5 x6 x7:α}:List.reverse [x0,x1,x2,x3,x4,x5,x6,x7]=[x7,x6,x5,x4,x3,x2,x1,x0]:=rfl
theorem rv_9 {α:Type} {x0 x1 x2 x3 x4 x5 x6 x7 x8:α}:List.reverse [x0,x1,x2,x3,x4,x5,x6,x7,x8]=[x8,x7,x6,x5,x4,x3,x2,x1,x0]:=rfl
theorem rv_10 {α:Type} {x0 x1 x2 x3 x4 x5 x6 x7 x8 x9:α}:List.reverse [x0,x1,x2,x3,x4,x5,x6,x7,x8,x9]=[x9,x8,x7,x6,x5,x4,x3,x2,x1,x0]:=rfl
theorem rv_11 {α:Type} {x0 x1 x2 x3 x4 x5 x6 x7 x8 x9 x10:α}:List.reverse [x0,x1,x2,x3,x4,x5,x6,x7,x8,x9,x10]=[x10,x9,x8,x7,x6,x5,x4,x3,x2,x1,x0]:=rfl
theorem rv_12 {α:Type} {x0 x1 x2 x3 x4 x5 x6 x7 x8 x9 x10 x11:α}:List.reverse [x0,x1,x2,x3,x4,x5,x6,x7,x8,x9,x10,x11]=[x11,x10,x9,x8,x7,x6,x5,x4,x3,x2,x1,x0]:=rfl
theorem rv_13 {α:Type} {x0 x1 x2 x3 x4 x5 x6 x7 x8 x9 x10 x11 x12:α}:List.reverse [x0,x1,x2,x3,x4,x5,x6,x7,x8,x9,x10,x11,x12]=[x12,x11,x10,x9,x8,x7,x6,x5,x4,x3,x2,x1,x0]:=rfl
theorem rv_14 {α:Type} {x0 x1 x2 x3 x4 x5 x6 x7 x8 x9 x10 x11 x12 x13:α}:List.reverse [x0,x1,x2,x3,x4,x5,x6,x7,x8,x9,x10,x11,x12,x13]=[x13,x12,x11,x10,x9,x8,x7,x6,x5,x4,x3,x2,x1,x0]:=rfl
theorem rv_15 {α:Type} {x0 x1 x2 x3 x4 x5 x6 x7 x8 x9 x10 x11 x12 x13 x14:α}:List.reverse [x0,x1,x2,x3,x4,x5,x6,x7,x8,x9,x10,x11,x12,x13,x14]=[x14,x13,x12,x11,x10,x9,x8,x7,x6,x5,x4,x3,x2,x1,x0]:=rfl
theorem rv_16 {α:Type} {x0 x1 x2 x3 x4 x5 x6 x7 x8 x9 x10 x11 x12 x13 x14 x15:α}:List.reverse [x0,x1,x2,x3,x4,x5,x6,x7,x8,x9,x10,x11,x12,x13,x14,x15]=[x15,x14,x13,x12,x11,x10,x9,x8,x7,x6,x5,x4,x3,x2,x1,x0]:=rfl
theorem rv_17 {α:Type} {x0 x1 x2 x3 x4 x5 x6 x7 x8 x9 x10 x11 x12 x13 x14 x15 x16:α}:List.reverse [x0,x1,x2,x3,x4,x5,x6,x7,x8,x9,x10,x11,x12,x13,x14,x15,x16]=[x16,x15,x14,x13,x12,x11,x10,x9,x8,x7,x6,x5,x4,x3,x2,x1,x0]:=rfl
theorem rv_18 {α:Type} {x0 x1 x2 x3 x4 x5 x6 x7 x8 x9 x10 x11 x12 x13 x14 x15 x16 x17:α}:List.reverse [x0,x1,x2,x3,x4,x5,x6,x7,x8,x9,x10,x11,x12,x13,x14,x15,x16,x17]=[x17,x16,x15,x14,x13,x12,x11,x10,x9,x8,x7,x6,x5,x4,x3,x2,x1,x0]:=rfl
def vmR:=And.intro @rv_7 <| And.intro @rv_8 <| And.intro @rv_9 <| And.intro @rv_10 <| And.intro @rv_11 <| And.intro @rv_12 <| And.intro @rv_13 <| And.intro @rv_14 <| And.intro @rv_15 <| And.intro @rv_16 <| And.intro @rv_17 <| @rv_18
section
variable {bd : Bd} {h : VF} {fu : Nat}
theorem sameI (n:Nat) (s:St) (v w:AV) (l m:List Int) (hv:RdE s v 1 encI l) (hw:RdE s w 1 encI m) (hlen:l.length<fu) (hf:l.length<4611686018427387904) :
  OutOk (callF bd (tab h).get fu (n+1) 19 [v,w] s) (fun x s'=>Is x (.bool (decide (l=m)))∧Is s' s):=by
 refine call_code (t19 h) rfl ?_
 by_cases hl:l.length=m.length
 ·simp (disch:=omega) only [vm0,vm1,vm2,vm3,vm4,vm5,vm6,vm7,vmF,vmT,evo,wr,wrC,frame,Nat.reduceAdd,Nat.reduceMul,Nat.reduceSub,beq_self_eq_true,List.cons_append,List.nil_append,beq_dec,vc19,hv.lenV,hw.lenV]
  refine x_loop (fun k F s'=>∃ i:Nat,∃ z x4 x5,k=l.length-i∧i≤l.length∧z=(i:Int)∧F=[some v,some w,some (num z),some (.bool false),x4,x5,some (.bool false)]∧s'=s∧l.take i=m.take i) l.length (by omega) ?_ ?_
  ·exact ⟨0,_,_,_,by omega,by omega,rfl,rfl,rfl,by simp⟩
  ·rintro k F s1 ⟨i,_,x4,x5,rfl,hi,rfl,rfl,rfl,ht⟩ hm
   by_cases hlt:i<l.length
   ·obtain ⟨x,hx⟩ : ∃ x,l[i]?=some x:=⟨_,List.getElem?_eq_getElem hlt⟩
    obtain ⟨y,hy⟩ : ∃ y,m[i]?=some y:=⟨_,List.getElem?_eq_getElem (by omega)⟩
    have e1:=hv.ia hx
    have e2:=hv.at1 (f:=num) hx
    have e3:=hw.ia hy
    have e4:=hw.at1 (f:=num) hy
    have ht':l.take (i+1)=l.take i++[x]:=by rw[List.take_add_one,hx]; rfl
    have ht2:m.take (i+1)=m.take i++[y]:=by rw[List.take_add_one,hy]; rfl
    by_cases hxy:x=y
    ·subst hxy
     simp (disch:=omega) only [vm0,vm1,vm2,vm3,vm4,vm5,vm6,vm7,vmF,vmT,evo,wr,wrC,frame,Nat.reduceAdd,Nat.reduceMul,Nat.reduceSub,beq_self_eq_true,List.cons_append,List.nil_append,beq_dec,hv.lenV,e1,e2,e3,e4,decide_true,decide_true,wr64]
     exact ⟨l.length-(i+1),by omega,i+1,_,_,_,rfl,by omega,by omega,rfl,rfl,by rw[ht',ht2,ht]⟩
    ·simp (disch:=omega) only [vm0,vm1,vm2,vm3,vm4,vm5,vm6,vm7,vmF,vmT,evo,wr,wrC,frame,Nat.reduceAdd,Nat.reduceMul,Nat.reduceSub,beq_self_eq_true,List.cons_append,List.nil_append,beq_dec,hv.lenV,e1,e2,e3,e4,decide_true,decide_true,decide_eq_false hxy,Bool.not_false,wr64]
     refine ⟨?_,rfl⟩
     rw[decide_eq_false]; rfl
     rintro rfl
     rw[hx] at hy; cases hy; exact hxy rfl
   ·simp (disch:=omega) only [vm0,vm1,vm2,vm3,vm4,vm5,vm6,vm7,vmF,vmT,evo,wr,wrC,frame,Nat.reduceAdd,Nat.reduceMul,Nat.reduceSub,beq_self_eq_true,List.cons_append,List.nil_append,beq_dec,hv.lenV]
    refine ⟨?_,rfl⟩
    rw[decide_eq_true]; rfl
    rw[List.take_of_length_le (by omega),List.take_of_length_le (by omega)] at ht
    exact ht
 ·simp (disch:=omega) only [vm0,vm1,vm2,vm3,vm4,vm5,vm6,vm7,vmF,vmT,evo,wr,wrC,frame,Nat.reduceAdd,Nat.reduceMul,Nat.reduceSub,beq_self_eq_true,List.cons_append,List.nil_append,beq_dec,vc19,hv.lenV,hw.lenV]
  refine ⟨?_,rfl⟩
  rw[decide_eq_false]; rfl
  rintro rfl; exact hl rfl
theorem encI_len (l:List Int):(l.flatMap encI).length=l.length:=by
 induction l with
 | nil=>rfl
 | cons a l ih=>rw[List.flatMap_cons,List.length_append,ih,List.length_cons]; show 1+_=_; omega
theorem bsl_ow {s:St} {b k:Nat} {l:List Int} (hk:l.length=k) (hb:s.heap.get b=some (.cells (l.flatMap encI) .own)) (hn:b<s.next):OwE s (.sl b 0 k k true 1) 1 encI l [b]:=by
 subst hk
 exact ⟨.inr ⟨b,l.length,l.length,true,.own,[],rfl,Nat.le_refl _,by rw[Nat.mul_one]; exact encI_len l,by rw[List.append_nil]; exact hb,.inl ⟨rfl,rfl⟩⟩,fun _=>rfl,by omega,fun z hz=>by simp at hz; subst hz; exact hn⟩
theorem st_loop (call:Nat→List AV→St→Out) {s0:St} (s:St) (a0:AV) (x1 x5 x7:Option AV) (u vo:AV) (H:List Int) (F:List O) (Ps:List Obj) (hS:Sep s0 s (oW vo 1 encI H::oW u 4 encO F::Ps)) (hH:H.length≤8) (hlen:F.length<fu) (hf:F.length<100000) (Q:Ex→LF→St→Prop)
  (hQ:∀ y1 z y5 v s',Sep s0 s' (oW v 1 encI (H++F.flatMap o4)::oW u 4 encO F::Ps)→Q (.exit 0) [some a0,y1,z,some v,some (num (F.length:Int)),y5,some u,x7] s') :
  RsOk (exec bd call fu (.loop (.seq (.reg [.i (.bin .lss (.w 2) (.w 4))] [(5,(.t 0))]) (.seq (.cond (.w 5) .skip (.exit 0)) (.seq (.block 1 (.seq (.reg [.i (.ia 4 (.w 6) (.w 2)),.i (.lda 4 (.t 0)),.i (.new [.int .i64 (.c 0),.int .i64 (.c 0),.int .i64 (.c 0),.int .i64 (.c 0)]),.i (.st 4 (.t 0) (.t 1))] [(1,(.t 1))]) (.reg [.i (.fa 0 (.w 1)),.i (.ld (.t 0)),.i (.fa 1 (.w 1)),.i (.ld (.t 0)),.i (.fa 2 (.w 1)),.i (.ld (.t 0)),.i (.fa 3 (.w 1)),.i (.ld (.t 0)),.i (.bsl [.int .i64 (.c 0),.int .i64 (.c 0),.int .i64 (.c 0),.int .i64 (.c 0)] 4 1 [(0,1,(.t 6)),(1,1,(.t 4)),(2,1,(.t 2)),(3,1,(.t 0))]),.i (.app 1 8 (.w 3) (.t 0))] [(3,(.t 0))]))) (.reg [.i (.bin .add (.w 2) (.c (.int .i64 (.c 1))))] [(2,(.t 0))]))))) [some a0,x1,some (num 0),some vo,some (num (F.length:Int)),x5,some u,x7] s) Q:=by
 have hu:=hS.swap.rdW
 have hul:=hu.lenV
 refine x_loop (fun m F' s'=>∃ i:Nat,∃ z x1 x5 vo,m=F.length-i∧i≤F.length∧z=(i:Int)∧F'=[some a0,x1,some (num z),some vo,some (num (F.length:Int)),x5,some u,x7]∧Sep s0 s' (oW vo 1 encI (H++(F.take i).flatMap o4)::oW u 4 encO F::Ps)) F.length (by omega) ?_ ?_
 ·exact ⟨0,_,_,_,_,by omega,by omega,rfl,rfl,by simpa using hS⟩
 ·rintro m F' s3 ⟨i,_,x1,x5,vo,rfl,hi,rfl,rfl,hS4⟩ hm
  by_cases hlt:i<F.length
  ·obtain ⟨⟨a,b,c,d⟩,hx⟩ : ∃ x,F[i]?=some x:=⟨_,List.getElem?_eq_getElem hlt⟩
   have hu4:=hS4.swap.rdW
   have e1:=hu4.ia hx
   have e2:=hu4.at hx
   have ht:(F.take (i+1)).flatMap o4=(F.take i).flatMap o4++[a,b,c,d]:=by rw[List.take_add_one,hx]; simp[o4]
   have htl:(H++(F.take i).flatMap o4).length≤8+4*i:=by rw[List.length_append,o4_len,List.length_take]; omega
   simp (disch:=omega) only [vm0,vm1,vm2,vm3,vm4,vm5,vm6,vm7,vmF,vmT,evo,wr,wrC,frame,Nat.reduceAdd,Nat.reduceMul,Nat.reduceSub,beq_self_eq_true,List.cons_append,List.nil_append,beq_dec,vmI,e1,e2,encO]
   have hfa:Fr s3 ((s3.new (.cells [num 0,num 0,num 0,num 0] .own)).put s3.next (some (.cells [num a,num b,num c,num d] .own))) []:=by exact (by (repeat' (first | exact Fr.refl | assumption | apply Fr.new' | apply Fr.mk' | apply Fr.put')) <;> (first | omega | (left; simp; done) | (right; simp only[next_put,next_new,next_mk]; omega) | (simp only[next_put,next_new,next_mk]; omega)))
   have hn4:((s3.new (.cells [num 0,num 0,num 0,num 0] .own)).put s3.next (some (.cells [num a,num b,num c,num d] .own))).next=s3.next+1:=by rw[next_put,next_new]
   generalize (s3.new (.cells [num 0,num 0,num 0,num 0] .own)).put s3.next (some (.cells [num a,num b,num c,num d] .own))=s4 at *
   obtain ⟨fo,ko,up⟩:=hS4.hd
   simp (disch:=omega) only [vm0,vm1,vm2,vm3,vm4,vm5,vm6,vm7,vmF,vmT,evo,wr,wrC,frame,Nat.reduceAdd,Nat.reduceMul,Nat.reduceSub,beq_self_eq_true,List.cons_append,List.nil_append,beq_dec,vmI]
   have hfb:Fr s3 (s4.new (.cells [num a,num b,num c,num d] .own)) []:=hfa.trans (Fr.new:Fr s4 (s4.new (.cells [num a,num b,num c,num d] .own)) []) (fp2:=[]) (by simp) (by simp)
   refine op_app ko hfb (new:=[a,b,c,d]) rfl rfl (by omega) ?_
   intro v' s5 fo' ho' hf' hn'
   have hS5:=up (oW v' 1 encI _) ho' hf' hn'
   simp (disch:=omega) only [vm0,vm1,vm2,vm3,vm4,vm5,vm6,vm7,vmF,vmT,evo,wr,wrC,frame,Nat.reduceAdd,Nat.reduceMul,Nat.reduceSub,beq_self_eq_true,List.cons_append,List.nil_append,beq_dec,vmI]
   refine ⟨F.length-(i+1),by omega,i+1,_,_,_,_,rfl,by omega,by omega,rfl,?_⟩
   rw[ht,←List.append_assoc]
   exact hS5
  ·simp (disch:=omega) only [vm0,vm1,vm2,vm3,vm4,vm5,vm6,vm7,vmF,vmT,evo,wr,wrC,frame,Nat.reduceAdd,Nat.reduceMul,Nat.reduceSub,beq_self_eq_true,List.cons_append,List.nil_append,beq_dec,vmI]
   rw[List.take_of_length_le (by omega)] at hS4
   exact hQ _ _ _ _ _ hS4
theorem p_state (n:Nat) {s0:St} (s:St) (p g w f:Nat) (t:PT) (Ps:List Obj) (hS:Sep s0 s (oC p (t.pc g w f)::oC g t.G.cs::oC w t.W.cs::oF f t.F::Ps)) (hg:t.G.Ok) (hlen:t.F.length<fu) (hf:t.F.length<100000) :
  OutOk (callF bd (tab h).get fu (n+3) 69 [.ptr p 0] s) (fun x s'=>Sep s0 s' (oW x 1 encI t.state::oC p (t.pc g w f)::oC g t.G.cs::oC w t.W.cs::oF f t.F::Ps)):=by
 refine call_code (t69 h) rfl ?_
 obtain ⟨up,jn,bh,sn,G,W,F⟩:=t
 dsimp only[PT.pc] at *
 have g1:=hS.getC
 have hS0:Sep s0 { heap:=s.heap,next:=s.next+1 } _:=hS.fr (by (repeat' (first | exact Fr.refl | assumption | apply Fr.new' | apply Fr.mk' | apply Fr.put')) <;> (first | omega | (left; simp; done) | (right; simp only[next_put,next_new,next_mk]; omega) | (simp only[next_put,next_new,next_mk]; omega)))
 simp (disch:=omega) only [vm0,vm1,vm2,vm3,vm4,vm5,vm6,vm7,vmF,vmT,evo,wr,wrC,frame,Nat.reduceAdd,Nat.reduceMul,Nat.reduceSub,beq_self_eq_true,List.cons_append,List.nil_append,beq_dec,vmI,vc69,g1]
 obtain ⟨S,hSe⟩ : ∃ S:St,S={ heap:=s.heap,next:=s.next+1 }:=⟨_,rfl⟩
 have hn:S.next=s.next+1:=by rw[hSe]
 have hfs:Fr s S []:=by rw[hSe]; exact (by (repeat' (first | exact Fr.refl | assumption | apply Fr.new' | apply Fr.mk' | apply Fr.put')) <;> (first | omega | (left; simp; done) | (right; simp only[next_put,next_new,next_mk]; omega) | (simp only[next_put,next_new,next_mk]; omega)))
 rw[←hSe] at hS0 ⊢
 have g2:=hS0.getC
 clear hSe
 refine call_ok rfl rfl (p_truth (n+1) S up) ?_
 rintro y S ⟨rfl,rfl⟩
 simp (disch:=omega) only [vm0,vm1,vm2,vm3,vm4,vm5,vm6,vm7,vmF,vmT,evo,wr,wrC,frame,Nat.reduceAdd,Nat.reduceMul,Nat.reduceSub,beq_self_eq_true,List.cons_append,List.nil_append,beq_dec,vmI,g1,g2]
 refine call_ok rfl rfl (p_truth (n+1) S jn) ?_
 rintro y S ⟨rfl,rfl⟩
 simp (disch:=omega) only [vm0,vm1,vm2,vm3,vm4,vm5,vm6,vm7,vmF,vmT,evo,wr,wrC,frame,Nat.reduceAdd,Nat.reduceMul,Nat.reduceSub,beq_self_eq_true,List.cons_append,List.nil_append,beq_dec,vmI,g1,g2]
 refine call_ok rfl rfl (p_truth (n+1) S bh) ?_
 rintro y S ⟨rfl,rfl⟩
 simp (disch:=omega) only [vm0,vm1,vm2,vm3,vm4,vm5,vm6,vm7,vmF,vmT,evo,wr,wrC,frame,Nat.reduceAdd,Nat.reduceMul,Nat.reduceSub,beq_self_eq_true,List.cons_append,List.nil_append,beq_dec,vmI,g1,g2]
 refine call_ok rfl rfl (g_mean (n+1) S g G _ (((hS0.re ((List.perm_middle (l₁:=[_])).trans (.cons _ (.refl _))))))) ?_
 rintro y S ⟨rfl,rfl⟩
 simp (disch:=omega) only [vm0,vm1,vm2,vm3,vm4,vm5,vm6,vm7,vmF,vmT,evo,wr,wrC,frame,Nat.reduceAdd,Nat.reduceMul,Nat.reduceSub,beq_self_eq_true,List.cons_append,List.nil_append,beq_dec,vmI,g1,g2]
 refine call_ok rfl rfl (g_wait n S g G _ (((hS0.re ((List.perm_middle (l₁:=[_])).trans (.cons _ (.refl _)))))) hg) ?_
 rintro y S ⟨rfl,rfl⟩
 simp (disch:=omega) only [vm0,vm1,vm2,vm3,vm4,vm5,vm6,vm7,vmF,vmT,evo,wr,wrC,frame,Nat.reduceAdd,Nat.reduceMul,Nat.reduceSub,beq_self_eq_true,List.cons_append,List.nil_append,beq_dec,vmI,g1,g2]
 refine call_ok rfl rfl (c_size (n+1) S w W _ (((hS0.re ((List.perm_middle (l₁:=[_,_])).trans (.cons _ (.refl _))))))) ?_
 rintro y S ⟨rfl,rfl⟩
 simp (disch:=omega) only [vm0,vm1,vm2,vm3,vm4,vm5,vm6,vm7,vmF,vmT,evo,wr,wrC,frame,Nat.reduceAdd,Nat.reduceMul,Nat.reduceSub,beq_self_eq_true,List.cons_append,List.nil_append,beq_dec,vmI,g1,g2]
 refine call_ok rfl rfl (d_flen (n+1) S f F _ (((hS0.re ((List.perm_middle (l₁:=[_,_,_])).trans (.cons _ (.refl _))))))) ?_
 rintro y S ⟨rfl,rfl⟩
 obtain ⟨_,⟨_,hpn,_⟩,_⟩:=hS.hd
 have hpq:p≠s.next:=by omega
 simp (disch:=omega) only [vm0,vm1,vm2,vm3,vm4,vm5,vm6,vm7,vmF,vmT,evo,wr,wrC,frame,Nat.reduceAdd,Nat.reduceMul,Nat.reduceSub,beq_self_eq_true,List.cons_append,List.nil_append,beq_dec,vmI,vmR,g1,g2]
 have hS1:=hS.push (P:=oW (.sl s.next 0 8 8 true 1) 1 encI (PT.hdS ⟨up,jn,bh,sn,G,W,F⟩)) (s':=S.put s.next (some (.cells [num (b2i up),num (b2i jn),num (b2i bh),num sn,num G.me,num G.wait,num W.si,num F.length] .own))) (f:=[s.next]) (bsl_ow rfl (get_put_eq rfl) (by rw[next_put]; omega)) (by exact (by (repeat' (first | exact Fr.refl | assumption | apply Fr.new' | apply Fr.mk' | apply Fr.put')) <;> (first | omega | (left; simp; done) | (right; simp only[next_put,next_new,next_mk]; omega) | (simp only[next_put,next_new,next_mk]; omega)))) (by intro z hz; simp at hz; right; omega)
 have hL:(PT.hdS ⟨up,jn,bh,sn,G,W,F⟩).length=8:=rfl
 have hst:PT.state ⟨up,jn,bh,sn,G,W,F⟩=PT.hdS ⟨up,jn,bh,sn,G,W,F⟩++F.flatMap o4:=rfl
 rw[hst]
 generalize PT.hdS ⟨up,jn,bh,sn,G,W,F⟩=H at *
 generalize S.put s.next (some (.cells [num (b2i up),num (b2i jn),num (b2i bh),num sn,num G.me,num G.wait,num W.si,num F.length] .own))=s1 at *
 generalize (AV.sl s.next 0 8 8 true 1)=vo at *
 refine call_ok rfl rfl (d_fall n s1 f F _ (((hS1.re ((List.perm_middle (l₁:=[_,_,_,_])).trans (.cons _ (.refl _)))))) (by omega)) ?_
 rintro u s2 hS2
 have hS3:=((hS2.re ((List.perm_middle (l₁:=[_,_])).trans (.cons _ (.cons _ ((List.perm_middle (l₁:=[_])).trans (.cons _ ((List.perm_middle (l₁:=[_])).trans (.cons _ ((List.perm_middle (l₁:=[_])).trans (.cons _ (.refl _))))))))))))
 have hu:=hS2.rdW
 have hul:=hu.lenV
 simp (disch:=omega) only [vm0,vm1,vm2,vm3,vm4,vm5,vm6,vm7,vmF,vmT,evo,wr,wrC,frame,Nat.reduceAdd,Nat.reduceMul,Nat.reduceSub,beq_self_eq_true,List.cons_append,List.nil_append,beq_dec,vmI,hul]
 refine st_loop _ s2 _ _ _ _ u vo H F _ hS3 (by omega) hlen hf _ ?_
 intro y1 z y5 v s3 hS4
 simp (disch:=omega) only [vm0,vm1,vm2,vm3,vm4,vm5,vm6,vm7,vmF,vmT,evo,wr,wrC,frame,Nat.reduceAdd,Nat.reduceMul,Nat.reduceSub,beq_self_eq_true,List.cons_append,List.nil_append,beq_dec,vmI]
 exact ((hS4.re ((List.perm_middle (l₁:=[_])).trans (.cons _ (.refl _)))).drop)
end
theorem OwE.isSame {α:Type} {s:St} {v:AV} {sz:Nat} {enc:α→List AV} {l:List α} {fp:List Nat} (h:OwE s v sz enc l fp):sameA v v=true:=by
 rcases h.ow with ⟨rfl,_⟩ | ⟨_,_,_,_,_,_,rfl,_⟩
 ·exact sm_n
 ·exact sm_s
def GS.new (k:Int):GS:=⟨min (max k 1) 64,0,0,0,false⟩
def WS.new (k:Int):WS:=⟨min (max k 1) 16,min 2 (min (max k 1) 16),min (max k 1) 16,0⟩
def PT.new (mo fi:Int):PT:=⟨false,false,false,0,GS.new fi,WS.new mo,[]⟩
theorem GS.new_ok (k:Int):(GS.new k).Ok:=⟨by unfold GS.new; dsimp only; omega,by unfold GS.new; dsimp only; omega,by unfold GS.new; dsimp only; omega,by unfold GS.new; dsimp only; omega⟩
theorem WS.new_ok (k:Int):(WS.new k).Ok:=⟨by unfold WS.new; dsimp only; omega,by unfold WS.new; dsimp only; omega,by unfold WS.new; dsimp only; omega,by unfold WS.new; dsimp only; omega,fun _=>rfl⟩
def oN (b:Nat):Obj:=⟨fun s fp=>b<s.next∧fp=[b],fun {s s' fp fp'} ⟨h1,h2⟩ hf hd=>⟨Nat.lt_of_lt_of_le h1 hf.1,h2⟩,fun {s fp} ⟨h1,h2⟩=>by intro b' hb; rw[h2] at hb; simp at hb; subst hb; exact h1⟩
theorem Sep.fill {s0 s:St} {b:Nat} {Ps:List Obj} (h:Sep s0 s (oN b::Ps)) (c:List AV):Sep s0 (s.put b (some (.cells c .own))) (oC b c::Ps):=by
 obtain ⟨f,⟨h1,rfl⟩,up⟩:=h.hd
 exact up (oC b c) ⟨get_put_eq rfl,by rw[next_put]; exact h1,rfl⟩ (.put (.inl (by simp))) (fun z hz => .inl hz)
section
variable {bd : Bd} {h : VF} {fu : Nat}
theorem pushC {s0 s:St} {Ps:List Obj} (hS:Sep s0 s Ps) (c:List AV):Sep s0 (s.new (.cells c .own)) (oC s.next c::Ps) :=
 hS.push (P:=oC s.next c) (f:=[s.next]) ⟨get_new_eq rfl,by rw[next_new]; omega,rfl⟩ .new (by intro z hz; simp at hz; right; omega)
theorem g_new (n:Nat) {s0:St} (s:St) (k:Int) (Ps:List Obj) (hS:Sep s0 s Ps):OutOk (callF bd (tab h).get fu (n+2) 73 [num k] s) (fun x s'=>∃ p,Is x (.ptr p 0)∧Sep s0 s' (oC p (GS.new k).cs::Ps)):=by
 refine call_code (t73 h) rfl ?_
 simp (disch:=omega) only [vm0,vm1,vm2,vm3,vm4,vm5,vm6,vm7,vmF,vmT,evo,wr,wrC,frame,Nat.reduceAdd,Nat.reduceMul,Nat.reduceSub,beq_self_eq_true,List.cons_append,List.nil_append,beq_dec,vmI,vc73]
 refine call_ok rfl rfl (g_within n s k 1 64) ?_
 rintro y s1 ⟨rfl,rfl⟩
 simp (disch:=omega) only [vm0,vm1,vm2,vm3,vm4,vm5,vm6,vm7,vmF,vmT,evo,wr,wrC,frame,Nat.reduceAdd,Nat.reduceMul,Nat.reduceSub,beq_self_eq_true,List.cons_append,List.nil_append,beq_dec,vmI]
 exact ⟨_,rfl,pushC hS _⟩
theorem c_new (n:Nat) {s0:St} (s:St) (k:Int) (Ps:List Obj) (hS:Sep s0 s Ps):OutOk (callF bd (tab h).get fu (n+2) 74 [num k] s) (fun x s'=>∃ p,Is x (.ptr p 0)∧Sep s0 s' (oC p (WS.new k).cs::Ps)):=by
 refine call_code (t74 h) rfl ?_
 simp (disch:=omega) only [vm0,vm1,vm2,vm3,vm4,vm5,vm6,vm7,vmF,vmT,evo,wr,wrC,frame,Nat.reduceAdd,Nat.reduceMul,Nat.reduceSub,beq_self_eq_true,List.cons_append,List.nil_append,beq_dec,vmI,vc74]
 exact ⟨_,rfl,pushC hS _⟩
theorem f_new_ (n:Nat) {s0:St} (s:St) (Ps:List Obj) (hS:Sep s0 s Ps):OutOk (callF bd (tab h).get fu (n+1) 75 [] s) (fun x s'=>∃ p,Is x (.ptr p 0)∧Sep s0 s' (oF p []::Ps)):=by
 refine call_code (t75 h) rfl ?_
 simp (disch:=omega) only [vm0,vm1,vm2,vm3,vm4,vm5,vm6,vm7,vmF,vmT,evo,wr,wrC,frame,Nat.reduceAdd,Nat.reduceMul,Nat.reduceSub,beq_self_eq_true,List.cons_append,List.nil_append,beq_dec,vmI,vc75]
 exact ⟨_,rfl,hS.push (P:=oF s.next []) (f:=[s.next]) ⟨.nils,[],get_new_eq rfl,.nil (by intro x; rfl) (by omega),by simp,rfl,by rw[next_new]; omega⟩ .new (by intro z hz; simp at hz; right; omega)⟩
theorem p_new (n:Nat) {s0:St} (s:St) (a1 a2 a3 a4 mo fi a7:Int) (Ps:List Obj) (hS:Sep s0 s Ps):OutOk (callF bd (tab h).get fu (n+3) 28 [.agg [num a1,num a2,num a3,num a4,num mo,num fi,num a7]] s) (fun x s'=>∃ p g w f,Is x (.ptr p 0)∧Sep s0 s' (oC p ((PT.new mo fi).pc g w f)::oC g (PT.new mo fi).G.cs::oC w (PT.new mo fi).W.cs::oF f []::Ps)):=by
 refine call_code (t28 h) rfl ?_
 simp (disch:=omega) only [vm0,vm1,vm2,vm3,vm4,vm5,vm6,vm7,vmF,vmT,evo,wr,wrC,frame,Nat.reduceAdd,Nat.reduceMul,Nat.reduceSub,beq_self_eq_true,List.cons_append,List.nil_append,beq_dec,vmI,vc28]
 have hS1:=pushC hS [num a1,num a2,num a3,num a4,num mo,num fi,num a7]
 have hn1:(s.new (.cells [num a1,num a2,num a3,num a4,num mo,num fi,num a7] .own)).next=s.next+1:=next_new ..
 generalize s.new (.cells [num a1,num a2,num a3,num a4,num mo,num fi,num a7] .own)=s1 at *
 have hS2:=hS1.push (P:=oN (s.next+1)) (s':={ heap:=s1.heap,next:=s.next+1+1 }) (f:=[s.next+1]) ⟨Nat.lt_succ_self _,rfl⟩ (by exact (by (repeat' (first | exact Fr.refl | assumption | apply Fr.new' | apply Fr.mk' | apply Fr.put')) <;> (first | omega | (left; simp; done) | (right; simp only[next_put,next_new,next_mk]; omega) | (simp only[next_put,next_new,next_mk]; omega)))) (by intro z hz; simp at hz; right; omega)
 generalize ({ heap:=s1.heap,next:=s.next+1+1 }:St)=s2 at *
 have g1:=hS2.swap.getC
 refine call_ok rfl rfl (g_new n s2 fi _ hS2) ?_
 rintro y s3 ⟨g,rfl,hS3⟩
 have g2:=(((hS3.re ((List.perm_middle (l₁:=[_,_])).trans (.cons _ (.refl _)))))).getC
 simp (disch:=omega) only [vm0,vm1,vm2,vm3,vm4,vm5,vm6,vm7,vmF,vmT,evo,wr,wrC,frame,Nat.reduceAdd,Nat.reduceMul,Nat.reduceSub,beq_self_eq_true,List.cons_append,List.nil_append,beq_dec,vmI,g1,g2]
 refine call_ok rfl rfl (c_new n s3 mo _ hS3) ?_
 rintro y s4 ⟨w,rfl,hS4⟩
 have g3:=(((hS4.re ((List.perm_middle (l₁:=[_,_,_])).trans (.cons _ (.refl _)))))).getC
 simp (disch:=omega) only [vm0,vm1,vm2,vm3,vm4,vm5,vm6,vm7,vmF,vmT,evo,wr,wrC,frame,Nat.reduceAdd,Nat.reduceMul,Nat.reduceSub,beq_self_eq_true,List.cons_append,List.nil_append,beq_dec,vmI,g1,g2,g3]
 refine call_ok rfl rfl (f_new_ (n+1) s4 _ hS4) ?_
 rintro y s5 ⟨f,rfl,hS5⟩
 have g4:=(((hS5.re ((List.perm_middle (l₁:=[_,_,_,_])).trans (.cons _ (.refl _)))))).getC
 have hS6:=(((hS5.re ((List.perm_middle (l₁:=[_,_,_,_])).trans (.cons _ ((List.perm_middle (l₁:=[_,_,_])).trans (.cons _ ((List.perm_middle (l₁:=[_,_])).trans (.cons _ ((List.perm_middle (l₁:=[_])).trans (.cons _ (.refl _)))))))))).drop)).fill [.bool false,.bool false,.ptr g 0,.ptr w 0,.ptr f 0,num 0,.bool false]
 simp (disch:=omega) only [vm0,vm1,vm2,vm3,vm4,vm5,vm6,vm7,vmF,vmT,evo,wr,wrC,frame,Nat.reduceAdd,Nat.reduceMul,Nat.reduceSub,beq_self_eq_true,List.cons_append,List.nil_append,beq_dec,vmI,g1,g2,g3,g4]
 exact ⟨_,g,w,f,rfl,hS6⟩
end
end Go.Proofs.YtlgbkpaihjnjpaaGreat.ctr
namespace Go.Ranges
abbrev R:=Int×Int
def far:Int:=1099511627776
def WFr:Int→List R→Prop
 | _,[]=>True
 | b,r::l=>b≤r.1∧r.1<r.2∧r.2≤far∧WFr (r.2+1) l
def addR (f t:Int):List R→List R
 | []=>[(f,t)]
 | r::l=>if r.2<f then r::addR f t l else if t<r.1 then (f,t)::r::l else addR (min f r.1) (max t r.2) l
def cut1 (f t:Int) (r:R):List R:=(if r.1<f then [(r.1,min r.2 f)] else [])++(if t<r.2 then [(max r.1 t,r.2)] else [])
def cutR (f t:Int) (l:List R):List R:=l.flatMap (cut1 f t)
theorem WFr.mono {b b':Int} (h:b'≤b):∀ {l:List R},WFr b l→WFr b' l
 | [],_=>trivial
 | r::l,⟨h1,h2⟩=>⟨Int.le_trans h h1,h2⟩
theorem WFr.lb {b:Int}:∀ {l:List R},WFr b l→∀ r∈l,b≤r.1∧r.1<r.2∧r.2≤far
 | [],_,r,hr=>by cases hr
 | q::l,⟨h1,h2,h3,h4⟩,r,hr=>by
  rcases List.mem_cons.1 hr with rfl | hr
  ·exact ⟨h1,h2,h3⟩
  ·have:=WFr.lb h4 r hr; omega
theorem WFr.pair {b:Int}:∀ {l:List R},WFr b l→l.Pairwise (fun x y=>x.2<y.1)
 | [],_ => .nil
 | q::l,⟨h1,h2,h3,h4⟩ => .cons (fun r hr=>by have:=WFr.lb h4 r hr; omega) (WFr.pair h4)
theorem WFr.lt {b:Int} {l:List R} (h:WFr b l):l.Pairwise (fun x y=>x.1<y.1) :=
 (h.pair).imp_of_mem fun {x y} hx hy hxy=>by have:=h.lb x hx; omega
theorem WFr.nodup {b:Int} {l:List R} (h:WFr b l):(l.map Prod.fst).Nodup:=by
 rw[List.Nodup,List.pairwise_map]
 exact h.lt.imp fun h=>by omega
theorem addR_wf:∀ {l:List R} {b f t:Int},WFr b l→b≤f→f<t→t≤far→WFr b (addR f t l):=by
 intro l
 induction l with
 | nil=>intro b f t _ h1 h2 h3; exact ⟨h1,h2,h3,trivial⟩
 | cons r l ih =>
  intro b f t hw h1 h2 h3
  obtain ⟨w1,w2,w3,w4⟩:=hw
  unfold addR
  split
  ·exact ⟨w1,w2,w3,ih w4 (by omega) h2 h3⟩
  ·split
   ·exact ⟨h1,h2,h3,by omega,w2,w3,w4⟩
   ·have:=ih (f:=min f r.1) (t:=max t r.2) (WFr.mono (show b≤r.2+1 by omega) w4) (by omega) (by omega) (by omega)
    exact this
theorem cut1_wf {f t b:Int} {r:R} (h1:b≤r.1) (h2:r.1<r.2) (h3:r.2≤far) (hf:f<t):∀ {l:List R},WFr (r.2+1) l→WFr b (cut1 f t r++l):=by
 intro l hl
 unfold cut1
 have hl':∀ c,c≤r.2+1→WFr c l:=fun c hc=>hl.mono hc
 split <;> split
 ·exact ⟨h1,by show r.1<min r.2 f; omega,by show min r.2 f≤far; omega,by show min r.2 f+1≤max r.1 t; omega,by show max r.1 t<r.2; omega,h3,hl⟩
 ·exact ⟨h1,by show r.1<min r.2 f; omega,by show min r.2 f≤far; omega,hl' _ (by show min r.2 f+1≤_; omega)⟩
 ·exact ⟨by show b≤max r.1 t; omega,by show max r.1 t<r.2; omega,h3,hl⟩
 ·exact hl' _ (by omega)
theorem cutR_wf:∀ {l:List R} {b f t:Int},WFr b l→f<t→WFr b (cutR f t l):=by
 intro l
 induction l with
 | nil=>intro b f t _ _; trivial
 | cons r l ih =>
  intro b f t hw hf
  obtain ⟨w1,w2,w3,w4⟩:=hw
  show WFr b (cut1 f t r++cutR f t l)
  exact cut1_wf w1 w2 w3 hf (ih w4 hf)
def pstep (o:List R×Int×Int) (r:R):List R×Int×Int:=if r.2<o.2.1∨o.2.2<r.1 then (o.1++[r],o.2) else (o.1,min o.2.1 r.1,max o.2.2 r.2)
def pAdd (f t:Int) (l:List R):List R×Int×Int:=l.foldl pstep ([],f,t)
theorem pstep_far {t:Int}:∀ {l:List R} {b:Int} (o:List R) (f:Int),WFr b l→t<b→l.foldl pstep (o,f,t)=(o++l,f,t):=by
 intro l
 induction l with
 | nil=>intro b o f _ _; simp
 | cons r l ih =>
  intro b o f hw ht
  obtain ⟨w1,w2,w3,w4⟩:=hw
  have:pstep (o,f,t) r=(o++[r],f,t):=if_pos (.inr (show t<r.1 by omega))
  rw[List.foldl_cons,this,ih _ _ w4 (by omega)]
  simp
theorem pstep_perm:∀ {l:List R} {b f t:Int} (o:List R),WFr b l→f<t→∃ p f' t',l.foldl pstep (o,f,t)=(o++p,f',t')∧(p++[(f',t')]).Perm (addR f t l):=by
 intro l
 induction l with
 | nil=>intro b f t o _ _; exact ⟨[],f,t,by simp,.refl _⟩
 | cons r l ih =>
  intro b f t o hw hf
  obtain ⟨w1,w2,w3,w4⟩:=hw
  rw[List.foldl_cons]
  unfold addR
  by_cases h1:r.2<f
  ·have:pstep (o,f,t) r=(o++[r],f,t):=if_pos (.inl h1)
   rw[this,if_pos h1]
   obtain ⟨p,f',t',e,hp⟩:=ih (o++[r]) w4 hf
   exact ⟨r::p,f',t',by rw[e]; simp,hp.cons r⟩
  ·rw[if_neg h1]
   by_cases h2:t<r.1
   ·have:pstep (o,f,t) r=(o++[r],f,t):=if_pos (.inr h2)
    rw[this,if_pos h2,pstep_far _ _ w4 (by omega)]
    refine ⟨r::l,f,t,by simp,?_⟩
    exact List.perm_append_comm (l₁:=r::l) (l₂:=[(f,t)])
   ·have:pstep (o,f,t) r=(o,min f r.1,max t r.2):=if_neg (by show ¬(r.2<f∨t<r.1); omega)
    rw[this,if_neg h2]
    exact ih o w4 (by omega)
def sortR (l:List R):List R:=l.mergeSort (fun x y=>decide (x.1≤y.1))
theorem eq_of_perm {l:List R}:∀ {m:List R},l.Perm m→l.Pairwise (fun x y=>x.1≤y.1)→m.Pairwise (fun x y=>x.1<y.1)→l=m:=by
 induction l with
 | nil=>intro m h _ _; exact (List.nil_perm.1 h).symm
 | cons x l ih =>
  intro m h h1 h2
  cases m with
  | nil=>exact absurd h (by simp)
  | cons y m =>
   have hx:x∈y::m:=h.subset (by simp)
   have hy:y∈x::l:=h.symm.subset (by simp)
   have hxy:x=y:=by
    rcases List.mem_cons.1 hx with hx | hx
    ·exact hx
    ·have q1:=(List.pairwise_cons.1 h2).1 x hx
     rcases List.mem_cons.1 hy with hy | hy
     ·exact hy.symm
     ·have q2:=(List.pairwise_cons.1 h1).1 y hy
      omega
   subst hxy
   rw[ih (List.perm_cons x |>.1 h) (List.pairwise_cons.1 h1).2 (List.pairwise_cons.1 h2).2]
theorem sortR_perm (l:List R):(sortR l).Perm l:=List.mergeSort_perm l _
theorem sortR_le (l:List R):(sortR l).Pairwise (fun x y=>x.1≤y.1):=by
 have:=List.pairwise_mergeSort (le:=fun x y:R=>decide (x.1≤y.1)) (by intro a b c; simp; omega) (by intro a b; simp; omega) l
 exact this.imp fun h=>by simpa using h
theorem sortR_of {l m:List R} (h:l.Perm m) (hm:m.Pairwise (fun x y=>x.1<y.1)):sortR l=m:=eq_of_perm ((sortR_perm l).trans h) (sortR_le l) hm
theorem pAdd_spec {l:List R} {b f t:Int} (hw:WFr b l) (hb:b≤f) (hf:f<t) (ht:t≤far):sortR ((pAdd f t l).1++[(pAdd f t l).2])=addR f t l∧(((pAdd f t l).1++[(pAdd f t l).2]).map Prod.fst).Nodup:=by
 obtain ⟨p,f',t',e,hp⟩:=pstep_perm (l:=l) [] hw hf
 have e':pAdd f t l=(p,f',t'):=by unfold pAdd; rw[e]; simp
 rw[e']
 have hwf:=addR_wf hw hb hf ht
 refine ⟨sortR_of hp hwf.lt,?_⟩
 exact ((hp.map Prod.fst).nodup_iff).2 hwf.nodup
theorem cut1_len {f t:Int} {r:R}:(cut1 f t r).length≤2:=by unfold cut1; split <;> split <;> simp
end Go.Ranges
namespace Go.Proofs.YtlgbkpaihjnjpaaGreat.ctr
open Go.Vm Go.RowKit Go.Ranges
def encR (r:R):List AV:=[num r.1,num r.2]
theorem encR_w:∀ x:R,(encR x).length=2:=fun _=>rfl
def IsS (s:St) (p:Nat) (l:List R) (fp:List Nat):Prop:=∃ v fv,s.heap.get p=some (.cells [v] .own)∧OwE s v 2 encR l fv∧p∉fv∧fp=p::fv∧p<s.next
theorem IsS.fr {s s':St} {p:Nat} {l:List R} {fp fp':List Nat} (hF:IsS s p l fp) (hf:Fr s s' fp') (hd:∀ b∈fp,b∉fp'):IsS s' p l fp:=by
 obtain ⟨v,fv,h1,h2,h3,rfl,h5⟩:=hF
 exact ⟨v,fv,(hf.2 p h5 (hd p (by simp))).trans h1,h2.fr hf fun b hb=>hd b (by simp[hb]),h3,rfl,Nat.lt_of_lt_of_le h5 hf.1⟩
theorem IsS.lt {s:St} {p:Nat} {l:List R} {fp:List Nat} (hF:IsS s p l fp):Lt s fp:=by
 obtain ⟨v,fv,h1,h2,h3,rfl,h5⟩:=hF
 intro b hb
 rcases List.mem_cons.1 hb with rfl | hb
 ·exact h5
 ·exact h2.lt b hb
def SortOk (h:VF):Prop:=∀ (bd:Bd) (fu n:Nat) (s:St) (v:AV) (l:List R) (fp:List Nat),OwE s v 2 encR l fp→l≠[]→l.length<1000000→(l.map Prod.fst).Nodup →
 OutOk (callF bd (tab h).get fu (n+1) 149 [v,.fn 150 [] []] s) (fun x s'=>∃ fp',OwE s' v 2 encR (sortR l) fp'∧Fr s s' fp∧(∀ b∈fp',b∈fp))
section
variable {bd : Bd} {h : VF} {fu : Nat}
theorem s_new (n:Nat) (s:St):OutOk (callF bd (tab h).get fu (n+1) 72 [] s) (fun x s'=>∃ p,Is x (.ptr p 0)∧s.next≤p∧Fr s s' []∧IsS s' p [] [p]):=by
 refine call_code (t72 h) rfl ?_
 simp (disch:=omega) only [vm0,vm1,vm2,vm3,vm4,vm5,vm6,vm7,vmF,vmT,evo,wr,wrC,frame,Nat.reduceAdd,Nat.reduceMul,Nat.reduceSub,beq_self_eq_true,List.cons_append,List.nil_append,beq_dec,vc72]
 exact ⟨s.next,rfl,by omega,.new,.nils,[],get_new_eq rfl,.nil encR_w (by omega),by simp,rfl,by rw[next_new]; omega⟩
theorem s_within (n:Nat) (s:St) (f t:Int):OutOk (callF bd (tab h).get fu (n+1) 143 [num f,num t] s) (fun x s'=>Is x (.tup [num (max 0 f),num (min t far)])∧Is s' s):=by
 refine call_code (t143 h) rfl ?_
 simp (disch:=omega) only [vm0,vm1,vm2,vm3,vm4,vm5,vm6,vm7,vmF,vmT,evo,wr,wrC,frame,Nat.reduceAdd,Nat.reduceMul,Nat.reduceSub,beq_self_eq_true,List.cons_append,List.nil_append,beq_dec,vmI,vc143]
 exact ⟨rfl,rfl⟩
theorem cloneS (n:Nat) (s:St) (v:AV) (l:List R) (hv:RdE s v 2 encR l) (hf:l.length<1000000) :
  OutOk (callF bd (tab h).get fu (n+1) 140 [v] s) (fun x s'=>∃ fp,OwE s' x 2 encR l fp∧Fr s s' []∧Nw s [] fp∧(v = .nils→Is x .nils)∧(v ≠ .nils→x ≠ .nils)) :=
 clone_ok (t140 h) (by omega) n s v l hv hf
theorem s_all (n:Nat) (s:St) (p:Nat) (l:List R) (fp:List Nat) (hF:IsS s p l fp) (hf:l.length<1000000) :
  OutOk (callF bd (tab h).get fu (n+2) 109 [.ptr p 0] s) (fun x s'=>∃ fp',OwE s' x 2 encR l fp'∧Fr s s' []∧Nw s [] fp'):=by
 refine call_code (t109 h) rfl ?_
 obtain ⟨v,fv,h1,h2,h3,rfl,h5⟩:=hF
 simp (disch:=omega) only [vm0,vm1,vm2,vm3,vm4,vm5,vm6,vm7,vmF,vmT,evo,wr,wrC,frame,Nat.reduceAdd,Nat.reduceMul,Nat.reduceSub,beq_self_eq_true,List.cons_append,List.nil_append,beq_dec,vc109,h1]
 refine call_ok rfl rfl (cloneS n s v l h2.rd hf) ?_
 rintro x s' ⟨fp',g1,g2,g3,_⟩
 simp (disch:=omega) only [vm0,vm1,vm2,vm3,vm4,vm5,vm6,vm7,vmF,vmT,evo,wr,wrC,frame,Nat.reduceAdd,Nat.reduceMul,Nat.reduceSub,beq_self_eq_true,List.cons_append,List.nil_append,beq_dec]
 exact ⟨fp',g1,g2,g3⟩
theorem s_first (n:Nat) (s:St) (p:Nat) (l:List R) (fp:List Nat) (hF:IsS s p l fp) :
  OutOk (callF bd (tab h).get fu (n+1) 121 [.ptr p 0] s) (fun x s'=>Is x (.tup [.agg (encR (l.headD (0,0))),.bool (!l.isEmpty)])∧Fr s s' []):=by
 refine call_code (t121 h) rfl ?_
 obtain ⟨v,fv,h1,h2,h3,rfl,h5⟩:=hF
 cases l with
 | nil =>
  simp (disch:=omega) only [vm0,vm1,vm2,vm3,vm4,vm5,vm6,vm7,vmF,vmT,evo,wr,wrC,frame,Nat.reduceAdd,Nat.reduceMul,Nat.reduceSub,beq_self_eq_true,List.cons_append,List.nil_append,beq_dec,vc121,h1,h2.rd.lenV,List.length_nil]
  exact ⟨rfl,(by (repeat' (first | exact Fr.refl | assumption | apply Fr.new' | apply Fr.mk' | apply Fr.put')) <;> (first | omega | (left; simp; done) | (right; simp only[next_put,next_new,next_mk]; omega) | (simp only[next_put,next_new,next_mk]; omega)))⟩
 | cons r l =>
  have hx:(r::l)[0]?=some r:=rfl
  have e1:=h2.rd.ia hx
  have e2:=h2.rd.at hx
  have hb:=h2.rd.blk' hx
  obtain ⟨a,b⟩:=r
  have hl:0<((a,b)::l).length:=by simp
  simp (disch:=omega) only [vm0,vm1,vm2,vm3,vm4,vm5,vm6,vm7,vmF,vmT,evo,wr,wrC,frame,Nat.reduceAdd,Nat.reduceMul,Nat.reduceSub,beq_self_eq_true,List.cons_append,List.nil_append,beq_dec,vc121,h1,h2.rd.lenV]
  simp only[Int.natCast_zero,Nat.zero_mul,Nat.add_zero] at e1 e2
  simp (disch:=omega) only [vm0,vm1,vm2,vm3,vm4,vm5,vm6,vm7,vmF,vmT,evo,wr,wrC,frame,Nat.reduceAdd,Nat.reduceMul,Nat.reduceSub,beq_self_eq_true,List.cons_append,List.nil_append,beq_dec,h1,e1,e2,encR]
  exact ⟨rfl,(by (repeat' (first | exact Fr.refl | assumption | apply Fr.new' | apply Fr.mk' | apply Fr.put')) <;> (first | omega | (left; simp; done) | (right; simp only[next_put,next_new,next_mk]; omega) | (simp only[next_put,next_new,next_mk]; omega)))⟩
theorem s_front (n:Nat) (s:St) (p:Nat) (l:List R) (fp:List Nat) (hF:IsS s p l fp) :
  OutOk (callF bd (tab h).get fu (n+2) 136 [.ptr p 0] s) (fun x s'=>Is x (num (if l≠[]∧(l.headD (0,0)).1=0 then (l.headD (0,0)).2 else 0))∧Fr s s' []):=by
 refine call_code (t136 h) rfl ?_
 simp (disch:=omega) only [vm0,vm1,vm2,vm3,vm4,vm5,vm6,vm7,vmF,vmT,evo,wr,wrC,frame,Nat.reduceAdd,Nat.reduceMul,Nat.reduceSub,beq_self_eq_true,List.cons_append,List.nil_append,beq_dec,vc136]
 refine call_ok rfl rfl (s_first n s p l fp hF) ?_
 rintro x s1 ⟨rfl,hf1⟩
 have hf2:Fr s ((s1.new (.cells [num 0,num 0] .own)).put s1.next (some (.cells (encR (l.headD (0,0))) .own))) []:=(hf1.trans (fp1:=[]) (s2:=s1.new _) .new (fp2:=[]) (by simp) (by simp)).trans (fp1:=[s1.next]) (.put (.inl (by simp))) (by simp) (fun b hb hl=>by simp at hb; subst hb; have:=hf1.1; omega)
 generalize hr:l.headD (0,0)=r at *
 obtain ⟨a,b⟩:=r
 cases l with
 | nil =>
  simp (disch:=omega) only [vm0,vm1,vm2,vm3,vm4,vm5,vm6,vm7,vmF,vmT,evo,wr,wrC,frame,Nat.reduceAdd,Nat.reduceMul,Nat.reduceSub,beq_self_eq_true,List.cons_append,List.nil_append,beq_dec,encR,List.isEmpty_nil]
  exact ⟨by show num _=num _; simp,hf2⟩
 | cons r l =>
  by_cases h0:a=0
  ·simp (disch:=omega) only [vm0,vm1,vm2,vm3,vm4,vm5,vm6,vm7,vmF,vmT,evo,wr,wrC,frame,Nat.reduceAdd,Nat.reduceMul,Nat.reduceSub,beq_self_eq_true,List.cons_append,List.nil_append,beq_dec,encR,List.isEmpty_cons]
   exact ⟨by show num _=num _; simp[h0],hf2⟩
  ·simp (disch:=omega) only [vm0,vm1,vm2,vm3,vm4,vm5,vm6,vm7,vmF,vmT,evo,wr,wrC,frame,Nat.reduceAdd,Nat.reduceMul,Nat.reduceSub,beq_self_eq_true,List.cons_append,List.nil_append,beq_dec,encR,List.isEmpty_cons]
   exact ⟨by show num _=num _; simp[h0],hf2⟩
end
theorem pAdd_take {f t:Int} {l:List R} {i:Nat} {x:R} (hx:l[i]?=some x):pAdd f t (l.take (i+1))=pstep (pAdd f t (l.take i)) x:=by
 rw[List.take_add_one,hx]; simp[pAdd]
theorem pAdd_len {f t:Int} (l:List R):(pAdd f t l).1.length≤l.length:=by
 have key:∀ (l:List R) (o:List R×Int×Int),(l.foldl pstep o).1.length≤o.1.length+l.length:=by
  intro l
  induction l with
  | nil=>intro o; simp
  | cons r l ih =>
   intro o
   rw[List.foldl_cons]
   have:=ih (pstep o r)
   have h2:(pstep o r).1.length≤o.1.length+1:=by unfold pstep; split <;> simp
   simp only[List.length_cons]; omega
 have:=key l ([],f,t)
 simpa [pAdd] using this
theorem pAdd_bd {f t:Int} (l:List R) (hl:∀ r∈l,0≤r.1∧r.1<r.2∧r.2≤far) (hf:0≤f) (ht:t≤far) (hft:f<t):0≤(pAdd f t l).2.1∧(pAdd f t l).2.2≤far∧(pAdd f t l).2.1<(pAdd f t l).2.2:=by
 have key:∀ (l:List R) (o:List R×Int×Int),(∀ r∈l,0≤r.1∧r.1<r.2∧r.2≤far)→0≤o.2.1→o.2.2≤far→o.2.1<o.2.2→0≤(l.foldl pstep o).2.1∧(l.foldl pstep o).2.2≤far∧(l.foldl pstep o).2.1<(l.foldl pstep o).2.2:=by
  intro l
  induction l with
  | nil=>intro o _ h1 h2 h3; exact ⟨h1,h2,h3⟩
  | cons r l ih =>
   intro o h h1 h2 h3
   have hr:=h r (by simp)
   rw[List.foldl_cons]
   refine ih _ (fun q hq=>h q (by simp[hq])) ?_ ?_ ?_ <;> (unfold pstep; split <;> simp only <;> omega)
 exact key l _ hl hf ht hft
section
variable {bd : Bd} {h : VF} {fu : Nat}
set_option maxHeartbeats 400000 in
theorem s_add (hs:SortOk h) (n:Nat) (s:St) (p:Nat) (l:List R) (fp:List Nat) (f t:Int) (hF:IsS s p l fp) (hw:WFr 0 l) (hlen:l.length<fu) (hf:l.length<100000) :
  OutOk (callF bd (tab h).get fu (n+2) 128 [.ptr p 0,num f,num t] s) (fun x s'=>∃ fp',IsS s' p (if max 0 f<min t far then addR (max 0 f) (min t far) l else l) fp'∧Fr s s' fp∧Nw s fp fp'):=by
 refine call_code (t128 h) rfl ?_
 simp (disch:=omega) only [vm0,vm1,vm2,vm3,vm4,vm5,vm6,vm7,vmF,vmT,evo,wr,wrC,frame,Nat.reduceAdd,Nat.reduceMul,Nat.reduceSub,beq_self_eq_true,List.cons_append,List.nil_append,beq_dec,vc128]
 refine call_ok rfl rfl (s_within n s f t) ?_
 rintro x s ⟨rfl,rfl⟩
 have hF0:=hF
 obtain ⟨v,fv,h1,h2,h3,rfl,h5⟩:=hF
 obtain ⟨f',hf'⟩ : ∃ f',max 0 f=f':=⟨_,rfl⟩
 obtain ⟨t',ht'⟩ : ∃ t',min t far=t':=⟨_,rfl⟩
 have hfar:far=1099511627776:=rfl
 rw[hf',ht']
 by_cases hgo:f'<t'
 ·rw[if_pos hgo]
  have hlb:=hw.lb
  simp (disch:=omega) only [vm0,vm1,vm2,vm3,vm4,vm5,vm6,vm7,vmF,vmT,evo,wr,wrC,frame,Nat.reduceAdd,Nat.reduceMul,Nat.reduceSub,beq_self_eq_true,List.cons_append,List.nil_append,beq_dec,h1,h2.rd.lenV]
  refine x_loop (fun m F s'=>∃ i:Nat,∃ z x3 x8 x10 vo fo,m=l.length-i∧i≤l.length∧z=(i:Int)∧F=[some (.ptr p 0),some (num (pAdd f' t' (l.take i)).2.1),some (num (pAdd f' t' (l.take i)).2.2),x3,some vo,some (num z),some (.bool false),some (num (l.length:Int)),x8,some v,x10] ∧
   Fr s s' []∧OwE s' vo 2 encR (pAdd f' t' (l.take i)).1 fo∧Nw s [] fo) l.length (by omega) ?_ ?_
  ·exact ⟨0,_,_,_,_,_,[],by omega,by omega,rfl,rfl,.refl,.nil encR_w (by omega),by simp[Nw]⟩
  ·rintro m F s1 ⟨i,_,x3,x8,x10,vo,fo,rfl,hi,rfl,rfl,hfr,ho,hn⟩ hm
   have hv1:=h2.fr0 hfr
   have hpl:=pAdd_len (f:=f') (t:=t') (l.take i)
   rw[List.length_take,Nat.min_eq_left hi] at hpl
   have hbd:=pAdd_bd (f:=f') (t:=t') (l.take i) (fun r hr=>by have:=hlb r (List.mem_of_mem_take hr); exact this) (by omega) (by omega) hgo
   by_cases hlt:i<l.length
   ·obtain ⟨x,hx⟩ : ∃ x,l[i]?=some x:=⟨_,List.getElem?_eq_getElem hlt⟩
    have hps:=pAdd_take (f:=f') (t:=t') hx
    have hxb:=hlb x (List.mem_of_getElem? hx)
    obtain ⟨a,b⟩:=x
    have e1:=hv1.rd.ia hx
    have e2:=hv1.rd.at hx
    have hbl:=hv1.rd.blk' hx
    obtain ⟨o,f1,t1,ho1⟩ : ∃ o f1 t1,pAdd f' t' (l.take i)=(o,f1,t1):=⟨_,_,_,rfl⟩
    rw[ho1] at ho hbd hps hpl
    rw[ho1]
    simp only at ho hbd hpl hxb
    simp (disch:=omega) only [vm0,vm1,vm2,vm3,vm4,vm5,vm6,vm7,vmF,vmT,evo,wr,wrC,frame,Nat.reduceAdd,Nat.reduceMul,Nat.reduceSub,beq_self_eq_true,List.cons_append,List.nil_append,beq_dec,vmI,e1,e2,encR]
    have hfa:Fr s1 ((s1.new (.cells [num 0,num 0] .own)).put s1.next (some (.cells [num a,num b] .own))) []:=(by (repeat' (first | exact Fr.refl | assumption | apply Fr.new' | apply Fr.mk' | apply Fr.put')) <;> (first | omega | (left; simp; done) | (right; simp only[next_put,next_new,next_mk]; omega) | (simp only[next_put,next_new,next_mk]; omega)))
    have hg:((s1.new (.cells [num 0,num 0] .own)).put s1.next (some (.cells [num a,num b] .own))).heap.get s1.next=some (.cells [num a,num b] .own):=get_put_eq rfl
    generalize (s1.new (.cells [num 0,num 0] .own)).put s1.next (some (.cells [num a,num b] .own))=s2 at *
    have ho2:=ho.fr0 hfa
    have hfr2:=hfr.trans hfa (fp2:=[]) (by simp) (by simp)
    by_cases hout:b<f1∨t1<a
    ·have hps':pAdd f' t' (l.take (i+1))=(o++[(a,b)],f1,t1):=by rw[hps]; exact if_pos hout
     have fin:∀ (v':AV) (s4:St) (fo':List Nat),OwE s4 v' 2 encR (o++[(a,b)]) fo'→Fr s2 s4 fo→Nw s2 fo fo'→∀ x3' x8' x10',∃ j,j<l.length-i∧∃ i':Nat,∃ z x3 x8 x10 vo fo,j=l.length-i'∧i'≤l.length∧z=(i':Int)∧[some (.ptr p 0),some (num f1),some (num t1),x3',some v',some (num ((i:Int)+1)),some (.bool false),some (num (l.length:Int)),x8',some v,x10']=[some (.ptr p 0),some (num (pAdd f' t' (l.take i')).2.1),some (num (pAdd f' t' (l.take i')).2.2),x3,some vo,some (num z),some (.bool false),some (num (l.length:Int)),x8,some v,x10] ∧
       Fr s s4 []∧OwE s4 vo 2 encR (pAdd f' t' (l.take i')).1 fo∧Nw s [] fo:=by
      intro v' s4 fo' q1 q2 q3 x3' x8' x10'
      exact ⟨l.length-(i+1),by omega,i+1,(i:Int)+1,_,_,_,_,fo',rfl,by omega,by omega,by rw[hps'],hfr2.nn q2 hn,by rw[hps']; exact q1,hn.nn q3 hfr2.1⟩
     by_cases hb:b<f1
     ·simp (disch:=omega) only [vm0,vm1,vm2,vm3,vm4,vm5,vm6,vm7,vmF,vmT,evo,wr,wrC,frame,Nat.reduceAdd,Nat.reduceMul,Nat.reduceSub,beq_self_eq_true,List.cons_append,List.nil_append,beq_dec,vmI,hg]
      refine op_app1 ho2 (by (repeat' (first | exact Fr.refl | assumption | apply Fr.new' | apply Fr.mk' | apply Fr.put')) <;> (first | omega | (left; simp; done) | (right; simp only[next_put,next_new,next_mk]; omega) | (simp only[next_put,next_new,next_mk]; omega))) (x:=(a,b)) rfl (by omega) ?_
      intro v' s4 fo' q1 q2 q3
      simp (disch:=omega) only [vm0,vm1,vm2,vm3,vm4,vm5,vm6,vm7,vmF,vmT,evo,wr,wrC,frame,Nat.reduceAdd,Nat.reduceMul,Nat.reduceSub,beq_self_eq_true,List.cons_append,List.nil_append,beq_dec,vmI]
      exact fin v' s4 fo' q1 q2 q3 _ _ _
     ·simp (disch:=omega) only [vm0,vm1,vm2,vm3,vm4,vm5,vm6,vm7,vmF,vmT,evo,wr,wrC,frame,Nat.reduceAdd,Nat.reduceMul,Nat.reduceSub,beq_self_eq_true,List.cons_append,List.nil_append,beq_dec,vmI,hg]
      refine op_app1 ho2 (by (repeat' (first | exact Fr.refl | assumption | apply Fr.new' | apply Fr.mk' | apply Fr.put')) <;> (first | omega | (left; simp; done) | (right; simp only[next_put,next_new,next_mk]; omega) | (simp only[next_put,next_new,next_mk]; omega))) (x:=(a,b)) rfl (by omega) ?_
      intro v' s4 fo' q1 q2 q3
      simp (disch:=omega) only [vm0,vm1,vm2,vm3,vm4,vm5,vm6,vm7,vmF,vmT,evo,wr,wrC,frame,Nat.reduceAdd,Nat.reduceMul,Nat.reduceSub,beq_self_eq_true,List.cons_append,List.nil_append,beq_dec,vmI]
      exact fin v' s4 fo' q1 q2 q3 _ _ _
    ·have hps':pAdd f' t' (l.take (i+1))=(o,min f1 a,max t1 b):=by rw[hps]; exact if_neg hout
     simp (disch:=omega) only [vm0,vm1,vm2,vm3,vm4,vm5,vm6,vm7,vmF,vmT,evo,wr,wrC,frame,Nat.reduceAdd,Nat.reduceMul,Nat.reduceSub,beq_self_eq_true,List.cons_append,List.nil_append,beq_dec,vmI,hg]
     exact ⟨l.length-(i+1),by omega,i+1,(i:Int)+1,_,_,_,_,fo,rfl,by omega,by omega,by rw[hps'],hfr2,by rw[hps']; exact ho2,hn⟩
   ·have hpa:=pAdd_spec (f:=f') (t:=t') hw (by omega) hgo (by omega)
    have htk:l.take i=l:=List.take_of_length_le (by omega)
    rw[htk] at ho hpl ⊢
    obtain ⟨o,f1,t1,ho1⟩ : ∃ o f1 t1,pAdd f' t' l=(o,f1,t1):=⟨_,_,_,rfl⟩
    rw[ho1] at ho hpa hpl
    rw[ho1]
    dsimp only at ho hpa hpl
    simp (disch:=omega) only [vm0,vm1,vm2,vm3,vm4,vm5,vm6,vm7,vmF,vmT,evo,wr,wrC,frame,Nat.reduceAdd,Nat.reduceMul,Nat.reduceSub,beq_self_eq_true,List.cons_append,List.nil_append,beq_dec,vmI]
    refine op_app1 ho (by (repeat' (first | exact Fr.refl | assumption | apply Fr.new' | apply Fr.mk' | apply Fr.put')) <;> (first | omega | (left; simp; done) | (right; simp only[next_put,next_new,next_mk]; omega) | (simp only[next_put,next_new,next_mk]; omega))) (x:=(f1,t1)) rfl (by omega) ?_
    intro v' s4 fo' q1 q2 q3
    simp (disch:=omega) only [vm0,vm1,vm2,vm3,vm4,vm5,vm6,vm7,vmF,vmT,evo,wr,wrC,frame,Nat.reduceAdd,Nat.reduceMul,Nat.reduceSub,beq_self_eq_true,List.cons_append,List.nil_append,beq_dec,vmI]
    refine call_ok rfl rfl (hs bd fu n s4 v' _ fo' q1 (by simp) (by simp; omega) hpa.2) ?_
    rintro y s5 ⟨f5,q4,q5,q6⟩
    rw[hpa.1] at q4
    have hnn:=hn.nn q3 hfr.1
    have hfr5:=(hfr.nn q2 hn).nn q5 hnn
    have hp5:=(hfr5.get h5 (by simp)).trans h1
    simp (disch:=omega) only [vm0,vm1,vm2,vm3,vm4,vm5,vm6,vm7,vmF,vmT,evo,wr,wrC,frame,Nat.reduceAdd,Nat.reduceMul,Nat.reduceSub,beq_self_eq_true,List.cons_append,List.nil_append,beq_dec,vmI,hp5,q4.cells]
    have hpf:p∉f5:=fun hm=>by have:=hnn p (q6 p hm); simp at this; omega
    refine ⟨p::f5,⟨v',f5,get_put_eq rfl,q4.fr (fp':=[p]) (.put (.inl (by simp))) (by rintro b hb hm; simp at hm; subst hm; exact hpf hb),hpf,rfl,by rw[next_put]; exact Nat.lt_of_lt_of_le h5 hfr5.1⟩,.put' (.inl (by simp)) (hfr5.mono (by simp)),?_⟩
    intro b hb
    rcases List.mem_cons.1 hb with rfl | hb
    ·exact .inl (by simp)
    ·right; have:=hnn b (q6 b hb); simpa using this
 ·rw[if_neg hgo]
  simp (disch:=omega) only [vm0,vm1,vm2,vm3,vm4,vm5,vm6,vm7,vmF,vmT,evo,wr,wrC,frame,Nat.reduceAdd,Nat.reduceMul,Nat.reduceSub,beq_self_eq_true,List.cons_append,List.nil_append,beq_dec]
  exact ⟨_,hF0,.refl,.refl⟩
end
def pcs (f t:Int) (r:R):List R:=[(r.1,min r.2 f),(max r.1 t,r.2)]
def keep (x:R):Bool:=decide (x.1<x.2)
theorem pcs_cut {f t:Int} {r:R} (h:r.1<r.2) (hf:f<t):(pcs f t r).filter keep=cut1 f t r:=by
 unfold pcs keep cut1
 by_cases h1:r.1<f <;> by_cases h2:t<r.2
 ·rw[if_pos h1,if_pos h2,List.filter_cons_of_pos (by simp; omega),List.filter_cons_of_pos (by simp; omega)]; rfl
 ·rw[if_pos h1,if_neg h2,List.filter_cons_of_pos (by simp; omega),List.filter_cons_of_neg (by simp; omega)]; rfl
 ·rw[if_neg h1,if_pos h2,List.filter_cons_of_neg (by simp; omega),List.filter_cons_of_pos (by simp; omega)]; rfl
 ·rw[if_neg h1,if_neg h2,List.filter_cons_of_neg (by simp; omega),List.filter_cons_of_neg (by simp; omega)]; rfl
theorem cutR_take {f t:Int} {l:List R} {i:Nat} {x:R} (hx:l[i]?=some x):cutR f t (l.take (i+1))=cutR f t (l.take i)++cut1 f t x:=by
 rw[List.take_add_one,hx]; simp[cutR]
theorem cutR_len {f t:Int} (l:List R):(cutR f t l).length≤2*l.length:=by
 induction l with
 | nil=>simp[cutR]
 | cons r l ih =>
  have:=cut1_len (f:=f) (t:=t) (r:=r)
  simp only[cutR,List.flatMap_cons,List.length_append,List.length_cons] at ih ⊢; omega
section
variable {bd : Bd} {h : VF} {fu : Nat}
set_option maxHeartbeats 400000 in
theorem s_cut (n:Nat) (s:St) (p:Nat) (l:List R) (fp:List Nat) (f t:Int) (hF:IsS s p l fp) (hw:WFr 0 l) (hlen:l.length<fu) (hfu:10<fu) (hf:l.length<100000) :
  OutOk (callF bd (tab h).get fu (n+2) 120 [.ptr p 0,num f,num t] s) (fun x s'=>∃ fp',IsS s' p (if max 0 f<min t far then cutR (max 0 f) (min t far) l else l) fp'∧Fr s s' fp∧Nw s fp fp'):=by
 refine call_code (t120 h) rfl ?_
 simp (disch:=omega) only [vm0,vm1,vm2,vm3,vm4,vm5,vm6,vm7,vmF,vmT,evo,wr,wrC,frame,Nat.reduceAdd,Nat.reduceMul,Nat.reduceSub,beq_self_eq_true,List.cons_append,List.nil_append,beq_dec,vc120]
 refine call_ok rfl rfl (s_within n s f t) ?_
 rintro x s ⟨rfl,rfl⟩
 have hF0:=hF
 obtain ⟨v,fv,h1,h2,h3,rfl,h5⟩:=hF
 obtain ⟨f',hf'⟩ : ∃ f',max 0 f=f':=⟨_,rfl⟩
 obtain ⟨t',ht'⟩ : ∃ t',min t far=t':=⟨_,rfl⟩
 have hfar:far=1099511627776:=rfl
 rw[hf',ht']
 by_cases hgo:f'<t'
 ·rw[if_pos hgo]
  have hlb:=hw.lb
  simp (disch:=omega) only [vm0,vm1,vm2,vm3,vm4,vm5,vm6,vm7,vmF,vmT,evo,wr,wrC,frame,Nat.reduceAdd,Nat.reduceMul,Nat.reduceSub,beq_self_eq_true,List.cons_append,List.nil_append,beq_dec,h1,h2.rd.lenV]
  refine x_loop (fun m F s'=>∃ i:Nat,∃ z x3 x5 x6 x10 x12 x13 x14 x15 vo fo,m=l.length-i∧i≤l.length∧z=(i:Int)∧F=[some (.ptr p 0),some (num f'),some (num t'),x3,some (num z),x5,x6,some vo,some (.bool false),some (num (l.length:Int)),x10,some v,x12,x13,x14,x15] ∧
   Fr s s' []∧OwE s' vo 2 encR (cutR f' t' (l.take i)) fo∧Nw s [] fo) l.length (by omega) ?_ ?_
  ·exact ⟨0,_,_,_,_,_,_,_,_,_,_,[],by omega,by omega,rfl,rfl,.refl,.nil encR_w (by omega),by simp[Nw]⟩
  ·rintro m F s1 ⟨i,_,x3,x5,x6,x10,x12,x13,x14,x15,vo,fo,rfl,hi,rfl,rfl,hfr,ho,hn⟩ hm
   have hv1:=h2.fr0 hfr
   have hcl:=cutR_len (f:=f') (t:=t') (l.take i)
   rw[List.length_take,Nat.min_eq_left hi] at hcl
   by_cases hlt:i<l.length
   ·obtain ⟨x,hx⟩ : ∃ x,l[i]?=some x:=⟨_,List.getElem?_eq_getElem hlt⟩
    have hct:=cutR_take (f:=f') (t:=t') hx
    have hxb:=hlb x (List.mem_of_getElem? hx)
    have hpc:=pcs_cut (f:=f') (t:=t') hxb.2.1 hgo
    obtain ⟨a,b⟩:=x
    have e1:=hv1.rd.ia hx
    have e2:=hv1.rd.at hx
    have hbl:=hv1.rd.blk' hx
    generalize cutR f' t' (l.take i)=o at *
    simp (disch:=omega) only [vm0,vm1,vm2,vm3,vm4,vm5,vm6,vm7,vmF,vmT,evo,wr,wrC,frame,Nat.reduceAdd,Nat.reduceMul,Nat.reduceSub,beq_self_eq_true,List.cons_append,List.nil_append,beq_dec,vmI,e1,e2,encR]
    have hp2:OwE (((s1.new (.cells [num 0,num 0] .own)).put s1.next (some (.cells [num a,num b] .own))).new (.cells [num a,num (min b f'),num (max a t'),num b] .own)) (.sl (s1.next+1) 0 2 2 true 2) 2 encR (pcs f' t' (a,b)) [s1.next+1] :=
     ⟨.mk (J:=[]) (get_new_eq (by rw[next_put,next_new])) rfl (Nat.le_refl _),encR_w,by omega,by intro z hz; simp at hz; subst hz; rw[next_new,next_put,next_new]; omega⟩
    have hfa:Fr s1 (((s1.new (.cells [num 0,num 0] .own)).put s1.next (some (.cells [num a,num b] .own))).new (.cells [num a,num (min b f'),num (max a t'),num b] .own)) []:=(by (repeat' (first | exact Fr.refl | assumption | apply Fr.new' | apply Fr.mk' | apply Fr.put')) <;> (first | omega | (left; simp; done) | (right; simp only[next_put,next_new,next_mk]; omega) | (simp only[next_put,next_new,next_mk]; omega)))
    generalize ((s1.new (.cells [num 0,num 0] .own)).put s1.next (some (.cells [num a,num b] .own))).new (.cells [num a,num (min b f'),num (max a t'),num b] .own)=s2 at *
    have ho2:=ho.fr0 hfa
    have hfr2:=hfr.trans hfa (fp2:=[]) (by simp) (by simp)
    refine x_loop (fun m' F s'=>∃ j:Nat,∃ z x3 x6 x13 x15 vo fo,m'=2-j∧j≤2∧z=(j:Int)∧F=[some (.ptr p 0),some (num f'),some (num t'),x3,some (num (i:Int)),some (num z),x6,some vo,some (.bool false),some (num (l.length:Int)),some (.bool true),some v,some (num 2),x13,some (.sl (s1.next+1) 0 2 2 true 2),x15] ∧
     (Fr s s' []∧s2.next≤s'.next∧OwE s' (.sl (s1.next+1) 0 2 2 true 2) 2 encR (pcs f' t' (a,b)) [s1.next+1])∧OwE s' vo 2 encR (o++((pcs f' t' (a,b)).take j).filter keep) fo∧Nw s [] fo∧s1.next+1∉fo) 2 (by omega) ?_ ?_
    ·refine ⟨0,_,_,_,_,_,_,fo,by omega,by omega,rfl,rfl,⟨hfr2,Nat.le_refl _,hp2⟩,by simpa using ho2,hn,fun hm=>by have:=ho.lt _ hm; omega⟩
    ·rintro m' F s3 ⟨j,_,y3,y6,y13,y15,vo3,fo3,rfl,hj,rfl,rfl,⟨hf3,hn2,hv3⟩,ho3,hn3,hnp⟩ hm'
     by_cases hj2:j<2
     ·obtain ⟨y,hy⟩ : ∃ y,(pcs f' t' (a,b))[j]?=some y:=⟨_,List.getElem?_eq_getElem (by simp[pcs]; omega)⟩
      have g1:=hv3.rd.ia hy
      have g2:=hv3.rd.at hy
      have gb:=hv3.rd.blk' hy
      have htk:(pcs f' t' (a,b)).take (j+1)=(pcs f' t' (a,b)).take j++[y]:=by rw[List.take_add_one,hy]; rfl
      have hfl:(o++((pcs f' t' (a,b)).take j).filter keep).length≤2*i+2:=by
       have h1:=List.length_filter_le keep ((pcs f' t' (a,b)).take j)
       have h2:=List.length_take_le j (pcs f' t' (a,b))
       rw[List.length_append]; omega
      obtain ⟨c,d⟩:=y
      have g0:sblk (.sl (s1.next+1) 0 2 2 true 2)=s1.next+1:=rfl
      have g00:soff (.sl (s1.next+1) 0 2 2 true 2)=0:=rfl
      rw[g0,g00,Nat.zero_add] at g1 g2
      rw[g0] at gb
      have hn1:s1.next≤s2.next:=hfa.1
      have hlp:=hv3.lt _ (show s1.next+1∈[s1.next+1] by simp)
      simp (disch:=omega) only [vm0,vm1,vm2,vm3,vm4,vm5,vm6,vm7,vmF,vmT,evo,wr,wrC,frame,Nat.reduceAdd,Nat.reduceMul,Nat.reduceSub,beq_self_eq_true,List.cons_append,List.nil_append,beq_dec,vmI,g1,g2,encR]
      have hfb:Fr s3 ((s3.new (.cells [num 0,num 0] .own)).put s3.next (some (.cells [num c,num d] .own))) []:=(by (repeat' (first | exact Fr.refl | assumption | apply Fr.new' | apply Fr.mk' | apply Fr.put')) <;> (first | omega | (left; simp; done) | (right; simp only[next_put,next_new,next_mk]; omega) | (simp only[next_put,next_new,next_mk]; omega)))
      have hg:((s3.new (.cells [num 0,num 0] .own)).put s3.next (some (.cells [num c,num d] .own))).heap.get s3.next=some (.cells [num c,num d] .own):=get_put_eq rfl
      generalize (s3.new (.cells [num 0,num 0] .own)).put s3.next (some (.cells [num c,num d] .own))=s4 at *
      have ho4:=ho3.fr0 hfb
      by_cases hcd:c<d
      ·simp (disch:=omega) only [vm0,vm1,vm2,vm3,vm4,vm5,vm6,vm7,vmF,vmT,evo,wr,wrC,frame,Nat.reduceAdd,Nat.reduceMul,Nat.reduceSub,beq_self_eq_true,List.cons_append,List.nil_append,beq_dec,vmI,hg]
       refine op_app1 ho4 (by (repeat' (first | exact Fr.refl | assumption | apply Fr.new' | apply Fr.mk' | apply Fr.put')) <;> (first | omega | (left; simp; done) | (right; simp only[next_put,next_new,next_mk]; omega) | (simp only[next_put,next_new,next_mk]; omega))) (x:=(c,d)) rfl (by omega) ?_
       intro v' s5 fo' q1 q2 q3
       simp (disch:=omega) only [vm0,vm1,vm2,vm3,vm4,vm5,vm6,vm7,vmF,vmT,evo,wr,wrC,frame,Nat.reduceAdd,Nat.reduceMul,Nat.reduceSub,beq_self_eq_true,List.cons_append,List.nil_append,beq_dec,vmI]
       refine ⟨2-(j+1),by omega,j+1,(j:Int)+1,_,_,_,_,_,fo',rfl,by omega,by omega,rfl,⟨?_,?_,?_⟩,?_,hn3.nn q3 (Nat.le_trans hf3.1 hfb.1),?_⟩
       ·exact (hf3.trans hfb (fp2:=[]) (by simp) (by simp)).nn q2 hn3
       ·exact Nat.le_trans hn2 (Nat.le_trans hfb.1 q2.1)
       ·exact (hv3.fr0 hfb).fr q2 (by intro z hz hm; simp at hz; subst hz; exact hnp hm)
       ·rw[htk,List.filter_append,List.filter_cons_of_pos (by simpa [keep] using hcd)]; simpa using q1
       ·exact q3.not hnp (by have:=hfb.1; omega)
      ·simp (disch:=omega) only [vm0,vm1,vm2,vm3,vm4,vm5,vm6,vm7,vmF,vmT,evo,wr,wrC,frame,Nat.reduceAdd,Nat.reduceMul,Nat.reduceSub,beq_self_eq_true,List.cons_append,List.nil_append,beq_dec,vmI,hg]
       refine ⟨2-(j+1),by omega,j+1,(j:Int)+1,_,_,_,_,_,fo3,rfl,by omega,by omega,rfl,⟨hf3.trans hfb (by simp) (by simp),Nat.le_trans hn2 hfb.1,hv3.fr0 hfb⟩,?_,hn3,hnp⟩
       rw[htk,List.filter_append,List.filter_cons_of_neg (by simpa [keep] using hcd)]; simpa using ho4
     ·simp (disch:=omega) only [vm0,vm1,vm2,vm3,vm4,vm5,vm6,vm7,vmF,vmT,evo,wr,wrC,frame,Nat.reduceAdd,Nat.reduceMul,Nat.reduceSub,beq_self_eq_true,List.cons_append,List.nil_append,beq_dec,vmI]
      have htk:(pcs f' t' (a,b)).take j=pcs f' t' (a,b):=List.take_of_length_le (by simp[pcs]; omega)
      rw[htk,hpc,←hct] at ho3
      refine ⟨l.length-(i+1),by omega,i+1,(i:Int)+1,_,_,_,_,_,_,_,_,_,fo3,rfl,by omega,by omega,rfl,hf3,ho3,hn3⟩
   ·have htk:l.take i=l:=List.take_of_length_le (by omega)
    rw[htk] at ho
    have hp5:=(hfr.get h5 (by simp)).trans h1
    simp (disch:=omega) only [vm0,vm1,vm2,vm3,vm4,vm5,vm6,vm7,vmF,vmT,evo,wr,wrC,frame,Nat.reduceAdd,Nat.reduceMul,Nat.reduceSub,beq_self_eq_true,List.cons_append,List.nil_append,beq_dec,vmI,hp5,ho.cells]
    have hpf:p∉fo:=fun hm=>by have:=hn p hm; simp at this; omega
    refine ⟨p::fo,⟨vo,fo,get_put_eq rfl,ho.fr (fp':=[p]) (.put (.inl (by simp))) (by rintro b hb hm; simp at hm; subst hm; exact hpf hb),hpf,rfl,by rw[next_put]; exact Nat.lt_of_lt_of_le h5 hfr.1⟩,.put' (.inl (by simp)) (hfr.mono (by simp)),?_⟩
    intro b hb
    rcases List.mem_cons.1 hb with rfl | hb
    ·exact .inl (by simp)
    ·right; have:=hn b hb; simpa using this
 ·rw[if_neg hgo]
  simp (disch:=omega) only [vm0,vm1,vm2,vm3,vm4,vm5,vm6,vm7,vmF,vmT,evo,wr,wrC,frame,Nat.reduceAdd,Nat.reduceMul,Nat.reduceSub,beq_self_eq_true,List.cons_append,List.nil_append,beq_dec]
  exact ⟨_,hF0,.refl,.refl⟩
end
def has1 (f t:Int) (r:R):Bool:=decide (r.1≤f)&&decide (t≤r.2)
def hasR (f t:Int) (l:List R):Bool:=decide (t≤f)||l.any (has1 f t)
def fhas (f t:Int):List R→Int→Int
 | [],_ => -1
 | r::l,i=>if has1 f t r then i else fhas f t l (i+1)
theorem fhas_any {f t:Int}:∀ (l:List R) (i:Int),0≤i→(decide (0≤fhas f t l i))=l.any (has1 f t):=by
 intro l
 induction l with
 | nil=>intro i _; rfl
 | cons r l ih =>
  intro i hi
  unfold fhas
  cases hh:has1 f t r
  ·simp only[List.any_cons,hh,Bool.false_or,Bool.false_eq_true,if_false]; exact ih (i+1) (by omega)
  ·simp[hh,hi]
section
variable {bd : Bd} {h : VF} {fu : Nat}
theorem has1_ok (n:Nat) (s:St) (a b f t:Int) (q1 q2:Nat) (k1 k2:BK) (h1:s.heap.get q1=some (.cells [num f] k1)) (h2:s.heap.get q2=some (.cells [num t] k2)) (l1:q1<s.next) (l2:q2<s.next) :
  OutOk (callF bd (tab h).get fu (n+1) 153 [.agg [num a,num b],.ptr q1 0,.ptr q2 0] s) (fun x s'=>Is x (.bool (has1 f t (a,b)))∧Fr s s' []):=by
 refine call_code (t153 h) rfl ?_
 by_cases ha:a≤f
 ·simp (disch:=omega) only [vm0,vm1,vm2,vm3,vm4,vm5,vm6,vm7,vmF,vmT,evo,wr,wrC,frame,Nat.reduceAdd,Nat.reduceMul,Nat.reduceSub,beq_self_eq_true,List.cons_append,List.nil_append,beq_dec,vc153,h1,h2]
  exact ⟨by show AV.bool _=AV.bool _; simp[has1,ha],(by (repeat' (first | exact Fr.refl | assumption | apply Fr.new' | apply Fr.mk' | apply Fr.put')) <;> (first | omega | (left; simp; done) | (right; simp only[next_put,next_new,next_mk]; omega) | (simp only[next_put,next_new,next_mk]; omega)))⟩
 ·simp (disch:=omega) only [vm0,vm1,vm2,vm3,vm4,vm5,vm6,vm7,vmF,vmT,evo,wr,wrC,frame,Nat.reduceAdd,Nat.reduceMul,Nat.reduceSub,beq_self_eq_true,List.cons_append,List.nil_append,beq_dec,vc153,h1,h2]
  exact ⟨by show AV.bool _=AV.bool _; simp[has1,ha],(by (repeat' (first | exact Fr.refl | assumption | apply Fr.new' | apply Fr.mk' | apply Fr.put')) <;> (first | omega | (left; simp; done) | (right; simp only[next_put,next_new,next_mk]; omega) | (simp only[next_put,next_new,next_mk]; omega)))⟩
theorem idxR (n:Nat) (s:St) (v:AV) (l:List R) (f t:Int) (q1 q2:Nat) (k1 k2:BK) (h1:s.heap.get q1=some (.cells [num f] k1)) (h2:s.heap.get q2=some (.cells [num t] k2)) (l1:q1<s.next) (l2:q2<s.next) (hv:RdE s v 2 encR l) (hlen:l.length<fu) (hf:l.length<1000000) :
  OutOk (callF bd (tab h).get fu (n+2) 161 [v,.fn 153 [] [.ptr q1 0,.ptr q2 0]] s) (fun x s'=>Is x (num (fhas f t l 0))∧Fr s s' []):=by
 refine call_code (t161 h) rfl ?_
 simp (disch:=omega) only [vm0,vm1,vm2,vm3,vm4,vm5,vm6,vm7,vmF,vmT,evo,wr,wrC,frame,Nat.reduceAdd,Nat.reduceMul,Nat.reduceSub,beq_self_eq_true,List.cons_append,List.nil_append,beq_dec,vc161,hv.lenV]
 refine x_loop (fun m F s'=>∃ i:Nat,∃ z x3 x5 x6,m=l.length-i∧i≤l.length∧z=(i:Int)∧F=[some v,some (.fn 153 [] [.ptr q1 0,.ptr q2 0]),some (num z),x3,some (num (l.length:Int)),x5,x6,some (num 0)]∧Fr s s' []∧fhas f t l 0=fhas f t (l.drop i) i) l.length (by omega) ?_ ?_
 ·exact ⟨0,_,_,_,_,by omega,by omega,rfl,rfl,.refl,rfl⟩
 ·rintro m F s1 ⟨i,_,x3,x5,x6,rfl,hi,rfl,rfl,hfr,hfst⟩ hm
  have hv1:=hv.fr0 hfr
  have g1:=(hfr.get l1 (by simp)).trans h1
  have g2:=(hfr.get l2 (by simp)).trans h2
  by_cases hlt:i<l.length
  ·obtain ⟨⟨a,b⟩,hx⟩ : ∃ x,l[i]?=some x:=⟨_,List.getElem?_eq_getElem hlt⟩
   have e1:=hv1.ia hx
   have e2:=hv1.at hx
   simp (disch:=omega) only [vm0,vm1,vm2,vm3,vm4,vm5,vm6,vm7,vmF,vmT,evo,wr,wrC,frame,Nat.reduceAdd,Nat.reduceMul,Nat.reduceSub,beq_self_eq_true,List.cons_append,List.nil_append,beq_dec,e1,e2,encR]
   refine call_ok rfl rfl (has1_ok n s1 a b f t q1 q2 k1 k2 g1 g2 (Nat.lt_of_lt_of_le l1 hfr.1) (Nat.lt_of_lt_of_le l2 hfr.1)) ?_
   rintro x s2 ⟨rfl,hfr2⟩
   rw[List.drop_eq_getElem_cons hlt,(List.getElem?_eq_some_iff.1 hx).2] at hfst
   cases hh:has1 f t (a,b)
   ·simp (disch:=omega) only [vm0,vm1,vm2,vm3,vm4,vm5,vm6,vm7,vmF,vmT,evo,wr,wrC,frame,Nat.reduceAdd,Nat.reduceMul,Nat.reduceSub,beq_self_eq_true,List.cons_append,List.nil_append,beq_dec,vmI]
    refine ⟨l.length-(i+1),by omega,i+1,(i:Int)+1,_,_,_,rfl,by omega,by omega,rfl,hfr.tr hfr2 (by simp[Nw]),?_⟩
    rw[hfst]; simp[fhas,hh]
   ·simp (disch:=omega) only [vm0,vm1,vm2,vm3,vm4,vm5,vm6,vm7,vmF,vmT,evo,wr,wrC,frame,Nat.reduceAdd,Nat.reduceMul,Nat.reduceSub,beq_self_eq_true,List.cons_append,List.nil_append,beq_dec,vmI]
    exact ⟨by show num _=num _; rw[hfst]; simp[fhas,hh],hfr.tr hfr2 (by simp[Nw])⟩
  ·simp (disch:=omega) only [vm0,vm1,vm2,vm3,vm4,vm5,vm6,vm7,vmF,vmT,evo,wr,wrC,frame,Nat.reduceAdd,Nat.reduceMul,Nat.reduceSub,beq_self_eq_true,List.cons_append,List.nil_append,beq_dec]
   refine ⟨?_,hfr⟩
   rw[hfst,List.drop_eq_nil_of_le (by omega)]; rfl
theorem s_has (n:Nat) (s:St) (p:Nat) (l:List R) (fp:List Nat) (f t:Int) (hF:IsS s p l fp) (hlen:l.length<fu) (hf:l.length<100000) :
  OutOk (callF bd (tab h).get fu (n+4) 135 [.ptr p 0,num f,num t] s) (fun x s'=>Is x (.bool (hasR f t l))∧Fr s s' []):=by
 refine call_code (t135 h) rfl ?_
 obtain ⟨v,fv,h1,h2,h3,rfl,h5⟩:=hF
 have g1:((s.new (.cells [num f] .own)).new (.cells [num t] .own)).heap.get s.next=some (.cells [num f] .own):=by rw[get_new_ne (by rw[next_new]; omega),get_new_eq rfl]
 have g2:((s.new (.cells [num f] .own)).new (.cells [num t] .own)).heap.get (s.next+1)=some (.cells [num t] .own):=get_new_eq (by rw[next_new])
 have gp:((s.new (.cells [num f] .own)).new (.cells [num t] .own)).heap.get p=s.heap.get p:=by rw[get_new_ne (by rw[next_new]; omega),get_new_ne (by omega)]
 by_cases hft:t≤f
 ·simp (disch:=omega) only [vm0,vm1,vm2,vm3,vm4,vm5,vm6,vm7,vmF,vmT,evo,wr,wrC,frame,Nat.reduceAdd,Nat.reduceMul,Nat.reduceSub,beq_self_eq_true,List.cons_append,List.nil_append,beq_dec,vmI,vc135,g1,g2]
  exact ⟨by show AV.bool _=AV.bool _; simp[hasR,hft],(by (repeat' (first | exact Fr.refl | assumption | apply Fr.new' | apply Fr.mk' | apply Fr.put')) <;> (first | omega | (left; simp; done) | (right; simp only[next_put,next_new,next_mk]; omega) | (simp only[next_put,next_new,next_mk]; omega)))⟩
 ·simp (disch:=omega) only [vm0,vm1,vm2,vm3,vm4,vm5,vm6,vm7,vmF,vmT,evo,wr,wrC,frame,Nat.reduceAdd,Nat.reduceMul,Nat.reduceSub,beq_self_eq_true,List.cons_append,List.nil_append,beq_dec,vmI,vc135,g1,g2,gp,h1]
  have hfa:Fr s ((s.new (.cells [num f] .own)).new (.cells [num t] .own)) []:=(by (repeat' (first | exact Fr.refl | assumption | apply Fr.new' | apply Fr.mk' | apply Fr.put')) <;> (first | omega | (left; simp; done) | (right; simp only[next_put,next_new,next_mk]; omega) | (simp only[next_put,next_new,next_mk]; omega)))
  have gn:s.next+2≤((s.new (.cells [num f] .own)).new (.cells [num t] .own)).next:=by rw[next_new,next_new]; omega
  generalize (s.new (.cells [num f] .own)).new (.cells [num t] .own)=s1 at *
  have hc:OutOk (callF bd (tab h).get fu (n+3) 152 [v,.fn 153 [] [.ptr s.next 0,.ptr (s.next+1) 0]] s1) (fun x s'=>Is x (.bool (l.any (has1 f t)))∧Fr s1 s' []):=by
   refine call_code (t152 h) rfl ?_
   simp (disch:=omega) only [vm0,vm1,vm2,vm3,vm4,vm5,vm6,vm7,vmF,vmT,evo,wr,wrC,frame,Nat.reduceAdd,Nat.reduceMul,Nat.reduceSub,beq_self_eq_true,List.cons_append,List.nil_append,beq_dec,vmI,vc152]
   refine call_ok rfl rfl (idxR n s1 v l f t s.next (s.next+1) .own .own g1 g2 (by omega) (by omega) (h2.fr0 hfa).rd hlen (by omega)) ?_
   rintro x s2 ⟨rfl,hf2⟩
   have hany:=fhas_any (f:=f) (t:=t) l 0 (Int.le_refl 0)
   simp (disch:=omega) only [vm0,vm1,vm2,vm3,vm4,vm5,vm6,vm7,vmF,vmT,evo,wr,wrC,frame,Nat.reduceAdd,Nat.reduceMul,Nat.reduceSub,beq_self_eq_true,List.cons_append,List.nil_append,beq_dec,vmI]
   exact ⟨by show AV.bool _=AV.bool _; rw[hany],hf2⟩
  refine call_ok rfl rfl hc ?_
  rintro x s2 ⟨rfl,hf2⟩
  simp (disch:=omega) only [vm0,vm1,vm2,vm3,vm4,vm5,vm6,vm7,vmF,vmT,evo,wr,wrC,frame,Nat.reduceAdd,Nat.reduceMul,Nat.reduceSub,beq_self_eq_true,List.cons_append,List.nil_append,beq_dec,vmI]
  exact ⟨by show AV.bool _=AV.bool _; simp[hasR,hft],hfa.trans hf2 (by simp) (by simp)⟩
def frontR (l:List R):Int:=if l≠[]∧(l.headD (0,0)).1=0 then (l.headD (0,0)).2 else 0
end
end Go.Proofs.YtlgbkpaihjnjpaaGreat.ctr
