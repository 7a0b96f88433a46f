/- What functions of the program compute, one by one (1). -/
import Derived.Test.YtlgbkpaihjnjpaaGreatCtTab
import Derived.Deep.Slices
set_option linter.unusedVariables false
set_option linter.unusedSimpArgs false
set_option linter.unusedSectionVars false
set_option linter.constructorNameAsVariable false
set_option linter.defProp false
namespace Go.Proofs.YtlgbkpaihjnjpaaGreat.ctr
open Go.Vm Go.RowKit
theorem encB_w:∀ x:Int,(encB x).length=1:=fun _=>rfl
def encU (u:AV):List AV:=[u]
theorem sv_nils {sz:Nat} {lo hi mx:Option AV}:sliceV sz .nils lo hi mx=cnd (zr lo&&zr hi&&zr mx) (some .nils) none:=rfl
theorem rep_flat (n:Nat):rep n [byt 0]=(List.replicate n (0:Int)).flatMap encB:=by
 induction n with
 | zero=>rfl
 | succ n ih=>show byt 0::rep n [byt 0]=_; rw[ih]; rfl
theorem cut0_ow {s:St} {v:AV} {l:List Int} {fp:List Nat} (h:OwE s v 1 encB l fp) (hl:l≠[]):∃ v',sliceV 1 v none (some (num 0)) none=some v'∧OwE s v' 1 encB [] fp:=by
 rcases h.ow with ⟨_,h0,_⟩ | ⟨b,len,lo,ex,k,J,rfl,h2,h3,h4,h5⟩
 ·have:=flat_len h.wid l
  rw[h0] at this
  exact absurd (List.eq_nil_of_length_eq_zero (by simp at this; omega)) hl
 ·have hlen:len=l.length:=h.len
  have hpos:0<l.length:=by cases l with | nil=>exact absurd rfl hl | cons=>simp
  refine ⟨.sl b 0 0 lo ex 1,?_,⟨.inr ⟨b,0,lo,ex,k,l.flatMap encB++J,rfl,Nat.zero_le _,by simp,by simpa using h4,h5⟩,h.wid,h.pos,h.lt⟩⟩
  rw[sv_s,bnd_n,bnd_s (by omega),ob_some,ob_some,sli_k (by simp) (by simp) (by omega)]
  simp
section
variable {bd : Bd} {h : VF} {fu : Nat}
theorem copyB (n:Nat) (s:St) (v:AV) (l:List Int) (hv:RdE s v 1 encB l) (hf:l.length<140737488355232) :
  OutOk (callF bd (tab h).get fu (n+1) 33 [v] s) (fun x s'=>∃ fp,OwE s' x 1 encB l fp∧Fr s s' []∧Nw s [] fp):=by
 refine call_code (t33 h) rfl ?_
 simp (disch:=omega) only [vm0,vm1,vm2,vm3,vm4,vm5,vm6,vm7,vmF,vmT,evo,wr,wrC,frame,Nat.reduceAdd,Nat.reduceMul,Nat.reduceSub,beq_self_eq_true,List.cons_append,List.nil_append,beq_dec,vmI,vc33,hv.lenOf,hv.cellsOf]
 refine op_app (.nil encB_w (by omega)) (by (repeat' (first | exact Fr.refl | assumption | apply Fr.new' | apply Fr.mk' | apply Fr.put')) <;> (first | omega | (left; simp; done) | (right; simp only[next_put,next_new,next_mk]; omega) | (simp only[next_put,next_new,next_mk]; omega))) (new:=l) rfl rfl (by simp; omega) ?_
 intro v' s' fp' q1 q2 q3
 simp (disch:=omega) only [vm0,vm1,vm2,vm3,vm4,vm5,vm6,vm7,vmF,vmT,evo,wr,wrC,frame,Nat.reduceAdd,Nat.reduceMul,Nat.reduceSub,beq_self_eq_true,List.cons_append,List.nil_append,beq_dec,vmI]
 exact ⟨fp',by simpa using q1,q2,q3⟩
theorem cutB (n:Nat) (s:St) (v:AV) (l:List Int) (m:Int) (hm:0≤m) (hm2:m<140737488351232) (hv:RdE s v 1 encB l) :
  OutOk (callF bd (tab h).get fu (n+2) 8 [v,num m] s) (fun x s'=>∃ fp,OwE s' x 1 encB (l.take m.toNat) fp∧Fr s s' []∧Nw s [] fp):=by
 refine call_code (t8 h) rfl ?_
 obtain ⟨u,g1,r1⟩:=hv.sliH (b:=min (l.length:Int) m) (by omega) (by omega)
 have he:l.take (min (l.length:Int) m).toNat=l.take m.toNat:=by
  rcases (show min (l.length:Int) m=m∨(min (l.length:Int) m=l.length∧(l.length:Int)≤m) by omega) with e | ⟨e,h2⟩
  ·rw[e]
  ·rw[e,Int.toNat_natCast,List.take_of_length_le (Nat.le_refl _),List.take_of_length_le (by omega)]
 rw[he] at r1
 simp (disch:=omega) only [vm0,vm1,vm2,vm3,vm4,vm5,vm6,vm7,vmF,vmT,evo,wr,wrC,frame,Nat.reduceAdd,Nat.reduceMul,Nat.reduceSub,beq_self_eq_true,List.cons_append,List.nil_append,beq_dec,vmI,vc8,hv.lenV,g1]
 refine call_ok rfl rfl (copyB n s u _ r1 (by have:=List.length_take_le m.toNat l; omega)) ?_
 rintro x s' ⟨fp,q1,q2,q3⟩
 simp (disch:=omega) only [vm0,vm1,vm2,vm3,vm4,vm5,vm6,vm7,vmF,vmT,evo,wr,wrC,frame,Nat.reduceAdd,Nat.reduceMul,Nat.reduceSub,beq_self_eq_true,List.cons_append,List.nil_append,beq_dec,vmI]
 exact ⟨fp,q1,q2,q3⟩
theorem growB (n:Nat) (s:St) (m:Nat) (hm:m<140737488355232) :
  OutOk (callF bd (tab h).get fu (n+1) 116 [.nils,num (m:Int)] s) (fun x s'=>∃ fp,OwE s' x 1 encB [] fp∧Fr s s' []∧Nw s [] fp):=by
 refine call_code (t116 h) rfl ?_
 by_cases h0:m=0
 ·subst h0
  simp (disch:=omega) only [vm0,vm1,vm2,vm3,vm4,vm5,vm6,vm7,vmF,vmT,evo,wr,wrC,frame,Nat.reduceAdd,Nat.reduceMul,Nat.reduceSub,beq_self_eq_true,List.cons_append,List.nil_append,beq_dec,vmI,vc116,fCap]
  exact ⟨[],.nil encB_w (by omega),.refl,by simp[Nw]⟩
 ·have z0:(0:Int)≤0:=Int.le_refl 0
  simp (disch:=omega) only [vm0,vm1,vm2,vm3,vm4,vm5,vm6,vm7,vmF,vmT,evo,wr,wrC,frame,Nat.reduceAdd,Nat.reduceMul,Nat.reduceSub,beq_self_eq_true,List.cons_append,List.nil_append,beq_dec,vmI,vc116,fCap,sv_nils,zr_s,fApz,rep_flat]
  refine op_app (.nil encB_w (by omega)) (by (repeat' (first | exact Fr.refl | assumption | apply Fr.new' | apply Fr.mk' | apply Fr.put')) <;> (first | omega | (left; simp; done) | (right; simp only[next_put,next_new,next_mk]; omega) | (simp only[next_put,next_new,next_mk]; omega))) (new:=List.replicate m (0:Int)) rfl (by simp) (by simp; omega) ?_
  intro v' s' fp' q1 q2 q3
  obtain ⟨u,g1,r1⟩:=cut0_ow q1 (by simp; omega)
  simp (disch:=omega) only [vm0,vm1,vm2,vm3,vm4,vm5,vm6,vm7,vmF,vmT,evo,wr,wrC,frame,Nat.reduceAdd,Nat.reduceMul,Nat.reduceSub,beq_self_eq_true,List.cons_append,List.nil_append,beq_dec,vmI,g1]
  exact ⟨fp',r1,q2,q3⟩
theorem concatB (n:Nat) (s:St) (b:Nat) (ex:Bool) (u1 u2:AV) (l1 l2:List Int) (hv:RdE s (.sl b 0 2 2 ex 1) 1 encU [u1,u2]) (h1:RdE s u1 1 encB l1) (h2:RdE s u2 1 encB l2) (hl:l1.length+l2.length<140737488355232) (hfu:10<fu) :
  OutOk (callF bd (tab h).get fu (n+2) 76 [.sl b 0 2 2 ex 1] s) (fun x s'=>∃ fp,OwE s' x 1 encB (l1++l2) fp∧Fr s s' []∧Nw s [] fp):=by
 refine call_code (t76 h) rfl ?_
 obtain ⟨V,hV⟩ : ∃ V,AV.sl b 0 2 2 ex 1=V:=⟨_,rfl⟩
 rw[hV] at hv ⊢
 have hlen:lenV V=some (num 2):=by rw[hv.lenV]; rfl
 have key:∀ i:Nat,i<2→∃ u l,[u1,u2][i]?=some u∧RdE s u 1 encB l∧[l1,l2][i]?=some l:=by
  intro i hi
  match i,hi with
  | 0,_=>exact ⟨u1,l1,rfl,h1,rfl⟩
  | 1,_=>exact ⟨u2,l2,rfl,h2,rfl⟩
 simp (disch:=omega) only [vm0,vm1,vm2,vm3,vm4,vm5,vm6,vm7,vmF,vmT,evo,wr,wrC,frame,Nat.reduceAdd,Nat.reduceMul,Nat.reduceSub,beq_self_eq_true,List.cons_append,List.nil_append,beq_dec,vmI,vc76,hlen]
 refine x_loop (fun k F s'=>∃ i:Nat,∃ z x6 x8 x9,k=2-i∧i≤2∧z=(i:Int)∧F=[some V,some (num z),some (num ((([l1,l2].take i).flatten.length:Nat):Int)),none,none,some (num 2),x6,some V,x8,x9,none,none,none,none,some .nils]∧s'=s) 2 (by omega) ?_ ?_
 ·exact ⟨0,_,_,_,_,by omega,by omega,rfl,rfl,rfl⟩
 ·rintro k F s0 ⟨i,_,x6,x8,x9,rfl,hi,rfl,rfl,rfl⟩ hk
  by_cases hlt:i<2
  ·obtain ⟨u,l,hu,hul,hl'⟩:=key i hlt
   have e1:=hv.ia hu
   have e2:=hv.at1 (f:=fun u=>u) hu
   have ht:([l1,l2].take (i+1)).flatten.length=([l1,l2].take i).flatten.length+l.length:=by rw[List.take_add_one,hl']; simp
   have htb:([l1,l2].take (i+1)).flatten.length≤l1.length+l2.length:=by
    match i,hlt with
    | 0,_=>simp
    | 1,_=>simp
   simp (disch:=omega) only [vm0,vm1,vm2,vm3,vm4,vm5,vm6,vm7,vmF,vmT,evo,wr,wrC,frame,Nat.reduceAdd,Nat.reduceMul,Nat.reduceSub,beq_self_eq_true,List.cons_append,List.nil_append,beq_dec,vmI,e1,e2,hul.lenV]
   exact ⟨2-(i+1),by omega,i+1,(i:Int)+1,_,_,_,rfl,by omega,by omega,by rw[ht,Int.natCast_add],rfl⟩
  ·obtain rfl:i=2:=by omega
   simp (disch:=omega) only [vm0,vm1,vm2,vm3,vm4,vm5,vm6,vm7,vmF,vmT,evo,wr,wrC,frame,Nat.reduceAdd,Nat.reduceMul,Nat.reduceSub,beq_self_eq_true,List.cons_append,List.nil_append,beq_dec,vmI]
   refine call_ok rfl rfl (growB n s0 _ (by simp; omega)) ?_
   rintro x s1 ⟨fx,q1,q2,q3⟩
   simp (disch:=omega) only [vm0,vm1,vm2,vm3,vm4,vm5,vm6,vm7,vmF,vmT,evo,wr,wrC,frame,Nat.reduceAdd,Nat.reduceMul,Nat.reduceSub,beq_self_eq_true,List.cons_append,List.nil_append,beq_dec,vmI,hlen]
   refine x_loop (fun k F s'=>∃ i:Nat,∃ z x11 x13 vo fo,k=2-i∧i≤2∧z=(i:Int)∧F=[some V,some (num ((2:Nat):Int)),some (num ((([l1,l2].take 2).flatten.length:Nat):Int)),some (num z),some vo,some (num 2),some (.bool false),some V,x8,x9,some (num 2),x11,some V,x13,some .nils]∧Fr s0 s' []∧OwE s' vo 1 encB ([l1,l2].take i).flatten fo∧Nw s0 [] fo) 2 (by omega) ?_ ?_
   ·exact ⟨0,_,_,_,_,fx,by omega,by omega,rfl,rfl,q2,by simpa using q1,q3⟩
   ·rintro k F s2 ⟨i,_,x11,x13,vo,fo,rfl,hi,rfl,rfl,hf2,ho,hn⟩ hk
    by_cases hlt:i<2
    ·obtain ⟨u,l,hu,hul,hl'⟩:=key i hlt
     have hv2:=hv.fr0 hf2
     have hul2:=hul.fr0 hf2
     have e1:=hv2.ia hu
     have e2:=hv2.at1 (f:=fun u=>u) hu
     have ht:([l1,l2].take (i+1)).flatten=([l1,l2].take i).flatten++l:=by rw[List.take_add_one,hl']; simp
     have htb:([l1,l2].take i).flatten.length+l.length≤l1.length+l2.length:=by
      match i,hlt with
      | 0,_=>simp at hl'; subst hl'; simp
      | 1,_=>simp at hl'; subst hl'; simp
     simp (disch:=omega) only [vm0,vm1,vm2,vm3,vm4,vm5,vm6,vm7,vmF,vmT,evo,wr,wrC,frame,Nat.reduceAdd,Nat.reduceMul,Nat.reduceSub,beq_self_eq_true,List.cons_append,List.nil_append,beq_dec,vmI,e1,e2,hul2.lenOf,hul2.cellsOf]
     refine op_app ho (by (repeat' (first | exact Fr.refl | assumption | apply Fr.new' | apply Fr.mk' | apply Fr.put')) <;> (first | omega | (left; simp; done) | (right; simp only[next_put,next_new,next_mk]; omega) | (simp only[next_put,next_new,next_mk]; omega))) (new:=l) rfl rfl (by omega) ?_
     intro v' s3 fo' p1 p2 p3
     simp (disch:=omega) only [vm0,vm1,vm2,vm3,vm4,vm5,vm6,vm7,vmF,vmT,evo,wr,wrC,frame,Nat.reduceAdd,Nat.reduceMul,Nat.reduceSub,beq_self_eq_true,List.cons_append,List.nil_append,beq_dec,vmI]
     exact ⟨2-(i+1),by omega,i+1,(i:Int)+1,_,_,_,fo',rfl,by omega,by omega,rfl,hf2.nn p2 hn,by rw[ht]; exact p1,hn.nn p3 hf2.1⟩
    ·obtain rfl:i=2:=by omega
     simp (disch:=omega) only [vm0,vm1,vm2,vm3,vm4,vm5,vm6,vm7,vmF,vmT,evo,wr,wrC,frame,Nat.reduceAdd,Nat.reduceMul,Nat.reduceSub,beq_self_eq_true,List.cons_append,List.nil_append,beq_dec,vmI]
     exact ⟨fo,by simpa using ho,hf2,hn⟩
end
structure Obj where
 P:St→List Nat→Prop
 fr:∀ {s s':St} {fp fp':List Nat},P s fp→Fr s s' fp'→(∀ b∈fp,b∉fp')→P s' fp
 lt:∀ {s:St} {fp:List Nat},P s fp→Lt s fp
def SepF (s:St):List Obj→List Nat→Prop
 | [],fp=>fp=[]
 | P::Ps,fp=>∃ f g,P.P s f∧SepF s Ps g∧(∀ b∈f,b∉g)∧fp=f++g
theorem SepF.fr {s s':St} {fp':List Nat}:∀ {Ps:List Obj} {fp:List Nat},SepF s Ps fp→Fr s s' fp'→(∀ b∈fp,b∉fp')→SepF s' Ps fp
 | [],_,h,_,_=>h
 | P::Ps,_,⟨f,g,h1,h2,h3,h4⟩,hf,hd=>⟨f,g,P.fr h1 hf fun b hb=>hd b (by rw[h4]; simp[hb]),SepF.fr h2 hf fun b hb=>hd b (by rw[h4]; simp[hb]),h3,h4⟩
theorem SepF.lt {s:St}:∀ {Ps:List Obj} {fp:List Nat},SepF s Ps fp→Lt s fp
 | [],_,h=>by intro b hb; rw[show _=[] from h] at hb; simp at hb
 | P::Ps,_,⟨f,g,h1,h2,h3,h4⟩=>by
  intro b hb
  rw[h4] at hb
  rcases List.mem_append.1 hb with hb | hb
  ·exact P.lt h1 b hb
  ·exact SepF.lt h2 b hb
def Sep (s0 s:St) (Ps:List Obj):Prop:=∃ fp,SepF s Ps fp∧Nw s0 [] fp∧Fr s0 s []
theorem Sep.nil {s:St}:Sep s s []:=⟨[],rfl,by simp[Nw],.refl⟩
theorem Sep.frm {s0 s:St} {Ps:List Obj} (h:Sep s0 s Ps):Fr s0 s []:=by obtain ⟨_,_,_,h⟩:=h; exact h
theorem Sep.fr {s0 s s':St} {Ps:List Obj} (h:Sep s0 s Ps) (hf:Fr s s' []):Sep s0 s' Ps:=by
 obtain ⟨fp,h1,h2,h3⟩:=h
 exact ⟨fp,h1.fr hf (by simp),h2,h3.trans hf (fp2:=[]) (by simp) (by simp)⟩
theorem Sep.push {s0 s s':St} {P:Obj} {Ps:List Obj} {f:List Nat} (h:Sep s0 s Ps) (hp:P.P s' f) (hf:Fr s s' []) (hn:Nw s [] f):Sep s0 s' (P::Ps):=by
 obtain ⟨fp,h1,h2,h3⟩:=h
 refine ⟨f++fp,⟨f,fp,hp,h1.fr hf (by simp),?_,rfl⟩,?_,h3.trans hf (fp2:=[]) (by simp) (by simp)⟩
 ·intro b hb hm
  have:=h1.lt b hm
  have:=hn b hb
  simp at this
  omega
 ·intro b hb
  rcases List.mem_append.1 hb with hb | hb
  ·rcases hn b hb with h | h
   ·simp at h
   ·exact .inr (Nat.le_trans h3.1 h)
  ·exact h2 b hb
theorem Sep.drop {s0 s:St} {P:Obj} {Ps:List Obj} (h:Sep s0 s (P::Ps)):Sep s0 s Ps:=by
 obtain ⟨fp,⟨f,g,h1,h2,h3,rfl⟩,h4,h5⟩:=h
 exact ⟨g,h2,fun b hb=>h4 b (by simp[hb]),h5⟩
theorem Sep.swap {s0 s:St} {P Q:Obj} {Ps:List Obj} (h:Sep s0 s (P::Q::Ps)):Sep s0 s (Q::P::Ps):=by
 obtain ⟨fp,⟨f,g,h1,⟨f2,g2,h2,h3,h4,rfl⟩,h5,rfl⟩,h6,h7⟩:=h
 refine ⟨f2++(f++g2),⟨f2,f++g2,h2,⟨f,g2,h1,h3,fun b hb hm=>h5 b hb (by simp[hm]),rfl⟩,?_,rfl⟩,fun b hb=>h6 b (by simp only[List.mem_append] at *; rcases hb with h | h | h <;> simp[h]),h7⟩
 intro b hb hm
 rcases List.mem_append.1 hm with hm | hm
 ·exact h5 b hm (by simp[hb])
 ·exact h4 b hb hm
theorem Sep.hd {s0 s:St} {P:Obj} {Ps:List Obj} (h:Sep s0 s (P::Ps)):∃ f,P.P s f∧∀ (P':Obj) {s':St} {f':List Nat},P'.P s' f'→Fr s s' f→Nw s f f'→Sep s0 s' (P'::Ps):=by
 obtain ⟨fp,⟨f,g,h1,h2,h3,rfl⟩,h4,h5⟩:=h
 refine ⟨f,h1,fun P' s' f' k1 k2 k3=>?_⟩
 have hd:∀ b∈g,b∉f:=fun b hb hm=>h3 b hm hb
 refine ⟨f'++g,⟨f',g,k1,h2.fr k2 hd,?_,rfl⟩,?_,h5.nn k2 fun b hb=>h4 b (by simp[hb])⟩
 ·intro b hb hm
  rcases k3 b hb with h | h
  ·exact h3 b h hm
  ·have:=h2.lt b hm; omega
 ·intro b hb
  rcases List.mem_append.1 hb with hb | hb
  ·rcases k3 b hb with h | h
   ·exact h4 b (by simp[h])
   ·exact .inr (Nat.le_trans h5.1 h)
  ·exact h4 b (by simp[hb])
theorem Sep.hd2 {s0 s:St} {P Q:Obj} {Ps:List Obj} (h:Sep s0 s (P::Q::Ps)):∃ f g,P.P s f∧Q.P s g∧(∀ b∈g,b∉f)∧∀ (P':Obj) {s':St} {f':List Nat},P'.P s' f'→Fr s s' f→Nw s f f'→Sep s0 s' (P'::Q::Ps):=by
 obtain ⟨f,h1,up⟩:=h.hd
 obtain ⟨fp,⟨f2,g,h2,⟨f3,g3,h3,h4,h5,rfl⟩,h6,rfl⟩,h7,h8⟩:=h
 have h:Sep s0 s (P::Q::Ps):=⟨_,⟨f2,_,h2,⟨f3,g3,h3,h4,h5,rfl⟩,h6,rfl⟩,h7,h8⟩
 refine ⟨f2,f3,h2,h3,fun b hb hm=>h6 b hm (by simp[hb]),fun P' s' f' k1 k2 k3=>?_⟩
 have hd:∀ b∈f3++g3,b∉f2:=fun b hb hm=>h6 b hm hb
 refine ⟨f'++(f3++g3),⟨f',_,k1,SepF.fr (Ps:=Q::Ps) ⟨f3,g3,h3,h4,h5,rfl⟩ k2 hd,?_,rfl⟩,?_,h8.nn k2 fun b hb=>h7 b (by simp[hb])⟩
 ·intro b hb hm
  rcases k3 b hb with h | h
  ·exact h6 b h hm
  ·have:=SepF.lt (Ps:=Q::Ps) ⟨f3,g3,h3,h4,h5,rfl⟩ b hm; omega
 ·intro b hb
  rcases List.mem_append.1 hb with hb | hb
  ·rcases k3 b hb with h | h
   ·exact h7 b (by simp[h])
   ·exact .inr (Nat.le_trans h8.1 h)
  ·exact h7 b (by simp only[List.mem_append] at *; exact .inr hb)
theorem SepF.perm {s:St} {Ps Qs:List Obj} (hp:Ps.Perm Qs):∀ {fp:List Nat},SepF s Ps fp→∃ fp',SepF s Qs fp'∧∀ b,b∈fp'↔b∈fp:=by
 induction hp with
 | nil=>exact fun h=>⟨_,h,fun _ => .rfl⟩
 | cons P _ ih =>
  rintro _ ⟨f,g,h1,h2,h3,rfl⟩
  obtain ⟨g',k1,k2⟩:=ih h2
  exact ⟨f++g',⟨f,g',h1,k1,fun b hb hm=>h3 b hb ((k2 b).1 hm),rfl⟩,fun b=>by simp[k2 b]⟩
 | swap P Q l =>
  rintro _ ⟨f,g,h1,⟨f2,g2,h2,h3,h4,rfl⟩,h5,rfl⟩
  refine ⟨f2++(f++g2),⟨f2,f++g2,h2,⟨f,g2,h1,h3,fun b hb hm=>h5 b hb (by simp[hm]),rfl⟩,?_,rfl⟩,fun b=>by simp only[List.mem_append]; constructor <;> (rintro (h | h | h) <;> simp[h])⟩
  intro b hb hm
  rcases List.mem_append.1 hm with hm | hm
  ·exact h5 b hm (by simp[hb])
  ·exact h4 b hb hm
 | trans _ _ ih1 ih2 =>
  intro fp h
  obtain ⟨f1,k1,k2⟩:=ih1 h
  obtain ⟨f2,k3,k4⟩:=ih2 k1
  exact ⟨f2,k3,fun b=>(k4 b).trans (k2 b)⟩
theorem Sep.perm {s0 s:St} {Ps Qs:List Obj} (hp:Ps.Perm Qs) (h:Sep s0 s Ps):Sep s0 s Qs:=by
 obtain ⟨fp,h1,h2,h3⟩:=h
 obtain ⟨fp',k1,k2⟩:=h1.perm hp
 exact ⟨fp',k1,fun b hb=>h2 b ((k2 b).1 hb),h3⟩
theorem Sep.up4 {s0 s:St} {A B C D E:Obj} {Ps:List Obj} (h:Sep s0 s (A::B::C::D::E::Ps)):Sep s0 s (E::A::B::C::D::Ps):=h.perm (List.perm_middle (l₁:=[A,B,C,D]) (a:=E) (l₂:=Ps))
theorem Sep.dn4 {s0 s:St} {A B C D E:Obj} {Ps:List Obj} (h:Sep s0 s (E::A::B::C::D::Ps)):Sep s0 s (A::B::C::D::E::Ps):=h.perm (List.perm_middle (l₁:=[A,B,C,D]) (a:=E) (l₂:=Ps)).symm
def oC (b:Nat) (cs:List AV):Obj:=⟨fun s fp=>s.heap.get b=some (.cells cs .own)∧b<s.next∧fp=[b],
 fun {s s' fp fp'} ⟨h1,h2,h3⟩ hf hd=>⟨(hf.2 b h2 (hd b (by rw[h3]; simp))).trans h1,Nat.lt_of_lt_of_le h2 hf.1,h3⟩,
 fun {s fp} ⟨h1,h2,h3⟩=>by intro b' hb; rw[h3] at hb; simp at hb; subst hb; exact h2⟩
def oW {α:Type} (v:AV) (sz:Nat) (enc:α→List AV) (l:List α):Obj:=⟨fun s fp=>OwE s v sz enc l fp,fun h hf hd=>h.fr hf hd,fun h=>h.lt⟩
theorem withinP {bd:Bd} {h:VF} {fu:Nat} (n:Nat) (s:St) (v m:Int) (hv:-9223372036854775808≤v∧v≤9223372036854775807) (hm:1≤m) (hm2:m≤9223372036854775807) :
  OutOk (callF bd (tab h).get fu (n+1) 5 [num v,num m] s) (fun x s'=>Is x (num (v%m))∧Is s' s) :=
 within_ok (t5 h) n s v m hv hm hm2
end Go.Proofs.YtlgbkpaihjnjpaaGreat.ctr
namespace Go.Proofs.YtlgbkpaihjnjpaaGreat.ctr
open Go Go.Vm Go.RowKit Go.ChangeShapes Go.WideShapes
theorem row_blockV {w:World} {a:Addr} {n:Nat} {V:Nat→Value} (h0:0<n) (hc:∀ i,i<n→w.cell? (a.add i)=some (V i)) :
  ∃ B δ cs t fz,a=⟨B,δ,none⟩∧w.heap[B]?=some (.cells cs t fz)∧δ+n≤cs.size∧∀ i,i<n→cs[i+δ]?=some (V i):=by
 obtain ⟨B,δ,sp⟩:=a
 have hb:=hc 0 h0
 unfold World.cell? at hb hc
 have e0:(Addr.add ⟨B,δ,sp⟩ 0)=⟨B,δ,sp⟩:=rfl
 rw[e0] at hb
 dsimp only at hb
 split at hb
 ·rename_i cs t fz hw
  have hsp:sp=none:=by
   cases sp with
   | none=>rfl
   | some x=>simp at hb
  subst hsp
  have ad:∀ i,(Addr.add ⟨B,δ,none⟩ i).block=B∧(Addr.add ⟨B,δ,none⟩ i).off=δ+i∧(Addr.add ⟨B,δ,none⟩ i).spot=none:=fun i=>by rw[addr_add]; exact ⟨rfl,rfl,rfl⟩
  have hall:∀ i,i<n→cs[i+δ]?=some (V i):=by
   intro i hi
   have h1:=hc i hi
   rw[(ad i).1,hw] at h1
   simp only[(ad i).2.1,(ad i).2.2,Option.isSome_none,Bool.false_eq_true,if_false] at h1
   rw[Nat.add_comm]; exact h1
  refine ⟨B,δ,cs,t,fz,rfl,hw,?_,hall⟩
  have:=lt_of_get (hall (n-1) (by omega))
  omega
 ·cases hb
def IsRowV (w:World) (a:Option Addr) (len cap sz:Nat) (V:Nat→Value):Prop :=
 (a=none∧len=0∧cap=0)∨∃ x,a=some x∧len≤cap∧cap≤maxLen∧∀ i,i<cap*sz→w.cell? (x.add i)=some (V i)
theorem _root_.Go.Vm.Arg0.rows {α:Type} {E:Env} {s:St} {w:World} (h:Arg0 E s w) {a:Option Addr} {len cap sz:Nat} {V:Nat→Value} (hq:IsRowV w a len cap sz V) (hp:0<sz) (enc:α→List AV) (hw:∀ x,(enc x).length=sz) (l:List α) (hl:l.length=len)
  (hc:∀ i v,(l.flatMap enc)[i]?=some v→VR rho0 E v (V i)∧v.scalar=true) :
  ∃ v E' s',Arg0 E' s' w∧E.le E'∧Fr s s' []∧VR rho0 E' v (.slice a len cap)∧RdE s' v sz enc l:=by
 rcases hq with ⟨rfl,rfl,rfl⟩ | ⟨x,rfl,h2,h3,h4⟩
 ·obtain rfl:=List.eq_nil_of_length_eq_zero hl
  exact ⟨.nils,E,s,h,.refl E,.refl,.nils,.nil hw hp⟩
 ·by_cases h0:len=0
  ·subst h0
   obtain rfl:=List.eq_nil_of_length_eq_zero hl
   exact ⟨.emp,E,s,h,.refl E,.refl,.emp,.emp hw hp⟩
  ·have hpos:0<cap*sz:=Nat.mul_pos (by omega) hp
   obtain ⟨B,δ,cs,t,fz,rfl,g1,g2,g3⟩:=row_blockV hpos h4
   have hlt:(l.flatMap enc).length=len*sz:=by rw[flat_len hw,hl]
   have hle:len*sz≤cap*sz:=Nat.mul_le_mul_right sz h2
   obtain ⟨k1,k2⟩:=h.add (δ:=δ) (c:=l.flatMap enc) g1 rfl (by rw[hlt]; omega) (fun i v hi=>by
    obtain ⟨q1,q2⟩:=hc i v hi
    have:=(List.getElem?_eq_some_iff.1 hi).1
    exact ⟨_,g3 i (by omega),q1,q2⟩)
   have hv:=VR.sl (ρ:=rho0) (E:=envN E s.next (B,δ,cs.size)) (b:=s.next) (off:=0) (len:=len) (lo:=len) (ex:=false) (sz:=sz) (cap:=cap) (if_pos rfl) (Nat.le_refl _) h2 (by simp) (by omega)
   rw[Nat.zero_add] at hv
   refine ⟨.sl s.next 0 len len false sz,_,_,k1,k2,.new,hv,⟨⟨⟨rfl,Nat.le_refl _⟩,?_,?_⟩,hw,hp,by show s.next<_; rw[next_new]; omega⟩⟩
   ·rw[hlt]; rfl
   ·show ob ((s.new _).heap.get s.next) (rdC 0 (len*sz))=_
    rw[get_new_eq rfl]
    show sub _ 0 (len*sz)=_
    rw[sub_of (by rw[hlt]; omega)]
    congr 1
    rw[List.drop_zero,List.take_of_length_le (by rw[hlt]; omega)]
inductive Fk | i | b | S
def FkOk (w:World):Fk→Value→Prop
 | .i,v=>∃ z,v = .int .i64 z∧(Lit.int .i64 z).wf=true
 | .b,v=>∃ x,v = .bool x
 | .S,v=>∃ a len cap zs,v = .slice a len cap∧IsRow8 w a len cap zs
def fkTy (P:Program):Fk→TypeId→Bool
 | .i,t=>match P.underlying t with | some (.int .i64)=>true | _=>false
 | .b,t=>match P.underlying t with | some .bool=>true | _=>false
 | .S,t=>match P.underlying t with | some (.slice e)=>(match P.underlying e with | some (.int .u8)=>P.cellsOf e==1 | _=>false) | _=>false
section
variable {H : Type} {enc : TypeId × Value → H} {P : Program} {w : World} {base : Nat} {held : Bool}
theorem fk_open {k:Fk} {t:TypeId} {fuel:Nat} {v:Value} {x:DataW H×List MemPlace} (ht:fkTy P k t=true) (h:DataW.trod enc P w base (fun _=>true) held fuel t [v]=some x):FkOk w k v:=by
 cases k with
 | i =>
  unfold fkTy at ht; dsimp only at ht; split at ht
  ·rename_i hu
   obtain ⟨n,h1,_,h2⟩:=DataW.trod_int hu h
   cases h1; exact ⟨n,rfl,h2⟩
  ·cases ht
 | b =>
  unfold fkTy at ht; dsimp only at ht; split at ht
  ·rename_i hu
   obtain ⟨n,h1,_⟩:=DataW.trod_bool hu h
   cases h1; exact ⟨n,rfl⟩
  ·cases ht
 | S =>
  unfold fkTy at ht; dsimp only at ht; split at ht
  ·rename_i e hu
   split at ht
   ·rename_i hu2
    rcases open_ints hu hu2 (by simpa using ht) h with ⟨hcs,_⟩ | ⟨x,l,c,zs,hcs,_,hl,hm,hz,_,hcell,hwz⟩
    ·cases hcs
     exact ⟨_,_,_,[],rfl,.inl ⟨rfl,rfl,rfl,rfl⟩⟩
    ·cases hcs
     exact ⟨_,_,_,zs,rfl,.inr ⟨_,rfl,hl,hm,by simpa using hz,hcell,hwz⟩⟩
   ·cases ht
  ·cases ht
end
inductive Cl | i (z:Int) | b (x:Bool) | S (u:AV) (l:List Int)
noncomputable def Cl.av:Cl→AV | .i z=>num z | .b x => .bool x | .S u _=>u
def Cl.z:Cl→Int | .i z=>z | _=>0
def Cl.x:Cl→Bool | .b x=>x | _=>false
def Cl.u:Cl→AV | .S u _=>u | _ => .nils
def Cl.l:Cl→List Int | .S _ l=>l | _=>[]
def ClOk (s:St):Cl→Fk→Prop
 | .i z,.i=>In64 z
 | .b _,.b=>True
 | .S u l,.S=>RdE s u 1 encB l∧∀ x∈l,In8 x
 | _,_=>False
theorem ClOk.fr0 {s s':St} {c:Cl} {k:Fk} (h:ClOk s c k) (f:Fr s s' []):ClOk s' c k:=by
 cases c <;> cases k <;> first | exact h | exact ⟨h.1.fr0 f,h.2⟩ | cases h
theorem _root_.Go.Vm.Arg0.cells {w:World} {V:Nat→Value} {K:Nat→Fk}:∀ (n:Nat) {E:Env} {s:St},Arg0 E s w→(∀ i,i<n→FkOk w (K i) (V i)) →
  ∃ (cl:Nat→Cl) (E':Env) (s':St),Arg0 E' s' w∧E.le E'∧Fr s s' []∧∀ i,i<n→ClOk s' (cl i) (K i)∧VR rho0 E' (cl i).av (V i)∧(cl i).av.scalar=true
 | 0,E,s,h,_=>⟨fun _ => .i 0,E,s,h,.refl E,.refl,fun i hi=>by omega⟩
 | n+1,E,s,h,hV=>by
  obtain ⟨cl,E1,s1,h1,e1,f1,c1⟩:=Go.Vm.Arg0.cells n h (fun i hi=>hV i (by omega))
  have hn:=hV n (by omega)
  have put:∀ (c:Cl) (E':Env) (s':St),Arg0 E' s' w→E1.le E'→Fr s1 s' []→ClOk s' c (K n)→VR rho0 E' c.av (V n)→c.av.scalar=true →
    ∃ (cl:Nat→Cl) (E':Env) (s':St),Arg0 E' s' w∧E.le E'∧Fr s s' []∧∀ i,i<n+1→ClOk s' (cl i) (K i)∧VR rho0 E' (cl i).av (V i)∧(cl i).av.scalar=true:=by
   intro c E' s' a e f k v sc
   refine ⟨fun i=>if i=n then c else cl i,E',s',a,e1.trans e,f1.trans f (fp2:=[]) (by simp) (by simp),fun i hi=>?_⟩
   dsimp only
   by_cases h:i=n
   ·subst h; rw[if_pos rfl]; exact ⟨k,v,sc⟩
   ·rw[if_neg h]
    obtain ⟨q1,q2,q3⟩:=c1 i (by omega)
    exact ⟨q1.fr0 f,q2.mono e,q3⟩
  cases hk:K n with
  | i =>
   rw[hk] at hn put
   obtain ⟨z,hz,wz⟩:=hn
   exact put (.i z) E1 s1 h1 (.refl _) .refl (wf64 wz) (by rw[hz]; exact vr_int) rfl
  | b =>
   rw[hk] at hn put
   obtain ⟨z,hz⟩:=hn
   exact put (.b z) E1 s1 h1 (.refl _) .refl trivial (by rw[hz]; exact .bool _) rfl
  | S =>
   rw[hk] at hn put
   obtain ⟨a,len,cap,zs,hv,hq⟩:=hn
   obtain ⟨u,E2,s2,g,l,f,r,d,i8⟩:=h1.bytes hq
   refine put (.S u (zs.take len)) E2 s2 g l f ⟨d,i8⟩ (by rw[hv]; exact r) ?_
   have:=d.rd.sl
   show u.scalar=true
   cases u <;> first | rfl | exact this.elim
theorem _root_.Go.Vm.Arg0.recs {α:Type} {E:Env} {s:St} {w:World} (h:Arg0 E s w) {a:Option Addr} {len cap:Nat} {ks:List Fk} {V:Nat→Value} (hq:IsRowV w a len cap ks.length V)
  (hV:∀ i,i<cap*ks.length→FkOk w (ks.getD (i%ks.length) .i) (V i)) (hp:0<ks.length) (enc:α→List AV) (dec:(Nat→Cl)→α) (hw:∀ x,(enc x).length=ks.length)
  (hd:∀ (s:St) (f:Nat→Cl),(∀ j,j<ks.length→ClOk s (f j) (ks.getD j .i))→∀ j,j<ks.length→(enc (dec f))[j]?=some (f j).av) :
  ∃ v E' s' l,Arg0 E' s' w∧E.le E'∧Fr s s' []∧VR rho0 E' v (.slice a len cap)∧RdE s' v ks.length enc l∧l.length=len∧∀ x∈l,∃ f,x=dec f∧∀ j,j<ks.length→ClOk s' (f j) (ks.getD j .i):=by
 have hlc:len≤cap:=by rcases hq with ⟨_,rfl,rfl⟩ | ⟨_,_,h,_⟩; exact Nat.le_refl _; exact h
 have hle:len*ks.length≤cap*ks.length:=Nat.mul_le_mul_right _ hlc
 obtain ⟨cl,E1,s1,h1,e1,f1,c1⟩:=Go.Vm.Arg0.cells (V:=V) (K:=fun i=>ks.getD (i%ks.length) .i) (len*ks.length) h (fun i hi=>hV i (by omega))
 have hF:∀ k,k<len→∀ j,j<ks.length→k*ks.length+j<len*ks.length:=by
  intro k hk j hj
  have:(k+1)*ks.length≤len*ks.length:=Nat.mul_le_mul_right _ hk
  rw[Nat.add_mul,Nat.one_mul] at this; omega
 have hmod:∀ k j,j<ks.length→(k*ks.length+j)%ks.length=j:=by
  intro k j hj; rw[Nat.mul_comm,Nat.mul_add_mod,Nat.mod_eq_of_lt hj]
 have hK:∀ k,k<len→∀ j,j<ks.length→ClOk s1 (cl (k*ks.length+j)) (ks.getD j .i):=by
  intro k hk j hj
  have:=(c1 _ (hF k hk j hj)).1
  rwa [hmod k j hj] at this
 have hlen:((List.range len).map fun k=>dec fun j=>cl (k*ks.length+j)).length=len:=by simp
 obtain ⟨v,E2,s2,h2,e2,f2,r2,d2⟩:=h1.rows hq hp enc hw ((List.range len).map fun k=>dec fun j=>cl (k*ks.length+j)) hlen (by
  intro i v hi
  have hil:=(List.getElem?_eq_some_iff.1 hi).1
  rw[flat_len hw,hlen] at hil
  have hj:i%ks.length<ks.length:=Nat.mod_lt _ hp
  have hk:i / ks.length<len:=by rw[Nat.div_lt_iff_lt_mul hp]; exact hil
  have hie:i / ks.length*ks.length+i%ks.length=i:=by rw[Nat.mul_comm]; exact Nat.div_add_mod i ks.length
  have hg:((List.range len).map fun k=>dec fun j=>cl (k*ks.length+j))[i / ks.length]?=some (dec fun j=>cl (i / ks.length*ks.length+j)):=by
   rw[List.getElem?_map,List.getElem?_range hk]; rfl
  have ha:=flat_at hw hg
  have hv:(enc (dec fun j=>cl (i / ks.length*ks.length+j)))[i%ks.length]?=some v:=by
   rw[←ha,List.getElem?_take,if_pos hj,List.getElem?_drop,hie]; exact hi
  rw[hd s1 _ (fun j hj=>hK _ hk j hj) _ hj,hie] at hv
  cases hv
  obtain ⟨_,q2,q3⟩:=c1 i (by omega)
  exact ⟨q2,q3⟩)
 refine ⟨v,E2,s2,_,h2,e1.trans e2,f1.trans f2 (fp2:=[]) (by simp) (by simp),r2,d2,hlen,fun x hx=>?_⟩
 obtain ⟨k,hk,rfl⟩:=List.mem_map.1 hx
 exact ⟨_,rfl,fun j hj=>(hK k (List.mem_range.1 hk) j hj).fr0 f2⟩
end Go.Proofs.YtlgbkpaihjnjpaaGreat.ctr
namespace Go.Proofs.YtlgbkpaihjnjpaaGreat.ctr
open Go.Vm Go.RowKit
theorem ClOk.i {s:St} {c:Cl} (h:ClOk s c .i):c.av=num c.z∧In64 c.z:=by
 cases c <;> first | exact ⟨rfl,h⟩ | cases h
theorem ClOk.b {s:St} {c:Cl} (h:ClOk s c .b):c.av = .bool c.x:=by
 cases c <;> first | rfl | cases h
theorem ClOk.S {s:St} {c:Cl} (h:ClOk s c .S):c.av=c.u∧RdE s c.u 1 encB c.l∧∀ x∈c.l,In8 x:=by
 cases c <;> first | exact ⟨rfl,h⟩ | cases h
theorem drop_of {α:Type} {l:List α} {i:Nat} {x:α} (h:l[i]?=some x):l.drop i=x::l.drop (i+1):=by
 obtain ⟨h1,h2⟩:=List.getElem?_eq_some_iff.1 h
 rw[List.drop_eq_getElem_cons h1,h2]
theorem Sep.cell {s0 s:St} {Ps:List Obj} (h:Sep s0 s Ps) (c0 c:List AV):Sep s0 ((s.new (.cells c0 .own)).put s.next (some (.cells c .own))) (oC s.next c::Ps) :=
 h.push (P:=oC s.next c) ⟨get_put_eq rfl,by rw[next_put,next_new]; omega,rfl⟩ (by (repeat' (first | exact Fr.refl | assumption | apply Fr.new' | apply Fr.mk' | apply Fr.put')) <;> (first | omega | (left; simp; done) | (right; simp only[next_put,next_new,next_mk]; omega) | (simp only[next_put,next_new,next_mk]; omega))) (Nw.one (Nat.le_refl _))
theorem Sep.getC {s0 s:St} {b:Nat} {c:List AV} {Ps:List Obj} (h:Sep s0 s (oC b c::Ps)):s.heap.get b=some (.cells c .own):=by
 obtain ⟨f,k,up⟩:=h.hd; exact k.1
theorem Sep.re {s0 s:St} {Ps Qs:List Obj} (h:Sep s0 s Ps) (hp:Ps.Perm Qs):Sep s0 s Qs:=h.perm hp
theorem Sep.rdW {α:Type} {s0 s:St} {v:AV} {sz:Nat} {enc:α→List AV} {l:List α} {Ps:List Obj} (h:Sep s0 s (oW v sz enc l::Ps)):RdE s v sz enc l:=by
 obtain ⟨f,k,up⟩:=h.hd; exact k.rd
theorem sv_bool (b:Bool):sameV (.bool b) (.bool b)=true:=by cases b <;> rfl
section
variable {k : Nat} {s : St} {ss : List St} {fs : List Fs} {ps : List Pend} {Q : Option AV → Nat → St → List St → List Fs → List Pend → Prop}
theorem du_mv (x:Od):DOk (drwU (.mv x) k s ss fs ps) Q=Q (some (.tup [])) k s ss fs ps:=rfl
theorem du_nilc (x:Od):DOk (drwU (.nilc x) k s ss fs ps) Q=Q (some (.tup [])) k s ss fs ps:=rfl
theorem du_fa (n:Nat) (x:Od):DOk (drwU (.fa n x) k s ss fs ps) Q=Q (some (.tup [])) k s ss fs ps:=rfl
theorem du_ld (x:Od):DOk (drwU (.ld x) k s ss fs ps) Q=Q (some (.tup [])) k s ss fs ps:=rfl
theorem du_bin (op:BinOp) (x y:Od):DOk (drwU (.bin op x y) k s ss fs ps) Q=Q (some (.tup [])) k s ss fs ps:=rfl
theorem du_un (op:UnOp) (x:Od):DOk (drwU (.un op x) k s ss fs ps) Q=Q (some (.tup [])) k s ss fs ps:=rfl
theorem du_eq (g:Bool) (e:EK) (x y:Od):DOk (drwU (.eq g e x y) k s ss fs ps) Q=Q (some (.tup [])) k s ss fs ps:=rfl
theorem du_len (x:Od):DOk (drwU (.len x) k s ss fs ps) Q=Q (some (.tup [])) k s ss fs ps:=rfl
theorem du_pick (a b e:Od):DOk (drwU (.pick a b e) k s ss fs ps) Q=Q (some (.tup [])) k s ss fs ps:=rfl
theorem du_ia (n:Nat) (x i:Od):DOk (drwU (.ia n x i) k s ss fs ps) Q=Q (some (.tup [])) k s ss fs ps:=rfl
theorem du_call (f:Od) (args:List Od):DOk (drwU (.call f args) k s ss fs ps) Q=Q (some (.tup [])) (k+1) (addM (k+1) fs s) (s::ss) fs ps:=rfl
end
set_option linter.defProp false in
def vmU:=And.intro @du_mv <| And.intro @du_nilc <| And.intro @du_fa <| And.intro @du_ld <| And.intro @du_bin <| And.intro @du_un <| And.intro @du_eq <| And.intro @du_len <| And.intro @du_pick <| And.intro @du_ia <| @du_call
end Go.Proofs.YtlgbkpaihjnjpaaGreat.ctr
namespace Go.Proofs.YtlgbkpaihjnjpaaGreat.ctr
open Go Go.Vm Go.RowKit
theorem b_shl {bd:Bd} {k k':IntKind} {a b:Int} (h:0≤b):binop bd .shl (.int k (.c a)) (.int k' (.c b))=some (.int k (.c (k.wrap (a*2^(min b.toNat k.bits))))):=by
 have e:arith .shl k (.c a) (.c b)=some (.c (k.wrap (a*2^(min b.toNat k.bits)))):=by
  show ob (cnd (decide (b<0)) none (some (k.wrap (a*2^(min b.toNat k.bits))))) (fun n=>some (AI.c n))=_
  rw[dec_f (by omega)]; rfl
 show cnd (Nat.beq (ik k) (ik k')) (ob (orA (arith .shl k (.c a) (.c b)) _) fun n=>some (AV.int k n)) (ob (orA (arith .shl k (.c a) (.c b)) _) fun n=>some (AV.int k n))=_
 rw[e]; cases Nat.beq (ik k) (ik k') <;> rfl
end Go.Proofs.YtlgbkpaihjnjpaaGreat.ctr
namespace Go.Proofs.YtlgbkpaihjnjpaaGreat.ctr
open Go.Vm Go.RowKit
section
variable {bd : Bd} {h : VF} {fu : Nat}
theorem at1 (n:Nat) (s:St) (a b c d k:Int) (q:Nat) (kq:BK) (hq:s.heap.get q=some (.cells [num k] kq)) (hl:q<s.next) :
  OutOk (callF bd (tab h).get fu (n+1) 155 [.agg [num a,num b,num c,num d],.ptr q 0] s) (fun x s'=>Is x (.bool (decide (a=k)))∧Fr s s' []):=by
 refine call_code (t155 h) rfl ?_
 simp (disch:=omega) only [vm0,vm1,vm2,vm3,vm4,vm5,vm6,vm7,vmF,vmT,evo,wr,wrC,frame,Nat.reduceAdd,Nat.reduceMul,Nat.reduceSub,beq_self_eq_true,List.cons_append,List.nil_append,beq_dec,vc155,hq]
 exact ⟨rfl,.new⟩
abbrev O:=Int×Int×Int×Int
def encO (o:O):List AV:=[num o.1,num o.2.1,num o.2.2.1,num o.2.2.2]
def fst (k:Int):List O→Int→Int
 | [],_ => -1
 | o::l,i=>if o.1=k then i else fst k l (i+1)
theorem indexFunc (n:Nat) (s:St) (v:AV) (l:List O) (k:Int) (q:Nat) (kq:BK) (hq:s.heap.get q=some (.cells [num k] kq)) (hl:q<s.next) (hv:RdE s v 4 encO l) (hlen:l.length<fu) (hf:l.length<1000000) :
  OutOk (callF bd (tab h).get fu (n+2) 154 [v,.fn 155 [] [.ptr q 0]] s) (fun x s'=>Is x (num (fst k l 0))∧Fr s s' []):=by
 refine call_code (t154 h) rfl ?_
 simp (disch:=omega) only [vm0,vm1,vm2,vm3,vm4,vm5,vm6,vm7,vmF,vmT,evo,wr,wrC,frame,Nat.reduceAdd,Nat.reduceMul,Nat.reduceSub,beq_self_eq_true,List.cons_append,List.nil_append,beq_dec,vc154,hv.lenV]
 refine x_loop (fun m F s'=>∃ i:Nat,∃ z x3 x5 x6,m=l.length-i∧i≤l.length∧z=(i:Int)∧F=[some v,some (.fn 155 [] [.ptr q 0]),some (num z),x3,some (num (l.length:Int)),x5,x6,some (num 0)]∧Fr s s' []∧fst k l 0=fst k (l.drop i) i) l.length (by omega) ?_ ?_
 ·exact ⟨0,_,_,_,_,by omega,by omega,rfl,rfl,.refl,rfl⟩
 ·rintro m F s1 ⟨i,_,x3,x5,x6,rfl,hi,rfl,rfl,hfr,hfst⟩ hm
  have hv1:=hv.fr0 hfr
  have hq1:=(hfr.get hl (by simp)).trans hq
  by_cases hlt:i<l.length
  ·obtain ⟨⟨a,b,c,d⟩,hx⟩ : ∃ x,l[i]?=some x:=⟨_,List.getElem?_eq_getElem hlt⟩
   have e1:=hv1.ia hx
   have e2:=hv1.at hx
   simp (disch:=omega) only [vm0,vm1,vm2,vm3,vm4,vm5,vm6,vm7,vmF,vmT,evo,wr,wrC,frame,Nat.reduceAdd,Nat.reduceMul,Nat.reduceSub,beq_self_eq_true,List.cons_append,List.nil_append,beq_dec,hq1,e1,e2,encO]
   refine call_ok rfl rfl (at1 n s1 a b c d k q kq hq1 (Nat.lt_of_lt_of_le hl hfr.1)) ?_
   rintro x s2 ⟨rfl,hfr2⟩
   rw[List.drop_eq_getElem_cons hlt,(List.getElem?_eq_some_iff.1 hx).2] at hfst
   by_cases hk:a=k
   ·simp (disch:=omega) only [vm0,vm1,vm2,vm3,vm4,vm5,vm6,vm7,vmF,vmT,evo,wr,wrC,frame,Nat.reduceAdd,Nat.reduceMul,Nat.reduceSub,beq_self_eq_true,List.cons_append,List.nil_append,beq_dec,hk]
    exact ⟨by show num _=num _; rw[hfst]; simp[fst,hk],hfr.tr hfr2 (by simp[Nw])⟩
   ·simp (disch:=omega) only [vm0,vm1,vm2,vm3,vm4,vm5,vm6,vm7,vmF,vmT,evo,wr,wrC,frame,Nat.reduceAdd,Nat.reduceMul,Nat.reduceSub,beq_self_eq_true,List.cons_append,List.nil_append,beq_dec,wr64]
    refine ⟨l.length-(i+1),by omega,i+1,_,_,_,_,rfl,by omega,by omega,rfl,hfr.tr hfr2 (by simp[Nw]),?_⟩
    rw[hfst]; simp[fst,hk]
  ·simp (disch:=omega) only [vm0,vm1,vm2,vm3,vm4,vm5,vm6,vm7,vmF,vmT,evo,wr,wrC,frame,Nat.reduceAdd,Nat.reduceMul,Nat.reduceSub,beq_self_eq_true,List.cons_append,List.nil_append,beq_dec]
   refine ⟨?_,hfr⟩
   rw[hfst,List.drop_eq_nil_of_le (by omega)]; rfl
def IsF (s:St) (p:Nat) (l:List O) (fp:List Nat):Prop:=∃ v fv,s.heap.get p=some (.cells [v] .own)∧OwE s v 4 encO l fv∧p∉fv∧fp=p::fv∧p<s.next
theorem IsF.fr {s s':St} {p:Nat} {l:List O} {fp fp':List Nat} (hF:IsF s p l fp) (hf:Fr s s' fp') (hd:∀ b∈fp,b∉fp'):IsF s' p l fp:=by
 obtain ⟨v,fv,h1,h2,h3,rfl,h5⟩:=hF
 exact ⟨v,fv,(hf.2 p h5 (hd p (by simp))).trans h1,h2.fr hf fun b hb=>hd b (by simp[hb]),h3,rfl,Nat.lt_of_lt_of_le h5 hf.1⟩
theorem IsF.lt {s:St} {p:Nat} {l:List O} {fp:List Nat} (hF:IsF s p l fp):Lt s fp:=by
 obtain ⟨v,fv,h1,h2,h3,rfl,h5⟩:=hF
 intro b hb
 rcases List.mem_cons.1 hb with rfl | hb
 ·exact h5
 ·exact h2.lt b hb
theorem f_at (n:Nat) (s:St) (p:Nat) (l:List O) (fp:List Nat) (k:Int) (hF:IsF s p l fp) (hlen:l.length<fu) (hf:l.length<1000000) :
  OutOk (callF bd (tab h).get fu (n+3) 137 [.ptr p 0,num k] s) (fun x s'=>Is x (num (fst k l 0))∧Fr s s' []):=by
 refine call_code (t137 h) rfl ?_
 obtain ⟨v,fv,h1,h2,h3,rfl,h5⟩:=hF
 simp (disch:=omega) only [vm0,vm1,vm2,vm3,vm4,vm5,vm6,vm7,vmF,vmT,evo,wr,wrC,frame,Nat.reduceAdd,Nat.reduceMul,Nat.reduceSub,beq_self_eq_true,List.cons_append,List.nil_append,beq_dec,vc137,h1]
 have hfr:Fr s (s.new (.cells [num k] .own)) [] := .new
 refine call_ok rfl rfl (indexFunc n _ v l k s.next .own (get_new_eq rfl) (by rw[next_new]; omega) (h2.fr0 hfr).rd hlen hf) ?_
 rintro x s2 ⟨rfl,hfr2⟩
 simp (disch:=omega) only [vm0,vm1,vm2,vm3,vm4,vm5,vm6,vm7,vmF,vmT,evo,wr,wrC,frame,Nat.reduceAdd,Nat.reduceMul,Nat.reduceSub,beq_self_eq_true,List.cons_append,List.nil_append,beq_dec]
 exact ⟨rfl,hfr.tr hfr2 (by simp[Nw])⟩
theorem f_add (n:Nat) (s:St) (p:Nat) (l:List O) (fp:List Nat) (o:O) (hF:IsF s p l fp) (hlen:l.length<fu) (hf:l.length<100000) :
  OutOk (callF bd (tab h).get fu (n+4) 148 [.ptr p 0,.agg (encO o)] s) (fun x s'=>∃ fp',Is x (.bool (decide (fst o.1 l 0<0)))∧IsF s' p (if fst o.1 l 0<0 then l++[o] else l) fp'∧Fr s s' fp∧Nw s fp fp'):=by
 refine call_code (t148 h) rfl ?_
 obtain ⟨a,b,c,d⟩:=o
 simp (disch:=omega) only [vm0,vm1,vm2,vm3,vm4,vm5,vm6,vm7,vmF,vmT,evo,wr,wrC,frame,Nat.reduceAdd,Nat.reduceMul,Nat.reduceSub,beq_self_eq_true,List.cons_append,List.nil_append,beq_dec,vc148,encO]
 have hfr:Fr s (s.new (.cells [num a,num b,num c,num d] .own)) [] := .new
 have hq:(s.new (.cells [num a,num b,num c,num d] .own)).heap.get s.next=some (.cells [num a,num b,num c,num d] .own):=get_new_eq rfl
 have hn:s.next<(s.new (.cells [num a,num b,num c,num d] .own)).next:=by rw[next_new]; omega
 generalize s.new (.cells [num a,num b,num c,num d] .own)=s1 at *
 have hF1:=hF.fr hfr (by simp)
 refine call_ok rfl rfl (f_at n s1 p l fp a hF1 hlen (by omega)) ?_
 rintro x s2 ⟨rfl,hfr2⟩
 have hfr3:=hfr.tr hfr2 (by simp[Nw])
 have hF2:=hF1.fr hfr2 (by simp)
 have hq2:=(hfr2.get hn (by simp)).trans hq
 by_cases hk:fst a l 0<0
 ·obtain ⟨v,fv,h1,h2,h3,rfl,h5⟩:=hF2
  have hlt:=h2.lt
  have hs2:s.next<s2.next:=Nat.lt_of_lt_of_le hn hfr2.1
  simp (disch:=omega) only [vm0,vm1,vm2,vm3,vm4,vm5,vm6,vm7,vmF,vmT,evo,wr,wrC,frame,Nat.reduceAdd,Nat.reduceMul,Nat.reduceSub,beq_self_eq_true,List.cons_append,List.nil_append,beq_dec,h1,hq2]
  refine op_app1 h2 (by (repeat' (first | exact Fr.refl | assumption | apply Fr.new' | apply Fr.mk' | apply Fr.put')) <;> (first | omega | (left; simp; done) | (right; simp only[next_put,next_new,next_mk]; omega) | (simp only[next_put,next_new,next_mk]; omega))) (x:=(a,b,c,d)) rfl (by omega) ?_
  intro v' s' fp' ho hf' hnw
  have h1':=(hf'.get h5 h3).trans h1
  simp (disch:=omega) only [vm0,vm1,vm2,vm3,vm4,vm5,vm6,vm7,vmF,vmT,evo,wr,wrC,frame,Nat.reduceAdd,Nat.reduceMul,Nat.reduceSub,beq_self_eq_true,List.cons_append,List.nil_append,beq_dec,h1',ho.cells]
  have hp:p∉fp':=hnw.not h3 h5
  refine ⟨p::fp',by show AV.bool _=AV.bool _; simp[hk],?_,.put' (.inl (by simp)) (hfr3.trans hf' (by simp) (fun b hb _=>by simp[hb])),hnw.cons hfr3.1⟩
  rw[if_pos hk]
  exact ⟨v',fp',get_put_eq rfl,ho.fr (fp':=[p]) (.put (.inl (by simp))) (by rintro b hb hm; simp at hm; subst hm; exact hp hb),hp,rfl,by rw[next_put]; exact Nat.lt_of_lt_of_le h5 hf'.1⟩
 ·simp (disch:=omega) only [vm0,vm1,vm2,vm3,vm4,vm5,vm6,vm7,vmF,vmT,evo,wr,wrC,frame,Nat.reduceAdd,Nat.reduceMul,Nat.reduceSub,beq_self_eq_true,List.cons_append,List.nil_append,beq_dec]
  exact ⟨fp,by show AV.bool _=AV.bool _; simp[hk],by simpa [hk] using hF2,hfr3.mono (by simp),fun b hb => .inl hb⟩
theorem delete (n:Nat) (s:St) (v:AV) (l:List O) (fp:List Nat) (i:Nat) (hO:OwE s v 4 encO l fp) (hi:i<l.length) (hf:l.length<100000) :
  OutOk (callF bd (tab h).get fu (n+1) 138 [v,num (i:Int),num ((i:Int)+1)] s) (fun x s'=>∃ fp',OwE s' x 4 encO (l.eraseIdx i) fp'∧Fr s s' fp∧Nw s fp fp'):=by
 refine call_code (t138 h) rfl ?_
 rcases hO.ow with ⟨_,h0,_⟩ | ⟨b,len,lo,ex,k,J,rfl,h2,h3,h4,h5⟩
 ·have:=flat_len hO.wid l
  rw[h0] at this
  simp at this; omega
 have hlen:len=l.length:=hO.len
 have ti:((i:Int)+1).toNat=i+1:=by omega
 have e0:sliceV 4 (.sl b 0 len lo ex 4) (some (num (i:Int))) (some (num ((i:Int)+1))) (some (num (len:Int)))=some (.sl b (0+i*4) (i+1-i) (len-i) true 4):=by
  rw[sv_m (by omega) (by omega),bnd_s (by omega),bnd_s (by omega),ob_some,ob_some,ti,Int.toNat_natCast,Int.toNat_natCast,sli_k (by omega) (by omega) (by omega)]
 have e1:sliceV 4 (.sl b 0 len lo ex 4) none (some (num (i:Int))) none=some (.sl b 0 i lo ex 4):=by
  rw[sv_s,bnd_n,bnd_s (by omega),ob_some,ob_some,Int.toNat_natCast,sli_k (by omega) (by omega) (by omega)]; simp
 obtain ⟨v2,e2,hr2⟩:=hO.rd.sliL (a:=(i:Int)+1) (by omega) (by omega)
 rw[ti] at hr2
 have hl2:=hr2.lenOf
 rw[List.length_drop] at hl2
 have hc2:=hr2.cellsOf
 rw[List.length_drop] at hc2
 simp (disch:=omega) only [vm0,vm1,vm2,vm3,vm4,vm5,vm6,vm7,vmF,vmT,evo,wr,wrC,frame,Nat.reduceAdd,Nat.reduceMul,Nat.reduceSub,beq_self_eq_true,List.cons_append,List.nil_append,beq_dec,vc138,e0,e1,e2,hl2,hc2]
 have hsp:l.flatMap encO++J=(l.take i).flatMap encO++((l.drop i).flatMap encO++J):=by rw[←List.append_assoc,←List.flatMap_append,List.take_append_drop]
 rw[hsp] at h4
 have hw:=hO.wid
 have f1:((l.take i).flatMap encO).length=i*4:=by rw[flat_len hw]; simp; omega
 have f2:((l.drop (i+1)).flatMap encO).length=(l.length-(i+1))*4:=by rw[flat_len hw]; simp
 obtain ⟨s1,k1,fp1,a1,a2,a3,a4,a5,a6⟩:=app_room (s:=s) (lo:=lo) (ex:=ex) f1 h4 h5 (new:=(l.drop (i+1)).flatMap encO) f2 (by omega)
 rw[a1]
 have hnew:(l.take i).flatMap encO++(l.drop (i+1)).flatMap encO=(l.eraseIdx i).flatMap encO:=by rw[←List.flatMap_append,List.eraseIdx_eq_take_drop_succ]
 have e3:i+(l.length-(i+1))=len-1:=by omega
 have e4:sliceV 4 (.sl b 0 (len-1) lo ex 4) (some (num ((len-1:Nat):Int))) (some (num (len:Int))) none=some (.sl b (0+(len-1)*4) (len-(len-1)) (lo-(len-1)) ex 4):=by
  rw[sv_s,bnd_s (by omega),bnd_s (by omega),ob_some,ob_some,Int.toNat_natCast,Int.toNat_natCast,sli_k (by omega) (by omega) (by omega)]
 have e5:len-(len-1)=1:=by omega
 rw[hnew] at a3
 have f3:((l.eraseIdx i).flatMap encO).length=(len-1)*4:=by rw[flat_len hw,List.length_eraseIdx_of_lt hi]; congr 1; omega
 have f4:((l.drop i).flatMap encO++J).length≥(len-i)*4:=by rw[List.length_append,flat_len hw]; simp; omega
 obtain ⟨s2,w1,w2,w3,w4⟩:=wr_in (i:=(len-1)*4) a3 a4 (ys:=[num 0,num 0,num 0,num 0]) (by
  rw[List.length_append,f3,List.length_drop,f2]
  simp only[List.length_cons,List.length_nil]; omega)
 simp (disch:=omega) only [vm0,vm1,vm2,vm3,vm4,vm5,vm6,vm7,vmF,vmT,evo,frame,Nat.reduceAdd,Nat.reduceMul,Nat.reduceSub,beq_self_eq_true,List.cons_append,List.nil_append,beq_dec,e3,e4,fClr,e5,rep,List.append_nil,w1]
 refine ⟨[b],?_,?_,fun x hx => .inl (by simp at hx; subst hx; exact a6 x (by rcases a4 with ⟨_,rfl⟩ | ⟨m,_,_,rfl⟩ <;> simp))⟩
 ·rw[List.append_assoc,List.take_left' f3] at w3
  exact ⟨.inr ⟨b,len-1,lo,ex,.own,_,rfl,by omega,f3,w3,.inl ⟨rfl,rfl⟩⟩,hw,by omega,fun x hx=>by
   simp at hx; subst hx; rw[w2,a2]
   exact hO.lt x (a6 x (by rcases a4 with ⟨_,rfl⟩ | ⟨m,_,_,rfl⟩ <;> simp))⟩
 ·exact (show Fr s s1 fp from ⟨by rw[a2]; exact Nat.le_refl _,a5.2⟩).trans w4 (fun _ h _=>h) (fun b hb _=>a6 b hb)
end
theorem fst_cases (k:Int):∀ (l:List O) (i:Int),0≤i→fst k l i = -1∨(i≤fst k l i∧fst k l i<i+l.length):=by
 intro l
 induction l with
 | nil=>intro i _; exact .inl rfl
 | cons o l ih =>
  intro i hi
  unfold fst
  split
  ·right; simp; omega
  ·rcases ih (i+1) (by omega) with h | h
   ·exact .inl h
   ·right; simp; omega
def o0:O:=(0,0,0,0)
def ixO (k:Int) (l:List O):Nat:=(fst k l 0).toNat
section
variable {bd : Bd} {h : VF} {fu : Nat}
theorem f_take (n:Nat) (s:St) (p:Nat) (l:List O) (fp:List Nat) (k:Int) (hF:IsF s p l fp) (hlen:l.length<fu) (hf:l.length<100000) :
  OutOk (callF bd (tab h).get fu (n+4) 101 [.ptr p 0,num k] s) (fun x s'=>∃ fp',(if fst k l 0<0 then x = .tup [.agg (encO o0),.bool false] else x = .tup [.agg (encO (l.getD (ixO k l) o0)),.bool true])∧IsF s' p (if fst k l 0<0 then l else l.eraseIdx (ixO k l)) fp'∧Fr s s' fp∧Nw s fp fp'):=by
 refine call_code (t101 h) rfl ?_
 simp (disch:=omega) only [vm0,vm1,vm2,vm3,vm4,vm5,vm6,vm7,vmF,vmT,evo,wr,wrC,frame,Nat.reduceAdd,Nat.reduceMul,Nat.reduceSub,beq_self_eq_true,List.cons_append,List.nil_append,beq_dec,vc101]
 have hfr:Fr s (s.new (.cells [num 0,num 0,num 0,num 0] .own)) [] := .new
 have hq:(s.new (.cells [num 0,num 0,num 0,num 0] .own)).heap.get s.next=some (.cells [num 0,num 0,num 0,num 0] .own):=get_new_eq rfl
 have hn:s.next<(s.new (.cells [num 0,num 0,num 0,num 0] .own)).next:=by rw[next_new]; omega
 generalize s.new (.cells [num 0,num 0,num 0,num 0] .own)=s1 at *
 have hF1:=hF.fr hfr (by simp)
 refine call_ok rfl rfl (f_at n s1 p l fp k hF1 hlen (by omega)) ?_
 rintro x s2 ⟨rfl,hfr2⟩
 have hfr3:=hfr.tr hfr2 (by simp[Nw])
 have hF2:=hF1.fr hfr2 (by simp)
 have hq2:=(hfr2.get hn (by simp)).trans hq
 have hs2:s.next<s2.next:=Nat.lt_of_lt_of_le hn hfr2.1
 by_cases hk:fst k l 0<0
 ·simp (disch:=omega) only [vm0,vm1,vm2,vm3,vm4,vm5,vm6,vm7,vmF,vmT,evo,wr,wrC,frame,Nat.reduceAdd,Nat.reduceMul,Nat.reduceSub,beq_self_eq_true,List.cons_append,List.nil_append,beq_dec,hq2]
  refine ⟨fp,by simp[hk,one,encO,o0],?_,.put' (.inr (Nat.le_refl _)) (hfr3.mono (by simp)),fun b hb => .inl hb⟩
  have hl:=hF.lt
  rw[if_pos hk]
  refine hF2.fr (fp':=[s.next]) (.put (.inl (by simp))) ?_
  intro b hb hm
  have:=hl b hb
  simp at hm; omega
 ·have hi:ixO k l<l.length∧fst k l 0=(ixO k l:Int):=by
   unfold ixO
   rcases fst_cases k l 0 (by omega) with h | h <;> omega
  obtain ⟨hi,hfi⟩:=hi
  simp only[hk,if_false]
  rw[hfi]
  obtain ⟨v,fv,h1,h2,h3,rfl,h5⟩:=hF2
  have hlt:=h2.lt
  obtain ⟨⟨a,b,c,d⟩,hx⟩ : ∃ x,l[ixO k l]?=some x:=⟨_,List.getElem?_eq_getElem hi⟩
  have hpn:p<s.next:=hF.lt p (by simp)
  have e1:=h2.rd.ia hx
  have e2:=h2.rd.at hx
  have hb:=h2.rd.blk' hx
  generalize hj:ixO k l=j at *
  simp (disch:=omega) only [vm0,vm1,vm2,vm3,vm4,vm5,vm6,vm7,vmF,vmT,evo,wr,wrC,frame,Nat.reduceAdd,Nat.reduceMul,Nat.reduceSub,beq_self_eq_true,List.cons_append,List.nil_append,beq_dec,h1,e1,e2,encO,wr64]
  have hfa:Fr s2 ((s2.new (.cells [num 0,num 0,num 0,num 0] .own)).put s2.next (some (.cells [num a,num b,num c,num d] .own))) []:=(by (repeat' (first | exact Fr.refl | assumption | apply Fr.new' | apply Fr.mk' | apply Fr.put')) <;> (first | omega | (left; simp; done) | (right; simp only[next_put,next_new,next_mk]; omega) | (simp only[next_put,next_new,next_mk]; omega)))
  have hg:((s2.new (.cells [num 0,num 0,num 0,num 0] .own)).put s2.next (some (.cells [num a,num b,num c,num d] .own))).heap.get s2.next=some (.cells [num a,num b,num c,num d] .own):=get_put_eq rfl
  have hgn:s2.next<((s2.new (.cells [num 0,num 0,num 0,num 0] .own)).put s2.next (some (.cells [num a,num b,num c,num d] .own))).next:=by rw[next_put,next_new]; omega
  generalize (s2.new (.cells [num 0,num 0,num 0,num 0] .own)).put s2.next (some (.cells [num a,num b,num c,num d] .own))=s3 at *
  have hO3:=h2.fr0 hfa
  refine call_ok rfl rfl (delete (n+2) s3 v l fv j hO3 hi hf) ?_
  rintro x s4 ⟨fp',hO4,hf4,hnw⟩
  have hp4:=(hf4.get (Nat.lt_of_lt_of_le h5 hfa.1) h3).trans ((hfa.get h5 (by simp)).trans h1)
  have hn2:s2.next∉fv:=fun hm=>by have:=hlt _ hm; omega
  have hn1:s.next∉fv:=fun hm=>by have:=hF.lt s.next (by simp[hm]); omega
  have hg4:=(hf4.get hgn hn2).trans hg
  have hq4:=(hf4.get (Nat.lt_of_lt_of_le hs2 hfa.1) hn1).trans ((hfa.get hs2 (by simp)).trans hq2)
  simp (disch:=omega) only [vm0,vm1,vm2,vm3,vm4,vm5,vm6,vm7,vmF,vmT,evo,wr,wrC,frame,Nat.reduceAdd,Nat.reduceMul,Nat.reduceSub,beq_self_eq_true,List.cons_append,List.nil_append,beq_dec,hp4,hO4.cells,hg4,hq4]
  have hp':p∉fp':=hnw.not h3 (Nat.lt_of_lt_of_le h5 hfa.1)
  have hq':s.next∉fp':=hnw.not hn1 (Nat.lt_of_lt_of_le hs2 hfa.1)
  refine ⟨p::fp',?_,⟨x,fp',?_,?_,hp',rfl,?_⟩,?_,?_⟩
  ·simp[one,hx,List.getD,encO]
  ·rw[get_put_ne (by omega),get_put_eq rfl]
  ·refine hO4.fr (fp':=[p,s.next]) (.put' (.inl (by simp)) (.put (.inl (by simp)))) ?_
   intro z hz hm
   simp at hm
   rcases hm with rfl | rfl
   ·exact hp' hz
   ·exact hq' hz
  ·rw[next_put,next_put]; exact Nat.lt_of_lt_of_le h5 (Nat.le_trans hfa.1 hf4.1)
  ·refine .put' (.inr (Nat.le_refl _)) (.put' (.inl (by simp)) ?_)
   exact (hfr3.trans hfa (fp2:=[]) (by simp) (by simp)).trans hf4 (by simp) (fun b hb _=>by simp[hb])
  ·exact hnw.cons (Nat.le_trans hfr3.1 hfa.1)
theorem f_len_ (n:Nat) (s:St) (p:Nat) (l:List O) (fp:List Nat) (hF:IsF s p l fp):OutOk (callF bd (tab h).get fu (n+1) 113 [.ptr p 0] s) (fun x s'=>Is x (num (l.length:Int))∧Is s' s):=by
 refine call_code (t113 h) rfl ?_
 obtain ⟨v,fv,h1,h2,h3,rfl,h5⟩:=hF
 simp (disch:=omega) only [vm0,vm1,vm2,vm3,vm4,vm5,vm6,vm7,vmF,vmT,evo,wr,wrC,frame,Nat.reduceAdd,Nat.reduceMul,Nat.reduceSub,beq_self_eq_true,List.cons_append,List.nil_append,beq_dec,vc113,h1,h2.rd.lenV]
 exact ⟨rfl,rfl⟩
def lateO (now wait:Int) (o:O):Bool:=decide (o.2.2.2≤now-wait)
theorem old (n:Nat) (s:St) (o:O) (now wait:Int) (h1:-1000000000000≤now) (h2:now≤1000000000000) (h3:-1000000000000≤wait) (h4:wait≤1000000000000) :
  OutOk (callF bd (tab h).get fu (n+1) 129 [.agg (encO o),num now,num wait] s) (fun x s'=>Is x (.bool (lateO now wait o))∧Fr s s' []):=by
 refine call_code (t129 h) rfl ?_
 obtain ⟨a,b,c,d⟩:=o
 rcases Int.lt_trichotomy wait 0 with hw | rfl | hw
 ·simp (disch:=omega) only [vm0,vm1,vm2,vm3,vm4,vm5,vm6,vm7,vmF,vmT,evo,wr,wrC,frame,Nat.reduceAdd,Nat.reduceMul,Nat.reduceSub,beq_self_eq_true,List.cons_append,List.nil_append,beq_dec,vc129,encO,wr64]
  exact ⟨rfl,(by (repeat' (first | exact Fr.refl | assumption | apply Fr.new' | apply Fr.mk' | apply Fr.put')) <;> (first | omega | (left; simp; done) | (right; simp only[next_put,next_new,next_mk]; omega) | (simp only[next_put,next_new,next_mk]; omega)))⟩
 ·simp (disch:=omega) only [vm0,vm1,vm2,vm3,vm4,vm5,vm6,vm7,vmF,vmT,evo,wr,wrC,frame,Nat.reduceAdd,Nat.reduceMul,Nat.reduceSub,beq_self_eq_true,List.cons_append,List.nil_append,beq_dec,vc129,encO,wr64]
  exact ⟨rfl,(by (repeat' (first | exact Fr.refl | assumption | apply Fr.new' | apply Fr.mk' | apply Fr.put')) <;> (first | omega | (left; simp; done) | (right; simp only[next_put,next_new,next_mk]; omega) | (simp only[next_put,next_new,next_mk]; omega)))⟩
 ·simp (disch:=omega) only [vm0,vm1,vm2,vm3,vm4,vm5,vm6,vm7,vmF,vmT,evo,wr,wrC,frame,Nat.reduceAdd,Nat.reduceMul,Nat.reduceSub,beq_self_eq_true,List.cons_append,List.nil_append,beq_dec,vc129,encO,wr64]
  exact ⟨rfl,(by (repeat' (first | exact Fr.refl | assumption | apply Fr.new' | apply Fr.mk' | apply Fr.put')) <;> (first | omega | (left; simp; done) | (right; simp only[next_put,next_new,next_mk]; omega) | (simp only[next_put,next_new,next_mk]; omega)))⟩
theorem cloneO (n:Nat) (s:St) (v:AV) (l:List O) (hv:RdE s v 4 encO l) (hf:l.length<1000000) :
  OutOk (callF bd (tab h).get fu (n+1) 141 [v] s) (fun x s'=>∃ fp,OwE s' x 4 encO l fp∧Fr s s' []∧Nw s [] fp∧(v = .nils→Is x .nils)∧(v ≠ .nils→x ≠ .nils)) :=
 clone_ok (t141 h) (by omega) n s v l hv hf
theorem f_all (n:Nat) (s:St) (p:Nat) (l:List O) (fp:List Nat) (hF:IsF s p l fp) (hf:l.length<1000000) :
  OutOk (callF bd (tab h).get fu (n+2) 114 [.ptr p 0] s) (fun x s'=>∃ fp',OwE s' x 4 encO l fp'∧Fr s s' []∧Nw s [] fp'):=by
 refine call_code (t114 h) rfl ?_
 obtain ⟨v,fv,h1,h2,h3,rfl,h5⟩:=hF
 simp (disch:=omega) only [vm0,vm1,vm2,vm3,vm4,vm5,vm6,vm7,vmF,vmT,evo,wr,wrC,frame,Nat.reduceAdd,Nat.reduceMul,Nat.reduceSub,beq_self_eq_true,List.cons_append,List.nil_append,beq_dec,vc114,h1]
 refine call_ok rfl rfl (cloneO n s v l h2.rd hf) ?_
 rintro x s' ⟨fp',g1,g2,g3,_⟩
 simp (disch:=omega) only [vm0,vm1,vm2,vm3,vm4,vm5,vm6,vm7,vmF,vmT,evo,wr,wrC,frame,Nat.reduceAdd,Nat.reduceMul,Nat.reduceSub,beq_self_eq_true,List.cons_append,List.nil_append,beq_dec]
 exact ⟨fp',g1,g2,g3⟩
theorem f_drop (n:Nat) (s:St) (p:Nat) (l:List O) (fp:List Nat) (hF:IsF s p l fp) :
  OutOk (callF bd (tab h).get fu (n+1) 104 [.ptr p 0] s) (fun x s'=>∃ fv,OwE s' x 4 encO l fv∧IsF s' p [] [p]∧Fr s s' fp∧fp=p::fv∧p∉fv):=by
 refine call_code (t104 h) rfl ?_
 obtain ⟨v,fv,h1,h2,h3,rfl,h5⟩:=hF
 simp (disch:=omega) only [vm0,vm1,vm2,vm3,vm4,vm5,vm6,vm7,vmF,vmT,evo,wr,wrC,frame,Nat.reduceAdd,Nat.reduceMul,Nat.reduceSub,beq_self_eq_true,List.cons_append,List.nil_append,beq_dec,vc104,h1]
 exact ⟨fv,h2.fr (fp':=[p]) (.put (.inl (by simp))) (by rintro b hb hm; simp at hm; subst hm; exact h3 hb),⟨.nils,[],get_put_eq rfl,.nil (by intro x; rfl) (by omega),by simp,rfl,by rw[next_put]; exact h5⟩,.put (.inl (by simp)),rfl,h3⟩
theorem f_late (n:Nat) (s:St) (p:Nat) (l:List O) (fp:List Nat) (now wait:Int) (hF:IsF s p l fp) (hlen:l.length<fu) (hf:l.length<100000) (b1:-1000000000000≤now) (b2:now≤1000000000000) (b3:-1000000000000≤wait) (b4:wait≤1000000000000) :
  OutOk (callF bd (tab h).get fu (n+2) 85 [.ptr p 0,num now,num wait] s) (fun x s'=>∃ fl fr,OwE s' x 4 encO (l.filter (lateO now wait)) fl∧IsF s' p (l.filter (fun o=>!lateO now wait o)) fr∧Fr s s' [p]∧Nw s [] fl∧Nw s [p] fr∧(∀ b∈fl,b∉fr)):=by
 refine call_code (t85 h) rfl ?_
 obtain ⟨v,fv,h1,h2,h3,rfl,h5⟩:=hF
 simp (disch:=omega) only [vm0,vm1,vm2,vm3,vm4,vm5,vm6,vm7,vmF,vmT,evo,wr,wrC,frame,Nat.reduceAdd,Nat.reduceMul,Nat.reduceSub,beq_self_eq_true,List.cons_append,List.nil_append,beq_dec,vc85,h1,h2.rd.lenV]
 refine x_loop (fun m F s'=>∃ i:Nat,∃ z x4 x8 x10 vl vr fl fr,m=l.length-i∧i≤l.length∧z=(i:Int)∧F=[some (.ptr p 0),some (num now),some (num wait),some (num z),x4,some vl,some vr,some (num (l.length:Int)),x8,some v,x10,some .nils]∧Fr s s' [] ∧
  OwE s' vl 4 encO ((l.take i).filter (lateO now wait)) fl∧OwE s' vr 4 encO ((l.take i).filter (fun o=>!lateO now wait o)) fr∧Nw s [] fl∧Nw s [] fr∧(∀ b∈fl,b∉fr)) l.length (by omega) ?_ ?_
 ·exact ⟨0,_,_,_,_,_,_,[],[],by omega,by omega,rfl,rfl,.refl,.nil (by intro x; rfl) (by omega),.nil (by intro x; rfl) (by omega),by simp[Nw],by simp[Nw],by simp⟩
 ·rintro m F s1 ⟨i,_,x4,x8,x10,vl,vr,fl,fr,rfl,hi,rfl,rfl,hfr,ol,or_,nl,nr,hd⟩ hm
  have hv1:=h2.fr0 hfr
  have hnx:=hfr.1
  by_cases hlt:i<l.length
  ·obtain ⟨⟨a,b,c,d⟩,hx⟩ : ∃ x,l[i]?=some x:=⟨_,List.getElem?_eq_getElem hlt⟩
   have e1:=hv1.rd.ia hx
   have e2:=hv1.rd.at hx
   have hbl:=hv1.rd.blk' hx
   have ht:l.take (i+1)=l.take i++[(a,b,c,d)]:=by rw[List.take_add_one,hx]; rfl
   have hll:((l.take i).filter (lateO now wait)).length≤i:=Nat.le_trans (List.length_filter_le _ _) (by simp; omega)
   have hlr:((l.take i).filter (fun o=>!lateO now wait o)).length≤i:=Nat.le_trans (List.length_filter_le _ _) (by simp; omega)
   simp (disch:=omega) only [vm0,vm1,vm2,vm3,vm4,vm5,vm6,vm7,vmF,vmT,evo,wr,wrC,frame,Nat.reduceAdd,Nat.reduceMul,Nat.reduceSub,beq_self_eq_true,List.cons_append,List.nil_append,beq_dec,e1,e2,encO,wr64]
   have hfa:Fr s1 ((s1.new (.cells [num 0,num 0,num 0,num 0] .own)).put s1.next (some (.cells [num a,num b,num c,num d] .own))) []:=(by (repeat' (first | exact Fr.refl | assumption | apply Fr.new' | apply Fr.mk' | apply Fr.put')) <;> (first | omega | (left; simp; done) | (right; simp only[next_put,next_new,next_mk]; omega) | (simp only[next_put,next_new,next_mk]; omega)))
   have hg:((s1.new (.cells [num 0,num 0,num 0,num 0] .own)).put s1.next (some (.cells [num a,num b,num c,num d] .own))).heap.get s1.next=some (.cells [num a,num b,num c,num d] .own):=get_put_eq rfl
   have hgn:s1.next<((s1.new (.cells [num 0,num 0,num 0,num 0] .own)).put s1.next (some (.cells [num a,num b,num c,num d] .own))).next:=by rw[next_put,next_new]; omega
   generalize (s1.new (.cells [num 0,num 0,num 0,num 0] .own)).put s1.next (some (.cells [num a,num b,num c,num d] .own))=s2 at *
   refine call_ok rfl rfl (old n s2 (a,b,c,d) now wait b1 b2 b3 b4) ?_
   rintro x s3 ⟨rfl,hfr3⟩
   have hfb:=hfa.trans hfr3 (fp2:=[]) (by simp) (by simp)
   have hq3:=(hfr3.get hgn (by simp)).trans hg
   have ol3:=ol.fr0 hfb
   have or3:=or_.fr0 hfb
   cases hlate:lateO now wait (a,b,c,d)
   ·simp (disch:=omega) only [vm0,vm1,vm2,vm3,vm4,vm5,vm6,vm7,vmF,vmT,evo,wr,wrC,frame,Nat.reduceAdd,Nat.reduceMul,Nat.reduceSub,beq_self_eq_true,List.cons_append,List.nil_append,beq_dec,hq3]
    refine op_app1 or3 (by (repeat' (first | exact Fr.refl | assumption | apply Fr.new' | apply Fr.mk' | apply Fr.put')) <;> (first | omega | (left; simp; done) | (right; simp only[next_put,next_new,next_mk]; omega) | (simp only[next_put,next_new,next_mk]; omega))) (x:=(a,b,c,d)) rfl (by omega) ?_
    intro v' s4 fr' ho hf4 hnw
    simp (disch:=omega) only [vm0,vm1,vm2,vm3,vm4,vm5,vm6,vm7,vmF,vmT,evo,wr,wrC,frame,Nat.reduceAdd,Nat.reduceMul,Nat.reduceSub,beq_self_eq_true,List.cons_append,List.nil_append,beq_dec,wr64]
    refine ⟨l.length-(i+1),by omega,i+1,_,_,_,_,_,_,fl,fr',rfl,by omega,by omega,rfl,?_,?_,?_,nl,?_,?_⟩
    ·exact (hfr.trans hfb (fp2:=[]) (by simp) (by simp)).trans hf4 (by simp) (fun b hb hl=>by have:=nr b hb; simp at this; omega)
    ·rw[ht,List.filter_append]; simp only[List.filter_cons,List.filter_nil,hlate]; simpa using ol3.fr hf4 hd
    ·rw[ht,List.filter_append]; simp only[List.filter_cons,List.filter_nil,hlate]; simpa using ho
    ·intro b hb
     rcases hnw b hb with h | h
     ·exact nr b h
     ·exact .inr (Nat.le_trans hfr.1 (Nat.le_trans hfb.1 h))
    ·intro b hb hb'
     rcases hnw b hb' with h | h
     ·exact hd b hb h
     ·have:=ol.lt b hb; have:=hfb.1; omega
   ·simp (disch:=omega) only [vm0,vm1,vm2,vm3,vm4,vm5,vm6,vm7,vmF,vmT,evo,wr,wrC,frame,Nat.reduceAdd,Nat.reduceMul,Nat.reduceSub,beq_self_eq_true,List.cons_append,List.nil_append,beq_dec,hq3]
    refine op_app1 ol3 (by (repeat' (first | exact Fr.refl | assumption | apply Fr.new' | apply Fr.mk' | apply Fr.put')) <;> (first | omega | (left; simp; done) | (right; simp only[next_put,next_new,next_mk]; omega) | (simp only[next_put,next_new,next_mk]; omega))) (x:=(a,b,c,d)) rfl (by omega) ?_
    intro v' s4 fl' ho hf4 hnw
    simp (disch:=omega) only [vm0,vm1,vm2,vm3,vm4,vm5,vm6,vm7,vmF,vmT,evo,wr,wrC,frame,Nat.reduceAdd,Nat.reduceMul,Nat.reduceSub,beq_self_eq_true,List.cons_append,List.nil_append,beq_dec,wr64]
    refine ⟨l.length-(i+1),by omega,i+1,_,_,_,_,_,_,fl',fr,rfl,by omega,by omega,rfl,?_,?_,?_,?_,nr,?_⟩
    ·exact (hfr.trans hfb (fp2:=[]) (by simp) (by simp)).trans hf4 (by simp) (fun b hb hl=>by have:=nl b hb; simp at this; omega)
    ·rw[ht,List.filter_append]; simp only[List.filter_cons,List.filter_nil,hlate]; simpa using ho
    ·rw[ht,List.filter_append]; simp only[List.filter_cons,List.filter_nil,hlate]; simpa using or3.fr hf4 (fun b hb hb'=>hd b hb' hb)
    ·intro b hb
     rcases hnw b hb with h | h
     ·exact nl b h
     ·exact .inr (Nat.le_trans hfr.1 (Nat.le_trans hfb.1 h))
    ·intro b hb hb'
     rcases hnw b hb with h | h
     ·exact hd b h hb'
     ·have:=or_.lt b hb'; have:=hfb.1; omega
  ·have hp1:=(hfr.get h5 (by simp)).trans h1
   simp (disch:=omega) only [vm0,vm1,vm2,vm3,vm4,vm5,vm6,vm7,vmF,vmT,evo,wr,wrC,frame,Nat.reduceAdd,Nat.reduceMul,Nat.reduceSub,beq_self_eq_true,List.cons_append,List.nil_append,beq_dec,hp1,or_.cells]
   have htk:l.take i=l:=List.take_of_length_le (by omega)
   rw[htk] at ol or_
   have hpl:p∉fl:=fun hm=>by have:=nl p hm; simp at this; omega
   have hpr:p∉fr:=fun hm=>by have:=nr p hm; simp at this; omega
   refine ⟨fl,p::fr,ol.fr (fp':=[p]) (.put (.inl (by simp))) (by rintro b hb hm; simp at hm; subst hm; exact hpl hb),⟨vr,fr,get_put_eq rfl,or_.fr (fp':=[p]) (.put (.inl (by simp))) (by rintro b hb hm; simp at hm; subst hm; exact hpr hb),hpr,rfl,by rw[next_put]; omega⟩,.put' (.inl (by simp)) (hfr.mono (by simp)),nl,?_,?_⟩
   ·intro b hb
    rcases List.mem_cons.1 hb with rfl | hb
    ·simp
    ·have:=nr b hb; simp at this; exact .inr this
   ·intro b hb hm
    rcases List.mem_cons.1 hm with rfl | hm
    ·exact hpl hb
    ·exact hd b hb hm
end
end Go.Proofs.YtlgbkpaihjnjpaaGreat.ctr
namespace Go.Proofs.YtlgbkpaihjnjpaaGreat.ctr
open Go Go.Vm Go.RowKit
theorem Sep.setC {s0 s:St} {b:Nat} {c:List AV} {Ps:List Obj} (h:Sep s0 s (oC b c::Ps)) (c':List AV):Sep s0 (s.put b (some (.cells c' .own))) (oC b c'::Ps):=by
 obtain ⟨f,⟨h1,h2,rfl⟩,up⟩:=h.hd
 exact up (oC b c') ⟨get_put_eq rfl,by rw[next_put]; exact h2,rfl⟩ (.put (.inl (by simp))) (fun z hz => .inl hz)
structure GS where
 fi:Int
 me:Int
 sp:Int
 la:Int
 kn:Bool
structure GS.Ok (g:GS):Prop where
 fi:1≤g.fi∧g.fi≤64
 me:0≤g.me∧g.me≤1048576
 sp:0≤g.sp∧g.sp≤1048576
 la:0≤g.la∧g.la≤6
def GS.cs (g:GS):List AV:=[num g.fi,num g.me,num g.sp,num g.la,.bool g.kn]
def GS.sample (g:GS) (n:Int):GS :=
 if g.kn then { g with la:=0,sp:=(3*g.sp+max (g.me-min (max n 0) 1048576) (min (max n 0) 1048576-g.me)) / 4,me:=(7*g.me+min (max n 0) 1048576) / 8 }
 else { g with la:=0,kn:=true,me:=min (max n 0) 1048576,sp:=min (max n 0) 1048576 / 2 }
def GS.late (g:GS):GS:={ g with la:=min (g.la+1) 6 }
def GS.wait0 (g:GS):Int:=if g.kn then min (max (g.me+max 1 (4*g.sp)) 1) 64 else g.fi
def GS.wait (g:GS):Int:=min (g.wait0*2^g.la.toNat) 64
theorem GS.Ok.sample {g:GS} (h:g.Ok) (n:Int):(g.sample n).Ok:=by
 obtain ⟨h1,h2,h3,h4⟩:=h
 unfold GS.sample
 split
 ·exact ⟨h1,⟨by dsimp only; omega,by dsimp only; omega⟩,⟨by dsimp only; omega,by dsimp only; omega⟩,⟨by dsimp only; omega,by dsimp only; omega⟩⟩
 ·exact ⟨h1,⟨by dsimp only; omega,by dsimp only; omega⟩,⟨by dsimp only; omega,by dsimp only; omega⟩,⟨by dsimp only; omega,by dsimp only; omega⟩⟩
theorem GS.Ok.late {g:GS} (h:g.Ok):g.late.Ok:=⟨h.fi,h.me,h.sp,by have:=h.la; show 0≤min (g.la+1) 6∧min (g.la+1) 6≤6; omega⟩
theorem GS.Ok.wait0 {g:GS} (h:g.Ok):1≤g.wait0∧g.wait0≤64:=by
 have:=h.fi
 unfold GS.wait0
 split <;> omega
theorem GS.Ok.wait {g:GS} (h:g.Ok):1≤g.wait∧g.wait≤64:=by
 have h0:=h.wait0
 obtain ⟨l0,l1⟩:=h.la
 unfold GS.wait
 obtain e | e | e | e | e | e | e:g.la.toNat=0∨g.la.toNat=1∨g.la.toNat=2∨g.la.toNat=3∨g.la.toNat=4∨g.la.toNat=5∨g.la.toNat=6:=by omega
 all_goals rw[e]; simp only[Int.reducePow]; omega
structure WS where
 mo:Int
 si:Int
 tu:Int
 co:Int
structure WS.Ok (w:WS):Prop where
 mo:1≤w.mo∧w.mo≤16
 si:1≤w.si∧w.si≤16
 tu:1≤w.tu∧w.tu≤16
 co:0≤w.co∧w.co≤16
 c0:w.si<w.tu→w.co=0
def WS.cs (w:WS):List AV:=[num w.mo,num w.si,num w.tu,num w.co]
def WS.ack (w:WS):WS:=if w.si<w.tu then { w with si:=min (w.si+1) w.mo,co:=0 } else if w.si≤w.co+1 then { w with si:=min (w.si+1) w.mo,co:=0 } else { w with co:=w.co+1 }
def WS.loss (w:WS):WS:={ w with tu:=max (w.si / 2) 1,si:=max (w.si / 2) 1,co:=0 }
theorem WS.Ok.ack {w:WS} (h:w.Ok):w.ack.Ok:=by
 obtain ⟨h1,h2,h3,h4,h5⟩:=h
 unfold WS.ack
 split
 ·exact ⟨h1,by dsimp only; omega,h3,by dsimp only; omega,fun _=>rfl⟩
 ·split
  ·exact ⟨h1,by dsimp only; omega,h3,by dsimp only; omega,fun _=>rfl⟩
  ·exact ⟨h1,h2,h3,by dsimp only; omega,by dsimp only; omega⟩
theorem WS.Ok.loss {w:WS} (h:w.Ok):w.loss.Ok:=by
 obtain ⟨h1,h2,h3,h4,h5⟩:=h
 exact ⟨h1,by simp only[WS.loss]; omega,by simp only[WS.loss]; omega,by simp only[WS.loss]; omega,fun _=>rfl⟩
section
variable {bd : Bd} {h : VF} {fu : Nat}
theorem g_within (n:Nat) (s:St) (a b c:Int):OutOk (callF bd (tab h).get fu (n+1) 115 [num a,num b,num c] s) (fun x s'=>Is x (num (min (max a b) c))∧Is s' s):=by
 refine call_code (t115 h) rfl ?_
 simp (disch:=omega) only [vm0,vm1,vm2,vm3,vm4,vm5,vm6,vm7,vmF,vmT,evo,wr,wrC,frame,Nat.reduceAdd,Nat.reduceMul,Nat.reduceSub,beq_self_eq_true,List.cons_append,List.nil_append,beq_dec,vmI,vc115]
 exact ⟨rfl,rfl⟩
theorem g_sample (n:Nat) {s0:St} (s:St) (p:Nat) (g:GS) (k:Int) (Ps:List Obj) (hS:Sep s0 s (oC p g.cs::Ps)) (hg:g.Ok):OutOk (callF bd (tab h).get fu (n+2) 102 [.ptr p 0,num k] s) (fun x s'=>Sep s0 s' (oC p (g.sample k).cs::Ps)):=by
 refine call_code (t102 h) rfl ?_
 obtain ⟨fi,me,sp,la,kn⟩:=g
 obtain ⟨h1,h2,h3,h4⟩:=hg
 dsimp only[GS.cs] at *
 have g1:=hS.getC
 simp (disch:=omega) only [vm0,vm1,vm2,vm3,vm4,vm5,vm6,vm7,vmF,vmT,evo,wr,wrC,frame,Nat.reduceAdd,Nat.reduceMul,Nat.reduceSub,beq_self_eq_true,List.cons_append,List.nil_append,beq_dec,vmI,vc102]
 refine call_ok rfl rfl (g_within n s k 0 1048576) ?_
 rintro y s ⟨rfl,rfl⟩
 have h20:(2:Int)≠0:=by decide
 have h40:(4:Int)≠0:=by decide
 have h80:(8:Int)≠0:=by decide
 unfold GS.sample
 dsimp only
 obtain ⟨q,hq⟩ : ∃ q,min (max k 0) 1048576=q:=⟨_,rfl⟩
 have hq2:0≤q∧q≤1048576:=by omega
 rw[hq]
 cases kn
 ·have e1:q.tdiv 2=q / 2:=Int.tdiv_eq_ediv_of_nonneg hq2.1
  simp (disch:=omega) only [vm0,vm1,vm2,vm3,vm4,vm5,vm6,vm7,vmF,vmT,evo,wr,wrC,frame,Nat.reduceAdd,Nat.reduceMul,Nat.reduceSub,beq_self_eq_true,List.cons_append,List.nil_append,beq_dec,vmI,g1,b_quo h20,e1]
  rw[if_neg (by simp)]
  exact (((hS.setC _).setC _).setC _).setC _
 ·obtain ⟨m,hm⟩ : ∃ m,max (me-q) (q-me)=m:=⟨_,rfl⟩
  have e2:(3*sp+m).tdiv 4=(3*sp+m) / 4:=Int.tdiv_eq_ediv_of_nonneg (by omega)
  have e3:(7*me+q).tdiv 8=(7*me+q) / 8:=Int.tdiv_eq_ediv_of_nonneg (by omega)
  rw[if_pos rfl,hm]
  simp (disch:=omega) only [vm0,vm1,vm2,vm3,vm4,vm5,vm6,vm7,vmF,vmT,evo,wr,wrC,frame,Nat.reduceAdd,Nat.reduceMul,Nat.reduceSub,beq_self_eq_true,List.cons_append,List.nil_append,beq_dec,vmI,g1,b_quo h40,b_quo h80,e2,e3,hm]
  exact ((hS.setC _).setC _).setC _
theorem g_late (n:Nat) {s0:St} (s:St) (p:Nat) (g:GS) (Ps:List Obj) (hS:Sep s0 s (oC p g.cs::Ps)) (hg:g.Ok):OutOk (callF bd (tab h).get fu (n+1) 87 [.ptr p 0] s) (fun x s'=>Sep s0 s' (oC p g.late.cs::Ps)):=by
 refine call_code (t87 h) rfl ?_
 obtain ⟨fi,me,sp,la,kn⟩:=g
 obtain ⟨h1,h2,h3,h4⟩:=hg
 dsimp only[GS.cs,GS.late] at *
 have g1:=hS.getC
 simp (disch:=omega) only [vm0,vm1,vm2,vm3,vm4,vm5,vm6,vm7,vmF,vmT,evo,wr,wrC,frame,Nat.reduceAdd,Nat.reduceMul,Nat.reduceSub,beq_self_eq_true,List.cons_append,List.nil_append,beq_dec,vmI,vc87,g1]
 exact hS.setC _
theorem g_wait (n:Nat) {s0:St} (s:St) (p:Nat) (g:GS) (Ps:List Obj) (hS:Sep s0 s (oC p g.cs::Ps)) (hg:g.Ok):OutOk (callF bd (tab h).get fu (n+2) 86 [.ptr p 0] s) (fun x s'=>Is x (num g.wait)∧Is s' s):=by
 refine call_code (t86 h) rfl ?_
 have hw0:=hg.wait0
 have hw:=hg.wait
 obtain ⟨h1,h2,h3,h4⟩:=hg
 have hsh:∀ x:Int,1≤x→x≤64→binop bd .shl (.int .i64 (.c x)) (.int .i64 (.c g.la))=some (.int .i64 (.c (x*2^g.la.toNat))):=fun x a b=>by
  rw[b_shl h4.1,show min g.la.toNat IntKind.i64.bits=g.la.toNat by rw[show IntKind.i64.bits=64 from rfl]; omega]
  have hp:x*2^g.la.toNat≤4096∧0≤x*2^g.la.toNat:=by
   obtain e | e | e | e | e | e | e:g.la.toNat=0∨g.la.toNat=1∨g.la.toNat=2∨g.la.toNat=3∨g.la.toNat=4∨g.la.toNat=5∨g.la.toNat=6:=by omega
   all_goals rw[e]; simp only[Int.reducePow]; omega
  rw[wr64 (by omega) (by omega)]
 unfold GS.wait GS.wait0 at *
 obtain ⟨fi,me,sp,la,kn⟩:=g
 dsimp only[GS.cs] at *
 have g1:=hS.getC
 cases kn
 ·rw[if_neg (by simp)] at *
  have hs1:=hsh fi hw0.1 hw0.2
  simp (disch:=omega) only [vm0,vm1,vm2,vm3,vm4,vm5,vm6,vm7,vmF,vmT,evo,wr,wrC,frame,Nat.reduceAdd,Nat.reduceMul,Nat.reduceSub,beq_self_eq_true,List.cons_append,List.nil_append,beq_dec,vmI,vc86,g1,hs1]
  exact ⟨rfl,rfl⟩
 ·rw[if_pos rfl] at *
  simp (disch:=omega) only [vm0,vm1,vm2,vm3,vm4,vm5,vm6,vm7,vmF,vmT,evo,wr,wrC,frame,Nat.reduceAdd,Nat.reduceMul,Nat.reduceSub,beq_self_eq_true,List.cons_append,List.nil_append,beq_dec,vmI,vc86,g1]
  refine call_ok rfl rfl (g_within n s _ 1 64) ?_
  rintro y s ⟨rfl,rfl⟩
  have hs1:=hsh _ hw0.1 hw0.2
  simp (disch:=omega) only [vm0,vm1,vm2,vm3,vm4,vm5,vm6,vm7,vmF,vmT,evo,wr,wrC,frame,Nat.reduceAdd,Nat.reduceMul,Nat.reduceSub,beq_self_eq_true,List.cons_append,List.nil_append,beq_dec,vmI,g1,hs1]
  exact ⟨rfl,rfl⟩
theorem c_loss (n:Nat) {s0:St} (s:St) (p:Nat) (w:WS) (Ps:List Obj) (hS:Sep s0 s (oC p w.cs::Ps)) (hw:w.Ok):OutOk (callF bd (tab h).get fu (n+1) 88 [.ptr p 0] s) (fun x s'=>Sep s0 s' (oC p w.loss.cs::Ps)):=by
 refine call_code (t88 h) rfl ?_
 obtain ⟨mo,si,tu,co⟩:=w
 obtain ⟨h1,h2,h3,h4,h5⟩:=hw
 dsimp only[WS.cs,WS.loss] at *
 have g1:=hS.getC
 have h20:(2:Int)≠0:=by decide
 have e1:si.tdiv 2=si / 2:=Int.tdiv_eq_ediv_of_nonneg (by omega)
 simp (disch:=omega) only [vm0,vm1,vm2,vm3,vm4,vm5,vm6,vm7,vmF,vmT,evo,wr,wrC,frame,Nat.reduceAdd,Nat.reduceMul,Nat.reduceSub,beq_self_eq_true,List.cons_append,List.nil_append,beq_dec,vmI,vc88,g1,b_quo h20,e1]
 exact ((hS.setC _).setC _).setC _
theorem c_grow (n:Nat) {s0:St} (s:St) (p:Nat) (w:WS) (Ps:List Obj) (hS:Sep s0 s (oC p w.cs::Ps)) (hw:0≤w.si∧w.si≤100∧0≤w.mo∧w.mo≤100):OutOk (callF bd (tab h).get fu (n+1) 139 [.ptr p 0] s) (fun x s'=>Sep s0 s' (oC p (WS.cs { w with si:=min (w.si+1) w.mo,co:=0 })::Ps)):=by
 refine call_code (t139 h) rfl ?_
 obtain ⟨mo,si,tu,co⟩:=w
 dsimp only[WS.cs] at *
 have g1:=hS.getC
 simp (disch:=omega) only [vm0,vm1,vm2,vm3,vm4,vm5,vm6,vm7,vmF,vmT,evo,wr,wrC,frame,Nat.reduceAdd,Nat.reduceMul,Nat.reduceSub,beq_self_eq_true,List.cons_append,List.nil_append,beq_dec,vmI,vc139,g1]
 exact (hS.setC _).setC _
theorem c_ack (n:Nat) {s0:St} (s:St) (p:Nat) (w:WS) (Ps:List Obj) (hS:Sep s0 s (oC p w.cs::Ps)) (hw:w.Ok):OutOk (callF bd (tab h).get fu (n+2) 103 [.ptr p 0] s) (fun x s'=>Sep s0 s' (oC p w.ack.cs::Ps)):=by
 refine call_code (t103 h) rfl ?_
 obtain ⟨mo,si,tu,co⟩:=w
 obtain ⟨h1,h2,h3,h4,h5⟩:=hw
 dsimp only at h1 h2 h3 h4 h5
 have g1:=hS.getC
 simp only[WS.cs] at g1
 unfold WS.ack
 dsimp only
 by_cases c1:si<tu
 ·rw[if_pos c1]
  simp (disch:=omega) only [vm0,vm1,vm2,vm3,vm4,vm5,vm6,vm7,vmF,vmT,evo,wr,wrC,frame,Nat.reduceAdd,Nat.reduceMul,Nat.reduceSub,beq_self_eq_true,List.cons_append,List.nil_append,beq_dec,vmI,vc103,g1]
  refine call_ok rfl rfl (c_grow n s p ⟨mo,si,tu,co⟩ Ps hS ⟨by dsimp only; omega,by dsimp only; omega,by dsimp only; omega,by dsimp only; omega⟩) ?_
  rintro y s1 hS1
  simp (disch:=omega) only [vm0,vm1,vm2,vm3,vm4,vm5,vm6,vm7,vmF,vmT,evo,wr,wrC,frame,Nat.reduceAdd,Nat.reduceMul,Nat.reduceSub,beq_self_eq_true,List.cons_append,List.nil_append,beq_dec,vmI]
  exact hS1
 ·rw[if_neg c1]
  by_cases c2:si≤co+1
  ·rw[if_pos c2]
   simp (disch:=omega) only [vm0,vm1,vm2,vm3,vm4,vm5,vm6,vm7,vmF,vmT,evo,wr,wrC,frame,Nat.reduceAdd,Nat.reduceMul,Nat.reduceSub,beq_self_eq_true,List.cons_append,List.nil_append,beq_dec,vmI,vc103,g1]
   refine call_ok rfl rfl (c_grow n _ p ⟨mo,si,tu,co+1⟩ Ps (hS.setC _) ⟨by dsimp only; omega,by dsimp only; omega,by dsimp only; omega,by dsimp only; omega⟩) ?_
   rintro y s1 hS1
   simp (disch:=omega) only [vm0,vm1,vm2,vm3,vm4,vm5,vm6,vm7,vmF,vmT,evo,wr,wrC,frame,Nat.reduceAdd,Nat.reduceMul,Nat.reduceSub,beq_self_eq_true,List.cons_append,List.nil_append,beq_dec,vmI]
   exact hS1
  ·rw[if_neg c2]
   simp (disch:=omega) only [vm0,vm1,vm2,vm3,vm4,vm5,vm6,vm7,vmF,vmT,evo,wr,wrC,frame,Nat.reduceAdd,Nat.reduceMul,Nat.reduceSub,beq_self_eq_true,List.cons_append,List.nil_append,beq_dec,vmI,vc103,g1]
   exact hS.setC _
end
end Go.Proofs.YtlgbkpaihjnjpaaGreat.ctr
